import PyProof.Rows.All
import Wide.All
import OpenK.AllK
import Wide.FinOn
import HandS.Words
import PySem.Challenge.RW_countcycles_k10_exceptions_are_of_one_cl
import HandS.HeadHook1
import HandS.HeadHook2
import HandS.HeadHook4
import HandS.Head2
import KE.KSuper
import KE.KStateDown
import HandS.ForMost
import HandS.Evl
import HandS.Deep
import HandS.Strs
import HandS.SetFor
import HandS.Star
import HandS.ClsMeth
import HandS.Property
import HandS.Style
import HandS.FStr
import HandS.IsInst
import HandS.Codes
import HandS.Wide
import KE.DataFind
import HandS.Nested
import HandS.HotCalls
import HandS.EndTab
import HandS.ExcIs
import HandS.WordsExc
import KE.KOpsOwn
import KE.DataMinMax
import PyProof.StrBlock2
import HandS.Walk
import HandS.GenList
import HandS.RaiseMore
import HandS.Dict
import HandS.TupAny
import HandS.Defaults
import HandS.HeadWalk
set_option Elab.async false
set_option linter.all false
set_option maxRecDepth 100000
set_option maxHeartbeats 4000000
namespace CP
open PySem L2
/-! ### the text by places -/
def top (i : Nat) : Stmt := PySem.Challenge.pw_countcycles_k10_exceptions_are_of_one_cl.main.body.getD i (.Pass ⟨0, 0, 0, 0⟩)
abbrev s_wall : Stmt := top 0
abbrev s_shortest : Stmt := top 21
abbrev s_leads : Stmt := top 22
abbrev s_downs : Stmt := top 23
abbrev s_ring_of : Stmt := top 24
abbrev s_arrows : Stmt := top 25
abbrev s_follows : Stmt := top 26
abbrev s_gathered : Stmt := top 27
abbrev s_below : Stmt := top 28
abbrev s_Sizes_init : Stmt := inClass (top 29) 0
abbrev s_Sizes_give : Stmt := inClass (top 29) 1
abbrev s_Sizes_sum_below : Stmt := inClass (top 29) 2
abbrev s_values_of : Stmt := top 30
abbrev s_model_rows : Stmt := top 31
abbrev s_holds : Stmt := top 32
abbrev s_all_rules : Stmt := top 33
abbrev s_is_integer : Stmt := top 36
abbrev s_is_between : Stmt := top 37
abbrev s_need_width : Stmt := top 38
abbrev s_is_column : Stmt := top 39
abbrev s_is_rule : Stmt := top 40
abbrev s_need_rule : Stmt := top 41
abbrev s_are_rules : Stmt := top 42
abbrev s_column_of : Stmt := top 43
abbrev s_rule_of : Stmt := top 44
abbrev s_Rules_init : Stmt := inClass (top 45) 0
abbrev s_Rules_read : Stmt := inClass (top 45) 1
abbrev s_Rules_text : Stmt := inClass (top 45) 2
abbrev s_Rules_width : Stmt := inClass (top 45) 3
abbrev s_Rules_rules : Stmt := inClass (top 45) 4
abbrev s_Rules_call : Stmt := inClass (top 45) 5
abbrev s_Rules_contains : Stmt := inClass (top 45) 6
abbrev s_Rules_len : Stmt := inClass (top 45) 7
abbrev s_Rules_iter : Stmt := inClass (top 45) 8
abbrev s_Rules_add : Stmt := inClass (top 45) 9
abbrev s_Rules_eq : Stmt := inClass (top 45) 10
abbrev s_Rules_repr : Stmt := inClass (top 45) 11
abbrev s_need_rules : Stmt := top 46
abbrev s_is_row : Stmt := top 52
abbrev s_are_rows : Stmt := top 53
abbrev s_number_of : Stmt := top 54
abbrev s_paired : Stmt := top 55
abbrev s_Table_init : Stmt := inClass (top 56) 0
abbrev s_Table_read : Stmt := inClass (top 56) 1
abbrev s_Table_text : Stmt := inClass (top 56) 2
abbrev s_Table_width : Stmt := inClass (top 56) 3
abbrev s_Table_rows : Stmt := inClass (top 56) 4
abbrev s_Table_counts : Stmt := inClass (top 56) 5
abbrev s_Table_obeyed : Stmt := inClass (top 56) 6
abbrev s_Table_call : Stmt := inClass (top 56) 7
abbrev s_Table_len : Stmt := inClass (top 56) 8
abbrev s_Table_iter : Stmt := inClass (top 56) 9
abbrev s_Table_add : Stmt := inClass (top 56) 10
abbrev s_Table_mul : Stmt := inClass (top 56) 11
abbrev s_Table_eq : Stmt := inClass (top 56) 12
abbrev s_Table_repr : Stmt := inClass (top 56) 13
abbrev s_table_of : Stmt := top 57
abbrev s_need_table : Stmt := top 58
abbrev s_need_like : Stmt := top 59
abbrev s_walk : Stmt := top 63
abbrev s_groups : Stmt := top 64
abbrev s_following : Stmt := top 65
abbrev s_part_of : Stmt := top 66
abbrev s_verdict : Stmt := top 67
abbrev s_is_walk : Stmt := top 68
abbrev s_is_part : Stmt := top 69
abbrev s_is_chain : Stmt := top 70
abbrev s_shows_verdict : Stmt := top 71
abbrev s_is_telling : Stmt := top 72
abbrev s_model : Stmt := top 73
abbrev s_least : Stmt := top 74
abbrev s_Log_init : Stmt := inClass (top 76) 1
abbrev s_Log_rules : Stmt := inClass (top 76) 2
abbrev s_Log_table : Stmt := inClass (top 76) 3
abbrev s_Log_table2 : Stmt := inClass (top 76) 4
abbrev s_Log_assign_table : Stmt := inClass (top 76) 5
abbrev s_Log_broken : Stmt := inClass (top 76) 6
abbrev s_Log_changes : Stmt := inClass (top 76) 7
abbrev s_Log_need_fit : Stmt := inClass (top 76) 8
abbrev s_Log_become : Stmt := inClass (top 76) 9
abbrev s_Log_add : Stmt := inClass (top 76) 10
abbrev s_Log_call : Stmt := inClass (top 76) 11
abbrev s_Log_drop : Stmt := inClass (top 76) 12
abbrev s_Log_undo : Stmt := inClass (top 76) 13
abbrev s_Log_trying : Stmt := inClass (top 76) 14
abbrev s_Log_len : Stmt := inClass (top 76) 15
abbrev s_Log_repr : Stmt := inClass (top 76) 16
abbrev s_Strict_need_fit : Stmt := inClass (top 77) 1
abbrev s_Short_init : Stmt := inClass (top 78) 1
abbrev s_Short_most : Stmt := inClass (top 78) 2
abbrev s_Short_need_fit : Stmt := inClass (top 78) 3
abbrev s_law_cell : Stmt := top 81
abbrev s_law_source : Stmt := top 82
abbrev s_law_draw : Stmt := top 83
abbrev s_law_choose : Stmt := top 84
abbrev s_law_is_equal : Stmt := top 85
abbrev s_law_marks : Stmt := top 86
abbrev s_law_raised : Stmt := top 87
abbrev s_law_of_logs : Stmt := top 88
abbrev s_law_calls : Stmt := top 89
abbrev s_law : Stmt := top 90
end CP
set_option Elab.async false
set_option linter.all false
set_option maxRecDepth 100000
set_option maxHeartbeats 4000000
namespace HX
open PySem PySem.Spec PySem.W PySem.Calls PyProof.Rows L2 CP
/-! ### what is looked at -/
def recA (K : PySem.W.Frag) (p : Addr) (T : String) (i : Nat) : Addr := match PySem.W.recIn K p T with
  | some vs => (match vs[i]? with
    | some (.ref a) => a
    | _ => 0)
  | none => 0
def tokS (K : PySem.W.Frag) (x : Str) : Tok := match PySem.W.nsIn K mainGlobals x with
  | some (some (.str _ t)) => t
  | some (some (.int _ t)) => t
  | _ => default
def cmB (r : Option PySem.W.CFound) (p C : Addr) : Bool := match r with
  | some (.get (.builtin g) (.ref p') .none (.ref C')) => decide (g = "classmethod.__get__") && (decide (p' = p) && decide (C' = C))
  | _ => false
def recB (K : PySem.W.Frag) (p : Addr) (T : String) (g : Addr) : Bool := match PySem.W.recIn K p T with
  | some (.ref a :: _) => decide (a = g)
  | _ => false
def recB2 (K : PySem.W.Frag) (p : Addr) (T : String) (g : Addr) : Bool := match PySem.W.recIn K p T with
  | some (_ :: .ref a :: _) => decide (a = g)
  | _ => false
/-! ### functions -/
structure DK where
  at_ : PySem.W.Frag → Addr
  name : Str
  qual : Str
  st : Stmt
  clo : List Str
abbrev FnV : Type := Option (Str × Str × Arguments × FuncBody × Scope × Addr × List Str × Addr)
def fnV (K : PySem.W.Frag) (d : DK) : FnV := match K.lookup (d.at_ K) with
  | some ⟨_, _, .func fd, _⟩ => some (fd.name, fd.qualname, fd.params, fd.body, fd.scope, fd.globals, fd.closure.map (·.1), fd.builtins)
  | _ => none
def DK.val (d : DK) : FnV := some (d.name, d.qual, defArgs d.st, .stmts (defBody d.st), defScope d.st, mainGlobals, d.clo, builtinsNs)
def isNon : Value → Bool
  | .none => true
  | _ => false
def plainB (K : PySem.W.Frag) (f : Addr) (q : Str) : Bool := PySem.W.keepIn K (.ref f) && (match K.lookup f with
  | some ⟨_, _, .func fd, _⟩ => PySem.W.codeIn K fd.code q && isNon fd.defaults
  | _ => false)
/-! ### methods that say super() -/
def fileOf : Str := (PySem.Challenge.rw_countcycles_k10_exceptions_are_of_one_cl).prog.main.file
def cdFile (K : PySem.W.Frag) (cda : Addr) (file : Str) : Bool := match K.lookup cda with
  | some ⟨_, _, .fields vs, _⟩ => (match (vs[2]? : Option Value) with
    | some (.str fl _) => file == fl
    | _ => false)
  | _ => false
def cellB (K : PySem.W.Frag) (cl : List (Str × Addr)) (D : Addr) : Bool := match cl with
  | [(_, cc)] => (match K.lookup cc with
    | some ⟨_, _, .cell (some (.ref D')), _⟩ => decide (D' = D)
    | _ => false)
  | _ => false
def codR : Value → Addr
  | .ref a => a
  | _ => 0
def supB (K : PySem.W.Frag) (f D : Addr) (q file : Str) : Bool := PySem.W.keepIn K (.ref f) && (match K.lookup f with
  | some ⟨_, _, .func fd, _⟩ => PySem.W.codeIn K fd.code q && (cdFile K (codR fd.code) file && cellB K fd.closure D)
  | _ => false)
def noDfl (K : PySem.W.Frag) (f : Addr) : Bool := match K.lookup f with
  | some ⟨_, _, .func fd, _⟩ => isNon fd.defaults
  | _ => false
def oneD (K : PySem.W.Frag) : Value → Bool
  | .ref T => (match K.lookup T with
    | some ⟨_, _, .seq its _, _⟩ => decide (its.size = 1)
    | _ => false)
  | _ => false
def oneDfl (K : PySem.W.Frag) (f : Addr) : Bool := match K.lookup f with
  | some ⟨_, _, .func fd, _⟩ => oneD K fd.defaults
  | _ => false
/-! ### addresses -/

def aR (K : PySem.W.Frag) : Addr := He.ga K "Rules"
def aT (K : PySem.W.Frag) : Addr := He.ga K "Table"
def aL (K : PySem.W.Frag) : Addr := He.ga K "Log"
def aS (K : PySem.W.Frag) : Addr := He.ga K "Strict"
def aH (K : PySem.W.Frag) : Addr := He.ga K "Short"
def aB (K : PySem.W.Frag) : Addr := He.ga K "StrictShort"
def aE (K : PySem.W.Frag) : Addr := He.ga K "ColumnError"
def e0 (K : PySem.W.Frag) : Addr := He.ga K "NoWidth"
def e1 (K : PySem.W.Frag) : Addr := He.ga K "NoRows"
def e2 (K : PySem.W.Frag) : Addr := He.ga K "NoRow"
def e3 (K : PySem.W.Frag) : Addr := He.ga K "NoRules"
def e4 (K : PySem.W.Frag) : Addr := He.ga K "NoRule"
def e5 (K : PySem.W.Frag) : Addr := He.ga K "NoColumn"
def e6 (K : PySem.W.Frag) : Addr := He.ga K "NoNumber"
def e7 (K : PySem.W.Frag) : Addr := He.ga K "NoText"
def e8 (K : PySem.W.Frag) : Addr := He.ga K "NotTable"
def e9 (K : PySem.W.Frag) : Addr := He.ga K "NotRules"
def e10 (K : PySem.W.Frag) : Addr := He.ga K "UnlikeWidths"
def e11 (K : PySem.W.Frag) : Addr := He.ga K "TooMuch"
def e12 (K : PySem.W.Frag) : Addr := He.ga K "NotThere"
def e13 (K : PySem.W.Frag) : Addr := He.ga K "Broken"
def e14 (K : PySem.W.Frag) : Addr := He.ga K "NothingDone"
def pr_Rules (K : PySem.W.Frag) : Addr := He.ma K (aR K) "read"
def pr_Table (K : PySem.W.Frag) : Addr := He.ma K (aT K) "read"
def pp_Rules_width (K : PySem.W.Frag) : Addr := He.ma K (aR K) "width"
def pp_Rules_rules (K : PySem.W.Frag) : Addr := He.ma K (aR K) "rules"
def pp_Table_width (K : PySem.W.Frag) : Addr := He.ma K (aT K) "width"
def pp_Table_rows (K : PySem.W.Frag) : Addr := He.ma K (aT K) "rows"
def ps_Log (K : PySem.W.Frag) : Addr := He.ma K (aL K) "table"
def ps_Strict (K : PySem.W.Frag) : Addr := He.ma K (aS K) "table"
def f_Rules_init (K : PySem.W.Frag) : Addr := He.ma K (aR K) "__init__"
def f_Rules_read (K : PySem.W.Frag) : Addr := recA K (pr_Rules K) "classmethod" 0
def f_Rules_call (K : PySem.W.Frag) : Addr := He.ma K (aR K) "__call__"
def f_Rules_add (K : PySem.W.Frag) : Addr := He.ma K (aR K) "__add__"
def f_Rules_width (K : PySem.W.Frag) : Addr := recA K (pp_Rules_width K) "property" 0
def f_Rules_rules (K : PySem.W.Frag) : Addr := recA K (pp_Rules_rules K) "property" 0
def f_Table_init (K : PySem.W.Frag) : Addr := He.ma K (aT K) "__init__"
def f_Table_read (K : PySem.W.Frag) : Addr := recA K (pr_Table K) "classmethod" 0
def f_Table_text (K : PySem.W.Frag) : Addr := He.ma K (aT K) "text"
def f_Table_call (K : PySem.W.Frag) : Addr := He.ma K (aT K) "__call__"
def f_Table_add (K : PySem.W.Frag) : Addr := He.ma K (aT K) "__add__"
def f_Table_mul (K : PySem.W.Frag) : Addr := He.ma K (aT K) "__mul__"
def f_Table_width (K : PySem.W.Frag) : Addr := recA K (pp_Table_width K) "property" 0
def f_Table_rows (K : PySem.W.Frag) : Addr := recA K (pp_Table_rows K) "property" 0
def f_Log_init (K : PySem.W.Frag) : Addr := He.ma K (aL K) "__init__"
def f_Log_need_fit (K : PySem.W.Frag) : Addr := He.ma K (aL K) "need_fit"
def f_Log_add (K : PySem.W.Frag) : Addr := He.ma K (aL K) "add"
def f_Log_call (K : PySem.W.Frag) : Addr := He.ma K (aL K) "__call__"
def f_Log_drop (K : PySem.W.Frag) : Addr := He.ma K (aL K) "drop"
def f_Log_assign_table (K : PySem.W.Frag) : Addr := He.ma K (aL K) "assign_table"
def f_Log_table2 (K : PySem.W.Frag) : Addr := recA K (ps_Log K) "property" 1
def f_Log_become (K : PySem.W.Frag) : Addr := He.ma K (aL K) "become"
def f_Log_undo (K : PySem.W.Frag) : Addr := He.ma K (aL K) "undo"
def f_Strict_need_fit (K : PySem.W.Frag) : Addr := He.ma K (aS K) "need_fit"
def f_Short_init (K : PySem.W.Frag) : Addr := He.ma K (aH K) "__init__"
def f_Short_need_fit (K : PySem.W.Frag) : Addr := He.ma K (aH K) "need_fit"
def f_is_integer (K : PySem.W.Frag) : Addr := He.ga K "is_integer"
def f_is_between (K : PySem.W.Frag) : Addr := He.ga K "is_between"
def f_need_width (K : PySem.W.Frag) : Addr := He.ga K "need_width"
def f_is_column (K : PySem.W.Frag) : Addr := He.ga K "is_column"
def f_is_rule (K : PySem.W.Frag) : Addr := He.ga K "is_rule"
def f_need_rule (K : PySem.W.Frag) : Addr := He.ga K "need_rule"
def f_are_rules (K : PySem.W.Frag) : Addr := He.ga K "are_rules"
def f_need_rules (K : PySem.W.Frag) : Addr := He.ga K "need_rules"
def f_need_table (K : PySem.W.Frag) : Addr := He.ga K "need_table"
def f_need_like (K : PySem.W.Frag) : Addr := He.ga K "need_like"
def f_table_of (K : PySem.W.Frag) : Addr := He.ga K "table_of"
def f_is_row (K : PySem.W.Frag) : Addr := He.ga K "is_row"
def f_are_rows (K : PySem.W.Frag) : Addr := He.ga K "are_rows"
def f_number_of (K : PySem.W.Frag) : Addr := He.ga K "number_of"
def f_verdict (K : PySem.W.Frag) : Addr := He.ga K "verdict"
def f_shows_verdict (K : PySem.W.Frag) : Addr := He.ga K "shows_verdict"
def f_walk (K : PySem.W.Frag) : Addr := He.ga K "walk"
def f_groups (K : PySem.W.Frag) : Addr := He.ga K "groups"
def f_model (K : PySem.W.Frag) : Addr := He.ga K "model"
def f_least (K : PySem.W.Frag) : Addr := He.ga K "least"
def f_following (K : PySem.W.Frag) : Addr := He.ga K "following"
def f_holds (K : PySem.W.Frag) : Addr := He.ga K "holds"
def f_law_cell (K : PySem.W.Frag) : Addr := He.ga K "_law_cell"
def f_law_source (K : PySem.W.Frag) : Addr := He.ga K "_law_source"
def f_law_draw (K : PySem.W.Frag) : Addr := He.ga K "_law_draw"
def f_law_choose (K : PySem.W.Frag) : Addr := He.ga K "_law_choose"
def f_law_is_equal (K : PySem.W.Frag) : Addr := He.ga K "_law_is_equal"
def f_law_marks (K : PySem.W.Frag) : Addr := He.ga K "_law_marks"
def f_law_raised (K : PySem.W.Frag) : Addr := He.ga K "_law_raised"
def f_law (K : PySem.W.Frag) : Addr := He.ga K "law"
def f_law_calls (K : PySem.W.Frag) : Addr := He.ga K "_law_calls"
def f_law_of_logs (K : PySem.W.Frag) : Addr := He.ga K "_law_of_logs"
def c_law_calls (K : PySem.W.Frag) : Addr := He.codeOf K ("_law_calls", none)
def p_law_calls (K : PySem.W.Frag) : Addr := He.tabOf K (c_law_calls K)
def c_law_of_logs (K : PySem.W.Frag) : Addr := He.codeOf K ("_law_of_logs", none)
def p_law_of_logs (K : PySem.W.Frag) : Addr := He.tabOf K (c_law_of_logs K)
def dk0 : List DK := [⟨f_is_integer, "is_integer", "is_integer", s_is_integer, []⟩,
  ⟨f_is_between, "is_between", "is_between", s_is_between, []⟩,
  ⟨f_need_width, "need_width", "need_width", s_need_width, []⟩,
  ⟨f_is_column, "is_column", "is_column", s_is_column, []⟩,
  ⟨f_is_rule, "is_rule", "is_rule", s_is_rule, []⟩,
  ⟨f_need_rule, "need_rule", "need_rule", s_need_rule, []⟩,
  ⟨f_are_rules, "are_rules", "are_rules", s_are_rules, []⟩,
  ⟨f_need_rules, "need_rules", "need_rules", s_need_rules, []⟩,
  ⟨f_need_table, "need_table", "need_table", s_need_table, []⟩,
  ⟨f_need_like, "need_like", "need_like", s_need_like, []⟩,
  ⟨f_table_of, "table_of", "table_of", s_table_of, []⟩,
  ⟨f_is_row, "is_row", "is_row", s_is_row, []⟩,
  ⟨f_are_rows, "are_rows", "are_rows", s_are_rows, []⟩,
  ⟨f_number_of, "number_of", "number_of", s_number_of, []⟩,
  ⟨f_verdict, "verdict", "verdict", s_verdict, []⟩,
  ⟨f_shows_verdict, "shows_verdict", "shows_verdict", s_shows_verdict, []⟩,
  ⟨f_walk, "walk", "walk", s_walk, []⟩,
  ⟨f_groups, "groups", "groups", s_groups, []⟩,
  ⟨f_model, "model", "model", s_model, []⟩,
  ⟨f_least, "least", "least", s_least, []⟩]
def dk1 : List DK := [⟨f_following, "following", "following", s_following, []⟩,
  ⟨f_holds, "holds", "holds", s_holds, []⟩,
  ⟨f_law_cell, "_law_cell", "_law_cell", s_law_cell, []⟩,
  ⟨f_law_source, "_law_source", "_law_source", s_law_source, []⟩,
  ⟨f_law_draw, "_law_draw", "_law_draw", s_law_draw, []⟩,
  ⟨f_law_choose, "_law_choose", "_law_choose", s_law_choose, []⟩,
  ⟨f_law_is_equal, "_law_is_equal", "_law_is_equal", s_law_is_equal, []⟩,
  ⟨f_law_marks, "_law_marks", "_law_marks", s_law_marks, []⟩,
  ⟨f_law_raised, "_law_raised", "_law_raised", s_law_raised, []⟩,
  ⟨f_law, "law", "law", s_law, []⟩,
  ⟨f_Rules_init, "__init__", "Rules.__init__", s_Rules_init, []⟩,
  ⟨f_Rules_read, "read", "Rules.read", s_Rules_read, []⟩,
  ⟨f_Rules_call, "__call__", "Rules.__call__", s_Rules_call, []⟩,
  ⟨f_Rules_add, "__add__", "Rules.__add__", s_Rules_add, []⟩,
  ⟨f_Rules_width, "width", "Rules.width", s_Rules_width, []⟩,
  ⟨f_Rules_rules, "rules", "Rules.rules", s_Rules_rules, []⟩,
  ⟨f_Table_init, "__init__", "Table.__init__", s_Table_init, []⟩,
  ⟨f_Table_read, "read", "Table.read", s_Table_read, []⟩,
  ⟨f_Table_text, "text", "Table.text", s_Table_text, []⟩,
  ⟨f_Table_call, "__call__", "Table.__call__", s_Table_call, []⟩]
def dk2 : List DK := [⟨f_Table_add, "__add__", "Table.__add__", s_Table_add, []⟩,
  ⟨f_Table_mul, "__mul__", "Table.__mul__", s_Table_mul, []⟩,
  ⟨f_Table_width, "width", "Table.width", s_Table_width, []⟩,
  ⟨f_Table_rows, "rows", "Table.rows", s_Table_rows, []⟩,
  ⟨f_Log_init, "__init__", "Log.__init__", s_Log_init, []⟩,
  ⟨f_Log_need_fit, "need_fit", "Log.need_fit", s_Log_need_fit, []⟩,
  ⟨f_Log_add, "add", "Log.add", s_Log_add, []⟩,
  ⟨f_Log_call, "__call__", "Log.__call__", s_Log_call, []⟩,
  ⟨f_Log_drop, "drop", "Log.drop", s_Log_drop, []⟩,
  ⟨f_Log_assign_table, "assign_table", "Log.assign_table", s_Log_assign_table, []⟩,
  ⟨f_Log_table2, "table", "Log.table", s_Log_table2, []⟩,
  ⟨f_Log_become, "become", "Log.become", s_Log_become, []⟩,
  ⟨f_Log_undo, "undo", "Log.undo", s_Log_undo, []⟩,
  ⟨f_Strict_need_fit, "need_fit", "Strict.need_fit", s_Strict_need_fit, ["__class__"]⟩,
  ⟨f_Short_init, "__init__", "Short.__init__", s_Short_init, ["__class__"]⟩,
  ⟨f_Short_need_fit, "need_fit", "Short.need_fit", s_Short_need_fit, ["__class__"]⟩,
  ⟨f_law_calls, "_law_calls", "_law_calls", s_law_calls, []⟩,
  ⟨f_law_of_logs, "_law_of_logs", "_law_of_logs", s_law_of_logs, []⟩]
def dks : List DK := dk0 ++ dk1 ++ dk2
def Fg0 (K : PySem.W.Frag) : Prop := (PySem.W.nsIn K mainGlobals "is_integer" = some (some (.ref (f_is_integer K))))
  ∧ (plainB K (f_is_integer K) "is_integer" = true)
  ∧ (PySem.W.nsIn K mainGlobals "is_between" = some (some (.ref (f_is_between K))))
  ∧ (plainB K (f_is_between K) "is_between" = true)
  ∧ (PySem.W.nsIn K mainGlobals "need_width" = some (some (.ref (f_need_width K))))
  ∧ (plainB K (f_need_width K) "need_width" = true)
  ∧ (PySem.W.nsIn K mainGlobals "is_column" = some (some (.ref (f_is_column K))))
  ∧ (plainB K (f_is_column K) "is_column" = true)
  ∧ (PySem.W.nsIn K mainGlobals "is_rule" = some (some (.ref (f_is_rule K))))
  ∧ (plainB K (f_is_rule K) "is_rule" = true)
  ∧ (PySem.W.nsIn K mainGlobals "need_rule" = some (some (.ref (f_need_rule K))))
  ∧ (plainB K (f_need_rule K) "need_rule" = true)
  ∧ (PySem.W.nsIn K mainGlobals "are_rules" = some (some (.ref (f_are_rules K))))
  ∧ (plainB K (f_are_rules K) "are_rules" = true)
  ∧ (PySem.W.nsIn K mainGlobals "need_rules" = some (some (.ref (f_need_rules K))))
  ∧ (plainB K (f_need_rules K) "need_rules" = true)
  ∧ (PySem.W.nsIn K mainGlobals "need_table" = some (some (.ref (f_need_table K))))
  ∧ (plainB K (f_need_table K) "need_table" = true)
  ∧ (PySem.W.nsIn K mainGlobals "need_like" = some (some (.ref (f_need_like K))))
  ∧ (plainB K (f_need_like K) "need_like" = true)
instance (K : PySem.W.Frag) : Decidable (Fg0 K) := by unfold Fg0; infer_instance
def Fg1 (K : PySem.W.Frag) : Prop := (PySem.W.nsIn K mainGlobals "table_of" = some (some (.ref (f_table_of K))))
  ∧ (plainB K (f_table_of K) "table_of" = true)
  ∧ (PySem.W.nsIn K mainGlobals "is_row" = some (some (.ref (f_is_row K))))
  ∧ (plainB K (f_is_row K) "is_row" = true)
  ∧ (PySem.W.nsIn K mainGlobals "are_rows" = some (some (.ref (f_are_rows K))))
  ∧ (plainB K (f_are_rows K) "are_rows" = true)
  ∧ (PySem.W.nsIn K mainGlobals "number_of" = some (some (.ref (f_number_of K))))
  ∧ (plainB K (f_number_of K) "number_of" = true)
  ∧ (PySem.W.nsIn K mainGlobals "verdict" = some (some (.ref (f_verdict K))))
  ∧ (plainB K (f_verdict K) "verdict" = true)
  ∧ (PySem.W.nsIn K mainGlobals "shows_verdict" = some (some (.ref (f_shows_verdict K))))
  ∧ (plainB K (f_shows_verdict K) "shows_verdict" = true)
  ∧ (PySem.W.nsIn K mainGlobals "walk" = some (some (.ref (f_walk K))))
  ∧ (plainB K (f_walk K) "walk" = true)
  ∧ (PySem.W.nsIn K mainGlobals "groups" = some (some (.ref (f_groups K))))
  ∧ (plainB K (f_groups K) "groups" = true)
  ∧ (PySem.W.nsIn K mainGlobals "model" = some (some (.ref (f_model K))))
  ∧ (plainB K (f_model K) "model" = true)
  ∧ (PySem.W.nsIn K mainGlobals "least" = some (some (.ref (f_least K))))
  ∧ (plainB K (f_least K) "least" = true)
instance (K : PySem.W.Frag) : Decidable (Fg1 K) := by unfold Fg1; infer_instance
def Fg2 (K : PySem.W.Frag) : Prop := (PySem.W.nsIn K mainGlobals "following" = some (some (.ref (f_following K))))
  ∧ (plainB K (f_following K) "following" = true)
  ∧ (PySem.W.nsIn K mainGlobals "holds" = some (some (.ref (f_holds K))))
  ∧ (plainB K (f_holds K) "holds" = true)
  ∧ (PySem.W.nsIn K mainGlobals "_law_cell" = some (some (.ref (f_law_cell K))))
  ∧ (plainB K (f_law_cell K) "_law_cell" = true)
  ∧ (PySem.W.nsIn K mainGlobals "_law_source" = some (some (.ref (f_law_source K))))
  ∧ (plainB K (f_law_source K) "_law_source" = true)
  ∧ (PySem.W.nsIn K mainGlobals "_law_draw" = some (some (.ref (f_law_draw K))))
  ∧ (plainB K (f_law_draw K) "_law_draw" = true)
  ∧ (PySem.W.nsIn K mainGlobals "_law_choose" = some (some (.ref (f_law_choose K))))
  ∧ (plainB K (f_law_choose K) "_law_choose" = true)
  ∧ (PySem.W.nsIn K mainGlobals "_law_is_equal" = some (some (.ref (f_law_is_equal K))))
  ∧ (plainB K (f_law_is_equal K) "_law_is_equal" = true)
  ∧ (PySem.W.nsIn K mainGlobals "_law_marks" = some (some (.ref (f_law_marks K))))
  ∧ (plainB K (f_law_marks K) "_law_marks" = true)
  ∧ (PySem.W.nsIn K mainGlobals "_law_raised" = some (some (.ref (f_law_raised K))))
  ∧ (plainB K (f_law_raised K) "_law_raised" = true)
  ∧ (PySem.W.nsIn K mainGlobals "law" = some (some (.ref (f_law K))))
  ∧ (plainB K (f_law K) "law" = true)
instance (K : PySem.W.Frag) : Decidable (Fg2 K) := by unfold Fg2; infer_instance
def Fg3 (K : PySem.W.Frag) : Prop := (plainB K (f_Rules_init K) "Rules.__init__" = true)
  ∧ (plainB K (f_Rules_read K) "Rules.read" = true)
  ∧ (plainB K (f_Rules_call K) "Rules.__call__" = true)
  ∧ (plainB K (f_Rules_add K) "Rules.__add__" = true)
  ∧ (plainB K (f_Rules_width K) "Rules.width" = true)
  ∧ (plainB K (f_Rules_rules K) "Rules.rules" = true)
  ∧ (plainB K (f_Table_init K) "Table.__init__" = true)
  ∧ (plainB K (f_Table_read K) "Table.read" = true)
  ∧ (plainB K (f_Table_text K) "Table.text" = true)
  ∧ (plainB K (f_Table_call K) "Table.__call__" = true)
  ∧ (plainB K (f_Table_add K) "Table.__add__" = true)
  ∧ (plainB K (f_Table_mul K) "Table.__mul__" = true)
  ∧ (plainB K (f_Table_width K) "Table.width" = true)
  ∧ (plainB K (f_Table_rows K) "Table.rows" = true)
  ∧ (plainB K (f_Log_init K) "Log.__init__" = true)
  ∧ (plainB K (f_Log_need_fit K) "Log.need_fit" = true)
  ∧ (plainB K (f_Log_add K) "Log.add" = true)
  ∧ (plainB K (f_Log_call K) "Log.__call__" = true)
  ∧ (plainB K (f_Log_drop K) "Log.drop" = true)
  ∧ (plainB K (f_Log_assign_table K) "Log.assign_table" = true)
instance (K : PySem.W.Frag) : Decidable (Fg3 K) := by unfold Fg3; infer_instance
def Fg4 (K : PySem.W.Frag) : Prop := (plainB K (f_Log_table2 K) "Log.table" = true)
  ∧ (plainB K (f_Log_become K) "Log.become" = true)
  ∧ (plainB K (f_Log_undo K) "Log.undo" = true)
  ∧ (supB K (f_Strict_need_fit K) (aS K) "Strict.need_fit" fileOf = true)
  ∧ (noDfl K (f_Strict_need_fit K) = true)
  ∧ (supB K (f_Short_init K) (aH K) "Short.__init__" fileOf = true)
  ∧ (oneDfl K (f_Short_init K) = true)
  ∧ (supB K (f_Short_need_fit K) (aH K) "Short.need_fit" fileOf = true)
  ∧ (noDfl K (f_Short_need_fit K) = true)
  ∧ (PySem.W.nsIn K mainGlobals "_law_calls" = some (some (.ref (f_law_calls K))))
  ∧ (plainB K (f_law_calls K) "_law_calls" = true)
  ∧ ((K.lookup (p_law_calls K)).isNone = true)
  ∧ (PySem.W.nsIn K mainGlobals "_law_of_logs" = some (some (.ref (f_law_of_logs K))))
  ∧ (plainB K (f_law_of_logs K) "_law_of_logs" = true)
  ∧ ((K.lookup (p_law_of_logs K)).isNone = true)
  ∧ (p_law_calls K ≠ p_law_of_logs K)
  ∧ (PySem.W.nsIn K mainGlobals "SETTLES" = some (some (.str "settles" (tokS K "SETTLES"))))
  ∧ (PySem.W.nsIn K mainGlobals "WITHIN" = some (some (.str "within" (tokS K "WITHIN"))))
  ∧ (PySem.W.nsIn K mainGlobals "MOST_WIDTH" = some (some (.int 6 (tokS K "MOST_WIDTH"))))
  ∧ (PySem.W.nsIn K mainGlobals "MOST_ROWS" = some (some (.int 400 (tokS K "MOST_ROWS"))))
instance (K : PySem.W.Frag) : Decidable (Fg4 K) := by unfold Fg4; infer_instance
def Fg5 (K : PySem.W.Frag) : Prop := (PySem.W.nsIn K mainGlobals "MOST_VALUE" = some (some (.int 9999 (tokS K "MOST_VALUE"))))
  ∧ (PySem.W.nsIn K mainGlobals "SMALL" = some (some (.int 99 (tokS K "SMALL"))))
  ∧ (PySem.W.nsIn K mainGlobals "DIGITS" = some (some (.str "0123456789" (tokS K "DIGITS"))))
  ∧ (PySem.W.nsIn K mainGlobals "Rules" = some (some (.ref (aR K))))
  ∧ (PySem.W.nsIn K mainGlobals "Table" = some (some (.ref (aT K))))
  ∧ (PySem.W.nsIn K mainGlobals "Log" = some (some (.ref (aL K))))
  ∧ (PySem.W.nsIn K mainGlobals "Strict" = some (some (.ref (aS K))))
  ∧ (PySem.W.nsIn K mainGlobals "Short" = some (some (.ref (aH K))))
  ∧ (PySem.W.nsIn K mainGlobals "StrictShort" = some (some (.ref (aB K))))
  ∧ (PySem.W.nsIn K mainGlobals "ColumnError" = some (some (.ref (aE K))))
  ∧ (PySem.W.nsIn K mainGlobals "len" = some none)
  ∧ (PySem.W.nsIn K mainGlobals "range" = some none)
  ∧ (PySem.W.nsIn K mainGlobals "sorted" = some none)
  ∧ (PySem.W.nsIn K mainGlobals "set" = some none)
  ∧ (PySem.W.nsIn K mainGlobals "all" = some none)
  ∧ (PySem.W.nsIn K mainGlobals "isinstance" = some none)
  ∧ (PySem.W.nsIn K mainGlobals "int" = some none)
  ∧ (PySem.W.nsIn K mainGlobals "bool" = some none)
  ∧ (PySem.W.nsIn K mainGlobals "str" = some none)
  ∧ (PySem.W.nsIn K mainGlobals "tuple" = some none)
instance (K : PySem.W.Frag) : Decidable (Fg5 K) := by unfold Fg5; infer_instance
def Fg6 (K : PySem.W.Frag) : Prop := (PySem.W.nsIn K mainGlobals "max" = some none)
  ∧ (PySem.W.nsIn K mainGlobals "min" = some none)
  ∧ (PySem.W.nsIn K mainGlobals "repr" = some none)
  ∧ (PySem.W.nsIn K mainGlobals "list" = some none)
  ∧ (PySem.W.nsIn K mainGlobals "enumerate" = some none)
  ∧ (PySem.W.nsIn K mainGlobals "super" = some none)
  ∧ (PySem.W.nsIn K mainGlobals "ValueError" = some none)
  ∧ (PySem.W.nsIn K mainGlobals "NoWidth" = some (some (.ref (e0 K))))
  ∧ (PySem.W.excIn K (e0 K) [.type "ValueError", .type "Exception", .type "BaseException", .type "object"] "ValueError.__new__" = true)
  ∧ (PySem.W.keepIn K (.ref (e0 K)) = true)
  ∧ (PySem.W.typeIn K (.ref (e0 K)) = some (.type "type"))
  ∧ (PySem.W.findIn K (.ref (e0 K)) "__getattribute__" = some (some (.builtin "BaseException.__getattribute__")))
  ∧ (PySem.W.findIn K (.ref (e0 K)) "__getattr__" = some none)
  ∧ (PySem.W.hasDictIn K (e0 K) = true)
  ∧ (PySem.W.findIn K (.ref (e0 K)) "__class__" = some (some (.builtin "object.__class__")))
  ∧ ((PySem.W.clsIn K (e0 K)).map (·.mro) = some [.ref (e0 K), .ref (aE K), .type "ValueError", .type "Exception", .type "BaseException", .type "object"])
instance (K : PySem.W.Frag) : Decidable (Fg6 K) := by unfold Fg6; infer_instance
def Fg7 (K : PySem.W.Frag) : Prop := (PySem.W.nsIn K mainGlobals "NoRows" = some (some (.ref (e1 K))))
  ∧ (PySem.W.excIn K (e1 K) [.type "ValueError", .type "Exception", .type "BaseException", .type "object"] "ValueError.__new__" = true)
  ∧ (PySem.W.keepIn K (.ref (e1 K)) = true)
  ∧ (PySem.W.typeIn K (.ref (e1 K)) = some (.type "type"))
  ∧ (PySem.W.findIn K (.ref (e1 K)) "__getattribute__" = some (some (.builtin "BaseException.__getattribute__")))
  ∧ (PySem.W.findIn K (.ref (e1 K)) "__getattr__" = some none)
  ∧ (PySem.W.hasDictIn K (e1 K) = true)
  ∧ (PySem.W.findIn K (.ref (e1 K)) "__class__" = some (some (.builtin "object.__class__")))
  ∧ ((PySem.W.clsIn K (e1 K)).map (·.mro) = some [.ref (e1 K), .ref (aE K), .type "ValueError", .type "Exception", .type "BaseException", .type "object"])
  ∧ (PySem.W.nsIn K mainGlobals "NoRow" = some (some (.ref (e2 K))))
  ∧ (PySem.W.excIn K (e2 K) [.type "ValueError", .type "Exception", .type "BaseException", .type "object"] "ValueError.__new__" = true)
  ∧ (PySem.W.keepIn K (.ref (e2 K)) = true)
  ∧ (PySem.W.typeIn K (.ref (e2 K)) = some (.type "type"))
  ∧ (PySem.W.findIn K (.ref (e2 K)) "__getattribute__" = some (some (.builtin "BaseException.__getattribute__")))
  ∧ (PySem.W.findIn K (.ref (e2 K)) "__getattr__" = some none)
  ∧ (PySem.W.hasDictIn K (e2 K) = true)
  ∧ (PySem.W.findIn K (.ref (e2 K)) "__class__" = some (some (.builtin "object.__class__")))
  ∧ ((PySem.W.clsIn K (e2 K)).map (·.mro) = some [.ref (e2 K), .ref (aE K), .type "ValueError", .type "Exception", .type "BaseException", .type "object"])
instance (K : PySem.W.Frag) : Decidable (Fg7 K) := by unfold Fg7; infer_instance
def Fg8 (K : PySem.W.Frag) : Prop := (PySem.W.nsIn K mainGlobals "NoRules" = some (some (.ref (e3 K))))
  ∧ (PySem.W.excIn K (e3 K) [.type "ValueError", .type "Exception", .type "BaseException", .type "object"] "ValueError.__new__" = true)
  ∧ (PySem.W.keepIn K (.ref (e3 K)) = true)
  ∧ (PySem.W.typeIn K (.ref (e3 K)) = some (.type "type"))
  ∧ (PySem.W.findIn K (.ref (e3 K)) "__getattribute__" = some (some (.builtin "BaseException.__getattribute__")))
  ∧ (PySem.W.findIn K (.ref (e3 K)) "__getattr__" = some none)
  ∧ (PySem.W.hasDictIn K (e3 K) = true)
  ∧ (PySem.W.findIn K (.ref (e3 K)) "__class__" = some (some (.builtin "object.__class__")))
  ∧ ((PySem.W.clsIn K (e3 K)).map (·.mro) = some [.ref (e3 K), .ref (aE K), .type "ValueError", .type "Exception", .type "BaseException", .type "object"])
  ∧ (PySem.W.nsIn K mainGlobals "NoRule" = some (some (.ref (e4 K))))
  ∧ (PySem.W.excIn K (e4 K) [.type "ValueError", .type "Exception", .type "BaseException", .type "object"] "ValueError.__new__" = true)
  ∧ (PySem.W.keepIn K (.ref (e4 K)) = true)
  ∧ (PySem.W.typeIn K (.ref (e4 K)) = some (.type "type"))
  ∧ (PySem.W.findIn K (.ref (e4 K)) "__getattribute__" = some (some (.builtin "BaseException.__getattribute__")))
  ∧ (PySem.W.findIn K (.ref (e4 K)) "__getattr__" = some none)
  ∧ (PySem.W.hasDictIn K (e4 K) = true)
  ∧ (PySem.W.findIn K (.ref (e4 K)) "__class__" = some (some (.builtin "object.__class__")))
  ∧ ((PySem.W.clsIn K (e4 K)).map (·.mro) = some [.ref (e4 K), .ref (aE K), .type "ValueError", .type "Exception", .type "BaseException", .type "object"])
instance (K : PySem.W.Frag) : Decidable (Fg8 K) := by unfold Fg8; infer_instance
def Fg9 (K : PySem.W.Frag) : Prop := (PySem.W.nsIn K mainGlobals "NoColumn" = some (some (.ref (e5 K))))
  ∧ (PySem.W.excIn K (e5 K) [.type "ValueError", .type "Exception", .type "BaseException", .type "object"] "ValueError.__new__" = true)
  ∧ (PySem.W.keepIn K (.ref (e5 K)) = true)
  ∧ (PySem.W.typeIn K (.ref (e5 K)) = some (.type "type"))
  ∧ (PySem.W.findIn K (.ref (e5 K)) "__getattribute__" = some (some (.builtin "BaseException.__getattribute__")))
  ∧ (PySem.W.findIn K (.ref (e5 K)) "__getattr__" = some none)
  ∧ (PySem.W.hasDictIn K (e5 K) = true)
  ∧ (PySem.W.findIn K (.ref (e5 K)) "__class__" = some (some (.builtin "object.__class__")))
  ∧ ((PySem.W.clsIn K (e5 K)).map (·.mro) = some [.ref (e5 K), .ref (aE K), .type "ValueError", .type "Exception", .type "BaseException", .type "object"])
  ∧ (PySem.W.nsIn K mainGlobals "NoNumber" = some (some (.ref (e6 K))))
  ∧ (PySem.W.excIn K (e6 K) [.type "ValueError", .type "Exception", .type "BaseException", .type "object"] "ValueError.__new__" = true)
  ∧ (PySem.W.keepIn K (.ref (e6 K)) = true)
  ∧ (PySem.W.typeIn K (.ref (e6 K)) = some (.type "type"))
  ∧ (PySem.W.findIn K (.ref (e6 K)) "__getattribute__" = some (some (.builtin "BaseException.__getattribute__")))
  ∧ (PySem.W.findIn K (.ref (e6 K)) "__getattr__" = some none)
  ∧ (PySem.W.hasDictIn K (e6 K) = true)
  ∧ (PySem.W.findIn K (.ref (e6 K)) "__class__" = some (some (.builtin "object.__class__")))
  ∧ ((PySem.W.clsIn K (e6 K)).map (·.mro) = some [.ref (e6 K), .ref (aE K), .type "ValueError", .type "Exception", .type "BaseException", .type "object"])
instance (K : PySem.W.Frag) : Decidable (Fg9 K) := by unfold Fg9; infer_instance
def Fg10 (K : PySem.W.Frag) : Prop := (PySem.W.nsIn K mainGlobals "NoText" = some (some (.ref (e7 K))))
  ∧ (PySem.W.excIn K (e7 K) [.type "ValueError", .type "Exception", .type "BaseException", .type "object"] "ValueError.__new__" = true)
  ∧ (PySem.W.keepIn K (.ref (e7 K)) = true)
  ∧ (PySem.W.typeIn K (.ref (e7 K)) = some (.type "type"))
  ∧ (PySem.W.findIn K (.ref (e7 K)) "__getattribute__" = some (some (.builtin "BaseException.__getattribute__")))
  ∧ (PySem.W.findIn K (.ref (e7 K)) "__getattr__" = some none)
  ∧ (PySem.W.hasDictIn K (e7 K) = true)
  ∧ (PySem.W.findIn K (.ref (e7 K)) "__class__" = some (some (.builtin "object.__class__")))
  ∧ ((PySem.W.clsIn K (e7 K)).map (·.mro) = some [.ref (e7 K), .ref (aE K), .type "ValueError", .type "Exception", .type "BaseException", .type "object"])
  ∧ (PySem.W.nsIn K mainGlobals "NotTable" = some (some (.ref (e8 K))))
  ∧ (PySem.W.excIn K (e8 K) [.type "ValueError", .type "Exception", .type "BaseException", .type "object"] "ValueError.__new__" = true)
  ∧ (PySem.W.keepIn K (.ref (e8 K)) = true)
  ∧ (PySem.W.typeIn K (.ref (e8 K)) = some (.type "type"))
  ∧ (PySem.W.findIn K (.ref (e8 K)) "__getattribute__" = some (some (.builtin "BaseException.__getattribute__")))
  ∧ (PySem.W.findIn K (.ref (e8 K)) "__getattr__" = some none)
  ∧ (PySem.W.hasDictIn K (e8 K) = true)
  ∧ (PySem.W.findIn K (.ref (e8 K)) "__class__" = some (some (.builtin "object.__class__")))
  ∧ ((PySem.W.clsIn K (e8 K)).map (·.mro) = some [.ref (e8 K), .ref (aE K), .type "ValueError", .type "Exception", .type "BaseException", .type "object"])
instance (K : PySem.W.Frag) : Decidable (Fg10 K) := by unfold Fg10; infer_instance
def Fg11 (K : PySem.W.Frag) : Prop := (PySem.W.nsIn K mainGlobals "NotRules" = some (some (.ref (e9 K))))
  ∧ (PySem.W.excIn K (e9 K) [.type "ValueError", .type "Exception", .type "BaseException", .type "object"] "ValueError.__new__" = true)
  ∧ (PySem.W.keepIn K (.ref (e9 K)) = true)
  ∧ (PySem.W.typeIn K (.ref (e9 K)) = some (.type "type"))
  ∧ (PySem.W.findIn K (.ref (e9 K)) "__getattribute__" = some (some (.builtin "BaseException.__getattribute__")))
  ∧ (PySem.W.findIn K (.ref (e9 K)) "__getattr__" = some none)
  ∧ (PySem.W.hasDictIn K (e9 K) = true)
  ∧ (PySem.W.findIn K (.ref (e9 K)) "__class__" = some (some (.builtin "object.__class__")))
  ∧ ((PySem.W.clsIn K (e9 K)).map (·.mro) = some [.ref (e9 K), .ref (aE K), .type "ValueError", .type "Exception", .type "BaseException", .type "object"])
  ∧ (PySem.W.nsIn K mainGlobals "UnlikeWidths" = some (some (.ref (e10 K))))
  ∧ (PySem.W.excIn K (e10 K) [.type "ValueError", .type "Exception", .type "BaseException", .type "object"] "ValueError.__new__" = true)
  ∧ (PySem.W.keepIn K (.ref (e10 K)) = true)
  ∧ (PySem.W.typeIn K (.ref (e10 K)) = some (.type "type"))
  ∧ (PySem.W.findIn K (.ref (e10 K)) "__getattribute__" = some (some (.builtin "BaseException.__getattribute__")))
  ∧ (PySem.W.findIn K (.ref (e10 K)) "__getattr__" = some none)
  ∧ (PySem.W.hasDictIn K (e10 K) = true)
  ∧ (PySem.W.findIn K (.ref (e10 K)) "__class__" = some (some (.builtin "object.__class__")))
  ∧ ((PySem.W.clsIn K (e10 K)).map (·.mro) = some [.ref (e10 K), .ref (aE K), .type "ValueError", .type "Exception", .type "BaseException", .type "object"])
instance (K : PySem.W.Frag) : Decidable (Fg11 K) := by unfold Fg11; infer_instance
def Fg12 (K : PySem.W.Frag) : Prop := (PySem.W.nsIn K mainGlobals "TooMuch" = some (some (.ref (e11 K))))
  ∧ (PySem.W.excIn K (e11 K) [.type "ValueError", .type "Exception", .type "BaseException", .type "object"] "ValueError.__new__" = true)
  ∧ (PySem.W.keepIn K (.ref (e11 K)) = true)
  ∧ (PySem.W.typeIn K (.ref (e11 K)) = some (.type "type"))
  ∧ (PySem.W.findIn K (.ref (e11 K)) "__getattribute__" = some (some (.builtin "BaseException.__getattribute__")))
  ∧ (PySem.W.findIn K (.ref (e11 K)) "__getattr__" = some none)
  ∧ (PySem.W.hasDictIn K (e11 K) = true)
  ∧ (PySem.W.findIn K (.ref (e11 K)) "__class__" = some (some (.builtin "object.__class__")))
  ∧ ((PySem.W.clsIn K (e11 K)).map (·.mro) = some [.ref (e11 K), .ref (aE K), .type "ValueError", .type "Exception", .type "BaseException", .type "object"])
  ∧ (PySem.W.nsIn K mainGlobals "NotThere" = some (some (.ref (e12 K))))
  ∧ (PySem.W.excIn K (e12 K) [.type "ValueError", .type "Exception", .type "BaseException", .type "object"] "ValueError.__new__" = true)
  ∧ (PySem.W.keepIn K (.ref (e12 K)) = true)
  ∧ (PySem.W.typeIn K (.ref (e12 K)) = some (.type "type"))
  ∧ (PySem.W.findIn K (.ref (e12 K)) "__getattribute__" = some (some (.builtin "BaseException.__getattribute__")))
  ∧ (PySem.W.findIn K (.ref (e12 K)) "__getattr__" = some none)
  ∧ (PySem.W.hasDictIn K (e12 K) = true)
  ∧ (PySem.W.findIn K (.ref (e12 K)) "__class__" = some (some (.builtin "object.__class__")))
  ∧ ((PySem.W.clsIn K (e12 K)).map (·.mro) = some [.ref (e12 K), .ref (aE K), .type "ValueError", .type "Exception", .type "BaseException", .type "object"])
instance (K : PySem.W.Frag) : Decidable (Fg12 K) := by unfold Fg12; infer_instance
def Fg13 (K : PySem.W.Frag) : Prop := (PySem.W.nsIn K mainGlobals "Broken" = some (some (.ref (e13 K))))
  ∧ (PySem.W.excIn K (e13 K) [.type "ValueError", .type "Exception", .type "BaseException", .type "object"] "ValueError.__new__" = true)
  ∧ (PySem.W.keepIn K (.ref (e13 K)) = true)
  ∧ (PySem.W.typeIn K (.ref (e13 K)) = some (.type "type"))
  ∧ (PySem.W.findIn K (.ref (e13 K)) "__getattribute__" = some (some (.builtin "BaseException.__getattribute__")))
  ∧ (PySem.W.findIn K (.ref (e13 K)) "__getattr__" = some none)
  ∧ (PySem.W.hasDictIn K (e13 K) = true)
  ∧ (PySem.W.findIn K (.ref (e13 K)) "__class__" = some (some (.builtin "object.__class__")))
  ∧ ((PySem.W.clsIn K (e13 K)).map (·.mro) = some [.ref (e13 K), .ref (aE K), .type "ValueError", .type "Exception", .type "BaseException", .type "object"])
  ∧ (PySem.W.nsIn K mainGlobals "NothingDone" = some (some (.ref (e14 K))))
  ∧ (PySem.W.excIn K (e14 K) [.type "ValueError", .type "Exception", .type "BaseException", .type "object"] "ValueError.__new__" = true)
  ∧ (PySem.W.keepIn K (.ref (e14 K)) = true)
  ∧ (PySem.W.typeIn K (.ref (e14 K)) = some (.type "type"))
  ∧ (PySem.W.findIn K (.ref (e14 K)) "__getattribute__" = some (some (.builtin "BaseException.__getattribute__")))
  ∧ (PySem.W.findIn K (.ref (e14 K)) "__getattr__" = some none)
  ∧ (PySem.W.hasDictIn K (e14 K) = true)
  ∧ (PySem.W.findIn K (.ref (e14 K)) "__class__" = some (some (.builtin "object.__class__")))
  ∧ ((PySem.W.clsIn K (e14 K)).map (·.mro) = some [.ref (e14 K), .ref (aE K), .type "ValueError", .type "Exception", .type "BaseException", .type "object"])
  ∧ ([(e0 K), (e1 K), (e2 K), (e3 K), (e4 K), (e5 K), (e6 K), (e7 K), (e8 K), (e9 K), (e10 K), (e11 K), (e12 K), (e13 K), (e14 K), (aE K)].Nodup)
  ∧ ((PySem.W.clsIn K (aE K)).isSome = true)
instance (K : PySem.W.Frag) : Decidable (Fg13 K) := by unfold Fg13; infer_instance
def Fg14 (K : PySem.W.Frag) : Prop := (PySem.W.typeIn K (.ref (aE K)) = some (.type "type"))
  ∧ (PySem.W.subIn K (.ref (aE K)) (.type "BaseException") = some true)
  ∧ (PySem.W.specialIn K (.builtin "object.__class__") "__get__" = some (some (.builtin "getset_descriptor.__get__")))
  ∧ (PySem.W.takesIn K (.builtin "object.__class__") = some true)
  ∧ (PySem.W.subIn K (.ref (e9 K)) (.type "StopIteration") = some false)
  ∧ (aS K ≠ aT K)
  ∧ (aH K ≠ aT K)
  ∧ (PySem.W.plainGet K (aR K) Str.empty = true)
  ∧ (PySem.W.hasDictIn K (aR K) = true)
  ∧ (PySem.W.plainOver K (aR K) = true)
  ∧ (PySem.W.findIn K (.ref (aR K)) "__setattr__" = some (some (.builtin "object.__setattr__")))
  ∧ (PySem.W.plainGet K (aT K) Str.empty = true)
  ∧ (PySem.W.hasDictIn K (aT K) = true)
  ∧ (PySem.W.plainOver K (aT K) = true)
  ∧ (PySem.W.findIn K (.ref (aT K)) "__setattr__" = some (some (.builtin "object.__setattr__")))
  ∧ (PySem.W.plainGet K (aL K) Str.empty = true)
  ∧ (PySem.W.hasDictIn K (aL K) = true)
  ∧ (PySem.W.plainOver K (aL K) = true)
  ∧ (PySem.W.findIn K (.ref (aL K)) "__setattr__" = some (some (.builtin "object.__setattr__")))
instance (K : PySem.W.Frag) : Decidable (Fg14 K) := by unfold Fg14; infer_instance
def Fg15 (K : PySem.W.Frag) : Prop := (PySem.W.plainGet K (aS K) Str.empty = true)
  ∧ (PySem.W.hasDictIn K (aS K) = true)
  ∧ (PySem.W.plainOver K (aS K) = true)
  ∧ (PySem.W.findIn K (.ref (aS K)) "__setattr__" = some (some (.builtin "object.__setattr__")))
  ∧ (PySem.W.plainGet K (aH K) Str.empty = true)
  ∧ (PySem.W.hasDictIn K (aH K) = true)
  ∧ (PySem.W.plainOver K (aH K) = true)
  ∧ (PySem.W.findIn K (.ref (aH K)) "__setattr__" = some (some (.builtin "object.__setattr__")))
  ∧ (PySem.W.plainGet K (aR K) Str.empty = true)
  ∧ (PySem.W.hasDictIn K (aR K) = true)
  ∧ (PySem.W.plainOver K (aR K) = true)
  ∧ (PySem.W.findIn K (.ref (aR K)) "__setattr__" = some (some (.builtin "object.__setattr__")))
  ∧ (PySem.W.findIn K (.ref (aR K)) "__class__" = some (some (.builtin "object.__class__")))
  ∧ (PySem.W.specialIn K (.builtin "object.__class__") "__get__" = some (some (.builtin "getset_descriptor.__get__")))
  ∧ (PySem.W.takesIn K (.builtin "object.__class__") = some true)
  ∧ (PySem.W.mroIn K (aR K) (.type "object") = some true)
  ∧ (PySem.W.kitOne K (.ref (aR K)) (.ref (aR K)) = some true)
instance (K : PySem.W.Frag) : Decidable (Fg15 K) := by unfold Fg15; infer_instance
def Fg16 (K : PySem.W.Frag) : Prop := (PySem.W.plainGet K (aT K) Str.empty = true)
  ∧ (PySem.W.hasDictIn K (aT K) = true)
  ∧ (PySem.W.plainOver K (aT K) = true)
  ∧ (PySem.W.findIn K (.ref (aT K)) "__setattr__" = some (some (.builtin "object.__setattr__")))
  ∧ (PySem.W.findIn K (.ref (aT K)) "__class__" = some (some (.builtin "object.__class__")))
  ∧ (PySem.W.specialIn K (.builtin "object.__class__") "__get__" = some (some (.builtin "getset_descriptor.__get__")))
  ∧ (PySem.W.takesIn K (.builtin "object.__class__") = some true)
  ∧ (PySem.W.mroIn K (aT K) (.type "object") = some true)
  ∧ (PySem.W.kitOne K (.ref (aT K)) (.ref (aT K)) = some true)
  ∧ (PySem.W.findIn K (.ref (aR K)) "columns" = some none)
  ∧ (PySem.W.findIn K (.ref (aR K)) "kept" = some none)
  ∧ (PySem.W.findIn K (.ref (aT K)) "columns" = some none)
  ∧ (PySem.W.findIn K (.ref (aT K)) "kept" = some none)
  ∧ (PySem.W.findIn K (.ref (aL K)) "given" = some none)
  ∧ (PySem.W.findIn K (.ref (aL K)) "state" = some none)
  ∧ (PySem.W.findIn K (.ref (aL K)) "past" = some none)
  ∧ (PySem.W.findIn K (.ref (aS K)) "given" = some none)
  ∧ (PySem.W.findIn K (.ref (aS K)) "state" = some none)
  ∧ (PySem.W.findIn K (.ref (aS K)) "past" = some none)
instance (K : PySem.W.Frag) : Decidable (Fg16 K) := by unfold Fg16; infer_instance
def Fg17 (K : PySem.W.Frag) : Prop := (PySem.W.findIn K (.ref (aH K)) "given" = some none)
  ∧ (PySem.W.findIn K (.ref (aH K)) "state" = some none)
  ∧ (PySem.W.findIn K (.ref (aH K)) "past" = some none)
  ∧ (PySem.W.findIn K (.ref (aH K)) "limit" = some none)
  ∧ (PySem.W.kitOne K (.type "NoneType") (.ref (aR K)) = some false)
  ∧ (PySem.W.kitOne K (.type "bool") (.ref (aR K)) = some false)
  ∧ (PySem.W.kitOne K (.type "str") (.ref (aR K)) = some false)
  ∧ (PySem.W.kitOne K (.type "int") (.ref (aR K)) = some false)
  ∧ (PySem.W.kitOne K (.type "list") (.ref (aR K)) = some false)
  ∧ (PySem.W.kitOne K (.type "dict") (.ref (aR K)) = some false)
  ∧ (PySem.W.kitOne K (.type "tuple") (.ref (aR K)) = some false)
  ∧ (PySem.W.kitOne K (.type "NoneType") (.ref (aT K)) = some false)
  ∧ (PySem.W.kitOne K (.type "bool") (.ref (aT K)) = some false)
  ∧ (PySem.W.kitOne K (.type "str") (.ref (aT K)) = some false)
  ∧ (PySem.W.kitOne K (.type "int") (.ref (aT K)) = some false)
  ∧ (PySem.W.kitOne K (.type "list") (.ref (aT K)) = some false)
  ∧ (PySem.W.kitOne K (.type "dict") (.ref (aT K)) = some false)
  ∧ (PySem.W.kitOne K (.type "tuple") (.ref (aT K)) = some false)
  ∧ (PySem.W.kitOne K (.ref (aR K)) (.ref (aT K)) = some false)
  ∧ (PySem.W.kitOne K (.ref (aT K)) (.ref (aR K)) = some false)
instance (K : PySem.W.Frag) : Decidable (Fg17 K) := by unfold Fg17; infer_instance
def Fg18 (K : PySem.W.Frag) : Prop := ((PySem.W.findIn K (.type "NoneType") "__add__").isSome = true)
  ∧ ((PySem.W.findIn K (.type "NoneType") "__radd__").isSome = true)
  ∧ (PySem.W.subIn K (.type "NoneType") (.ref (aT K)) = some false)
  ∧ ((PySem.W.findIn K (.type "bool") "__add__").isSome = true)
  ∧ ((PySem.W.findIn K (.type "bool") "__radd__").isSome = true)
  ∧ (PySem.W.subIn K (.type "bool") (.ref (aT K)) = some false)
  ∧ ((PySem.W.findIn K (.type "str") "__add__").isSome = true)
  ∧ ((PySem.W.findIn K (.type "str") "__radd__").isSome = true)
  ∧ (PySem.W.subIn K (.type "str") (.ref (aT K)) = some false)
  ∧ ((PySem.W.findIn K (.type "int") "__add__").isSome = true)
  ∧ ((PySem.W.findIn K (.type "int") "__radd__").isSome = true)
  ∧ (PySem.W.subIn K (.type "int") (.ref (aT K)) = some false)
  ∧ ((PySem.W.findIn K (.type "list") "__add__").isSome = true)
  ∧ ((PySem.W.findIn K (.type "list") "__radd__").isSome = true)
  ∧ (PySem.W.subIn K (.type "list") (.ref (aT K)) = some false)
  ∧ ((PySem.W.findIn K (.type "dict") "__add__").isSome = true)
  ∧ ((PySem.W.findIn K (.type "dict") "__radd__").isSome = true)
  ∧ (PySem.W.subIn K (.type "dict") (.ref (aT K)) = some false)
  ∧ ((PySem.W.findIn K (.type "tuple") "__add__").isSome = true)
  ∧ ((PySem.W.findIn K (.type "tuple") "__radd__").isSome = true)
  ∧ (PySem.W.subIn K (.type "tuple") (.ref (aT K)) = some false)
instance (K : PySem.W.Frag) : Decidable (Fg18 K) := by unfold Fg18; infer_instance
def Fg19 (K : PySem.W.Frag) : Prop := ((PySem.W.findIn K (.type "NoneType") "__add__").isSome = true)
  ∧ ((PySem.W.findIn K (.type "NoneType") "__radd__").isSome = true)
  ∧ (PySem.W.subIn K (.type "NoneType") (.ref (aR K)) = some false)
  ∧ ((PySem.W.findIn K (.type "bool") "__add__").isSome = true)
  ∧ ((PySem.W.findIn K (.type "bool") "__radd__").isSome = true)
  ∧ (PySem.W.subIn K (.type "bool") (.ref (aR K)) = some false)
  ∧ ((PySem.W.findIn K (.type "str") "__add__").isSome = true)
  ∧ ((PySem.W.findIn K (.type "str") "__radd__").isSome = true)
  ∧ (PySem.W.subIn K (.type "str") (.ref (aR K)) = some false)
  ∧ ((PySem.W.findIn K (.type "int") "__add__").isSome = true)
  ∧ ((PySem.W.findIn K (.type "int") "__radd__").isSome = true)
  ∧ (PySem.W.subIn K (.type "int") (.ref (aR K)) = some false)
  ∧ ((PySem.W.findIn K (.type "list") "__add__").isSome = true)
  ∧ ((PySem.W.findIn K (.type "list") "__radd__").isSome = true)
  ∧ (PySem.W.subIn K (.type "list") (.ref (aR K)) = some false)
  ∧ ((PySem.W.findIn K (.type "dict") "__add__").isSome = true)
  ∧ ((PySem.W.findIn K (.type "dict") "__radd__").isSome = true)
  ∧ (PySem.W.subIn K (.type "dict") (.ref (aR K)) = some false)
  ∧ ((PySem.W.findIn K (.type "tuple") "__add__").isSome = true)
  ∧ ((PySem.W.findIn K (.type "tuple") "__radd__").isSome = true)
  ∧ (PySem.W.subIn K (.type "tuple") (.ref (aR K)) = some false)
instance (K : PySem.W.Frag) : Decidable (Fg19 K) := by unfold Fg19; infer_instance
def Fg20 (K : PySem.W.Frag) : Prop := ((Value.ref (aT K) == Value.ref (aR K)) = false)
  ∧ ((PySem.W.clsIn K (aR K)).map (·.mro) = some [.ref (aR K), .type "object"])
  ∧ (PySem.W.findIn K (.ref (aR K)) "__mul__" = some none)
  ∧ (PySem.W.findIn K (.ref (aR K)) "__rmul__" = some none)
  ∧ (PySem.W.findIn K (.type "object") "__mul__" = some none)
  ∧ (PySem.W.findIn K (.type "object") "__rmul__" = some none)
  ∧ (PySem.W.makesIn K (aR K) = true)
  ∧ (PySem.W.findIn K (.ref (aR K)) "__init__" = some (some (.ref (f_Rules_init K))))
  ∧ (PySem.W.isFn K (.ref (f_Rules_init K)) = true)
  ∧ (PySem.W.keepIn K (.ref (aR K)) = true)
  ∧ (PySem.W.makesIn K (aT K) = true)
  ∧ (PySem.W.findIn K (.ref (aT K)) "__init__" = some (some (.ref (f_Table_init K))))
  ∧ (PySem.W.isFn K (.ref (f_Table_init K)) = true)
  ∧ (PySem.W.keepIn K (.ref (aT K)) = true)
  ∧ (PySem.W.makesIn K (aL K) = true)
  ∧ (PySem.W.findIn K (.ref (aL K)) "__init__" = some (some (.ref (f_Log_init K))))
  ∧ (PySem.W.isFn K (.ref (f_Log_init K)) = true)
  ∧ (PySem.W.keepIn K (.ref (aL K)) = true)
instance (K : PySem.W.Frag) : Decidable (Fg20 K) := by unfold Fg20; infer_instance
def Fg21 (K : PySem.W.Frag) : Prop := (PySem.W.makesIn K (aS K) = true)
  ∧ (PySem.W.findIn K (.ref (aS K)) "__init__" = some (some (.ref (f_Log_init K))))
  ∧ (PySem.W.isFn K (.ref (f_Log_init K)) = true)
  ∧ (PySem.W.keepIn K (.ref (aS K)) = true)
  ∧ (PySem.W.makesIn K (aH K) = true)
  ∧ (PySem.W.findIn K (.ref (aH K)) "__init__" = some (some (.ref (f_Short_init K))))
  ∧ (PySem.W.isFn K (.ref (f_Short_init K)) = true)
  ∧ (PySem.W.keepIn K (.ref (aH K)) = true)
  ∧ (PySem.W.makesIn K (aB K) = true)
  ∧ (PySem.W.findIn K (.ref (aB K)) "__init__" = some (some (.ref (f_Short_init K))))
  ∧ (PySem.W.isFn K (.ref (f_Short_init K)) = true)
  ∧ (PySem.W.keepIn K (.ref (aB K)) = true)
  ∧ (PySem.W.findIn K (.ref (aR K)) "__call__" = some (some (.ref (f_Rules_call K))))
  ∧ (PySem.W.isFn K (.ref (f_Rules_call K)) = true)
  ∧ (PySem.W.fnIn K (f_Rules_call K) = true)
  ∧ (PySem.W.findIn K (.ref (aT K)) "__call__" = some (some (.ref (f_Table_call K))))
  ∧ (PySem.W.isFn K (.ref (f_Table_call K)) = true)
  ∧ (PySem.W.fnIn K (f_Table_call K) = true)
instance (K : PySem.W.Frag) : Decidable (Fg21 K) := by unfold Fg21; infer_instance
def Fg22 (K : PySem.W.Frag) : Prop := (PySem.W.findIn K (.ref (aL K)) "__call__" = some (some (.ref (f_Log_call K))))
  ∧ (PySem.W.isFn K (.ref (f_Log_call K)) = true)
  ∧ (PySem.W.fnIn K (f_Log_call K) = true)
  ∧ (PySem.W.findIn K (.ref (aH K)) "__call__" = some (some (.ref (f_Log_call K))))
  ∧ (PySem.W.isFn K (.ref (f_Log_call K)) = true)
  ∧ (PySem.W.fnIn K (f_Log_call K) = true)
  ∧ (PySem.W.readsIn K (aR K) (.type "type") = true)
  ∧ (PySem.W.specialIn K (.ref (aR K)) "__getattribute__" = some (some (.builtin "type.__getattribute__")))
  ∧ (cmB (PySem.W.findCls K (.ref (aR K)) (.type "type") "read") (pr_Rules K) (aR K) = true)
  ∧ (recB K (pr_Rules K) "classmethod" (f_Rules_read K) = true)
  ∧ (PySem.W.fnIn K (f_Rules_read K) = true)
  ∧ (PySem.W.readsIn K (aT K) (.type "type") = true)
  ∧ (PySem.W.specialIn K (.ref (aT K)) "__getattribute__" = some (some (.builtin "type.__getattribute__")))
  ∧ (cmB (PySem.W.findCls K (.ref (aT K)) (.type "type") "read") (pr_Table K) (aT K) = true)
  ∧ (recB K (pr_Table K) "classmethod" (f_Table_read K) = true)
  ∧ (PySem.W.fnIn K (f_Table_read K) = true)
  ∧ (PySem.W.findIn K (.ref (aR K)) "width" = some (some (.ref (pp_Rules_width K))))
  ∧ (PySem.W.specialIn K (.ref (pp_Rules_width K)) "__get__" = some (some (.builtin "property.__get__")))
  ∧ (PySem.W.takesIn K (.ref (pp_Rules_width K)) = some true)
  ∧ (recB K (pp_Rules_width K) "property" (f_Rules_width K) = true)
instance (K : PySem.W.Frag) : Decidable (Fg22 K) := by unfold Fg22; infer_instance
def Fg23 (K : PySem.W.Frag) : Prop := (PySem.W.findIn K (.ref (aR K)) "rules" = some (some (.ref (pp_Rules_rules K))))
  ∧ (PySem.W.specialIn K (.ref (pp_Rules_rules K)) "__get__" = some (some (.builtin "property.__get__")))
  ∧ (PySem.W.takesIn K (.ref (pp_Rules_rules K)) = some true)
  ∧ (recB K (pp_Rules_rules K) "property" (f_Rules_rules K) = true)
  ∧ (PySem.W.findIn K (.ref (aT K)) "width" = some (some (.ref (pp_Table_width K))))
  ∧ (PySem.W.specialIn K (.ref (pp_Table_width K)) "__get__" = some (some (.builtin "property.__get__")))
  ∧ (PySem.W.takesIn K (.ref (pp_Table_width K)) = some true)
  ∧ (recB K (pp_Table_width K) "property" (f_Table_width K) = true)
  ∧ (PySem.W.findIn K (.ref (aT K)) "rows" = some (some (.ref (pp_Table_rows K))))
  ∧ (PySem.W.specialIn K (.ref (pp_Table_rows K)) "__get__" = some (some (.builtin "property.__get__")))
  ∧ (PySem.W.takesIn K (.ref (pp_Table_rows K)) = some true)
  ∧ (recB K (pp_Table_rows K) "property" (f_Table_rows K) = true)
  ∧ (PySem.W.selfFirst K (aT K) = true)
  ∧ (PySem.W.findIn K (.ref (aT K)) "__add__" = some (some (.ref (f_Table_add K))))
  ∧ (PySem.W.isFn K (.ref (f_Table_add K)) = true)
  ∧ (PySem.W.findIn K (.ref (aT K)) "__radd__" = some none)
  ∧ (PySem.W.selfFirst K (aT K) = true)
  ∧ (PySem.W.findIn K (.ref (aT K)) "__mul__" = some (some (.ref (f_Table_mul K))))
  ∧ (PySem.W.isFn K (.ref (f_Table_mul K)) = true)
  ∧ (PySem.W.findIn K (.ref (aT K)) "__rmul__" = some none)
instance (K : PySem.W.Frag) : Decidable (Fg23 K) := by unfold Fg23; infer_instance
def Fg24 (K : PySem.W.Frag) : Prop := (PySem.W.selfFirst K (aR K) = true)
  ∧ (PySem.W.findIn K (.ref (aR K)) "__add__" = some (some (.ref (f_Rules_add K))))
  ∧ (PySem.W.isFn K (.ref (f_Rules_add K)) = true)
  ∧ (PySem.W.findIn K (.ref (aR K)) "__radd__" = some none)
  ∧ (PySem.W.findIn K (.ref (aT K)) "text" = some (some (.ref (f_Table_text K))))
  ∧ (PySem.W.isFn K (.ref (f_Table_text K)) = true)
  ∧ (PySem.W.keepIn K (.ref (f_Table_text K)) = true)
  ∧ (PySem.W.findIn K (.ref (aL K)) "add" = some (some (.ref (f_Log_add K))))
  ∧ (PySem.W.isFn K (.ref (f_Log_add K)) = true)
  ∧ (PySem.W.keepIn K (.ref (f_Log_add K)) = true)
  ∧ (PySem.W.findIn K (.ref (aL K)) "drop" = some (some (.ref (f_Log_drop K))))
  ∧ (PySem.W.isFn K (.ref (f_Log_drop K)) = true)
  ∧ (PySem.W.keepIn K (.ref (f_Log_drop K)) = true)
  ∧ (PySem.W.findIn K (.ref (aL K)) "assign_table" = some (some (.ref (f_Log_assign_table K))))
  ∧ (PySem.W.isFn K (.ref (f_Log_assign_table K)) = true)
  ∧ (PySem.W.keepIn K (.ref (f_Log_assign_table K)) = true)
  ∧ (PySem.W.findIn K (.ref (aL K)) "undo" = some (some (.ref (f_Log_undo K))))
  ∧ (PySem.W.isFn K (.ref (f_Log_undo K)) = true)
  ∧ (PySem.W.keepIn K (.ref (f_Log_undo K)) = true)
instance (K : PySem.W.Frag) : Decidable (Fg24 K) := by unfold Fg24; infer_instance
def Fg25 (K : PySem.W.Frag) : Prop := (PySem.W.findIn K (.ref (aS K)) "add" = some (some (.ref (f_Log_add K))))
  ∧ (PySem.W.isFn K (.ref (f_Log_add K)) = true)
  ∧ (PySem.W.keepIn K (.ref (f_Log_add K)) = true)
  ∧ (PySem.W.findIn K (.ref (aS K)) "assign_table" = some (some (.ref (f_Log_assign_table K))))
  ∧ (PySem.W.isFn K (.ref (f_Log_assign_table K)) = true)
  ∧ (PySem.W.keepIn K (.ref (f_Log_assign_table K)) = true)
  ∧ (PySem.W.findIn K (.ref (aS K)) "need_fit" = some (some (.ref (f_Strict_need_fit K))))
  ∧ (PySem.W.isFn K (.ref (f_Strict_need_fit K)) = true)
  ∧ (PySem.W.keepIn K (.ref (f_Strict_need_fit K)) = true)
  ∧ (PySem.W.findIn K (.ref (aS K)) "become" = some (some (.ref (f_Log_become K))))
  ∧ (PySem.W.isFn K (.ref (f_Log_become K)) = true)
  ∧ (PySem.W.keepIn K (.ref (f_Log_become K)) = true)
  ∧ (PySem.W.findIn K (.ref (aH K)) "add" = some (some (.ref (f_Log_add K))))
  ∧ (PySem.W.isFn K (.ref (f_Log_add K)) = true)
  ∧ (PySem.W.keepIn K (.ref (f_Log_add K)) = true)
  ∧ (PySem.W.findIn K (.ref (aH K)) "need_fit" = some (some (.ref (f_Short_need_fit K))))
  ∧ (PySem.W.isFn K (.ref (f_Short_need_fit K)) = true)
  ∧ (PySem.W.keepIn K (.ref (f_Short_need_fit K)) = true)
instance (K : PySem.W.Frag) : Decidable (Fg25 K) := by unfold Fg25; infer_instance
def Fg26 (K : PySem.W.Frag) : Prop := (PySem.W.findIn K (.ref (aH K)) "become" = some (some (.ref (f_Log_become K))))
  ∧ (PySem.W.isFn K (.ref (f_Log_become K)) = true)
  ∧ (PySem.W.keepIn K (.ref (f_Log_become K)) = true)
  ∧ (PySem.W.takerIn K (aL K) "table" = some (some (.ref (ps_Log K))))
  ∧ (PySem.W.typeIn K (.ref (ps_Log K)) = some (.type "property"))
  ∧ (recB2 K (ps_Log K) "property" (f_Log_table2 K) = true)
  ∧ (PySem.W.takerIn K (aS K) "table" = some (some (.ref (ps_Strict K))))
  ∧ (PySem.W.typeIn K (.ref (ps_Strict K)) = some (.type "property"))
  ∧ (recB2 K (ps_Strict K) "property" (f_Log_table2 K) = true)
  ∧ ((PySem.W.clsIn K (aS K)).isSome = true)
  ∧ ((PySem.W.clsIn K (aS K)).isSome = true)
  ∧ (PySem.W.mroIn K (aS K) (.ref (aS K)) = some true)
  ∧ (PySem.W.ks_superIn K (aS K) (aS K) "need_fit" = some (some (.ref (f_Log_need_fit K))))
  ∧ (PySem.W.typeIn K (.ref (f_Log_need_fit K)) = some (.type "function"))
  ∧ (PySem.W.fnIn K (f_Log_need_fit K) = true)
  ∧ (PySem.W.nsIn K cStatics "thirdparty.any" = some none)
instance (K : PySem.W.Frag) : Decidable (Fg26 K) := by unfold Fg26; infer_instance
def Fg27 (K : PySem.W.Frag) : Prop := ((PySem.W.clsIn K (aH K)).isSome = true)
  ∧ ((PySem.W.clsIn K (aH K)).isSome = true)
  ∧ (PySem.W.mroIn K (aH K) (.ref (aH K)) = some true)
  ∧ (PySem.W.ks_superIn K (aH K) (aH K) "need_fit" = some (some (.ref (f_Log_need_fit K))))
  ∧ (PySem.W.typeIn K (.ref (f_Log_need_fit K)) = some (.type "function"))
  ∧ (PySem.W.fnIn K (f_Log_need_fit K) = true)
  ∧ (PySem.W.nsIn K cStatics "thirdparty.any" = some none)
  ∧ ((PySem.W.clsIn K (aH K)).isSome = true)
  ∧ ((PySem.W.clsIn K (aH K)).isSome = true)
  ∧ (PySem.W.mroIn K (aH K) (.ref (aH K)) = some true)
  ∧ (PySem.W.ks_superIn K (aH K) (aH K) "__init__" = some (some (.ref (f_Log_init K))))
  ∧ (PySem.W.typeIn K (.ref (f_Log_init K)) = some (.type "function"))
  ∧ (PySem.W.fnIn K (f_Log_init K) = true)
  ∧ (PySem.W.nsIn K cStatics "thirdparty.any" = some none)
instance (K : PySem.W.Frag) : Decidable (Fg27 K) := by unfold Fg27; infer_instance
def exB (K : PySem.W.Frag) : Bool := decide (Fg0 K) && decide (Fg1 K) && decide (Fg2 K)
def exC (K : PySem.W.Frag) : Bool := decide (Fg3 K) && decide (Fg4 K) && decide (Fg5 K) && decide (Fg6 K) && decide (Fg7 K) && decide (Fg8 K) && decide (Fg9 K) && decide (Fg10 K) && decide (Fg11 K) && decide (Fg12 K) && decide (Fg13 K) && decide (Fg14 K) && decide (Fg15 K) && decide (Fg16 K) && decide (Fg17 K) && decide (Fg18 K) && decide (Fg19 K) && decide (Fg20 K) && decide (Fg21 K) && decide (Fg22 K) && decide (Fg23 K) && decide (Fg24 K) && decide (Fg25 K) && decide (Fg26 K) && decide (Fg27 K)
def exK (K : PySem.W.Frag) : Bool := exB K && exC K
def Facts (K : PySem.W.Frag) : Prop := Fg0 K ∧ Fg1 K ∧ Fg2 K ∧ Fg3 K ∧ Fg4 K ∧ Fg5 K ∧ Fg6 K ∧ Fg7 K ∧ Fg8 K ∧ Fg9 K ∧ Fg10 K ∧ Fg11 K ∧ Fg12 K ∧ Fg13 K ∧ Fg14 K ∧ Fg15 K ∧ Fg16 K ∧ Fg17 K ∧ Fg18 K ∧ Fg19 K ∧ Fg20 K ∧ Fg21 K ∧ Fg22 K ∧ Fg23 K ∧ Fg24 K ∧ Fg25 K ∧ Fg26 K ∧ Fg27 K
abbrev R : OpenRow := OpenLaw.row PySem.Challenge.rw_countcycles_k10_exceptions_are_of_one_cl
abbrev qv : Program := view R.prog [90]
def n0 : List PySem.Str := ["_wall", "ColumnError", "NoWidth", "NoRows", "NoRow", "NoRules", "NoRule", "NoColumn", "NoNumber", "NoText", "NotTable", "NotRules", "UnlikeWidths", "TooMuch", "NotThere", "Broken", "NothingDone", "SETTLES", "WITHIN", "shortest", "leads", "downs", "ring_of", "arrows", "follows"]
def n1 : List PySem.Str := ["gathered", "below", "Sizes", "values_of", "model_rows", "holds", "all_rules", "MOST_WIDTH", "is_integer", "is_between", "need_width", "is_column", "is_rule", "need_rule", "are_rules", "column_of", "rule_of", "Rules", "need_rules", "MOST_ROWS", "MOST_VALUE", "SMALL", "DIGITS", "is_row", "are_rows"]
def n2 : List PySem.Str := ["number_of", "paired", "Table", "table_of", "need_table", "need_like", "FOLLOWS", "FAILS", "walk", "groups", "following", "part_of", "verdict", "is_walk", "is_part", "is_chain", "shows_verdict", "is_telling", "model", "least", "Log", "Strict", "Short", "StrictShort", "_law_cell"]
def n3 : List PySem.Str := ["_law_source", "_law_draw", "_law_choose", "_law_is_equal", "_law_marks", "_law_raised", "_law_of_logs", "_law_calls"]
def names : List PySem.Str := n0 ++ n1 ++ n2 ++ n3
def ad0 : List Addr := [29, 30, 31, 32, 35, 42, 43, 44, 47, 54, 55, 56, 59, 66, 67, 68, 71, 78, 79, 80, 83, 90, 91, 92, 95, 102, 103, 104, 107, 114]
def ad1 : List Addr := [115, 116, 119, 126, 127, 128, 131, 138, 139, 140, 143, 150, 151, 152, 155, 162, 163, 164, 167, 174, 175, 176, 179, 186, 187, 188, 191, 198, 199, 200]
def ad2 : List Addr := [203, 210, 211, 212, 215, 461, 462, 463, 464, 465, 466, 467, 470, 600, 601, 602, 603, 604, 605, 606, 821, 822, 823, 824, 825, 826, 827, 830, 833, 841]
def ad3 : List Addr := [842, 844, 845, 846, 847, 848, 851, 854, 873, 874, 875, 876, 877, 879, 880, 882, 883, 884, 885, 886, 889, 896, 897, 898, 901, 2, 3, 15, 17, 18]
def ad4 : List Addr := [20, 21, 22, 218, 219, 220, 222, 223, 225, 226, 227, 230, 231, 232, 234, 235, 237, 238, 239, 241, 242, 244, 245, 246, 248, 249, 251, 252, 253, 256]
def ad5 : List Addr := [257, 258, 261, 262, 270, 273, 274, 275, 278, 279, 280, 283, 284, 285, 286, 287, 288, 289, 292, 295, 296, 297, 300, 301, 302, 305, 306, 307, 310, 311]
def ad6 : List Addr := [312, 314, 315, 317, 318, 319, 321, 322, 324, 325, 326, 328, 329, 331, 332, 333, 335, 336, 338, 339, 340, 342, 343, 345, 346, 347, 349, 350, 352, 353]
def ad7 : List Addr := [354, 357, 358, 359, 361, 362, 364, 365, 366, 368, 369, 371, 372, 380, 382, 383, 385, 386, 387, 390, 391, 392, 393, 394, 395, 398, 399, 400, 402, 403]
def ad8 : List Addr := [405, 406, 407, 408, 410, 411, 413, 414, 415, 416, 418, 419, 421, 422, 423, 425, 426, 428, 429, 430, 432, 433, 435, 436, 437, 439, 440, 442, 443, 444]
def ad9 : List Addr := [447, 448, 449, 451, 452, 454, 455, 456, 458, 459, 472, 473, 475, 476, 477, 480, 481, 482, 485, 486, 487, 490, 491, 492, 495, 496, 504, 506, 507, 509]
def ad10 : List Addr := [510, 511, 514, 515, 516, 517, 518, 519, 522, 523, 524, 526, 527, 529, 530, 531, 532, 534, 535, 537, 538, 539, 540, 542, 543, 545, 546, 547, 548, 550]
def ad11 : List Addr := [551, 553, 554, 555, 557, 558, 560, 561, 562, 564, 565, 567, 568, 569, 571, 572, 574, 575, 576, 578, 579, 581, 582, 583, 586, 587, 588, 590, 591, 593]
def ad12 : List Addr := [594, 595, 597, 598, 609, 611, 612, 614, 615, 616, 618, 619, 621, 622, 623, 625, 626, 628, 629, 630, 632, 633, 635, 636, 637, 639, 640, 642, 643, 644]
def ad13 : List Addr := [646, 647, 649, 650, 651, 653, 654, 656, 657, 658, 661, 662, 663, 666, 667, 668, 670, 671, 673, 674, 675, 678, 679, 680, 683, 684, 685, 688, 689, 690]
def ad14 : List Addr := [692, 693, 695, 696, 697, 700, 701, 709, 711, 712, 714, 715, 716, 718, 719, 721, 722, 723, 724, 726, 727, 729, 730, 733, 735, 736, 738, 739, 740, 741]
def ad15 : List Addr := [743, 744, 746, 747, 748, 751, 752, 753, 754, 756, 757, 759, 760, 761, 762, 764, 765, 767, 768, 769, 771, 772, 774, 775, 776, 778, 779, 781, 782, 783]
def ad16 : List Addr := [785, 786, 788, 789, 790, 793, 794, 795, 797, 798, 800, 801, 802, 804, 805, 807, 808, 809, 811, 812, 814, 815, 816, 818, 819, 838, 839, 859, 860, 861]
def ad17 : List Addr := [863, 864, 866, 867, 868, 870, 871, 903, 904, 906, 907, 908, 910, 911, 913, 914, 915, 917, 918, 920, 921, 922, 924, 925, 927, 928, 929, 931, 932, 934]
def ad18 : List Addr := [935, 936, 938, 939, 941, 942, 943, 945, 946, 948, 949, 950, 952, 953, 955, 956, 957, 959, 960, 962, 963, 964, 966, 967, 969, 970]
def adrs : List Addr := [mainGlobals, cStatics] ++ ad0 ++ ad1 ++ ad2 ++ ad3 ++ ad4 ++ ad5 ++ ad6 ++ ad7 ++ ad8 ++ ad9 ++ ad10 ++ ad11 ++ ad12 ++ ad13 ++ ad14 ++ ad15 ++ ad16 ++ ad17 ++ ad18
def KK (g : Addr → Option Obj) : PySem.W.Frag := He.frT g adrs
def empB (g : Addr → Option Obj) (c q : Addr) (K : PySem.W.Frag) : Bool := PySem.W.codeHdIn K c q && (match g q with
  | some o => He.emptyTab o
  | none => false)
def obsG (g : Addr → Option Obj) (K : PySem.W.Frag) : List FnV × Bool := (dks.map (fnV K), exK K && (empB g (c_law_calls K) (p_law_calls K) K && empB g (c_law_of_logs K) (p_law_of_logs K) K))
theorem empB_ok {h : Heap} {c q : Addr} {K : PySem.W.Frag} (X : K.In h) (e : empB h.get? c q K = true) : PySem.W.CodeHd h c q ∧ h.get? q = some { cls := .none, data := .fields #[] } := by
  obtain ⟨h1, h2⟩ := He.ba e
  refine ⟨PySem.W.codeHd_of_K X h1, ?_⟩
  cases z : h.get? q with
  | none => rw [z] at h2; cases h2
  | some o => rw [z] at h2; rw [He.emptyTab_eq h2]
structure Says (h : Heap) (K : PySem.W.Frag) : Prop where
  X : K.In h
  f : dks.map (fnV K) = dks.map DK.val
  e : exK K = true
  p1 : h.get? (p_law_calls K) = some { cls := .none, data := .fields #[] }
  p2 : h.get? (p_law_of_logs K) = some { cls := .none, data := .fields #[] }
  c1 : PySem.W.codeHdIn K (c_law_calls K) (p_law_calls K) = true
  c2 : PySem.W.codeHdIn K (c_law_of_logs K) (p_law_of_logs K) = true
theorem says_of {h : Heap} (e : obsG h.get? (KK h.get?) = (dks.map DK.val, true)) : Says h (KK h.get?) := by
  have e1 : dks.map (fnV (KK h.get?)) = dks.map DK.val := congrArg (fun z : List FnV × Bool => z.1) e
  have e2 : (exK (KK h.get?) && (empB h.get? (c_law_calls (KK h.get?)) (p_law_calls (KK h.get?)) (KK h.get?) && empB h.get? (c_law_of_logs (KK h.get?)) (p_law_of_logs (KK h.get?)) (KK h.get?))) = true := congrArg (fun z : List FnV × Bool => z.2) e
  obtain ⟨h1, h2⟩ := He.ba e2
  obtain ⟨h3, h4⟩ := He.ba h2
  have X : (KK h.get?).In h := He.frT_in
  exact ⟨X, e1, h1, (empB_ok X h3).2, (empB_ok X h4).2, (He.ba h3).1, (He.ba h4).1⟩
def hk : PySem.W.Hook where
  α := List FnV × Bool
  obs := fun s => obsG s.heap.get? (KK s.heap.get?)
  val := fun _ => (dks.map DK.val, true)
  says := fun _ h => ∃ K : PySem.W.Frag, Says h K
  of := fun _ _ e => ⟨_, says_of e⟩
  keeps := fun _ _ _ ⟨K, c⟩ k => ⟨K, PySem.W.Frag.In.keeps c.X k, c.f, c.e, k _ _ c.p1, k _ _ c.p2, c.c1, c.c2⟩
def ob (s : PySem.W.SharedT) : hk.α := obsG (HandSHeadRun.getT s) (KK (HandSHeadRun.getT s))
theorem ob_eq (s : PySem.W.SharedT) : ob s = hk.obs s.abs := by
  have e : HandSHeadRun.getT s = s.abs.heap.get? := funext (HandSHeadRun.getT_eq s)
  show obsG (HandSHeadRun.getT s) (KK (HandSHeadRun.getT s)) = _
  rw [e]
  rfl
/-! ### the run, looked at in three parts (each declaration runs the top anew: less memory at once) -/
noncomputable def endW (w : World) (os : OsState) : Option PySem.W.SharedT := HandSHeadRun.endF (HandSHeadRun.stepQ (HandSHeadRun.denQ HandSHeadRun.tabQ) R.prog w) 10000 R.prog w os
set_option maxHeartbeats 0 in
theorem runA (w : World) (os : OsState) : (endW w os).map (fun s => (HandSHeadRun.looksF R.prog (boot_heap w.params) s.abs, HandSHeadRun.seenQ qv names (importedModules R.prog.main.body) (fun s => xlAt qv [] s && recOk R.toRowW.records s) s.abs)) = some (true, openGood qv names) := by
  kernel_rfl
def obB (s : PySem.W.SharedT) : List FnV × Bool := (dks.map (fnV (KK (HandSHeadRun.getT s))), exB (KK (HandSHeadRun.getT s)))
set_option maxHeartbeats 0 in
theorem runB (w : World) (os : OsState) : (endW w os).map obB = some (dks.map DK.val, true) := by
  kernel_rfl
def obC (s : PySem.W.SharedT) : Bool := exC (KK (HandSHeadRun.getT s)) && (empB (HandSHeadRun.getT s) (c_law_calls (KK (HandSHeadRun.getT s))) (p_law_calls (KK (HandSHeadRun.getT s))) (KK (HandSHeadRun.getT s)) && empB (HandSHeadRun.getT s) (c_law_of_logs (KK (HandSHeadRun.getT s))) (p_law_of_logs (KK (HandSHeadRun.getT s))) (KK (HandSHeadRun.getT s)))
set_option maxHeartbeats 0 in
theorem runC (w : World) (os : OsState) : (endW w os).map obC = some true := by
  kernel_rfl
theorem run (w : World) : HandSHeadRun.RunEq R qv hk ob 10000 names w := by
  intro os
  have a := runA w os
  have b := runB w os
  have c := runC w os
  show (endW w os).map _ = _
  cases e : endW w os with
  | none => rw [e] at c; cases c
  | some s =>
    rw [e] at a b c
    have a2 : (HandSHeadRun.looksF R.prog (boot_heap w.params) s.abs, HandSHeadRun.seenQ qv names (importedModules R.prog.main.body) (fun s => xlAt qv [] s && recOk R.toRowW.records s) s.abs) = (true, openGood qv names) := Option.some.inj a
    have b2 : obB s = (dks.map DK.val, true) := Option.some.inj b
    have c2 : obC s = true := Option.some.inj c
    have a3 := congrArg (fun z => z.1) a2
    have a4 := congrArg (fun z => z.2) a2
    have b3 : dks.map (fnV (KK (HandSHeadRun.getT s))) = dks.map DK.val := congrArg (fun z : List FnV × Bool => z.1) b2
    have b4 : exB (KK (HandSHeadRun.getT s)) = true := congrArg (fun z : List FnV × Bool => z.2) b2
    obtain ⟨c3, c4⟩ := He.ba c2
    have o : ob s = (dks.map DK.val, true) := by
      show (dks.map (fnV (KK (HandSHeadRun.getT s))), exK (KK (HandSHeadRun.getT s)) && _) = _
      unfold exK
      rw [b3, b4, c3, c4]
      rfl
    exact congrArg some (Prod.ext a3 (Prod.ext a4 o))
end HX
set_option Elab.async false
set_option linter.all false
set_option maxRecDepth 100000
set_option maxHeartbeats 4000000
/-! A layer over readings: what expressions are worth as plain data, over a part G of the heap that stands still. -/
namespace CL
open PySem L2
abbrev Ex : Hp → Hp → Prop := Evl.Ex
abbrev VSt := List (Option V)
theorem Ex.refl (H : Hp) : Ex H H := fun _ _ h => h
theorem Ex.trans {A B C : Hp} (a : Ex A B) (b : Ex B C) : Ex A C := fun x o h => b x o (a x o h)
theorem Ex.back {A B : Hp} (e : Ex A B) {p : Addr} (h : B p = none) : A p = none := by
  cases q : A p with
  | none => rfl
  | some o => rw [e p o q] at h; cases h

theorem up_rd {A B : Hp} {a : Addr} {u : HO} (h : Rd A a u) (e : Ex A B) : Rd B a u := Evl.ex_rd e h

/-! ### data at an address -/
mutual
inductive DD (G : Hp) : V → PyData → Prop
  | non : DD G .non .none
  | bl (b : Bool) : DD G (.bl b) (.bool b)
  | int (i : Int) : DD G (.int i) (.int i)
  | str (x : Str) : DD G (.str x) (.str x)
  | lst {a : Addr} {xs : List V} {ds : List PyData} : G a = some (.lst xs) → DDs G xs ds → DD G (.ref a) (.list ds)
  | tup {a : Addr} {xs : List V} {ds : List PyData} : Rd G a (.tup xs) → DDs G xs ds → DD G (.ref a) (.tuple ds)
inductive DDs (G : Hp) : List V → List PyData → Prop
  | nil : DDs G [] []
  | cons {v : V} {vs : List V} {d : PyData} {ds : List PyData} : DD G v d → DDs G vs ds → DDs G (v :: vs) (d :: ds)
end
section
variable {G H : Hp}
mutual
theorem DD.mono (e : Ex G H) : ∀ (d : PyData) (v : V), DD G v d → DD H v d
  | .none, _, h => by cases h; exact .non
  | .bool b, _, h => by cases h; exact .bl b
  | .int i, _, h => by cases h; exact .int i
  | .str x, _, h => by cases h; exact .str x
  | .list ds, _, h => by cases h with | lst h1 h2 => exact .lst (e _ _ h1) (DDs.mono e ds _ h2)
  | .tuple ds, _, h => by cases h with | tup h1 h2 => exact .tup (up_rd h1 e) (DDs.mono e ds _ h2)
  | .dict _, _, h => by cases h
theorem DDs.mono (e : Ex G H) : ∀ (ds : List PyData) (vs : List V), DDs G vs ds → DDs H vs ds
  | [], _, h => by cases h; exact .nil
  | d :: ds, _, h => by cases h with | cons h1 h2 => exact .cons (DD.mono e d _ h1) (DDs.mono e ds _ h2)
end
mutual
theorem DD.dp {K : PySem.W.Frag} (e : Ex G H) : ∀ (d : PyData) (v : V), DD G v d → Dp K H v d
  | .none, _, h => by cases h; exact .non
  | .bool b, _, h => by cases h; exact .bl b
  | .int i, _, h => by cases h; exact .int i
  | .str x, _, h => by cases h; exact .str x
  | .list ds, _, h => by cases h with | lst h1 h2 => exact .lst (.inl (.inl (e _ _ h1))) (DDs.dp e ds _ h2)
  | .tuple ds, _, h => by cases h with | tup h1 h2 => exact .tup (.inl (up_rd h1 e)) (DDs.dp e ds _ h2)
  | .dict _, _, h => by cases h
theorem DDs.dp {K : PySem.W.Frag} (e : Ex G H) : ∀ (ds : List PyData) (vs : List V), DDs G vs ds → DpAll K H vs ds
  | [], _, h => by cases h; exact .nil
  | d :: ds, _, h => by cases h with | cons h1 h2 => exact .cons (DD.dp e d _ h1) (DDs.dp e ds _ h2)
end
theorem DD.up {v : V} {d : PyData} (h : DD G v d) (e : Ex G H) : DD H v d := DD.mono e d v h
theorem DDs.up {v : List V} {d : List PyData} (h : DDs G v d) (e : Ex G H) : DDs H v d := DDs.mono e d v h
theorem DD.eqN {v : V} (h : DD G v .none) : v = .non := by cases h; rfl
theorem DD.eqB {v : V} {b : Bool} (h : DD G v (.bool b)) : v = .bl b := by cases h; rfl
theorem DD.eqI {v : V} {i : Int} (h : DD G v (.int i)) : v = .int i := by cases h; rfl
theorem DD.eqS {v : V} {x : Str} (h : DD G v (.str x)) : v = .str x := by cases h; rfl
theorem DD.eqL {v : V} {ds : List PyData} (h : DD G v (.list ds)) : ∃ a xs, v = .ref a ∧ G a = some (.lst xs) ∧ DDs G xs ds := by
  cases h with | lst h1 h2 => exact ⟨_, _, rfl, h1, h2⟩
theorem DD.eqT {v : V} {ds : List PyData} (h : DD G v (.tuple ds)) : ∃ a xs, v = .ref a ∧ Rd G a (.tup xs) ∧ DDs G xs ds := by
  cases h with | tup h1 h2 => exact ⟨_, _, rfl, h1, h2⟩
theorem DDs.length : ∀ {vs : List V} {ds : List PyData}, DDs G vs ds → vs.length = ds.length
  | _, [], h => by cases h; rfl
  | _, d :: ds, h => by cases h with | cons h1 h2 => rw [List.length_cons, List.length_cons, DDs.length h2]
theorem DDs.append : ∀ {vs ws : List V} {ds es : List PyData}, DDs G vs ds → DDs G ws es → DDs G (vs ++ ws) (ds ++ es)
  | _, _, [], _, h, k => by cases h; exact k
  | _, _, d :: ds, _, h, k => by cases h with | cons h1 h2 => exact .cons h1 (DDs.append h2 k)
theorem DDs.take : ∀ {vs : List V} {ds : List PyData} (n : Nat), DDs G vs ds → DDs G (vs.take n) (ds.take n)
  | _, [], n, h => by cases h; rw [List.take_nil, List.take_nil]; exact .nil
  | _, d :: ds, 0, h => by rw [List.take_zero, List.take_zero]; exact .nil
  | _, d :: ds, n + 1, h => by cases h with | cons h1 h2 => exact .cons h1 (DDs.take n h2)
theorem DDs.drop : ∀ {vs : List V} {ds : List PyData} (n : Nat), DDs G vs ds → DDs G (vs.drop n) (ds.drop n)
  | _, [], n, h => by cases h; rw [List.drop_nil, List.drop_nil]; exact .nil
  | _, d :: ds, 0, h => h
  | _, d :: ds, n + 1, h => by cases h with | cons h1 h2 => exact DDs.drop n h2
theorem DDs.get : ∀ {vs : List V} {ds : List PyData} {i : Nat} {d : PyData}, DDs G vs ds → ds[i]? = some d → ∃ v, vs[i]? = some v ∧ DD G v d
  | _, [], _, _, h, e => by simp at e
  | _, d :: ds, 0, _, h, e => by
    cases h with | cons h1 h2 =>
    simp at e; subst e; exact ⟨_, rfl, h1⟩
  | _, d :: ds, i + 1, _, h, e => by
    cases h with | cons h1 h2 =>
    simp at e
    obtain ⟨v, a, b⟩ := DDs.get h2 e
    exact ⟨v, by simpa using a, b⟩
theorem DDs.at : ∀ {vs : List V} {ds : List PyData} {i : Nat} {v : V}, DDs G vs ds → vs[i]? = some v → ∃ d, ds[i]? = some d ∧ DD G v d := fun {vs ds i v} h e => by
  have hl := h.length
  have hi : i < ds.length := by rw [← hl]; exact (List.getElem?_eq_some_iff.mp e).1
  obtain ⟨w, a, b⟩ := h.get (i := i) (List.getElem?_eq_getElem hi)
  rw [e] at a
  cases a
  exact ⟨_, List.getElem?_eq_getElem hi, b⟩
theorem DDs.ints : ∀ {vs : List V} {ns : List Int}, DDs G vs (ns.map PyData.int) → vs = ns.map V.int
  | _, [], h => by cases h; rfl
  | _, n :: ns, h => by cases h with | cons h1 h2 => rw [h1.eqI, DDs.ints h2]; rfl
theorem DDs.ofInts (G : Hp) : ∀ (ns : List Int), DDs G (ns.map V.int) (ns.map PyData.int)
  | [] => .nil
  | n :: ns => .cons (.int n) (DDs.ofInts G ns)
theorem DDs.strs : ∀ {vs : List V} {ns : List Str}, DDs G vs (ns.map PyData.str) → vs = ns.map V.str
  | _, [], h => by cases h; rfl
  | _, n :: ns, h => by cases h with | cons h1 h2 => rw [h1.eqS, DDs.strs h2]; rfl
theorem DDs.ofStrs (G : Hp) : ∀ (ns : List Str), DDs G (ns.map V.str) (ns.map PyData.str)
  | [] => .nil
  | n :: ns => .cons (.str n) (DDs.ofStrs G ns)
theorem DDs.bls : ∀ {vs : List V} {ns : List Bool}, DDs G vs (ns.map PyData.bool) → vs = ns.map V.bl
  | _, [], h => by cases h; rfl
  | _, n :: ns, h => by cases h with | cons h1 h2 => rw [h1.eqB, DDs.bls h2]; rfl
theorem DDs.inv {vs : List V} {d : PyData} {ds : List PyData} (h : DDs G vs (d :: ds)) : ∃ v r, vs = v :: r ∧ DD G v d ∧ DDs G r ds := by
  cases h with | cons h1 h2 => exact ⟨_, _, rfl, h1, h2⟩
theorem DDs.inv0 {vs : List V} (h : DDs G vs []) : vs = [] := by cases h; rfl
theorem DDs.one {v : V} {d : PyData} (h : DD G v d) : DDs G [v] [d] := .cons h .nil
end

/-! ### how heap and still part grow -/
structure Grow (M : Addr → Prop) (G H G2 H2 : Hp) : Prop where
  g : Ex G G2
  gh : Ex G2 H2
  keep : ∀ a o, ¬ M a → H a = some o → H2 a = some o
  there : ∀ a, H2 a = none → H a = none
  new : ∀ a, H a ≠ none → G a = none → G2 a = none
def M0 : Addr → Prop := fun _ => False
section
variable {M N : Addr → Prop} {G H G1 H1 G2 H2 : Hp} {p : Addr} {o : HO}
theorem Grow.refl (e : Ex G H) : Grow M G H G H := ⟨Ex.refl G, e, fun _ _ _ h => h, fun _ h => h, fun _ _ h => h⟩
theorem Grow.trans (a : Grow M G H G1 H1) (b : Grow M G1 H1 G2 H2) : Grow M G H G2 H2 :=
  ⟨a.g.trans b.g, b.gh, fun x o hm h => b.keep x o hm (a.keep x o hm h), fun x h => a.there x (b.there x h), fun x h1 h2 => b.new x (fun z => h1 (a.there x z)) (a.new x h1 h2)⟩
theorem Grow.weak (a : Grow N G H G1 H1) (h : ∀ x, N x → M x) : Grow M G H G1 H1 := ⟨a.g, a.gh, fun x o hm => a.keep x o fun z => hm (h x z), a.there, a.new⟩
theorem Grow.of0 (a : Grow M0 G H G1 H1) : Grow M G H G1 H1 := a.weak fun _ z => z.elim
theorem Grow.then0 (a : Grow M G H G1 H1) (b : Grow M0 G1 H1 G2 H2) : Grow M G H G2 H2 := a.trans b.of0
theorem Grow.ex (a : Grow M0 G H G1 H1) : Ex H H1 := fun x o h => a.keep x o (fun z => z) h
theorem Grow.laid (e : Ex G H) (h : H p = none) : Grow M G H (upd G p o) (upd H p o) := by
  have hg : G p = none := e.back h
  refine ⟨fun a u q => ?_, fun a u q => ?_, fun a u _ q => ?_, fun a q => ?_, fun a q1 q2 => ?_⟩
  · rw [upd_ne (ne_of_none q hg)]; exact q
  · by_cases z : a = p
    · subst z; rw [upd_same] at q ⊢; exact q
    · rw [upd_ne z] at q ⊢; exact e a u q
  · rw [upd_ne (ne_of_none q h)]; exact q
  · by_cases z : a = p
    · subst z; exact h
    · rw [upd_ne z] at q; exact q
  · have z : a ≠ p := fun z => q1 (by rw [z]; exact h)
    rw [upd_ne z]; exact q2
/-- a new object that may change -/
theorem Grow.mnew (e : Ex G H) (h : H p = none) : Grow M G H G (upd H p o) := by
  refine ⟨Ex.refl G, fun a u q => ?_, fun a u _ q => ?_, fun a q => ?_, fun a _ q2 => q2⟩
  · rw [upd_ne (ne_of_none q (e.back h))]; exact e a u q
  · rw [upd_ne (ne_of_none q h)]; exact q
  · by_cases z : a = p
    · subst z; exact h
    · rw [upd_ne z] at q; exact q
/-- an object changed that the entry did not know, or that may change -/
theorem Grow.set (a : Grow M G H G1 H1) (h0 : H p = none ∨ M p) (hg : G1 p = none) (ht : H1 p ≠ none) : Grow M G H G1 (upd H1 p o) := by
  refine ⟨a.g, fun x u q => ?_, fun x u hm q => ?_, fun x q => ?_, a.new⟩
  · rw [upd_ne (ne_of_none q hg)]; exact a.gh x u q
  · have z : x ≠ p := fun z => by
      subst z
      rcases h0 with h0 | h0
      · rw [h0] at q; cases q
      · exact hm h0
    rw [upd_ne z]; exact a.keep x u hm q
  · by_cases z : x = p
    · subst z; rw [upd_same] at q; cases q
    · rw [upd_ne z] at q; exact a.there x q
/-- .. stands still from now on -/
theorem Grow.freeze (a : Grow M G H G1 H1) (h0 : H p = none) (hg : G1 p = none) (ht : H1 p = some o) : Grow M G H (upd G1 p o) H1 := by
  refine ⟨fun x u q => ?_, fun x u q => ?_, a.keep, a.there, fun x q1 q2 => ?_⟩
  · rw [upd_ne (ne_of_none (a.g x u q) hg)]; exact a.g x u q
  · by_cases z : x = p
    · subst z; rw [upd_same] at q; cases q; exact ht
    · rw [upd_ne z] at q; exact a.gh x u q
  · have z : x ≠ p := fun z => q1 (by rw [z]; exact h0)
    rw [upd_ne z]; exact a.new x q1 q2
theorem Ex.frz (hg : G p = none) : Ex G (upd G p o) := fun x u q => by rw [upd_ne (ne_of_none q hg)]; exact q
end

/-! ### what expressions are worth -/
/-- te gives some data of S -/
def EvS (te : TE) (σ : VSt) (G : Hp) (S : PyData → Prop) : Prop := ∀ G1 H1, Ex G G1 → Ex G1 H1 → ∀ Q : VK, (∀ v d G2 H2, S d → Grow M0 G1 H1 G2 H2 → DD G2 v d → Q v H2) → te σ H1 Q
def EvD (te : TE) (σ : VSt) (G : Hp) (d : PyData) : Prop := EvS te σ G (fun x => x = d)
def EvB (tt : TT) (σ : VSt) (G : Hp) (b : Bool) : Prop := ∀ G1 H1, Ex G G1 → Ex G1 H1 → ∀ Q : Bool → Hp → Prop, (∀ G2 H2, Grow M0 G1 H1 G2 H2 → Q b H2) → tt σ H1 Q
def EvA (ta : TA) (σ : VSt) (G : Hp) (ds : List PyData) : Prop := ∀ G1 H1, Ex G G1 → Ex G1 H1 → ∀ Q : List V → Hp → Prop, (∀ vs G2 H2, Grow M0 G1 H1 G2 H2 → DDs G2 vs ds → Q vs H2) → ta σ H1 Q
def EvO (to : TO) (σ : VSt) (G : Hp) (o : Option Int) : Prop := ∀ G1 H1, Ex G G1 → Ex G1 H1 → ∀ Q : Option Int → Hp → Prop, (∀ G2 H2, Grow M0 G1 H1 G2 H2 → Q o H2) → to σ H1 Q
/-- te gives the very value v -/
def EvV (te : TE) (σ : VSt) (G : Hp) (v : V) : Prop := ∀ G1 H1, Ex G G1 → Ex G1 H1 → ∀ Q : VK, (∀ G2 H2, Grow M0 G1 H1 G2 H2 → Q v H2) → te σ H1 Q
/-- an operation on two data -/
def RvD (r : R2) (d e z : PyData) : Prop := ∀ G1 H1, Ex G1 H1 → ∀ x y, DD G1 x d → DD G1 y e → ∀ Q : VK, (∀ v G2 H2, Grow M0 G1 H1 G2 H2 → DD G2 v z → Q v H2) → r x y H1 Q
def RcD (r : List V → Hp → VK → Prop) (ds : List PyData) (z : PyData) : Prop := ∀ G1 H1, Ex G1 H1 → ∀ xs, DDs G1 xs ds → ∀ Q : VK, (∀ v G2 H2, Grow M0 G1 H1 G2 H2 → DD G2 v z → Q v H2) → r xs H1 Q
/-- a method: the receiver, the arguments -/
def RmD (r : V → List V → Hp → VK → Prop) (o : PyData) (ds : List PyData) (z : PyData) : Prop := ∀ G1 H1, Ex G1 H1 → ∀ x xs, DD G1 x o → DDs G1 xs ds → ∀ Q : VK, (∀ v G2 H2, Grow M0 G1 H1 G2 H2 → DD G2 v z → Q v H2) → r x xs H1 Q
section
variable {σ : VSt} {G G' H : Hp} {ta tb tc te : TE} {t u : TT} {d e z : PyData} {r r' : R2} {K : PySem.W.Frag}
theorem EvD.go (h : EvD te σ G d) (e : Ex G H) {Q : VK} (k : ∀ v G2 H2, Grow M0 G H G2 H2 → DD G2 v d → Q v H2) : te σ H Q :=
  h G H (Ex.refl G) e Q fun v d' G2 H2 ed g hv => k v G2 H2 g (ed ▸ hv)
theorem EvD.go' (h : EvD te σ G d) (e1 : Ex G G') (e : Ex G' H) {Q : VK} (k : ∀ v G2 H2, Grow M0 G' H G2 H2 → DD G2 v d → Q v H2) : te σ H Q :=
  h G' H e1 e Q fun v d' G2 H2 ed g hv => k v G2 H2 g (ed ▸ hv)
theorem EvD.mk (h : ∀ G1 H1, Ex G G1 → Ex G1 H1 → ∀ Q : VK, (∀ v G2 H2, Grow M0 G1 H1 G2 H2 → DD G2 v d → Q v H2) → te σ H1 Q) : EvD te σ G d :=
  fun G1 H1 a b Q q => h G1 H1 a b Q fun v G2 H2 g hv => q v d G2 H2 rfl g hv
theorem EvS.mono {S : PyData → Prop} (e : Ex G G') (h : EvS te σ G S) : EvS te σ G' S := fun G1 H1 a => h G1 H1 (e.trans a)
theorem EvD.mono (e : Ex G G') (h : EvD te σ G d) : EvD te σ G' d := EvS.mono e h
theorem EvB.mono {b : Bool} (e : Ex G G') (h : EvB t σ G b) : EvB t σ G' b := fun G1 H1 a => h G1 H1 (e.trans a)
theorem EvV.mono {v : V} (e : Ex G G') (h : EvV te σ G v) : EvV te σ G' v := fun G1 H1 a => h G1 H1 (e.trans a)
theorem EvA.mono {ta : TA} {ds : List PyData} (e : Ex G G') (h : EvA ta σ G ds) : EvA ta σ G' ds := fun G1 H1 a => h G1 H1 (e.trans a)
theorem EvD.is {d' : PyData} (h : EvD te σ G d) (e : d = d') : EvD te σ G d' := e ▸ h
theorem EvB.is {b b' : Bool} (h : EvB t σ G b) (e : b = b') : EvB t σ G b' := e ▸ h
theorem d_var {i : Nat} {v : V} (h : σ[i]? = some (some v)) (hd : DD G v d) : EvD (tVar i) σ G d := .mk fun G1 H1 e1 e2 Q q => ⟨v, h, q v G1 H1 (Grow.refl e2) (hd.up e1)⟩
theorem v_var {i : Nat} {v : V} (h : σ[i]? = some (some v)) : EvV (tVar i) σ G v := fun G1 H1 e1 e2 Q q => ⟨v, h, q G1 H1 (Grow.refl e2)⟩
theorem v_c {v : V} : EvV (tC v) σ G v := fun G1 H1 _ e2 Q q => q G1 H1 (Grow.refl e2)
theorem d_v {v : V} (h : EvV te σ G v) (hd : DD G v d) : EvD te σ G d := .mk fun G1 H1 e1 e2 Q q => h G1 H1 e1 e2 Q fun G2 H2 g => q v G2 H2 g (hd.up (e1.trans g.g))
theorem d_int {i : Int} : EvD (tC (.int i)) σ G (.int i) := d_v v_c (.int i)
theorem d_str {x : Str} : EvD (tC (.str x)) σ G (.str x) := d_v v_c (.str x)
theorem d_bl {x : Bool} : EvD (tC (.bl x)) σ G (.bool x) := d_v v_c (.bl x)
theorem d_non : EvD (tC .non) σ G .none := d_v v_c .non
theorem v_d (h : EvD te σ G d) {v : V} (hv : ∀ G x, DD G x d → x = v) : EvV te σ G v := fun G1 H1 e1 e2 Q q => h.go' e1 e2 fun v' G2 H2 g hd => (hv G2 v' hd) ▸ q G2 H2 g
theorem v_int {i : Int} (h : EvD te σ G (.int i)) : EvV te σ G (.int i) := v_d h fun _ _ q => q.eqI
theorem v_bl {i : Bool} (h : EvD te σ G (.bool i)) : EvV te σ G (.bl i) := v_d h fun _ _ q => q.eqB
theorem v_str {i : Str} (h : EvD te σ G (.str i)) : EvV te σ G (.str i) := v_d h fun _ _ q => q.eqS
/-! ### new lists that may change -/
structure ML (G H : Hp) (l : Addr) (ds : List PyData) : Prop where
  g : G l = none
  at_ : ∃ xs, H l = some (.lst xs) ∧ DDs G xs ds
theorem ML.there {l : Addr} {ds : List PyData} (m : ML G H l ds) : H l ≠ none := by
  obtain ⟨_, xs, h, _⟩ := m
  rw [h]; exact fun z => nomatch z
theorem ML.grow {M : Addr → Prop} {G2 H2 : Hp} {l : Addr} {ds : List PyData} (m : ML G H l ds) (g : Grow M G H G2 H2) (hm : ¬ M l) : ML G2 H2 l ds := by
  obtain ⟨a, xs, h, d⟩ := id m
  exact ⟨g.new l m.there a, xs, g.keep l _ hm h, d.up g.g⟩
theorem ML.grow0 {G2 H2 : Hp} {l : Addr} {ds : List PyData} (m : ML G H l ds) (g : Grow M0 G H G2 H2) : ML G2 H2 l ds := m.grow g fun z => z
theorem ML.new {l : Addr} {xs : List V} {ds : List PyData} (e : Ex G H) (h : H l = none) (d : DDs G xs ds) : ML G (upd H l (.lst xs)) l ds := ⟨e.back h, xs, upd_same, d⟩
/-- the list is left as it is from here on -/
theorem ML.fin {M : Addr → Prop} {G2 H2 : Hp} {l : Addr} {ds : List PyData} (m : ML G2 H2 l ds) (g : Grow M G H G2 H2) (h : H l = none) : ∃ G3, Grow M G H G3 H2 ∧ Ex G2 G3 ∧ DD G3 (.ref l) (.list ds) ∧ ∀ q es, q ≠ l → ML G2 H2 q es → ML G3 H2 q es := by
  obtain ⟨a, xs, hx, d⟩ := m
  refine ⟨upd G2 l (.lst xs), g.freeze h a hx, Ex.frz a, .lst upd_same (d.up (Ex.frz a)), fun q es hq ⟨b, ys, hy, dy⟩ => ⟨?_, ys, hy, dy.up (Ex.frz a)⟩⟩
  rw [upd_ne hq]; exact b
/-- what is true of it for a moment -/
theorem ML.frz {l : Addr} {ds : List PyData} (m : ML G H l ds) (e : Ex G H) : ∃ G3, Ex G G3 ∧ Ex G3 H ∧ DD G3 (.ref l) (.list ds) := by
  obtain ⟨a, xs, hx, d⟩ := m
  refine ⟨upd G l (.lst xs), Ex.frz a, fun x u q => ?_, .lst upd_same (d.up (Ex.frz a))⟩
  by_cases z : x = l
  · subst z; rw [upd_same] at q; cases q; exact hx
  · rw [upd_ne z] at q; exact e x u q
theorem Grow.drop {G3 G5 H5 : Hp} (g : Grow M0 G3 H G5 H5) (e : Ex G G3) (e3 : Ex G3 H) : Grow M0 G H G H5 := ⟨Ex.refl G, fun x u q => g.gh x u (g.g x u (e x u q)), g.keep, g.there, fun _ _ q => q⟩
/-- the list changed -/
theorem ML.set {l : Addr} {xs : List V} {ds es : List PyData} (m : ML G H l ds) (e : Ex G H) (d : DDs G xs es) : Grow (fun a => a = l) G H G (upd H l (.lst xs)) ∧ ML G (upd H l (.lst xs)) l es :=
  ⟨(Grow.refl e).set (.inr rfl) m.g m.there, m.g, xs, upd_same, d⟩
/-- te gives a new list that may change, of the data ds -/
def EvM (te : TE) (σ : VSt) (G : Hp) (ds : List PyData) : Prop := ∀ G1 H1, Ex G G1 → Ex G1 H1 → ∀ Q : VK, (∀ p G2 H2, H1 p = none → Grow M0 G1 H1 G2 H2 → ML G2 H2 p ds → Q (.ref p) H2) → te σ H1 Q
theorem EvM.toD {ds : List PyData} (h : EvM te σ G ds) : EvD te σ G (.list ds) := .mk fun G1 H1 e1 e2 Q q => h G1 H1 e1 e2 Q fun p G2 H2 hp g m => by
  obtain ⟨G3, g3, _, hd, _⟩ := m.fin g hp
  exact q _ _ _ g3 hd
theorem d_op (ha : EvD ta σ G d) (hb : EvD tb σ G e) (hr : RvD r d e z) : EvD (tOp r ta tb) σ G z := .mk fun G1 H1 e1 e2 Q q =>
  ha.go' e1 e2 fun x G2 H2 g2 hx => hb.go' (e1.trans g2.g) g2.gh fun y G3 H3 g3 hy => hr G3 H3 g3.gh x y (hx.up g3.g) hy Q fun v G4 H4 g4 hv => q v G4 H4 ((g2.trans g3).trans g4) hv
theorem d_val {x y : V} (hx : ∀ G a, DD G a d → a = x) (hy : ∀ G a, DD G a e → a = y) {w : V} (hw : ∀ G, DD G w z) (h : ∀ H (Q : VK), Q w H → r x y H Q) : RvD r d e z := fun G1 H1 e1 a b ha hb Q q => by
  rw [hx _ _ ha, hy _ _ hb]
  exact h H1 Q (q w G1 H1 (Grow.refl e1) (hw G1))
theorem r_I0 {g : Int → Int → Int} {i j : Int} : RvD (rI0 fun i j => .int (g i j)) (.int i) (.int j) (.int (g i j)) :=
  d_val (fun _ _ q => q.eqI) (fun _ _ q => q.eqI) (fun _ => .int _) fun H Q q => ⟨i, j, rfl, rfl, q⟩
theorem r_B0 {g : Int → Int → Bool} {i j : Int} : RvD (rI0 fun i j => .bl (g i j)) (.int i) (.int j) (.bool (g i j)) :=
  d_val (fun _ _ q => q.eqI) (fun _ _ q => q.eqI) (fun _ => .bl _) fun H Q q => ⟨i, j, rfl, rfl, q⟩
theorem r_I {C : Int → Int → Prop} {g : Int → Int → Int} {i j : Int} (hc : C i j) : RvD (rI C fun i j => .int (g i j)) (.int i) (.int j) (.int (g i j)) :=
  d_val (fun _ _ q => q.eqI) (fun _ _ q => q.eqI) (fun _ => .int _) fun H Q q => ⟨i, j, rfl, rfl, hc, q⟩
theorem r_eq (h1 : SeqAt.shaped d = true) (h2 : SeqAt.shaped e = true) : RvD (rEqD K) d e (.bool (PyData.eqv d e)) := fun G1 H1 e1 a b ha hb Q q =>
  ⟨d, e, DD.dp e1 d a ha, DD.dp e1 e b hb, h1, h2, q _ G1 H1 (Grow.refl e1) (.bl _)⟩
theorem r_ne (h1 : SeqAt.shaped d = true) (h2 : SeqAt.shaped e = true) : RvD (rNeD K) d e (.bool (!PyData.eqv d e)) := fun G1 H1 e1 a b ha hb Q q =>
  ⟨d, e, DD.dp e1 d a ha, DD.dp e1 e b hb, h1, h2, q _ G1 H1 (Grow.refl e1) (.bl _)⟩
theorem r_in {ds : List PyData} (h1 : SeqAt.shaped d = true) (h2 : SeqAt.shaped (.list ds) = true) : RvD (rInD K) d (.list ds) (.bool (ds.any fun z => PyData.eqv z d)) := fun G1 H1 e1 a b ha hb Q q =>
  ⟨d, ds, DD.dp e1 d a ha, DD.dp e1 _ b hb, h1, h2, q _ G1 H1 (Grow.refl e1) (.bl _)⟩
theorem r_notin {ds : List PyData} (h1 : SeqAt.shaped d = true) (h2 : SeqAt.shaped (.list ds) = true) : RvD (rNotInD K) d (.list ds) (.bool (!ds.any fun z => PyData.eqv z d)) := fun G1 H1 e1 a b ha hb Q q =>
  ⟨d, ds, DD.dp e1 d a ha, DD.dp e1 _ b hb, h1, h2, q _ G1 H1 (Grow.refl e1) (.bl _)⟩
/-- an item by its place -/
theorem r_ixL {ds : List PyData} {i : Int} (h : atI ds i = some d) : RvD (rIx K) (.list ds) (.int i) d := fun G1 H1 e1 a b ha hb Q q => by
  obtain ⟨p, xs, rfl, hp, hx⟩ := ha.eqL
  rw [hb.eqI]
  obtain ⟨j, h1, h2, h3, h4, h5⟩ := atI_get h
  obtain ⟨v, h6, h7⟩ := hx.get h2
  refine .inl ⟨p, xs, i, v, rfl, rfl, .inl (.inl (e1 _ _ hp)), ?_, q v G1 H1 (Grow.refl e1) h7⟩
  unfold atI at h ⊢
  rw [hx.length]
  obtain ⟨j', e', hj'⟩ := Option.bind_eq_some_iff.mp h
  rw [e']
  obtain ⟨v', h6', h7'⟩ := hx.get hj'
  have : j' = j := by
    have z1 := (ixN_seq e').1
    rw [h1] at z1
    exact (Option.some.inj z1).symm
  subst this
  exact h6
theorem r_ixT {ds : List PyData} {i : Int} (h : atI ds i = some d) : RvD (rIx K) (.tuple ds) (.int i) d := fun G1 H1 e1 a b ha hb Q q => by
  obtain ⟨p, xs, rfl, hp, hx⟩ := ha.eqT
  rw [hb.eqI]
  obtain ⟨j, h1, h2, h3, h4, h5⟩ := atI_get h
  obtain ⟨v, h6, h7⟩ := hx.get h2
  refine .inr (.inl ⟨p, xs, i, v, rfl, rfl,   .inl (up_rd hp e1), ?_, q v G1 H1 (Grow.refl e1) h7⟩)
  unfold atI at h ⊢
  rw [hx.length]
  obtain ⟨j', e', hj'⟩ := Option.bind_eq_some_iff.mp h
  rw [e']
  obtain ⟨v', h6', h7'⟩ := hx.get hj'
  have : j' = j := by
    have z1 := (ixN_seq e').1
    rw [h1] at z1
    exact (Option.some.inj z1).symm
  subst this
  exact h6
theorem r_ixS {x : Str} {i : Int} {c : Nat} (hl : x.length ≤ 100000) (h : atI x.cps.toList i = some c) : RvD (rIx K) (.str x) (.int i) (.str ⟨#[c]⟩) := fun G1 H1 e1 a b ha hb Q q => by
  rw [ha.eqS, hb.eqI]
  exact .inr (.inr ⟨x, i, c, rfl, rfl, Evl.sz_of hl, h, q _ G1 H1 (Grow.refl e1) (.str _)⟩)
theorem r_catT {ds es : List PyData} (h0 : ds ≠ []) (h1 : es ≠ []) (hl : ds.length + es.length ≤ 100000) : RvD (rCatT K) (.tuple ds) (.tuple es) (.tuple (ds ++ es)) := fun G1 H1 e1 a b ha hb Q q => by
  obtain ⟨p, xs, rfl, hp, hx⟩ := ha.eqT
  obtain ⟨p', ys, rfl, hp', hy⟩ := hb.eqT
  have l1 := hx.length
  have l2 := hy.length
  have n0 : xs ≠ [] := fun z => h0 (by rw [z] at l1; exact List.eq_nil_of_length_eq_zero l1.symm)
  have n1 : ys ≠ [] := fun z => h1 (by rw [z] at l2; exact List.eq_nil_of_length_eq_zero l2.symm)
  refine ⟨p, p', xs, ys, rfl, rfl, .inl (up_rd hp e1), .inl (up_rd hp' e1), n0, Evl.sz_of (by omega), ?_⟩
  refine ⟨fun z => absurd z n1, fun _ p2 hp2 => ?_⟩
  refine q _ _ _ (Grow.laid e1 hp2) (.tup (.inl upd_same) ?_)
  have g : Ex G1 (upd G1 p2 (.tup (xs ++ ys))) := Ex.frz (e1.back hp2)
  exact DDs.append (hx.up g) (hy.up g)
/-- a new object, its items known -/
theorem new_lst {M : Addr → Prop} {H1 : Hp} {p : Addr} {xs : List V} {ds : List PyData} (e : Ex G H1) (hp : H1 p = none) (hx : DDs G xs ds) : Grow M G H1 (upd G p (.lst xs)) (upd H1 p (.lst xs)) ∧ DD (upd G p (.lst xs)) (.ref p) (.list ds) :=
  ⟨Grow.laid e hp, .lst upd_same (hx.up (Ex.frz (e.back hp)))⟩
theorem new_tup {M : Addr → Prop} {H1 : Hp} {p : Addr} {xs : List V} {ds : List PyData} (e : Ex G H1) (hp : H1 p = none) (hx : DDs G xs ds) : Grow M G H1 (upd G p (.tup xs)) (upd H1 p (.tup xs)) ∧ DD (upd G p (.tup xs)) (.ref p) (.tuple ds) :=
  ⟨Grow.laid e hp, .tup (.inl upd_same) (hx.up (Ex.frz (e.back hp)))⟩
theorem m_catL {ds es : List PyData} (ha : EvD ta σ G (.list ds)) (hb : EvD tb σ G (.list es)) (hl : ds.length + es.length ≤ 100000) : EvM (tOp rCat ta tb) σ G (ds ++ es) := fun G1 H1 e1 e2 Q q =>
  ha.go' e1 e2 fun x G2 H2 g2 hx => hb.go' (e1.trans g2.g) g2.gh fun y G3 H3 g3 hy => by
    obtain ⟨p, xs, rfl, hp, hx⟩ := (hx.up g3.g).eqL
    obtain ⟨p', ys, rfl, hp', hy⟩ := hy.eqL
    have l1 := hx.length
    have l2 := hy.length
    exact ⟨p, p', xs, ys, rfl, rfl, g3.gh _ _ hp, g3.gh _ _ hp', Evl.sz_of (by omega), fun p2 hp2 => q p2 _ _ ((g2.trans g3).there p2 hp2) ((g2.trans g3).trans (Grow.mnew g3.gh hp2)) (ML.new g3.gh hp2 (hx.append hy))⟩
theorem r_catL {ds es : List PyData} (hl : ds.length + es.length ≤ 100000) : RvD rCat (.list ds) (.list es) (.list (ds ++ es)) := fun G1 H1 e1 a b ha hb Q q => by
  obtain ⟨p, xs, rfl, hp, hx⟩ := ha.eqL
  obtain ⟨p', ys, rfl, hp', hy⟩ := hb.eqL
  have l1 := hx.length
  have l2 := hy.length
  refine ⟨p, p', xs, ys, rfl, rfl, e1 _ _ hp, e1 _ _ hp', Evl.sz_of (by omega), fun p2 hp2 => ?_⟩
  obtain ⟨g, hd⟩ := new_lst e1 hp2 (hx.append hy)
  exact q _ _ _ g hd
theorem r_catS {x y : Str} (hl : x.length + y.length ≤ 100000) : RvD (fun x y H Q => ∃ i j, x = V.str i ∧ y = V.str j ∧ i.length + j.length ≤ sizeLine ∧ Q (V.str (i ++ j)) H) (.str x) (.str y) (.str (x ++ y)) :=
  d_val (fun _ _ q => q.eqS) (fun _ _ q => q.eqS) (fun _ => .str _) fun H Q q => ⟨x, y, rfl, rfl, Evl.sz_of hl, q⟩
/-- x in a written tuple of flat things -/
theorem r_inT {ds : List PyData} {x : V} {xs : List V} {b : Bool} (h1 : ∀ G a, DD G a d → a = x) (h2 : ∀ G as, DDs G as ds → as = xs) (f1 : flatV x = true) (f2 : xs.all flatV = true) (hb : inV x xs = b) : RvD (rIn K false) d (.tuple ds) (.bool b) := fun G1 H1 e1 a b' ha hb' Q q => by
  obtain ⟨p, ys, rfl, hp, hy⟩ := hb'.eqT
  have z := h2 _ _ hy
  subst z
  rw [h1 _ _ ha]
  refine ⟨p, ys, rfl, .inr (.inl (up_rd hp e1)), f1, f2, ?_⟩
  show Q (.bl (inV x ys)) H1
  rw [hb]
  exact q _ G1 H1 (Grow.refl e1) (.bl _)
/-! ### tests -/
theorem b_test {b : Bool} (h : EvD te σ G (.bool b)) : EvB (tTest te) σ G b := fun G1 H1 e1 e2 Q q => v_bl h G1 H1 e1 e2 _ fun G2 H2 g => ⟨b, rfl, q G2 H2 g⟩
theorem b_B {b : Bool} (h : EvD te σ G (.bool b)) : EvB (tB te) σ G b := fun G1 H1 e1 e2 Q q => v_bl h G1 H1 e1 e2 _ fun G2 H2 g => ⟨b, rfl, q G2 H2 g⟩
theorem b_not {b : Bool} (h : EvB t σ G b) : EvB (tNot t) σ G (!b) := fun G1 H1 e1 e2 Q q => h G1 H1 e1 e2 _ fun G2 H2 g => q G2 H2 g
theorem b_and {a b : Bool} (h1 : EvB t σ G a) (h2 : a = true → EvB u σ G b) : EvB (tAnd t u) σ G (a && b) := fun G1 H1 e1 e2 Q q => h1 G1 H1 e1 e2 _ fun G2 H2 g => by
  cases a with
  | true => exact h2 rfl G2 H2 (e1.trans g.g) g.gh Q fun G3 H3 g3 => q G3 H3 (g.trans g3)
  | false => exact q G2 H2 g
theorem b_or {a b : Bool} (h1 : EvB t σ G a) (h2 : a = false → EvB u σ G b) : EvB (tOr t u) σ G (a || b) := fun G1 H1 e1 e2 Q q => h1 G1 H1 e1 e2 _ fun G2 H2 g => by
  cases a with
  | true => exact q G2 H2 g
  | false => exact h2 rfl G2 H2 (e1.trans g.g) g.gh Q fun G3 H3 g3 => q G3 H3 (g.trans g3)
theorem d_andV {a b : Bool} (h1 : EvD ta σ G (.bool a)) (h2 : a = true → EvD tb σ G (.bool b)) : EvD (tAndV ta tb) σ G (.bool (a && b)) := .mk fun G1 H1 e1 e2 Q q => v_bl h1 G1 H1 e1 e2 _ fun G2 H2 g => ⟨a, rfl, by
  cases a with
  | true => exact (h2 rfl).go' (e1.trans g.g) g.gh fun v G3 H3 g3 hv => q v G3 H3 (g.trans g3) hv
  | false => exact q _ G2 H2 g (.bl _)⟩
theorem d_orV {a b : Bool} (h1 : EvD ta σ G (.bool a)) (h2 : a = false → EvD tb σ G (.bool b)) : EvD (tOrV ta tb) σ G (.bool (a || b)) := .mk fun G1 H1 e1 e2 Q q => v_bl h1 G1 H1 e1 e2 _ fun G2 H2 g => ⟨a, rfl, by
  cases a with
  | true => exact q _ G2 H2 g (.bl _)
  | false => exact (h2 rfl).go' (e1.trans g.g) g.gh fun v G3 H3 g3 hv => q v G3 H3 (g.trans g3) hv⟩
theorem d_notV {a : Bool} (h1 : EvD ta σ G (.bool a)) : EvD (tNotV ta) σ G (.bool (!a)) := .mk fun G1 H1 e1 e2 Q q => v_bl h1 G1 H1 e1 e2 _ fun G2 H2 g => ⟨a, rfl, q _ G2 H2 g (.bl _)⟩
theorem d_if {b : Bool} {d1 d2 : PyData} (h : EvB t σ G b) (h1 : b = true → EvD ta σ G d1) (h2 : b = false → EvD tb σ G d2) : EvD (tIf t ta tb) σ G (if b = true then d1 else d2) := .mk fun G1 H1 e1 e2 Q q => h G1 H1 e1 e2 _ fun G2 H2 g => by
  cases b with
  | true => exact (h1 rfl).go' (e1.trans g.g) g.gh fun v G3 H3 g3 hv => q v G3 H3 (g.trans g3) hv
  | false => exact (h2 rfl).go' (e1.trans g.g) g.gh fun v G3 H3 g3 hv => q v G3 H3 (g.trans g3) hv
theorem s_if {b : Bool} {S : PyData → Prop} (h : EvB t σ G b) (h1 : b = true → EvS ta σ G S) (h2 : b = false → EvS tb σ G S) : EvS (tIf t ta tb) σ G S := fun G1 H1 e1 e2 Q q => h G1 H1 e1 e2 _ fun G2 H2 g => by
  cases b with
  | true => exact h1 rfl G2 H2 (e1.trans g.g) g.gh Q fun v d G3 H3 s g3 hv => q v d G3 H3 s (g.trans g3) hv
  | false => exact h2 rfl G2 H2 (e1.trans g.g) g.gh Q fun v d G3 H3 s g3 hv => q v d G3 H3 s (g.trans g3) hv
/-! ### arguments, displays, calls -/
theorem a_nil : EvA tNil σ G [] := fun G1 H1 _ e2 Q q => q [] G1 H1 (Grow.refl e2) .nil
theorem a_cons {tr : TA} {ds : List PyData} (h : EvD ta σ G d) (hr : EvA tr σ G ds) : EvA (tCons ta tr) σ G (d :: ds) := fun G1 H1 e1 e2 Q q =>
  h.go' e1 e2 fun v G2 H2 g hv => hr G2 H2 (e1.trans g.g) g.gh _ fun vs G3 H3 g3 hvs => q _ G3 H3 (g.trans g3) (.cons (hv.up g3.g) hvs)
theorem d_tup {tr : TA} {ds : List PyData} (h : EvA tr σ G ds) (hl : ds.length ≤ 100000 := by first | decide | simp) : EvD (tTup tr) σ G (.tuple ds) := .mk fun G1 H1 e1 e2 Q q =>
  h G1 H1 e1 e2 _ fun vs G2 H2 g hvs => ⟨Evl.sz_of (by rw [hvs.length]; exact hl), fun p hp => q _ _ _ (g.trans (new_tup g.gh hp hvs).1) (new_tup (M := M0) g.gh hp hvs).2⟩
theorem m_lst {tr : TA} {ds : List PyData} (h : EvA tr σ G ds) (hl : ds.length ≤ 100000 := by first | decide | simp) : EvM (tLst tr) σ G ds := fun G1 H1 e1 e2 Q q =>
  h G1 H1 e1 e2 _ fun vs G2 H2 g hvs => ⟨Evl.sz_of (by rw [hvs.length]; exact hl), fun p hp => q p _ _ (g.there p hp) (g.trans (Grow.mnew g.gh hp)) (ML.new g.gh hp hvs)⟩
theorem d_lst {tr : TA} {ds : List PyData} (h : EvA tr σ G ds) (hl : ds.length ≤ 100000 := by first | decide | simp) : EvD (tLst tr) σ G (.list ds) := (m_lst h hl).toD
theorem d_cb {r : List V → Hp → VK → Prop} {tr : TA} {ds : List PyData} (h : EvA tr σ G ds) (hr : RcD r ds z) : EvD (tCB r tr) σ G z := .mk fun G1 H1 e1 e2 Q q =>
  h G1 H1 e1 e2 _ fun vs G2 H2 g hvs => hr G2 H2 g.gh vs hvs Q fun v G3 H3 g3 hv => q v G3 H3 (g.trans g3) hv
/-- a method of a text -/
theorem d_m0 {r : V → List V → Hp → VK → Prop} {x : Str} (h : EvD te σ G (.str x)) (hr : RmD r (.str x) [] z) : EvD (tM0 r te) σ G z := .mk fun G1 H1 e1 e2 Q q =>
  h.go' e1 e2 fun v G2 H2 g hv => by
    have e := hv.eqS
    subst e
    exact ⟨⟨x, rfl⟩, hr G2 H2 g.gh _ [] hv .nil Q fun v G3 H3 g3 hv => q v G3 H3 (g.trans g3) hv⟩
theorem d_m1 {r : V → List V → Hp → VK → Prop} {x : Str} (h : EvD te σ G (.str x)) (ha : EvD ta σ G d) (hr : RmD r (.str x) [d] z) : EvD (tM1 r te ta) σ G z := .mk fun G1 H1 e1 e2 Q q =>
  h.go' e1 e2 fun v G2 H2 g hv => by
    have e := hv.eqS
    subst e
    exact ⟨⟨x, rfl⟩, ha.go' (e1.trans g.g) g.gh fun y G3 H3 g3 hy => hr G3 H3 g3.gh _ [y] (.str _) (.one hy) Q fun v G4 H4 g4 hv => q v G4 H4 ((g.trans g3).trans g4) hv⟩
/-- a method of a list -/
theorem d_bmL {r : V → List V → Hp → VK → Prop} {tr : TA} {os ds : List PyData} (h : EvD te σ G (.list os)) (ha : EvA tr σ G ds) (hr : RmD r (.list os) ds z) : EvD (tBM K "list" r te tr) σ G z := .mk fun G1 H1 e1 e2 Q q =>
  h.go' e1 e2 fun v G2 H2 g hv => by
    obtain ⟨a, xs, rfl, hp, hx⟩ := hv.eqL
    exact ⟨.inl ⟨rfl, xs, .inl (.inl (g.gh _ _ hp))⟩, ha G2 H2 (e1.trans g.g) g.gh _ fun vs G3 H3 g3 hvs => hr G3 H3 g3.gh _ _ (hv.up g3.g) hvs Q fun v G4 H4 g4 hv => q v G4 H4 ((g.trans g3).trans g4) hv⟩
/-- slices -/
theorem o_none : EvO tNoPart σ G none := fun G1 H1 _ e2 Q q => q G1 H1 (Grow.refl e2)
theorem o_some {i : Int} (h : EvD te σ G (.int i)) : EvO (tPart te) σ G (some i) := fun G1 H1 e1 e2 Q q => v_int h G1 H1 e1 e2 _ fun G2 H2 g => ⟨i, rfl, q G2 H2 g⟩
def cutD (ds : List PyData) (lo hi : Option Int) : List PyData := (ds.drop (HT.sIx ds.length 0 lo)).take (HT.sIx ds.length ds.length hi - HT.sIx ds.length 0 lo)
theorem m_slL {tl th : TO} {ds : List PyData} {lo hi : Option Int} (h : EvD te σ G (.list ds)) (h1 : EvO tl σ G lo) (h2 : EvO th σ G hi) : EvM (tSl (rSlL K) te tl th) σ G (cutD ds lo hi) := fun G1 H1 e1 e2 Q q =>
  h.go' e1 e2 fun v G2 H2 g hv => h1 G2 H2 (e1.trans g.g) g.gh _ fun G3 H3 g3 => h2 G3 H3 ((e1.trans g.g).trans g3.g) g3.gh _ fun G4 H4 g4 => by
    obtain ⟨a, xs, rfl, hp, hx⟩ := hv.eqL
    refine ⟨a, xs, rfl, .inl (.inl (g4.gh _ _ (g4.g _ _ (g3.g _ _ hp)))), fun p hp2 => ?_⟩
    have hx4 : DDs G4 (cutV xs lo hi) (cutD ds lo hi) := by
      have z := (hx.up (g3.g.trans g4.g))
      unfold cutV cutD
      rw [hx.length]
      exact (z.drop _).take _
    exact q p _ _ (((g.trans g3).trans g4).there p hp2) (((g.trans g3).trans g4).trans (Grow.mnew g4.gh hp2)) (ML.new g4.gh hp2 hx4)
/-! ### functions whose answer hangs on data alone -/
/-- the promise: from data ds, an answer of R ds -/
def spR (R : List PyData → (PyData → Prop) → Prop) : Sp := fun vs H Q _ => ∃ G ds S, R ds S ∧ Ex G H ∧ DDs G vs ds ∧ ∀ v d G2 H2, S d → Grow M0 G H G2 H2 → DD G2 v d → Q v H2
theorem s_call {R : List PyData → (PyData → Prop) → Prop} {E : XK} {tr : TA} {ds : List PyData} {S : PyData → Prop} (h : EvA tr σ G ds) (hR : R ds S) : EvS (tCall (spR R) [] E tr) σ G S := fun G1 H1 e1 e2 Q q =>
  h G1 H1 e1 e2 _ fun vs G2 H2 g hvs => by
    rw [List.append_nil]
    exact ⟨G2, ds, S, hR, g.gh, hvs, fun v d G3 H3 hs g3 hv => q v d G3 H3 hs (g.trans g3) hv⟩
theorem d_call {R : List PyData → (PyData → Prop) → Prop} {E : XK} {tr : TA} {ds : List PyData} (h : EvA tr σ G ds) (hR : R ds (fun x => x = z)) : EvD (tCall (spR R) [] E tr) σ G z := s_call h hR
theorem s_weak {S S' : PyData → Prop} (h : EvS te σ G S) (w : ∀ d, S d → S' d) : EvS te σ G S' := fun G1 H1 e1 e2 Q q => h G1 H1 e1 e2 Q fun v d G2 H2 s g hv => q v d G2 H2 (w d s) g hv
end

/-! ### targets -/
section
variable {σ : VSt} {G H : Hp} {K : PySem.W.Frag} {Q : VSt → Hp → Prop}
theorem g_tup2 {x : V} {d1 d2 : PyData} {i j : Nat} (h : DD G x (.tuple [d1, d2])) (e : Ex G H) (k : ∀ v1 v2, DD G v1 d1 → DD G v2 d2 → Q ((σ.set i (some v1)).set j (some v2)) H) : gTup K 2 (gCons (gName i) (gCons (gName j) gNil)) x σ H Q := by
  obtain ⟨a, xs, rfl, hp, hx⟩ := h.eqT
  obtain ⟨v1, r1, rfl, h1, hx⟩ := hx.inv
  obtain ⟨v2, r2, rfl, h2, hx⟩ := hx.inv
  obtain rfl := hx.inv0
  exact ⟨a, _, rfl, .inl (up_rd hp e), rfl, _, _, rfl, _, _, rfl, rfl, k _ _ h1 h2⟩
theorem g_tup3 {x : V} {d1 d2 d3 : PyData} {i j l : Nat} (h : DD G x (.tuple [d1, d2, d3])) (e : Ex G H) (k : ∀ v1 v2 v3, DD G v1 d1 → DD G v2 d2 → DD G v3 d3 → Q (((σ.set i (some v1)).set j (some v2)).set l (some v3)) H) :
    gTup K 3 (gCons (gName i) (gCons (gName j) (gCons (gName l) gNil))) x σ H Q := by
  obtain ⟨a, xs, rfl, hp, hx⟩ := h.eqT
  obtain ⟨v1, r1, rfl, h1, hx⟩ := hx.inv
  obtain ⟨v2, r2, rfl, h2, hx⟩ := hx.inv
  obtain ⟨v3, r3, rfl, h3, hx⟩ := hx.inv
  obtain rfl := hx.inv0
  exact ⟨a, _, rfl, .inl (up_rd hp e), rfl, _, _, rfl, _, _, rfl, _, _, rfl, rfl, k _ _ _ h1 h2 h3⟩
end

/-! ### comprehensions -/
section
variable {σ : VSt} {G G' H : Hp} {te tl : TE} {tt : TT} {K : PySem.W.Frag} {g : TG} {vs : List Nat}
/-- what stands at the new list's place -/
structure Cw (G H : Hp) (D : Addr) (H0 : Hp) (ds : List PyData) (G2 H2 : Hp) : Prop where
  gr : Grow M0 G H G2 H2
  g0 : G2 D = none
  hD : H D = none
  at_ : ∃ xs, H2 D = some (.lst xs) ∧ DDs G2 xs ds
theorem Cw.start {D : Addr} (e : Ex G H) (h : H D = none) : Cw G H D H [] G (upd H D (.lst [])) := ⟨Grow.mnew e h, e.back h, h, [], upd_same, .nil⟩
theorem Cw.turn {D : Addr} {H0 G2 H2 : Hp} {ds : List PyData} {b : Bool} {f : PyData} {σ2 : VSt} (c : Cw G H D H0 ds G2 H2) (hl : ds.length < 100000) (ht : EvB tt σ2 G2 b) (he : b = true → EvD te σ2 G2 f) {Nx : Hp → Prop}
    (k : ∀ G3 H3, Cw G H D H0 (if b = true then ds ++ [f] else ds) G3 H3 → Nx H3) :
    tt σ2 H2 fun b H3 => if b = true then te σ2 H3 fun y H4 => ∃ acc, H4 D = some (.lst acc) ∧ acc.length < sizeLine ∧ Nx (upd H4 D (.lst (acc ++ [y]))) else Nx H3 := by
  obtain ⟨gr, g0, hD, xs, hx, hd⟩ := c
  refine ht G2 H2 (Ex.refl G2) gr.gh _ fun G3 H3 g3 => ?_
  have hn : H2 D ≠ none := by rw [hx]; exact fun z => nomatch z
  have g03 : G3 D = none := g3.new D hn g0
  have hx3 : H3 D = some (.lst xs) := g3.ex _ _ hx
  cases b with
  | true =>
    show te σ2 H3 _
    refine (he rfl).go' g3.g g3.gh fun y G4 H4 g4 hy => ?_
    have hx4 : H4 D = some (.lst xs) := g4.ex _ _ hx3
    have g04 : G4 D = none := g4.new D (by rw [hx3]; exact fun z => nomatch z) g03
    refine ⟨xs, hx4, Evl.sz_lt (by rw [hd.length]; exact hl), k G4 _ ⟨(gr.trans (g3.trans g4)).set (.inl hD) g04 (by rw [hx4]; exact fun z => nomatch z), g04, hD, _, upd_same, (hd.up (g3.g.trans g4.g)).append (.one hy)⟩⟩
  | false =>
    show Nx H3
    exact k G3 H3 ⟨gr.trans g3, g03, hD, xs, hx3, hd.up g3.g⟩
theorem Cw.ml {D : Addr} {H0 G2 H2 : Hp} {ds : List PyData} (c : Cw G H D H0 ds G2 H2) : ML G2 H2 D ds := ⟨c.g0, c.at_⟩
theorem filter_step {α β : Type} (xs : List α) (p : α → Bool) (f : α → β) (i : Nat) (x : α) (h : xs[i]? = some x) :
    (((xs.take (i + 1)).filter p).map f) = if p x = true then ((xs.take i).filter p).map f ++ [f x] else ((xs.take i).filter p).map f := by
  rw [List.take_add_one, h, List.filter_append, List.map_append]
  show _ ++ ([x].filter p).map f = _
  by_cases hp : p x = true
  · rw [if_pos hp, List.filter_cons, if_pos hp]; rfl
  · rw [if_neg hp, List.filter_cons, if_neg hp]; simp
theorem filter_len {α β : Type} (xs : List α) (p : α → Bool) (f : α → β) : ((xs.filter p).map f).length ≤ xs.length := by
  rw [List.length_map]; exact List.length_filter_le _ _
/-- [f x for x in xs if p x], xs a list -/
theorem m_lcL {α : Type} {enc : α → PyData} {xs : List α} (p : α → Bool) (f : α → PyData) (h : EvD tl σ G (.list (xs.map enc))) (hl : xs.length ≤ 50000)
    (hg : ∀ (x : α) (v : V) (G1 H1 : Hp), x ∈ xs → Ex G G1 → Ex G1 H1 → DD G1 v (enc x) → ∀ Q : VSt → Hp → Prop, (∀ σ2, wipe σ2 vs = wipe σ vs → EvB tt σ2 G1 (p x) → (p x = true → EvD te σ2 G1 (f x)) → Q σ2 H1) → g v (wipe σ vs) H1 Q) :
    EvM (tLc (iList K tl) g tt te vs) σ G ((xs.filter p).map f) := fun G1 H1 e1 e2 Q q =>
  h.go' e1 e2 fun v G2 H2 g2 hv => by
    obtain ⟨a, ys, rfl, hp, hy⟩ := hv.eqL
    refine ⟨a, rfl, ⟨ys, .inl (.inl (g2.gh _ _ hp))⟩, fun D hD => ?_⟩
    have hlen : ys.length = xs.length := by rw [hy.length, List.length_map]
    refine lc_list (K := K) (a := a) (xs := ys) (fun i H' => ∃ G', Cw G2 H2 D H2 (((xs.take i).filter p).map f) G' H') ⟨G2, Cw.start g2.gh hD⟩ (fun i H' _ ⟨G', c⟩ => .inl (.inl (c.gr.gh _ _ (c.gr.g _ _ hp)))) (fun i x H' hi ⟨G', c⟩ => ?_) (fun H' ⟨G', c⟩ => ?_)
    · have hi' : i < xs.length := by rw [← hlen]; exact (List.getElem?_eq_some_iff.mp hi).1
      obtain ⟨d, hd, hxd⟩ := hy.at hi
      rw [List.getElem?_map, List.getElem?_eq_getElem hi'] at hd
      have ed : enc xs[i] = d := Option.some.inj hd
      subst ed
      refine hg xs[i] x G' H' (List.getElem_mem hi') ((e1.trans g2.g).trans c.gr.g) c.gr.gh (hxd.up c.gr.g) _ fun σ2 hw ht he => ⟨hw, ?_⟩
      exact c.turn (by have := filter_len (xs.take i) p f; rw [List.length_take] at this; omega) ht he fun G3 H3 c3 => ⟨G3, by rw [filter_step xs p f i xs[i] (List.getElem?_eq_getElem hi')]; exact c3⟩
    · have e : xs.take ys.length = xs := by rw [hlen, List.take_length]
      rw [e] at c
      exact q _ _ _ (g2.there _ hD) (g2.trans c.gr) c.ml
/-- .. xs a tuple -/
theorem m_lcT {α : Type} {enc : α → PyData} {xs : List α} (p : α → Bool) (f : α → PyData) (h : EvD tl σ G (.tuple (xs.map enc))) (hl : xs.length ≤ 50000)
    (hg : ∀ (x : α) (v : V) (G1 H1 : Hp), x ∈ xs → Ex G G1 → Ex G1 H1 → DD G1 v (enc x) → ∀ Q : VSt → Hp → Prop, (∀ σ2, wipe σ2 vs = wipe σ vs → EvB tt σ2 G1 (p x) → (p x = true → EvD te σ2 G1 (f x)) → Q σ2 H1) → g v (wipe σ vs) H1 Q) :
    EvM (tLc (iTup K tl) g tt te vs) σ G ((xs.filter p).map f) := fun G1 H1 e1 e2 Q q =>
  h.go' e1 e2 fun v G2 H2 g2 hv => by
    obtain ⟨a, ys, rfl, hp, hy⟩ := hv.eqT
    refine ⟨a, rfl, ⟨ys, .inl (up_rd hp g2.gh)⟩, fun D hD => ?_⟩
    have hlen : ys.length = xs.length := by rw [hy.length, List.length_map]
    refine lc_tup (K := K) (a := a) (xs := ys) (fun i H' => ∃ G', Cw G2 H2 D H2 (((xs.take i).filter p).map f) G' H') ⟨G2, Cw.start g2.gh hD⟩ (fun i H' _ ⟨G', c⟩ => .inl (up_rd hp (c.gr.g.trans c.gr.gh))) (fun i x H' hi ⟨G', c⟩ => ?_) (fun H' ⟨G', c⟩ => ?_)
    · have hi' : i < xs.length := by rw [← hlen]; exact (List.getElem?_eq_some_iff.mp hi).1
      obtain ⟨d, hd, hxd⟩ := hy.at hi
      rw [List.getElem?_map, List.getElem?_eq_getElem hi'] at hd
      have ed : enc xs[i] = d := Option.some.inj hd
      subst ed
      refine hg xs[i] x G' H' (List.getElem_mem hi') ((e1.trans g2.g).trans c.gr.g) c.gr.gh (hxd.up c.gr.g) _ fun σ2 hw ht he => ⟨hw, ?_⟩
      exact c.turn (by have := filter_len (xs.take i) p f; rw [List.length_take] at this; omega) ht he fun G3 H3 c3 => ⟨G3, by rw [filter_step xs p f i xs[i] (List.getElem?_eq_getElem hi')]; exact c3⟩
    · have e : xs.take ys.length = xs := by rw [hlen, List.take_length]
      rw [e] at c
      exact q _ _ _ (g2.there _ hD) (g2.trans c.gr) c.ml
/-- .. over range(n) -/
theorem m_lcR {ta : TA} {n : Nat} (p : Nat → Bool) (f : Nat → PyData) (h : EvA ta σ G [.int (n : Int)]) (hl : n ≤ 50000)
    (hg : ∀ (x : Nat) (G1 H1 : Hp), x < n → Ex G G1 → Ex G1 H1 → ∀ Q : VSt → Hp → Prop, (∀ σ2, wipe σ2 vs = wipe σ vs → EvB tt σ2 G1 (p x) → (p x = true → EvD te σ2 G1 (f x)) → Q σ2 H1) → g (.int (x : Int)) (wipe σ vs) H1 Q) :
    EvM (tLc (iRng1 ta) g tt te vs) σ G (((List.range n).filter p).map f) := fun G1 H1 e1 e2 Q q =>
  h G1 H1 e1 e2 _ fun vs' G2 H2 g2 hv => by
    obtain ⟨v, r, rfl, hv1, hr⟩ := hv.inv
    obtain rfl := hr.inv0
    obtain rfl := hv1.eqI
    refine ⟨(n : Int), rfl, by omega, by omega, fun D hD => ?_⟩
    have e0 : ((n : Int)).toNat = n := by omega
    rw [e0]
    refine lc_range (lo := 0) (n := n) (fun i H' => ∃ G', Cw G2 H2 D H2 ((((List.range n).take i).filter p).map f) G' H') ⟨G2, Cw.start g2.gh hD⟩ (fun i H' hi ⟨G', c⟩ => ?_) (fun H' ⟨G', c⟩ => ?_)
    · have ez : (0 : Int) + (i : Int) = (i : Int) := Int.zero_add _
      rw [ez]
      refine hg i G' H' hi ((e1.trans g2.g).trans c.gr.g) c.gr.gh _ fun σ2 hw ht he => ⟨hw, ?_⟩
      have hi2 : (List.range n)[i]? = some i := by rw [List.getElem?_range hi]
      exact c.turn (by have := filter_len ((List.range n).take i) p f; rw [List.length_take, List.length_range] at this; omega) ht he fun G3 H3 c3 => ⟨G3, by rw [filter_step (List.range n) p f i i hi2]; exact c3⟩
    · have e : (List.range n).take n = List.range n := by rw [List.take_of_length_le]; rw [List.length_range]; exact Nat.le_refl _
      rw [e] at c
      exact q _ _ _ (g2.there _ hD) (g2.trans c.gr) c.ml
end
end CL
set_option Elab.async false
set_option linter.all false
set_option maxRecDepth 100000
set_option maxHeartbeats 4000000
namespace CL
open PySem L2
/-! ### statements -/
section
variable {σ : VSt} {G H : Hp} {ta tb te tl : TE} {t : TT} {d : PyData} {K : PySem.W.Frag} {D : Ends} {tu tw tz : TS} {g : TG}
theorem q_asg {i : Nat} (h : EvD te σ G d) (e : Ex G H) (k : ∀ v G2 H2, Grow M0 G H G2 H2 → DD G2 v d → tz D (σ.set i (some v)) H2) : tSeq (tAsg te (gName i)) tz D σ H := h.go e k
theorem q_asgS {i : Nat} {S : PyData → Prop} (h : EvS te σ G S) (e : Ex G H) (k : ∀ v d G2 H2, S d → Grow M0 G H G2 H2 → DD G2 v d → tz D (σ.set i (some v)) H2) : tSeq (tAsg te (gName i)) tz D σ H := h G H (Ex.refl G) e _ k
theorem q_asgM {i : Nat} {ds : List PyData} (h : EvM te σ G ds) (e : Ex G H) (k : ∀ p G2 H2, H p = none → Grow M0 G H G2 H2 → ML G2 H2 p ds → tz D (σ.set i (some (.ref p))) H2) : tSeq (tAsg te (gName i)) tz D σ H := h G H (Ex.refl G) e _ k
theorem s_asg {i : Nat} (h : EvD te σ G d) (e : Ex G H) (k : ∀ v G2 H2, Grow M0 G H G2 H2 → DD G2 v d → D.nx (σ.set i (some v)) H2) : tAsg te (gName i) D σ H := h.go e k
theorem s_asgM {i : Nat} {ds : List PyData} (h : EvM te σ G ds) (e : Ex G H) (k : ∀ p G2 H2, H p = none → Grow M0 G H G2 H2 → ML G2 H2 p ds → D.nx (σ.set i (some (.ref p))) H2) : tAsg te (gName i) D σ H := h G H (Ex.refl G) e _ k
theorem s_ret (h : EvD te σ G d) (e : Ex G H) (k : ∀ v G2 H2, Grow M0 G H G2 H2 → DD G2 v d → D.rt v H2) : tRet te D σ H := h.go e k
theorem s_retS {S : PyData → Prop} (h : EvS te σ G S) (e : Ex G H) (k : ∀ v d G2 H2, S d → Grow M0 G H G2 H2 → DD G2 v d → D.rt v H2) : tRet te D σ H := h G H (Ex.refl G) e _ k
theorem s_drop (h : EvD te σ G d) (e : Ex G H) (k : ∀ G2 H2, Grow M0 G H G2 H2 → D.nx σ H2) : tDrop te D σ H := h.go e fun _ G2 H2 g _ => k G2 H2 g
theorem q_if {b : Bool} (h : EvB t σ G b) (e : Ex G H) (h1 : b = true → ∀ G2 H2, Grow M0 G H G2 H2 → tu { D with nx := tz D } σ H2) (h2 : b = false → ∀ G2 H2, Grow M0 G H G2 H2 → tw { D with nx := tz D } σ H2) : tSeq (tIfS t tu tw) tz D σ H :=
  h G H (Ex.refl G) e _ fun G2 H2 g => by
    cases b with
    | true => exact h1 rfl G2 H2 g
    | false => exact h2 rfl G2 H2 g
theorem s_ifS {b : Bool} (h : EvB t σ G b) (e : Ex G H) (h1 : b = true → ∀ G2 H2, Grow M0 G H G2 H2 → tu D σ H2) (h2 : b = false → ∀ G2 H2, Grow M0 G H G2 H2 → tw D σ H2) : tIfS t tu tw D σ H :=
  h G H (Ex.refl G) e _ fun G2 H2 g => by
    cases b with
    | true => exact h1 rfl G2 H2 g
    | false => exact h2 rfl G2 H2 g
theorem q_when {b : Bool} (h : EvB t σ G b) (e : Ex G H) (h1 : b = true → ∀ G2 H2, Grow M0 G H G2 H2 → tu { D with nx := tz D } σ H2) (h2 : b = false → ∀ G2 H2, Grow M0 G H G2 H2 → tz D σ H2) : tSeq (tIfS t tu tNext) tz D σ H := q_if h e h1 h2
theorem s_when {b : Bool} (h : EvB t σ G b) (e : Ex G H) (h1 : b = true → ∀ G2 H2, Grow M0 G H G2 H2 → tu D σ H2) (h2 : b = false → ∀ G2 H2, Grow M0 G H G2 H2 → D.nx σ H2) : tIfS t tu tNext D σ H := s_ifS h e h1 h2
/-- l.append(e), l a list that may change -/
theorem s_app {l : Addr} {ds : List PyData} (ho : EvV ta σ G (.ref l)) (m : ML G H l ds) (h : EvD te σ G d) (e : Ex G H) (hz : ds.length < 100000) (k : ∀ G2 H2, Grow (fun a => a = l) G H G2 H2 → ML G2 H2 l (ds ++ [d]) → D.nx σ H2) :
    tDrop (tBM K "list" rAppend ta (tCons te tNil)) D σ H := ho G H (Ex.refl G) e _ fun G1 H1 g1 => by
  obtain ⟨_, xs, h1, _⟩ := m.grow0 g1
  refine ⟨.inl ⟨rfl, xs, .inl (.inl h1)⟩, h.go' g1.g g1.gh fun v G2 H2 g2 hv => ?_⟩
  obtain ⟨g0, ys, h2, d2⟩ := m.grow0 (g1.trans g2)
  have m2 := m.grow0 (g1.trans g2)
  refine ⟨l, ys, v, rfl, rfl, h2, Evl.sz_lt (by rw [d2.length]; exact hz), ?_⟩
  obtain ⟨g3, m3⟩ := m2.set (xs := ys ++ [v]) g2.gh (d2.append (.one hv))
  exact k G2 _ ((g1.trans g2).of0.trans g3) m3
theorem q_app {l : Addr} {ds : List PyData} (ho : EvV ta σ G (.ref l)) (m : ML G H l ds) (h : EvD te σ G d) (e : Ex G H) (hz : ds.length < 100000) (k : ∀ G2 H2, Grow (fun a => a = l) G H G2 H2 → ML G2 H2 l (ds ++ [d]) → tz D σ H2) :
    tSeq (tDrop (tBM K "list" rAppend ta (tCons te tNil))) tz D σ H := s_app (D := { D with nx := tz D }) ho m h e hz k
/-- l.extend(e), e a new list -/
theorem s_ext {l : Addr} {ds es : List PyData} (ho : EvV ta σ G (.ref l)) (m : ML G H l ds) (h : EvD te σ G (.list es)) (e : Ex G H) (hz : ds.length + es.length < 100000) (k : ∀ G2 H2, Grow (fun a => a = l) G H G2 H2 → ML G2 H2 l (ds ++ es) → D.nx σ H2) :
    tDrop (tBM K "list" rExtend ta (tCons te tNil)) D σ H := ho G H (Ex.refl G) e _ fun G1 H1 g1 => by
  obtain ⟨_, xs, h1, _⟩ := m.grow0 g1
  refine ⟨.inl ⟨rfl, xs, .inl (.inl h1)⟩, h.go' g1.g g1.gh fun v G2 H2 g2 hv => ?_⟩
  obtain ⟨g0, ys, h2, d2⟩ := m.grow0 (g1.trans g2)
  have m2 := m.grow0 (g1.trans g2)
  obtain ⟨b, zs, rfl, hb, dz⟩ := hv.eqL
  refine ⟨l, b, ys, zs, rfl, rfl, h2, g2.gh _ _ hb, Evl.sz_of (by rw [d2.length, dz.length]; omega), ?_⟩
  obtain ⟨g3, m3⟩ := m2.set (xs := ys ++ zs) g2.gh (d2.append dz)
  exact k G2 _ ((g1.trans g2).of0.trans g3) m3
theorem q_ext {l : Addr} {ds es : List PyData} (ho : EvV ta σ G (.ref l)) (m : ML G H l ds) (h : EvD te σ G (.list es)) (e : Ex G H) (hz : ds.length + es.length < 100000) (k : ∀ G2 H2, Grow (fun a => a = l) G H G2 H2 → ML G2 H2 l (ds ++ es) → tz D σ H2) :
    tSeq (tDrop (tBM K "list" rExtend ta (tCons te tNil))) tz D σ H := s_ext (D := { D with nx := tz D }) ho m h e hz k
theorem Grow.priv {M : Addr → Prop} {l : Addr} {G0 H0 G1 H1 G2 H2 : Hp} (a : Grow M G0 H0 G1 H1) (b : Grow (fun x => x = l) G1 H1 G2 H2) (h : H0 l = none) : Grow M G0 H0 G2 H2 :=
  ⟨a.g.trans b.g, b.gh, fun x o hm q => b.keep x o (fun z => by rw [z, h] at q; cases q) (a.keep x o hm q), fun x q => a.there x (b.there x q), fun x q1 q2 => b.new x (fun z => q1 (a.there x z)) (a.new x q1 q2)⟩
theorem Grow.own {M : Addr → Prop} {l : Addr} {G0 H0 G1 H1 G2 H2 : Hp} (a : Grow M G0 H0 G1 H1) (b : Grow (fun x => x = l) G1 H1 G2 H2) (h : M l) : Grow M G0 H0 G2 H2 := a.trans (b.weak fun x z => z ▸ h)
/-! ### loops -/
/-- for .. in a list -/
theorem s_forL {α : Type} {enc : α → PyData} {xs : List α} (h : EvD tl σ G (.list (xs.map enc))) (e : Ex G H) (Pv : Nat → VSt → Hp → Hp → Prop) (h0 : ∀ G1 H1, Grow M0 G H G1 H1 → Pv 0 σ G1 H1)
    (hs : ∀ (i : Nat) (x : α) (v : V) σ' G' H', xs[i]? = some x → Ex G G' → Ex G' H' → DD G' v (enc x) → Pv i σ' G' H' →
      ∀ Nx : VSt → Hp → Prop, (∀ σ3 G3 H3, Ex G' G3 → Ex G3 H3 → Pv (i + 1) σ3 G3 H3 → Nx σ3 H3) → g v σ' H' fun σ2 H2 => tu { D with nx := Nx, ct := Nx, bk := D.nx } σ2 H2)
    (hd : ∀ σ' G' H', Ex G G' → Ex G' H' → Pv xs.length σ' G' H' → D.nx σ' H') : tFor (iList K tl) g tu D σ H := h.go e fun v G1 H1 g1 hv => by
  obtain ⟨a, ys, rfl, hp, hy⟩ := hv.eqL
  have hlen : ys.length = xs.length := by rw [hy.length, List.length_map]
  refine ⟨a, rfl, ⟨ys, .inl (.inl (g1.gh _ _ hp))⟩, for_list (K := K) (a := a) (xs := ys) (fun i σ' H' => ∃ G', Ex G1 G' ∧ Ex G' H' ∧ Pv i σ' G' H') ⟨G1, Ex.refl G1, g1.gh, h0 G1 H1 g1⟩
    (fun i σ' H' _ ⟨G', e1, e2, _⟩ => .inl (.inl (e2 _ _ (e1 _ _ hp)))) ?_ ?_⟩
  · rintro i x σ' H' hi ⟨G', e1, e2, p⟩
    have hi' : i < xs.length := by rw [← hlen]; exact (List.getElem?_eq_some_iff.mp hi).1
    obtain ⟨d, hd, hxd⟩ := hy.at hi
    rw [List.getElem?_map, List.getElem?_eq_getElem hi'] at hd
    have ed : enc xs[i] = d := Option.some.inj hd
    subst ed
    exact hs i xs[i] x σ' G' H' (List.getElem?_eq_getElem hi') (g1.g.trans e1) e2 (hxd.up e1) p _ fun σ3 G3 H3 a1 a2 a3 => ⟨G3, e1.trans a1, a2, a3⟩
  · rintro σ' H' ⟨G', e1, e2, p⟩
    rw [hlen] at p
    exact hd σ' G' H' (g1.g.trans e1) e2 p
theorem q_forL {α : Type} {enc : α → PyData} {xs : List α} (h : EvD tl σ G (.list (xs.map enc))) (e : Ex G H) (Pv : Nat → VSt → Hp → Hp → Prop) (h0 : ∀ G1 H1, Grow M0 G H G1 H1 → Pv 0 σ G1 H1)
    (hs : ∀ (i : Nat) (x : α) (v : V) σ' G' H', xs[i]? = some x → Ex G G' → Ex G' H' → DD G' v (enc x) → Pv i σ' G' H' →
      ∀ Nx : VSt → Hp → Prop, (∀ σ3 G3 H3, Ex G' G3 → Ex G3 H3 → Pv (i + 1) σ3 G3 H3 → Nx σ3 H3) → g v σ' H' fun σ2 H2 => tu { D with nx := Nx, ct := Nx, bk := tz D } σ2 H2)
    (hd : ∀ σ' G' H', Ex G G' → Ex G' H' → Pv xs.length σ' G' H' → tz D σ' H') : tSeq (tFor (iList K tl) g tu) tz D σ H := s_forL (D := { D with nx := tz D }) h e Pv h0 hs hd
/-- for .. in a tuple -/
theorem s_forT {α : Type} {enc : α → PyData} {xs : List α} (h : EvD tl σ G (.tuple (xs.map enc))) (e : Ex G H) (Pv : Nat → VSt → Hp → Hp → Prop) (h0 : ∀ G1 H1, Grow M0 G H G1 H1 → Pv 0 σ G1 H1)
    (hs : ∀ (i : Nat) (x : α) (v : V) σ' G' H', xs[i]? = some x → Ex G G' → Ex G' H' → DD G' v (enc x) → Pv i σ' G' H' →
      ∀ Nx : VSt → Hp → Prop, (∀ σ3 G3 H3, Ex G' G3 → Ex G3 H3 → Pv (i + 1) σ3 G3 H3 → Nx σ3 H3) → g v σ' H' fun σ2 H2 => tu { D with nx := Nx, ct := Nx, bk := D.nx } σ2 H2)
    (hd : ∀ σ' G' H', Ex G G' → Ex G' H' → Pv xs.length σ' G' H' → D.nx σ' H') : tFor (iTup K tl) g tu D σ H := h.go e fun v G1 H1 g1 hv => by
  obtain ⟨a, ys, rfl, hp, hy⟩ := hv.eqT
  have hlen : ys.length = xs.length := by rw [hy.length, List.length_map]
  refine ⟨a, rfl, ⟨ys, .inl (up_rd hp g1.gh)⟩, for_tup (K := K) (a := a) (xs := ys) (fun i σ' H' => ∃ G', Ex G1 G' ∧ Ex G' H' ∧ Pv i σ' G' H') ⟨G1, Ex.refl G1, g1.gh, h0 G1 H1 g1⟩
    (fun i σ' H' _ ⟨G', e1, e2, _⟩ => .inl (up_rd hp (e1.trans e2))) ?_ ?_⟩
  · rintro i x σ' H' hi ⟨G', e1, e2, p⟩
    have hi' : i < xs.length := by rw [← hlen]; exact (List.getElem?_eq_some_iff.mp hi).1
    obtain ⟨d, hd, hxd⟩ := hy.at hi
    rw [List.getElem?_map, List.getElem?_eq_getElem hi'] at hd
    have ed : enc xs[i] = d := Option.some.inj hd
    subst ed
    exact hs i xs[i] x σ' G' H' (List.getElem?_eq_getElem hi') (g1.g.trans e1) e2 (hxd.up e1) p _ fun σ3 G3 H3 a1 a2 a3 => ⟨G3, e1.trans a1, a2, a3⟩
  · rintro σ' H' ⟨G', e1, e2, p⟩
    rw [hlen] at p
    exact hd σ' G' H' (g1.g.trans e1) e2 p
theorem q_forT {α : Type} {enc : α → PyData} {xs : List α} (h : EvD tl σ G (.tuple (xs.map enc))) (e : Ex G H) (Pv : Nat → VSt → Hp → Hp → Prop) (h0 : ∀ G1 H1, Grow M0 G H G1 H1 → Pv 0 σ G1 H1)
    (hs : ∀ (i : Nat) (x : α) (v : V) σ' G' H', xs[i]? = some x → Ex G G' → Ex G' H' → DD G' v (enc x) → Pv i σ' G' H' →
      ∀ Nx : VSt → Hp → Prop, (∀ σ3 G3 H3, Ex G' G3 → Ex G3 H3 → Pv (i + 1) σ3 G3 H3 → Nx σ3 H3) → g v σ' H' fun σ2 H2 => tu { D with nx := Nx, ct := Nx, bk := tz D } σ2 H2)
    (hd : ∀ σ' G' H', Ex G G' → Ex G' H' → Pv xs.length σ' G' H' → tz D σ' H') : tSeq (tFor (iTup K tl) g tu) tz D σ H := s_forT (D := { D with nx := tz D }) h e Pv h0 hs hd
/-- for .. in range(n): the arguments may change things (Q: what holds behind them) -/
theorem s_forR {ra : TA} {n : Nat} (h : EvA ra σ G [.int (n : Int)]) (e : Ex G H) (hn : n ≤ 100000) (Pv : Nat → VSt → Hp → Hp → Prop) (h0 : ∀ G1 H1, Grow M0 G H G1 H1 → Pv 0 σ G1 H1)
    (hs : ∀ (i : Nat) σ' G' H', i < n → Ex G G' → Ex G' H' → Pv i σ' G' H' →
      ∀ Nx : VSt → Hp → Prop, (∀ σ3 G3 H3, Ex G' G3 → Ex G3 H3 → Pv (i + 1) σ3 G3 H3 → Nx σ3 H3) → g (.int (i : Int)) σ' H' fun σ2 H2 => tu { D with nx := Nx, ct := Nx, bk := D.nx } σ2 H2)
    (hd : ∀ σ' G' H', Ex G G' → Ex G' H' → Pv n σ' G' H' → D.nx σ' H') : tFor (iRng1 ra) g tu D σ H := h G H (Ex.refl G) e _ fun vs G1 H1 g1 hv => by
  obtain ⟨v, r, rfl, hv1, hr⟩ := hv.inv
  obtain rfl := hr.inv0
  obtain rfl := hv1.eqI
  refine ⟨(n : Int), rfl, by omega, by omega, ?_⟩
  have e0 : ((n : Int)).toNat = n := by omega
  rw [e0]
  refine for_range (lo := 0) (n := n) (fun i σ' H' => ∃ G', Ex G1 G' ∧ Ex G' H' ∧ Pv i σ' G' H') ⟨G1, Ex.refl G1, g1.gh, h0 G1 H1 g1⟩ ?_ ?_
  · rintro i σ' H' hi ⟨G', e1, e2, p⟩
    have ez : (0 : Int) + (i : Int) = (i : Int) := Int.zero_add _
    rw [ez]
    exact hs i σ' G' H' hi (g1.g.trans e1) e2 p _ fun σ3 G3 H3 a1 a2 a3 => ⟨G3, e1.trans a1, a2, a3⟩
  · rintro σ' H' ⟨G', e1, e2, p⟩
    exact hd σ' G' H' (g1.g.trans e1) e2 p
theorem q_forR {ra : TA} {n : Nat} (h : EvA ra σ G [.int (n : Int)]) (e : Ex G H) (hn : n ≤ 100000) (Pv : Nat → VSt → Hp → Hp → Prop) (h0 : ∀ G1 H1, Grow M0 G H G1 H1 → Pv 0 σ G1 H1)
    (hs : ∀ (i : Nat) σ' G' H', i < n → Ex G G' → Ex G' H' → Pv i σ' G' H' →
      ∀ Nx : VSt → Hp → Prop, (∀ σ3 G3 H3, Ex G' G3 → Ex G3 H3 → Pv (i + 1) σ3 G3 H3 → Nx σ3 H3) → g (.int (i : Int)) σ' H' fun σ2 H2 => tu { D with nx := Nx, ct := Nx, bk := tz D } σ2 H2)
    (hd : ∀ σ' G' H', Ex G G' → Ex G' H' → Pv n σ' G' H' → tz D σ' H') : tSeq (tFor (iRng1 ra) g tu) tz D σ H := s_forR (D := { D with nx := tz D }) h e hn Pv h0 hs hd
end

/-! ### promises over data, kept by a body -/
/-- what a body of a def owes -/
theorem spR_mk {R : List PyData → (PyData → Prop) → Prop} {vs : List V} {H : Hp} {Q : VK} {E : XK} (h : spR R vs H Q E) : ∃ G ds S, R ds S ∧ Ex G H ∧ DDs G vs ds ∧ ∀ v d G2 H2, S d → Grow M0 G H G2 H2 → DD G2 v d → Q v H2 := h
theorem spR_len {R : List PyData → (PyData → Prop) → Prop} {n : Nat} (hR : ∀ ds S, R ds S → ds.length = n) {vs : List V} {H : Hp} {Q : VK} {E : XK} (h : spR R vs H Q E) : vs.length = n := by
  obtain ⟨G, ds, S, r, _, hd, _⟩ := h
  rw [hd.length]; exact hR ds S r
end CL
set_option Elab.async false
set_option linter.all false
set_option maxRecDepth 100000
set_option maxHeartbeats 4000000
namespace CL
open PySem L2 PySem.Spec PyProof.Rows
abbrev StX_FnR (X : Cx) (k : Nat) (g : Addr) (CX : CXT) (sp : Sp) : Prop := FnR X.prog X.w X.K X.mg X.base CX k g sp
section
variable {X : Cx} {o e : Expr} {to te : TE} {f : Str} {pos apos cpos : Pos}
/-! ### o.f as a target -/
def gFld (K : PySem.W.Frag) (ta : TE) (f : Str) : TG := fun v σ H Q => ta σ H fun x H1 => ∃ a C dx fs, x = .ref a ∧ H1 a = some (.ins C dx fs) ∧ Cls K C ∧ NoAttr K C f ∧ fs.length < 1000 ∧ Q σ (upd H1 a (.ins C dx (putF f v fs)))
theorem pg_fld (ha : PE X o to) : PG X (.Attribute o f pos) (gFld X.K to f) := by
  refine ⟨fun pins s σ H v u Q I r h => ?_⟩
  refine PySem.W.kas_attr (thn (ha.run pins s σ H _ I h) fun ov s1 ⟨x, H1, I1, rx, a, C, dx, fs, ex, ea, c, n, l, q⟩ => ?_)
  subst ex
  obtain rfl : ov = Value.ref a := rx
  exact setattr_ok I1 ea c n l r fun s2 I2 => ⟨σ, _, I2, q⟩
/-! ### xs.count(e): a list, or a tuple that was made for a star -/
def tCnt (K : PySem.W.Frag) (to te : TE) : TE := fun σ H Q => to σ H fun x H1 => ∃ (a : Addr) (ds : List PyData) (d : PyData), x = .ref a ∧
  ((∃ xs, H1 a = some (.lst xs)) ∧ (te σ H1 fun y H2 => Dp K H2 (.ref a) (.list ds) ∧ Dp K H2 y d ∧ PyData.plainAll ds = true ∧ d.plain = true ∧ d.depth ≤ 8 ∧ Q (.int ((ds.countP fun z => PyData.eqv z d : Nat) : Int)) H2) ∨
   (∃ ob xs, H1 a = some (.frz ob (.tup xs)) ∧ ob.dict = none) ∧ (te σ H1 fun y H2 => Dp K H2 (.ref a) (.tuple ds) ∧ Dp K H2 y d ∧ PyData.plainAll ds = true ∧ d.plain = true ∧ d.depth ≤ 8 ∧ Q (.int ((ds.countP fun z => PyData.eqv z d : Nat) : Int)) H2))
theorem pe_cnt (hu : X.A.units + 80 < cLine) (ho : PE X o to) (he : PE X e te) (hs : starEach [e] X.env = (false, eval e X.env) :: starEach [] X.env := by rfl)
    (hbase : attributeBase o "count" X.env (eval o X.env) = eval o X.env := by rfl)
    (hfew : ((backTo cpos (starEach [e] X.env)).all (fun x => !x.1) && (backToKw cpos (keywordEach [] X.env)).all (fun x => x.1.isSome)
      && decide ([e].length + ([] : List Keyword).length + (if ([] : List Keyword).isEmpty then 0 else 1) < 30)) = true := by rfl)
    (hline : (apos.endLine == cpos.line) = true := by rfl) :
    PE X (.Call (.Attribute o "count" apos) [e] [] cpos) (tCnt X.K to te) := by
  refine ⟨fun pins s σ H Q I h => ?_⟩
  refine wpAny_Call_method_late hbase hfew hline rfl (thn (ho.run pins s σ H _ I h) fun v s1 ⟨x, H1, I1, r1, a, ds, d, ex, q1⟩ => ?_)
  subst ex
  cases r1
  have hm : ∀ ds : List PyData, min (PyData.depthAll ds) d.depth ≤ d.depth := fun ds => Nat.min_le_right _ _
  have hpl : (backTo cpos (starEach [] X.env)).any (·.1) = false := rfl
  rcases q1 with ⟨⟨xs, hk⟩, q1⟩ | ⟨⟨ob, xs, hk, hd⟩, q1⟩
  · obtain ⟨its, _, pl, _⟩ := I1.list (.inl (.inl hk))
    refine ⟨"list", "list.count", PySem.F.plainAttrs_list, PySem.F.slot_list_count, PySem.F.type_list_count, pl.isList.typeIs, fun b eb => ?_, ?_⟩
    · cases eb
      obtain ⟨o, n, e1, c, hd, _⟩ := pl
      exact ⟨o, e1, hd⟩
    · have hA := (pa_cons he pa_nil hs).run cpos pins s1 σ H1 (fun vs H2 => ∃ y, vs = [y] ∧ Dp X.K H2 (.ref a) (.list ds) ∧ Dp X.K H2 y d ∧ PyData.plainAll ds = true ∧ d.plain = true ∧ d.depth ≤ 8 ∧ Q (.int ((ds.countP fun z => PyData.eqv z d : Nat) : Int)) H2) I1
        (show te σ H1 _ from by
          have e : (fun (y : V) (H2 : Hp) => Dp X.K H2 (.ref a) (.list ds) ∧ Dp X.K H2 y d ∧ PyData.plainAll ds = true ∧ d.plain = true ∧ d.depth ≤ 8 ∧ Q (.int ((ds.countP fun z => PyData.eqv z d : Nat) : Int)) H2) = fun y H2 => ∃ y', [y] = [y'] ∧ Dp X.K H2 (.ref a) (.list ds) ∧ Dp X.K H2 y' d ∧ PyData.plainAll ds = true ∧ d.plain = true ∧ d.depth ≤ 8 ∧ Q (.int ((ds.countP fun z => PyData.eqv z d : Nat) : Int)) H2 := by
            funext y H2
            exact propext ⟨fun z => ⟨y, rfl, z⟩, fun ⟨y', e, z⟩ => by cases e; exact z⟩
          rw [e] at q1
          exact q1)
      rw [hs] at hA ⊢
      refine Calls.callWith_builtin (by show (false || (backTo cpos (starEach [] X.env)).any (·.1)) = false; rw [hpl]; rfl) (Calls.evalArgs_plain ?_)
      refine thn hA fun us s2 ⟨vs, H2, I2, r2, y, ev, hp, hy, p1, p2, p3, q2⟩ => ?_
      subst ev
      obtain ⟨u, rfl, ru⟩ := r2.one
      obtain ⟨as, ry⟩ := Dp.reads I2 d y u hy ru
      cases hp with
      | lst hq ha =>
        obtain ⟨its, rv, pl, _⟩ := I2.list hq
        obtain ⟨bs, rs⟩ := Dp.readsAll I2 ds _ its ha rv
        exact PySem.SeqAt.count_list_data pl.isList (by simpa using rs) ry p1 p2 (by have := hm ds; omega) ⟨.int _, H2, I2.tok _, ⟨_, rfl⟩, q2⟩
  · obtain ⟨eo, ho⟩ := (show ObjOk X.prog X.w H1 s1.heap a (.frz ob (.tup xs)) from I1.hok a _ hk)
    obtain ⟨_, its0, _, ob', eo', hc, _⟩ := ho
    rw [eo] at eo'; cases eo'
    refine ⟨"tuple", "tuple.count", PySem.F.plainAttrs_tuple, PySem.F.slot_tuple_count, PySem.F.type_tuple_count, ⟨ob, eo, hc⟩, fun b eb => ?_, ?_⟩
    · cases eb
      exact ⟨ob, eo, hd⟩
    · have hA := (pa_cons he pa_nil hs).run cpos pins s1 σ H1 (fun vs H2 => ∃ y, vs = [y] ∧ Dp X.K H2 (.ref a) (.tuple ds) ∧ Dp X.K H2 y d ∧ PyData.plainAll ds = true ∧ d.plain = true ∧ d.depth ≤ 8 ∧ Q (.int ((ds.countP fun z => PyData.eqv z d : Nat) : Int)) H2) I1
        (show te σ H1 _ from by
          have e : (fun (y : V) (H2 : Hp) => Dp X.K H2 (.ref a) (.tuple ds) ∧ Dp X.K H2 y d ∧ PyData.plainAll ds = true ∧ d.plain = true ∧ d.depth ≤ 8 ∧ Q (.int ((ds.countP fun z => PyData.eqv z d : Nat) : Int)) H2) = fun y H2 => ∃ y', [y] = [y'] ∧ Dp X.K H2 (.ref a) (.tuple ds) ∧ Dp X.K H2 y' d ∧ PyData.plainAll ds = true ∧ d.plain = true ∧ d.depth ≤ 8 ∧ Q (.int ((ds.countP fun z => PyData.eqv z d : Nat) : Int)) H2 := by
            funext y H2
            exact propext ⟨fun z => ⟨y, rfl, z⟩, fun ⟨y', e, z⟩ => by cases e; exact z⟩
          rw [e] at q1
          exact q1)
      rw [hs] at hA ⊢
      refine Calls.callWith_builtin (by show (false || (backTo cpos (starEach [] X.env)).any (·.1)) = false; rw [hpl]; rfl) (Calls.evalArgs_plain ?_)
      refine thn hA fun us s2 ⟨vs, H2, I2, r2, y, ev, hp, hy, p1, p2, p3, q2⟩ => ?_
      subst ev
      obtain ⟨u, rfl, ru⟩ := r2.one
      obtain ⟨as, ry⟩ := Dp.reads I2 d y u hy ru
      cases hp with
      | tup hq ha =>
        obtain ⟨its, rv, pl, _⟩ := I2.tuple hq
        obtain ⟨bs, rs⟩ := Dp.readsAll I2 ds _ its ha rv
        exact PySem.SeqAt.count_tuple_data pl (by simpa using rs) ry p1 p2 (by have := hm ds; omega) ⟨.int _, H2, I2.tok _, ⟨_, rfl⟩, q2⟩
/-! ### repr of a bool -/
def rReprB : List V → Hp → VK → Prop := fun xs H Q => ∃ b : Bool, xs = [.bl b] ∧ Q (.str (if b then ("True" : Str) else ("False" : Str))) H
theorem call_repr_bool : CallR X (.builtin "repr") rReprB := by
  intro pins s σ H xs us Q I r h
  obtain ⟨b, rfl, q⟩ := h
  obtain ⟨u, rfl, ru⟩ := r.one
  cases ru
  exact PySem.P.repr_of_bool ⟨.str _, H, I.tok _, ⟨_, rfl⟩, q⟩
/-! ### C(e, .., *y): C a name of the module, or a slot that holds the class -/
section
variable {CX : CXT} {k i : Nat} {g C : Addr} {sp : Sp} {E : XK} {x : Str} {es : List Expr} {t : TA} {p : Pos}
theorem pe_makeSG (M : Mk X.K C g) (F : StX_FnR X k g CX sp) (hr : Room (k + 1) X.A) (hg : Gl X x) (hm : X.mg x = some (.ref C)) (hx : Passes CX X E) (ha : PA X (e :: es) t) (hd : (x == ("__debug__" : Str)) = false := by decide)
    (he : starEach (e :: es) X.env = (false, eval e X.env) :: starEach es X.env := by rfl) (hst : (backTo pos (starEach es X.env)).any (·.1) = true := by rfl) :
    PE X (.Call (.Name x p) (e :: es) [] pos) (StX.tMakeR C sp E t) := by
  refine ⟨fun pins s σ H Q I h => ?_⟩
  refine wpAny_Call_Name_kw (ld_glob I hg hm ?_ hd)
  refine PySem.W.callWith_S2 (h₀ := X.base) I.ok.mod.kin M.kp (thn (ha.run pos pins s σ H _ I h) fun us s1 ⟨vs, H1, I1, r, q⟩ => ⟨I1.kIn, ?_⟩) he hst
  exact StX.run_makeR M F hr hx I1 r q
/-- .. the class in a slot -/
def tMakeL (i : Nat) (C : Addr) (sp : Sp) (E : XK) (t : TA) : TE := fun σ H Q => σ[i]? = some (some (.ref C)) ∧ StX.tMakeR C sp E t σ H Q
theorem pe_makeSL (M : Mk X.K C g) (F : StX_FnR X k g CX sp) (hr : Room (k + 1) X.A) (hx : Passes CX X E) (ha : PA X (e :: es) t) (hN : X.N[i]? = some x := by rfl) (hv : Vis X.env.scope x := by first | exact Or.inl rfl | exact Or.inr (Or.inl rfl)) (hd : (x == ("__debug__" : Str)) = false := by decide)
    (hcd : (x == ("__classdict__" : Str)) = false := by decide)
    (he : starEach (e :: es) X.env = (false, eval e X.env) :: starEach es X.env := by rfl) (hst : (backTo pos (starEach es X.env)).any (·.1) = true := by rfl) :
    PE X (.Call (.Name x p) (e :: es) [] pos) (tMakeL i C sp E t) := by
  refine ⟨fun pins s σ H Q I h => ?_⟩
  obtain ⟨h0, h⟩ := h
  refine wpAny_Call_Name_kw (thn ((pe_var (pos := p) hN hv hd hcd).run pins s σ H (fun v H1 => v = .ref C ∧ H1 = H) I ⟨.ref C, h0, rfl, rfl⟩) fun u s1 ⟨v, H1, I1, r1, q1⟩ => ?_)
  obtain ⟨rfl, rfl⟩ := q1
  cases r1
  refine PySem.W.callWith_S2 (h₀ := X.base) I.ok.mod.kin M.kp (thn (ha.run pos pins s1 σ _ _ I1 h) fun us s2 ⟨vs, H2, I2, r, q⟩ => ⟨I2.kIn, ?_⟩) he hst
  exact StX.run_makeR M F hr hx I2 r q
end
end
/-! ### def f(a, .., *v): what is left over is a tuple whose object is known -/
section
variable {P : Program} {w : World} {K : PySem.W.Frag} {mg : Str → Option Value} {base : Heap}
theorem fn_starF {CX : CXT} {k : Nat} {f : Addr} {name qual : Str} {params : Arguments} {body : List Stmt} {scope : Scope} {dV kV doc pm cdv ct oc : Value} {an od : Option Addr}
    {osl : Array (Option Value)} {N ps : List Str} {sp : Sp} {pv : Str} (lk : K.lookup f = some ⟨oc, od, .func (PySem.W.fnOf name qual params body scope dV kV doc pm an cdv ct), osl⟩) (hcd : PySem.W.codeIn K cdv qual = true) (S : FnScope N (ps ++ [pv]) scope) (hCX : StX.CXUp CX)
    (hb : ∀ us rest : List Value, us.length = ps.length → bindArgs (PySem.W.fnOf name qual params body scope dV kV doc pm an cdv ct) ⟨us ++ rest, []⟩ = (newTuple rest >>= fun t => pure (ps.zip us ++ [(pv, t)])))
    (hbody : ∀ (A : Around) (outer : List Env) (s : Shared) (H : Hp) (vs : List V) (Q : VK) (E : XK), Room k (A.deeper (envOfC qual scope s.heap.objs.size f cdv)) → sp vs H Q E →
      ∃ t, PSs (cxOf CX P w K mg base N qual scope f cdv A outer s H E) body t ∧ t { nx := fun _ H' => Q .non H', rt := Q } (start N vs) H) :
    FnR P w K mg base CX (k + 1) f (fun vs H Q E => ∃ ws rest, vs = ws ++ rest ∧ ws.length = ps.length ∧ rest.length ≤ sizeLine ∧ ∀ p ob, H p = Option.none → ob.dict = Option.none → sp (ws ++ [V.ref p]) (upd H p (.frz ob (.tup rest))) Q E) := by
  intro A outer s H us vs Q E hr e0 r hsp
  obtain ⟨ws, rest, rfl, hl, hz, hq⟩ := hsp
  obtain ⟨u1, u2, rfl, r1, r2⟩ := StX.vals_split r
  have hn : H s.heap.objs.size = Option.none := e0.hok.fresh (Nat.le_refl _)
  have hl1 : u1.length = ps.length := r1.length.symm.trans hl
  have hl2 : u2.length ≤ sizeLine := by rw [← r2.length]; exact hz
  let ob : Obj := { cls := .type "tuple", data := .seq u2.toArray }
  refine StX.run_bnd lk hcd S hr e0 (G := fun xs H2 => ∃ p, H p = Option.none ∧ xs = ws ++ [V.ref p] ∧ H2 = upd H p (.frz ob (.tup rest))) (fun A' Ex Q' h => ?_) fun s2 H2 xs ⟨p, hp, ex, eH⟩ hr' => ?_
  · rw [hb u1 u2 hl1]
    refine wpAny_bind (wpAny_newTuple (wpAny_pure ?_) hl2)
    have at_ : (s.heap.push ob).get? s.heap.objs.size = some ob := Heap.get?_push_size _ rfl
    have new : ObjOk P w (upd H s.heap.objs.size (.frz ob (.tup rest))) (s.heap.push ob) s.heap.objs.size (.frz ob (.tup rest)) := ⟨at_, hz, u2, r2, ob, at_, rfl, _, rfl⟩
    have un := StX.un_laid (fs := frs outer) (s := s) (o := ob) (u := .frz ob (.tup rest)) hn
    have z := h _ _ (ws ++ [V.ref s.heap.objs.size]) (u1 ++ [Value.ref s.heap.objs.size]) (StX.env0_laid e0 new) un rfl (fun e s' => hCX outer s H _ _ E e s' un (fun b o q => Heap.get?_push_of_some _ q) rfl) (r1.append (.cons rfl .nil))
      (by rw [List.length_append, List.length_append, hl]; rfl) ⟨_, hn, rfl, rfl⟩
    rw [List.zip_append hl1.symm] at z
    exact z
  · subst ex eH
    exact hbody A outer s2 _ _ Q E hr' (hq p ob hp rfl)
end
end CL
set_option linter.all false
/-! Plain mathematics: reaching by pairs, the search by levels. -/
namespace CM
inductive Reach (ps : List (Nat × Nat)) (a : Nat) : Nat → Prop
  | refl : Reach ps a a
  | step {b c : Nat} : Reach ps a b → (b, c) ∈ ps → Reach ps a c
theorem Reach.trans {ps : List (Nat × Nat)} {a b c : Nat} (h : Reach ps a b) (k : Reach ps b c) : Reach ps a c := by
  induction k with
  | refl => exact h
  | step _ e ih => exact .step ih e
theorem Reach.mono {ps qs : List (Nat × Nat)} {a b : Nat} (h : Reach ps a b) (k : ∀ p ∈ ps, p ∈ qs) : Reach qs a b := by
  induction h with
  | refl => exact .refl
  | step _ e ih => exact .step ih (k _ e)
theorem Reach.head {ps : List (Nat × Nat)} {a b c : Nat} (e : (a, b) ∈ ps) (h : Reach ps b c) : Reach ps a c := (Reach.step .refl e).trans h
/-- a walk: what lies behind, its last column -/
abbrev Wk := List Nat × Nat
def visit (w : Wk) (st : List Nat × List Wk) (c : Nat) : List Nat × List Wk := if c ∈ st.1 then st else (st.1 ++ [c], st.2 ++ [(w.1 ++ [w.2], c)])
def ends (ps : List (Nat × Nat)) (c : Nat) : List Nat := (List.range 6).filter fun e => decide ((c, e) ∈ ps)
def level (ps : List (Nat × Nat)) (st : List Nat × List Wk) (w : Wk) : List Nat × List Wk := (ends ps w.2).foldl (visit w) st
theorem mem_ends {ps : List (Nat × Nat)} {c e : Nat} : e ∈ ends ps c ↔ e < 6 ∧ (c, e) ∈ ps := by
  unfold ends
  rw [List.mem_filter, List.mem_range, decide_eq_true_eq]
structure MI (ps : List (Nat × Nat)) (a b : Nat) (rest : List Wk) (st : List Nat × List Wk) : Prop where
  nd : st.1.Nodup
  lt : ∀ c ∈ st.1, c < 6
  ha : a ∈ st.1
  re : ∀ c ∈ st.1, Reach ps a c
  w1 : ∀ w ∈ rest, w.2 ∈ st.1 ∧ w.1.length + 1 ≤ st.1.length
  w2 : ∀ w ∈ st.2, w.2 ∈ st.1 ∧ w.1.length + 1 ≤ st.1.length
  ll : st.2.length ≤ st.1.length
  cl : ∀ c ∈ st.1, (∃ w ∈ rest, w.2 = c) ∨ (∃ w ∈ st.2, w.2 = c) ∨ (c ≠ b ∧ ∀ e, (c, e) ∈ ps → e ∈ st.1)
theorem nodup_le6 {l : List Nat} (h : l.Nodup) (k : ∀ c ∈ l, c < 6) : l.length ≤ 6 := by
  have := (List.Nodup.length_le_of_subset (l₁ := l) (l₂ := List.range 6) h fun c hc => List.mem_range.mpr (k c hc))
  rw [List.length_range] at this
  exact this
theorem MI.six {ps : List (Nat × Nat)} {a b : Nat} {rest : List Wk} {st : List Nat × List Wk} (m : MI ps a b rest st) : st.1.length ≤ 6 := nodup_le6 m.nd m.lt
theorem visit_MI {ps : List (Nat × Nat)} {a b : Nat} {rest : List Wk} {st : List Nat × List Wk} {w : Wk} {c : Nat} (m : MI ps a b (w :: rest) st) (hc : c < 6) (he : (w.2, c) ∈ ps) : MI ps a b (w :: rest) (visit w st c) := by
  unfold visit
  by_cases h : c ∈ st.1
  · rw [if_pos h]; exact m
  · rw [if_neg h]
    have hw := m.w1 w List.mem_cons_self
    refine ⟨?_, ?_, ?_, ?_, ?_, ?_, ?_, ?_⟩
    · rw [List.nodup_append]
      refine ⟨m.nd, by simp, fun x hx y hy => ?_⟩
      rw [List.mem_singleton] at hy
      intro e
      exact h (hy ▸ e ▸ hx)
    · intro x hx
      rcases List.mem_append.mp hx with q | q
      · exact m.lt x q
      · rw [List.mem_singleton] at q; rw [q]; exact hc
    · exact List.mem_append_left _ m.ha
    · intro x hx
      rcases List.mem_append.mp hx with q | q
      · exact m.re x q
      · rw [List.mem_singleton] at q; rw [q]; exact .step (m.re _ hw.1) he
    · intro v hv
      obtain ⟨p, q⟩ := m.w1 v hv
      exact ⟨List.mem_append_left _ p, by show _ ≤ (st.1 ++ [c]).length; rw [List.length_append]; simp; omega⟩
    · intro v hv
      rcases List.mem_append.mp hv with q | q
      · obtain ⟨p, q⟩ := m.w2 v q
        exact ⟨List.mem_append_left _ p, by show _ ≤ (st.1 ++ [c]).length; rw [List.length_append]; simp; omega⟩
      · rw [List.mem_singleton] at q
        subst q
        refine ⟨List.mem_append_right _ List.mem_cons_self, ?_⟩
        show (w.1 ++ [w.2]).length + 1 ≤ (st.1 ++ [c]).length
        rw [List.length_append, List.length_append]
        simp
        omega
    · show (st.2 ++ [_]).length ≤ (st.1 ++ [c]).length
      rw [List.length_append, List.length_append]
      have := m.ll
      simp
      omega
    · intro x hx
      rcases List.mem_append.mp hx with q | q
      · rcases m.cl x q with z | ⟨v, hv, e⟩ | ⟨z1, z2⟩
        · exact .inl z
        · exact .inr (.inl ⟨v, List.mem_append_left _ hv, e⟩)
        · exact .inr (.inr ⟨z1, fun e he => List.mem_append_left _ (z2 e he)⟩)
      · rw [List.mem_singleton] at q
        exact .inr (.inl ⟨(w.1 ++ [w.2], c), List.mem_append_right _ List.mem_cons_self, q.symm⟩)
theorem visit_mono (w : Wk) (st : List Nat × List Wk) (c : Nat) : (∀ x ∈ st.1, x ∈ (visit w st c).1) ∧ c ∈ (visit w st c).1 ∧ (visit w st c).1.length + st.2.length = st.1.length + (visit w st c).2.length := by
  unfold visit
  by_cases h : c ∈ st.1
  · rw [if_pos h]; exact ⟨fun _ q => q, h, rfl⟩
  · rw [if_neg h]
    refine ⟨fun _ q => List.mem_append_left _ q, List.mem_append_right _ List.mem_cons_self, ?_⟩
    simp only [List.length_append, List.length_singleton]
    omega
theorem fold_MI {ps : List (Nat × Nat)} {a b : Nat} {rest : List Wk} {w : Wk} : ∀ (es : List Nat) (st : List Nat × List Wk), MI ps a b (w :: rest) st → (∀ c ∈ es, c < 6 ∧ (w.2, c) ∈ ps) → MI ps a b (w :: rest) (es.foldl (visit w) st)
  | [], _, m, _ => m
  | c :: es, st, m, h => fold_MI es _ (visit_MI m (h c List.mem_cons_self).1 (h c List.mem_cons_self).2) fun x hx => h x (List.mem_cons_of_mem _ hx)
theorem fold_mono (w : Wk) : ∀ (es : List Nat) (st : List Nat × List Wk), (∀ x ∈ st.1, x ∈ (es.foldl (visit w) st).1) ∧ (∀ c ∈ es, c ∈ (es.foldl (visit w) st).1) ∧ (es.foldl (visit w) st).1.length + st.2.length = st.1.length + (es.foldl (visit w) st).2.length
  | [], _ => ⟨fun _ q => q, fun _ q => by simp at q, rfl⟩
  | c :: es, st => by
    obtain ⟨a1, a2, a3⟩ := visit_mono w st c
    obtain ⟨b1, b2, b3⟩ := fold_mono w es (visit w st c)
    refine ⟨fun x hx => b1 x (a1 x hx), fun x hx => ?_, ?_⟩
    · rcases List.mem_cons.mp hx with q | q
      · rw [q]; exact b1 c a2
      · exact b2 x q
    · show (es.foldl (visit w) (visit w st c)).1.length + st.2.length = st.1.length + (es.foldl (visit w) (visit w st c)).2.length
      omega
theorem level_MI {ps : List (Nat × Nat)} {a b : Nat} {rest : List Wk} {w : Wk} {st : List Nat × List Wk} (hps : ∀ p ∈ ps, p.1 < 6 ∧ p.2 < 6) (m : MI ps a b (w :: rest) st) (hb : w.2 ≠ b) : MI ps a b rest (level ps st w) := by
  have f := fold_MI (ends ps w.2) st m fun c hc => mem_ends.mp hc
  obtain ⟨f1, f2, _⟩ := fold_mono w (ends ps w.2) st
  have hcl : ∀ e, (w.2, e) ∈ ps → e ∈ (level ps st w).1 := fun e he => f2 e (mem_ends.mpr ⟨(hps _ he).2, he⟩)
  refine ⟨f.nd, f.lt, f.ha, f.re, fun v hv => f.w1 v (List.mem_cons_of_mem _ hv), f.w2, f.ll, fun c hc => ?_⟩
  rcases f.cl c hc with ⟨v, hv, e⟩ | z | z
  · rcases List.mem_cons.mp hv with q | q
    · subst q
      subst e
      exact .inr (.inr ⟨hb, hcl⟩)
    · exact .inl ⟨v, q, e⟩
  · exact .inr (.inl z)
  · exact .inr (.inr z)
theorem level_len (ps : List (Nat × Nat)) (st : List Nat × List Wk) (w : Wk) : (level ps st w).1.length + st.2.length = st.1.length + (level ps st w).2.length := (fold_mono w _ st).2.2
theorem levels_MI {ps : List (Nat × Nat)} {a b : Nat} (hps : ∀ p ∈ ps, p.1 < 6 ∧ p.2 < 6) : ∀ (ws rest : List Wk) (st : List Nat × List Wk), MI ps a b (ws ++ rest) st → (∀ w ∈ ws, w.2 ≠ b) → MI ps a b rest (ws.foldl (level ps) st)
  | [], _, _, m, _ => m
  | w :: ws, rest, st, m, h => levels_MI hps ws rest _ (level_MI hps m (h w List.mem_cons_self)) fun v hv => h v (List.mem_cons_of_mem _ hv)
theorem levels_len (ps : List (Nat × Nat)) : ∀ (ws : List Wk) (st : List Nat × List Wk), (ws.foldl (level ps) st).1.length + st.2.length = st.1.length + (ws.foldl (level ps) st).2.length
  | [], _ => rfl
  | w :: ws, st => by
    have h1 := level_len ps st w
    have h2 := levels_len ps ws (level ps st w)
    show (ws.foldl (level ps) (level ps st w)).1.length + st.2.length = st.1.length + (ws.foldl (level ps) (level ps st w)).2.length
    omega
theorem MI.start {ps : List (Nat × Nat)} {a b : Nat} (ha : a < 6) : MI ps a b [([], a)] ([a], []) :=
  ⟨by simp, fun c hc => by rw [List.mem_singleton] at hc; omega, List.mem_cons_self, fun c hc => by rw [List.mem_singleton] at hc; rw [hc]; exact .refl,
    fun w hw => by rw [List.mem_singleton] at hw; rw [hw]; exact ⟨List.mem_cons_self, Nat.le_refl _⟩, fun w hw => by simp at hw, by simp, fun c hc => .inl ⟨([], a), List.mem_cons_self, by rw [List.mem_singleton] at hc; exact hc.symm⟩⟩
theorem MI.turn {ps : List (Nat × Nat)} {a b : Nat} {st : List Nat × List Wk} (m : MI ps a b [] st) : MI ps a b st.2 (st.1, []) :=
  ⟨m.nd, m.lt, m.ha, m.re, m.w2, fun w hw => by simp at hw, by simp, fun c hc => by
    rcases m.cl c hc with ⟨w, hw, _⟩ | z | z
    · simp at hw
    · exact .inl z
    · exact .inr (.inr z)⟩
theorem MI.hit {ps : List (Nat × Nat)} {a b : Nat} {rest : List Wk} {st : List Nat × List Wk} {w : Wk} (m : MI ps a b rest st) (hw : w ∈ rest) (e : w.2 = b) : Reach ps a b := e ▸ m.re _ (m.w1 w hw).1
theorem MI.none {ps : List (Nat × Nat)} {a b : Nat} {had : List Nat} (m : MI ps a b [] (had, [])) : ¬ Reach ps a b := by
  have cl : ∀ c ∈ had, c ≠ b ∧ ∀ e, (c, e) ∈ ps → e ∈ had := fun c hc => by
    rcases m.cl c hc with ⟨w, hw, _⟩ | ⟨w, hw, _⟩ | z
    · simp at hw
    · simp at hw
    · exact z
  intro h
  have all : ∀ c, Reach ps a c → c ∈ had := fun c hc => by
    induction hc with
    | refl => exact m.ha
    | step _ e ih => exact (cl _ ih).2 _ e
  exact (cl b (all b h)).1 rfl
/-! ### what follows from rules: (whether it settles, a column, a column) -/
noncomputable def reachB (ps : List (Nat × Nat)) (a b : Nat) : Bool := @decide (Reach ps a b) (Classical.propDecidable _)
theorem reachB_iff {ps : List (Nat × Nat)} {a b : Nat} : reachB ps a b = true ↔ Reach ps a b := by
  unfold reachB
  exact @decide_eq_true_iff _ (Classical.propDecidable _)
theorem reachB_not {ps : List (Nat × Nat)} {a b : Nat} : reachB ps a b = false ↔ ¬ Reach ps a b := by
  rw [← reachB_iff]
  cases reachB ps a b <;> simp
theorem reachB_congr {ps qs : List (Nat × Nat)} {a b : Nat} (h : Reach ps a b ↔ Reach qs a b) : reachB ps a b = reachB qs a b := by
  by_cases k : Reach ps a b
  · rw [reachB_iff.mpr k, reachB_iff.mpr (h.mp k)]
  · rw [reachB_not.mpr k, reachB_not.mpr fun z => k (h.mpr z)]
abbrev Ru3 := Bool × Nat × Nat
def downM (r : Ru3) : Nat × Nat := if r.1 = true then (r.2.1, r.2.2) else (r.2.2, r.2.1)
def downsM (rs : List Ru3) : List (Nat × Nat) := rs.map downM
noncomputable def backB (rs : List Ru3) (k : Bool) (r : Ru3) : Bool := reachB (downsM rs) (if k = true then r.2.2 else r.2.1) (if k = true then r.2.1 else r.2.2)
noncomputable def arrow1 (rs : List Ru3) (k : Bool) (r : Ru3) : List (Nat × Nat) :=
  if r.1 = k then (r.2.1, r.2.2) :: (if backB rs k r = true then [(r.2.2, r.2.1)] else []) else []
noncomputable def arrowsM (rs : List Ru3) (k : Bool) : List (Nat × Nat) := rs.flatMap (arrow1 rs k)
noncomputable def followsM (rs : List Ru3) (r : Ru3) : Bool := reachB (arrowsM rs r.1) r.2.1 r.2.2
theorem arrow1_len (rs : List Ru3) (k : Bool) (r : Ru3) : (arrow1 rs k r).length ≤ 2 := by
  unfold arrow1
  split
  · split <;> simp
  · simp
theorem flat_len (rs : List Ru3) (k : Bool) : ∀ qs : List Ru3, (qs.flatMap (arrow1 rs k)).length ≤ 2 * qs.length
  | [] => by simp
  | q :: qs => by
    rw [List.flatMap_cons, List.length_append, List.length_cons]
    have := arrow1_len rs k q
    have := flat_len rs k qs
    omega
theorem arrow1_mem {rs : List Ru3} {k : Bool} {r : Ru3} {p : Nat × Nat} (h : p ∈ arrow1 rs k r) : p = (r.2.1, r.2.2) ∨ p = (r.2.2, r.2.1) := by
  unfold arrow1 at h
  split at h
  · rcases List.mem_cons.mp h with q | q
    · exact .inl q
    · split at q
      · exact .inr (List.mem_singleton.mp q)
      · simp at q
  · simp at h
end CM
set_option Elab.async false
set_option linter.all false
set_option maxRecDepth 100000
set_option maxHeartbeats 4000000
/-! set(xs), xs a list of ints; sorted of it -/
namespace CL
open PySem L2 PySem.Spec PyProof.Rows
/-- a set that was just made -/
abbrev setNew (w : World) : Obj := { cls := .type "set", dict := none, data := .set #[] 0 (.fresh 0 0 (!w.params.followText "set-order")) }
section
variable {P : Program} {w : World} {A : Around} {E : Value → Shared → Prop} {s : Shared}
set_option maxHeartbeats 8000000 in
theorem set_of_list {l : Addr} {items : Array Value} (ns : List Int) {Q : Value → Shared → Prop} (hh : A.handled = none) (hl : s.heap.IsList l items) (hit : IntsAre items.toList ns) (hb : ns.length + 1 < scanBound)
    (h : ∀ (h' : Heap) (tk c : Nat), SetR w h' s.heap.objs.size (fun j => decide (j ∈ ns)) c → c ≤ ns.length → (∀ b o, s.heap.get? b = some o → h'.get? b = some o) → Q (.ref s.heap.objs.size) { s with heap := h', toks := tk }) :
    wpAny (model P w) A (call (.type "set") [.ref l]) Q E s := by
  have size_ns : items.size = ns.length := by rw [← Array.length_toList]; exact IntsAre.length hit
  have eval_made := PySem.F.called_set.made
  have eval_sub := PySem.F.called_set.sub
  have eval_nt := PySem.F.called_set.notType
  have eval_cc := PySem.F.called_set.canCreate
  have eval_tc := PySem.F.typeCall_set_1 (.ref l)
  obtain ⟨c, tl, eval_mro⟩ := PySem.F.called_set.mro
  refine wpAny_call (codeAny_of_tree ?_)
  show wpAny _ _ (callAny (.type "set") _) _ _ _
  refine wpAny_pure ⟨Code.quiet_builtin _ (by decide +kernel), codeAny_builtin PySem.F.entry_type_call ?_⟩
  rw [Around.under_plain (weight_type_call_type "set" [.ref l] []) rfl]
  repeat (any_goals (first | assumption | wp_step))
  refine codeAny_mono (code_set_led1 (.ref l) (E := E) (Q₁ := fun obj s₁ => obj = .ref s.heap.objs.size ∧ s₁ = { s with heap := s.heap.push (setNew w) }) ⟨rfl, rfl⟩) fun r s₁ hr => ?_
  match r, hr with
  | .error _, hr => exact hr
  | .ok (.next), hr => exact hr.elim
  | .ok (.brk), hr => exact hr.elim
  | .ok (.cont), hr => exact hr.elim
  | .ok (.ret obj), hr =>
    obtain ⟨rfl, rfl⟩ := hr
    have got : (s.heap.push (setNew w)).get? s.heap.objs.size = some (setNew w) := Heap.get?_push_size _ rfl
    have tyS : Shared.TypeIs { s with heap := s.heap.push (setNew w) } (.ref s.heap.objs.size) "set" := ⟨_, got, rfl⟩
    have init_look := PySem.F.called_set.init.lookup
    have init_bind := PySem.F.called_set.init.bind (.ref s.heap.objs.size)
    repeat (any_goals (first | assumption | wp_step))
    refine codeAny_mono (codeAny_call_builtin (R := wants (fun r s₂ => r = .none ∧ ∃ h' tk c, s₂ = { s with heap := h', toks := tk } ∧ SetR w h' s.heap.objs.size (fun j => decide (j ∈ ns)) c ∧ c ≤ ns.length ∧
        (∀ b o, s.heap.get? b = some o → h'.get? b = some o)) E) PySem.F.called_set.init.plain PySem.F.entry_set_init (check_set_init_1 tyS ?_)) fun r₂ s₂ hr₂ => ?_
    · obtain ⟨⟨ocls, odict, odata, oslots⟩, atl, cl, nl, dl⟩ := hl
      simp only at cl dl
      subst cl; subst dl
      have atl' : (s.heap.push (setNew w)).get? l = some { cls := .type "list", dict := odict, data := .seq items nl, slots := oslots } := Heap.get?_push_of_some _ atl
      have sub1 := PySem.F.sub_list_set
      have sub2 := PySem.F.sub_list_frozenset
      have nodict : (Value.type "list" == Value.type "dict") = false := by decide
      have isl : (s.heap.push (setNew w)).IsList l items := ⟨_, atl', rfl, nl, rfl⟩
      unfold Builtin.«set.__init__» noKeywords Builtin.Frozenset.updateFrom
      generalize eqPI : pyIter = PI
      wp_walk
      subst eqPI
      refine wpAny_pyIter_list isl (wpAny_bind (wpAny_runValue ?_))
      have lt_l : l < s.heap.objs.size := Heap.lt_size atl
      have h3 : A.in1.in1.in1.handled = none := by simp [hh]
      have sz1 : (s.heap.push (setNew w)).objs.size = s.heap.objs.size + 1 := Heap.size_push ..
      have ne_it : l ≠ (s.heap.push (setNew w)).objs.size := by rw [sz1]; exact Nat.ne_of_lt (Nat.lt_succ_of_lt lt_l)
      have out_fp : s.heap.objs.size ∉ [(s.heap.push (setNew w)).objs.size, l] := by
        rw [sz1]; simp only [List.mem_cons, List.not_mem_nil, or_false, not_or]
        exact ⟨Nat.ne_of_lt (Nat.lt_succ_self _), Nat.ne_of_gt lt_l⟩
      have item_int : ∀ (i : Nat) (v : Value), items[i]? = some v → ∃ k t, ns[i]? = some k ∧ v = .int k t := fun i v hv => by
        have hi : i < ns.length := by rw [← size_ns]; exact (Array.getElem?_eq_some_iff.mp hv).1
        obtain ⟨t, e⟩ := PyProof.Rows.IntsAre.int_at hit i v (by rw [Array.getElem?_toList]; exact hv)
        exact ⟨ns[i], t, List.getElem?_eq_getElem hi, by rw [e, List.getD_eq_getElem?_getD, List.getElem?_eq_getElem hi]; rfl⟩
      refine set_update_ints ((Walks.list h3 _ l ne_it items).toS) s.heap.objs.size out_fp ns size_ns hb item_int (items.size - 0) 0 _ (by omega) (Nat.zero_le _)
        ⟨⟨_, Heap.get?_push_size _ rfl, rfl, rfl⟩, (isl.push _)⟩ ?start ?fin
      case start =>
        have got2 : ((s.heap.push (setNew w)).push { cls := .type "list_iterator", data := .fields #[.ref l, .int 0 0] }).get? s.heap.objs.size = some (setNew w) := Heap.get?_push_of_some _ got
        exact ⟨0, Nat.le_refl 0, setR_new_at got2⟩
      case fin =>
        rintro ⟨h', g2, d', tk', os'⟩ c' hm hc' hS'
        obtain rfl : g2 = s.gens := hm.gens
        obtain rfl : d' = s.drawn := hm.drawn
        obtain rfl : os' = s.os := hm.os
        show wpAny _ _ _ _ _ _
        refine wpAny_pure ?_
        show wpAny _ _ (ret Value.none) _ _ _
        rw [size_ns] at hc'
        refine wpAny_pure ⟨rfl, h', tk', c', rfl, hS', hc', fun b o e => ?_⟩
        have ltb : b < s.heap.objs.size := Heap.lt_size e
        have nb : b ≠ (s.heap.push (setNew w)).objs.size := by rw [sz1]; exact Nat.ne_of_lt (Nat.lt_succ_of_lt ltb)
        exact hm.heap b o (by simp only [List.mem_cons, List.not_mem_nil, or_false, not_or]; exact ⟨Nat.ne_of_lt ltb, nb⟩) (Heap.get?_push_of_some _ (Heap.get?_push_of_some _ e))
    · match r₂, hr₂ with
      | .error _, hr₂ => exact hr₂
      | .ok (.next), hr₂ => exact hr₂.elim
      | .ok (.brk), hr₂ => exact hr₂.elim
      | .ok (.cont), hr₂ => exact hr₂.elim
      | .ok (.ret r), hr₂ =>
        obtain ⟨rfl, h', tk, c', rfl, hS', hc', hk'⟩ := hr₂
        repeat (any_goals (first | assumption | wp_step))
        exact h _ _ _ hS' hc' hk'
end
section
variable {X : Cx}
def rSetL (K : PySem.W.Frag) (w : World) : List V → Hp → VK → Prop := fun vs H Q => ∃ (a : Addr) (ns : List Int), vs = [.ref a] ∧ SqL K H a (ns.map V.int) ∧ ns.length ≤ 1000 ∧
  ∀ p c, H p = none → (∀ D : List Int, (∀ k ∈ ns, k ∈ D) → c ≤ D.length) → Q (.ref p) (upd H p (SetO w p (fun j => decide (j ∈ ns)) c))
theorem cr_setL (hc : X.calm = true) : CallR X (.type "set") (rSetL X.K X.w) := by
  intro pins s σ H xs us Q I r h
  obtain ⟨a, ns, rfl, hs, hl, q⟩ := h
  rw [Vals.ref1 r]
  obtain ⟨its, rv, pl, _⟩ := I.list hs
  have hi : IntsAre its.toArray.toList ns := ints_of_vals rv
  refine set_of_list ns (I.ok.hd hc) pl.isList hi (by unfold scanBound; omega) fun h' tk c R hcn k => ?_
  have hn : H s.heap.objs.size = none := I.hok.fresh (Nat.le_refl _)
  refine ⟨.ref _, upd H s.heap.objs.size (SetO X.w s.heap.objs.size (fun j => decide (j ∈ ns)) c), I.laid (t' := tk) (fun b u e => k b u e) (Nat.le_refl _) (setO_new R), rfl, q _ c hn fun D hD => ?_⟩
  obtain ⟨_, es, _, _, _, _, _, _, nd, hm, _, _, hz, _⟩ := R
  have hl2 : c = (es.toList.map keyOf).length := by rw [List.length_map, Array.length_toList]; exact hz.symm
  rw [hl2]
  exact List.Nodup.length_le_of_subset nd fun x hx => hD x (of_decide_eq_true ((hm x).mpr hx))
end
theorem up_unique : ∀ (l m : List Int), l.Pairwise (· < ·) → m.Pairwise (· < ·) → (∀ k, k ∈ l ↔ k ∈ m) → l = m
  | [], [], _, _, _ => rfl
  | [], y :: m, _, _, h => absurd ((h y).mpr List.mem_cons_self) (by simp)
  | x :: l, [], _, _, h => absurd ((h x).mp List.mem_cons_self) (by simp)
  | x :: l, y :: m, hl, hm, h => by
    rw [List.pairwise_cons] at hl hm
    have e : x = y := by
      rcases List.mem_cons.mp ((h x).mp List.mem_cons_self) with q | q
      · exact q
      · rcases List.mem_cons.mp ((h y).mpr List.mem_cons_self) with q2 | q2
        · exact q2.symm
        · have := hl.1 y q2
          have := hm.1 x q
          omega
    subst e
    congr 1
    refine up_unique l m hl.2 hm.2 fun k => ⟨fun q => ?_, fun q => ?_⟩
    · rcases List.mem_cons.mp ((h k).mp (List.mem_cons_of_mem _ q)) with z | z
      · have := hl.1 k q; omega
      · exact z
    · rcases List.mem_cons.mp ((h k).mpr (List.mem_cons_of_mem _ q)) with z | z
      · have := hm.1 k q; omega
      · exact z
/-- sorted(set(ns)), the members below m -/
theorem sorted_members {ns out : List Int} {m : Nat} (h : ∀ k ∈ ns, 0 ≤ k ∧ k < (m : Int)) (hp : out.Pairwise (· < ·)) (hm : ∀ k : Int, k ∈ out ↔ k ∈ ns) : out = ((List.range m).filter fun i => decide (((i : Nat) : Int) ∈ ns)).map fun i => ((i : Nat) : Int) := by
  refine up_unique _ _ hp ?_ fun k => ?_
  · refine List.Pairwise.map _ (fun a b h => ?_) (List.Pairwise.filter _ List.pairwise_lt_range)
    exact Int.ofNat_lt.mpr h
  · rw [hm k, List.mem_map]
    constructor
    · intro q
      obtain ⟨h0, h1⟩ := h k q
      refine ⟨k.toNat, List.mem_filter.mpr ⟨List.mem_range.mpr (by omega), decide_eq_true ?_⟩, by omega⟩
      rw [Int.toNat_of_nonneg h0]; exact q
    · rintro ⟨i, q, rfl⟩
      exact of_decide_eq_true (List.mem_filter.mp q).2
section
variable {σ : VSt} {G : Hp} {te : TE} {K : PySem.W.Frag} {w : World}
theorem d_sortset {ns : List Int} {m : Nat} (h : EvD te σ G (.list (ns.map PyData.int))) (hl : ns.length ≤ 1000) (hm6 : m < 64) (hb : ∀ k ∈ ns, 0 ≤ k ∧ k < (m : Int)) :
    EvM (tCB (rSortedSet w) (tCons (tCB (rSetL K w) (tCons te tNil)) tNil)) σ G (((List.range m).filter fun i => decide (((i : Nat) : Int) ∈ ns)).map fun i => PyData.int ((i : Nat) : Int)) := fun G1 H1 e1 e2 Q q =>
  h.go' e1 e2 fun v G2 H2 g2 hv => by
    obtain ⟨a, xs, rfl, hp, hx⟩ := hv.eqL
    have ex := hx.ints
    subst ex
    refine ⟨a, ns, rfl, .inl (.inl (g2.gh _ _ hp)), by omega, fun p c hp2 hc => ?_⟩
    have hc6 : c ≤ m := by
      have z := hc ((List.range m).map fun i => ((i : Nat) : Int)) fun k hk => by
        obtain ⟨a1, a2⟩ := hb k hk
        exact List.mem_map.mpr ⟨k.toNat, List.mem_range.mpr (by omega), by omega⟩
      rw [List.length_map, List.length_range] at z
      exact z
    refine ⟨p, _, c, rfl, upd_same, by omega, fun out p3 ho hm hlen hp3 => ?_⟩
    have eo : out = ((List.range m).filter fun i => decide (((i : Nat) : Int) ∈ ns)).map fun i => ((i : Nat) : Int) := sorted_members hb ho fun k => by rw [hm k]; simp
    have g3 : Grow M0 G2 H2 G2 (upd H2 p (SetO w p (fun j => decide (j ∈ ns)) c)) := Grow.mnew g2.gh hp2
    have g4 := (g2.trans g3).trans (Grow.mnew (o := .lst (out.map V.int)) g3.gh hp3)
    have ep : (((List.range m).filter fun i => decide (((i : Nat) : Int) ∈ ns)).map fun i => PyData.int ((i : Nat) : Int)) = out.map PyData.int := by rw [eo, List.map_map]; rfl
    rw [ep] at q
    exact q p3 _ _ (g2.there _ (g3.there _ hp3)) g4 (ML.new g3.gh hp3 (DDs.ofInts _ out))
end
end CL
set_option Elab.async false
set_option linter.all false
set_option maxRecDepth 100000
set_option maxHeartbeats 4000000
namespace CL
open PySem L2 CM
/-! ### a def of the module, ready to be called -/
structure Fn1 (P : Program) (w : World) (K : PySem.W.Frag) (mg : Str → Option Value) (base : Heap) (x : Str) (k : Nat) (sp : Sp) : Prop where
  ex : ∃ (f : Addr) (fd : FuncData) (ps : List Str), FnOk P w K mg base CX0 k f fd ps sp ∧ mg x = some (.ref f) ∧ PySem.W.keepIn K (.ref f) = true ∧ Binds K fd ps []
theorem pe_fn {X : Cx} {x : Str} {k : Nat} {sp : Sp} {p pos : Pos} {e : Expr} {es : List Expr} {t : TA} (F : Fn1 X.prog X.w X.K X.mg X.base x k sp) (hr : Room k X.A) (hg : Gl X x) (ha : PA X (e :: es) t) (hdb : (x == ("__debug__" : Str)) = false := by decide)
    (he : starEach (e :: es) X.env = (false, eval e X.env) :: starEach es X.env := by rfl) (hpl : (backTo pos (starEach es X.env)).any (·.1) = false := by rfl) :
    PE X (.Call (.Name x p) (e :: es) [] pos) (tCall sp [] E0 t) := by
  obtain ⟨f, fd, ps, F, hm, hk, hb⟩ := F.ex
  exact pe_call F hr hg hm hk hb .nil pass0 ha hdb he hpl
theorem h64 {k : Nat} {A : Around} (hr : Room k A) : A.units + 64 < cLine := hr.units
theorem h65 {k : Nat} {A : Around} (hr : Room k A) : A.units + 65 < cLine := by have := hr.un; omega
theorem h80 {k : Nat} {A : Around} (hr : Room k A) : A.units + 80 < cLine := by have := hr.un; omega
/-- the scope of the first comprehension of a def -/
def lcScope (s : Stmt) : Scope := match defBody s with
  | .Assign _ (.ListComp _ _ sc _) _ :: _ => sc
  | _ => { kind := .function, names := [], isGenerator := false, isCoroutine := false }

/-! ### data of the program -/
abbrev I1 (n : Nat) : PyData := .int (n : Int)
abbrev P2 (p : Nat × Nat) : PyData := .tuple [.int (p.1 : Int), .int (p.2 : Int)]
/-- a rule: whether it settles, its columns -/
abbrev Ru := Bool × Nat × Nat
def kd (k : Bool) : Str := if k then "settles" else "within"
abbrev RU (r : Ru) : PyData := .tuple [.str (kd r.1), .int (r.2.1 : Int), .int (r.2.2 : Int)]
abbrev WK (w : Wk) : PyData := .tuple ((w.1 ++ [w.2]).map I1)
theorem kd_inj {a b : Bool} (h : kd a = kd b) : a = b := by
  cases a <;> cases b <;> first | rfl | exact absurd h (by decide +kernel)
theorem kd_eq (a b : Bool) : (kd a == kd b) = (a == b) := by
  cases a <;> cases b <;> decide +kernel
theorem eqv_int (i j : Int) : PyData.eqv (.int i) (.int j) = decide (i = j) := by
  simp only [PyData.eqv]
  by_cases h : i = j
  · rw [h]; simp
  · rw [decide_eq_false h]; exact beq_eq_false_iff_ne.mpr h
theorem eqv_I1 (i j : Nat) : PyData.eqv (I1 i) (I1 j) = decide (i = j) := by
  rw [eqv_int]
  by_cases h : i = j
  · rw [h]; simp
  · rw [decide_eq_false h, decide_eq_false (by omega)]
theorem eqv_str (i j : Str) : PyData.eqv (.str i) (.str j) = decide (i = j) := by
  simp only [PyData.eqv]
  by_cases h : i = j
  · rw [h]; simp
  · rw [decide_eq_false h]; exact beq_eq_false_iff_ne.mpr h
theorem eqv_P2 (p q : Nat × Nat) : PyData.eqv (P2 p) (P2 q) = decide (p = q) := by
  obtain ⟨a, b⟩ := p
  obtain ⟨c, d⟩ := q
  show PyData.eqv (.tuple [I1 a, I1 b]) (.tuple [I1 c, I1 d]) = _
  rw [PyData.eqv, PyData.eqvAll, PyData.eqvAll, PyData.eqvAll, eqv_I1, eqv_I1]
  by_cases h1 : a = c
  · by_cases h2 : b = d
    · subst h1 h2; simp
    · have : ¬ ((a, b) = (c, d)) := fun e => h2 (Prod.mk.inj e).2
      rw [decide_eq_false this, decide_eq_false h2]; simp
  · have : ¬ ((a, b) = (c, d)) := fun e => h1 (Prod.mk.inj e).1
    rw [decide_eq_false this, decide_eq_false h1]; simp
theorem eqv_RU (p q : Ru) : PyData.eqv (RU p) (RU q) = decide (p = q) := by
  obtain ⟨k, a, b⟩ := p
  obtain ⟨l, c, d⟩ := q
  show PyData.eqv (.tuple [.str (kd k), I1 a, I1 b]) (.tuple [.str (kd l), I1 c, I1 d]) = _
  rw [PyData.eqv, PyData.eqvAll, PyData.eqvAll, PyData.eqvAll, PyData.eqvAll, eqv_I1, eqv_I1, eqv_str]
  by_cases h0 : k = l
  · by_cases h1 : a = c
    · by_cases h2 : b = d
      · subst h0 h1 h2; simp
      · have : ¬ ((k, a, b) = (l, c, d)) := fun e => h2 (Prod.mk.inj (Prod.mk.inj e).2).2
        rw [decide_eq_false this, decide_eq_false h2]; simp
    · have : ¬ ((k, a, b) = (l, c, d)) := fun e => h1 (Prod.mk.inj (Prod.mk.inj e).2).1
      rw [decide_eq_false this, decide_eq_false h1]; simp
  · have : ¬ ((k, a, b) = (l, c, d)) := fun e => h0 (Prod.mk.inj e).1
    rw [decide_eq_false this, decide_eq_false (fun e => h0 (kd_inj e))]; simp
theorem any_eqv {α : Type} [DecidableEq α] {enc : α → PyData} (h : ∀ x y, PyData.eqv (enc x) (enc y) = decide (x = y)) (x : α) : ∀ xs : List α, ((xs.map enc).any fun z => PyData.eqv z (enc x)) = decide (x ∈ xs)
  | [] => by simp
  | y :: ys => by
    rw [List.map_cons, List.any_cons, h, any_eqv h x ys]
    by_cases e : y = x
    · subst e; simp
    · rw [decide_eq_false e, Bool.false_or]
      by_cases m : x ∈ ys
      · simp [m]
      · rw [decide_eq_false m]
        exact (decide_eq_false (fun z => (List.mem_cons.mp z).elim (fun q => e q.symm) m)).symm
theorem shaped_int (i : Int) : SeqAt.shaped (.int i) = true := rfl
theorem shaped_kd (k : Bool) : SeqAt.shaped (.str (kd k)) = true := by cases k <;> decide +kernel
/-- data that lie flat enough -/
def Lay (n : Nat) (d : PyData) : Prop := d.canLay0 = true ∧ d.depth ≤ n
theorem Lay.shaped {n : Nat} {d : PyData} (h : Lay n d) (hn : n ≤ 64 := by decide) : SeqAt.shaped d = true := by
  show (d.canLay0 && decide (d.depth ≤ 64)) = true
  rw [h.1, Bool.true_and]
  have := h.2
  exact decide_eq_true (by omega)
theorem Lay.all {n : Nat} : ∀ {ds : List PyData}, (∀ d ∈ ds, Lay n d) → PyData.canLayAll0 ds = true ∧ PyData.depthAll ds ≤ n
  | [], _ => ⟨by simp [PyData.canLayAll0], by simp [PyData.depthAll]⟩
  | d :: ds, h => by
    obtain ⟨h1, h2⟩ := h d List.mem_cons_self
    obtain ⟨h3, h4⟩ := Lay.all (ds := ds) fun x hx => h x (List.mem_cons_of_mem _ hx)
    refine ⟨?_, ?_⟩
    · simp only [PyData.canLayAll0, h1, h3, Bool.and_self]
    · simp only [PyData.depthAll]
      exact Nat.max_le.mpr ⟨h2, h4⟩
theorem Lay.list {n : Nat} {ds : List PyData} (h : ∀ d ∈ ds, Lay n d) : Lay (n + 1) (.list ds) := by
  obtain ⟨h1, h2⟩ := Lay.all h
  refine ⟨by simp only [PyData.canLay0]; exact h1, ?_⟩
  simp only [PyData.depth]
  omega
theorem Lay.tuple {n : Nat} {ds : List PyData} (h : ∀ d ∈ ds, Lay n d) : Lay (n + 1) (.tuple ds) := by
  obtain ⟨h1, h2⟩ := Lay.all h
  refine ⟨by simp only [PyData.canLay0]; exact h1, ?_⟩
  simp only [PyData.depth]
  omega
theorem Lay.mono {n m : Nat} {d : PyData} (h : Lay n d) (k : n ≤ m) : Lay m d := ⟨h.1, Nat.le_trans h.2 k⟩
theorem lay_int (i : Int) : Lay 0 (.int i) := ⟨rfl, by simp [PyData.depth]⟩
theorem lay_bool (i : Bool) : Lay 0 (.bool i) := ⟨rfl, by simp [PyData.depth]⟩
theorem lay_none : Lay 0 .none := ⟨rfl, by simp [PyData.depth]⟩
theorem lay_kd (k : Bool) : Lay 0 (.str (kd k)) := by cases k <;> exact ⟨by decide +kernel, by simp [PyData.depth]⟩
theorem lay_I1s (ns : List Nat) : ∀ d ∈ ns.map I1, Lay 0 d := fun d h => by
  obtain ⟨n, _, rfl⟩ := List.mem_map.mp h
  exact lay_int _
theorem lay_P2 (p : Nat × Nat) : Lay 1 (P2 p) := Lay.tuple fun d h => by
  simp only [List.mem_cons, List.not_mem_nil, or_false] at h
  rcases h with rfl | rfl <;> exact lay_int _
theorem lay_RU (p : Ru) : Lay 1 (RU p) := Lay.tuple fun d h => by
  simp only [List.mem_cons, List.not_mem_nil, or_false] at h
  rcases h with rfl | rfl | rfl
  · exact lay_kd _
  · exact lay_int _
  · exact lay_int _
theorem lay_WK (p : Wk) : Lay 1 (WK p) := Lay.tuple (lay_I1s _)
theorem lay_map {α : Type} {enc : α → PyData} {n : Nat} (h : ∀ x, Lay n (enc x)) (xs : List α) : Lay (n + 1) (.list (xs.map enc)) := Lay.list fun d hd => by
  obtain ⟨x, _, rfl⟩ := List.mem_map.mp hd
  exact h x
theorem atI_last1 {α β : Type} (xs : List α) (x : α) (f : α → β) : atI ((xs ++ [x]).map f) (-1) = some (f x) := by
  rw [List.map_append]
  exact atI_last _ _
theorem atI_at {α : Type} {xs : List α} {i : Nat} {x : α} (h : xs[i]? = some x) : atI xs (i : Int) = some x := atI_nat h
end CL
set_option Elab.async false
set_option linter.all false
set_option maxRecDepth 100000
set_option maxHeartbeats 4000000
/-! Rules whose reading names the written part K itself (so they serve in a comprehension's block). -/
namespace CL
open PySem L2
section
variable {X : Cx} (K : PySem.W.Frag)
theorem ix_seqK (h : X.K = K := by rfl) : IxR X (rIx K) := h ▸ ix_seq
theorem eqDK (hu : X.A.units + 64 < cLine) (h : X.K = K := by rfl) : OpR X (compareOp .Eq) (rEqD K) := h ▸ op_eqD hu
theorem neDK (hu : X.A.units + 64 < cLine) (h : X.K = K := by rfl) : OpR X (compareOp .NotEq) (rNeD K) := h ▸ op_neD hu
theorem inDK (hu : X.A.units + 65 < cLine) (h : X.K = K := by rfl) : OpR X (compareOp .In) (rInD K) := h ▸ op_inD hu
theorem notInDK (hu : X.A.units + 65 < cLine) (h : X.K = K := by rfl) : OpR X (compareOp .NotIn) (rNotInD K) := h ▸ op_notInD hu
theorem inTK (h : X.K = K := by rfl) : OpR X (compareOp .In) (rIn K false) := h ▸ op_in_seq
theorem catTK (h : X.K = K := by rfl) : OpR X (binaryOp .Add) (rCatT K) := h ▸ op_catT
theorem slLK (h : X.K = K := by rfl) : SlR X (rSlL K) := h ▸ sl_list
theorem crAllK (hc : X.calm = true) (h : X.K = K := by rfl) : CallR X (.builtin "all") (rAll K) := h ▸ cr_all hc
theorem crSetK (w : World) (hc : X.calm = true) (h : X.K = K := by rfl) (hw : X.w = w := by rfl) : CallR X (.type "set") (rSetL K w) := h ▸ hw ▸ cr_setL hc
theorem crSortedK (w : World) (hc : X.calm = true) (hw : X.w = w := by rfl) : CallR X (.builtin "sorted") (rSortedSet w) := hw ▸ cr_sortedSet hc
def rLen (K : PySem.W.Frag) : List V → Hp → VK → Prop := fun xs H Q => ∃ x n, xs = [x] ∧ LenV K x H n ∧ Q (.int (n : Nat)) H
theorem crLenK (h : X.K = K := by rfl) : CallR X (.builtin "len") (rLen K) := h ▸ call_len
theorem crIsiK (h : X.K = K := by rfl) : CallR X (.builtin "isinstance") (rIsi K) := h ▸ call_isi
theorem piListK {tg l : Expr} {tl : TE} (hl : PE X l tl) (h : X.K = K := by rfl) : PI X tg l (iList K tl) := h ▸ pi_list hl
theorem piTupK {tg l : Expr} {tl : TE} (hl : PE X l tl) (h : X.K = K := by rfl) : PI X tg l (iTup K tl) := h ▸ pi_tup hl
theorem pgTupK {es : List Expr} {k : Nat} {t : TGs} {n : Nat} {pos : Pos} (ht : PGs X es t) (hc : X.calm = true := by rfl) (hn : (assignEach es X.env).length = n := by rfl) (hst : (assignEach es X.env).findIdx? (·.1) = none := by rfl) (h : X.K = K := by rfl) :
    PG X (.Tuple es k pos) (gTup K n t) := h ▸ pg_tup hc ht hn hst
theorem peCntK {o e : Expr} {to te : TE} {apos cpos : Pos} (hu : X.A.units + 80 < cLine) (ho : PE X o to) (he : PE X e te) (h : X.K = K := by rfl) (hs : starEach [e] X.env = (false, eval e X.env) :: starEach [] X.env := by rfl)
    (hbase : attributeBase o "count" X.env (eval o X.env) = eval o X.env := by rfl)
    (hfew : ((backTo cpos (starEach [e] X.env)).all (fun x => !x.1) && (backToKw cpos (keywordEach [] X.env)).all (fun x => x.1.isSome)
      && decide ([e].length + ([] : List Keyword).length + (if ([] : List Keyword).isEmpty then 0 else 1) < 30)) = true := by rfl)
    (hline : (apos.endLine == cpos.line) = true := by rfl) : PE X (.Call (.Attribute o "count" apos) [e] [] cpos) (tCnt K to te) := h ▸ pe_cnt hu ho he hs hbase hfew hline
theorem peFldK {e : Expr} {ta : TE} {f : Str} {pos : Pos} (he : PE X e ta) (h : X.K = K := by rfl) (hb : attributeBase e f X.env (eval e X.env) = eval e X.env := by rfl) : PE X (.Attribute e f pos) (tFld K ta f) := h ▸ pe_fld he hb
end
section
variable {X : Cx} {pos : Pos}
/-- a name as a target -/
theorem pgN (i : Nat) {x : Str} (hN : X.N.Nodup) (hi : X.N[i]? = some x := by rfl) (hx : Loc X.env.scope x := by first | exact Or.inl rfl | exact Or.inr rfl) (hf : X.fn x = true ∨ X.env.scope.names.lookup x = some .local := by first | exact Or.inl rfl | exact Or.inr rfl) :
    PG X (.Name x pos) (gName i) := pg_name hN hi hx hf
end
section
variable {σ : VSt} {G H : Hp} {ta tb te tl : TE} {t : TT} {d d' : PyData} {D : Ends} {tu tw tz : TS}
theorem q_parDM {i j : Nat} {ds : List PyData} (h1 : EvD ta σ G d) (h2 : EvM tb σ G ds) (e : Ex G H) (k : ∀ v p G2 H2, H p = none → Grow M0 G H G2 H2 → DD G2 v d → ML G2 H2 p ds → tz D ((σ.set i (some v)).set j (some (.ref p))) H2) :
    tSeq (tPar i j (tCons ta (tCons tb tNil))) tz D σ H := h1.go e fun v G1 H1 g1 hv => h2 G1 H1 g1.g g1.gh _ fun p G2 H2 hp g2 m => ⟨v, .ref p, rfl, k v p G2 H2 (g1.there p hp) (g1.trans g2) (hv.up g2.g) m⟩
theorem q_parMM {i j : Nat} {ds es : List PyData} (h1 : EvM ta σ G ds) (h2 : EvM tb σ G es) (e : Ex G H) (k : ∀ p q G2 H2, H p = none → H q = none → p ≠ q → Grow M0 G H G2 H2 → ML G2 H2 p ds → ML G2 H2 q es → tz D ((σ.set i (some (.ref p))).set j (some (.ref q))) H2) :
    tSeq (tPar i j (tCons ta (tCons tb tNil))) tz D σ H := h1 G H (Ex.refl G) e _ fun p G1 H1 hp g1 m => h2 G1 H1 g1.g g1.gh _ fun q G2 H2 hq g2 m2 =>
      ⟨.ref p, .ref q, rfl, k p q G2 H2 hp (g1.there q hq) (fun z => m.there (z ▸ hq)) (g1.trans g2) (m.grow0 g2) m2⟩
theorem q_parDD {i j : Nat} (h1 : EvD ta σ G d) (h2 : EvD tb σ G d') (e : Ex G H) (k : ∀ v u G2 H2, Grow M0 G H G2 H2 → DD G2 v d → DD G2 u d' → tz D ((σ.set i (some v)).set j (some u)) H2) :
    tSeq (tPar i j (tCons ta (tCons tb tNil))) tz D σ H := h1.go e fun v G1 H1 g1 hv => h2.go' g1.g g1.gh fun u G2 H2 g2 hu => ⟨v, u, rfl, k v u G2 H2 (g1.trans g2) (hv.up g2.g) hu⟩
/-- while, by a word that falls -/
theorem q_while (W : Nat → VSt → Hp → Hp → Prop) (m0 : Nat) (h0 : W m0 σ G H)
    (hs : ∀ m σ' G' H', W m σ' G' H' → Ex G' H' ∧ ∃ b, EvB t σ' G' b ∧
      (b = true → ∀ G1 H1, Grow M0 G' H' G1 H1 → ∀ N : VSt → Hp → Prop, (∀ m' σ2 G2 H2, m' < m → W m' σ2 G2 H2 → N σ2 H2) → tu { D with nx := N, ct := N, bk := tz D } σ' H1) ∧ (b = false → ∀ G1 H1, Grow M0 G' H' G1 H1 → tz D σ' H1)) :
    tSeq (tWhile t tu) tz D σ H := ⟨fun m σ' H' => ∃ G', W m σ' G' H', ⟨m0, G, h0⟩, fun m σ' H' ⟨G', hw⟩ => by
    obtain ⟨e, b, hb, h1, h2⟩ := hs m σ' G' H' hw
    refine hb G' H' (Ex.refl G') e _ fun G1 H1 g1 => ?_
    cases b with
    | true => exact ⟨fun σ2 H2 => ∃ m' G2, m' < m ∧ W m' σ2 G2 H2, fun σ2 H2 ⟨m', G2, a, b⟩ => ⟨m', a, G2, b⟩, h1 rfl G1 H1 g1 _ fun m' σ2 G2 H2 a b => ⟨m', G2, a, b⟩⟩
    | false => exact h2 rfl G1 H1 g1⟩
/-- -1 -/
theorem d_neg1 : EvD (tUn (rU fun i => .int (-i)) (tC (.int 1))) σ G (.int (-1)) := .mk fun G1 H1 e1 e2 Q q => ⟨1, rfl, q _ G1 H1 (Grow.refl e2) (.int _)⟩
end
theorem eqv_nil (ds : List PyData) : (!PyData.eqv (.list ds) (.list [])) = !ds.isEmpty := by
  cases ds with
  | nil => simp [PyData.eqv, PyData.eqvAll]
  | cons d ds => simp [PyData.eqv, PyData.eqvAll]
section
variable {σ : VSt} {G G3 H : Hp} {t : TT} {D : Ends} {tu tw tz : TS}
/-- a test that reads lists which may change -/
theorem s_whenF {b : Bool} (h : EvB t σ G3 b) (e : Ex G G3) (e3 : Ex G3 H) (h1 : b = true → ∀ H2, Grow M0 G H G H2 → tu D σ H2) (h2 : b = false → ∀ H2, Grow M0 G H G H2 → D.nx σ H2) : tIfS t tu tNext D σ H :=
  h G3 H (Ex.refl G3) e3 _ fun G5 H5 g => by
    cases b with
    | true => exact h1 rfl H5 (g.drop e e3)
    | false => exact h2 rfl H5 (g.drop e e3)
theorem q_whenF {b : Bool} (h : EvB t σ G3 b) (e : Ex G G3) (e3 : Ex G3 H) (h1 : b = true → ∀ H2, Grow M0 G H G H2 → tu { D with nx := tz D } σ H2) (h2 : b = false → ∀ H2, Grow M0 G H G H2 → tz D σ H2) : tSeq (tIfS t tu tNext) tz D σ H :=
  s_whenF (D := { D with nx := tz D }) h e e3 h1 h2
end
theorem q_asgG {σ : VSt} {G H : Hp} {te : TE} {d : PyData} {D : Ends} {tz : TS} {g : TG} (h : EvD te σ G d) (e : Ex G H) (k : ∀ v G2 H2, Grow M0 G H G2 H2 → DD G2 v d → g v σ H2 (tz D)) : tSeq (tAsg te g) tz D σ H := h.go e k
end CL
set_option Elab.async false
set_option linter.all false
set_option maxRecDepth 100000
set_option maxHeartbeats 4000000
/-! The texts of rules. -/
namespace CL
open PySem L2 CM
abbrev S (l : List Nat) : Str := SX.S l
def dig (c : Nat) : Str := S [48 + c]
def kdL (k : Bool) : List Nat := if k then [115, 101, 116, 116, 108, 101, 115] else [119, 105, 116, 104, 105, 110]
theorem kd_S (k : Bool) : kd k = S (kdL k) := by cases k <;> decide +kernel
def lineL (r : Ru) : List Nat := [48 + r.2.1] ++ (32 :: (kdL r.1 ++ (32 :: [48 + r.2.2])))
def lineOf (r : Ru) : Str := S (lineL r)
def textL (rs : List Ru) : List Nat := rs.flatMap fun r => lineL r ++ [10]
def textOf (rs : List Ru) : Str := S (textL rs)
theorem dig_num {a : Nat} (h : a < 10) : Str.ofString (toString ((a : Nat) : Int)) = dig a := by
  refine TL.ext_tl ?_
  rw [TL.tl_num, TL.numL_lt h]
  rfl
theorem line_cat (r : Ru) (ha : r.2.1 < 10) (hb : r.2.2 < 10) : ((((Str.ofString (toString ((r.2.1 : Nat) : Int)) ++ (" " : Str)) ++ kd r.1) ++ (" " : Str)) ++ Str.ofString (toString ((r.2.2 : Nat) : Int))) ++ ("\n" : Str) = S (lineL r ++ [10]) := by
  have e1 : (" " : Str) = S [32] := by decide +kernel
  have e2 : ("\n" : Str) = S [10] := by decide +kernel
  rw [dig_num ha, dig_num hb, kd_S, e1, e2]
  unfold dig
  rw [SX.S_cat, SX.S_cat, SX.S_cat, SX.S_cat, SX.S_cat]
  congr 1
  unfold lineL
  simp
theorem kdL_len (k : Bool) : (kdL k).length ≤ 7 := by cases k <;> decide
theorem lineL_len (r : Ru) : (lineL r).length ≤ 11 := by
  unfold lineL
  have := kdL_len r.1
  simp only [List.length_append, List.length_cons, List.length_nil]
  omega
theorem lineL_no10 (r : Ru) : 10 ∉ lineL r := by
  unfold lineL
  intro h
  simp only [List.mem_append, List.mem_cons, List.not_mem_nil, or_false] at h
  rcases h with h | h | h | h | h
  · omega
  · omega
  · revert h; cases r.1 <;> decide
  · omega
  · omega
theorem textL_len : ∀ rs : List Ru, (textL rs).length ≤ 12 * rs.length
  | [] => by simp [textL]
  | r :: rs => by
    have h1 := lineL_len r
    have h2 := textL_len rs
    have e : (textL (r :: rs)).length = (lineL r ++ [10]).length + (textL rs).length := by
      unfold textL
      rw [List.flatMap_cons, List.length_append]
    rw [e, List.length_append, List.length_cons, List.length_cons, List.length_nil]
    omega
theorem joinL_nil : ∀ l : List (List Nat), TL.joinL [] l = l.flatten
  | [] => rfl
  | [p] => by show p = [p].flatten; simp
  | p :: q :: r => by
    show p ++ ([] ++ TL.joinL [] (q :: r)) = (p :: q :: r).flatten
    rw [joinL_nil (q :: r), List.nil_append, List.flatten_cons (L := q :: r)]
theorem join_lines (rs : List Ru) : Txt.join ("" : Str) (rs.map fun r => S (lineL r ++ [10])) = textOf rs := by
  have e0 : ("" : Str) = S [] := by decide +kernel
  have e : (rs.map fun r => S (lineL r ++ [10])) = (rs.map fun r => lineL r ++ [10]).map S := by rw [List.map_map]; rfl
  rw [e0, e]
  show Txt.join (SX.S []) ((rs.map fun r => lineL r ++ [10]).map SX.S) = _
  rw [SX.join_S, joinL_nil]
  unfold textOf textL
  rw [List.flatMap_def]
theorem joinL_lines : ∀ rs : List Ru, TL.joinL [10] (rs.map lineL ++ [[]]) = textL rs
  | [] => rfl
  | [r] => by
    show lineL r ++ ([10] ++ []) = textL [r]
    simp [textL]
  | r :: q :: rs => by
    have ih := joinL_lines (q :: rs)
    show lineL r ++ ([10] ++ TL.joinL [10] ((q :: rs).map lineL ++ [[]])) = textL (r :: q :: rs)
    rw [ih]
    unfold textL
    rw [List.flatMap_cons (x := r) (xs := q :: rs), List.append_assoc]
theorem split_text (rs : List Ru) : Txt.split (textOf rs) ("\n" : Str) = rs.map lineOf ++ [S []] := by
  have e2 : ("\n" : Str) = S [10] := by decide +kernel
  rw [e2]
  show Txt.split (SX.S (textL rs)) (SX.S [10]) = _
  rw [SX.split_S (by simp) (by decide), ← joinL_lines rs, TL.spl_join (by simp) (fun p hp => by
    rcases List.mem_append.mp hp with q | q
    · obtain ⟨r, _, rfl⟩ := List.mem_map.mp q
      exact lineL_no10 r
    · rw [List.mem_singleton] at q
      rw [q]; simp), List.map_append, List.map_map]
  rfl
theorem split_line (r : Ru) (ha : r.2.1 < 6) (hb : r.2.2 < 6) : Txt.split (lineOf r) (" " : Str) = [dig r.2.1, kd r.1, dig r.2.2] := by
  have e2 : (" " : Str) = S [32] := by decide +kernel
  rw [e2]
  show Txt.split (SX.S (lineL r)) (SX.S [32]) = _
  have ej : lineL r = TL.joinL [32] [[48 + r.2.1], kdL r.1, [48 + r.2.2]] := rfl
  rw [SX.split_S (by simp) (by decide), ej, TL.spl_join (by simp) (fun p hp => by
    simp only [List.mem_cons, List.not_mem_nil, or_false] at hp
    rcases hp with rfl | rfl | rfl
    · simp; omega
    · cases r.1 <;> decide
    · simp; omega), kd_S]
  rfl
theorem find_dig {c : Nat} (h : c < 6) : Txt.find ("012345" : Str) (dig c) = (c : Int) := by
  have : c = 0 ∨ c = 1 ∨ c = 2 ∨ c = 3 ∨ c = 4 ∨ c = 5 := by omega
  rcases this with rfl | rfl | rfl | rfl | rfl | rfl <;> decide +kernel
theorem ends_text {rs : List Ru} (h : rs ≠ []) : Txt.endswith (textOf rs) ("\n" : Str) = true := by
  have e2 : ("\n" : Str) = S [10] := by decide +kernel
  have hl : ∃ l, textL rs = l ++ [10] := by
    obtain ⟨init, last, rfl⟩ : ∃ init last, rs = init ++ [last] := ⟨rs.dropLast, rs.getLast h, (List.dropLast_concat_getLast h).symm⟩
    refine ⟨textL init ++ lineL last, ?_⟩
    unfold textL
    rw [List.flatMap_append, List.flatMap_singleton, List.append_assoc]
  obtain ⟨l, hl⟩ := hl
  unfold Txt.endswith
  rw [e2]
  have hlen : (textOf rs).length = l.length + 1 := by
    show (SX.S (textL rs)).length = _
    rw [SX.S_len, hl, List.length_append, List.length_singleton]
  have hlen2 : (S [10]).length = 1 := rfl
  rw [hlen, hlen2, Bool.and_eq_true]
  refine ⟨decide_eq_true (by omega), ?_⟩
  rw [StrLaws.subAt_eq]
  show (((textL rs).drop (l.length + 1 - 1)).take 1 == [10]) = true
  rw [hl]
  have : l.length + 1 - 1 = l.length := by omega
  rw [this, List.drop_left]
  rfl
theorem text_nil {rs : List Ru} : textOf rs = ("" : Str) ↔ rs = [] := by
  have e0 : ("" : Str) = S [] := by decide +kernel
  rw [e0]
  constructor
  · intro h
    have z : textL rs = [] := SX.S_inj h
    cases rs with
    | nil => rfl
    | cons r rs =>
      unfold textL at z
      rw [List.flatMap_cons] at z
      simp at z
  · rintro rfl; rfl
theorem textL_inj_len (rs : List Ru) : (textOf rs).length ≤ 12 * rs.length := by
  show (SX.S (textL rs)).length ≤ _
  rw [SX.S_len]; exact textL_len rs
theorem ok_S {l : List Nat} (h : ∀ c ∈ l, c < 1114112) : PyData.strOk (S l) = true := by
  unfold PyData.strOk
  rw [← Array.all_toList]
  exact List.all_eq_true.mpr fun c hc => decide_eq_true (h c hc)
theorem kdL_lt (k : Bool) : ∀ c ∈ kdL k, c < 200 := by cases k <;> decide
theorem lineL_lt (r : Ru) (ha : r.2.1 < 6) (hb : r.2.2 < 6) : ∀ c ∈ lineL r, c < 200 := fun c hc => by
  unfold lineL at hc
  simp only [List.mem_append, List.mem_cons, List.not_mem_nil, or_false] at hc
  rcases hc with h | h | h | h | h
  · omega
  · omega
  · exact kdL_lt _ c h
  · omega
  · omega
theorem text_ok {rs : List Ru} (h : ∀ r ∈ rs, r.2.1 < 6 ∧ r.2.2 < 6) : PyData.strOk (textOf rs) = true := ok_S fun c hc => by
  unfold textL at hc
  obtain ⟨r, hr, hc⟩ := List.mem_flatMap.mp hc
  rcases List.mem_append.mp hc with q | q
  · have := lineL_lt r (h r hr).1 (h r hr).2 c q
    omega
  · rw [List.mem_singleton] at q; omega
end CL
set_option Elab.async false
set_option linter.all false
set_option maxRecDepth 100000
set_option maxHeartbeats 4000000
namespace CL
open PySem L2 CM
/-! ### more readings -/
def tyN : PyData → String
  | .none => "NoneType" | .bool _ => "bool" | .int _ => "int" | .str _ => "str" | .list _ => "list" | .tuple _ => "tuple" | .dict _ => "dict"
theorem DD.ty {K : PySem.W.Frag} {G H : Hp} {v : V} {d : PyData} (h : DD G v d) (e : Ex G H) : TyX K H v (.type (tyN d)) := by
  cases d with
  | none => rw [h.eqN]; exact .base .non
  | bool b => rw [h.eqB]; exact .base (.bl b)
  | int i => rw [h.eqI]; exact .base (.int i)
  | str x => rw [h.eqS]; exact .base (.str x)
  | list ds =>
    obtain ⟨a, xs, rfl, hp, _⟩ := h.eqL
    exact .base (.lst (e _ _ hp))
  | tuple ds =>
    obtain ⟨a, xs, rfl, hp, _⟩ := h.eqT
    rcases up_rd hp e with q | ⟨o, q⟩
    · exact .base (.tup q)
    · exact .fTuple q
  | dict kvs => cases h
section
variable {σ : VSt} {G G' H : Hp} {ta tb tc te to : TE} {t u : TT} {d e z : PyData} {r r' : R2} {K : PySem.W.Frag}
theorem d_isi (T : String) {n : String} {b : Bool} (h : EvD ta σ G d) (hc : EvV tc σ G (.ty n)) (hk : kitB T n = some b) (ht : tyN d = T := by rfl) : EvD (tCB (rIsi K) (tCons ta (tCons tc tNil))) σ G (.bool b) := .mk fun G1 H1 e1 e2 Q q =>
  h.go' e1 e2 fun v G2 H2 g2 hv => hc G2 H2 (e1.trans g2.g) g2.gh _ fun G3 H3 g3 =>
    ⟨v, .ty n, .type (tyN d), .type n, b, rfl, .ty n, (hv.up g3.g).ty g3.gh, kit_ty (ht ▸ hk), q _ G3 H3 (g2.trans g3) (.bl _)⟩
theorem c_lenS {x : Str} (h : x.length ≤ 100000) : RcD (rLen K) [.str x] (.int (x.length : Int)) := fun G1 H1 e1 xs hx Q q => by
  obtain ⟨v, r, rfl, hv, hr⟩ := hx.inv
  obtain rfl := hr.inv0
  obtain rfl := hv.eqS
  exact ⟨_, _, rfl, ⟨Evl.sz_of h, rfl⟩, q _ G1 H1 (Grow.refl e1) (.int _)⟩
theorem c_lenL {ds : List PyData} : RcD (rLen K) [.list ds] (.int (ds.length : Int)) := fun G1 H1 e1 xs hx Q q => by
  obtain ⟨v, r, rfl, hv, hr⟩ := hx.inv
  obtain rfl := hr.inv0
  obtain ⟨a, ys, rfl, hp, hy⟩ := hv.eqL
  rw [← hy.length] at q
  exact ⟨_, _, rfl, .inl ⟨ys, .inl (.inl (e1 _ _ hp)), rfl⟩, q _ G1 H1 (Grow.refl e1) (.int _)⟩
theorem c_lenT {ds : List PyData} : RcD (rLen K) [.tuple ds] (.int (ds.length : Int)) := fun G1 H1 e1 xs hx Q q => by
  obtain ⟨v, r, rfl, hv, hr⟩ := hx.inv
  obtain rfl := hr.inv0
  obtain ⟨a, ys, rfl, hp, hy⟩ := hv.eqT
  rw [← hy.length] at q
  exact ⟨_, _, rfl, .inr ⟨ys, .inl (up_rd hp e1), rfl⟩, q _ G1 H1 (Grow.refl e1) (.int _)⟩
theorem c_all {bs : List Bool} : RcD (rAll K) [.list (bs.map PyData.bool)] (.bool (bs.all id)) := fun G1 H1 e1 xs hx Q q => by
  obtain ⟨v, r, rfl, hv, hr⟩ := hx.inv
  obtain rfl := hr.inv0
  obtain ⟨a, ys, rfl, hp, hy⟩ := hv.eqL
  have e := hy.bls
  subst e
  exact ⟨a, bs, rfl, .inl (.inl (e1 _ _ hp)), q _ G1 H1 (Grow.refl e1) (.bl _)⟩
theorem c_strInt {n : Nat} (h : n < 1000) : RcD (fun xs H Q => ∃ i, xs = [V.int i] ∧ i.natAbs.log2 < 1920 ∧ Q (V.str (toString i)) H) [.int (n : Int)] (.str (Str.ofString (toString (n : Int)))) := fun G1 H1 e1 xs hx Q q => by
  obtain ⟨v, r, rfl, hv, hr⟩ := hx.inv
  obtain rfl := hr.inv0
  obtain rfl := hv.eqI
  refine ⟨_, rfl, ?_, q _ G1 H1 (Grow.refl e1) (.str _)⟩
  show n.log2 < 1920
  by_cases h0 : n = 0
  · subst h0; decide
  · exact (Nat.log2_lt h0).mpr (Nat.lt_trans h (by decide))
theorem d_chain {a b : Bool} {d1 d2 d3 : PyData} (h1 : EvD ta σ G d1) (h2 : EvD tb σ G d2) (hr : RvD r d1 d2 (.bool a)) (h3 : a = true → EvD tc σ G d3) (hr' : a = true → RvD r' d2 d3 (.bool b)) : EvD (tChain r r' ta tb tc) σ G (.bool (a && b)) := .mk fun G1 H1 e1 e2 Q q =>
  h1.go' e1 e2 fun x G2 H2 g2 hx => h2.go' (e1.trans g2.g) g2.gh fun y G3 H3 g3 hy => hr G3 H3 g3.gh x y (hx.up g3.g) hy _ fun zv G4 H4 g4 hz => ⟨a, hz.eqB, by
    cases a with
    | true =>
      rw [if_pos rfl]
      exact (h3 rfl).go' ((e1.trans g2.g).trans (g3.g.trans g4.g)) g4.gh fun w G5 H5 g5 hw => hr' rfl G5 H5 g5.gh y w (hy.up (g4.g.trans g5.g)) hw Q fun v G6 H6 g6 hv => q v G6 H6 (((((g2.trans g3).trans g4).trans g5)).trans g6) hv
    | false =>
      rw [if_neg (by decide)]
      exact q _ G4 H4 ((g2.trans g3).trans g4) (.bl _)⟩
/-! count -/
theorem d_cntL {ds : List PyData} (h : EvD to σ G (.list ds)) (he : EvD te σ G d) (h1 : PyData.plainAll ds = true) (h2 : d.plain = true) (h3 : d.depth ≤ 8) : EvD (tCnt K to te) σ G (.int ((ds.countP fun z => PyData.eqv z d : Nat) : Int)) := .mk fun G1 H1 e1 e2 Q q =>
  h.go' e1 e2 fun v G2 H2 g2 hv => by
    obtain ⟨a, xs, rfl, hp, hx⟩ := hv.eqL
    exact ⟨a, ds, d, rfl, .inl ⟨⟨xs, g2.gh _ _ hp⟩, he.go' (e1.trans g2.g) g2.gh fun y G3 H3 g3 hy => ⟨DD.dp (g3.g.trans g3.gh) _ _ hv, DD.dp g3.gh _ _ hy, h1, h2, h3, q _ G3 H3 (g2.trans g3) (.int _)⟩⟩⟩
/-- .. of a tuple that a star has made -/
theorem d_cntT {a : Addr} {ob : Obj} {xs : List V} {ds : List PyData} (h : EvV to σ G (.ref a)) (hf : G a = some (.frz ob (.tup xs))) (ho : ob.dict = none) (hx : DDs G xs ds) (he : EvD te σ G d) (h1 : PyData.plainAll ds = true) (h2 : d.plain = true) (h3 : d.depth ≤ 8) :
    EvD (tCnt K to te) σ G (.int ((ds.countP fun z => PyData.eqv z d : Nat) : Int)) := .mk fun G1 H1 e1 e2 Q q =>
  h G1 H1 e1 e2 _ fun G2 H2 g2 => by
    have f2 : G2 a = some (.frz ob (.tup xs)) := g2.g _ _ (e1 _ _ hf)
    have hv : DD G2 (.ref a) (.tuple ds) := .tup (.inr ⟨ob, f2⟩) (hx.up (e1.trans g2.g))
    exact ⟨a, ds, d, rfl, .inr ⟨⟨ob, xs, g2.gh _ _ f2, ho⟩, he.go' (e1.trans g2.g) g2.gh fun y G3 H3 g3 hy => ⟨DD.dp (g3.g.trans g3.gh) _ _ hv, DD.dp g3.gh _ _ hy, h1, h2, h3, q _ G3 H3 (g2.trans g3) (.int _)⟩⟩⟩
theorem count_RU (r : Ru) : ∀ rs : List Ru, (rs.map RU).countP (fun z => PyData.eqv z (RU r)) = rs.count r
  | [] => rfl
  | x :: rs => by
    rw [List.map_cons, List.countP_cons, List.count_cons, count_RU r rs, eqv_RU]
    by_cases e : x = r
    · subst e; simp
    · rw [decide_eq_false e]
      have : (x == r) = false := beq_eq_false_iff_ne.mpr e
      rw [this]
theorem count_one {rs : List Ru} {r : Ru} (h : rs.Nodup) (hm : r ∈ rs) : rs.count r = 1 := by
  have h1 := List.nodup_iff_count.mp h r
  have h2 := List.count_pos_iff.mpr hm
  omega
/-! texts -/
abbrev rSplit : V → List V → Hp → VK → Prop := fun x xs H Q => ∃ a b, x = .str a ∧ xs = [.str b] ∧ (b.length == 0) = false ∧ a.length + 2 ≤ sizeLine ∧ rNewStrs (Txt.split a b) H Q
theorem m_split {a b : Str} (h : EvD te σ G (.str a)) (hb : EvD ta σ G (.str b)) (h0 : (b.length == 0) = false) (hl : a.length ≤ 90000) : EvM (tM1 rSplit te ta) σ G ((Txt.split a b).map PyData.str) := fun G1 H1 e1 e2 Q q =>
  h.go' e1 e2 fun v G2 H2 g2 hv => by
    obtain rfl := hv.eqS
    refine ⟨⟨a, rfl⟩, hb.go' (e1.trans g2.g) g2.gh fun y G3 H3 g3 hy => ?_⟩
    obtain rfl := hy.eqS
    exact ⟨a, b, rfl, rfl, h0, Evl.sz_of (by omega), fun p hp => q p _ _ ((g2.trans g3).there p hp) ((g2.trans g3).trans (Grow.mnew g3.gh hp)) (ML.new g3.gh hp (DDs.ofStrs _ _))⟩
theorem m_find {a b : Str} : RmD (fun x xs H Q => ∃ a b, x = V.str a ∧ xs = [V.str b] ∧ Q (V.int (Txt.find a b)) H) (.str a) [.str b] (.int (Txt.find a b)) := fun G1 H1 e1 x xs hx hxs Q q => by
  obtain ⟨v, r, rfl, hv, hr⟩ := hxs.inv
  obtain rfl := hr.inv0
  exact ⟨a, b, hx.eqS, by rw [hv.eqS], q _ G1 H1 (Grow.refl e1) (.int _)⟩
theorem m_ends {a b : Str} : RmD (fun x xs H Q => ∃ a b, x = V.str a ∧ xs = [V.str b] ∧ Q (V.bl (Txt.endswith a b)) H) (.str a) [.str b] (.bool (Txt.endswith a b)) := fun G1 H1 e1 x xs hx hxs Q q => by
  obtain ⟨v, r, rfl, hv, hr⟩ := hxs.inv
  obtain rfl := hr.inv0
  exact ⟨a, b, hx.eqS, by rw [hv.eqS], q _ G1 H1 (Grow.refl e1) (.bl _)⟩
theorem m_join {K : PySem.W.Frag} {a : Str} {ys : List Str} (hl : (ys.map (·.length)).sum + ys.length * a.length ≤ 100000) : RmD (fun x xs H Q => ∃ a p, ∃ ys : List Str, x = V.str a ∧ xs = [V.ref p] ∧ (SqL K H p (ys.map V.str) ∨ SqT K H p (ys.map V.str)) ∧
    (ys.map (·.length)).sum + ys.length * a.length ≤ 16777216 ∧ Q (V.str (Txt.join a ys)) H) (.str a) [.list (ys.map PyData.str)] (.str (Txt.join a ys)) := fun G1 H1 e1 x xs hx hxs Q q => by
  obtain ⟨v, r, rfl, hv, hr⟩ := hxs.inv
  obtain rfl := hr.inv0
  obtain ⟨p, zs, rfl, hp, hz⟩ := hv.eqL
  have e := hz.strs
  subst e
  exact ⟨a, p, ys, hx.eqS, rfl, .inl (.inl (.inl (e1 _ _ hp))), by omega, q _ G1 H1 (Grow.refl e1) (.str _)⟩
/-! fields -/
theorem v_fld {p C dx : Addr} {fs : List (Str × V)} {f : Str} {v : V} (h : EvV ta σ G (.ref p)) (hp : G p = some (.ins C dx fs)) (c : Cls K C) (n : NoAttr K C f) (l : fs.lookup f = some v) : EvV (tFld K ta f) σ G v := fun G1 H1 e1 e2 Q q =>
  h G1 H1 e1 e2 _ fun G2 H2 g2 => ⟨p, C, dx, fs, v, rfl, g2.gh _ _ (g2.g _ _ (e1 _ _ hp)), c, n, l, q G2 H2 g2⟩
end
/-! ### the object that holds rules -/
theorem kept_ne : ¬ (("columns" : Str) = "kept") := by decide +kernel
def flds (w : Nat) (t : Addr) : List (Str × V) := putF "kept" (.ref t) (putF "columns" (.int (w : Int)) [])
theorem flds_columns (w : Nat) (t : Addr) : (flds w t).lookup ("columns" : Str) = some (.int (w : Int)) := by
  unfold flds
  rw [lookup_putF, if_neg kept_ne, lookup_putF, if_pos rfl]
theorem flds_kept (w : Nat) (t : Addr) : (flds w t).lookup ("kept" : Str) = some (.ref t) := by
  unfold flds
  rw [lookup_putF, if_pos rfl]
structure RO (C : Addr) (G : Hp) (v : V) (w : Nat) (rs : List Ru) : Prop where
  ex : ∃ p dx t, v = .ref p ∧ G p = some (.ins C dx (flds w t)) ∧ DD G (.ref t) (.tuple (rs.map RU))
theorem RO.up {C : Addr} {G G' : Hp} {v : V} {w : Nat} {rs : List Ru} (h : RO C G v w rs) (e : Ex G G') : RO C G' v w rs := by
  obtain ⟨p, dx, t, a, b, c⟩ := h.ex
  exact ⟨p, dx, t, a, e _ _ b, c.up e⟩
/-- def f(a, .., *v) of the text -/
theorem Fun.okS {P : Program} {w : World} {K : PySem.W.Frag} {mg : Str → Option Value} {base : Heap} {x qual : Str} {st : Stmt} {f : Addr} {fd : FuncData} {N ps : List Str} {pv : Str} {k : Nat} {sp : Sp} (F : Fun K x qual st f fd) (S : FnScope N (ps ++ [pv]) (defScope st))
    (hb : ∀ (kV doc pm : Value) (an : Option Addr) (cdv ct : Value) (us rest : List Value), us.length = ps.length → bindArgs (PySem.W.fnOf x qual (defArgs st) (defBody st) (defScope st) .none kV doc pm an cdv ct) ⟨us ++ rest, []⟩ = (newTuple rest >>= fun t => pure (ps.zip us ++ [(pv, t)])))
    (hbody : ∀ (cdv : Value) (A : Around) (outer : List Env) (s : Shared) (H : Hp) (vs : List V) (Q : VK) (E : XK), Room k (A.deeper (PyProof.Rows.envOfC qual (defScope st) s.heap.objs.size f cdv)) → sp vs H Q E →
      ∃ t, PSs (cxOf CX0 P w K mg base N qual (defScope st) f cdv A outer s H E).nox (defBody st) t ∧ t { nx := fun _ H' => Q .non H', rt := Q } (start N vs) H) :
    FnR P w K mg base CX0 (k + 1) f (fun vs H Q E => ∃ ws rest, vs = ws ++ rest ∧ ws.length = ps.length ∧ rest.length ≤ sizeLine ∧ ∀ p ob, H p = Option.none → ob.dict = Option.none → sp (ws ++ [V.ref p]) (upd H p (.frz ob (.tup rest))) Q E) := by
  obtain ⟨oc, od, kV, doc, pm, an, cdv, ct, osl, rfl, lk, hcd⟩ := F.ex
  refine fn_starF lk hcd S StX.cxUp_none (hb kV doc pm an cdv ct) fun A outer s H vs Q E hr hsp => ?_
  obtain ⟨t, h, q⟩ := hbody cdv A outer s H vs Q E hr hsp
  exact ⟨t, h.nox, q⟩
theorem lay_plain {n : Nat} {d : PyData} (h : Lay n d) : d.plain = true := PyData.plain_of_canLay0 d h.1
theorem plain_RUs (rs : List Ru) : PyData.plainAll (rs.map RU) = true := PyData.plainAll_of_canLay0 _ (Lay.all (n := 1) fun d hd => by
  obtain ⟨r, _, rfl⟩ := List.mem_map.mp hd
  exact lay_RU r).1
end CL
set_option linter.all false
namespace CM
/-! ### reaching by middle columns -/
def Via (ps : List (Nat × Nat)) : Nat → Nat → Nat → Prop
  | 0, a, b => a = b ∨ (a, b) ∈ ps
  | k + 1, a, b => Via ps k a b ∨ (Via ps k a k ∧ Via ps k k b)
theorem Via.mono {ps : List (Nat × Nat)} {a b : Nat} : ∀ {j k : Nat}, j ≤ k → Via ps j a b → Via ps k a b
  | j, 0, h, v => by
    have : j = 0 := by omega
    subst this; exact v
  | j, k + 1, h, v => by
    by_cases e : j = k + 1
    · subst e; exact v
    · exact .inl (Via.mono (by omega) v)
theorem Via.comp {ps : List (Nat × Nat)} : ∀ (k c : Nat), c < k → ∀ a b, Via ps k a c → Via ps k c b → Via ps k a b
  | 0, c, h, _, _, _, _ => absurd h (Nat.not_lt_zero c)
  | k + 1, c, h, a, b, h1, h2 => by
    by_cases e : c = k
    · subst e
      have x1 : Via ps c a c := h1.elim id fun z => z.1
      have x2 : Via ps c c b := h2.elim id fun z => z.2
      exact .inr ⟨x1, x2⟩
    · have hc : c < k := by omega
      rcases h1 with h1 | ⟨h1, h1'⟩
      · rcases h2 with h2 | ⟨h2, h2'⟩
        · exact .inl (Via.comp k c hc a b h1 h2)
        · exact .inr ⟨Via.comp k c hc a k h1 h2, h2'⟩
      · rcases h2 with h2 | ⟨h2, h2'⟩
        · exact .inr ⟨h1, Via.comp k c hc k b h1' h2⟩
        · exact .inr ⟨h1, h2'⟩
theorem via_of_reach {ps : List (Nat × Nat)} {n a b : Nat} (hps : ∀ p ∈ ps, p.1 < n ∧ p.2 < n) (h : Reach ps a b) : Via ps n a b := by
  induction h with
  | refl => exact Via.mono (Nat.zero_le n) (.inl rfl)
  | step _ e ih => exact Via.comp n _ (hps _ e).1 _ _ ih (Via.mono (Nat.zero_le n) (.inr e))
/-- the matrix in the course of the work: pairs below (k, i, j) in order are through -/
structure FW (ps : List (Nat × Nat)) (n : Nat) (k i j : Nat) (M : Nat → Nat → Bool) : Prop where
  snd : ∀ a b, a < n → b < n → M a b = true → Reach ps a b
  bas : ∀ a b, a < n → b < n → Via ps k a b → M a b = true
  don : ∀ a b, a < n → b < n → (a < i ∨ (a = i ∧ b < j)) → Via ps (k + 1) a b → M a b = true
def setM (M : Nat → Nat → Bool) (i j : Nat) : Nat → Nat → Bool := fun a b => if a = i ∧ b = j then true else M a b
theorem FW.start {ps : List (Nat × Nat)} {n : Nat} {M : Nat → Nat → Bool} (h : ∀ a b, a < n → b < n → (M a b = true ↔ (a = b ∨ (a, b) ∈ ps))) : FW ps n 0 0 0 M :=
  ⟨fun a b ha hb hm => ((h a b ha hb).mp hm).elim (fun e => e ▸ .refl) fun e => .step .refl e, fun a b ha hb v => (h a b ha hb).mpr v, fun a b ha hb q => by omega⟩
theorem FW.set {ps : List (Nat × Nat)} {n k i j : Nat} {M : Nat → Nat → Bool} (f : FW ps n k i j M) (hk : k < n) (hi : i < n) (hj : j < n) (h1 : M i k = true) (h2 : M k j = true) : FW ps n k i (j + 1) (setM M i j) := by
  refine ⟨fun a b ha hb hm => ?_, fun a b ha hb v => ?_, fun a b ha hb q v => ?_⟩
  · unfold setM at hm
    by_cases e : a = i ∧ b = j
    · rw [e.1, e.2]; exact (f.snd i k hi hk h1).trans (f.snd k j hk hj h2)
    · rw [if_neg e] at hm; exact f.snd a b ha hb hm
  · unfold setM
    by_cases e : a = i ∧ b = j
    · rw [if_pos e]
    · rw [if_neg e]; exact f.bas a b ha hb v
  · unfold setM
    by_cases e : a = i ∧ b = j
    · rw [if_pos e]
    · rw [if_neg e]; exact f.don a b ha hb (by omega) v
theorem FW.skip {ps : List (Nat × Nat)} {n k i j : Nat} {M : Nat → Nat → Bool} (f : FW ps n k i j M) (hk : k < n) (hi : i < n) (hj : j < n) (h : ¬ (M i k = true ∧ M k j = true)) : FW ps n k i (j + 1) M := by
  refine ⟨f.snd, f.bas, fun a b ha hb q v => ?_⟩
  by_cases e : a = i ∧ b = j
  · obtain ⟨rfl, rfl⟩ := e
    rcases v with v | ⟨v1, v2⟩
    · exact f.bas a b ha hb v
    · exact absurd ⟨f.bas a k ha hk v1, f.bas k b hk hb v2⟩ h
  · exact f.don a b ha hb (by omega) v
theorem FW.row {ps : List (Nat × Nat)} {n k i : Nat} {M : Nat → Nat → Bool} (f : FW ps n k i n M) : FW ps n k (i + 1) 0 M :=
  ⟨f.snd, f.bas, fun a b ha hb q v => f.don a b ha hb (by omega) v⟩
theorem FW.mid {ps : List (Nat × Nat)} {n k : Nat} {M : Nat → Nat → Bool} (f : FW ps n k n 0 M) : FW ps n (k + 1) 0 0 M :=
  ⟨f.snd, fun a b ha hb v => f.don a b ha hb (.inl ha) v, fun a b ha hb q => by omega⟩
theorem FW.fin {ps : List (Nat × Nat)} {n : Nat} {M : Nat → Nat → Bool} (f : FW ps n n 0 0 M) (hps : ∀ p ∈ ps, p.1 < n ∧ p.2 < n) {a b : Nat} (ha : a < n) (hb : b < n) : M a b = reachB ps a b := by
  by_cases h : Reach ps a b
  · rw [reachB_iff.mpr h]; exact f.bas a b ha hb (via_of_reach hps h)
  · rw [reachB_not.mpr h]
    cases e : M a b with
    | false => rfl
    | true => exact absurd (f.snd a b ha hb e) h
/-! ### the law's arrows -/
noncomputable def backL (rs : List Ru3) (p : Nat × Nat) : Bool := reachB (downsM rs) p.1 p.2 && reachB (downsM rs) p.2 p.1
def firstL (rs : List Ru3) (k : Bool) : List (Nat × Nat) := (rs.filter fun r => decide (r.1 = k)).map fun r => (r.2.1, r.2.2)
noncomputable def arrowsL (rs : List Ru3) (k : Bool) : List (Nat × Nat) := firstL rs k ++ ((firstL rs k).filter (backL rs)).map fun p => (p.2, p.1)
theorem mem_firstL {rs : List Ru3} {k : Bool} {p : Nat × Nat} : p ∈ firstL rs k ↔ (k, p.1, p.2) ∈ rs := by
  unfold firstL
  rw [List.mem_map]
  constructor
  · rintro ⟨⟨k', a, b⟩, h, rfl⟩
    rw [List.mem_filter, decide_eq_true_eq] at h
    obtain ⟨h1, h2⟩ := h
    have h2 : k' = k := h2
    subst h2
    exact h1
  · intro h
    exact ⟨(k, p.1, p.2), List.mem_filter.mpr ⟨h, decide_eq_true rfl⟩, rfl⟩
theorem mem_arrows {rs : List Ru3} {k : Bool} {p : Nat × Nat} : p ∈ arrowsM rs k ↔ p ∈ arrowsL rs k := by
  have key : ∀ a b, (k, a, b) ∈ rs → backB rs k (k, a, b) = backL rs (a, b) := fun a b h => by
    unfold backB backL
    have hd : downM (k, a, b) ∈ downsM rs := List.mem_map_of_mem h
    cases k with
    | true =>
      have h1 : reachB (downsM rs) a b = true := reachB_iff.mpr (.step .refl hd)
      show reachB (downsM rs) b a = (reachB (downsM rs) a b && reachB (downsM rs) b a)
      rw [h1, Bool.true_and]
    | false =>
      have h1 : reachB (downsM rs) b a = true := reachB_iff.mpr (.step .refl hd)
      show reachB (downsM rs) a b = (reachB (downsM rs) a b && reachB (downsM rs) b a)
      rw [h1, Bool.and_true]
  unfold arrowsM arrowsL
  rw [List.mem_flatMap, List.mem_append, List.mem_map]
  constructor
  · rintro ⟨⟨k', a, b⟩, hr, hp⟩
    unfold arrow1 at hp
    by_cases e : k' = k
    · subst e
      rw [if_pos rfl] at hp
      rcases List.mem_cons.mp hp with rfl | hp
      · exact .inl (mem_firstL.mpr hr)
      · rw [key a b hr] at hp
        by_cases hb : backL rs (a, b) = true
        · rw [if_pos hb, List.mem_singleton] at hp
          subst hp
          exact .inr ⟨(a, b), List.mem_filter.mpr ⟨mem_firstL.mpr hr, hb⟩, rfl⟩
        · rw [if_neg hb] at hp; cases hp
    · rw [if_neg e] at hp; cases hp
  · rintro (h | ⟨⟨a, b⟩, h, rfl⟩)
    · refine ⟨_, mem_firstL.mp h, ?_⟩
      unfold arrow1
      rw [if_pos rfl]
      exact List.mem_cons_self
    · rw [List.mem_filter] at h
      have hr := mem_firstL.mp h.1
      refine ⟨_, hr, ?_⟩
      unfold arrow1
      rw [if_pos rfl, key a b hr, if_pos h.2]
      exact List.mem_cons_of_mem _ List.mem_cons_self
theorem follows_eq (rs : List Ru3) (k : Bool) (a b : Nat) : followsM rs (k, a, b) = reachB (arrowsL rs k) a b :=
  reachB_congr ⟨fun h => h.mono fun p hp => mem_arrows.mp hp, fun h => h.mono fun p hp => mem_arrows.mpr hp⟩
theorem firstL_len (rs : List Ru3) (k : Bool) : (firstL rs k).length ≤ rs.length := by
  unfold firstL
  rw [List.length_map]
  exact List.length_filter_le _ _
theorem arrowsL_len (rs : List Ru3) (k : Bool) : (arrowsL rs k).length ≤ 2 * rs.length := by
  unfold arrowsL
  rw [List.length_append, List.length_map]
  have := List.length_filter_le (backL rs) (firstL rs k)
  have := firstL_len rs k
  omega
theorem arrowsL_mem {rs : List Ru3} {k : Bool} {n : Nat} (h : ∀ r ∈ rs, r.2.1 < n ∧ r.2.2 < n) : ∀ p ∈ arrowsL rs k, p.1 < n ∧ p.2 < n := fun p hp => by
  unfold arrowsL at hp
  rcases List.mem_append.mp hp with q | q
  · exact h _ (mem_firstL.mp q)
  · obtain ⟨x, hx, rfl⟩ := List.mem_map.mp q
    have := h _ (mem_firstL.mp (List.mem_filter.mp hx).1)
    exact ⟨this.2, this.1⟩
/-! ### all rules -/
def allOf (n : Nat) (k : Bool) (a : Nat) : List Ru3 := ((List.range n).filter fun b => decide (b ≠ a)).map fun b => (k, a, b)
def allK (n : Nat) (k : Bool) : List Ru3 := (List.range n).flatMap (allOf n k)
def allR (n : Nat) : List Ru3 := allK n true ++ allK n false
theorem mem_allR {n : Nat} {r : Ru3} : r ∈ allR n ↔ r.2.1 < n ∧ r.2.2 < n ∧ r.2.1 ≠ r.2.2 := by
  have hk : ∀ (k : Bool) (r : Ru3), r ∈ allK n k ↔ (r.1 = k ∧ r.2.1 < n ∧ r.2.2 < n ∧ r.2.1 ≠ r.2.2) := fun k ⟨k', a, b⟩ => by
    unfold allK allOf
    simp only [List.mem_flatMap, List.mem_map, List.mem_filter, List.mem_range, decide_eq_true_eq]
    constructor
    · rintro ⟨x, hx, y, ⟨hy, hne⟩, e⟩
      have e1 := (Prod.mk.inj e).1
      have e2 := (Prod.mk.inj (Prod.mk.inj e).2).1
      have e3 := (Prod.mk.inj (Prod.mk.inj e).2).2
      subst e1 e2 e3
      exact ⟨rfl, hx, hy, fun z => hne z.symm⟩
    · rintro ⟨rfl, h1, h2, h3⟩
      exact ⟨a, h1, b, ⟨h2, fun z => h3 z.symm⟩, rfl⟩
  unfold allR
  rw [List.mem_append, hk, hk]
  cases h : r.1 <;> simp
noncomputable def dueM (n : Nat) (rs : List Ru3) : List Ru3 := (allR n).filter fun r => reachB (arrowsL rs r.1) r.2.1 r.2.2
theorem due_iff {n : Nat} {rs : List Ru3} {r : Ru3} (h : r ∈ allR n) : decide (r ∈ dueM n rs) = followsM rs r := by
  obtain ⟨k, a, b⟩ := r
  rw [follows_eq]
  unfold dueM
  cases e : reachB (arrowsL rs k) a b with
  | true => exact decide_eq_true (List.mem_filter.mpr ⟨h, e⟩)
  | false =>
    refine decide_eq_false fun z => ?_
    have z2 : reachB (arrowsL rs k) a b = true := (List.mem_filter.mp z).2
    rw [e] at z2
    cases z2
theorem allR6_nodup : ∀ n, n ≤ 6 → (allR n).Nodup := by decide
theorem allR_len : ∀ n, n ≤ 6 → (allR n).length ≤ 60 := by decide
theorem allR6_len : (allR 6).length = 60 := by decide
end CM
set_option Elab.async false
set_option linter.all false
set_option maxRecDepth 100000
set_option maxHeartbeats 4000000
/-! Expressions that draw from a source: a list of three whole numbers that may change. -/
namespace CL
open PySem L2 CM
structure Src (G H : Hp) (s : Addr) : Prop where
  g : G s = none
  at_ : ∃ a b c : Int, H s = some (.lst [.int a, .int b, .int c])
def Ms (s : Addr) : Addr → Prop := fun a => a = s
section
variable {s : Addr} {G H G2 H2 : Hp}
theorem Src.there (m : Src G H s) : H s ≠ none := by
  obtain ⟨_, a, b, c, h⟩ := m
  rw [h]; exact fun z => nomatch z
theorem Src.grow {M : Addr → Prop} (m : Src G H s) (g : Grow M G H G2 H2) (hm : ¬ M s) : Src G2 H2 s := by
  obtain ⟨a, b, c, d, h⟩ := id m
  exact ⟨g.new s m.there a, b, c, d, g.keep s _ hm h⟩
theorem Src.grow0 (m : Src G H s) (g : Grow M0 G H G2 H2) : Src G2 H2 s := m.grow g fun z => z
theorem Src.ofML {a b c : Int} (m : ML G H s [.int a, .int b, .int c]) : Src G H s := by
  obtain ⟨h0, xs, hx, hd⟩ := m
  have e := DDs.ints (ns := [a, b, c]) hd
  subst e
  exact ⟨h0, a, b, c, hx⟩
theorem Src.ml (m : Src G H s) : ∃ a b c : Int, ML G H s [.int a, .int b, .int c] := by
  obtain ⟨h0, a, b, c, h⟩ := m
  exact ⟨a, b, c, h0, _, h, .cons (.int a) (.cons (.int b) (.cons (.int c) .nil))⟩
theorem Src.ne {l : Addr} (m : Src G H s) (h : H l = none) : l ≠ s := fun z => m.there (z ▸ h)
theorem Grow.ofMs (g : Grow M0 G H G2 H2) : Grow (Ms s) G H G2 H2 := g.of0
end
/-- te, drawing from s, gives some data of S -/
def EvN (s : Addr) (te : TE) (σ : VSt) (G : Hp) (S : PyData → Prop) : Prop := ∀ G1 H1, Ex G G1 → Ex G1 H1 → Src G1 H1 s → ∀ Q : VK, (∀ v d G2 H2, S d → Grow (Ms s) G1 H1 G2 H2 → Src G2 H2 s → DD G2 v d → Q v H2) → te σ H1 Q
def EvNA (s : Addr) (ta : TA) (σ : VSt) (G : Hp) (A : List PyData → Prop) : Prop := ∀ G1 H1, Ex G G1 → Ex G1 H1 → Src G1 H1 s → ∀ Q : List V → Hp → Prop, (∀ vs ds G2 H2, A ds → Grow (Ms s) G1 H1 G2 H2 → Src G2 H2 s → DDs G2 vs ds → Q vs H2) → ta σ H1 Q
/-- .. a new list that may change -/
def EvNM (s : Addr) (te : TE) (σ : VSt) (G : Hp) (A : List PyData → Prop) : Prop := ∀ G1 H1, Ex G G1 → Ex G1 H1 → Src G1 H1 s → ∀ Q : VK, (∀ p ds G2 H2, A ds → H1 p = none → Grow (Ms s) G1 H1 G2 H2 → Src G2 H2 s → ML G2 H2 p ds → Q (.ref p) H2) → te σ H1 Q
def EvNB (s : Addr) (tt : TT) (σ : VSt) (G : Hp) (B : Bool → Prop) : Prop := ∀ G1 H1, Ex G G1 → Ex G1 H1 → Src G1 H1 s → ∀ Q : Bool → Hp → Prop, (∀ b G2 H2, B b → Grow (Ms s) G1 H1 G2 H2 → Src G2 H2 s → Q b H2) → tt σ H1 Q
/-- the promise of a def that draws -/
def spN (R : List PyData → (PyData → Prop) → Prop) : Sp := fun vs H Q _ => ∃ G s us ds S, vs = .ref s :: us ∧ R ds S ∧ Ex G H ∧ Src G H s ∧ DDs G us ds ∧ ∀ v d G2 H2, S d → Grow (Ms s) G H G2 H2 → Src G2 H2 s → DD G2 v d → Q v H2
theorem spN_len {R : List PyData → (PyData → Prop) → Prop} {n : Nat} (hR : ∀ ds S, R ds S → ds.length = n) {vs : List V} {H : Hp} {Q : VK} {E : XK} (h : spN R vs H Q E) : vs.length = n + 1 := by
  obtain ⟨G, s, us, ds, S, rfl, r, _, _, hd, _⟩ := h
  rw [List.length_cons, hd.length, hR ds S r]
section
variable {s : Addr} {σ : VSt} {G G' H : Hp} {ta tb tc te : TE} {t u : TT} {d e z : PyData} {S S' : PyData → Prop} {r : R2} {K : PySem.W.Frag} {tr : TA}
theorem n_s (h : EvS te σ G S) : EvN s te σ G S := fun G1 H1 e1 e2 m Q q => h G1 H1 e1 e2 Q fun v d G2 H2 hs g hv => q v d G2 H2 hs g.of0 (m.grow0 g) hv
theorem n_d (h : EvD te σ G d) : EvN s te σ G (fun x => x = d) := n_s h
theorem n_weak (h : EvN s te σ G S) (w : ∀ d, S d → S' d) : EvN s te σ G S' := fun G1 H1 e1 e2 m Q q => h G1 H1 e1 e2 m Q fun v d G2 H2 hs g m2 hv => q v d G2 H2 (w d hs) g m2 hv
theorem EvN.mono (e : Ex G G') (h : EvN s te σ G S) : EvN s te σ G' S := fun G1 H1 a => h G1 H1 (e.trans a)
theorem na_nil : EvNA s tNil σ G (fun ds => ds = []) := fun G1 H1 _ e2 m Q q => q [] [] G1 H1 rfl (Grow.refl e2) m .nil
theorem na_cons {A : List PyData → Prop} (h : EvN s te σ G S) (hr : EvNA s tr σ G A) : EvNA s (tCons te tr) σ G (fun ds => ∃ d es, ds = d :: es ∧ S d ∧ A es) := fun G1 H1 e1 e2 m Q q =>
  h G1 H1 e1 e2 m _ fun v d G2 H2 hs g m2 hv => hr G2 H2 (e1.trans g.g) g.gh m2 _ fun vs ds G3 H3 ha g3 m3 hvs => q _ _ G3 H3 ⟨d, ds, rfl, hs, ha⟩ (g.trans g3) m3 (.cons (hv.up g3.g) hvs)
theorem na_d {ds : List PyData} (h : EvA tr σ G ds) : EvNA s tr σ G (fun x => x = ds) := fun G1 H1 e1 e2 m Q q => h G1 H1 e1 e2 _ fun vs G2 H2 g hvs => q vs ds G2 H2 rfl g.of0 (m.grow0 g) hvs
/-- a call that hands the source on; the other arguments do not draw -/
theorem n_call {R : List PyData → (PyData → Prop) → Prop} {E : XK} {ds : List PyData} (hv : EvV te σ G (.ref s)) (h : EvA tr σ G ds) (hR : R ds S) : EvN s (tCall (spN R) [] E (tCons te tr)) σ G S := fun G1 H1 e1 e2 m Q q =>
  hv G1 H1 e1 e2 _ fun G2 H2 g2 => h G2 H2 (e1.trans g2.g) g2.gh _ fun vs G3 H3 g3 hvs => by
    show spN R ((V.ref s :: vs) ++ []) H3 Q E
    rw [List.append_nil]
    exact ⟨G3, s, vs, ds, S, rfl, hR, g3.gh, m.grow0 (g2.trans g3), hvs, fun v d G4 H4 hs g4 m4 hv => q v d G4 H4 hs ((g2.trans g3).of0.trans g4) m4 hv⟩
/-- a call that does not draw, its arguments may -/
theorem n_callS {R : List PyData → (PyData → Prop) → Prop} {E : XK} {A : List PyData → Prop} (h : EvNA s tr σ G A) (hR : ∀ ds, A ds → R ds S) : EvN s (tCall (spR R) [] E tr) σ G S := fun G1 H1 e1 e2 m Q q =>
  h G1 H1 e1 e2 m _ fun vs ds G2 H2 ha g m2 hvs => by
    rw [List.append_nil]
    exact ⟨G2, ds, S, hR ds ha, g.gh, hvs, fun v d G3 H3 hs g3 hv => q v d G3 H3 hs (g.then0 g3) (m2.grow0 g3) hv⟩
/-- an operation whose left side may draw -/
theorem n_op {S1 S2 : PyData → Prop} (ha : EvN s ta σ G S1) (hb : EvN s tb σ G S2) (hr : ∀ d e, S1 d → S2 e → ∃ z, S z ∧ RvD r d e z) : EvN s (tOp r ta tb) σ G S := fun G1 H1 e1 e2 m Q q =>
  ha G1 H1 e1 e2 m _ fun x d G2 H2 h1 g2 m2 hx => hb G2 H2 (e1.trans g2.g) g2.gh m2 _ fun y e G3 H3 h2 g3 m3 hy => by
    obtain ⟨z, hz, hr⟩ := hr d e h1 h2
    exact hr G3 H3 g3.gh x y (hx.up g3.g) hy Q fun v G4 H4 g4 hv => q v z G4 H4 hz ((g2.trans g3).then0 g4) (m3.grow0 g4) hv
theorem nb_d {b : Bool} (h : EvB t σ G b) : EvNB s t σ G (fun x => x = b) := fun G1 H1 e1 e2 m Q q => h G1 H1 e1 e2 _ fun G2 H2 g => q b G2 H2 rfl g.of0 (m.grow0 g)
theorem nb_test (h : EvN s te σ G (fun d => ∃ b, d = .bool b)) : EvNB s (tTest te) σ G (fun _ => True) := fun G1 H1 e1 e2 m Q q => h G1 H1 e1 e2 m _ fun v d G2 H2 ⟨b, hb⟩ g m2 hv => by
  subst hb
  obtain rfl := hv.eqB
  exact ⟨b, rfl, q b G2 H2 trivial g m2⟩
theorem n_if {B : Bool → Prop} (h : EvNB s t σ G B) (h1 : EvN s ta σ G S) (h2 : EvN s tb σ G S) : EvN s (tIf t ta tb) σ G S := fun G1 H1 e1 e2 m Q q => h G1 H1 e1 e2 m _ fun b G2 H2 _ g m2 => by
  cases b with
  | true => exact h1 G2 H2 (e1.trans g.g) g.gh m2 Q fun v d G3 H3 s g3 m3 hv => q v d G3 H3 s (g.trans g3) m3 hv
  | false => exact h2 G2 H2 (e1.trans g.g) g.gh m2 Q fun v d G3 H3 s g3 m3 hv => q v d G3 H3 s (g.trans g3) m3 hv
theorem EvNM.toN {A : List PyData → Prop} (h : EvNM s te σ G A) : EvN s te σ G (fun d => ∃ ds, A ds ∧ d = .list ds) := fun G1 H1 e1 e2 m Q q => h G1 H1 e1 e2 m Q fun p ds G2 H2 ha hp g m2 ml => by
  obtain ⟨G3, g3, e3, hd, oth⟩ := ml.fin g hp
  refine q _ _ _ _ ⟨ds, ha, rfl⟩ g3 ?_ hd
  obtain ⟨a, b, c, m3⟩ := m2.ml
  exact Src.ofML (oth s _ (fun z => m.there (z ▸ hp)) m3)
theorem nm_m {ds : List PyData} (h : EvM te σ G ds) : EvNM s te σ G (fun x => x = ds) := fun G1 H1 e1 e2 m Q q => h G1 H1 e1 e2 Q fun p G2 H2 hp g ml => q p ds G2 H2 rfl hp g.of0 (m.grow0 g) ml
/-- l[lo:hi] of a list, the bounds may draw: a part of it -/
def EvNO (s : Addr) (to : TO) (σ : VSt) (G : Hp) : Prop := ∀ G1 H1, Ex G G1 → Ex G1 H1 → Src G1 H1 s → ∀ Q : Option Int → Hp → Prop, (∀ o G2 H2, Grow (Ms s) G1 H1 G2 H2 → Src G2 H2 s → Q o H2) → to σ H1 Q
theorem no_none : EvNO s tNoPart σ G := fun G1 H1 _ e2 m Q q => q none G1 H1 (Grow.refl e2) m
theorem no_some (h : EvN s te σ G (fun d => ∃ i, d = .int i)) : EvNO s (tPart te) σ G := fun G1 H1 e1 e2 m Q q => h G1 H1 e1 e2 m _ fun v d G2 H2 ⟨i, hi⟩ g m2 hv => by
  subst hi
  obtain rfl := hv.eqI
  exact ⟨i, rfl, q _ G2 H2 g m2⟩
theorem nm_sl {tl th : TO} {ds : List PyData} (h : EvN s te σ G (fun d => d = .list ds)) (h1 : EvNO s tl σ G) (h2 : EvNO s th σ G) : EvNM s (tSl (rSlL K) te tl th) σ G (fun es => ∃ lo hi, es = cutD ds lo hi) := fun G1 H1 e1 e2 m Q q =>
  h G1 H1 e1 e2 m _ fun v d G2 H2 hd g m2 hv => h1 G2 H2 (e1.trans g.g) g.gh m2 _ fun lo G3 H3 g3 m3 => h2 G3 H3 ((e1.trans g.g).trans g3.g) g3.gh m3 _ fun hi G4 H4 g4 m4 => by
    subst hd
    obtain ⟨a, xs, rfl, hp, hx⟩ := hv.eqL
    refine ⟨a, xs, rfl, .inl (.inl (g4.gh _ _ (g4.g _ _ (g3.g _ _ hp)))), fun p hp2 => ?_⟩
    have hx4 : DDs G4 (cutV xs lo hi) (cutD ds lo hi) := by
      have z := (hx.up (g3.g.trans g4.g))
      unfold cutV cutD
      rw [hx.length]
      exact (z.drop _).take _
    have g14 := (g.trans g3).trans g4
    exact q p _ _ _ ⟨lo, hi, rfl⟩ (g14.there p hp2) (g14.trans (Grow.mnew g4.gh hp2)) (m4.grow (Grow.mnew (M := M0) g4.gh hp2) fun z => z) (ML.new g4.gh hp2 hx4)
end
/-! ### statements -/
section
variable {s : Addr} {σ : VSt} {G H : Hp} {ta tb te tl : TE} {t : TT} {d : PyData} {S : PyData → Prop} {K : PySem.W.Frag} {D : Ends} {tu tw tz : TS} {g : TG}
theorem q_asgN {i : Nat} (h : EvN s te σ G S) (e : Ex G H) (m : Src G H s) (k : ∀ v d G2 H2, S d → Grow (Ms s) G H G2 H2 → Src G2 H2 s → DD G2 v d → tz D (σ.set i (some v)) H2) : tSeq (tAsg te (gName i)) tz D σ H := h G H (Ex.refl G) e m _ k
theorem s_asgN {i : Nat} (h : EvN s te σ G S) (e : Ex G H) (m : Src G H s) (k : ∀ v d G2 H2, S d → Grow (Ms s) G H G2 H2 → Src G2 H2 s → DD G2 v d → D.nx (σ.set i (some v)) H2) : tAsg te (gName i) D σ H := h G H (Ex.refl G) e m _ k
theorem q_asgNM {i : Nat} {A : List PyData → Prop} (h : EvNM s te σ G A) (e : Ex G H) (m : Src G H s) (k : ∀ p ds G2 H2, A ds → H p = none → Grow (Ms s) G H G2 H2 → Src G2 H2 s → ML G2 H2 p ds → tz D (σ.set i (some (.ref p))) H2) : tSeq (tAsg te (gName i)) tz D σ H := h G H (Ex.refl G) e m _ k
theorem s_asgNM {i : Nat} {A : List PyData → Prop} (h : EvNM s te σ G A) (e : Ex G H) (m : Src G H s) (k : ∀ p ds G2 H2, A ds → H p = none → Grow (Ms s) G H G2 H2 → Src G2 H2 s → ML G2 H2 p ds → D.nx (σ.set i (some (.ref p))) H2) : tAsg te (gName i) D σ H := h G H (Ex.refl G) e m _ k
theorem s_retN (h : EvN s te σ G S) (e : Ex G H) (m : Src G H s) (k : ∀ v d G2 H2, S d → Grow (Ms s) G H G2 H2 → Src G2 H2 s → DD G2 v d → D.rt v H2) : tRet te D σ H := h G H (Ex.refl G) e m _ k
theorem s_ifN {B : Bool → Prop} (h : EvNB s t σ G B) (e : Ex G H) (m : Src G H s) (k : ∀ b G2 H2, B b → Grow (Ms s) G H G2 H2 → Src G2 H2 s → if b = true then tu D σ H2 else tw D σ H2) : tIfS t tu tw D σ H := h G H (Ex.refl G) e m _ k
/-- l.append(e), e may draw -/
theorem s_appN {l : Addr} {ds : List PyData} (ho : EvV ta σ G (.ref l)) (m : ML G H l ds) (hne : l ≠ s) (h : EvN s te σ G S) (e : Ex G H) (ms : Src G H s) (hz : ds.length < 100000)
    (k : ∀ d G2 H2, S d → Grow (fun a => a = l ∨ a = s) G H G2 H2 → Src G2 H2 s → ML G2 H2 l (ds ++ [d]) → D.nx σ H2) :
    tDrop (tBM K "list" rAppend ta (tCons te tNil)) D σ H := ho G H (Ex.refl G) e _ fun G1 H1 g1 => by
  obtain ⟨_, xs, h1, _⟩ := m.grow0 g1
  refine ⟨.inl ⟨rfl, xs, .inl (.inl h1)⟩, h G1 H1 g1.g g1.gh (ms.grow0 g1) _ fun v d G2 H2 hS g2 ms2 hv => ?_⟩
  have m2 := (m.grow0 g1).grow g2 (fun z => hne z)
  obtain ⟨g0, ys, h2, d2⟩ := id m2
  refine ⟨l, ys, v, rfl, rfl, h2, Evl.sz_lt (by rw [d2.length]; exact hz), ?_⟩
  obtain ⟨g3, m3⟩ := m2.set (xs := ys ++ [v]) g2.gh (d2.append (.one hv))
  exact k d G2 _ hS (((g1.of0).trans (g2.weak fun x z => .inr z)).trans (g3.weak fun x z => .inl z)) (ms2.grow g3 fun z => hne z.symm) m3
theorem q_appN {l : Addr} {ds : List PyData} (ho : EvV ta σ G (.ref l)) (m : ML G H l ds) (hne : l ≠ s) (h : EvN s te σ G S) (e : Ex G H) (ms : Src G H s) (hz : ds.length < 100000)
    (k : ∀ d G2 H2, S d → Grow (fun a => a = l ∨ a = s) G H G2 H2 → Src G2 H2 s → ML G2 H2 l (ds ++ [d]) → tz D σ H2) :
    tSeq (tDrop (tBM K "list" rAppend ta (tCons te tNil))) tz D σ H := s_appN (D := { D with nx := tz D }) ho m hne h e ms hz k
theorem Grow.priv2 {M : Addr → Prop} {l : Addr} {G0 H0 G1 H1 G2 H2 : Hp} (a : Grow (Ms s) G0 H0 G1 H1) (b : Grow (fun x => x = l ∨ x = s) G1 H1 G2 H2) (h : H0 l = none) : Grow (Ms s) G0 H0 G2 H2 :=
  ⟨a.g.trans b.g, b.gh, fun x o hm q => b.keep x o (fun z => z.elim (fun z => by rw [z, h] at q; cases q) hm) (a.keep x o hm q), fun x q => a.there x (b.there x q), fun x q1 q2 => b.new x (fun z => q1 (a.there x z)) (a.new x q1 q2)⟩
end
/-! ### a comprehension over range(n) that draws -/
section
variable {s : Addr} {σ : VSt} {G H : Hp} {te : TE} {K : PySem.W.Frag} {g : TG} {vs : List Nat}
theorem nm_lcR {ra : TA} {n : Nat} {S : PyData → Prop} (h : EvA ra σ G [.int (n : Int)]) (hl : n ≤ 50000)
    (hg : ∀ (x : Nat) (G1 H1 : Hp), x < n → Ex G G1 → Ex G1 H1 → ∀ Q : VSt → Hp → Prop, (∀ σ2, wipe σ2 vs = wipe σ vs → EvN s te σ2 G1 S → Q σ2 H1) → g (.int (x : Int)) (wipe σ vs) H1 Q) :
    EvNM s (tLc (iRng1 ra) g tYes te vs) σ G (fun ds => ds.length ≤ n ∧ ∀ d ∈ ds, S d) := fun G1 H1 e1 e2 m Q q =>
  h G1 H1 e1 e2 _ fun vs' G2 H2 g2 hv => by
    obtain ⟨v, r, rfl, hv1, hr⟩ := hv.inv
    obtain rfl := hr.inv0
    obtain rfl := hv1.eqI
    refine ⟨(n : Int), rfl, by omega, by omega, fun D hD => ?_⟩
    have e0 : ((n : Int)).toNat = n := by omega
    rw [e0]
    have m2 := m.grow0 g2
    have hDs : D ≠ s := fun z => m2.there (z ▸ hD)
    refine lc_range (lo := 0) (n := n) (fun i H' => ∃ G' ds, Grow (Ms s) G2 H2 G' H' ∧ Src G' H' s ∧ ML G' H' D ds ∧ ds.length ≤ i ∧ ∀ d ∈ ds, S d)
      ⟨G2, [], Grow.mnew g2.gh hD, m2.grow (Grow.mnew (M := M0) g2.gh hD) (fun z => z), ML.new g2.gh hD .nil, Nat.le_refl _, fun d hd => by cases hd⟩ (fun i H' hi ⟨G', ds, gr, ms, ml, hlen, hS⟩ => ?_) (fun H' ⟨G', ds, gr, ms, ml, hlen, hS⟩ => ?_)
    · have ez : (0 : Int) + (i : Int) = (i : Int) := Int.zero_add _
      rw [ez]
      refine hg i G' H' hi ((e1.trans g2.g).trans gr.g) gr.gh _ fun σ2 hw he => ⟨hw, ?_⟩
      show te σ2 H' _
      refine he G' H' (Ex.refl _) gr.gh ms _ fun y d G4 H4 hd g4 m4 hy => ?_
      have ml4 := ml.grow g4 (fun z => hDs z)
      obtain ⟨g0, ys, h2, d2⟩ := id ml4
      refine ⟨ys, h2, Evl.sz_lt (by rw [d2.length]; omega), ?_⟩
      obtain ⟨g5, m5⟩ := ml4.set (xs := ys ++ [y]) g4.gh (d2.append (.one hy))
      refine ⟨G4, ds ++ [d], ?_, m4.grow g5 (fun z => hDs z.symm), m5, by rw [List.length_append]; simp; omega, fun x hx => ?_⟩
      · exact (gr.trans g4).priv2 (M := M0) (g5.weak fun x z => .inl z) hD
      · rcases List.mem_append.mp hx with z | z
        · exact hS x z
        · rw [List.mem_singleton] at z; rw [z]; exact hd
    · exact q D ds _ _ ⟨hlen, hS⟩ (g2.there _ hD) (g2.of0.trans gr) ms ml
end
end CL
set_option Elab.async false
set_option linter.all false
set_option maxRecDepth 100000
set_option maxHeartbeats 4000000
namespace CL
open PySem L2 CM
theorem lc_enum {K : PySem.W.Frag} {a : Addr} {xs : List V} {g : TG} {tt : TT} {te : TE} {vs : List Nat} {σ : VSt} {H1 : Hp} {D : Addr} {Qd : Hp → Prop} (Pv : Nat → Hp → Prop) (h0 : Pv 0 (upd H1 D (.lst []))) (hl : ∀ i H, i ≤ xs.length → Pv i H → SqL K H a xs)
    (hs : ∀ i x H T, xs[i]? = some x → Pv i H → H T = none → g (.ref T) (wipe σ vs) (upd H T (.tup [.int (i : Nat), x])) fun σ2 H2 => wipe σ2 vs = wipe σ vs ∧ tt σ2 H2 fun b H3 =>
      if b = true then te σ2 H3 fun y H4 => ∃ acc, H4 D = some (.lst acc) ∧ acc.length < sizeLine ∧ Pv (i + 1) (upd H4 D (.lst (acc ++ [y]))) else Pv (i + 1) H3) (hd : ∀ H, Pv xs.length H → Qd H) :
    ∃ W : Nat → Nat → Hp → Prop, (∃ m, W 0 m (upd H1 D (.lst []))) ∧ ∀ i m H, W i m H →
      ((Ite K a).stop i H ∧ Qd H) ∨ ((Ite K a).go i H ∧ ∃ Nx : Hp → Prop, (∀ H', Nx H' → ∃ m', m' < m ∧ W (i + 1) m' H') ∧ ∀ x H', (Ite K a).yld i H x H' → g x (wipe σ vs) H' fun σ2 H2 => wipe σ2 vs = wipe σ vs ∧ tt σ2 H2 fun b H3 =>
        if b = true then te σ2 H3 fun y H4 => ∃ acc, H4 D = some (.lst acc) ∧ acc.length < sizeLine ∧ Nx (upd H4 D (.lst (acc ++ [y]))) else Nx H3) := by
  refine ⟨fun i m H => m = xs.length - i ∧ i ≤ xs.length ∧ Pv i H, ⟨xs.length, by simp, Nat.zero_le _, h0⟩, ?_⟩
  rintro i m H ⟨rfl, hi, p⟩
  have q := hl i H hi p
  by_cases hlt : i < xs.length
  · refine .inr ⟨⟨xs, xs[i], q, by simp [hlt]⟩, Pv (i + 1), fun H' p' => ⟨xs.length - (i + 1), by omega, rfl, hlt, p'⟩, fun x H' y => ?_⟩
    obtain ⟨T, x', e1, hT, e2, y⟩ := y
    subst e1 e2
    exact hs i x' _ T (y xs q) p hT
  · have e : i = xs.length := by omega
    subst e
    exact .inl ⟨⟨xs, q, Nat.le_refl _⟩, hd H p⟩
section
variable {σ : VSt} {G H : Hp} {te tl : TE} {ta : TA} {tt : TT} {K : PySem.W.Frag} {g : TG} {vs : List Nat}
/-- [f for i, x in enumerate(xs) if p] -/
theorem m_lcE {α : Type} {enc : α → PyData} {xs : List α} (p : Nat → Bool) (f : Nat → PyData) (h : EvA ta σ G [.list (xs.map enc)]) (hl : xs.length ≤ 50000)
    (hg : ∀ (i : Nat) (x : α) (v : V) (G1 H1 : Hp), xs[i]? = some x → Ex G G1 → Ex G1 H1 → DD G1 v (.tuple [I1 i, enc x]) → ∀ Q : VSt → Hp → Prop, (∀ σ2, wipe σ2 vs = wipe σ vs → EvB tt σ2 G1 (p i) → (p i = true → EvD te σ2 G1 (f i)) → Q σ2 H1) → g v (wipe σ vs) H1 Q) :
    EvM (tLc (iEnum K ta) g tt te vs) σ G (((List.range xs.length).filter p).map f) := fun G1 H1 e1 e2 Q q =>
  h G1 H1 e1 e2 _ fun vs' G2 H2 g2 hv => by
    obtain ⟨v, r, rfl, hv1, hr⟩ := hv.inv
    obtain rfl := hr.inv0
    obtain ⟨a, ys, rfl, hp, hy⟩ := hv1.eqL
    refine ⟨a, ys, rfl, .inl (.inl (g2.gh _ _ hp)), fun D hD => ?_⟩
    have hlen : ys.length = xs.length := by rw [hy.length, List.length_map]
    refine lc_enum (K := K) (a := a) (xs := ys) (fun i H' => ∃ G', Cw G2 H2 D H2 ((((List.range xs.length).take i).filter p).map f) G' H') ⟨G2, Cw.start g2.gh hD⟩ (fun i H' _ ⟨G', c⟩ => .inl (.inl (c.gr.gh _ _ (c.gr.g _ _ hp)))) (fun i x H' T hi ⟨G', c⟩ hT => ?_) (fun H' ⟨G', c⟩ => ?_)
    · have hi' : i < xs.length := by rw [← hlen]; exact (List.getElem?_eq_some_iff.mp hi).1
      obtain ⟨d, hd, hxd⟩ := hy.at hi
      rw [List.getElem?_map, List.getElem?_eq_getElem hi'] at hd
      have ed : enc xs[i] = d := Option.some.inj hd
      subst ed
      have hx' := hxd.up c.gr.g
      have gT : Grow M0 G' H' (upd G' T (.tup [.int (i : Nat), x])) (upd H' T (.tup [.int (i : Nat), x])) := Grow.laid c.gr.gh hT
      have hDT : D ≠ T := fun z => c.ml.there (z ▸ hT)
      have cT : Cw G2 H2 D H2 ((((List.range xs.length).take i).filter p).map f) (upd G' T (.tup [.int (i : Nat), x])) (upd H' T (.tup [.int (i : Nat), x])) := by
        obtain ⟨gr, g0, hD, xs', hx, hd⟩ := c
        exact ⟨gr.trans gT, by rw [upd_ne hDT]; exact g0, hD, xs', by rw [upd_ne hDT]; exact hx, hd.up gT.g⟩
      refine hg i xs[i] (.ref T) _ _ (List.getElem?_eq_getElem hi') ((e1.trans g2.g).trans cT.gr.g) cT.gr.gh (.tup (.inl upd_same) (.cons (.int _) (.one (hx'.up gT.g)))) _ fun σ2 hw ht he => ⟨hw, ?_⟩
      have hi2 : (List.range xs.length)[i]? = some i := by rw [List.getElem?_range hi']
      exact cT.turn (by have := filter_len ((List.range xs.length).take i) p f; rw [List.length_take, List.length_range] at this; omega) ht he fun G3 H3 c3 => ⟨G3, by rw [filter_step (List.range xs.length) p f i i hi2]; exact c3⟩
    · have e : (List.range xs.length).take ys.length = List.range xs.length := by rw [List.take_of_length_le]; rw [List.length_range, hlen]; exact Nat.le_refl _
      rw [e] at c
      exact q _ _ _ (g2.there _ hD) (g2.trans c.gr) c.ml
end
/-- three names at once, the third a new list -/
theorem q_trio {s : Addr} {σ : VSt} {G H : Hp} {ta tb tc : TE} {S1 S2 : PyData → Prop} {ds : List PyData} {K : PySem.W.Frag} {D : Ends} {tz : TS} {i j l : Nat} (ha : EvN s ta σ G S1) (hb : EvN s tb σ G S2) (hc : EvM tc σ G ds) (e : Ex G H) (m : Src G H s)
    (k : ∀ v1 d1 v2 d2 p G2 H2, S1 d1 → S2 d2 → H p = none → Grow (Ms s) G H G2 H2 → Src G2 H2 s → DD G2 v1 d1 → DD G2 v2 d2 → ML G2 H2 p ds → tz D (((σ.set i (some v1)).set j (some v2)).set l (some (.ref p))) H2) :
    tSeq (tAsg (tTup (tCons ta (tCons tb (tCons tc tNil)))) (gTup K 3 (gCons (gName i) (gCons (gName j) (gCons (gName l) gNil))))) tz D σ H := by
  show ta σ H _
  refine ha G H (Ex.refl G) e m _ fun v1 d1 G1 H1 s1 g1 m1 h1 => ?_
  show tb σ H1 _
  refine hb G1 H1 g1.g g1.gh m1 _ fun v2 d2 G2 H2 s2 g2 m2 h2 => ?_
  show tc σ H2 _
  refine hc G2 H2 (g1.g.trans g2.g) g2.gh _ fun p G3 H3 hp g3 ml => ?_
  have m3 := m2.grow0 g3
  refine ⟨Evl.sz_of (by show 3 ≤ 100000; decide), fun t ht => ?_⟩
  have gt : Grow M0 G3 H3 G3 (upd H3 t (.tup [v1, v2, .ref p])) := Grow.mnew g3.gh ht
  exact ⟨t, _, rfl, .inl (.inl upd_same), rfl, _, _, rfl, _, _, rfl, _, _, rfl, rfl, k v1 d1 v2 d2 p G3 _ s1 s2 ((g1.trans g2).there p hp) (((g1.trans g2).then0 g3).then0 gt) (m3.grow0 gt) (h1.up (g2.g.trans g3.g)) (h2.up g3.g) (ml.grow0 gt)⟩
theorem q_parNN {s : Addr} {σ : VSt} {G H : Hp} {ta tb : TE} {S1 S2 : PyData → Prop} {D : Ends} {tz : TS} {i j : Nat} (ha : EvN s ta σ G S1) (hb : EvN s tb σ G S2) (e : Ex G H) (m : Src G H s)
    (k : ∀ v1 d1 v2 d2 G2 H2, S1 d1 → S2 d2 → Grow (Ms s) G H G2 H2 → Src G2 H2 s → DD G2 v1 d1 → DD G2 v2 d2 → tz D ((σ.set i (some v1)).set j (some v2)) H2) : tSeq (tPar i j (tCons ta (tCons tb tNil))) tz D σ H :=
  ha G H (Ex.refl G) e m _ fun v1 d1 G1 H1 s1 g1 m1 h1 => hb G1 H1 g1.g g1.gh m1 _ fun v2 d2 G2 H2 s2 g2 m2 h2 => ⟨v1, v2, rfl, k v1 d1 v2 d2 G2 H2 s1 s2 (g1.trans g2) m2 (h1.up g2.g) h2⟩
/-- a part of a list -/
theorem cut_map {α : Type} (f : α → PyData) (xs : List α) (lo hi : Option Int) : ∃ ys : List α, cutD (xs.map f) lo hi = ys.map f ∧ ys.Sublist xs := by
  unfold cutD
  rw [← List.map_drop, ← List.map_take]
  exact ⟨_, rfl, (List.take_sublist _ _).trans (List.drop_sublist _ _)⟩
end CL
namespace CM
/-- the items that do not stand before -/
def firstly {α : Type} [DecidableEq α] (d : α) (xs : List α) : List Nat := (List.range xs.length).filter fun i => decide (xs.getD i d ∉ xs.take i)
theorem firstly_nodup {α : Type} [DecidableEq α] (d : α) (xs : List α) : ((firstly d xs).map fun i => xs.getD i d).Nodup := by
  unfold firstly List.Nodup
  rw [List.pairwise_map]
  refine List.Pairwise.imp_of_mem (R := fun i j => i < j) (fun {i j} hi hj hij e => ?_) ((List.pairwise_lt_range (n := xs.length)).filter _)
  have hj' := List.mem_filter.mp hj
  have hi' := List.mem_range.mp (List.mem_filter.mp hi).1
  have hn : xs.getD j d ∉ xs.take j := of_decide_eq_true hj'.2
  refine hn (e ▸ ?_)
  rw [List.getD_eq_getElem?_getD, List.getElem?_eq_getElem hi']
  show xs[i] ∈ xs.take j
  rw [List.mem_take_iff_getElem]
  exact ⟨i, by omega, rfl⟩
theorem firstly_mem {α : Type} [DecidableEq α] (d : α) (xs : List α) {x : α} (h : x ∈ (firstly d xs).map fun i => xs.getD i d) : x ∈ xs := by
  obtain ⟨i, hi, rfl⟩ := List.mem_map.mp h
  have hi' := List.mem_range.mp (List.mem_filter.mp hi).1
  show xs.getD i d ∈ xs
  rw [List.getD_eq_getElem?_getD, List.getElem?_eq_getElem hi']
  exact List.getElem_mem hi'
theorem firstly_len {α : Type} [DecidableEq α] (d : α) (xs : List α) : ((firstly d xs).map fun i => xs.getD i d).length ≤ xs.length := by
  rw [List.length_map]
  have := List.length_filter_le (fun i => decide (xs.getD i d ∉ xs.take i)) (List.range xs.length)
  rw [List.length_range] at this
  exact this
end CM
set_option Elab.async false
set_option linter.all false
set_option maxRecDepth 100000
set_option maxHeartbeats 4000000
namespace CP
open PySem L2 CL CM
/-- tokens and addresses of what the top has made -/
structure Ads where
  tS : Tok
  tW : Tok
  tM : Tok
  aR : Addr
/-- what is asked of the module's names -/
structure Txt (Z : Ads) (K : PySem.W.Frag) (mg : Str → Option Value) : Prop where
  c_SETTLES : mg "SETTLES" = some (.str "settles" Z.tS)
  c_WITHIN : mg "WITHIN" = some (.str "within" Z.tW)
  c_MOST_WIDTH : mg "MOST_WIDTH" = some (.int 6 Z.tM)
  b_len : mg "len" = none
  b_range : mg "range" = none
  b_sorted : mg "sorted" = none
  b_set : mg "set" = none
  b_all : mg "all" = none
  b_isinstance : mg "isinstance" = none
  b_int : mg "int" = none
  b_bool : mg "bool" = none
  b_str : mg "str" = none
  b_tuple : mg "tuple" = none
  b_max : mg "max" = none
  b_min : mg "min" = none
  b_repr : mg "repr" = none
  b_list : mg "list" = none
  b_enumerate : mg "enumerate" = none
section
variable {P : Program} {w : World} {K : PySem.W.Frag} {mg : Str → Option Value} {base : Heap} {Z : Ads}
/-! ### shortest -/
def GoodPs (ps : List (Nat × Nat)) : Prop := ps.length ≤ 1000 ∧ ∀ p ∈ ps, p.1 < 6 ∧ p.2 < 6
def R_shortest : List PyData → (PyData → Prop) → Prop := fun ds S => ∃ (ps : List (Nat × Nat)) (a b : Nat), ds = [.list (ps.map P2), I1 a, I1 b] ∧ GoodPs ps ∧ a < 6 ∧ b < 6 ∧
  S = fun d => (Reach ps a b ∧ ∃ w : Wk, d = WK w) ∨ (¬ Reach ps a b ∧ d = .none)
theorem sc_shortest : FnScope ["pairs", "a", "b", "walks", "had", "walk", "longer", "column", "start", "end"] ["pairs", "a", "b"] (defScope s_shortest) := ⟨rfl, rfl, rfl, by decide +kernel, rfl, by decide +kernel, by decide +kernel⟩
theorem ok_shortest {f : Addr} {fd : FuncData} (F : Fun K "shortest" "shortest" s_shortest f fd) (T : Txt Z K mg) : FnOk P w K mg base CX0 1 f fd ["pairs", "a", "b"] (spR R_shortest) := by
  refine F.ok sc_shortest (fun vs H Q E h => spR_len (n := 3) (fun ds S ⟨ps, a, b, e, _⟩ => by rw [e]; rfl) h) (fun cdv A outer s H vs Q E hr h => ?_)
  obtain ⟨G, ds, S, ⟨ps, a, b, rfl, gp, ha, hb, rfl⟩, eG, hd, k⟩ := h
  obtain ⟨v1, r, rfl, h1, hd⟩ := hd.inv
  obtain ⟨v2, r, rfl, h2, hd⟩ := hd.inv
  obtain ⟨v3, r, rfl, h3, hd⟩ := hd.inv
  obtain rfl := hd.inv0
  obtain rfl := h2.eqI
  obtain rfl := h3.eqI
  have nd := sc_shortest.nd
  refine ⟨_, (pss_cons (ps_par (i := 3) (j := 4) rfl nd rfl rfl (by decide) rfl rfl (pa_cons (pe_lst (pa_cons (pe_tup (pa_cons (pv 1) pa_nil)) pa_nil)) (pa_cons (pe_lst (pa_cons (pv 1) pa_nil)) pa_nil)) (by rfl))
    (pss_cons (ps_while PassesOwn.never (pt_cmpR (neDK K (h64 hr)) (pv 3) (pe_lst pa_nil) (nomark _))
    (pss_cons (ps_for PassesOwn.never rfl (piListK K (pv 3)) (pgN 5 nd)
    (pss_one (ps_if (pt_cmpR (eqDK K (h64 hr)) (pe_ix (ix_seqK K) (pv 5) (pe_un un_neg pe_int) (fun _ _ => rfl)) (pv 2) (nomark _)) (pss_one (ps_ret (pv 5))) pss_nil)))
    (pss_cons (ps_set (i := 6) nd rfl (by first | exact Or.inl rfl | exact Or.inr rfl) (pe_lst pa_nil))
    (pss_cons (ps_for PassesOwn.never rfl (piListK K (pv 3)) (pgN 5 nd)
    (pss_one (ps_for PassesOwn.never rfl (piListK K (pe_callB (crSortedK w rfl) (by rfl) T.b_sorted (by decide +kernel) (pa_cons (pe_callTy (crSetK K w rfl) (by rfl) T.b_set (by decide +kernel) (pa_cons (pe_lc (own := [("start", 8), ("end", 9)]) (by rfl) nd (piListK K (pv 0)) (blkOk_by (own := [("start", 8), ("end", 9)]) (N := ["pairs", "a", "b", "walks", "had", "walk", "longer", "column", "start", "end"]) (sc := (defScope s_shortest)) (by decide +kernel)) (fun _ _ _ _ _ => (pgTupK K (n := 2) (pgs_cons (pgN 8 nd) (pgs_cons (pgN 9 nd) pgs_nil)))) (fun _ _ _ _ _ => pts_one (pt_cmpR (eqDK K (h64 hr)) (pv 8) (pe_ix (ix_seqK K) (pv 5) (pe_un un_neg pe_int) (fun _ _ => rfl)) (nomark _))) (fun _ _ _ _ _ => (pv 9))) pa_nil)) pa_nil))) (pgN 7 nd)
    (pss_one (ps_if (pt_cmpR (notInDK K (h65 hr)) (pv 7) (pv 4) (by rfl)) (pss_cons (ps_expr (pe_bm PySem.F.plainAttrs_list PySem.F.slot_list_append PySem.F.type_list_append mt_append (pv 4) (pa_cons (pv 7) pa_nil)))
    (pss_one (ps_expr (pe_bm PySem.F.plainAttrs_list PySem.F.slot_list_append PySem.F.type_list_append mt_append (pv 6) (pa_cons (pe_op (catTK K) (pv 5) (pe_tup (pa_cons (pv 7) pa_nil))) pa_nil))))) pss_nil)))))
    (pss_one (ps_set (i := 3) nd rfl (by first | exact Or.inl rfl | exact Or.inr rfl) (pv 6)))))))
    (pss_one (ps_ret pe_non)))), ?_⟩
  show tSeq _ _ _ [some v1, some (.int a), some (.int b), none, none, none, none, none, none, none] H
  -- walks, had = [(a,)], [a]
  refine q_parDM (d := .list ([([], a)].map WK)) (ds := [a].map I1) (d_lst (a_cons (d_tup (a_cons (d_var rfl (.int _)) a_nil)) a_nil)) (m_lst (a_cons (d_var rfl (.int _)) a_nil)) eG fun vw hd G1 H1 hn g1 hw mh => ?_
  have hlay : ∀ ws : List Wk, SeqAt.shaped (.list (ws.map WK)) = true := fun ws => (lay_map lay_WK ws).shaped
  -- while walks != []
  refine q_while (fun m σ' G' H' => ∃ vw o5 o6 o7 had walks, σ' = [some v1, some (.int a), some (.int b), some vw, some (.ref hd), o5, o6, o7, none, none] ∧ Grow M0 G H G' H' ∧ DD G' vw (.list (walks.map WK)) ∧ ML G' H' hd (had.map I1) ∧
    MI ps a b walks (had, []) ∧ m = 2 * (6 - had.length) + (if walks = [] then 0 else 1)) _ ⟨vw, none, none, none, [a], [([], a)], rfl, g1, hw, mh, MI.start ha, rfl⟩ ?_
  rintro m σ' G' H' ⟨vw, o5, o6, o7, had, walks, rfl, g, hw, mh, M, rfl⟩
  refine ⟨g.gh, _, b_test (d_op (d_var rfl hw) (d_lst a_nil) (r_ne (hlay walks) rfl)), ?_, ?_⟩
  · intro hne G2 H2 g2 N hN
    have hne' : walks ≠ [] := fun z => by rw [z] at hne; exact absurd hne (by rw [eqv_nil]; decide)
    have g3 := g.trans g2
    -- for walk in walks: if walk[-1] == b: return walk
    refine q_forL (enc := WK) (xs := walks) (d_var rfl (hw.up g2.g)) g2.gh (fun i σ' G' H' => ∃ o5, σ' = [some v1, some (.int a), some (.int b), some vw, some (.ref hd), o5, o6, o7, none, none] ∧ Grow M0 G H G' H' ∧ ML G' H' hd (had.map I1) ∧
      ∀ w ∈ walks.take i, w.2 ≠ b) (fun G1 H1 g1 => ⟨o5, rfl, g3.trans g1, (mh.grow0 g2).grow0 g1, fun w hw => by simp at hw⟩) ?_ ?_
    · rintro i wk v σ' G' H' hi eG' eH' hv ⟨o5, rfl, g', mh', hno⟩ Nx hNx
      show tIfS _ _ _ _ [some v1, some (.int a), some (.int b), some vw, some (.ref hd), some v, o6, o7, none, none] H'
      refine s_when (b_test (d_op (d_op (d_var rfl hv) d_neg1 (r_ixT (atI_last1 _ _ _))) (d_var rfl (.int _)) (r_eq rfl rfl))) eH' ?_ ?_
      · intro hb G5 H5 g5
        rw [eqv_I1] at hb
        exact s_ret (d_var rfl (hv.up g5.g)) g5.gh fun v G6 H6 g6 hv6 => k v (WK wk) G6 H6 (.inl ⟨M.hit (List.mem_of_getElem? hi) (of_decide_eq_true hb), wk, rfl⟩) ((g'.trans g5).trans g6) hv6
      · intro hb G5 H5 g5
        rw [eqv_I1] at hb
        refine hNx _ G5 H5 g5.g g5.gh ⟨some v, rfl, g'.trans g5, mh'.grow0 g5, fun w hw => ?_⟩
        rw [List.take_add_one, hi] at hw
        rcases List.mem_append.mp hw with q | q
        · exact hno w q
        · have e : w = wk := by simpa using q
          rw [e]; exact of_decide_eq_false hb
    · rintro σ' G4 H4 eG4 eH4 ⟨o5, rfl, g4, mh4, hno⟩
      rw [List.take_length] at hno
      -- longer = []
      refine q_asgM (m_lst a_nil) eH4 fun pl G5 H5 hpl g5 ml5 => ?_
      have hl0 : H pl = none := g4.there pl hpl
      have hne_l : pl ≠ hd := fun z => mh4.there (z ▸ hpl)
      have hn0 : H hd = none := hn
      -- for walk in walks
      refine q_forL (enc := WK) (xs := walks) (d_var rfl (hw.up (g2.g.trans (eG4.trans g5.g)))) g5.gh (fun i σ' G' H' => ∃ o5 o7, σ' = [some v1, some (.int a), some (.int b), some vw, some (.ref hd), o5, some (.ref pl), o7, none, none] ∧ Grow M0 G H G' H' ∧
        ML G' H' hd (((walks.take i).foldl (level ps) (had, [])).1.map I1) ∧ ML G' H' pl (((walks.take i).foldl (level ps) (had, [])).2.map WK)) (fun G1 H1 g1 => ⟨o5, o7, rfl, (g4.trans g5).trans g1, (mh4.grow0 g5).grow0 g1, ml5.grow0 g1⟩) ?_ ?_
      · rintro i wk v σ' G' H' hi eG' eH' hv ⟨o5, o7, rfl, g', mh', ml'⟩ Nx hNx
        have Mi : MI ps a b (walks.drop i) ((walks.take i).foldl (level ps) (had, [])) := levels_MI gp.2 _ _ _ (by rw [List.take_append_drop]; exact M) fun w hw => hno w (List.mem_of_mem_take hw)
        have ei : walks.drop i = wk :: walks.drop (i + 1) := by
          obtain ⟨h1, h2⟩ := List.getElem?_eq_some_iff.mp hi
          rw [List.drop_eq_getElem_cons h1, h2]
        rw [ei] at Mi
        have es : (walks.take (i + 1)).foldl (level ps) (had, []) = level ps ((walks.take i).foldl (level ps) (had, [])) wk := by
          rw [List.take_add_one, hi, List.foldl_append]; rfl
        rw [es] at hNx
        generalize hst : (walks.take i).foldl (level ps) (had, []) = st at Mi mh' ml' hNx
        show tFor _ _ _ _ [some v1, some (.int a), some (.int b), some vw, some (.ref hd), some v, some (.ref pl), o7, none, none] H'
        -- for column in sorted(set(..))
        have hsrc : EvM (tCB (rSortedSet w) (tCons (tCB (CL.rSetL K w) (tCons (tLc (iList K (tVar 0)) (gTup K 2 (gCons (gName 8) (gCons (gName 9) gNil))) (tTest (tOp (rEqD K) (tVar 8) (tOp (rIx K) (tVar 5) (tUn (rU fun i => V.int (-i)) (tC (V.int 1)))))) (tVar 9) [8, 9]) tNil)) tNil))
            [some v1, some (.int a), some (.int b), some vw, some (.ref hd), some v, some (.ref pl), o7, none, none] G' ((ends ps wk.2).map I1) := by
          have hlc := m_lcL (K := K) (te := tVar 9) (tt := tTest (tOp (rEqD K) (tVar 8) (tOp (rIx K) (tVar 5) (tUn (rU fun i => V.int (-i)) (tC (V.int 1)))))) (g := gTup K 2 (gCons (gName 8) (gCons (gName 9) gNil))) (vs := [8, 9])
            (enc := P2) (xs := ps) (σ := [some v1, some (.int a), some (.int b), some vw, some (.ref hd), some v, some (.ref pl), o7, none, none]) (G := G') (tl := tVar 0) (fun p => decide (p.1 = wk.2)) (fun p => .int ((p.2 : Nat) : Int)) (d_var rfl (h1.up g'.g)) (by have := gp.1; omega)
            (fun x u G1 H1 hx e1 e2 hu Q q => g_tup2 hu e2 fun u1 u2 k1 k2 => q _ rfl ((b_test (d_op (d_var rfl k1) (d_op (d_var rfl (hv.up e1)) d_neg1 (r_ixT (atI_last1 _ _ _))) (r_eq rfl rfl))).is (eqv_I1 _ _)) fun _ => d_var rfl k2)
          have hns : ((ps.filter fun p => decide (p.1 = wk.2)).map fun p => PyData.int ((p.2 : Nat) : Int)) = ((ps.filter fun p => decide (p.1 = wk.2)).map fun p => ((p.2 : Nat) : Int)).map PyData.int := by rw [List.map_map]; rfl
          rw [hns] at hlc
          have hss := d_sortset (w := w) (K := K) (m := 6) hlc.toD (hm6 := by decide) (hl := by rw [List.length_map]; have := List.length_filter_le (fun p => decide (p.1 = wk.2)) ps; have := gp.1; omega) (hb := fun c hc => by
            obtain ⟨p, hp, rfl⟩ := List.mem_map.mp hc
            have := (gp.2 p (List.mem_filter.mp hp).1).2
            omega)
          have ee : ((List.range 6).filter fun i => decide (((i : Nat) : Int) ∈ ((ps.filter fun p => decide (p.1 = wk.2)).map fun p => ((p.2 : Nat) : Int)))) = ends ps wk.2 := by
            unfold ends
            refine List.filter_congr fun i _ => ?_
            rw [decide_eq_decide]
            constructor
            · intro hm
              obtain ⟨p, hp, e⟩ := List.mem_map.mp hm
              obtain ⟨p1, p2⟩ := List.mem_filter.mp hp
              have e1 : p.1 = wk.2 := of_decide_eq_true p2
              have e2 : p.2 = i := by omega
              rw [← e1, ← e2]; exact p1
            · intro hm
              exact List.mem_map.mpr ⟨(wk.2, i), List.mem_filter.mpr ⟨hm, decide_eq_true rfl⟩, rfl⟩
          rw [ee] at hss
          exact hss
        have hE : ∀ c ∈ ends ps wk.2, c < 6 ∧ (wk.2, c) ∈ ps := fun c hc => mem_ends.mp hc
        refine s_forL (enc := I1) (xs := ends ps wk.2) hsrc.toD eH' (fun j σ' G'' H'' => ∃ o7, σ' = [some v1, some (.int a), some (.int b), some vw, some (.ref hd), some v, some (.ref pl), o7, none, none] ∧ Grow M0 G H G'' H'' ∧
          ML G'' H'' hd ((((ends ps wk.2).take j).foldl (visit wk) st).1.map I1) ∧ ML G'' H'' pl ((((ends ps wk.2).take j).foldl (visit wk) st).2.map WK)) (fun G1 H1 g1 => ⟨o7, rfl, g'.trans g1, mh'.grow0 g1, ml'.grow0 g1⟩) ?_ ?_
        · rintro j c vc σ' G7 H7 hj eG7 eH7 hvc ⟨o7, rfl, g7, mh7, ml7⟩ Nx2 hNx2
          obtain rfl := hvc.eqI
          have Mj : MI ps a b (wk :: walks.drop (i + 1)) (((ends ps wk.2).take j).foldl (visit wk) st) := fold_MI _ _ Mi fun x hx => hE x (List.mem_of_mem_take hx)
          have ej : ((ends ps wk.2).take (j + 1)).foldl (visit wk) st = visit wk (((ends ps wk.2).take j).foldl (visit wk) st) c := by
            rw [List.take_add_one, hj, List.foldl_append]; rfl
          rw [ej] at hNx2
          generalize hst2 : ((ends ps wk.2).take j).foldl (visit wk) st = st2 at Mj mh7 ml7 hNx2
          show tIfS _ _ _ _ [some v1, some (.int a), some (.int b), some vw, some (.ref hd), some v, some (.ref pl), some (.int c), none, none] H7
          obtain ⟨Gf, ef1, ef2, hdf⟩ := mh7.frz eH7
          have six := Mj.six
          have lls := Mj.ll
          refine s_whenF (b_test (d_op (d_var rfl (.int _)) (d_var rfl hdf) (r_notin (shaped_int _) (lay_map (fun n => lay_int _) _).shaped))) ef1 ef2 ?_ ?_
          · intro hb H8 g8
            have hb' : c ∉ st2.1 := by
              rw [any_eqv eqv_I1] at hb
              intro z
              rw [decide_eq_true z] at hb
              exact absurd hb (by decide)
            refine q_app (v_var rfl) (mh7.grow0 g8) (d_var rfl (.int _)) g8.gh (by rw [List.length_map]; omega) fun G9 H9 g9 mh9 => ?_
            have ml9 := (ml7.grow0 g8).grow g9 hne_l
            have g79 := (g7.trans g8).priv g9 hn0
            refine s_app (v_var rfl) ml9 (d_op (d_var rfl (hv.up (eG7.trans (g8.g.trans g9.g)))) (d_tup (a_cons (d_var rfl (.int _)) a_nil)) (r_catT (by simp) (by simp) ?_)) g9.gh (by rw [List.length_map]; omega) fun G10 H10 g10 ml10 => ?_
            · have := (Mj.w1 wk List.mem_cons_self).2
              simp only [List.length_map, List.length_append, List.length_singleton]
              omega
            · refine hNx2 _ G10 H10 (g8.g.trans (g9.g.trans g10.g)) g10.gh ⟨_, rfl, g79.priv g10 hl0, ?_, ?_⟩
              · have z := mh9.grow g10 (fun z => hne_l z.symm)
                unfold visit
                rw [if_neg hb']
                show ML G10 H10 hd ((st2.1 ++ [c]).map I1)
                rw [List.map_append]
                exact z
              · unfold visit
                rw [if_neg hb']
                show ML G10 H10 pl ((st2.2 ++ [(wk.1 ++ [wk.2], c)]).map WK)
                rw [List.map_append]
                have e : [(wk.1 ++ [wk.2], c)].map WK = [PyData.tuple ((wk.1 ++ [wk.2]).map I1 ++ [PyData.int c])] := by
                  show [PyData.tuple ((wk.1 ++ [wk.2] ++ [c]).map I1)] = _
                  rw [List.map_append (l₁ := wk.1 ++ [wk.2])]; rfl
                rw [e]
                exact ml10
          · intro hb H8 g8
            have hb' : c ∈ st2.1 := by
              rw [any_eqv eqv_I1] at hb
              by_cases z : c ∈ st2.1
              · exact z
              · rw [decide_eq_false z] at hb
                exact absurd hb (by decide)
            refine hNx2 _ G7 H8 (Ex.refl _) g8.gh ⟨_, rfl, g7.trans g8, ?_, ?_⟩
            · unfold visit; rw [if_pos hb']; exact mh7.grow0 g8
            · unfold visit; rw [if_pos hb']; exact ml7.grow0 g8
        · rintro σ' G7 H7 eG7 eH7 ⟨o7, rfl, g7, mh7, ml7⟩
          rw [List.take_length] at mh7 ml7
          exact hNx _ G7 H7 eG7 eH7 ⟨some v, o7, rfl, g7, mh7, ml7⟩
      · rintro σ' G6 H6 eG6 eH6 ⟨o5, o7, rfl, g6, mh6, ml6⟩
        rw [List.take_length] at mh6 ml6
        -- walks = longer
        have Mf : MI ps a b [] (walks.foldl (level ps) (had, [])) := levels_MI gp.2 _ _ _ (by rw [List.append_nil]; exact M) hno
        have hlen := levels_len ps walks (had, [])
        obtain ⟨G7, g7, e67, hl7, oth⟩ := ml6.fin g6 hl0
        have mh7 := oth hd _ (fun z => hne_l z.symm) mh6
        refine s_asg (d_var rfl hl7) g7.gh fun v G8 H8 g8 hv8 => hN _ _ G8 H8 ?_ ⟨v, o5, some (.ref pl), o7, _, _, rfl, g7.trans g8, hv8, mh7.grow0 g8, Mf.turn, rfl⟩
        have six := Mf.six
        rw [if_neg hne']
        by_cases hz : (walks.foldl (level ps) (had, [])).2 = []
        · rw [if_pos hz]
          rw [hz] at hlen
          simp only [List.length_nil] at hlen
          omega
        · rw [if_neg hz]
          have := List.length_pos_iff.mpr hz
          simp only [List.length_nil] at hlen
          omega
  · intro hno G2 H2 g2
    have e : walks = [] := by
      rw [eqv_nil] at hno
      cases walks with
      | nil => rfl
      | cons x xs => simp at hno
    subst e
    exact s_ret d_non g2.gh fun v G3 H3 g3 hv => k v .none G3 H3 (.inr ⟨M.none, rfl⟩) ((g.trans g2).trans g3) hv
/-! ### leads, downs, ring_of, arrows, follows -/
abbrev SQ : List PyData → PyData := PyData.tuple
def GoodRs (rs : List Ru) : Prop := rs.length ≤ 200 ∧ ∀ r ∈ rs, r.2.1 < 6 ∧ r.2.2 < 6
theorem good_downs {rs : List Ru} (h : GoodRs rs) : GoodPs (downsM rs) := by
  refine ⟨by unfold downsM; rw [List.length_map]; have := h.1; omega, fun p hp => ?_⟩
  obtain ⟨r, hr, rfl⟩ := List.mem_map.mp hp
  have := h.2 r hr
  unfold downM
  split
  · exact this
  · exact ⟨this.2, this.1⟩
theorem good_arrows {rs : List Ru} (h : GoodRs rs) (k : Bool) : GoodPs (arrowsM rs k) := by
  refine ⟨by unfold arrowsM; have := flat_len rs k rs; have := h.1; omega, fun p hp => ?_⟩
  obtain ⟨r, hr, hp⟩ := List.mem_flatMap.mp hp
  have := h.2 r hr
  rcases arrow1_mem hp with e | e
  · rw [e]; exact this
  · rw [e]; exact ⟨this.2, this.1⟩
def R_leads : List PyData → (PyData → Prop) → Prop := fun ds S => ∃ (ps : List (Nat × Nat)) (a b : Nat), ds = [.list (ps.map P2), I1 a, I1 b] ∧ GoodPs ps ∧ a < 6 ∧ b < 6 ∧ S = fun d => d = .bool (reachB ps a b)
/-- e is not None, e an answer of shortest -/
theorem d_notnone {σ : VSt} {G : Hp} {te : TE} {ps : List (Nat × Nat)} {a b : Nat} (h : EvS te σ G fun d => (Reach ps a b ∧ ∃ w : Wk, d = WK w) ∨ (¬ Reach ps a b ∧ d = .none)) :
    EvD (tOp (fun x y H Q => y = .non ∧ Q (.bl (!decide (x = .non))) H) te (tC .non)) σ G (.bool (reachB ps a b)) := .mk fun G1 H1 e1 e2 Q q =>
  h G1 H1 e1 e2 _ fun v d G2 H2 hS g2 hv => ⟨rfl, by
    rcases hS with ⟨hr, w, rfl⟩ | ⟨hr, rfl⟩
    · obtain ⟨p, xs, rfl, _⟩ := hv.eqT
      rw [reachB_iff.mpr hr] at q
      exact q _ G2 H2 g2 (.bl true)
    · obtain rfl := hv.eqN
      rw [reachB_not.mpr hr] at q
      exact q _ G2 H2 g2 (.bl false)⟩
theorem sc_leads : FnScope ["pairs", "a", "b"] ["pairs", "a", "b"] (defScope s_leads) := ⟨rfl, rfl, rfl, by decide +kernel, rfl, by decide +kernel, by decide +kernel⟩
theorem ok_leads {f : Addr} {fd : FuncData} (F : Fun K "leads" "leads" s_leads f fd) (T : Txt Z K mg) (F_shortest : Fn1 P w K mg base "shortest" 1 (spR R_shortest)) : FnOk P w K mg base CX0 2 f fd ["pairs", "a", "b"] (spR R_leads) := by
  refine F.ok sc_leads (fun vs H Q E h => spR_len (n := 3) (fun ds S ⟨ps, a, b, e, _⟩ => by rw [e]; rfl) h) (fun cdv A outer s H vs Q E hr h => ?_)
  obtain ⟨G, ds, S, ⟨ps, a, b, rfl, gp, ha, hb, rfl⟩, eG, hd, k⟩ := h
  obtain ⟨v1, r, rfl, h1, hd⟩ := hd.inv
  obtain ⟨v2, r, rfl, h2, hd⟩ := hd.inv
  obtain ⟨v3, r, rfl, h3, hd⟩ := hd.inv
  obtain rfl := hd.inv0
  have nd := sc_leads.nd
  refine ⟨_, (pss_one (ps_ret (pe_cmpR op_notN (pe_fn F_shortest (hr.mono (by decide)) rfl (pa_cons (pv 0) (pa_cons (pv 1) (pa_cons (pv 2) pa_nil)))) pe_non (nomark _)))), ?_⟩
  show tRet _ _ [some v1, some v2, some v3] H
  exact s_ret (d_notnone (s_call (a_cons (d_var rfl h1) (a_cons (d_var rfl h2) (a_cons (d_var rfl h3) a_nil))) ⟨ps, a, b, rfl, gp, ha, hb, rfl⟩)) eG fun v G2 H2 g hv => k v _ G2 H2 rfl g hv
def R_downs : List PyData → (PyData → Prop) → Prop := fun ds S => ∃ (rs : List Ru), ds = [SQ (rs.map RU)] ∧ GoodRs rs ∧ S = fun d => d = .list ((downsM rs).map P2)
theorem sc_downs : FnScope ["rules", "kind", "a", "b"] ["rules"] (defScope s_downs) := ⟨rfl, rfl, rfl, by decide +kernel, rfl, by decide +kernel, by decide +kernel⟩
theorem ok_downs {f : Addr} {fd : FuncData} (F : Fun K "downs" "downs" s_downs f fd) (T : Txt Z K mg) : FnOk P w K mg base CX0 1 f fd ["rules"] (spR R_downs) := by
  refine F.ok sc_downs (fun vs H Q E h => spR_len (n := 1) (fun ds S ⟨rs, e, _⟩ => by rw [e]; rfl) h) (fun cdv A outer s H vs Q E hr h => ?_)
  obtain ⟨G, ds, S, ⟨rs, rfl, gr, rfl⟩, eG, hd, k⟩ := h
  obtain ⟨v1, r, rfl, h1, hd⟩ := hd.inv
  obtain rfl := hd.inv0
  have nd := sc_downs.nd
  refine ⟨_, (pss_one (ps_ret (pe_lc (own := [("kind", 1), ("a", 2), ("b", 3)]) (by rfl) nd (piTupK K (pv 0)) (blkOk_by (own := [("kind", 1), ("a", 2), ("b", 3)]) (N := ["rules", "kind", "a", "b"]) (sc := (defScope s_downs)) (by decide +kernel)) (fun _ _ _ _ _ => (pgTupK K (n := 3) (pgs_cons (pgN 1 nd) (pgs_cons (pgN 2 nd) (pgs_cons (pgN 3 nd) pgs_nil))))) (fun _ _ _ _ _ => pts_nil) (fun _ _ _ _ _ => (pe_ifExp (pt_cmpR (eqDK K (h64 hr)) (pv 1) (pe_glob (v := .str "settles") rfl T.c_SETTLES ⟨_, rfl⟩) (nomark _)) (pe_tup (pa_cons (pv 2) (pa_cons (pv 3) pa_nil))) (pe_tup (pa_cons (pv 3) (pa_cons (pv 2) pa_nil)))))))), ?_⟩
  show tRet _ _ [some v1, none, none, none] H
  refine s_ret (d := .list ((downsM rs).map P2)) ?_ eG fun v G2 H2 g hv => k v _ G2 H2 rfl g hv
  have z := m_lcT (K := K) (vs := [1, 2, 3]) (enc := RU) (xs := rs) (fun _ => true) (fun r => P2 (downM r)) (d_var (σ := [some v1, none, none, none]) (i := 0) rfl h1) (by have := gr.1; omega)
    (tt := tYes) (g := gTup K 3 (gCons (gName 1) (gCons (gName 2) (gCons (gName 3) gNil)))) (te := tIf (tTest (tOp (rEqD K) (tVar 1) (tC (.str "settles")))) (tTup (tCons (tVar 2) (tCons (tVar 3) tNil))) (tTup (tCons (tVar 3) (tCons (tVar 2) tNil))))
    (fun x u G1 H1 hx e1 e2 hu Q q => g_tup3 hu e2 fun u1 u2 u3 k1 k2 k3 => q _ rfl (fun G1 H1 _ e2 Q q => q G1 H1 (Grow.refl e2)) fun _ => by
      refine (d_if (b_test (d_op (d_var rfl k1) d_str (r_eq (shaped_kd _) (shaped_kd true)))) (fun _ => d_tup (a_cons (d_var rfl k2) (a_cons (d_var rfl k3) a_nil))) fun _ => d_tup (a_cons (d_var rfl k3) (a_cons (d_var rfl k2) a_nil))).is ?_
      obtain ⟨k, a, b⟩ := x
      cases k
      · exact if_neg (by rw [eqv_str]; exact (by decide +kernel : ¬ decide (kd false = kd true) = true))
      · exact if_pos (by rw [eqv_str]; exact (by decide +kernel : decide (kd true = kd true) = true)))
  have e : (rs.filter fun _ => true).map (fun r => P2 (downM r)) = (downsM rs).map P2 := by
    unfold downsM
    rw [List.filter_eq_self.mpr fun _ _ => rfl, List.map_map]; rfl
  rw [e] at z
  exact z.toD
def R_ring : List PyData → (PyData → Prop) → Prop := fun ds S => ∃ (rs : List Ru) (k : Bool) (a b : Nat), ds = [SQ (rs.map RU), .str (kd k), I1 a, I1 b] ∧ GoodRs rs ∧ a < 6 ∧ b < 6 ∧
  S = fun d => (Reach (downsM rs) (if k = true then a else b) (if k = true then b else a) ∧ ∃ w : Wk, d = WK w) ∨ (¬ Reach (downsM rs) (if k = true then a else b) (if k = true then b else a) ∧ d = .none)
theorem sc_ring_of : FnScope ["rules", "kind", "a", "b"] ["rules", "kind", "a", "b"] (defScope s_ring_of) := ⟨rfl, rfl, rfl, by decide +kernel, rfl, by decide +kernel, by decide +kernel⟩
theorem ok_ring_of {f : Addr} {fd : FuncData} (F : Fun K "ring_of" "ring_of" s_ring_of f fd) (T : Txt Z K mg) (F_shortest : Fn1 P w K mg base "shortest" 1 (spR R_shortest)) (F_downs : Fn1 P w K mg base "downs" 1 (spR R_downs)) : FnOk P w K mg base CX0 2 f fd ["rules", "kind", "a", "b"] (spR R_ring) := by
  refine F.ok sc_ring_of (fun vs H Q E h => spR_len (n := 4) (fun ds S ⟨rs, k, a, b, e, _⟩ => by rw [e]; rfl) h) (fun cdv A outer s H vs Q E hr h => ?_)
  obtain ⟨G, ds, S, ⟨rs, kk, a, b, rfl, gr, ha, hb, rfl⟩, eG, hd, k⟩ := h
  obtain ⟨v1, r, rfl, h1, hd⟩ := hd.inv
  obtain ⟨v2, r, rfl, h2, hd⟩ := hd.inv
  obtain ⟨v3, r, rfl, h3, hd⟩ := hd.inv
  obtain ⟨v4, r, rfl, h4, hd⟩ := hd.inv
  obtain rfl := hd.inv0
  have nd := sc_ring_of.nd
  refine ⟨_, (pss_one (ps_ret (pe_ifExp (pt_cmpR (eqDK K (h64 hr)) (pv 1) (pe_glob (v := .str "settles") rfl T.c_SETTLES ⟨_, rfl⟩) (nomark _)) (pe_fn F_shortest (hr.mono (by decide)) rfl (pa_cons (pe_fn F_downs (hr.mono (by decide)) rfl (pa_cons (pv 0) pa_nil)) (pa_cons (pv 2) (pa_cons (pv 3) pa_nil)))) (pe_fn F_shortest (hr.mono (by decide)) rfl (pa_cons (pe_fn F_downs (hr.mono (by decide)) rfl (pa_cons (pv 0) pa_nil)) (pa_cons (pv 3) (pa_cons (pv 2) pa_nil))))))), ?_⟩
  show tRet _ _ [some v1, some v2, some v3, some v4] H
  refine s_retS ?_ eG k
  have hdn : EvD (tCall (spR R_downs) [] E0 (tCons (tVar 0) tNil)) [some v1, some v2, some v3, some v4] G (.list ((downsM rs).map P2)) := d_call (a_cons (d_var rfl h1) a_nil) ⟨rs, rfl, gr, rfl⟩
  refine s_if (b_test (d_op (d_var rfl h2) d_str (r_eq (shaped_kd _) (shaped_kd true)))) (fun hb' => ?_) fun hb' => ?_
  · have e : kk = true := by
      rw [eqv_str] at hb'
      exact kd_inj (of_decide_eq_true hb')
    subst e
    exact s_call (a_cons hdn (a_cons (d_var rfl h3) (a_cons (d_var rfl h4) a_nil))) ⟨_, a, b, rfl, good_downs gr, ha, hb, rfl⟩
  · have e : kk = false := by
      rw [eqv_str] at hb'
      cases kk
      · rfl
      · exact absurd rfl (of_decide_eq_false hb')
    subst e
    exact s_call (a_cons hdn (a_cons (d_var rfl h4) (a_cons (d_var rfl h3) a_nil))) ⟨_, b, a, rfl, good_downs gr, hb, ha, rfl⟩
def R_arrows : List PyData → (PyData → Prop) → Prop := fun ds S => ∃ (rs : List Ru) (k : Bool), ds = [SQ (rs.map RU), .str (kd k)] ∧ GoodRs rs ∧ S = fun d => d = .list ((arrowsM rs k).map P2)
theorem sc_arrows : FnScope ["rules", "kind", "found", "other", "a", "b"] ["rules", "kind"] (defScope s_arrows) := ⟨rfl, rfl, rfl, by decide +kernel, rfl, by decide +kernel, by decide +kernel⟩
theorem ok_arrows {f : Addr} {fd : FuncData} (F : Fun K "arrows" "arrows" s_arrows f fd) (T : Txt Z K mg) (F_ring_of : Fn1 P w K mg base "ring_of" 2 (spR R_ring)) : FnOk P w K mg base CX0 3 f fd ["rules", "kind"] (spR R_arrows) := by
  refine F.ok sc_arrows (fun vs H Q E h => spR_len (n := 2) (fun ds S ⟨rs, k, e, _⟩ => by rw [e]; rfl) h) (fun cdv A outer s H vs Q E hr h => ?_)
  obtain ⟨G, ds, S, ⟨rs, kk, rfl, gr, rfl⟩, eG, hd, k⟩ := h
  obtain ⟨v1, r, rfl, h1, hd⟩ := hd.inv
  obtain ⟨v2, r, rfl, h2, hd⟩ := hd.inv
  obtain rfl := hd.inv0
  obtain rfl := h2.eqS
  have nd := sc_arrows.nd
  refine ⟨_, (pss_cons (ps_set (i := 2) nd rfl (by first | exact Or.inl rfl | exact Or.inr rfl) (pe_lst pa_nil))
    (pss_cons (ps_for PassesOwn.never rfl (piTupK K (pv 0)) (pgTupK K (n := 3) (pgs_cons (pgN 3 nd) (pgs_cons (pgN 4 nd) (pgs_cons (pgN 5 nd) pgs_nil))))
    (pss_one (ps_if (pt_cmpR (eqDK K (h64 hr)) (pv 3) (pv 1) (nomark _)) (pss_cons (ps_expr (pe_bm PySem.F.plainAttrs_list PySem.F.slot_list_append PySem.F.type_list_append mt_append (pv 2) (pa_cons (pe_tup (pa_cons (pv 4) (pa_cons (pv 5) pa_nil))) pa_nil)))
    (pss_one (ps_if (pt_cmpR op_notN (pe_fn F_ring_of (hr.mono (by decide)) rfl (pa_cons (pv 0) (pa_cons (pv 1) (pa_cons (pv 5) (pa_cons (pv 4) pa_nil))))) pe_non (nomark _)) (pss_one (ps_expr (pe_bm PySem.F.plainAttrs_list PySem.F.slot_list_append PySem.F.type_list_append mt_append (pv 2) (pa_cons (pe_tup (pa_cons (pv 5) (pa_cons (pv 4) pa_nil))) pa_nil)))) pss_nil))) pss_nil)))
    (pss_one (ps_ret (pv 2))))), ?_⟩
  show tSeq _ _ _ [some v1, some (.str (kd kk)), none, none, none, none] H
  refine q_asgM (m_lst a_nil) eG fun pf G1 H1 hn g1 mf => ?_
  refine q_forT (enc := RU) (xs := rs) (d_var rfl (h1.up g1.g)) g1.gh (fun i σ' G' H' => ∃ o3 o4 o5, σ' = [some v1, some (.str (kd kk)), some (.ref pf), o3, o4, o5] ∧ Grow M0 G H G' H' ∧ ML G' H' pf (((rs.take i).flatMap (arrow1 rs kk)).map P2))
    (fun G2 H2 g2 => ⟨none, none, none, rfl, g1.trans g2, mf.grow0 g2⟩) ?_ ?_
  · rintro i r v σ' G2 H2 hi eG2 eH2 hv ⟨o3, o4, o5, rfl, g2, m2⟩ Nx hNx
    have hrr := gr.2 r (List.mem_of_getElem? hi)
    have hrl := gr.1
    have hlen : (((rs.take i).flatMap (arrow1 rs kk)).map P2).length ≤ 400 := by
      rw [List.length_map]
      have := flat_len rs kk (rs.take i)
      have := List.length_take_le i rs
      have := List.length_take_le' i rs
      omega
    have es : (rs.take (i + 1)).flatMap (arrow1 rs kk) = (rs.take i).flatMap (arrow1 rs kk) ++ arrow1 rs kk r := by
      rw [List.take_add_one, hi, List.flatMap_append]
      show _ ++ [r].flatMap _ = _
      rw [List.flatMap_singleton]
    rw [es] at hNx
    refine g_tup3 hv eH2 fun u1 u2 u3 k1 k2 k3 => ?_
    show tIfS _ _ _ _ [some v1, some (.str (kd kk)), some (.ref pf), some u1, some u2, some u3] H2
    refine s_when (b_test (d_op (d_var rfl k1) (d_var rfl (.str _)) (r_eq (shaped_kd _) (shaped_kd _)))) eH2 ?_ ?_
    · intro hb G3 H3 g3
      have ek : r.1 = kk := kd_inj (by rw [eqv_str] at hb; exact of_decide_eq_true hb)
      refine q_app (v_var rfl) (m2.grow0 g3) (d := P2 (r.2.1, r.2.2)) (d_tup (a_cons (d_var rfl (k2.up g3.g)) (a_cons (d_var rfl (k3.up g3.g)) a_nil))) g3.gh (by omega) fun G4 H4 g4 m4 => ?_
      have g34 := (g2.trans g3).priv g4 hn
      have eG4 := g3.g.trans g4.g
      have hring := s_call (E := E0) (R := R_ring) (a_cons (d_var (σ := [some v1, some (.str (kd kk)), some (.ref pf), some u1, some u2, some u3]) (i := 0) rfl (h1.up (g2.g.trans eG4))) (a_cons (d_var (i := 1) rfl (.str (kd kk))) (a_cons (d_var (i := 5) rfl (k3.up eG4)) (a_cons (d_var (i := 4) rfl (k2.up eG4)) a_nil))))
        ⟨rs, kk, r.2.2, r.2.1, rfl, gr, hrr.2, hrr.1, rfl⟩
      refine s_when (b_test (d_notnone hring)) g4.gh ?_ ?_
      · intro hb2 G5 H5 g5
        refine s_app (v_var rfl) (m4.grow0 g5) (d := P2 (r.2.2, r.2.1)) (d_tup (a_cons (d_var rfl (k3.up (eG4.trans g5.g))) (a_cons (d_var rfl (k2.up (eG4.trans g5.g))) a_nil))) g5.gh (by rw [List.length_append]; simp only [List.length_cons, List.length_nil]; omega) fun G6 H6 g6 m6 => ?_
        refine hNx _ G6 H6 (eG4.trans (g5.g.trans g6.g)) g6.gh ⟨_, _, _, rfl, (g34.trans g5).priv g6 hn, ?_⟩
        have e1 : arrow1 rs kk r = [(r.2.1, r.2.2), (r.2.2, r.2.1)] := by
          unfold arrow1
          rw [if_pos ek, if_pos (show backB rs kk r = true from hb2)]
        rw [e1, List.map_append]
        rw [List.append_assoc] at m6
        exact m6
      · intro hb2 G5 H5 g5
        refine hNx _ G5 H5 (eG4.trans g5.g) g5.gh ⟨_, _, _, rfl, g34.trans g5, ?_⟩
        have e1 : arrow1 rs kk r = [(r.2.1, r.2.2)] := by
          unfold arrow1
          rw [if_pos ek, if_neg (by rw [show backB rs kk r = false from hb2]; decide)]
        rw [e1, List.map_append]
        exact m4.grow0 g5
    · intro hb G3 H3 g3
      have ek : ¬ r.1 = kk := fun z => by
        rw [eqv_str, z] at hb
        exact absurd rfl (of_decide_eq_false hb)
      refine hNx _ G3 H3 g3.g g3.gh ⟨_, _, _, rfl, g2.trans g3, ?_⟩
      have e1 : arrow1 rs kk r = [] := by
        unfold arrow1
        rw [if_neg ek]
      rw [e1, List.append_nil]
      exact m2.grow0 g3
  · rintro σ' G2 H2 eG2 eH2 ⟨o3, o4, o5, rfl, g2, m2⟩
    rw [List.take_length] at m2
    obtain ⟨G3, g3, _, hd3, _⟩ := m2.fin g2 hn
    exact s_ret (d_var rfl hd3) g3.gh fun v G4 H4 g4 hv => k v _ G4 H4 rfl (g3.trans g4) hv
def R_follows : List PyData → (PyData → Prop) → Prop := fun ds S => ∃ (rs : List Ru) (r : Ru), ds = [SQ (rs.map RU), RU r] ∧ GoodRs rs ∧ r.2.1 < 6 ∧ r.2.2 < 6 ∧ S = fun d => d = .bool (followsM rs r)
theorem sc_follows : FnScope ["rules", "rule", "kind", "a", "b"] ["rules", "rule"] (defScope s_follows) := ⟨rfl, rfl, rfl, by decide +kernel, rfl, by decide +kernel, by decide +kernel⟩
theorem ok_follows {f : Addr} {fd : FuncData} (F : Fun K "follows" "follows" s_follows f fd) (T : Txt Z K mg) (F_leads : Fn1 P w K mg base "leads" 2 (spR R_leads)) (F_arrows : Fn1 P w K mg base "arrows" 3 (spR R_arrows)) : FnOk P w K mg base CX0 4 f fd ["rules", "rule"] (spR R_follows) := by
  refine F.ok sc_follows (fun vs H Q E h => spR_len (n := 2) (fun ds S ⟨rs, r, e, _⟩ => by rw [e]; rfl) h) (fun cdv A outer s H vs Q E hr h => ?_)
  obtain ⟨G, ds, S, ⟨rs, ru, rfl, gr, ha, hb, rfl⟩, eG, hd, k⟩ := h
  obtain ⟨v1, r, rfl, h1, hd⟩ := hd.inv
  obtain ⟨v2, r, rfl, h2, hd⟩ := hd.inv
  obtain rfl := hd.inv0
  have nd := sc_follows.nd
  refine ⟨_, (pss_cons (ps_asg (pv 1) (pgTupK K (n := 3) (pgs_cons (pgN 2 nd) (pgs_cons (pgN 3 nd) (pgs_cons (pgN 4 nd) pgs_nil)))))
    (pss_one (ps_ret (pe_fn F_leads (hr.mono (by decide)) rfl (pa_cons (pe_fn F_arrows (hr.mono (by decide)) rfl (pa_cons (pv 0) (pa_cons (pv 2) pa_nil))) (pa_cons (pv 3) (pa_cons (pv 4) pa_nil))))))), ?_⟩
  show tSeq _ _ _ [some v1, some v2, none, none, none] H
  refine q_asgG (d_var rfl h2) eG fun v G1 H1 g1 hv => ?_
  refine g_tup3 hv g1.gh fun u1 u2 u3 k1 k2 k3 => ?_
  show tRet _ _ [some v1, some v2, some u1, some u2, some u3] H1
  have harr := d_call (E := E0) (R := R_arrows) (a_cons (d_var (σ := [some v1, some v2, some u1, some u2, some u3]) (i := 0) rfl (h1.up g1.g)) (a_cons (d_var (i := 2) rfl k1) a_nil)) ⟨rs, ru.1, rfl, gr, rfl⟩
  exact s_ret (d_call (a_cons harr (a_cons (d_var rfl k2) (a_cons (d_var rfl k3) a_nil))) ⟨_, _, _, rfl, good_arrows gr _, ha, hb, rfl⟩) g1.gh fun v G2 H2 g hv => k v _ G2 H2 rfl (g1.trans g) hv
end
end CP
set_option Elab.async false
set_option linter.all false
set_option maxRecDepth 100000
set_option maxHeartbeats 4000000
/-! Lambdas that are kept as values: made, tracked, called from another frame. -/
namespace LM
open PySem PySem.Spec PyProof.Rows L2 LamX NdefX
abbrev lamD (F : NF) (e : Expr) (pm ctv : Value) : FuncData := PySem.W.kla_fn "<lambda>" F.qual F.params e F.scope F.cl pm (.ref F.c) ctv
/-- the object at f is the lambda F with the body e -/
def LamO (f : Addr) (F : NF) (e : Expr) : HO := .ext fun h => ∃ (od : Option Addr) (sl : Array (Option Value)) (pm ctv : Value), h.get? f = some (⟨.type "function", od, .func (lamD F e pm ctv), sl⟩ : Obj)
/-- the cell at c holds v -/
def CellO (c : Addr) (v : V) : HO := .ext fun h => ∃ u, L2.RelV v u ∧ h.IsCell c (some u)
section
variable {P : Program} {w : World} {H : Hp} {h : Heap}
theorem lamO_at {f : Addr} {F : NF} {e : Expr} (hok : HOk P w H h) (q : H f = some (LamO f F e)) : ∃ (od : Option Addr) (sl : Array (Option Value)) (pm ctv : Value), h.get? f = some (⟨.type "function", od, .func (lamD F e pm ctv), sl⟩ : Obj) := (hok f _ q).1
theorem cellO_at {c : Addr} {v : V} (hok : HOk P w H h) (q : H c = some (CellO c v)) : ∃ u, L2.RelV v u ∧ h.IsCell c (some u) := (hok c _ q).1
end
section
variable {X : Cx} {pins : List (Addr × Obj)} {σ : L2.St} {H : Hp} {s : Shared}
theorem lam_push {F : NF} {e : Expr} {o : Obj} {tk : Nat} {pm ctv : Value} (I : Inv X pins σ H s) (ho : o = { cls := .type "function", data := .func (lamD F e pm ctv) }) :
    Inv X pins σ (upd H s.heap.objs.size (LamO s.heap.objs.size F e)) { s with heap := s.heap.push o, toks := tk } := by
  subst ho
  have at_ : (s.heap.push ({ cls := .type "function", data := .func (lamD F e pm ctv) } : Obj)).get? s.heap.objs.size = some ({ cls := .type "function", data := .func (lamD F e pm ctv) } : Obj) := Heap.get?_push_size _ rfl
  exact I.laid (a := s.heap.objs.size) (fun _ _ q => Heap.get?_push_of_some _ q) (Nat.le_refl _) ⟨⟨_, _, pm, ctv, at_⟩, ⟨_, at_⟩, fun g1 g2 ⟨od, sl, p, t, z⟩ st => ⟨od, sl, p, t, st _ z⟩⟩
theorem lam_new {T : List (Addr × Str)} {c P : Addr} {params : Arguments} {body : Expr} {scope : Scope} {pos : Pos} {E Q : Value → Shared → Prop} (I : Inv X pins σ H s) (TB : TabB X.base X.mg c P) (hcode : X.env.code = .ref c) (hm : (P, X.env.qual ++ "<lambda>") ∈ T)
    (hu : ∀ p ∈ T, p.1 = P → p.2 = X.env.qual ++ "<lambda>") (hT : Tabs T H) (hdef : defaultsOf params X.env = ([], [])) (hfree : ∀ y ∈ scope.names, y.2 = .free → ∃ c, X.env.cells.lookup y.1 = some c)
    (k : ∀ (f c' : Addr) (H1 : Hp) (s' : Shared), Inv X pins σ H1 s' → (∀ b o, H b = some o → b ≠ P → H1 b = some o) → Tabs T H1 → H f = none → H1 f = some (LamO f ⟨"<lambda>", X.env.qual ++ "<lambda>", params, [], scope, cloFrom X.env.cells scope.names [], c'⟩ body) →
      H1 c' = some (CodeO c' (X.env.qual ++ "<lambda>")) → Q (.ref f) s') : wpAny (model X.prog X.w) X.A (eval (.Lambda params body scope pos) X.env) Q E s := by
  obtain ⟨ps, hP, ht, ha⟩ := hT _ hm
  refine PySem.W.kla_eval hdef ?_
  have bP := TB.bm.keeps I.bk
  have hP' : s.heap.get? P = some { cls := .none, data := .fields ps } := I.hok P _ hP
  cases hc : codeAmong pos ps.toList with
  | some cv =>
    obtain ⟨c', rfl, hco⟩ := ha pos cv hc
    refine PySem.W.kla_makeFunctionHit (mg := X.mg) (c := c) (P := P) (ps := ps) (closure_ok hfree) I.ok.glob (I.mod.glob.keeps I.bk) hcode (TB.code.keeps I.bk) hP' ht hc bP fun ctv h' tk hx hsz => ?_
    have J : Inv X pins σ H { s with heap := h', toks := tk } := I.kept hx
    have nF : H h'.objs.size = none := J.hok.fresh (Nat.le_refl _)
    have grow : ∀ {b : Addr} {o u : HO}, H b = some o → upd H h'.objs.size u b = some o := fun {b o u} q => (upd_ne (ne_of_none q nF)).trans q
    exact k _ c' _ _ (lam_push (tk := tk) (pm := (X.mg "__name__").getD .none) (ctv := ctv) J rfl) (fun b o q _ => grow q) (hT.ext fun b o q => grow q) nF upd_same (grow hco)
  | none =>
    refine PySem.W.kla_makeFunction (mg := X.mg) (c := c) (P := P) (ps := ps) (closure_ok hfree) I.ok.glob (I.mod.glob.keeps I.bk) hcode (TB.code.keeps I.bk) hP' ht hc TB.gP bP fun c' ctv h' tk hx hge hlt hrec htb => ?_
    obtain ⟨c2, oc, vs, t, e2, hoc, hd, hv⟩ := hrec
    cases e2
    have nC : H c' = none := I.hok.fresh hge
    have J := inv_table (t' := tk) (more := #[rawInt pos.line, rawInt pos.col, .ref c']) (h' := h') I hP (fun b o hb q => hx b o hb q) htb hge ⟨oc, vs, t, hoc, hd, hv⟩
    generalize hH1 : upd (upd H P (.tbl (ps ++ #[rawInt pos.line, rawInt pos.col, .ref c']))) c' (CodeO c' (X.env.qual ++ "<lambda>")) = H1 at J
    have atC : H1 c' = some (CodeO c' (X.env.qual ++ "<lambda>")) := by rw [← hH1]; exact upd_same
    have atP : H1 P = some (.tbl (ps ++ #[rawInt pos.line, rawInt pos.col, .ref c'])) := by rw [← hH1, upd_ne (ne_of_none hP nC)]; exact upd_same
    have at2 : ∀ b o, H b = some o → b ≠ P → H1 b = some o := fun b o q n => by rw [← hH1, upd_ne (ne_of_none q nC), upd_ne n]; exact q
    have eN : ExtN H H1 := fun b o q n => at2 b o q fun z => n ps (by rw [z, hP] at q; exact (Option.some.inj q).symm)
    have T1 : Tabs T H1 := fun p hp => by
      by_cases hb : p.1 = P
      · rw [hu p hp hb, hb]
        refine ⟨_, atP, ?_, fun p' cv hcv => ?_⟩
        · rw [Array.toList_append]
          exact PySem.TriplesOk_snoc _ _ _ _ ht
        · rw [Array.toList_append] at hcv
          rcases among_app _ ht hcv with z | z
          · obtain ⟨c0, e1, e3⟩ := ha p' cv z
            exact ⟨c0, e1, eN _ _ e3 codeO_ne⟩
          · exact ⟨c', z, atC⟩
      · obtain ⟨ps', a1, a2, a3⟩ := hT p hp
        exact ⟨ps', at2 _ _ a1 hb, a2, fun p' cv hcv => let ⟨c0, e1, e3⟩ := a3 p' cv hcv; ⟨c0, e1, eN _ _ e3 codeO_ne⟩⟩
    have nF1 : H1 h'.objs.size = none := J.hok.fresh (Nat.le_refl _)
    have nF : H h'.objs.size = none := I.hok.fresh (Nat.le_trans hge (Nat.le_of_lt hlt))
    have grow : ∀ {b : Addr} {o u : HO}, H1 b = some o → upd H1 h'.objs.size u b = some o := fun {b o u} q => (upd_ne (ne_of_none q nF1)).trans q
    exact k _ c' _ _ (lam_push (tk := tk) (pm := (X.mg "__name__").getD .none) (ctv := ctv) J rfl) (fun b o q n => grow (at2 b o q n)) (T1.ext fun b o q => grow q) nF upd_same (grow atC)
end
/-- the reading of a lambda that is kept -/
def tLamK (P : Addr) (T : List (Addr × Str)) (mk : Addr → NF) (body : Expr) : TE := fun σ H Q => Tabs T H ∧ ∀ (f c' : Addr) (H1 : Hp), (∀ b o, H b = some o → b ≠ P → H1 b = some o) → Tabs T H1 → H f = none → H1 f = some (LamO f (mk c') body) → H1 c' = some (CodeO c' (mk c').qual) → Q (.ref f) H1
abbrev mkL (X : Cx) (params : Arguments) (scope : Scope) (c' : Addr) : NF := ⟨"<lambda>", X.env.qual ++ "<lambda>", params, [], scope, cloFrom X.env.cells scope.names [], c'⟩
theorem pe_lamK {X : Cx} {T : List (Addr × Str)} {c P : Addr} {params : Arguments} {body : Expr} {scope : Scope} {pos : Pos} (TB : TabB X.base X.mg c P) (hcode : X.env.code = .ref c) (hm : (P, X.env.qual ++ "<lambda>") ∈ T) (hu : ∀ p ∈ T, p.1 = P → p.2 = X.env.qual ++ "<lambda>")
    (hfree : ∀ y ∈ scope.names, y.2 = .free → X.env.scope.names.lookup y.1 = some .cell ∨ X.env.scope.names.lookup y.1 = some .free) (hdef : defaultsOf params X.env = ([], []) := by rfl) : PE X (.Lambda params body scope pos) (tLamK P T (mkL X params scope) body) := by
  refine ⟨fun pins s σ H Q I ⟨hT, h⟩ => ?_⟩
  refine lam_new I TB hcode hm hu hT hdef (fun y hy e => (hfree y hy e).elim (fun z => I.ok.has _ (.inl z)) fun z => I.ok.has _ (.inr z)) fun f c' H1 s' J e1 t1 n1 f1 c1 => ?_
  exact ⟨.ref f, H1, J, rfl, h f c' H1 e1 t1 n1 f1 c1⟩
/-! ### cells that are known, left out for a while -/
def dropC (H : Hp) (cs : List Addr) : Hp := fun b => if b ∈ cs then none else H b
def backC (H H' : Hp) (cs : List Addr) : Hp := fun b => if b ∈ cs then H b else H' b
section
variable {P : Program} {w : World} {K : PySem.W.Frag} {mg : Str → Option Value} {base : Heap} {H H' : Hp} {h h' B : Heap} {cs fs : List Addr} {A : Around} {outer : List Env} {s : Shared}
theorem dropC_in {b : Addr} (hb : b ∈ cs) : dropC H cs b = none := if_pos hb
theorem dropC_out {b : Addr} (hb : b ∉ cs) : dropC H cs b = H b := if_neg hb
theorem dropC_none {b : Addr} (e : H b = none) : dropC H cs b = none := by
  by_cases hb : b ∈ cs
  · exact dropC_in hb
  · rw [dropC_out hb]; exact e
theorem backC_in {b : Addr} (hb : b ∈ cs) : backC H H' cs b = H b := if_pos hb
theorem backC_out {b : Addr} (hb : b ∉ cs) : backC H H' cs b = H' b := if_neg hb
abbrev Exts (H : Hp) (cs : List Addr) : Prop := ∀ c ∈ cs, ∃ φ, H c = some (.ext φ)
theorem not_cs {b : Addr} {o : HO} (hc : Exts H cs) (e : H b = some o) (n : ∀ φ, o ≠ .ext φ) : b ∉ cs := fun hb => by
  obtain ⟨φ, q⟩ := hc b hb
  rw [e] at q
  exact n φ (Option.some.inj q)
theorem hok_drop (hc : Exts H cs) (x : HOk P w H h) : HOk P w (dropC H cs) h := fun b o e => by
  by_cases hb : b ∈ cs
  · rw [dropC_in hb] at e; cases e
  · rw [dropC_out hb] at e
    exact (x b o e).stay (fun _ _ _ q => q) (fun c q => (dropC_out (not_cs hc q fun _ z => nomatch z)).trans q) fun c xs q => (dropC_out (not_cs hc q fun _ z => nomatch z)).trans q
theorem env0_drop (hc : Exts H cs) (e0 : Env0 P w K mg base A outer s H) : Env0 P w K mg base A outer s (dropC H cs) :=
  ⟨e0.frames, e0.mod, fun b o q => ⟨(e0.bs b o q).1, dropC_none (e0.bs b o q).2⟩, e0.bsz, e0.funs, fun b hb => dropC_none (e0.frf b hb), hok_drop hc e0.hok, e0.bare⟩
/-- what is tracked behind, with the cells again -/
theorem hok_back (hc : Exts H cs) (x : HOk P w H h) (y : HOk P w H' h') (k : ∀ c ∈ cs, ∀ o, h.get? c = some o → h'.get? c = some o) (n : ∀ c ∈ cs, H' c = none) : HOk P w (backC H H' cs) h' := fun b o e => by
  by_cases hb : b ∈ cs
  · rw [backC_in hb] at e
    obtain ⟨φ, q⟩ := hc b hb
    rw [e] at q
    obtain rfl := Option.some.inj q
    obtain ⟨p, ⟨u, hu⟩, st⟩ := x b _ e
    exact ⟨st _ _ p fun o' q => k b hb o' q, ⟨u, k b hb u hu⟩, st⟩
  · rw [backC_out hb] at e
    have out : ∀ {c : Addr} {u : HO}, H' c = some u → backC H H' cs c = some u := fun {c u} q => (backC_out fun z => by rw [n c z] at q; cases q).trans q
    exact (y b o e).stay (fun _ _ _ q => q) (fun c q => out q) fun c xs q => out q
/-- a call shown without the cells, as a call with them -/
theorem run_lift {a : Code} {Q : VK} {E : XK} (hc : Exts H cs) (e0 : Env0 P w K mg base A outer s H)
    (r : Env0 P w K mg base A outer s (dropC H cs) → codeAny (model P w) A a (CR (L2.CX P w) outer P w (dropC H cs) s (fun v H' => Q v (backC H H' cs)) fun c d H' => E c d (backC H H' cs)) s) : codeAny (model P w) A a (CR (L2.CX P w) outer P w H s Q E) s := by
  have nfr : ∀ c ∈ cs, c ∉ frs outer := fun c hcs hf => by
    obtain ⟨φ, q⟩ := hc c hcs
    rw [e0.frf c hf] at q; cases q
  have here : ∀ c ∈ cs, ∃ o, s.heap.get? c = some o := fun c hcs => by
    obtain ⟨φ, q⟩ := hc c hcs
    obtain ⟨_, z, _⟩ := e0.hok c _ q
    exact z
  have bk : ∀ {b : Addr} {u : HO} {H' : Hp}, H b = some u → (b ∉ cs → H' b = some u) → backC H H' cs b = some u := fun {b u H'} q z => by
    by_cases hb : b ∈ cs
    · rw [backC_in hb]; exact q
    · rw [backC_out hb]; exact z hb
  refine codeAny_mono (r (env0_drop hc e0)) fun res s' q => ?_
  cases res with
  | error e =>
    obtain ⟨x, B, H', cls, d, rfl, fl, hok, ub, na, os, ag, q⟩ := q
    have kp : ∀ c ∈ cs, ∀ o, s.heap.get? c = some o → B.get? c = some o := fun c hcs o z => ub.keep c o z (dropC_in hcs) (nfr c hcs)
    have nn : ∀ c ∈ cs, H' c = none := fun c hcs => let ⟨o, z⟩ := here c hcs; ub.free c o z (dropC_in hcs)
    refine ⟨x, B, backC H H' cs, cls, d, rfl, fl, hok_back hc e0.hok hok kp nn, ⟨fun b o e n hb => ub.keep b o e (dropC_none n) hb, ub.slot, fun b o e n => ?_, ub.there, fun b xs e => bk e fun hb => ub.tups b xs ((dropC_out hb).trans e), fun b o xs e => bk e fun hb => ub.frzs b o xs ((dropC_out hb).trans e), fun b ps e => ?_⟩, ?_, os, ag, q⟩
    · by_cases hb : b ∈ cs
      · rw [backC_in hb]; exact n
      · rw [backC_out hb]; exact ub.free b o e (dropC_none n)
    · have hb : b ∉ cs := not_cs hc e fun _ z => nomatch z
      obtain ⟨m, z⟩ := ub.tbls b ps ((dropC_out hb).trans e)
      exact ⟨m, (backC_out hb).trans z⟩
    · by_cases hb : x ∈ cs
      · obtain ⟨o, z⟩ := here x hb
        have z2 := kp x hb o z
        rw [fl.2.1] at z2; cases z2
      · rw [backC_out hb]; exact na
  | ok fl =>
    cases fl with
    | next => exact False.elim q
    | brk => exact False.elim q
    | cont => exact False.elim q
    | ret u =>
      obtain ⟨v, H', os, bare, un, hok, rv, q⟩ := q
      have kp : ∀ c ∈ cs, ∀ o, s.heap.get? c = some o → s'.heap.get? c = some o := fun c hcs o z => un.keep c o z (dropC_in hcs) (nfr c hcs) (by simp)
      have nn : ∀ c ∈ cs, H' c = none := fun c hcs => let ⟨o, z⟩ := here c hcs; un.free c o z (dropC_in hcs) (by simp)
      refine ⟨v, backC H H' cs, os, bare, ⟨fun b o e n hb hx => un.keep b o e (dropC_none n) hb hx, fun b o e n hb hx => un.slot b o e (dropC_none n) hb hx, fun b o e n hx => ?_, un.there, fun b xs e => bk e fun hb => un.tups b xs ((dropC_out hb).trans e), fun b o xs e => bk e fun hb => un.frzs b o xs ((dropC_out hb).trans e), fun b ps e => ?_⟩, hok_back hc e0.hok hok kp nn, rv, q⟩
      · by_cases hb : b ∈ cs
        · rw [backC_in hb]; exact n
        · rw [backC_out hb]; exact un.free b o e (dropC_none n) hx
      · have hb : b ∉ cs := not_cs hc e fun _ z => nomatch z
        obtain ⟨m, z⟩ := un.tbls b ps ((dropC_out hb).trans e)
        exact ⟨m, (backC_out hb).trans z⟩
end
end LM
set_option Elab.async false
set_option linter.all false
set_option maxRecDepth 100000
set_option maxHeartbeats 4000000
/-! The call of a kept lambda; the end of a def that makes some. -/
namespace LM
open PySem PySem.Spec L2 LamX NdefX
open PyProof.Rows hiding St
abbrev Ex (A B : Hp) : Prop := CL.Ex A B
section
variable {P : Program} {w : World} {K : PySem.W.Frag} {mg : Str → Option Value} {base : Heap} {CX : CXT} {H : Hp} {A : Around} {outer : List Env} {s : Shared} {F : NF} {e : Expr} {f : Addr} {N fr : List Str} {k : Nat} {Q : VK} {E : XK}
theorem lam_run {ws : List (Option V)} (S : NScope N [] fr F.scope) (hb : ∀ pm ctv : Value, bindArgs (lamD F e pm ctv) ⟨[], []⟩ = pure []) (hr : Room (k + 1) A) (e0 : Env0 P w K mg base A outer s H) (hf : H f = some (LamO f F e)) (hc : H F.c = some (CodeO F.c F.qual)) (C : CellsAt F.cl fr ws s.heap H)
    (hbody : Room k (A.deeper (envF F f s.heap.objs.size)) → ∃ te, PE (ncx CX P w K mg base N F f A outer s H E) e te ∧ te (startF N [] ws) H Q) : codeAny (model P w) A (.call (.ref f) ⟨[], []⟩) (CR CX outer P w H s Q E) s := by
  have lim : s.heap.NoLimit := e0.mod.nolimit.keeps fun b o z => (e0.bs b o z).1
  obtain ⟨od, sl, pm, ctv, ho⟩ := lamO_at e0.hok hf
  refine PySem.W.kla_callFunE hr.depth ho rfl S.co S.gen rfl (codeO_at e0.hok hc) ?_
  show wpAny _ _ (bindArgs (lamD F e pm ctv) ⟨[], []⟩) _ _ _
  rw [hb pm ctv]
  refine wpAny_pure (wpAny_newFunctionEnv S.nocell (fun y hy => absurd hy (by simp)) (fun h₁ hns hsb => ⟨lim.fresh _ hsb, ?_⟩) S.kind)
  show codeAny _ _ (.expr e (envF F f s.heap.objs.size)) _ _
  obtain ⟨te, ht, hq⟩ := hbody (hr.deeper _)
  have kp : ∀ b o, s.heap.get? b = some o → h₁.get? b = some o := fun b o z => hsb.extBut b o (Nat.ne_of_lt (Heap.lt_size z)) (Heap.get?_push_of_some _ z)
  have I : Inv (ncx CX P w K mg base N F f A outer s H E) [] (startF N [] ws) H { s with heap := h₁, toks := s.toks + ([] : List (Str × Value)).length } := inv_startN (us := []) S hr.hd e0 rfl .nil C hns kp
  exact PySem.W.kla_codeExpr (wpAny_mono (ht.run [] _ _ H Q I hq) (fun v s' ⟨v', H', J, rv, q⟩ => ⟨v', H', J.os, J.bare, J.base, J.hok, rv, q⟩) fun _ _ q => q)
/-- the call of f, from anywhere -/
def Runs (P : Program) (w : World) (K : PySem.W.Frag) (mg : Str → Option Value) (base : Heap) (k : Nat) (f : Addr) (H : Hp) (Q : VK) (E : XK) : Prop :=
  ∀ (A : Around) (outer : List Env) (s : Shared), Room k A → Env0 P w K mg base A outer s H → codeAny (model P w) A (.call (.ref f) ⟨[], []⟩) (CR (L2.CX P w) outer P w H s Q E) s
/-- a lambda that stands, with its cells -/
structure LamAt (H : Hp) (f : Addr) (F : NF) (e : Expr) (fr : List Str) (ws : List V) : Prop where
  obj : H f = some (LamO f F e)
  code : H F.c = some (CodeO F.c F.qual)
  inj : ∀ x y c, F.cl.lookup x = some c → F.cl.lookup y = some c → x = y
  cell : ∀ c ∈ F.cl.map (·.2), ∃ v, H c = some (CellO c v)
  has : ∀ (i : Nat) (y : Str), fr[i]? = some y → ∃ c v, F.cl.lookup y = some c ∧ ws[i]? = some v ∧ H c = some (CellO c v)
  len : ws.length = fr.length
theorem LamAt.up {H H' : Hp} {ws : List V} (L : LamAt H f F e fr ws) (x : Ex H H') : LamAt H' f F e fr ws :=
  ⟨x _ _ L.obj, x _ _ L.code, L.inj, fun c hc => let ⟨v, q⟩ := L.cell c hc; ⟨v, x _ _ q⟩, fun i y hi => let ⟨c, v, a, b, q⟩ := L.has i y hi; ⟨c, v, a, b, x _ _ q⟩, L.len⟩
theorem lamO_ncell {c : Addr} {v : V} : LamO f F e ≠ .lst [] := fun z => by unfold LamO at z; cases z
theorem LamAt.runs {ws : List V} (S : NScope N [] fr F.scope) (hb : ∀ pm ctv : Value, bindArgs (lamD F e pm ctv) ⟨[], []⟩ = pure []) (L : LamAt H f F e fr ws) (nf : f ∉ F.cl.map (·.2)) (nc : F.c ∉ F.cl.map (·.2))
    (hbody : ∀ (A : Around) (outer : List Env) (s : Shared), Room k (A.deeper (envF F f s.heap.objs.size)) →
      ∃ te, PE (ncx (L2.CX P w) P w K mg base N F f A outer s (dropC H (F.cl.map (·.2))) fun c d H' => E c d (backC H H' (F.cl.map (·.2)))) e te ∧ te (startF N [] (ws.map some)) (dropC H (F.cl.map (·.2))) fun v H' => Q v (backC H H' (F.cl.map (·.2)))) :
    Runs P w K mg base (k + 1) f H Q E := fun A outer s hr e0 => by
  have hx : Exts H (F.cl.map (·.2)) := fun c hc => let ⟨v, q⟩ := L.cell c hc; ⟨_, q⟩
  refine run_lift hx e0 fun d0 => ?_
  refine lam_run (ws := ws.map some) S hb hr d0 ((dropC_out nf).trans L.obj) ((dropC_out nc).trans L.code) ⟨by rw [List.length_map]; exact L.len, fun y c q => ?_, L.inj, fun i y hi => ?_⟩ fun hr' => hbody A outer s hr'
  · have hm : c ∈ F.cl.map (·.2) := List.mem_map.mpr ⟨(y, c), PySem.mem_of_lookup q, rfl⟩
    obtain ⟨v, z⟩ := L.cell c hm
    obtain ⟨u, _, z⟩ := cellO_at e0.hok z
    exact ⟨dropC_in hm, _, z⟩
  · obtain ⟨c, v, a, b, q⟩ := L.has i y hi
    refine ⟨c, a, fun v' hv => ?_⟩
    rw [List.getElem?_map, b] at hv
    have e : v = v' := Option.some.inj (Option.some.inj hv)
    subst e
    exact cellO_at e0.hok q
end
/-- f(), f a local name that holds a kept lambda, in a try -/
def tThunk (X : Cx) (k i : Nat) (E : St → XK) : TE := fun σ H Q => ∃ (f : Addr) (F : NF) (e : Expr), σ[i]? = some (some (.ref f)) ∧ H f = some (LamO f F e) ∧ Runs X.prog X.w X.K X.mg X.base k f H Q (E σ)
theorem pe_thunk {X : Cx} {k i : Nat} {x : Str} {E : St → XK} {p pos : Pos} (hr : Room k X.A) (hx : ∀ σ, PassesAt (L2.CX X.prog X.w) X σ (E σ)) (hN : X.N[i]? = some x) (hv : Vis X.env.scope x)
    (hd : (x == ("__debug__" : Str)) = false := by decide) (hcd : (x == ("__classdict__" : Str)) = false := by decide) : PE X (.Call (.Name x p) [] [] pos) (tThunk X k i E) := by
  refine ⟨fun pins s σ H Q I ⟨f, F, e, hs, hf, hq⟩ => ?_⟩
  refine wpAny_Call_Name_kw (thn ((pe_var (pos := p) hN hv hd hcd).run pins s σ H (fun v H1 => v = .ref f ∧ H1 = H) I ⟨.ref f, hs, rfl, rfl⟩) fun u s1 ⟨v, H1, I1, r1, q1⟩ => ?_)
  obtain ⟨rfl, rfl⟩ := q1
  obtain rfl : u = Value.ref f := r1
  obtain ⟨od, sl, pm, ctv, ho⟩ := lamO_at I1.hok hf
  refine PySem.W.callWith_F0 (first := []) ⟨_, od, _, sl, ho⟩ ?_
  show wpAny _ _ (call (.ref f) []) _ _ _
  refine wpAny_call (codeAny_mono (hq X.A X.stack s1 hr I1.env0) fun r s' q => ?_)
  cases r with
  | error e => exact hx σ pins _ s1 e s' I1 q
  | ok fl =>
    cases fl with
    | ret u => exact I1.after q
    | next => exact False.elim q
    | brk => exact False.elim q
    | cont => exact False.elim q
/-! ### a block whose end tells the slots -/
structure PSsC (X : Cx) (b : List Stmt) (t : (St → V → Hp → Prop) → St → Hp → Prop) : Prop where
  run : ∀ (s : Shared) (σ : St) (H : Hp) (R : St → V → Hp → Prop), Inv X [] σ H s → t R σ H → wpAny (model X.prog X.w) X.A (execs b X.env) (fun fl s' => ∃ u v σ' H', fl = .ret u ∧ Inv X [] σ' H' s' ∧ L2.RelV v u ∧ R σ' v H') X.xe s
def tNo : St → Hp → Prop := fun _ _ => False
def endN (nx : St → Hp → Prop) : Ends := { nx := nx, rt := fun _ _ => False, bk := fun _ _ => False, ct := fun _ _ => False }
def tSeqC (t : TS) (u : (St → V → Hp → Prop) → St → Hp → Prop) : (St → V → Hp → Prop) → St → Hp → Prop := fun R σ H => t (endN fun σ' H' => u R σ' H') σ H
def tRetC (te : TE) : (St → V → Hp → Prop) → St → Hp → Prop := fun R σ H => te σ H fun v H' => R σ v H'
section
variable {X : Cx} {st : Stmt} {rest : List Stmt} {t : TS} {u : (St → V → Hp → Prop) → St → Hp → Prop} {e : Expr} {te : TE} {pos : Pos}
theorem pssC_cons (h1 : PS X st t) (h2 : PSsC X rest u) : PSsC X (st :: rest) (tSeqC t u) := by
  refine ⟨fun s σ H R I h => wpAny_execs_cons (thn (h1.run [] s σ H _ I h) fun f s1 q => ?_)⟩
  cases f with
  | next =>
    obtain ⟨σ', H', J, q⟩ := q
    exact h2.run s1 σ' H' R J q
  | ret v =>
    obtain ⟨_, _, _, _, _, q⟩ := q
    exact False.elim q
  | brk =>
    obtain ⟨_, _, _, q⟩ := q
    exact False.elim q
  | cont =>
    obtain ⟨_, _, _, q⟩ := q
    exact False.elim q
theorem pssC_ret (he : PE X e te) : PSsC X [.Return (some e) pos] (tRetC te) := by
  refine ⟨fun s σ H R I h => wpAny_execs_cons ?_⟩
  exact wpAny_Return_some (thn (he.run [] s σ H _ I h) fun v s1 ⟨x, H1, I1, r1, q1⟩ => ⟨v, x, σ, H1, rfl, I1, r1, q1⟩)
end
section
variable {P : Program} {w : World} {K : PySem.W.Frag} {mg : Str → Option Value} {base : Heap} {CX : CXT}
/-- a def that makes lambdas: behind its end its cells are known -/
theorem fn_maker {k : Nat} {f : Addr} {name qual : Str} {params : Arguments} {body : List Stmt} {scope : Scope} {dV kV doc pm cdv ct oc : Value} {an od : Option Addr} {osl : Array (Option Value)} {N ps fr : List Str} {js : List Nat} {sp : Sp}
    (lk : K.lookup f = some ⟨oc, od, .func (PySem.W.fnOf name qual params body scope dV kV doc pm an cdv ct), osl⟩) (hcd : PySem.W.codeIn K cdv qual = true) (S : FnScope N ps scope) (len : ∀ vs H Q E, sp vs H Q E → vs.length = ps.length)
    (hfr : ∀ y ∈ fr, scope.names.lookup y = some .cell) (hnd : fr.Nodup) (hjs : js.map (fun j => N[j]?) = fr.map some)
    (hbody : ∀ (A : Around) (outer : List Env) (s : Shared) (H : Hp) (vs : List V) (Q : VK) (E : XK), Room k (A.deeper (envOfC qual scope s.heap.objs.size f cdv)) → sp vs H Q E →
      ∃ t, PSsC (cxOf CX P w K mg base N qual scope f cdv A outer s H E) body t ∧ t (fun σ' v H' => ∃ ws : List V, js.map (slotAt σ') = ws.map some ∧ ∀ H2, Ex H' H2 →
        (∀ x y c, (cellsFrom (s.heap.objs.size + 1) scope.names []).lookup x = some c → (cellsFrom (s.heap.objs.size + 1) scope.names []).lookup y = some c → x = y) →
        (∀ (i : Nat) (y : Str), fr[i]? = some y → ∃ c v, (cellsFrom (s.heap.objs.size + 1) scope.names []).lookup y = some c ∧ ws[i]? = some v ∧ H' c = none ∧ H2 c = some (CellO c v)) → Q v H2) (start N vs) H) :
    FnOk P w K mg base CX (k + 1) f (PySem.W.fnOf name qual params body scope dV kV doc pm an cdv ct) ps sp := by
  refine ⟨len, fun A outer s H args us vs Q E hr e0 hb r hsp => ?_⟩
  have hl := len _ _ _ _ hsp
  have KX : K.In s.heap := e0.mod.kin.keeps fun b o z => (e0.bs b o z).1
  have lim : s.heap.NoLimit := e0.mod.nolimit.keeps fun b o z => (e0.bs b o z).1
  have hkind : ∀ y ∈ ps.zip us, scope.names.lookup y.1 = some .local ∨ (scope.names.lookup y.1 = some .cell ∧ ((cellsFrom (s.heap.objs.size + 1) scope.names []).lookup y.1).isSome = true) := fun ⟨n, v⟩ hy => by
    rcases S.par n (List.of_mem_zip hy).1 with q | q
    · exact .inl q
    · exact .inr ⟨q, PySem.W.cellsFrom_some _ _ _ (.inl q)⟩
  refine codeAny_call_function hr.depth (KX _ _ lk) rfl S.co S.gen rfl (PySem.W.codeRec_of KX hcd) (hb _ _ _ _ ?_)
  refine wpAny_newFunctionEnv_cells S.kind hkind fun env he s1 x => ?_
  subst he
  refine ⟨lim.keeps x.toInCall.keep, codeAny_func ?_⟩
  obtain ⟨t, ht, hq⟩ := hbody A outer s H vs Q E (hr.deeper _) hsp
  have I : Inv (cxOf CX P w K mg base N qual scope f cdv A outer s H E) [] (start N vs) H s1 := inv_start S hr.hd e0 hl r x
  refine wpAny_mono (ht.run s1 _ H _ I hq) (fun fl s' hs => ?_) fun _ _ z => z
  obtain ⟨u, v, σ', H', rfl, J, rv, ws, hws, hfin⟩ := hs
  let cells := cellsFrom (s.heap.objs.size + 1) scope.names []
  have inj : ∀ x y c, cells.lookup x = some c → cells.lookup y = some c → x = y := J.ok.inj
  have cp : Caps (cxOf CX P w K mg base N qual scope f cdv A outer s H E) cells fr js := ⟨fun _ _ z => z, fun y hy => .inl (hfr y hy), fun _ _ _ z => z, hjs⟩
  have ca := cells_of J cp
  have lw : ws.length = fr.length := by
    have h1 := congrArg List.length hws
    have h2 := congrArg List.length hjs
    rw [List.length_map, List.length_map] at h1 h2
    omega
  let Kn : Addr → V → Prop := fun b v => ∃ (i : Nat) (y : Str), fr[i]? = some y ∧ cells.lookup y = some b ∧ ws[i]? = some v
  have uniq : ∀ {b v v'}, Kn b v → Kn b v' → v = v' := fun {b v v'} ⟨i, y, a1, a2, a3⟩ ⟨j, z, b1, b2, b3⟩ => by
    have e := inj _ _ _ a2 b2
    subst e
    have e := nodup_ix hnd a1 b1
    subst e
    rw [a3] at b3
    exact Option.some.inj b3
  have cellv : ∀ {b v}, Kn b v → H' b = none ∧ ∃ u, L2.RelV v u ∧ s'.heap.IsCell b (some u) := fun {b v} ⟨i, y, a1, a2, a3⟩ => by
    refine ⟨(ca.all y b a2).1, ?_⟩
    obtain ⟨c, hc, hv⟩ := ca.has i y a1
    have e : c = b := Option.some.inj (hc.symm.trans a2)
    subst e
    exact hv v (by rw [hws, List.getElem?_map, a3]; rfl)
  let H2 : Hp := fun b => @dite _ (∃ v, Kn b v) (Classical.propDecidable _) (fun h => some (CellO b (Classical.choose h))) fun _ => H' b
  have h2y : ∀ {b v}, Kn b v → H2 b = some (CellO b v) := fun {b v} h => by
    have ex : ∃ v, Kn b v := ⟨v, h⟩
    show @dite _ (∃ v, Kn b v) (Classical.propDecidable _) _ _ = _
    rw [dif_pos ex, uniq (Classical.choose_spec ex) h]
  have h2n : ∀ {b}, (¬ ∃ v, Kn b v) → H2 b = H' b := fun {b} h => by
    show @dite _ (∃ v, Kn b v) (Classical.propDecidable _) _ _ = _
    rw [dif_neg h]
  have up : ∀ {b o}, H' b = some o → H2 b = some o := fun {b o} z => (h2n fun ⟨v, h⟩ => by rw [(cellv h).1] at z; cases z).trans z
  have ex : Ex H' H2 := fun b o z => up z
  have above : ∀ {b v}, Kn b v → s.heap.objs.size ≤ b := fun {b v} ⟨i, y, a1, a2, a3⟩ => J.ok.cab y b rfl a2
  refine ⟨v, H2, J.os, J.bare, ?_, fun b o z => ?_, rv, hfin H2 ex inj fun i y hi => ?_⟩
  · have U := J.base
    refine ⟨U.keep, U.slot, fun b o z n hx => ?_, U.there, fun b xs z => up (U.tups b xs z), fun b o xs z => up (U.frzs b o xs z), fun b qs z => let ⟨m, q⟩ := U.tbls b qs z; ⟨m, up q⟩⟩
    rw [h2n fun ⟨v, h⟩ => absurd (Nat.lt_of_lt_of_le (Heap.lt_size z) (above h)) (Nat.lt_irrefl _)]
    exact U.free b o z n hx
  · by_cases hb : ∃ v, Kn b v
    · obtain ⟨v, h⟩ := hb
      rw [h2y h] at z
      cases z
      obtain ⟨u', r', oc, ho, hd⟩ := (cellv h).2
      exact ⟨⟨u', r', oc, ho, hd⟩, ⟨oc, ho⟩, fun g1 g2 ⟨u, r, oc, ho, hd⟩ st => ⟨u, r, oc, st _ ho, hd⟩⟩
    · rw [h2n hb] at z
      exact (J.hok b o z).stay (fun _ _ _ q => q) (fun c q => up q) fun c xs q => up q
  · obtain ⟨c, hc⟩ := cell_has (n := s.heap.objs.size + 1) (hfr y (List.mem_of_getElem? hi))
    have hi' : i < ws.length := by rw [lw]; exact (List.getElem?_eq_some_iff.mp hi).1
    have kn : Kn c ws[i] := ⟨i, y, hi, hc, List.getElem?_eq_getElem hi'⟩
    exact ⟨c, ws[i], hc, List.getElem?_eq_getElem hi', (cellv kn).1, h2y kn⟩
end
end LM
set_option Elab.async false
set_option linter.all false
set_option maxRecDepth 100000
set_option maxHeartbeats 4000000
/-! A def that gets the handled exception. -/
namespace LM
open PySem PySem.Spec L2
open PyProof.Rows hiding St
/-- the promise of a def called in an except suite: p, the exception there -/
structure FnE (P : Program) (w : World) (K : PySem.W.Frag) (mg : Str → Option Value) (base : Heap) (CX : CXT) (k : Nat) (f : Addr) (fd : FuncData) (ps : List Str) (sp : Addr → Value → Option Addr → Sp) : Prop where
  len : ∀ a cls d vs H Q E, sp a cls d vs H Q E → vs.length = ps.length
  run : ∀ (p : Addr × Obj) (cls : Value) (d : Option Addr), Zc cls d p.2 → (∃ vs, p.2.data = .fields vs) → ∀ (A : Around) (outer : List Env) (s : Shared) (H : Hp) (args : Args) (us : List Value) (vs : List V) (Q : VK) (E : XK), L2H.RoomH k A → L2H.PinOk outer H s p → Env0 P w K mg base A outer s H → BindsTo s fd args (ps.zip us) → Vals vs us → sp p.1 cls d vs H Q E →
    codeAny (model P w) A (.call (.ref f) args) (CR CX outer P w H s Q E) s
theorem fn_ofE {P : Program} {w : World} {K : PySem.W.Frag} {mg : Str → Option Value} {base : Heap} {CX : CXT} {k : Nat} {f : Addr} {name qual : Str} {params : Arguments} {body : List Stmt} {scope : Scope} {dV kV doc pm cdv ct oc : Value} {an od : Option Addr} {osl : Array (Option Value)} {N ps : List Str} {sp : Addr → Value → Option Addr → Sp}
    (lk : K.lookup f = some ⟨oc, od, .func (PySem.W.fnOf name qual params body scope dV kV doc pm an cdv ct), osl⟩) (hcd : PySem.W.codeIn K cdv qual = true) (S : FnScope N ps scope) (len : ∀ a cls d vs H Q E, sp a cls d vs H Q E → vs.length = ps.length)
    (hbody : ∀ (p : Addr × Obj) (cls : Value) (d : Option Addr), Zc cls d p.2 → (∃ vs, p.2.data = .fields vs) → ∀ (A : Around) (outer : List Env) (s : Shared) (H : Hp) (vs : List V) (Q : VK) (E : XK), L2H.RoomH k (A.deeper (envOfC qual scope s.heap.objs.size f cdv)) → sp p.1 cls d vs H Q E →
      ∃ t, PSs (L2H.cxH CX P w K mg base N qual scope f cdv A outer s H E p) body t ∧ t { nx := fun _ H' => Q .non H', rt := Q } (L2.start N vs) H) :
    FnE P w K mg base CX (k + 1) f (PySem.W.fnOf name qual params body scope dV kV doc pm an cdv ct) ps sp := by
  refine ⟨len, fun p cls d hz hf A outer s H args us vs Q E hr hpin e0 hb r hsp => ?_⟩
  have KX : K.In s.heap := e0.mod.kin.keeps fun b o z => (e0.bs b o z).1
  have lim : s.heap.NoLimit := e0.mod.nolimit.keeps fun b o z => (e0.bs b o z).1
  have hk : ∀ y ∈ ps.zip us, scope.names.lookup y.1 = some .local ∨ (scope.names.lookup y.1 = some .cell ∧ ((cellsFrom (s.heap.objs.size + 1) scope.names []).lookup y.1).isSome = true) := fun ⟨n, v⟩ hy => by
    rcases S.par n (List.of_mem_zip hy).1 with q | q
    · exact .inl q
    · exact .inr ⟨q, PySem.W.cellsFrom_some _ _ _ (.inl q)⟩
  refine codeAny_call_function hr.depth (KX _ _ lk) rfl S.co S.gen rfl (PySem.W.codeRec_of KX hcd) (hb _ _ _ _ ?_)
  refine wpAny_newFunctionEnv_cells S.kind hk fun env he s1 x => ?_
  subst he
  refine ⟨lim.keeps x.toInCall.keep, codeAny_func ?_⟩
  obtain ⟨t, ht, hq⟩ := hbody p cls d hz hf A outer s H vs Q E (hr.deeper _) hsp
  have I := L2H.inv_startH (CX := CX) (E := E) S hpin e0 (len _ _ _ _ _ _ _ hsp) r x
  refine wpAny_mono (ht.run [] s1 _ H _ I hq) (fun fl s' hs => ?_) fun _ _ z => z
  cases fl with
  | next =>
    obtain ⟨σ', H', J, q⟩ := hs
    exact ⟨V.non, H', J.os, J.bare, J.base, J.hok, rfl, q⟩
  | ret u =>
    obtain ⟨v, σ', H', J, rv, q⟩ := hs
    exact ⟨v, H', J.os, J.bare, J.base, J.hok, rv, q⟩
  | brk =>
    obtain ⟨_, _, _, q⟩ := hs
    exact False.elim q
  | cont =>
    obtain ⟨_, _, _, q⟩ := hs
    exact False.elim q
section
variable {X : Cx} {CX : CXT} {k : Nat} {f : Addr} {fd : FuncData} {ps : List Str} {sp : Addr → Value → Option Addr → Sp} {E : XK} {x : Str} {q pos : Pos} {e : Expr} {es : List Expr} {t : TA} {p : Addr × Obj}
theorem pe_callE {cls : Value} {d : Option Addr} (F : FnE X.prog X.w X.K X.mg X.base CX k f fd ps sp) (hr : L2H.RoomH k X.A) (hp : p ∈ X.pn) (hz : Zc cls d p.2) (hf : ∃ vs, p.2.data = .fields vs) (hg : Gl X x) (hm : X.mg x = some (.ref f)) (hk : PySem.W.keepIn X.K (.ref f) = true) (hb : Binds X.K fd ps []) (hx : Passes CX X E)
    (ha : PA X (e :: es) t) (hdb : (x == ("__debug__" : Str)) = false := by decide) (he : starEach (e :: es) X.env = (false, eval e X.env) :: starEach es X.env := by rfl) (hpl : (backTo pos (starEach es X.env)).any (·.1) = false := by rfl) :
    PE X (.Call (.Name x q) (e :: es) [] pos) (fun σ H Q => t σ H fun vs H1 => sp p.1 cls d vs H1 Q E) := by
  refine ⟨fun pins s σ H Q I h => ?_⟩
  refine wpAny_Call_Name_kw (ld_glob I hg hm ?_ hdb)
  refine PySem.W.callWith_K (h₀ := X.base) I.ok.mod.kin hk (thn (ha.run pos pins s σ H _ I h) fun us s1 ⟨vs, H1, I1, r, q⟩ => ⟨I1.kIn, ?_⟩) he hpl
  have hl : us.length = ps.length := by rw [← r.length]; exact F.len _ _ _ _ _ _ _ q
  have b := hb s1 us I1.kIn (by rw [List.append_nil]; exact hl)
  rw [List.append_nil] at b
  obtain ⟨p1, p2, p3, p4, p5⟩ := I1.pin p (List.mem_append_left _ hp)
  have hpin : L2H.PinOk X.stack H1 s1 p := ⟨p1, p2, fun hm => (List.mem_cons.mp (I1.stkSub p.1 hm)).elim p3 p4, p5⟩
  refine wpAny_call (codeAny_mono (F.run p cls d hz hf X.A X.stack s1 H1 ⟨us, []⟩ us vs Q E hr hpin I1.env0 b r q) fun res s' z => ?_)
  cases res with
  | error e => exact hx pins σ H1 s1 e s' I1 z
  | ok fl =>
    cases fl with
    | ret u => exact I1.after z
    | next => exact False.elim z
    | brk => exact False.elim z
    | cont => exact False.elim z
/-- isinstance(e, c), e the exception that the context bears -/
theorem call_isP {D : Addr} (hp : p ∈ X.pn) (C : ExcC X.K D) (hz : Zc (.ref D) none p.2) (hf : ∃ vs, p.2.data = .fields vs) : CallR X (.builtin "isinstance") (rIsE X.K D p.1) := by
  intro pins s σ H xs us Q I r h
  obtain ⟨c, cv, b, rfl, hcv, z, q⟩ := h
  cases r with
  | cons rx rr =>
    cases rr with
    | cons rt rr =>
      cases rr
      cases rx
      obtain rfl := hcv _ rt
      obtain ⟨hget, _⟩ := I.pin p (List.mem_append.mpr (.inl hp))
      have J : PySem.W.InstAt s.heap p.1 p.2 D none := by
        obtain ⟨a, oc, od, oda, osl⟩ := p
        obtain ⟨vs, hv⟩ := hf
        obtain ⟨h1, h2⟩ := hz
        dsimp only at h1 h2 hv hget ⊢
        subst h1 h2 hv
        exact ⟨hget, rfl, rfl, trivial⟩
      exact PySem.W.kia_one (PySem.W.handS_kitx_exc C.hg C.hk C.hs C.hd C.ha C.hn C.ht C.hm) I.kIn J z (fun z => nomatch z) fun tk => ⟨.bl b, H, I.kept (t' := tk) fun _ _ z => z, rfl, q⟩
end
end LM
set_option Elab.async false
set_option linter.all false
set_option maxRecDepth 100000
set_option maxHeartbeats 4000000
/-! Readings that raise; odd values. -/
namespace CL
open PySem L2
/-- what is wanted of a raised C -/
def XR (C : Addr) (G H : Hp) (E : XK) : Prop := ∀ G2 H2, Grow M0 G H G2 H2 → E (.ref C) none H2
def EvX (te : TE) (σ : VSt) (G : Hp) (C : Addr) (E : XK) : Prop := ∀ G1 H1, Ex G G1 → Ex G1 H1 → XR C G1 H1 E → ∀ Q : VK, te σ H1 Q
/-- exact values, from the left -/
def EvVs (ta : TA) (σ : VSt) (G : Hp) (vs : List V) : Prop := ∀ G1 H1, Ex G G1 → Ex G1 H1 → ∀ Q : List V → Hp → Prop, (∀ G2 H2, Grow M0 G1 H1 G2 H2 → Q vs H2) → ta σ H1 Q
/-- a promise that C is raised -/
def spX (pre : Hp → List V → Prop) (C : Addr) : Sp := fun vs H _ E => ∃ G, Ex G H ∧ pre G vs ∧ XR C G H E
/-- a promise of one exact value -/
def spV (pre : Hp → List V → V → Prop) : Sp := fun vs H Q _ => ∃ G v, Ex G H ∧ pre G vs v ∧ ∀ G2 H2, Grow M0 G H G2 H2 → Q v H2
section
variable {σ : VSt} {G G1 G2 H H1 H2 : Hp} {C : Addr} {E : XK} {te tb : TE} {ta : TA} {D : Ends} {tz : TS} {t : TT} {tu tw : TS}
theorem XR.up (x : XR C G H E) (g : Grow M0 G H G1 H1) : XR C G1 H1 E := fun G3 H3 g3 => x G3 H3 (g.trans g3)
theorem XR.now (x : XR C G H E) (e : Ex G H) : E (.ref C) none H := x G H (Grow.refl e)
theorem xr_of (h : ∀ H2, Ex H H2 → E (.ref C) none H2) : XR C G H E := fun G2 H2 g => h H2 g.ex
theorem EvX.mono (e : Ex G G1) (h : EvX te σ G C E) : EvX te σ G1 C E := fun G2 H2 a => h G2 H2 (e.trans a)
theorem w_nil : EvVs tNil σ G [] := fun G1 H1 _ e2 Q q => q G1 H1 (Grow.refl e2)
theorem w_cons {v : V} {vs : List V} {tr : TA} (h : EvV te σ G v) (hr : EvVs tr σ G vs) : EvVs (tCons te tr) σ G (v :: vs) := fun G1 H1 e1 e2 Q q =>
  h G1 H1 e1 e2 _ fun G2 H2 g => hr G2 H2 (e1.trans g.g) g.gh _ fun G3 H3 g3 => q G3 H3 (g.trans g3)
theorem w_mono {vs : List V} (e : Ex G G1) (h : EvVs ta σ G vs) : EvVs ta σ G1 vs := fun G2 H2 a => h G2 H2 (e.trans a)
theorem x_call {pre : Hp → List V → Prop} {vs : List V} (h : EvVs ta σ G vs) (hp : ∀ G', Ex G G' → pre G' vs) : EvX (tCall (spX pre C) [] E ta) σ G C E := fun G1 H1 e1 e2 x Q =>
  h G1 H1 e1 e2 _ fun G2 H2 g => by
    rw [List.append_nil]
    exact ⟨G2, g.gh, hp G2 (e1.trans g.g), x.up g⟩
theorem v_call {pre : Hp → List V → V → Prop} {vs : List V} {v : V} {E : XK} (h : EvVs ta σ G vs) (hp : ∀ G', Ex G G' → pre G' vs v) : EvV (tCall (spV pre) [] E ta) σ G v := fun G1 H1 e1 e2 Q q =>
  h G1 H1 e1 e2 _ fun G2 H2 g => by
    rw [List.append_nil]
    exact ⟨G2, v, g.gh, hp G2 (e1.trans g.g), fun G3 H3 g3 => q G3 H3 (g.trans g3)⟩
theorem x_drop (h : EvX te σ G C E) (e : Ex G H) (x : XR C G H E) : tDrop te D σ H := h G H (Ex.refl _) e x _
theorem x_ret (h : EvX te σ G C E) (e : Ex G H) (x : XR C G H E) : tRet te D σ H := h G H (Ex.refl _) e x _
theorem x_asg {g : TG} (h : EvX te σ G C E) (e : Ex G H) (x : XR C G H E) : tAsg te g D σ H := h G H (Ex.refl _) e x _
theorem d_of {v : V} {d : PyData} (h : EvV te σ G v) (hd : DD G v d) : EvD te σ G d := d_v h hd
/-- if test: raise .. -/
theorem q_raise {b : Bool} (hb : b = true) (h : EvB t σ G b) (e : Ex G H) (k : ∀ G2 H2, Grow M0 G H G2 H2 → tu { D with nx := tz D } σ H2) : tSeq (tIfS t tu tw) tz D σ H :=
  h G H (Ex.refl G) e _ fun G2 H2 g => by
    rw [hb]
    exact k G2 H2 g
theorem s_raise {b : Bool} (hb : b = true) (h : EvB t σ G b) (e : Ex G H) (k : ∀ G2 H2, Grow M0 G H G2 H2 → tu D σ H2) : tIfS t tu tw D σ H :=
  h G H (Ex.refl G) e _ fun G2 H2 g => by
    rw [hb]
    exact k G2 H2 g
theorem q_pass {b : Bool} (hb : b = false) (h : EvB t σ G b) (e : Ex G H) (k : ∀ G2 H2, Grow M0 G H G2 H2 → tz D σ H2) : tSeq (tIfS t tu tNext) tz D σ H :=
  h G H (Ex.refl G) e _ fun G2 H2 g => by
    rw [hb]
    exact k G2 H2 g
theorem s_pass {b : Bool} (hb : b = false) (h : EvB t σ G b) (e : Ex G H) (k : ∀ G2 H2, Grow M0 G H G2 H2 → D.nx σ H2) : tIfS t tu tNext D σ H :=
  h G H (Ex.refl G) e _ fun G2 H2 g => by
    rw [hb]
    exact k G2 H2 g
theorem q_drop {d : PyData} (h : EvD te σ G d) (e : Ex G H) (k : ∀ G2 H2, Grow M0 G H G2 H2 → tz D σ H2) : tSeq (tDrop te) tz D σ H := h.go e fun _ G2 H2 g _ => k G2 H2 g
theorem q_dropV {v : V} (h : EvV te σ G v) (e : Ex G H) (k : ∀ G2 H2, Grow M0 G H G2 H2 → tz D σ H2) : tSeq (tDrop te) tz D σ H := h G H (Ex.refl G) e _ fun G2 H2 g => k G2 H2 g
theorem q_x {tr : TS} (h : EvX te σ G C E) (e : Ex G H) (x : XR C G H E) : tSeq (tDrop te) tr D σ H := h G H (Ex.refl _) e x _
theorem q_xasg {tr : TS} {g : TG} (h : EvX te σ G C E) (e : Ex G H) (x : XR C G H E) : tSeq (tAsg te g) tr D σ H := h G H (Ex.refl _) e x _
theorem s_retV {v : V} (h : EvV te σ G v) (e : Ex G H) (k : ∀ G2 H2, Grow M0 G H G2 H2 → D.rt v H2) : tRet te D σ H := h G H (Ex.refl G) e _ k
end
/-! ### odd values -/
inductive Odd (G : Hp) : V → String → Prop
  | non : Odd G .non "NoneType"
  | bl : Odd G (.bl true) "bool"
  | str : Odd G (.str "D") "str"
  | int : Odd G (.int (-1)) "int"
  | lst {a : Addr} : G a = some (.lst []) → Odd G (.ref a) "list"
  | dct {a : Addr} : G a = some (.dK []) → Odd G (.ref a) "dict"
  | tup {a : Addr} : DD G (.ref a) (.tuple [.str "settles", .int 0]) → Odd G (.ref a) "tuple"
section
variable {σ : VSt} {G H : Hp} {v : V} {T : String} {K : PySem.W.Frag} {ta tc : TE}
theorem Odd.up (h : Odd G v T) (e : Ex G H) : Odd H v T := by
  cases h with
  | non => exact .non
  | bl => exact .bl
  | str => exact .str
  | int => exact .int
  | lst q => exact .lst (e _ _ q)
  | dct q => exact .dct (e _ _ q)
  | tup q => exact .tup (q.up e)
theorem Odd.ty (h : Odd G v T) (e : Ex G H) : TyX K H v (.type T) := by
  cases h with
  | non => exact .base .non
  | bl => exact .base (.bl _)
  | str => exact .base (.str _)
  | int => exact .base (.int _)
  | lst q => exact .base (.lst (e _ _ q))
  | dct q => exact .base (.dK (e _ _ q))
  | tup q => exact q.ty e
/-- what isinstance answers of such a type -/
def isiB (T n : String) : Bool := T == n || (T == "bool" && n == "int")
theorem Odd.kit (h : Odd G v T) {n : String} (hn : n = "int" ∨ n = "bool" ∨ n = "str" ∨ n = "tuple") : kitB T n = some (isiB T n) := by
  rcases hn with rfl | rfl | rfl | rfl <;> cases h <;> decide +kernel
theorem d_isiV {n : String} {b : Bool} (h : EvV ta σ G v) (ht : ∀ H', Ex G H' → TyX K H' v (.type T)) (hc : EvV tc σ G (.ty n)) (hk : kitB T n = some b) : EvD (tCB (rIsi K) (tCons ta (tCons tc tNil))) σ G (.bool b) := .mk fun G1 H1 e1 e2 Q q =>
  h G1 H1 e1 e2 _ fun G2 H2 g2 => hc G2 H2 (e1.trans g2.g) g2.gh _ fun G3 H3 g3 =>
    ⟨v, .ty n, .type T, .type n, b, rfl, .ty n, ht H3 (((e1.trans g2.g).trans g3.g).trans g3.gh), kit_ty hk, q _ G3 H3 (g2.trans g3) (.bl _)⟩
theorem d_isiO {n : String} (h : EvV ta σ G v) (o : Odd G v T) (hc : EvV tc σ G (.ty n)) (hn : n = "int" ∨ n = "bool" ∨ n = "str" ∨ n = "tuple") : EvD (tCB (rIsi K) (tCons ta (tCons tc tNil))) σ G (.bool (isiB T n)) :=
  d_isiV h (fun H' e => o.ty e) hc (o.kit hn)
/-- .. of an own class -/
theorem d_isiC {C : Addr} {t : Value} {b : Bool} (h : EvV ta σ G v) (ht : ∀ H', Ex G H' → TyX K H' v t) (hc : EvV tc σ G (.ref C)) (hk : PySem.W.kitOne K t (.ref C) = some b) : EvD (tCB (rIsi K) (tCons ta (tCons tc tNil))) σ G (.bool b) := .mk fun G1 H1 e1 e2 Q q =>
  h G1 H1 e1 e2 _ fun G2 H2 g2 => hc G2 H2 (e1.trans g2.g) g2.gh _ fun G3 H3 g3 =>
    ⟨v, .ref C, t, .ref C, b, rfl, .own C, ht H3 (((e1.trans g2.g).trans g3.g).trans g3.gh), hk, q _ G3 H3 (g2.trans g3) (.bl _)⟩
end
/-! ### defs that raise -/
structure FnX (P : Program) (w : World) (K : PySem.W.Frag) (mg : Str → Option Value) (base : Heap) (x : Str) (k : Nat) (sp : Sp) : Prop where
  ex : ∃ (f : Addr) (fd : FuncData) (ps : List Str), FnOk P w K mg base (L2.CX P w) k f fd ps sp ∧ mg x = some (.ref f) ∧ PySem.W.keepIn K (.ref f) = true ∧ Binds K fd ps []
theorem pe_fx {X : Cx} {x : Str} {k : Nat} {sp : Sp} {E : XK} {p pos : Pos} {e : Expr} {es : List Expr} {t : TA} (F : FnX X.prog X.w X.K X.mg X.base x k sp) (hr : Room k X.A) (hx : Passes (L2.CX X.prog X.w) X E) (hg : Gl X x) (ha : PA X (e :: es) t) (hdb : (x == ("__debug__" : Str)) = false := by decide)
    (he : starEach (e :: es) X.env = (false, eval e X.env) :: starEach es X.env := by rfl) (hpl : (backTo pos (starEach es X.env)).any (·.1) = false := by rfl) :
    PE X (.Call (.Name x p) (e :: es) [] pos) (tCall sp [] E t) := by
  obtain ⟨f, fd, ps, F, hm, hk, hb⟩ := F.ex
  exact pe_call F hr hg hm hk hb .nil hx ha hdb he hpl
/-- in a def's body: what leaves it is what the def lets out -/
theorem passB {X : Cx} {W : XK} (tk : Takes X fun c d _ H => W c d H) : Passes (L2.CX X.prog X.w) X W := passes_call tk fun _ _ _ _ z => z
/-- an own class of the exceptions -/
structure ExOk (K : PySem.W.Frag) (mg : Str → Option Value) (x : Str) (C : Addr) : Prop where
  g : mg x = some (.ref C)
  x : PySem.W.excIn K C [.type "ValueError", .type "Exception", .type "BaseException", .type "object"] "ValueError.__new__" = true
  k : PySem.W.keepIn K (.ref C) = true
  b : PySem.W.subIn K (.ref C) (.type "BaseException") = some true
  t : PySem.W.typeIn K (.ref C) = some (.type "type")
theorem ps_exc {X : Cx} {W : WX} {x m : Str} {C : Addr} {j : Nat} {p p2 pos pos2 : Pos} (hc : X.calm = true) (tk : Takes X W) (V : ExOk X.K X.mg x C) (hg : Gl X x) (hdb : (x == ("__debug__" : Str)) = false := by decide) :
    PS X (.Raise (some (.Call (.Name x p) [.Constant (.str m) j p2] [] pos)) none pos2) (fun _ σ H => W (.ref C) none σ H) := ps_raise hc tk (pmk_own PySem.F.excBase_ValueError V.x V.g V.k (raises_own V.b V.t) hg hdb)
end CL
set_option Elab.async false
set_option linter.all false
set_option maxRecDepth 100000
set_option maxHeartbeats 4000000
/-! Stars that raise; walks over a tuple of any values. -/
namespace CL
open PySem L2
section
variable {σ : VSt} {G H : Hp} {te tl : TE} {tt : TT} {K : PySem.W.Frag} {g : TG} {vs : List Nat}
/-- [te for g in t if tt], t a tuple of any values -/
theorem m_lcV {a : Addr} {xs : List V} (p : V → Bool) (f : V → PyData) (h : EvV tl σ G (.ref a)) (ha : Rd G a (.tup xs)) (hl : xs.length ≤ 50000)
    (hg : ∀ (x : V) (G1 H1 : Hp), x ∈ xs → Ex G G1 → Ex G1 H1 → ∀ Q : VSt → Hp → Prop, (∀ σ2, wipe σ2 vs = wipe σ vs → EvB tt σ2 G1 (p x) → (p x = true → EvD te σ2 G1 (f x)) → Q σ2 H1) → g x (wipe σ vs) H1 Q) :
    EvM (tLc (iTup K tl) g tt te vs) σ G ((xs.filter p).map f) := fun G1 H1 e1 e2 Q q =>
  h G1 H1 e1 e2 _ fun G2 H2 g2 => by
    have hp := up_rd ha (e1.trans g2.g)
    refine ⟨a, rfl, ⟨xs, .inl (up_rd hp g2.gh)⟩, fun D hD => ?_⟩
    refine lc_tup (K := K) (a := a) (xs := xs) (fun i H' => ∃ G', Cw G2 H2 D H2 (((xs.take i).filter p).map f) G' H') ⟨G2, Cw.start g2.gh hD⟩ (fun i H' _ ⟨G', c⟩ => .inl (up_rd hp (c.gr.g.trans c.gr.gh))) (fun i x H' hi ⟨G', c⟩ => ?_) (fun H' ⟨G', c⟩ => ?_)
    · refine hg x G' H' (List.mem_of_getElem? hi) ((e1.trans g2.g).trans c.gr.g) c.gr.gh _ fun σ2 hw ht he => ⟨hw, ?_⟩
      exact c.turn (by have := filter_len (xs.take i) p f; rw [List.length_take] at this; omega) ht he fun G3 H3 c3 => ⟨G3, by rw [filter_step xs p f i x hi]; exact c3⟩
    · rw [List.take_length] at c
      exact q _ _ _ (g2.there _ hD) (g2.trans c.gr) c.ml
end
/-- what a def with a star promises, by what it promises of the laid tuple -/
def spStar (n : Nat) (sp : Sp) : Sp := fun vs H Q E => ∃ ws rest, vs = ws ++ rest ∧ ws.length = n ∧ rest.length ≤ sizeLine ∧ ∀ p ob, H p = Option.none → ob.dict = Option.none → sp (ws ++ [V.ref p]) (upd H p (.frz ob (.tup rest))) Q E
theorem Fun.okSX {P : Program} {w : World} {K : PySem.W.Frag} {mg : Str → Option Value} {base : Heap} {x qual : Str} {st : Stmt} {f : Addr} {fd : FuncData} {N ps : List Str} {pv : Str} {k : Nat} {sp : Sp} (F : Fun K x qual st f fd) (S : FnScope N (ps ++ [pv]) (defScope st))
    (hb : ∀ (kV doc pm : Value) (an : Option Addr) (cdv ct : Value) (us rest : List Value), us.length = ps.length → bindArgs (PySem.W.fnOf x qual (defArgs st) (defBody st) (defScope st) .none kV doc pm an cdv ct) ⟨us ++ rest, []⟩ = (newTuple rest >>= fun t => pure (ps.zip us ++ [(pv, t)])))
    (hbody : ∀ (cdv : Value) (A : Around) (outer : List Env) (s : Shared) (H : Hp) (vs : List V) (Q : VK) (E : XK), Room k (A.deeper (PyProof.Rows.envOfC qual (defScope st) s.heap.objs.size f cdv)) → sp vs H Q E →
      ∃ t, PSs (cxOf (L2.CX P w) P w K mg base N qual (defScope st) f cdv A outer s H E) (defBody st) t ∧ t { nx := fun _ H' => Q .non H', rt := Q } (start N vs) H) :
    FnR P w K mg base (L2.CX P w) (k + 1) f (spStar ps.length sp) := by
  obtain ⟨oc, od, kV, doc, pm, an, cdv, ct, osl, rfl, lk, hcd⟩ := F.ex
  exact fn_starF lk hcd S StX.cxUp (hb kV doc pm an cdv ct) fun A outer s H vs Q E hr hsp => hbody cdv A outer s H vs Q E hr hsp
section
variable {σ : VSt} {G H : Hp} {ta : TA} {tf : TE} {C D : Addr} {E : XK} {pre : Hp → List V → Prop} {n : Nat}
/-- C(..) raises in __init__ -/
theorem x_makeS {us rest : List V} (h : EvVs ta σ G (us ++ rest)) (hl : us.length + 1 = n) (hz : rest.length ≤ 100000)
    (hp : ∀ (G' : Hp) (x p : Addr) (ob : Obj), Ex G G' → G' p = some (.frz ob (.tup rest)) → ob.dict = none → pre G' (.ref x :: (us ++ [.ref p]))) : EvX (StX.tMakeR C (spStar n (spX pre D)) E ta) σ G D E := fun G1 H1 e1 e2 xr Q =>
  h G1 H1 e1 e2 _ fun G2 H2 g2 x dx hx hdx hne => by
    have g4 : Grow M0 G1 H1 G2 (upd H2 dx (.own x)) := g2.trans (Grow.mnew g2.gh hdx)
    have hx4 : (upd H2 dx (.own x)) x = none := by rw [upd_ne (fun z => hne z.symm)]; exact hx
    have g5 : Grow M0 G1 H1 G2 (upd (upd H2 dx (.own x)) x (.ins C dx [])) := g4.trans (Grow.mnew g4.gh hx4)
    refine ⟨.ref x :: us, rest, rfl, hl, Evl.sz_of hz, fun p ob hp0 hob => ?_⟩
    have g6 := g5.trans (Grow.laid (o := .frz ob (.tup rest)) g5.gh hp0)
    exact ⟨upd G2 p (.frz ob (.tup rest)), g6.gh, hp _ x p ob (e1.trans g6.g) upd_same hob, xr.up g6⟩
/-- .. a class whose __init__ has no star -/
theorem x_make {us : List V} (h : EvVs ta σ G us) (hp : ∀ (G' : Hp) (x : Addr), Ex G G' → pre G' (.ref x :: us)) : EvX (StX.tMakeR C (spX pre D) E ta) σ G D E := fun G1 H1 e1 e2 xr Q =>
  h G1 H1 e1 e2 _ fun G2 H2 g2 x dx hx hdx hne => by
    have g4 : Grow M0 G1 H1 G2 (upd H2 dx (.own x)) := g2.trans (Grow.mnew g2.gh hdx)
    have hx4 : (upd H2 dx (.own x)) x = none := by rw [upd_ne (fun z => hne z.symm)]; exact hx
    have g5 : Grow M0 G1 H1 G2 (upd (upd H2 dx (.own x)) x (.ins C dx [])) := g4.trans (Grow.mnew g4.gh hx4)
    exact ⟨G2, g5.gh, hp _ x (e1.trans g2.g), xr.up g5⟩
/-- o(..), o an instance -/
theorem x_callO {X : Cx} {a dx : Addr} {fs : List (Str × V)} {vs : List V} (hf : EvV tf σ G (.ref a)) (ha : G a = some (.ins C dx fs)) (h : EvVs ta σ G vs) (hp : ∀ G', Ex G G' → pre G' (.ref a :: vs)) : EvX (StX.tCallO X C (spX pre D) E tf ta) σ G D E := fun G1 H1 e1 e2 xr Q =>
  hf G1 H1 e1 e2 _ fun G2 H2 g2 => ⟨a, rfl, h G2 H2 (e1.trans g2.g) g2.gh _ fun G3 H3 g3 =>
    ⟨.inr ⟨dx, fs, g3.gh _ _ (g3.g _ _ (g2.g _ _ (e1 _ _ ha)))⟩, G3, g3.gh, hp G3 ((e1.trans g2.g).trans g3.g), xr.up (g2.trans g3)⟩⟩
end
end CL
set_option Elab.async false
set_option linter.all false
set_option maxRecDepth 100000
set_option maxHeartbeats 4000000
/-! Properties by the field they give; o + x of own classes, where the method raises. -/
namespace PySem.W
open PySem PySem.Calls PyProof.Rows
section
variable {prog : Program} {w : World} {A : Around} {E : Value → Shared → Prop} {s : Shared} {K : Frag} {x C f : Addr} {ox : Obj} {od : Option Obj} {nm : String} {op : Operator} {b : Value} {Q : Value → Shared → Prop}
/-- what the left class must be -/
structure OpC (K : Frag) (C : Addr) (op : Operator) (f : Addr) : Prop where
  hc : selfFirst K C = true
  hs : findIn K (.ref C) (PySem.dunder op.info.2) = some (some (.ref f))
  hf : isFn K (.ref f) = true
  hr : findIn K (.ref C) (dunderR op.info.2) = some none
theorem bin_same (X : K.In s.heap) (I : InstAt s.heap x ox C od) (hb : Looks (model prog w) s.heap (typeOf b) (.ref C)) (o : OpC K C op f) (h : wpAny (model prog w) A (call (.ref f) [.ref x, b]) (fun _ _ => False) E s) : wpAny (model prog w) A (binaryOp op (.ref x) b) Q E s := by
  obtain ⟨hc, hs, hf, hr⟩ := o
  obtain ⟨cd, rest, hcd, hm⟩ := ksp_first hc
  rcases hi : op.info with ⟨sym, nm'⟩
  rw [hi] at hs hr
  dsimp only at hs hr
  have one := ksp_try (Q := Q) X I hs hf (wpAny_mono h (fun _ _ z => z.elim) fun _ _ z => z)
  obtain ⟨hh, g, d, tt, os⟩ := s
  have L1 : Looks (model prog w) hh (typeOf (.ref x)) (.ref C) := I.type
  have L3 : Looks (model prog w) hh (fillsNumberSlot (.ref C) nm') true := fills_K X hcd hm hs
  have he : (Value.ref C == Value.ref C) = true := beq_self_eq_true _
  simp only [binaryOp, hi]
  refine wpAny_holding (wpAny_bind ?_)
  unfold binaryOp1
  refine wpAny_bind (L1.at (wpAny_bind (hb.at (wpAny_bind (L3.at ?_)))))
  simp only [he, if_true]
  ksp_lk
  refine wpAny_mono one (fun r s' hr' => ?_) fun _ _ e => e
  obtain ⟨v, rfl, hq⟩ := hr'
  ksp_lk
  exact hq
theorem bin_ty {T : String} {fo ro : Option Value} (X : K.In s.heap) (I : InstAt s.heap x ox C od) (hb : Looks (model prog w) s.heap (typeOf b) (.type T)) (o : OpC K C op f) (h1 : findIn K (.type T) (PySem.dunder op.info.2) = some fo) (h2 : findIn K (.type T) (dunderR op.info.2) = some ro)
    (hsub : subIn K (.type T) (.ref C) = some false) (h : wpAny (model prog w) A (call (.ref f) [.ref x, b]) (fun _ _ => False) E s) : wpAny (model prog w) A (binaryOp op (.ref x) b) Q E s := by
  obtain ⟨hc, hs, hf, hr⟩ := o
  obtain ⟨cd, rest, hcd, hm⟩ := ksp_first hc
  rcases hi : op.info with ⟨sym, nm'⟩
  rw [hi] at hs hr h1 h2
  dsimp only at hs hr h1 h2
  have one := ksp_try (Q := Q) X I hs hf (wpAny_mono h (fun _ _ z => z.elim) fun _ _ z => z)
  obtain ⟨hh, g, d, tt, os⟩ := s
  have L1 : Looks (model prog w) hh (typeOf (.ref x)) (.ref C) := I.type
  have L3 : Looks (model prog w) hh (fillsNumberSlot (.ref C) nm') true := fills_K X hcd hm hs
  have L4 : Looks (model prog w) hh (fillsNumberSlot (.type T) nm') ((fo.isSome && !isSeqSlot fo) || (ro.isSome && !isSeqSlot ro)) := ksp_fillsT X h1 h2
  have L5 : Looks (model prog w) hh (isSubtype (.type T) (.ref C)) false := looks_subIn X hsub
  have L6 : Looks (model prog w) hh (numberSlotInPython (.ref C) nm') true := ksp_inPy X hs hr (.inl rfl)
  have L7 : Looks (model prog w) hh (numberSlotInPython (.type T) nm') false := Looks.of_pure rfl
  have L8 : Looks (model prog w) hh (typeLookup (.type T) (dunderR nm')) ro := looks_findIn X h2
  generalize ((fo.isSome && !isSeqSlot fo) || (ro.isSome && !isSeqSlot ro)) = right at L4
  have hne : (Value.ref C == Value.type T) = false := Bool.eq_false_iff.mpr fun q => by cases beq_iff_eq.mp q
  simp only [binaryOp, hi]
  refine wpAny_holding (wpAny_bind ?_)
  unfold binaryOp1
  refine wpAny_bind (L1.at (wpAny_bind (hb.at (wpAny_bind (L3.at ?_)))))
  simp only [hne, Bool.false_eq_true, if_false]
  cases right with
  | _ =>
    ksp_lk
    refine wpAny_mono one (fun r s' hr' => ?_) fun _ _ e => e
    obtain ⟨v, rfl, hq⟩ := hr'
    ksp_lk
    exact hq
/-- a class that says nothing of the operator -/
theorem fills_none {D : Addr} {cd : ClassData} (X : K.In s.heap) (hcd : clsIn K D = some cd) (hm : cd.mro = [.ref D, .type "object"]) (h1 : findIn K (.ref D) (PySem.dunder nm) = some none) (h2 : findIn K (.ref D) (dunderR nm) = some none)
    (h3 : findIn K (.type "object") (PySem.dunder nm) = some none) (h4 : findIn K (.type "object") (dunderR nm) = some none) : Looks (model prog w) s.heap (fillsNumberSlot (.ref D) nm) false := by
  intro A' Q' E' s' k q
  have Lm : Looks (model prog w) s.heap (mroOf (.ref D)) cd.mro := (looks_clsIn X hcd).andThen (f := fun cd => pure cd.mro) .now
  have Lm' := Lm.keeps k
  have X' : K.In s'.heap := X.keeps k
  obtain ⟨hh, g, d, tt, os⟩ := s'
  have L1 : Looks (model prog w) hh (typeLookup (.ref D) (PySem.dunder nm)) none := looks_findIn X' h1
  have L2 : Looks (model prog w) hh (typeLookup (.ref D) (dunderR nm)) none := looks_findIn X' h2
  have L3 : Looks (model prog w) hh (typeLookup (.type "object") (PySem.dunder nm)) none := looks_findIn X' h3
  have L4 : Looks (model prog w) hh (typeLookup (.type "object") (dunderR nm)) none := looks_findIn X' h4
  unfold fillsNumberSlot
  refine wpAny_bind (Lm'.at ?_)
  rw [hm, List.anyM_cons]
  refine wpAny_bind ?_
  repeat lk
  exact q
theorem bin_own {D : Addr} {cd : ClassData} (X : K.In s.heap) (I : InstAt s.heap x ox C od) (hb : Looks (model prog w) s.heap (typeOf b) (.ref D)) (o : OpC K C op f) (hne : (Value.ref C == Value.ref D) = false) (hcd : clsIn K D = some cd) (hm : cd.mro = [.ref D, .type "object"])
    (h1 : findIn K (.ref D) (PySem.dunder op.info.2) = some none) (h2 : findIn K (.ref D) (dunderR op.info.2) = some none) (h3 : findIn K (.type "object") (PySem.dunder op.info.2) = some none) (h4 : findIn K (.type "object") (dunderR op.info.2) = some none)
    (h : wpAny (model prog w) A (call (.ref f) [.ref x, b]) (fun _ _ => False) E s) : wpAny (model prog w) A (binaryOp op (.ref x) b) Q E s := by
  obtain ⟨hc, hs, hf, hr⟩ := o
  obtain ⟨cd', rest, hcd', hm'⟩ := ksp_first hc
  rcases hi : op.info with ⟨sym, nm'⟩
  rw [hi] at hs hr h1 h2 h3 h4
  dsimp only at hs hr h1 h2 h3 h4
  have one := ksp_try (Q := Q) X I hs hf (wpAny_mono h (fun _ _ z => z.elim) fun _ _ z => z)
  have L4 : Looks (model prog w) s.heap (fillsNumberSlot (.ref D) nm') false := fills_none X hcd hm h1 h2 h3 h4
  obtain ⟨hh, g, d, tt, os⟩ := s
  have L1 : Looks (model prog w) hh (typeOf (.ref x)) (.ref C) := I.type
  have L3 : Looks (model prog w) hh (fillsNumberSlot (.ref C) nm') true := fills_K X hcd' hm' hs
  simp only [binaryOp, hi]
  refine wpAny_holding (wpAny_bind ?_)
  unfold binaryOp1
  refine wpAny_bind (L1.at (wpAny_bind (hb.at (wpAny_bind (L3.at ?_)))))
  simp only [hne, Bool.false_eq_true, if_false]
  ksp_lk
  refine wpAny_mono one (fun r s' hr' => ?_) fun _ _ e => e
  obtain ⟨v, rfl, hq⟩ := hr'
  ksp_lk
  exact hq
end
end PySem.W
namespace CL
open PySem L2
/-- the right operand's type is served -/
inductive RArg (K : PySem.W.Frag) (C : Addr) (op : Operator) : Value → Prop
  | same : RArg K C op (.ref C)
  | ty {T : String} {fo ro : Option Value} : PySem.W.findIn K (.type T) (PySem.dunder op.info.2) = some fo → PySem.W.findIn K (.type T) (dunderR op.info.2) = some ro → PySem.W.subIn K (.type T) (.ref C) = some false → RArg K C op (.type T)
  | own {D : Addr} {cd : ClassData} : (Value.ref C == Value.ref D) = false → PySem.W.clsIn K D = some cd → cd.mro = [.ref D, .type "object"] → PySem.W.findIn K (.ref D) (PySem.dunder op.info.2) = some none → PySem.W.findIn K (.ref D) (dunderR op.info.2) = some none →
      PySem.W.findIn K (.type "object") (PySem.dunder op.info.2) = some none → PySem.W.findIn K (.type "object") (dunderR op.info.2) = some none → RArg K C op (.ref D)
def rOwn (K : PySem.W.Frag) (C : Addr) (op : Operator) (sp : Sp) (E : XK) : R2 := fun x y H _ => ∃ a dx fs t, x = .ref a ∧ H a = some (.ins C dx fs) ∧ TyX K H y t ∧ RArg K C op t ∧ sp [.ref a, y] H (fun _ _ => False) E
theorem op_own {X : Cx} {op : Operator} {C f : Addr} {k : Nat} {sp : Sp} {E : XK} (o : PySem.W.OpC X.K C op f) (F : FnR X.prog X.w X.K X.mg X.base (L2.CX X.prog X.w) k f sp) (hr : Room k X.A) (hx : Passes (L2.CX X.prog X.w) X E) : OpR X (binaryOp op) (rOwn X.K C op sp E) := by
  intro pins s σ H x y v u Q I rx ry h
  obtain ⟨a, dx, fs, t, rfl, ha, ht, hr', q⟩ := h
  obtain rfl : v = Value.ref a := rx
  obtain ⟨mA, O, _⟩ := ins_get I.hok ha
  obtain ⟨od, J, _⟩ := O.look
  obtain ⟨Pz, Z, p, _⟩ := kit_of I ry ht
  have hb := Z.ty (model X.prog X.w) s.heap I.kIn p
  have go : wpAny (model X.prog X.w) X.A (call (.ref f) [.ref a, u]) (fun _ _ => False) X.xe s := wpAny_call (codeAny_mono (run_fnR (us := [.ref a, u]) (vs := [.ref a, y]) F hr hx I (.cons rfl (.cons ry .nil)) q) fun r s' z => by
    cases r with
    | error e => exact z
    | ok fl =>
      cases fl with
      | ret u =>
        obtain ⟨_, _, _, _, z⟩ := z
        exact z
      | next => exact z
      | brk => exact z
      | cont => exact z)
  cases hr' with
  | same => exact PySem.W.bin_same I.kIn J hb o go
  | ty h1 h2 h3 => exact PySem.W.bin_ty I.kIn J hb o h1 h2 h3 go
  | own h1 h2 h3 h4 h5 h6 h7 => exact PySem.W.bin_own I.kIn J hb o h1 h2 h3 h4 h5 h6 h7 go
theorem x_op {K : PySem.W.Frag} {σ : VSt} {G : Hp} {ta tb : TE} {C D a dx : Addr} {fs : List (Str × V)} {op : Operator} {E : XK} {pre : Hp → List V → Prop} {y : V} {t : Value} (h1 : EvV ta σ G (.ref a)) (ha : G a = some (.ins C dx fs)) (h2 : EvV tb σ G y) (ht : ∀ H', Ex G H' → TyX K H' y t) (hr : RArg K C op t)
    (hp : ∀ G', Ex G G' → pre G' [.ref a, y]) : EvX (tOp (rOwn K C op (spX pre D) E) ta tb) σ G D E := fun G1 H1 e1 e2 xr Q =>
  h1 G1 H1 e1 e2 _ fun G2 H2 g2 => h2 G2 H2 (e1.trans g2.g) g2.gh _ fun G3 H3 g3 =>
    have e := (e1.trans g2.g).trans g3.g
    ⟨a, dx, fs, t, rfl, (e.trans g3.gh) _ _ ha, ht _ (e.trans g3.gh), hr, G3, g3.gh, hp G3 e, xr.up (g2.trans g3)⟩
/-- a property by its field -/
structure PrOk (P : Program) (w : World) (K : PySem.W.Frag) (mg : Str → Option Value) (base : Heap) (C : Addr) (f fld : Str) : Prop where
  ex : ∃ (p g : Addr) (fd : FuncData), PropOf K C f p g ∧ FnOk P w K mg base CX0 1 g fd ["self"] (getSp C fld) ∧ Binds K fd ["self"] []
theorem pe_prK {X : Cx} {e : Expr} {te : TE} {C : Addr} {f fld : Str} {pos : Pos} (he : PE X e te) (c : Cls X.K C) (F : PrOk X.prog X.w X.K X.mg X.base C f fld) (hr : Room 2 X.A) (hb : attributeBase e f X.env (eval e X.env) = eval e X.env := by rfl) : PE X (.Attribute e f pos) (tProp C (getSp C fld) [] E0 te) := by
  obtain ⟨p, g, fd, hp, F, hbd⟩ := F.ex
  exact pe_prop (E := E0) he c hp F hr hbd .nil pass0 hb
theorem v_pr {σ : VSt} {G : Hp} {te : TE} {C a dx : Addr} {fs : List (Str × V)} {fld : Str} {v : V} (h : EvV te σ G (.ref a)) (ha : G a = some (.ins C dx fs)) (hl : fs.lookup fld = some v) : EvV (tProp C (getSp C fld) [] E0 te) σ G v := fun G1 H1 e1 e2 Q q =>
  h G1 H1 e1 e2 _ fun G2 H2 g => by
    have z := g.gh _ _ (g.g _ _ (e1 _ _ ha))
    exact ⟨a, dx, fs, rfl, z, a, dx, fs, v, rfl, z, hl, q G2 H2 g⟩
end CL
set_option Elab.async false
set_option linter.all false
set_option maxRecDepth 100000
set_option maxHeartbeats 4000000
/-! Methods, classes, instances, classmethods: each with its promise in one word. -/
namespace CL
open PySem L2
structure MeOk (P : Program) (w : World) (K : PySem.W.Frag) (mg : Str → Option Value) (base : Heap) (CX : CXT) (C : Addr) (m : Str) (k : Nat) (sp : Sp) : Prop where
  ex : ∃ (g : Addr) (fd : FuncData) (ps : List Str), Meth K C m g ∧ FnOk P w K mg base CX k g fd ps sp ∧ Binds K fd ps []
structure MkOk (P : Program) (w : World) (K : PySem.W.Frag) (mg : Str → Option Value) (base : Heap) (CX : CXT) (C : Addr) (k : Nat) (sp : Sp) : Prop where
  ex : ∃ (f : Addr), Mk K C f ∧ FnR P w K mg base CX k f sp
structure CaOk (P : Program) (w : World) (K : PySem.W.Frag) (mg : Str → Option Value) (base : Heap) (CX : CXT) (C : Addr) (k : Nat) (sp : Sp) : Prop where
  ex : ∃ (f : Addr), StX.CallO K C f ∧ FnR P w K mg base CX k f sp
structure CmOk (P : Program) (w : World) (K : PySem.W.Frag) (mg : Str → Option Value) (base : Heap) (CX : CXT) (C : Addr) (m : Str) (k : Nat) (sp : Sp) : Prop where
  ex : ∃ (mc : Value) (p g : Addr), ClX.CRead K C mc ∧ ClX.CMet K C mc m p g ∧ FnR P w K mg base CX k g sp
structure OpOk (P : Program) (w : World) (K : PySem.W.Frag) (mg : Str → Option Value) (base : Heap) (C : Addr) (op : Operator) (k : Nat) (sp : Sp) : Prop where
  ex : ∃ (f : Addr), PySem.W.OpC K C op f ∧ FnR P w K mg base (L2.CX P w) k f sp
section
variable {X : Cx} {CX : CXT} {k : Nat} {C : Addr} {m x : Str} {sp : Sp} {E : XK} {o fe e : Expr} {es : List Expr} {ta tf : TE} {t : TA} {p pos apos : Pos}
theorem pe_meK {pl : Sem Bool} (he : PE X o ta) (c : Cls X.K C) (F : MeOk X.prog X.w X.K X.mg X.base CX C m k sp) (hr : Room k X.A) (hx : Passes CX X E) (ha : PA X (e :: es) t)
    (hst : starEach (e :: es) X.env = (false, eval e X.env) :: starEach es X.env := by rfl) (hpl : (backTo pos (starEach es X.env)).any (·.1) = false := by rfl)
    (ht : eval (.Call (.Attribute o m apos) (e :: es) [] pos) X.env = (do
      let ov ← eval o X.env
      standAt apos.atName
      let (f, first) ← holding [ov] (getMethod ov m pl)
      callWith pos f first (backTo pos (starEach (e :: es) X.env)) (backToKw pos (keywordEach [] X.env))) := by rfl) : PE X (.Call (.Attribute o m apos) (e :: es) [] pos) (tMeth C m sp [] E ta t) := by
  obtain ⟨g, fd, ps, hm, F, hb⟩ := F.ex
  exact pe_meth he c hm F hr hb .nil hx ha hst hpl ht
theorem pe_meK0 {pl : Sem Bool} (he : PE X o ta) (c : Cls X.K C) (F : MeOk X.prog X.w X.K X.mg X.base CX C m k sp) (hr : Room k X.A) (hx : Passes CX X E)
    (ht : eval (.Call (.Attribute o m apos) [] [] pos) X.env = (do
      let ov ← eval o X.env
      standAt apos.atName
      let (f, first) ← holding [ov] (getMethod ov m pl)
      callWith pos f first (backTo pos (starEach [] X.env)) (backToKw pos (keywordEach [] X.env))) := by rfl) : PE X (.Call (.Attribute o m apos) [] [] pos) (tMeth C m sp [] E ta tNil) := by
  obtain ⟨g, fd, ps, hm, F, hb⟩ := F.ex
  exact pe_meth0 he c hm F hr hb .nil hx ht
theorem pe_mkK (F : MkOk X.prog X.w X.K X.mg X.base CX C k sp) (hr : Room (k + 1) X.A) (hg : Gl X x) (hm : X.mg x = some (.ref C)) (hx : Passes CX X E) (ha : PA X (e :: es) t) (hdb : (x == ("__debug__" : Str)) = false := by decide)
    (he : starEach (e :: es) X.env = (false, eval e X.env) :: starEach es X.env := by rfl) (hpl : (backTo pos (starEach es X.env)).any (·.1) = false := by rfl) : PE X (.Call (.Name x p) (e :: es) [] pos) (StX.tMakeR C sp E t) := by
  obtain ⟨f, M, F⟩ := F.ex
  exact StX.pe_makeR M F hr hg hm hx ha hdb he hpl
theorem pe_mkSK (F : MkOk X.prog X.w X.K X.mg X.base CX C k sp) (hr : Room (k + 1) X.A) (hg : Gl X x) (hm : X.mg x = some (.ref C)) (hx : Passes CX X E) (ha : PA X (e :: es) t) (hd : (x == ("__debug__" : Str)) = false := by decide)
    (he : starEach (e :: es) X.env = (false, eval e X.env) :: starEach es X.env := by rfl) (hst : (backTo pos (starEach es X.env)).any (·.1) = true := by rfl) : PE X (.Call (.Name x p) (e :: es) [] pos) (StX.tMakeR C sp E t) := by
  obtain ⟨f, M, F⟩ := F.ex
  exact pe_makeSG M F hr hg hm hx ha hd he hst
theorem pe_caK (hf : PE X fe tf) (F : CaOk X.prog X.w X.K X.mg X.base CX C k sp) (hr : Room k X.A) (hx : Passes CX X E) (ha : PA X (e :: es) t)
    (ht : eval (.Call fe (e :: es) [] pos) X.env = (do callWith pos (← eval fe X.env) [] (backTo pos (starEach (e :: es) X.env)) (backToKw pos (keywordEach [] X.env))) := by rfl)
    (he : starEach (e :: es) X.env = (false, eval e X.env) :: starEach es X.env := by rfl) (hpl : (backTo pos (starEach es X.env)).any (·.1) = false := by rfl) : PE X (.Call fe (e :: es) [] pos) (StX.tCallO X C sp E tf t) := by
  obtain ⟨f, c, F⟩ := F.ex
  exact StX.pe_callO hf c F hr hx ha ht he hpl
theorem pe_cmK {pl : Sem Bool} (he : PE X o ta) (F : CmOk X.prog X.w X.K X.mg X.base CX C m k sp) (hr : Room k X.A) (hx : Passes CX X E) (ha : PA X (e :: es) t)
    (hst : starEach (e :: es) X.env = (false, eval e X.env) :: starEach es X.env := by rfl) (hpl : (backTo pos (starEach es X.env)).any (·.1) = false := by rfl)
    (ht : eval (.Call (.Attribute o m apos) (e :: es) [] pos) X.env = (do
      let ov ← eval o X.env
      standAt apos.atName
      let (f, first) ← holding [ov] (getMethod ov m pl)
      callWith pos f first (backTo pos (starEach (e :: es) X.env)) (backToKw pos (keywordEach [] X.env))) := by rfl) : PE X (.Call (.Attribute o m apos) (e :: es) [] pos) (ClX.tCMeth C sp E ta t) := by
  obtain ⟨mc, pp, g, r, c, F⟩ := F.ex
  exact ClX.pe_cmeth (pl := pl) he r c F hr hx ha hst hpl ht
theorem pe_opK {op : Operator} {a b : Expr} {tb : TE} (F : OpOk X.prog X.w X.K X.mg X.base C op k sp) (hr : Room k X.A) (hx : Passes (L2.CX X.prog X.w) X E) (ha : PE X a ta) (hb : PE X b tb) : PE X (.BinOp a op b pos) (tOp (rOwn X.K C op sp E) ta tb) := by
  obtain ⟨f, o, F⟩ := F.ex
  exact pe_op (op_own o F hr hx) ha hb
end
section
variable {σ : VSt} {G : Hp} {ta : TE} {t : TA} {C D a dx : Addr} {fs : List (Str × V)} {m : Str} {E : XK} {pre : Hp → List V → Prop} {vs : List V}
theorem x_meth (h : EvV ta σ G (.ref a)) (ha : G a = some (.ins C dx fs)) (hl : fs.lookup m = none) (hv : EvVs t σ G vs) (hp : ∀ G', Ex G G' → pre G' (.ref a :: vs)) : EvX (tMeth C m (spX pre D) [] E ta t) σ G D E := fun G1 H1 e1 e2 xr Q =>
  h G1 H1 e1 e2 _ fun G2 H2 g2 => ⟨a, dx, fs, rfl, g2.gh _ _ (g2.g _ _ (e1 _ _ ha)), hl, hv G2 H2 (e1.trans g2.g) g2.gh _ fun G3 H3 g3 => by
    rw [List.append_nil]
    exact ⟨G3, g3.gh, hp G3 ((e1.trans g2.g).trans g3.g), xr.up (g2.trans g3)⟩⟩
theorem x_cmeth (h : EvV ta σ G (.ref C)) (hv : EvVs t σ G vs) (hp : ∀ G', Ex G G' → pre G' (.ref C :: vs)) : EvX (ClX.tCMeth C (spX pre D) E ta t) σ G D E := fun G1 H1 e1 e2 xr Q =>
  h G1 H1 e1 e2 _ fun G2 H2 g2 => ⟨rfl, hv G2 H2 (e1.trans g2.g) g2.gh _ fun G3 H3 g3 => ⟨G3, g3.gh, hp G3 ((e1.trans g2.g).trans g3.g), xr.up (g2.trans g3)⟩⟩
end
end CL
set_option Elab.async false
set_option linter.all false
set_option maxRecDepth 100000
set_option maxHeartbeats 4000000
/-! max of a tuple, a text times a number, list(tuple), calls with data that raise. -/
namespace CL
open PySem L2
/-- max(t), t a tuple of whole numbers -/
def rMaxT (K : PySem.W.Frag) : List V → Hp → VK → Prop := fun xs H Q => ∃ (a : Addr) (m i : Int) (ns : List Int), xs = [.ref a] ∧ SqT K H a ((m :: ns).map V.int) ∧ PySem.W.maxD (.int m) (ns.map PyData.int) = .int i ∧ PySem.W.AlikeAll ((m :: ns).map PyData.int) ∧ Q (.int i) H
theorem call_maxT {X : Cx} (hc : X.calm = true) (hu : X.A.units + 64 < cLine) : CallR X (.builtin "max") (rMaxT X.K) := by
  intro pins s σ H xs us Q I r h
  obtain ⟨a, m, i, ns, rfl, ha, hm, hal, q⟩ := h
  obtain ⟨u, rfl, ru⟩ := r.one
  cases ru
  obtain ⟨its, rv, pl, _⟩ := I.tuple ha
  have hd : DpAll X.K H ((m :: ns).map V.int) ((m :: ns).map PyData.int) := by
    generalize m :: ns = l
    induction l with
    | nil => exact .nil
    | cons y l ih => exact .cons (.int _) ih
  obtain ⟨as, hr⟩ := Dp.readsAll I _ _ its hd rv
  have dp : PyData.depthAll ((m :: ns).map PyData.int) ≤ 1 := by
    generalize m :: ns = l
    induction l with
    | nil => simp [PyData.depthAll]
    | cons y l ih => simp only [List.map_cons, PyData.depthAll, PyData.depth]; omega
  refine PySem.W.max_tuple_data (I.ok.hd hc) pl (by simpa using hr) hal (by rw [List.map_cons] at dp; omega) fun j v h' tk bs hv hrd kp => ?_
  rw [hm] at hrd
  cases hrd with
  | int => exact ⟨.int i, H, I.kept kp, ⟨_, rfl⟩, q⟩
theorem crMaxTK (K : PySem.W.Frag) {X : Cx} (hc : X.calm = true) (hu : X.A.units + 64 < cLine) (h : X.K = K := by rfl) : CallR X (.builtin "max") (rMaxT K) := h ▸ call_maxT hc hu
/-- the greatest of a written row, by evaluation -/
theorem c_maxT {K : PySem.W.Frag} {m i : Int} {ns : List Int} (hm : PySem.W.maxD (.int m) (ns.map PyData.int) = .int i) : RcD (rMaxT K) [.tuple ((m :: ns).map PyData.int)] (.int i) := fun G1 H1 e1 xs hx Q q => by
  obtain ⟨v, r, rfl, hv, hr⟩ := hx.inv
  obtain rfl := hr.inv0
  obtain ⟨a, ys, rfl, hp, hy⟩ := hv.eqT
  have e := hy.ints
  subst e
  refine ⟨a, m, i, ns, rfl, .inl (up_rd hp e1), hm, ⟨fun x hx y hy => ?_, fun x hx z => ?_⟩, q _ G1 H1 (Grow.refl e1) (.int _)⟩
  · obtain ⟨_, _, rfl⟩ := List.mem_map.mp hx
    obtain ⟨_, _, rfl⟩ := List.mem_map.mp hy
    rfl
  · obtain ⟨_, _, rfl⟩ := List.mem_map.mp hx
    cases z
/-- s * n -/
def rMulS : R2 := fun x y H Q => ∃ (a : Str) (n : Int), x = .str a ∧ y = .int n ∧ MulOk a n ∧ Q (.str (Txt.mul a n)) H
theorem op_mulS {X : Cx} : OpR X (binaryOp .Mult) rMulS := by
  intro pins s σ H x y v u Q I rx ry h
  obtain ⟨a, n, rfl, rfl, ok, q⟩ := h
  obtain ⟨t, rfl⟩ := rx
  obtain ⟨t', rfl⟩ := ry
  exact PySem.SB.mul ok fun t' k => ⟨.str _, H, I.tok k, ⟨_, rfl⟩, q⟩
theorem r_mulS {a : Str} {n : Int} (ok : MulOk a n) : RvD rMulS (.str a) (.int n) (.str (Txt.mul a n)) :=
  d_val (fun _ _ q => q.eqS) (fun _ _ q => q.eqI) (fun _ => .str _) fun H Q q => ⟨a, n, rfl, rfl, ok, q⟩
section
variable {σ : VSt} {G : Hp} {te : TE} {ta : TA} {K : PySem.W.Frag} {C : Addr} {E : XK}
/-- list(t) -/
theorem m_listT {ds : List PyData} (h : EvD te σ G (.tuple ds)) : EvM (tCB (fun xs H Q => ∃ p ys, xs = [V.ref p] ∧ (SqL K H p ys ∨ SqT K H p ys) ∧ ∀ l, H l = none → Q (V.ref l) (upd H l (.lst ys))) (tCons te tNil)) σ G ds := fun G1 H1 e1 e2 Q q =>
  h.go' e1 e2 fun v G2 H2 g2 hv => by
    obtain ⟨a, xs, rfl, hp, hx⟩ := hv.eqT
    exact ⟨a, xs, rfl, .inr (.inl (up_rd hp g2.gh)), fun l hl => q l _ _ (g2.there l hl) (g2.trans (Grow.mnew g2.gh hl)) (ML.new g2.gh hl hx)⟩
theorem x_callA {pre : Hp → List V → Prop} {ds : List PyData} (h : EvA ta σ G ds) (hp : ∀ G' vs, Ex G G' → DDs G' vs ds → pre G' vs) : EvX (tCall (spX pre C) [] E ta) σ G C E := fun G1 H1 e1 e2 x Q =>
  h G1 H1 e1 e2 _ fun vs G2 H2 g hv => by
    rw [List.append_nil]
    exact ⟨G2, g.gh, hp G2 vs (e1.trans g.g) hv, x.up g⟩
end
end CL
set_option Elab.async false
set_option linter.all false
set_option maxRecDepth 100000
set_option maxHeartbeats 4000000
/-! Comprehensions over a text; tuple(list); the text of 400 rows. -/
namespace CL
open PySem L2
section
variable {σ : VSt} {G H : Hp} {te tl : TE} {tt : TT} {K : PySem.W.Frag} {g : TG} {vs : List Nat}
theorem m_lcS {x : Str} (f : Nat → PyData) (h : EvD tl σ G (.str x)) (hl : x.cps.size ≤ 50000)
    (hg : ∀ (c : Nat) (G1 H1 : Hp), c ∈ x.cps.toList → Ex G G1 → Ex G1 H1 → ∀ Q : VSt → Hp → Prop, (∀ σ2, wipe σ2 vs = wipe σ vs → EvB tt σ2 G1 true → EvD te σ2 G1 (f c) → Q σ2 H1) → g (.str ⟨#[c]⟩) (wipe σ vs) H1 Q) :
    EvM (tLc (iStr tl) g tt te vs) σ G (x.cps.toList.map f) := fun G1 H1 e1 e2 Q q =>
  h.go' e1 e2 fun v G2 H2 g2 hv => by
    obtain rfl := hv.eqS
    refine ⟨x, rfl, fun D hD => ?_⟩
    refine lc_it (walk_str (z := x)) (fun i H' => ∃ G', Cw G2 H2 D H2 ((x.cps.toList.take i).map f) G' H') ⟨G2, Cw.start g2.gh hD⟩ (fun _ _ _ _ => trivial) (fun i v H' H'' hi ⟨G', c⟩ hy => ?_) (fun H' ⟨G', c⟩ => ?_)
    · obtain ⟨rfl, ch, hc, rfl⟩ := hy
      have hc' : x.cps.toList[i]? = some ch := by simpa using hc
      refine hg ch G' H'' (List.mem_of_getElem? hc') ((e1.trans g2.g).trans c.gr.g) c.gr.gh _ fun σ2 hw ht he => ⟨hw, ?_⟩
      refine c.turn (b := true) (by rw [List.length_map, List.length_take]; simp; omega) ht (fun _ => he) fun G3 H3 c3 => ⟨G3, ?_⟩
      rw [if_pos rfl] at c3
      have e : (x.cps.toList.take (i + 1)).map f = (x.cps.toList.take i).map f ++ [f ch] := by
        rw [List.take_add_one, hc']
        simp
      rw [e]
      exact c3
    · have e : x.cps.toList.take x.cps.size = x.cps.toList := List.take_of_length_le (by simp)
      rw [e] at c
      exact q _ _ _ (g2.there _ hD) (g2.trans c.gr) c.ml
end
theorem crTupleK (K : PySem.W.Frag) {X : Cx} (h : X.K = K := by rfl) : CallR X (.type "tuple") (fun xs H Q => ∃ p ys, xs = [V.ref p] ∧ ((SqL K H p ys ∧ ∀ l, H l = none → Q (V.ref l) (upd H l (.tup ys))) ∨ (SqT K H p ys ∧ Q (V.ref p) H))) := h ▸ call_tuple_of
theorem pe_joinK (K : PySem.W.Frag) {X : Cx} {o e : Expr} {to te : TE} {apos pos : Pos} (ho : PE X o to) (he : PE X e te) (h : X.K = K := by rfl) (hs : starEach [e] X.env = [(false, eval e X.env)] := by rfl) (hbase : attributeBase o "join" X.env (eval o X.env) = eval o X.env := by rfl) (hline : (apos.endLine == pos.line) = true := by rfl) :
    PE X (.Call (.Attribute o "join" apos) [e] [] pos) (tM1 (fun x xs H Q => ∃ a p, ∃ ys : List Str, x = V.str a ∧ xs = [V.ref p] ∧ (SqL K H p (ys.map V.str) ∨ SqT K H p (ys.map V.str)) ∧ (ys.map (·.length)).sum + ys.length * a.length ≤ 16777216 ∧ Q (V.str (Txt.join a ys)) H) to te) := h ▸ pe_join ho he hs hbase hline
/-- tuple(l) -/
theorem d_tupL {σ : VSt} {G : Hp} {te : TE} {K : PySem.W.Frag} {ds : List PyData} (h : EvD te σ G (.list ds)) :
    EvD (tCB (fun xs H Q => ∃ p ys, xs = [V.ref p] ∧ ((SqL K H p ys ∧ ∀ l, H l = none → Q (V.ref l) (upd H l (.tup ys))) ∨ (SqT K H p ys ∧ Q (V.ref p) H))) (tCons te tNil)) σ G (.tuple ds) := .mk fun G1 H1 e1 e2 Q q =>
  h.go' e1 e2 fun v G2 H2 g2 hv => by
    obtain ⟨a, xs, rfl, hp, hx⟩ := hv.eqL
    exact ⟨a, xs, rfl, .inl ⟨.inl (.inl (g2.gh _ _ hp)), fun l hl => q _ _ _ (g2.trans (new_tup g2.gh hl hx).1) (new_tup (M := M0) g2.gh hl hx).2⟩⟩
/-! ### "7\n" * 400 -/
def L7 : List Nat := (List.replicate 400 [55, 10]).flatten
def T7 : Str := SX.S L7
theorem foldl_app (a : Array Nat) : ∀ (n : Nat) (acc : Array Nat), ((List.replicate n a).foldl (· ++ ·) acc).toList = acc.toList ++ (List.replicate n a.toList).flatten
  | 0, acc => by simp
  | n + 1, acc => by
    rw [List.replicate_succ, List.foldl_cons, foldl_app a n, List.replicate_succ, List.flatten_cons, Array.toList_append, List.append_assoc]
theorem T7_mul : Txt.mul "7\n" 400 = T7 := by
  unfold Txt.mul
  rw [if_neg (by decide), if_neg (by decide +kernel)]
  refine TL.ext_tl ?_
  show ((List.replicate 400 (Str.cps "7\n")).foldl (· ++ ·) #[]).toList = L7
  rw [foldl_app]
  have e : (Str.cps "7\n").toList = [55, 10] := by decide +kernel
  rw [e]
  rfl
theorem mulOk7 : MulOk "7\n" 400 := ⟨by decide, fun _ _ => by decide, fun _ _ => by decide +kernel⟩
theorem L7_len : L7.length = 800 := by decide +kernel
theorem T7_len : T7.length = 800 := by
  show (SX.S L7).length = 800
  rw [SX.S_len, L7_len]
theorem T7_ne : PyData.eqv (.str T7) (.str "") = false := by
  rw [eqv_str]
  refine decide_eq_false fun h => ?_
  have e := congrArg Str.length h
  rw [T7_len] at e
  exact absurd e (by decide +kernel)
theorem T7_ends : Txt.endswith T7 "\n" = true := by decide +kernel
theorem L7_lines : TL.joinL [10] (List.replicate 400 [55] ++ [[]]) = L7 := by decide +kernel
theorem T7_split : Txt.split T7 "\n" = List.replicate 400 ("7" : Str) ++ [("" : Str)] := by
  have e2 : ("\n" : Str) = SX.S [10] := by decide +kernel
  have e3 : ("7" : Str) = SX.S [55] := by decide +kernel
  have e4 : ("" : Str) = SX.S [] := by decide +kernel
  rw [e2, e3, e4]
  show Txt.split (SX.S L7) (SX.S [10]) = _
  rw [SX.split_S (by simp) (by decide), ← L7_lines, TL.spl_join (by simp) (fun p hp => by
    rcases List.mem_append.mp hp with q | q
    · rw [List.eq_of_mem_replicate q]; decide
    · rw [List.mem_singleton] at q
      rw [q]; simp), List.map_append, List.map_replicate]
  rfl
theorem T7_join : Txt.join "" (List.replicate 400 ("7\n" : Str)) = T7 := by
  have e0 : ("" : Str) = SX.S [] := by decide +kernel
  have e1 : ("7\n" : Str) = SX.S [55, 10] := by decide +kernel
  have e2 : List.replicate 400 ("7\n" : Str) = (List.replicate 400 [55, 10]).map SX.S := by rw [List.map_replicate, e1]
  rw [e2, e0, SX.join_S, joinL_nil]
  rfl
theorem seven_split : Txt.split "7" " " = [("7" : Str)] := by decide +kernel
theorem seven_join : Txt.join " " [("7" : Str)] = "7" := by decide +kernel
theorem seven_int : PySem.intText? "7" = some 7 := by decide +kernel
theorem seven_str : Str.ofString (toString ((7 : Nat) : Int)) = "7" := by decide +kernel
theorem seven_nl : ("7" : Str) ++ ("\n" : Str) = "7\n" := by decide +kernel
theorem T7_shaped : SeqAt.shaped (.str T7) = true := by decide +kernel
end CL
set_option Elab.async false
set_option linter.all false
set_option maxRecDepth 100000
set_option maxHeartbeats 4000000
namespace CP
open PySem L2 CL CM
section
variable {P : Program} {w : World} {K : PySem.W.Frag} {mg : Str → Option Value} {base : Heap} {Z : Ads}
def validR (n : Nat) (r : Ru) : Prop := r.2.1 < n ∧ r.2.2 < n ∧ r.2.1 ≠ r.2.2
/-- one argument list of data, one answer -/
def R_one (f : List PyData → Option PyData) : List PyData → (PyData → Prop) → Prop := fun ds S => ∃ d, f ds = some d ∧ S = fun x => x = d
/-! ### is_integer, is_between, need_width, is_column -/
def R_isint : List PyData → (PyData → Prop) → Prop := fun ds S => ∃ i : Int, ds = [.int i] ∧ S = fun d => d = .bool true
theorem sc_is_integer : FnScope ["thing"] ["thing"] (defScope s_is_integer) := ⟨rfl, rfl, rfl, by decide +kernel, rfl, by decide +kernel, by decide +kernel⟩
theorem ok_is_integer {f : Addr} {fd : FuncData} (F : Fun K "is_integer" "is_integer" s_is_integer f fd) (T : Txt Z K mg) : FnOk P w K mg base CX0 1 f fd ["thing"] (spR R_isint) := by
  refine F.ok sc_is_integer (fun vs H Q E h => spR_len (n := 1) (fun ds S ⟨i, e, _⟩ => by rw [e]; rfl) h) (fun cdv A outer s H vs Q E hr h => ?_)
  obtain ⟨G, ds, S, ⟨i, rfl, rfl⟩, eG, hd, k⟩ := h
  obtain ⟨v1, r, rfl, h1, hd⟩ := hd.inv
  obtain rfl := hd.inv0
  have nd := sc_is_integer.nd
  refine ⟨_, (pss_one (ps_ret (pe_and (pe_callB (crIsiK K) (by rfl) T.b_isinstance (by decide +kernel) (pa_cons (pv 0) (pa_cons (pe_bltn (v := .ty "int") (u := Value.type "int") rfl T.b_int (by decide +kernel) rfl) pa_nil))) (pe_one (pe_not (pe_callB (crIsiK K) (by rfl) T.b_isinstance (by decide +kernel) (pa_cons (pv 0) (pa_cons (pe_bltn (v := .ty "bool") (u := Value.type "bool") rfl T.b_bool (by decide +kernel) rfl) pa_nil)))))))), ?_⟩
  show tRet _ _ [some v1] H
  exact s_ret (d_andV (a := true) (b := true) (d_isi "int" (d_var rfl h1) v_c (by decide +kernel)) fun _ => d_notV (a := false) (d_isi "int" (d_var rfl h1) v_c (by decide +kernel))) eG fun v G2 H2 g hv => k v _ G2 H2 rfl g hv
def R_betw : List PyData → (PyData → Prop) → Prop := fun ds S => ∃ i lo hi : Int, ds = [.int i, .int lo, .int hi] ∧ S = fun d => d = .bool (decide (lo ≤ i) && decide (i ≤ hi))
theorem sc_is_between : FnScope ["thing", "low", "high"] ["thing", "low", "high"] (defScope s_is_between) := ⟨rfl, rfl, rfl, by decide +kernel, rfl, by decide +kernel, by decide +kernel⟩
theorem ok_is_between {f : Addr} {fd : FuncData} (F : Fun K "is_between" "is_between" s_is_between f fd) (T : Txt Z K mg) (F_is_integer : Fn1 P w K mg base "is_integer" 1 (spR R_isint)) : FnOk P w K mg base CX0 2 f fd ["thing", "low", "high"] (spR R_betw) := by
  refine F.ok sc_is_between (fun vs H Q E h => spR_len (n := 3) (fun ds S ⟨i, lo, hi, e, _⟩ => by rw [e]; rfl) h) (fun cdv A outer s H vs Q E hr h => ?_)
  obtain ⟨G, ds, S, ⟨i, lo, hi, rfl, rfl⟩, eG, hd, k⟩ := h
  obtain ⟨v1, r, rfl, h1, hd⟩ := hd.inv
  obtain ⟨v2, r, rfl, h2, hd⟩ := hd.inv
  obtain ⟨v3, r, rfl, h3, hd⟩ := hd.inv
  obtain rfl := hd.inv0
  have nd := sc_is_between.nd
  refine ⟨_, (pss_one (ps_ret (pe_and (pe_fn F_is_integer (hr.mono (by decide)) rfl (pa_cons (pv 0) pa_nil)) (pe_one (pe_chain op_le op_le (pv 1) (pv 0) (pv 2)))))), ?_⟩
  show tRet _ _ [some v1, some v2, some v3] H
  refine s_ret (d := .bool (true && (decide (lo ≤ i) && decide (i ≤ hi)))) ?_ eG fun v G2 H2 g hv => k v _ G2 H2 rfl g hv
  exact d_andV (a := true) (d_call (a_cons (d_var rfl h1) a_nil) ⟨i, rfl, rfl⟩) fun _ => d_chain (d_var rfl h2) (d_var rfl h1) r_B0 (fun _ => d_var rfl h3) fun _ => r_B0
def R_needw : List PyData → (PyData → Prop) → Prop := fun ds S => ∃ n : Nat, ds = [I1 n] ∧ 1 ≤ n ∧ n ≤ 6 ∧ S = fun d => d = .none
theorem sc_need_width : FnScope ["thing"] ["thing"] (defScope s_need_width) := ⟨rfl, rfl, rfl, by decide +kernel, rfl, by decide +kernel, by decide +kernel⟩
theorem ok_need_width {f : Addr} {fd : FuncData} (F : Fun K "need_width" "need_width" s_need_width f fd) (T : Txt Z K mg) (F_is_between : Fn1 P w K mg base "is_between" 2 (spR R_betw)) : FnOk P w K mg base CX0 3 f fd ["thing"] (spR R_needw) := by
  refine F.ok sc_need_width (fun vs H Q E h => spR_len (n := 1) (fun ds S ⟨n, e, _⟩ => by rw [e]; rfl) h) (fun cdv A outer s H vs Q E hr h => ?_)
  obtain ⟨G, ds, S, ⟨n, rfl, hn1, hn6, rfl⟩, eG, hd, k⟩ := h
  obtain ⟨v1, r, rfl, h1, hd⟩ := hd.inv
  obtain rfl := hd.inv0
  have nd := sc_need_width.nd
  refine ⟨_, (pss_one (ps_if (pt_not (pt_val (pe_fn F_is_between (hr.mono (by decide)) rfl (pa_cons (pv 0) (pa_cons pe_int (pa_cons (pe_glob (v := .int 6) rfl T.c_MOST_WIDTH ⟨_, rfl⟩) pa_nil)))))) (pss_one ps_never) pss_nil)), ?_⟩
  show tIfS _ _ _ _ [some v1] H
  refine s_when (b := !(decide ((1 : Int) ≤ n) && decide ((n : Int) ≤ 6))) (b_not (b_B (d_call (a_cons (d_var rfl h1) (a_cons d_int (a_cons d_int a_nil))) ⟨n, 1, 6, rfl, rfl⟩))) eG (fun hb => ?_) fun _ G2 H2 g => k .non _ G2 H2 rfl g .non
  rw [decide_eq_true (by omega : (1 : Int) ≤ n), decide_eq_true (by omega : (n : Int) ≤ 6)] at hb
  exact absurd hb (by decide)
def R_col : List PyData → (PyData → Prop) → Prop := fun ds S => ∃ c n : Nat, ds = [I1 c, I1 n] ∧ c < n ∧ S = fun d => d = .bool true
theorem sc_is_column : FnScope ["thing", "width"] ["thing", "width"] (defScope s_is_column) := ⟨rfl, rfl, rfl, by decide +kernel, rfl, by decide +kernel, by decide +kernel⟩
theorem ok_is_column {f : Addr} {fd : FuncData} (F : Fun K "is_column" "is_column" s_is_column f fd) (T : Txt Z K mg) (F_is_between : Fn1 P w K mg base "is_between" 2 (spR R_betw)) : FnOk P w K mg base CX0 3 f fd ["thing", "width"] (spR R_col) := by
  refine F.ok sc_is_column (fun vs H Q E h => spR_len (n := 2) (fun ds S ⟨c, n, e, _⟩ => by rw [e]; rfl) h) (fun cdv A outer s H vs Q E hr h => ?_)
  obtain ⟨G, ds, S, ⟨c, n, rfl, hcn, rfl⟩, eG, hd, k⟩ := h
  obtain ⟨v1, r, rfl, h1, hd⟩ := hd.inv
  obtain ⟨v2, r, rfl, h2, hd⟩ := hd.inv
  obtain rfl := hd.inv0
  have nd := sc_is_column.nd
  refine ⟨_, (pss_one (ps_ret (pe_fn F_is_between (hr.mono (by decide)) rfl (pa_cons (pv 0) (pa_cons pe_int (pa_cons (pe_op op_sub (pv 1) pe_int) pa_nil)))))), ?_⟩
  show tRet _ _ [some v1, some v2] H
  refine s_ret (d := .bool (decide ((0 : Int) ≤ c) && decide ((c : Int) ≤ (n : Int) - 1))) ?_ eG fun v G2 H2 g hv => k v _ G2 H2 (by
    show PyData.bool _ = _
    rw [decide_eq_true (by omega : (0 : Int) ≤ c), decide_eq_true (by omega : (c : Int) ≤ (n : Int) - 1)]; rfl) g hv
  exact d_call (a_cons (d_var rfl h1) (a_cons d_int (a_cons (d_op (d_var rfl h2) d_int r_I0) a_nil))) ⟨c, 0, (n : Int) - 1, rfl, rfl⟩
/-! ### is_rule, need_rule -/
def R_isrule : List PyData → (PyData → Prop) → Prop := fun ds S => ∃ (r : Ru) (n : Nat), ds = [RU r, I1 n] ∧ validR n r ∧ S = fun d => d = .bool true
theorem at0 {α : Type} (a b c : α) : atI [a, b, c] 0 = some a := rfl
theorem at1 {α : Type} (a b c : α) : atI [a, b, c] 1 = some b := rfl
theorem at2 {α : Type} (a b c : α) : atI [a, b, c] 2 = some c := rfl
theorem sc_is_rule : FnScope ["thing", "width"] ["thing", "width"] (defScope s_is_rule) := ⟨rfl, rfl, rfl, by decide +kernel, rfl, by decide +kernel, by decide +kernel⟩
theorem ok_is_rule {f : Addr} {fd : FuncData} (F : Fun K "is_rule" "is_rule" s_is_rule f fd) (T : Txt Z K mg) (F_is_column : Fn1 P w K mg base "is_column" 3 (spR R_col)) : FnOk P w K mg base CX0 4 f fd ["thing", "width"] (spR R_isrule) := by
  refine F.ok sc_is_rule (fun vs H Q E h => spR_len (n := 2) (fun ds S ⟨c, n, e, _⟩ => by rw [e]; rfl) h) (fun cdv A outer s H vs Q E hr h => ?_)
  obtain ⟨G, ds, S, ⟨ru, n, rfl, ⟨ha, hb, hab⟩, rfl⟩, eG, hd, k⟩ := h
  obtain ⟨v1, r, rfl, h1, hd⟩ := hd.inv
  obtain ⟨v2, r, rfl, h2, hd⟩ := hd.inv
  obtain rfl := hd.inv0
  have nd := sc_is_rule.nd
  refine ⟨_, (pss_cons (ps_if (PW.pt (pw_or (pt_not (pt_val (pe_callB (crIsiK K) (by rfl) T.b_isinstance (by decide +kernel) (pa_cons (pv 0) (pa_cons (pe_bltn (v := .ty "tuple") (u := Value.type "tuple") rfl T.b_tuple (by decide +kernel) rfl) pa_nil))))) (pw_or (pt_cmpR (neDK K (h64 hr)) (pe_callB (crLenK K) (by rfl) T.b_len (by decide +kernel) (pa_cons (pv 0) pa_nil)) pe_int (nomark _)) (pw_or1 (pt_not (pt_val (pe_callB (crIsiK K) (by rfl) T.b_isinstance (by decide +kernel) (pa_cons (pe_ix (ix_seqK K) (pv 0) pe_int (fun _ _ => rfl)) (pa_cons (pe_bltn (v := .ty "str") (u := Value.type "str") rfl T.b_str (by decide +kernel) rfl) pa_nil))))))))) (pss_one (ps_ret pe_bl)) pss_nil)
    (pss_cons (ps_if (PW.pt (pw_and (pt_cmpR (neDK K (h64 hr)) (pe_ix (ix_seqK K) (pv 0) pe_int (fun _ _ => rfl)) (pe_glob (v := .str "settles") rfl T.c_SETTLES ⟨_, rfl⟩) (nomark _)) (pw_and1 (pt_cmpR (neDK K (h64 hr)) (pe_ix (ix_seqK K) (pv 0) pe_int (fun _ _ => rfl)) (pe_glob (v := .str "within") rfl T.c_WITHIN ⟨_, rfl⟩) (nomark _))))) (pss_one (ps_ret pe_bl)) pss_nil)
    (pss_one (ps_ret (pe_and (pe_fn F_is_column (hr.mono (by decide)) rfl (pa_cons (pe_ix (ix_seqK K) (pv 0) pe_int (fun _ _ => rfl)) (pa_cons (pv 1) pa_nil))) (pe_and (pe_fn F_is_column (hr.mono (by decide)) rfl (pa_cons (pe_ix (ix_seqK K) (pv 0) pe_int (fun _ _ => rfl)) (pa_cons (pv 1) pa_nil))) (pe_one (pe_cmpR (neDK K (h64 hr)) (pe_ix (ix_seqK K) (pv 0) pe_int (fun _ _ => rfl)) (pe_ix (ix_seqK K) (pv 0) pe_int (fun _ _ => rfl)) (nomark _))))))))), ?_⟩
  show tSeq _ _ _ [some v1, some v2] H
  have t0 : ∀ {G' : Hp}, Ex G G' → EvD (tOp (rIx K) (tVar 0) (tC (.int 0))) [some v1, some v2] G' (.str (kd ru.1)) := fun e => d_op (d_var rfl (h1.up e)) d_int (r_ixT (at0 _ _ _))
  have t1 : ∀ {G' : Hp}, Ex G G' → EvD (tOp (rIx K) (tVar 0) (tC (.int 1))) [some v1, some v2] G' (I1 ru.2.1) := fun e => d_op (d_var rfl (h1.up e)) d_int (r_ixT (at1 _ _ _))
  have t2 : ∀ {G' : Hp}, Ex G G' → EvD (tOp (rIx K) (tVar 0) (tC (.int 2))) [some v1, some v2] G' (I1 ru.2.2) := fun e => d_op (d_var rfl (h1.up e)) d_int (r_ixT (at2 _ _ _))
  refine q_when (b := (!true) || ((!PyData.eqv (.int 3) (.int 3)) || (!true))) (b_or (b_not (b_B (d_isi "tuple" (d_var rfl h1) v_c (by decide +kernel)))) fun _ => b_or (b_test (d_op (d_cb (a_cons (d_var rfl h1) a_nil) c_lenT) d_int (r_ne rfl rfl))) fun _ => b_not (b_B (d_isi "str" (t0 (Ex.refl _)) v_c (by decide +kernel)))) eG
    (fun hx => absurd hx (by decide)) fun _ G2 H2 g2 => ?_
  refine q_when (b := (!PyData.eqv (.str (kd ru.1)) (.str "settles")) && (!PyData.eqv (.str (kd ru.1)) (.str "within"))) (b_and (b_test (d_op (t0 g2.g) d_str (r_ne (shaped_kd _) (shaped_kd true)))) fun _ => b_test (d_op (t0 g2.g) d_str (r_ne (shaped_kd _) (shaped_kd false)))) g2.gh
    (fun hx => absurd hx (by rw [eqv_str, eqv_str]; cases ru.1 <;> decide +kernel)) fun _ G3 H3 g3 => ?_
  refine s_ret (d := .bool (true && (true && !PyData.eqv (I1 ru.2.1) (I1 ru.2.2)))) ?_ g3.gh fun v G4 H4 g4 hv => k v _ G4 H4 (by
    show PyData.bool _ = _
    rw [eqv_I1, decide_eq_false hab]; rfl) ((g2.trans g3).trans g4) hv
  have e3 := g2.g.trans g3.g
  exact d_andV (d_call (a_cons (t1 e3) (a_cons (d_var rfl (h2.up e3)) a_nil)) ⟨_, _, rfl, ha, rfl⟩) fun _ => d_andV (d_call (a_cons (t2 e3) (a_cons (d_var rfl (h2.up e3)) a_nil)) ⟨_, _, rfl, hb, rfl⟩) fun _ => d_op (t1 e3) (t2 e3) (r_ne rfl rfl)
def R_needrule : List PyData → (PyData → Prop) → Prop := fun ds S => ∃ (r : Ru) (n : Nat), ds = [RU r, I1 n] ∧ validR n r ∧ S = fun d => d = .none
theorem sc_need_rule : FnScope ["thing", "width"] ["thing", "width"] (defScope s_need_rule) := ⟨rfl, rfl, rfl, by decide +kernel, rfl, by decide +kernel, by decide +kernel⟩
theorem ok_need_rule {f : Addr} {fd : FuncData} (F : Fun K "need_rule" "need_rule" s_need_rule f fd) (T : Txt Z K mg) (F_is_rule : Fn1 P w K mg base "is_rule" 4 (spR R_isrule)) : FnOk P w K mg base CX0 5 f fd ["thing", "width"] (spR R_needrule) := by
  refine F.ok sc_need_rule (fun vs H Q E h => spR_len (n := 2) (fun ds S ⟨c, n, e, _⟩ => by rw [e]; rfl) h) (fun cdv A outer s H vs Q E hr h => ?_)
  obtain ⟨G, ds, S, ⟨ru, n, rfl, hv, rfl⟩, eG, hd, k⟩ := h
  obtain ⟨v1, r, rfl, h1, hd⟩ := hd.inv
  obtain ⟨v2, r, rfl, h2, hd⟩ := hd.inv
  obtain rfl := hd.inv0
  have nd := sc_need_rule.nd
  refine ⟨_, (pss_one (ps_if (pt_not (pt_val (pe_fn F_is_rule (hr.mono (by decide)) rfl (pa_cons (pv 0) (pa_cons (pv 1) pa_nil))))) (pss_one ps_never) pss_nil)), ?_⟩
  show tIfS _ _ _ _ [some v1, some v2] H
  exact s_when (b := !true) (b_not (b_B (d_call (a_cons (d_var rfl h1) (a_cons (d_var rfl h2) a_nil)) ⟨ru, n, rfl, hv, rfl⟩))) eG (fun hx => absurd hx (by decide)) fun _ G2 H2 g => k .non _ G2 H2 rfl g .non
/-! ### are_rules: over a list; over a star's tuple -/
def GoodL (n : Nat) (rs : List Ru) : Prop := rs.length ≤ 200 ∧ (∀ r ∈ rs, validR n r) ∧ rs.Nodup
theorem trues {α : Type} (xs : List α) : ((xs.filter fun _ => true).map fun _ => PyData.bool true) = (xs.map fun _ => true).map PyData.bool := by
  rw [List.filter_eq_self.mpr fun _ _ => rfl, List.map_map]; rfl
theorem all_true {α : Type} (xs : List α) : (xs.map fun _ => true).all id = true := by
  rw [List.all_eq_true]
  intro b hb
  obtain ⟨_, _, rfl⟩ := List.mem_map.mp hb
  rfl
def R_arerules : List PyData → (PyData → Prop) → Prop := fun ds S => ∃ (rs : List Ru) (n : Nat), ds = [.list (rs.map RU), I1 n] ∧ GoodL n rs ∧ S = fun d => d = .bool true
theorem sc_are_rules : FnScope ["things", "width", "thing"] ["things", "width"] (defScope s_are_rules) := ⟨rfl, rfl, rfl, by decide +kernel, rfl, by decide +kernel, by decide +kernel⟩
theorem ok_are_rulesL {f : Addr} {fd : FuncData} (F : Fun K "are_rules" "are_rules" s_are_rules f fd) (T : Txt Z K mg) (F_is_rule : Fn1 P w K mg base "is_rule" 4 (spR R_isrule)) : FnOk P w K mg base CX0 5 f fd ["things", "width"] (spR R_arerules) := by
  refine F.ok sc_are_rules (fun vs H Q E h => spR_len (n := 2) (fun ds S ⟨c, n, e, _⟩ => by rw [e]; rfl) h) (fun cdv A outer s H vs Q E hr h => ?_)
  obtain ⟨G, ds, S, ⟨rs, n, rfl, ⟨hlen, hval, hnd⟩, rfl⟩, eG, hd, k⟩ := h
  obtain ⟨v1, r, rfl, h1, hd⟩ := hd.inv
  obtain ⟨v2, r, rfl, h2, hd⟩ := hd.inv
  obtain rfl := hd.inv0
  have nd := sc_are_rules.nd
  refine ⟨_, (pss_cons (ps_if (pt_not (pt_val (pe_callB (crAllK K rfl) (by rfl) T.b_all (by decide +kernel) (pa_cons (pe_lc (own := [("thing", 2)]) (by rfl) nd (piListK K (pv 0)) (blkOk_by (own := [("thing", 2)]) (N := ["things", "width", "thing"]) (sc := (defScope s_are_rules)) (by decide +kernel)) (fun _ _ _ _ _ => (pgN 2 nd)) (fun _ _ _ _ _ => pts_nil) (fun _ _ _ _ _ => (pe_fn F_is_rule (hr.mono (by decide)) rfl (pa_cons (pv 2) (pa_cons (pv 1) pa_nil))))) pa_nil)))) (pss_one (ps_ret pe_bl)) pss_nil)
    (pss_one (ps_ret (pe_callB (crAllK K rfl) (by rfl) T.b_all (by decide +kernel) (pa_cons (pe_lc (own := [("thing", 2)]) (by rfl) nd (piListK K (pv 0)) (blkOk_by (own := [("thing", 2)]) (N := ["things", "width", "thing"]) (sc := (defScope s_are_rules)) (by decide +kernel)) (fun _ _ _ _ _ => (pgN 2 nd)) (fun _ _ _ _ _ => pts_nil) (fun _ _ _ _ _ => (pe_cmpR (eqDK K (h64 hr)) (peCntK K (h80 hr) (pv 0) (pv 2)) pe_int (nomark _)))) pa_nil))))), ?_⟩
  show tSeq _ _ _ [some v1, some v2, none] H
  have c1 := m_lcL (K := K) (σ := [some v1, some v2, none]) (G := G) (tl := tVar 0) (vs := [2]) (g := gName 2) (tt := tYes) (te := tCall (spR R_isrule) [] E0 (tCons (tVar 2) (tCons (tVar 1) tNil))) (enc := RU) (xs := rs) (fun _ => true) (fun _ => .bool true) (d_var rfl h1) (by omega)
    (fun x v G1 H1 hx e1 e2 hv Q q => q _ rfl (fun G1 H1 _ e2 Q q => q G1 H1 (Grow.refl e2)) fun _ => d_call (a_cons (d_var rfl hv) (a_cons (d_var rfl (h2.up e1)) a_nil)) ⟨x, n, rfl, hval x hx, rfl⟩)
  rw [trues] at c1
  refine q_when (b := !(rs.map fun _ => true).all id) (b_not (b_B (d_cb (a_cons c1.toD a_nil) c_all))) eG (fun hx => absurd hx (by rw [all_true]; decide)) fun _ G2 H2 g2 => ?_
  have c2 := m_lcL (K := K) (σ := [some v1, some v2, none]) (G := G2) (tl := tVar 0) (vs := [2]) (g := gName 2) (tt := tYes) (te := tOp (rEqD K) (tCnt K (tVar 0) (tVar 2)) (tC (.int 1))) (enc := RU) (xs := rs) (fun _ => true) (fun _ => .bool true) (d_var rfl (h1.up g2.g)) (by omega)
    (fun x v G1 H1 hx e1 e2 hv Q q => q _ rfl (fun G1 H1 _ e2 Q q => q G1 H1 (Grow.refl e2)) fun _ => by
      refine (d_op (d_cntL (d_var rfl (h1.up (g2.g.trans e1))) (d_var rfl hv) (plain_RUs rs) (lay_plain (lay_RU x)) (Nat.le_trans (lay_RU x).2 (by decide))) d_int (r_eq rfl rfl)).is ?_
      rw [count_RU, count_one hnd hx, eqv_int]; rfl)
  rw [trues] at c2
  refine s_ret (d := .bool ((rs.map fun _ => true).all id)) (d_cb (a_cons c2.toD a_nil) c_all) g2.gh fun v G3 H3 g3 hv => k v _ G3 H3 (by show PyData.bool _ = _; rw [all_true]) (g2.trans g3) hv
/-- .. over a tuple that a star has made -/
def spArT : Sp := fun vs H Q _ => ∃ (G : Hp) (a : Addr) (ob : Obj) (xs : List V) (rs : List Ru) (n : Nat), vs = [.ref a, .int (n : Int)] ∧ Ex G H ∧ G a = some (.frz ob (.tup xs)) ∧ ob.dict = none ∧ DDs G xs (rs.map RU) ∧ GoodL n rs ∧ ∀ G2 H2, Grow M0 G H G2 H2 → Q (.bl true) H2
theorem ok_are_rulesT {f : Addr} {fd : FuncData} (F : Fun K "are_rules" "are_rules" s_are_rules f fd) (T : Txt Z K mg) (F_is_rule : Fn1 P w K mg base "is_rule" 4 (spR R_isrule)) : FnOk P w K mg base CX0 5 f fd ["things", "width"] spArT := by
  refine F.ok sc_are_rules (fun vs H Q E h => ?_) (fun cdv A outer s H vs Q E hr h => ?_)
  · obtain ⟨G, a, ob, xs, rs, n, rfl, _⟩ := h
    rfl
  obtain ⟨G, a, ob, xs, rs, n, rfl, eG, hf, hob, hx, ⟨hlen, hval, hnd⟩, k⟩ := h
  have nd := sc_are_rules.nd
  have h1 : DD G (.ref a) (.tuple (rs.map RU)) := .tup (.inr ⟨ob, hf⟩) hx
  refine ⟨_, (pss_cons (ps_if (pt_not (pt_val (pe_callB (crAllK K rfl) (by rfl) T.b_all (by decide +kernel) (pa_cons (pe_lc (own := [("thing", 2)]) (by rfl) nd (piTupK K (pv 0)) (blkOk_by (own := [("thing", 2)]) (N := ["things", "width", "thing"]) (sc := (defScope s_are_rules)) (by decide +kernel)) (fun _ _ _ _ _ => (pgN 2 nd)) (fun _ _ _ _ _ => pts_nil) (fun _ _ _ _ _ => (pe_fn F_is_rule (hr.mono (by decide)) rfl (pa_cons (pv 2) (pa_cons (pv 1) pa_nil))))) pa_nil)))) (pss_one (ps_ret pe_bl)) pss_nil)
    (pss_one (ps_ret (pe_callB (crAllK K rfl) (by rfl) T.b_all (by decide +kernel) (pa_cons (pe_lc (own := [("thing", 2)]) (by rfl) nd (piTupK K (pv 0)) (blkOk_by (own := [("thing", 2)]) (N := ["things", "width", "thing"]) (sc := (defScope s_are_rules)) (by decide +kernel)) (fun _ _ _ _ _ => (pgN 2 nd)) (fun _ _ _ _ _ => pts_nil) (fun _ _ _ _ _ => (pe_cmpR (eqDK K (h64 hr)) (peCntK K (h80 hr) (pv 0) (pv 2)) pe_int (nomark _)))) pa_nil))))), ?_⟩
  show tSeq _ _ _ [some (.ref a), some (.int (n : Int)), none] H
  have c1 := m_lcT (K := K) (σ := [some (.ref a), some (.int (n : Int)), none]) (G := G) (tl := tVar 0) (vs := [2]) (g := gName 2) (tt := tYes) (te := tCall (spR R_isrule) [] E0 (tCons (tVar 2) (tCons (tVar 1) tNil))) (enc := RU) (xs := rs) (fun _ => true) (fun _ => .bool true) (d_var rfl h1) (by omega)
    (fun x v G1 H1 hx e1 e2 hv Q q => q _ rfl (fun G1 H1 _ e2 Q q => q G1 H1 (Grow.refl e2)) fun _ => d_call (a_cons (d_var rfl hv) (a_cons (d_var rfl (.int _)) a_nil)) ⟨x, n, rfl, hval x hx, rfl⟩)
  rw [trues] at c1
  refine q_when (b := !(rs.map fun _ => true).all id) (b_not (b_B (d_cb (a_cons c1.toD a_nil) c_all))) eG (fun hx => absurd hx (by rw [all_true]; decide)) fun _ G2 H2 g2 => ?_
  have c2 := m_lcT (K := K) (σ := [some (.ref a), some (.int (n : Int)), none]) (G := G2) (tl := tVar 0) (vs := [2]) (g := gName 2) (tt := tYes) (te := tOp (rEqD K) (tCnt K (tVar 0) (tVar 2)) (tC (.int 1))) (enc := RU) (xs := rs) (fun _ => true) (fun _ => .bool true) (d_var rfl (h1.up g2.g)) (by omega)
    (fun x v G1 H1 hx' e1 e2 hv Q q => q _ rfl (fun G1 H1 _ e2 Q q => q G1 H1 (Grow.refl e2)) fun _ => by
      refine (d_op (d_cntT (v_var rfl) (e1 _ _ (g2.g _ _ hf)) hob (hx.up (g2.g.trans e1)) (d_var rfl hv) (plain_RUs rs) (lay_plain (lay_RU x)) (Nat.le_trans (lay_RU x).2 (by decide))) d_int (r_eq rfl rfl)).is ?_
      rw [count_RU, count_one hnd hx', eqv_int]; rfl)
  rw [trues] at c2
  exact s_ret (d := .bool ((rs.map fun _ => true).all id)) (d_cb (a_cons c2.toD a_nil) c_all) g2.gh fun v G3 H3 g3 hv => by
    have e := hv.eqB
    rw [all_true] at e
    subst e
    exact k G3 H3 (g2.trans g3)
/-! ### column_of, rule_of -/
def R_colof : List PyData → (PyData → Prop) → Prop := fun ds S => ∃ c : Nat, ds = [.str (dig c)] ∧ c < 6 ∧ S = fun d => d = I1 c
theorem sc_column_of : FnScope ["word"] ["word"] (defScope s_column_of) := ⟨rfl, rfl, rfl, by decide +kernel, rfl, by decide +kernel, by decide +kernel⟩
theorem ok_column_of {f : Addr} {fd : FuncData} (F : Fun K "column_of" "column_of" s_column_of f fd) (T : Txt Z K mg) : FnOk P w K mg base CX0 1 f fd ["word"] (spR R_colof) := by
  refine F.ok sc_column_of (fun vs H Q E h => spR_len (n := 1) (fun ds S ⟨c, e, _⟩ => by rw [e]; rfl) h) (fun cdv A outer s H vs Q E hr h => ?_)
  obtain ⟨G, ds, S, ⟨c, rfl, hc, rfl⟩, eG, hd, k⟩ := h
  obtain ⟨v1, r, rfl, h1, hd⟩ := hd.inv
  obtain rfl := hd.inv0
  have nd := sc_column_of.nd
  refine ⟨_, (pss_one (ps_ret (pe_ifExp (pt_cmpR (eqDK K (h64 hr)) (pe_callB (crLenK K) (by rfl) T.b_len (by decide +kernel) (pa_cons (pv 0) pa_nil)) pe_int (nomark _)) (pe_m1 PySem.F.slot_str_find PySem.F.type_str_find mt_find pe_str (pv 0) (by rfl) (by rfl) (by rfl)) (pe_un un_neg pe_int)))), ?_⟩
  show tRet _ _ [some v1] H
  have hl : (dig c).length = 1 := SX.S_len _
  refine s_ret (d := I1 c) ?_ eG fun v G2 H2 g hv => k v _ G2 H2 rfl g hv
  refine (d_if (b := PyData.eqv (.int ((dig c).length : Int)) (.int 1)) (b_test (d_op (d_cb (a_cons (d_var rfl h1) a_nil) (c_lenS (by rw [hl]; decide))) d_int (r_eq rfl rfl))) (fun _ => d_m1 d_str (d_var rfl h1) m_find) fun _ => d_neg1).is ?_
  rw [eqv_int, hl, find_dig hc]; rfl
def R_ruleof : List PyData → (PyData → Prop) → Prop := fun ds S => ∃ r : Ru, ds = [.str (lineOf r)] ∧ r.2.1 < 6 ∧ r.2.2 < 6 ∧ S = fun d => d = RU r
theorem sc_rule_of : FnScope ["line", "words"] ["line"] (defScope s_rule_of) := ⟨rfl, rfl, rfl, by decide +kernel, rfl, by decide +kernel, by decide +kernel⟩
theorem ok_rule_of {f : Addr} {fd : FuncData} (F : Fun K "rule_of" "rule_of" s_rule_of f fd) (T : Txt Z K mg) (F_column_of : Fn1 P w K mg base "column_of" 1 (spR R_colof)) : FnOk P w K mg base CX0 2 f fd ["line"] (spR R_ruleof) := by
  refine F.ok sc_rule_of (fun vs H Q E h => spR_len (n := 1) (fun ds S ⟨c, e, _⟩ => by rw [e]; rfl) h) (fun cdv A outer s H vs Q E hr h => ?_)
  obtain ⟨G, ds, S, ⟨ru, rfl, ha, hb, rfl⟩, eG, hd, k⟩ := h
  obtain ⟨v1, r, rfl, h1, hd⟩ := hd.inv
  obtain rfl := hd.inv0
  have nd := sc_rule_of.nd
  refine ⟨_, (pss_cons (ps_set (i := 1) nd rfl (by first | exact Or.inl rfl | exact Or.inr rfl) (pe_split (pv 0) pe_str))
    (pss_cons (ps_if (pt_cmpR (neDK K (h64 hr)) (pe_callB (crLenK K) (by rfl) T.b_len (by decide +kernel) (pa_cons (pv 1) pa_nil)) pe_int (nomark _)) (pss_one (ps_ret (pe_tup pa_nil))) pss_nil)
    (pss_one (ps_ret (pe_tup (pa_cons (pe_ix (ix_seqK K) (pv 1) pe_int (fun _ _ => rfl)) (pa_cons (pe_fn F_column_of (hr.mono (by decide)) rfl (pa_cons (pe_ix (ix_seqK K) (pv 1) pe_int (fun _ _ => rfl)) pa_nil)) (pa_cons (pe_fn F_column_of (hr.mono (by decide)) rfl (pa_cons (pe_ix (ix_seqK K) (pv 1) pe_int (fun _ _ => rfl)) pa_nil)) pa_nil)))))))), ?_⟩
  show tSeq _ _ _ [some v1, none] H
  have hs := m_split (a := lineOf ru) (b := " ") (te := tVar 0) (ta := tC (.str " ")) (σ := [some v1, none]) (G := G) (d_var rfl h1) d_str (by decide +kernel) (by
    have : (lineOf ru).length = (lineL ru).length := SX.S_len _
    rw [this]; have := lineL_len ru; omega)
  rw [split_line ru ha hb] at hs
  refine q_asg hs.toD eG fun v2 G2 H2 g2 hv2 => ?_
  show tSeq _ _ _ [some v1, some v2] H2
  refine q_when (b := !PyData.eqv (.int 3) (.int 3)) (b_test (d_op (d_cb (a_cons (d_var rfl hv2) a_nil) c_lenL) d_int (r_ne rfl rfl))) g2.gh (fun hx => absurd hx (by decide)) fun _ G3 H3 g3 => ?_
  have t0 : EvD (tOp (rIx K) (tVar 1) (tC (.int 0))) [some v1, some v2] G3 (.str (dig ru.2.1)) := d_op (d_var rfl (hv2.up g3.g)) d_int (r_ixL (at0 _ _ _))
  have t1 : EvD (tOp (rIx K) (tVar 1) (tC (.int 1))) [some v1, some v2] G3 (.str (kd ru.1)) := d_op (d_var rfl (hv2.up g3.g)) d_int (r_ixL (at1 _ _ _))
  have t2 : EvD (tOp (rIx K) (tVar 1) (tC (.int 2))) [some v1, some v2] G3 (.str (dig ru.2.2)) := d_op (d_var rfl (hv2.up g3.g)) d_int (r_ixL (at2 _ _ _))
  exact s_ret (d := RU ru) (d_tup (a_cons t1 (a_cons (d_call (a_cons t0 a_nil) ⟨_, rfl, ha, rfl⟩) (a_cons (d_call (a_cons t2 a_nil) ⟨_, rfl, hb, rfl⟩) a_nil)))) g3.gh fun v G4 H4 g4 hv => k v _ G4 H4 rfl ((g2.trans g3).trans g4) hv
end
end CP
set_option Elab.async false
set_option linter.all false
set_option maxRecDepth 100000
set_option maxHeartbeats 4000000
namespace CP
open PySem L2 CL CM
/-- what is asked of the class -/
structure TxtC (Z : Ads) (K : PySem.W.Frag) : Prop where
  cR : Cls K Z.aR
  nC : NoAttr K Z.aR "columns"
  nK : NoAttr K Z.aR "kept"
section
variable {P : Program} {w : World} {K : PySem.W.Frag} {mg : Str → Option Value} {base : Heap} {Z : Ads}
/-! ### __init__ -/
def spInit (C : Addr) : Sp := fun vs H Q _ => ∃ (G : Hp) (x dx t : Addr) (ob : Obj) (xs : List V) (rs : List Ru) (n : Nat), vs = [.ref x, .int (n : Int), .ref t] ∧ Ex G H ∧ G x = none ∧ H x = some (.ins C dx []) ∧ G t = some (.frz ob (.tup xs)) ∧ ob.dict = none ∧ DDs G xs (rs.map RU) ∧
  GoodL n rs ∧ 1 ≤ n ∧ n ≤ 6 ∧ ∀ G2 H2, Grow (fun a => a = x) G H G2 H2 → H2 x = some (.ins C dx (flds n t)) → G2 x = none → Q .non H2
def spInitS (C : Addr) : Sp := fun vs H Q E => ∃ ws rest, vs = ws ++ rest ∧ ws.length = ["self", "width"].length ∧ rest.length ≤ sizeLine ∧ ∀ p ob, H p = Option.none → ob.dict = Option.none → spInit C (ws ++ [V.ref p]) (upd H p (.frz ob (.tup rest))) Q E
theorem sc_Rules_init : FnScope ["self", "width", "rules"] ["self", "width", "rules"] (defScope s_Rules_init) := ⟨rfl, rfl, rfl, by decide +kernel, rfl, by decide +kernel, by decide +kernel⟩
theorem ok_init {f : Addr} {fd : FuncData} (F : Fun K "__init__" "Rules.__init__" s_Rules_init f fd) (T : Txt Z K mg) (U : TxtC Z K) (F_need_width : Fn1 P w K mg base "need_width" 3 (spR R_needw)) (F_are_rules : Fn1 P w K mg base "are_rules" 5 spArT) : FnR P w K mg base CX0 6 f (spInitS Z.aR) := by
  refine Fun.okS (ps := ["self", "width"]) (pv := "rules") F sc_Rules_init (fun _ _ _ _ _ _ us rest hl => ?_) (fun cdv A outer s H vs Q E hr h => ?_)
  · match us, hl, rest with
    | [a, b], _, [] => rfl
    | [a, b], _, r :: rs => rfl
  obtain ⟨G, x, dx, t, ob, xs, rs, n, rfl, eG, hGx, hx, ht, hob, hxs, hgood, hn1, hn6, k⟩ := h
  have nd := sc_Rules_init.nd
  refine ⟨_, (pss_cons (ps_expr (pe_fn F_need_width (hr.mono (by decide)) rfl (pa_cons (pv 1) pa_nil)))
    (pss_cons (ps_if (pt_not (pt_val (pe_fn F_are_rules (hr.mono (by decide)) rfl (pa_cons (pv 2) (pa_cons (pv 1) pa_nil))))) (pss_one ps_never) pss_nil)
    (pss_one (ps_asg (pe_tup (pa_cons (pv 1) (pa_cons (pv 2) pa_nil))) (pgTupK K (n := 2) (pgs_cons (pg_fld (pv 0)) (pgs_cons (pg_fld (pv 0)) pgs_nil))))))), ?_⟩
  show tSeq _ _ _ [some (.ref x), some (.int (n : Int)), some (.ref t)] H
  refine (d_call (E := E0) (R := R_needw) (z := .none) (a_cons (d_var (σ := [some (.ref x), some (.int (n : Int)), some (.ref t)]) (i := 1) rfl (.int _)) a_nil) ⟨n, rfl, hn1, hn6, rfl⟩).go eG fun v G1 H1 g1 _ => ?_
  have har : EvD (tCall spArT [] E0 (tCons (tVar 2) (tCons (tVar 1) tNil))) [some (.ref x), some (.int (n : Int)), some (.ref t)] G1 (.bool true) := .mk fun G2 H2 e1 e2 Q q =>
    ⟨.ref t, rfl, .int (n : Int), rfl, G2, t, ob, xs, rs, n, rfl, e2, e1 _ _ (g1.g _ _ ht), hob, hxs.up (g1.g.trans e1), hgood, fun G3 H3 g3 => q _ G3 H3 g3 (.bl _)⟩
  refine q_when (b := !true) (b_not (b_B har)) g1.gh (fun hx => absurd hx (by decide)) fun _ G2 H2 g2 => ?_
  have g12 := g1.trans g2
  have hx2 : H2 x = some (.ins Z.aR dx []) := g12.ex _ _ hx
  have hGx2 : G2 x = none := g12.new x (by rw [hx]; exact fun z => nomatch z) hGx
  refine ⟨_, rfl, _, rfl, (by show 2 ≤ sizeLine; decide), fun p hp => ⟨p, _, rfl, .inl (.inl upd_same), rfl, _, _, rfl, ?_⟩⟩
  have npx : x ≠ p := ne_of_none hx2 hp
  refine ⟨_, rfl, x, Z.aR, dx, _, rfl, by rw [upd_ne npx]; exact hx2, U.cR, U.nC, by decide, _, _, rfl, ?_⟩
  refine ⟨_, rfl, x, Z.aR, dx, _, rfl, upd_same, U.cR, U.nK, (by show 1 < 1000; decide), rfl, ?_⟩
  have g3 : Grow (fun a => a = x) G H G2 (upd H2 p (.tup [.int (n : Int), .ref t])) := (g12.trans (Grow.mnew g2.gh hp)).of0
  have g4 := g3.set (o := .ins Z.aR dx (putF "columns" (.int (n : Int)) [])) (.inr rfl) hGx2 (by rw [upd_ne npx, hx2]; exact fun z => nomatch z)
  have g5 := g4.set (o := .ins Z.aR dx (flds n t)) (.inr rfl) hGx2 (by rw [upd_same]; exact fun z => nomatch z)
  exact k _ _ g5 upd_same hGx2
/-- C(n, *rules) -/
theorem make_rules {σ : VSt} {G : Hp} {ta tb : TE} {n : Nat} {rs : List Ru} (h1 : EvD ta σ G (I1 n)) (h2 : EvD tb σ G (.list (rs.map RU))) (hgood : GoodL n rs) (hn1 : 1 ≤ n) (hn6 : n ≤ 6) :
    ∀ G1 H1, Ex G G1 → Ex G1 H1 → ∀ Q : VK, (∀ v G2 H2, Grow M0 G1 H1 G2 H2 → RO Z.aR G2 v n rs → Q v H2) → StX.tMakeR Z.aR (spInitS Z.aR) E0 (tCons ta (StX.tStar K tb tNil)) σ H1 Q := fun G1 H1 e1 e2 Q q =>
  h1.go' e1 e2 fun v G2 H2 g2 hv => h2.go' (e1.trans g2.g) g2.gh fun u G3 H3 g3 hu => by
    obtain rfl := hv.eqI
    obtain ⟨pa, xs, rfl, hpa, hxs⟩ := hu.eqL
    refine ⟨pa, xs, rfl, .inr (.inl (.inl (g3.gh _ _ hpa))), fun x dx hx hdx hne => ?_⟩
    have g4 : Grow M0 G1 H1 G3 (upd H3 dx (.own x)) := (g2.trans g3).trans (Grow.mnew g3.gh hdx)
    have hx4 : (upd H3 dx (.own x)) x = none := by rw [upd_ne (fun z => hne z.symm)]; exact hx
    have g5 : Grow M0 G1 H1 G3 (upd (upd H3 dx (.own x)) x (.ins Z.aR dx [])) := g4.trans (Grow.mnew g4.gh hx4)
    have hx1 : H1 x = none := g4.there x hx4
    have hG3x : G3 x = none := g4.gh.back hx4
    refine ⟨[.ref x, .int (n : Int)], xs ++ [], rfl, rfl, ?_, fun p ob hp hob => ?_⟩
    · rw [List.append_nil, hxs.length, List.length_map]
      have := hgood.1
      exact Evl.sz_of (by omega)
    · rw [List.append_nil]
      have npx : x ≠ p := fun z => by
        rw [← z, upd_same] at hp
        cases hp
      have g6 := g5.trans (Grow.laid (o := .frz ob (.tup xs)) g5.gh hp)
      have e36 : Ex G3 (upd G3 p (.frz ob (.tup xs))) := Ex.frz (g5.gh.back hp)
      refine ⟨upd G3 p (.frz ob (.tup xs)), x, dx, p, ob, xs, rs, n, rfl, g6.gh, by rw [upd_ne npx]; exact hG3x, by rw [upd_ne npx, upd_same], upd_same, hob, hxs.up e36, hgood, hn1, hn6, fun G7 H7 g7 hx7 hG7 => ⟨rfl, ?_⟩⟩
      have g17 : Grow M0 G1 H1 G7 H7 := g6.priv g7 hx1
      have e78 : Ex G7 (upd G7 x (.ins Z.aR dx (flds n p))) := Ex.frz hG7
      refine q (.ref x) _ H7 (g17.freeze hx1 hG7 hx7) ⟨x, dx, p, rfl, upd_same, .tup (.inr ⟨ob, e78 _ _ (g7.g _ _ upd_same)⟩) (hxs.up (e36.trans (g7.g.trans e78)))⟩
/-! ### read -/
def spRead (C : Addr) : Sp := fun vs H Q _ => ∃ (G : Hp) (rs : List Ru) (n : Nat), vs = [.ref C, .int (n : Int), .str (textOf rs)] ∧ Ex G H ∧ GoodL n rs ∧ 1 ≤ n ∧ n ≤ 6 ∧ ∀ v G2 H2, Grow M0 G H G2 H2 → RO C G2 v n rs → Q v H2
theorem valid6 {n : Nat} {r : Ru} (h : validR n r) (hn : n ≤ 6) : r.2.1 < 6 ∧ r.2.2 < 6 := ⟨Nat.lt_of_lt_of_le h.1 hn, Nat.lt_of_lt_of_le h.2.1 hn⟩
theorem good_of {n : Nat} {rs : List Ru} (h : GoodL n rs) (hn : n ≤ 6) : GoodRs rs := ⟨h.1, fun r hr => valid6 (h.2.1 r hr) hn⟩
theorem cut_lines (rs : List Ru) : cutD ((rs.map lineOf ++ [S []]).map PyData.str) none (some (-1)) = rs.map fun r => PyData.str (lineOf r) := by
  unfold cutD
  rw [HT.sIx_none, List.drop_zero, List.length_map, List.length_append, List.length_map, List.length_singleton]
  have e : HT.sIx (rs.length + 1) (rs.length + 1) (some (-1)) = rs.length := by
    show (if (-1 : Int) < 0 then ((-1 : Int) + ((rs.length + 1 : Nat) : Int)).toNat else min (-1 : Int).toNat (rs.length + 1)) = _
    rw [if_pos (by decide)]
    omega
  rw [e, Nat.sub_zero, List.map_append, List.take_append_of_le_length (by simp), List.take_of_length_le (by simp), List.map_map]
  rfl
theorem sc_Rules_read : FnScope ["cls", "width", "text", "found", "line"] ["cls", "width", "text"] (defScope s_Rules_read) := ⟨rfl, rfl, rfl, by decide +kernel, rfl, by decide +kernel, by decide +kernel⟩
theorem ok_read {f fi : Addr} {fd : FuncData} (F : Fun K "read" "Rules.read" s_Rules_read f fd) (T : Txt Z K mg) (F_need_width : Fn1 P w K mg base "need_width" 3 (spR R_needw)) (F_are_rules : Fn1 P w K mg base "are_rules" 5 (spR R_arerules)) (F_rule_of : Fn1 P w K mg base "rule_of" 2 (spR R_ruleof))
    (M_init : Mk K Z.aR fi) (F_init : FnR P w K mg base CX0 6 fi (spInitS Z.aR)) : FnOk P w K mg base CX0 8 f fd ["cls", "width", "text"] (spRead Z.aR) := by
  refine F.ok sc_Rules_read (fun vs H Q E h => ?_) (fun cdv A outer s H vs Q E hr h => ?_)
  · obtain ⟨G, rs, n, rfl, _⟩ := h
    rfl
  obtain ⟨G, rs, n, rfl, eG, hgood, hn1, hn6, k⟩ := h
  have nd := sc_Rules_read.nd
  have v6 : ∀ r ∈ rs, r.2.1 < 6 ∧ r.2.2 < 6 := fun r hr => valid6 (hgood.2.1 r hr) hn6
  refine ⟨_, (pss_cons (ps_expr (pe_fn F_need_width (hr.mono (by decide)) rfl (pa_cons (pv 1) pa_nil)))
    (pss_cons (ps_if (PW.pt (pw_or (pt_not (pt_val (pe_callB (crIsiK K) (by rfl) T.b_isinstance (by decide +kernel) (pa_cons (pv 2) (pa_cons (pe_bltn (v := .ty "str") (u := Value.type "str") rfl T.b_str (by decide +kernel) rfl) pa_nil))))) (pw_or1 (PW.pt (pw_and (pt_cmpR (neDK K (h64 hr)) (pv 2) pe_str (nomark _)) (pw_and1 (pt_not (pt_val (pe_m1 PySem.F.slot_str_endswith PySem.F.type_str_endswith mt_endswith (pv 2) pe_str (by rfl) (by rfl) (by rfl)))))))))) (pss_one ps_never) pss_nil)
    (pss_cons (ps_setLc (i := 3) (own := [("line", 4)]) rfl nd rfl rfl (sw_true rfl rfl rfl (by decide +kernel)) (piListK K (pe_slice (slLK K) (pe_split (pv 2) pe_str) po_none (po_some (pe_un un_neg pe_int)))) (blkOk_by (own := [("line", 4)]) (N := ["cls", "width", "text", "found", "line"]) (sc := (defScope s_Rules_read)) (by decide +kernel)) (fun _ _ _ _ _ => (pgN 4 nd)) (fun _ _ _ _ _ => pts_nil) (fun _ _ _ _ _ => (pe_fn F_rule_of (hr.mono (by decide)) rfl (pa_cons (pv 4) pa_nil))))
    (pss_cons (ps_if (pt_not (pt_val (pe_fn F_are_rules (hr.mono (by decide)) rfl (pa_cons (pv 3) (pa_cons (pv 1) pa_nil))))) (pss_one ps_never) pss_nil)
    (pss_one (ps_ret (pe_makeSL (i := 0) M_init F_init (hr.mono (by decide)) pass0 (pa_cons (pv 1) (StX.pa_star (pv 3) pa_nil))))))))), ?_⟩
  show tSeq _ _ _ [some (.ref Z.aR), some (.int (n : Int)), some (.str (textOf rs)), none, none] H
  refine (d_call (E := E0) (R := R_needw) (z := .none) (a_cons (d_var (σ := [some (.ref Z.aR), some (.int (n : Int)), some (.str (textOf rs)), none, none]) (i := 1) rfl (.int _)) a_nil) ⟨n, rfl, hn1, hn6, rfl⟩).go eG fun v G1 H1 g1 _ => ?_
  refine q_when (b := (!true) || ((!PyData.eqv (.str (textOf rs)) (.str "")) && (!Txt.endswith (textOf rs) "\n"))) (b_or (b_not (b_B (d_isi "str" (d_var rfl (.str _)) v_c (by decide +kernel)))) fun _ =>
      b_and (b_test (d_op (d_var rfl (.str _)) d_str (r_ne (Lay.shaped (n := 0) ⟨text_ok v6, by simp [PyData.depth]⟩) (by decide +kernel)))) fun _ => b_not (b_B (d_m1 (d_var rfl (.str _)) d_str m_ends))) g1.gh (fun hx => ?_) fun _ G2 H2 g2 => ?_
  · rw [eqv_str] at hx
    by_cases e : rs = []
    · rw [decide_eq_true (text_nil.mpr e)] at hx
      revert hx
      cases Txt.endswith (textOf rs) (Str.ofString "\n") <;> exact fun z => absurd z (by decide)
    · rw [ends_text e, decide_eq_false (fun z => e (text_nil.mp z))] at hx
      exact absurd hx (by decide)
  have hs := m_split (a := textOf rs) (b := "\n") (te := tVar 2) (ta := tC (.str "\n")) (σ := [some (.ref Z.aR), some (.int (n : Int)), some (.str (textOf rs)), none, none]) (G := G2) (d_var rfl (.str _)) d_str (by decide +kernel) (by
    have := textL_inj_len rs; have := hgood.1; omega)
  rw [split_text rs] at hs
  have hc := m_slL (K := K) hs.toD o_none (o_some d_neg1)
  rw [cut_lines] at hc
  have hl := m_lcL (K := K) (vs := [4]) (g := gName 4) (tt := tYes) (te := tCall (spR R_ruleof) [] E0 (tCons (tVar 4) tNil)) (enc := fun r => PyData.str (lineOf r)) (xs := rs) (fun _ => true) RU hc.toD (by have := hgood.1; omega)
    (fun x v G1 H1 hx e1 e2 hv Q q => q _ rfl (fun G1 H1 _ e2 Q q => q G1 H1 (Grow.refl e2)) fun _ => d_call (a_cons (d_var rfl hv) a_nil) ⟨x, rfl, (v6 x hx).1, (v6 x hx).2, rfl⟩)
  rw [List.filter_eq_self.mpr fun _ _ => rfl] at hl
  refine q_asg hl.toD g2.gh fun v3 G3 H3 g3 hv3 => ?_
  show tSeq _ _ _ [some (.ref Z.aR), some (.int (n : Int)), some (.str (textOf rs)), some v3, none] H3
  refine q_when (b := !true) (b_not (b_B (d_call (a_cons (d_var rfl hv3) (a_cons (d_var rfl (.int _)) a_nil)) ⟨rs, n, rfl, hgood, rfl⟩))) g3.gh (fun hx => absurd hx (by decide)) fun _ G4 H4 g4 => ?_
  exact ⟨rfl, make_rules (d_var rfl (.int _)) (d_var rfl (hv3.up g4.g)) hgood hn1 hn6 G4 H4 (Ex.refl _) g4.gh _ fun v G5 H5 g5 hro => k v G5 H5 ((((g1.trans g2).trans g3).trans g4).trans g5) hro⟩
/-! ### rules(rule) -/
def spCallR (C : Addr) : Sp := fun vs H Q _ => ∃ (G : Hp) (v u : V) (rs : List Ru) (r : Ru) (n : Nat), vs = [v, u] ∧ Ex G H ∧ RO C G v n rs ∧ DD G u (RU r) ∧ GoodL n rs ∧ n ≤ 6 ∧ validR n r ∧ ∀ G2 H2, Grow M0 G H G2 H2 → Q (.bl (followsM rs r)) H2
theorem sc_Rules_call : FnScope ["self", "rule"] ["self", "rule"] (defScope s_Rules_call) := ⟨rfl, rfl, rfl, by decide +kernel, rfl, by decide +kernel, by decide +kernel⟩
theorem ok_callR {f : Addr} {fd : FuncData} (F : Fun K "__call__" "Rules.__call__" s_Rules_call f fd) (T : Txt Z K mg) (U : TxtC Z K) (F_need_rule : Fn1 P w K mg base "need_rule" 5 (spR R_needrule)) (F_follows : Fn1 P w K mg base "follows" 4 (spR R_follows)) : FnOk P w K mg base CX0 6 f fd ["self", "rule"] (spCallR Z.aR) := by
  refine F.ok sc_Rules_call (fun vs H Q E h => ?_) (fun cdv A outer s H vs Q E hr h => ?_)
  · obtain ⟨G, v, u, rs, r, n, rfl, _⟩ := h
    rfl
  obtain ⟨G, v, u, rs, r, n, rfl, eG, hro, hu, hgood, hn6, hval, k⟩ := h
  obtain ⟨p, dx, t, rfl, hp, ht⟩ := hro.ex
  have nd := sc_Rules_call.nd
  refine ⟨_, (pss_cons (ps_expr (pe_fn F_need_rule (hr.mono (by decide)) rfl (pa_cons (pv 1) (pa_cons (peFldK K (pv 0)) pa_nil))))
    (pss_one (ps_ret (pe_fn F_follows (hr.mono (by decide)) rfl (pa_cons (peFldK K (pv 0)) (pa_cons (pv 1) pa_nil)))))), ?_⟩
  show tSeq _ _ _ [some (.ref p), some u] H
  refine (d_call (E := E0) (R := R_needrule) (z := .none) (a_cons (d_var (σ := [some (.ref p), some u]) (i := 1) rfl hu) (a_cons (d_v (v_fld (K := K) (v_var (i := 0) rfl) hp U.cR U.nC (flds_columns n t)) (.int _)) a_nil)) ⟨r, n, rfl, hval, rfl⟩).go eG fun v G1 H1 g1 _ => ?_
  exact s_ret (d_call (a_cons (d_v (v_fld (K := K) (v_var (i := 0) rfl) (g1.g _ _ hp) U.cR U.nK (flds_kept n t)) (ht.up g1.g)) (a_cons (d_var rfl (hu.up g1.g)) a_nil)) ⟨rs, r, rfl, good_of hgood hn6, (valid6 hval hn6).1, (valid6 hval hn6).2, rfl⟩) g1.gh fun v G2 H2 g2 hv => by
    rw [hv.eqB]
    exact k G2 H2 (g1.trans g2)
end
end CP
set_option Elab.async false
set_option linter.all false
set_option maxRecDepth 100000
set_option maxHeartbeats 4000000
namespace CP
open PySem L2 CL CM
/-- further addresses -/
structure AdY where
  aT : Addr
  aL : Addr
  aS : Addr
  aH : Addr
  aB : Addr
  aE : Addr
  ex : Nat → Addr
  t1 : Tok
  t2 : Tok
  t3 : Tok
  t4 : Tok
/-- the exceptions -/
structure TxtV (Y : AdY) (K : PySem.W.Frag) (mg : Str → Option Value) : Prop where
  NoWidth : ExOk K mg "NoWidth" (Y.ex 0)
  NoRows : ExOk K mg "NoRows" (Y.ex 1)
  NoRow : ExOk K mg "NoRow" (Y.ex 2)
  NoRules : ExOk K mg "NoRules" (Y.ex 3)
  NoRule : ExOk K mg "NoRule" (Y.ex 4)
  NoColumn : ExOk K mg "NoColumn" (Y.ex 5)
  NoNumber : ExOk K mg "NoNumber" (Y.ex 6)
  NoText : ExOk K mg "NoText" (Y.ex 7)
  NotTable : ExOk K mg "NotTable" (Y.ex 8)
  NotRules : ExOk K mg "NotRules" (Y.ex 9)
  UnlikeWidths : ExOk K mg "UnlikeWidths" (Y.ex 10)
  TooMuch : ExOk K mg "TooMuch" (Y.ex 11)
  NotThere : ExOk K mg "NotThere" (Y.ex 12)
  Broken : ExOk K mg "Broken" (Y.ex 13)
  NothingDone : ExOk K mg "NothingDone" (Y.ex 14)
/-- constants and classes of the module -/
structure TxtU (Z : Ads) (Y : AdY) (K : PySem.W.Frag) (mg : Str → Option Value) : Prop where
  c_MOST_ROWS : mg "MOST_ROWS" = some (.int 400 Y.t1)
  c_MOST_VALUE : mg "MOST_VALUE" = some (.int 9999 Y.t2)
  c_SMALL : mg "SMALL" = some (.int 99 Y.t3)
  c_DIGITS : mg "DIGITS" = some (.str "0123456789" Y.t4)
  k_Rules : mg "Rules" = some (.ref Z.aR)
  k_Table : mg "Table" = some (.ref Y.aT)
  k_Log : mg "Log" = some (.ref Y.aL)
  k_Strict : mg "Strict" = some (.ref Y.aS)
  k_Short : mg "Short" = some (.ref Y.aH)
  k_StrictShort : mg "StrictShort" = some (.ref Y.aB)
section
variable {P : Program} {w : World} {K : PySem.W.Frag} {mg : Str → Option Value} {base : Heap} {Z : Ads} {Y : AdY}
/-! ### odd values asked -/
def P_isint : Hp → List V → V → Prop := fun G vs v => ∃ x T, vs = [x] ∧ Odd G x T ∧ v = .bl (isiB T "int" && !isiB T "bool")
theorem okO_is_integer {f : Addr} {fd : FuncData} (F : Fun K "is_integer" "is_integer" s_is_integer f fd) (T : Txt Z K mg) : FnOk P w K mg base CX0 1 f fd ["thing"] (spV P_isint) := by
  refine F.ok sc_is_integer (fun vs H Q E ⟨G, v, _, ⟨x, t, e, _⟩, _⟩ => by rw [e]; rfl) (fun cdv A outer s H vs Q E hr h => ?_)
  obtain ⟨G, v, eG, ⟨x, t, rfl, ho, rfl⟩, k⟩ := h
  have nd := sc_is_integer.nd
  refine ⟨_, (pss_one (ps_ret (pe_and (pe_callB (crIsiK K) (by rfl) T.b_isinstance (by decide +kernel) (pa_cons (pv 0) (pa_cons (pe_bltn (v := .ty "int") (u := Value.type "int") rfl T.b_int (by decide +kernel) rfl) pa_nil))) (pe_one (pe_not (pe_callB (crIsiK K) (by rfl) T.b_isinstance (by decide +kernel) (pa_cons (pv 0) (pa_cons (pe_bltn (v := .ty "bool") (u := Value.type "bool") rfl T.b_bool (by decide +kernel) rfl) pa_nil)))))))), ?_⟩
  show tRet _ _ [some x] H
  exact s_ret (d_andV (d_isiO (v_var rfl) ho v_c (by simp)) fun _ => d_notV (d_isiO (v_var rfl) ho v_c (by simp))) eG fun v G2 H2 g hv => by
    rw [hv.eqB]
    exact k G2 H2 g
def P_betw : Hp → List V → V → Prop := fun G vs v => ∃ x T lo hi, vs = [x, .int lo, .int hi] ∧ Odd G x T ∧ 0 ≤ lo ∧ v = .bl false
theorem okO_is_between {f : Addr} {fd : FuncData} (F : Fun K "is_between" "is_between" s_is_between f fd) (T : Txt Z K mg) (O_is_integer : Fn1 P w K mg base "is_integer" 1 (spV P_isint)) : FnOk P w K mg base CX0 2 f fd ["thing", "low", "high"] (spV P_betw) := by
  refine F.ok sc_is_between (fun vs H Q E ⟨G, v, _, ⟨x, t, lo, hi, e, _⟩, _⟩ => by rw [e]; rfl) (fun cdv A outer s H vs Q E hr h => ?_)
  obtain ⟨G, v, eG, ⟨x, t, lo, hi, rfl, ho, hlo, rfl⟩, k⟩ := h
  have nd := sc_is_between.nd
  refine ⟨_, (pss_one (ps_ret (pe_and (pe_fn O_is_integer (hr.mono (by decide)) rfl (pa_cons (pv 0) pa_nil)) (pe_one (pe_chain op_le op_le (pv 1) (pv 0) (pv 2)))))), ?_⟩
  show tRet _ _ [some x, some (.int lo), some (.int hi)] H
  have h1 : EvD (tCall (spV P_isint) [] E0 (tCons (tVar 0) tNil)) [some x, some (.int lo), some (.int hi)] G (.bool (isiB t "int" && !isiB t "bool")) := d_v (v_call (vs := [x]) (w_cons (v_var rfl) w_nil) fun G' e => ⟨x, t, rfl, ho.up e, rfl⟩) (.bl _)
  have h2 : ∀ hh : (isiB t "int" && !isiB t "bool") = true, EvD (tChain (rI0 fun i j => .bl (decide (i ≤ j))) (rI0 fun i j => .bl (decide (i ≤ j))) (tVar 1) (tVar 0) (tVar 2)) [some x, some (.int lo), some (.int hi)] G (.bool false) := fun hh => by
    cases ho with
    | int => exact (d_chain (b := decide ((-1 : Int) ≤ hi)) (d_var rfl (.int _)) (d_var rfl (.int _)) r_B0 (fun _ => d_var rfl (.int _)) fun _ => r_B0).is (by rw [decide_eq_false (by omega : ¬ lo ≤ -1)]; rfl)
    | _ => exact absurd hh (by decide)
  refine s_ret (d := .bool ((isiB t "int" && !isiB t "bool") && false)) (d_andV h1 h2) eG fun v G2 H2 g hv => ?_
  rw [hv.eqB, Bool.and_false]
  exact k G2 H2 g
def P_needw : Hp → List V → Prop := fun G vs => ∃ x, vs = [x] ∧ ((∃ T, Odd G x T) ∨ ∃ i : Int, x = .int i ∧ ¬ (1 ≤ i ∧ i ≤ 6))
theorem okX_need_width {f : Addr} {fd : FuncData} (F : Fun K "need_width" "need_width" s_need_width f fd) (T : Txt Z K mg) (V : TxtV Y K mg) (O_is_between : Fn1 P w K mg base "is_between" 2 (spV P_betw)) (F_is_between : Fn1 P w K mg base "is_between" 2 (spR R_betw)) : FnOk P w K mg base (L2.CX P w) 3 f fd ["thing"] (spX P_needw (Y.ex 0)) := by
  refine F.okX sc_need_width (fun vs H Q E ⟨G, _, ⟨x, e, _⟩, _⟩ => by rw [e]; rfl) (fun cdv A outer s H vs Q E hr h => ?_)
  obtain ⟨G, eG, ⟨x, rfl, hx⟩, xr⟩ := h
  have nd := sc_need_width.nd
  rcases hx with ⟨t, ho⟩ | ⟨i, rfl, hi⟩
  · refine ⟨_, (pss_one (ps_if (pt_not (pt_val (pe_fn O_is_between (hr.mono (by decide)) rfl (pa_cons (pv 0) (pa_cons pe_int (pa_cons (pe_glob (v := .int 6) rfl T.c_MOST_WIDTH ⟨_, rfl⟩) pa_nil)))))) (pss_one (ps_exc rfl (takes_of rfl rfl rfl rfl) V.NoWidth rfl)) pss_nil)), ?_⟩
    show tIfS _ _ _ _ [some x] H
    exact s_raise (b := !false) rfl (b_not (b_B (d_v (v_call (vs := [x, .int 1, .int 6]) (w_cons (v_var rfl) (w_cons v_c (w_cons v_c w_nil))) fun G' e => ⟨x, t, 1, 6, rfl, ho.up e, by decide, rfl⟩) (.bl _)))) eG fun G2 H2 g => (xr.up g).now g.gh
  · refine ⟨_, (pss_one (ps_if (pt_not (pt_val (pe_fn F_is_between (hr.mono (by decide)) rfl (pa_cons (pv 0) (pa_cons pe_int (pa_cons (pe_glob (v := .int 6) rfl T.c_MOST_WIDTH ⟨_, rfl⟩) pa_nil)))))) (pss_one (ps_exc rfl (takes_of rfl rfl rfl rfl) V.NoWidth rfl)) pss_nil)), ?_⟩
    show tIfS _ _ _ _ [some (.int i)] H
    exact s_raise (b := !(decide ((1 : Int) ≤ i) && decide (i ≤ 6))) (by
      by_cases h1 : 1 ≤ i <;> by_cases h2 : i ≤ 6 <;> simp [h1, h2]
      exact hi ⟨h1, h2⟩) (b_not (b_B (d_call (a_cons (d_var rfl (.int _)) (a_cons d_int (a_cons d_int a_nil))) ⟨i, 1, 6, rfl, rfl⟩))) eG fun G2 H2 g => (xr.up g).now g.gh
def P_col : Hp → List V → V → Prop := fun G vs v => ∃ x, ∃ n : Nat, vs = [x, .int (n : Int)] ∧ v = .bl false ∧ ((∃ T, Odd G x T) ∨ ∃ i : Int, x = .int i ∧ (n : Int) ≤ i)
theorem okO_is_column {f : Addr} {fd : FuncData} (F : Fun K "is_column" "is_column" s_is_column f fd) (T : Txt Z K mg) (O_is_between : Fn1 P w K mg base "is_between" 2 (spV P_betw)) (F_is_between : Fn1 P w K mg base "is_between" 2 (spR R_betw)) : FnOk P w K mg base CX0 3 f fd ["thing", "width"] (spV P_col) := by
  refine F.ok sc_is_column (fun vs H Q E ⟨G, v, _, ⟨x, n, e, _⟩, _⟩ => by rw [e]; rfl) (fun cdv A outer s H vs Q E hr h => ?_)
  obtain ⟨G, v, eG, ⟨x, n, rfl, rfl, hx⟩, k⟩ := h
  have nd := sc_is_column.nd
  rcases hx with ⟨t, ho⟩ | ⟨i, rfl, hi⟩
  · refine ⟨_, (pss_one (ps_ret (pe_fn O_is_between (hr.mono (by decide)) rfl (pa_cons (pv 0) (pa_cons pe_int (pa_cons (pe_op op_sub (pv 1) pe_int) pa_nil)))))), ?_⟩
    show tRet _ _ [some x, some (.int (n : Int))] H
    exact s_retV (v_call (vs := [x, .int 0, .int ((n : Int) - 1)]) (w_cons (v_var rfl) (w_cons v_c (w_cons (v_int (d_op (d_var rfl (.int _)) d_int r_I0)) w_nil))) fun G' e => ⟨x, t, 0, _, rfl, ho.up e, by decide, rfl⟩) eG k
  · refine ⟨_, (pss_one (ps_ret (pe_fn F_is_between (hr.mono (by decide)) rfl (pa_cons (pv 0) (pa_cons pe_int (pa_cons (pe_op op_sub (pv 1) pe_int) pa_nil)))))), ?_⟩
    show tRet _ _ [some (.int i), some (.int (n : Int))] H
    refine s_ret (d := .bool (decide ((0 : Int) ≤ i) && decide (i ≤ (n : Int) - 1))) (d_call (a_cons (d_var rfl (.int _)) (a_cons d_int (a_cons (d_op (d_var rfl (.int _)) d_int r_I0) a_nil))) ⟨i, 0, (n : Int) - 1, rfl, rfl⟩) eG fun v G2 H2 g hv => ?_
    rw [hv.eqB, decide_eq_false (by omega : ¬ i ≤ (n : Int) - 1), Bool.and_false]
    exact k G2 H2 g
/-! ### no rule -/
def P_norule : Hp → V → Nat → Prop := fun G x n => (∃ T, Odd G x T) ∨ (DD G x (RU (false, 0, 0)) ∧ 0 < n)
def P_isrule : Hp → List V → V → Prop := fun G vs v => ∃ x, ∃ n : Nat, vs = [x, .int (n : Int)] ∧ v = .bl false ∧ P_norule G x n
theorem P_norule.up {G G' : Hp} {x : V} {n : Nat} (h : P_norule G x n) (e : Ex G G') : P_norule G' x n := h.imp (fun ⟨T, h⟩ => ⟨T, h.up e⟩) fun ⟨h, k⟩ => ⟨h.up e, k⟩
theorem okO_is_rule {f : Addr} {fd : FuncData} (F : Fun K "is_rule" "is_rule" s_is_rule f fd) (T : Txt Z K mg) (F_is_column : Fn1 P w K mg base "is_column" 3 (spR R_col)) : FnOk P w K mg base CX0 4 f fd ["thing", "width"] (spV P_isrule) := by
  refine F.ok sc_is_rule (fun vs H Q E ⟨G, v, _, ⟨x, n, e, _⟩, _⟩ => by rw [e]; rfl) (fun cdv A outer s H vs Q E hr h => ?_)
  obtain ⟨G, v, eG, ⟨x, n, rfl, rfl, hx⟩, k⟩ := h
  have nd := sc_is_rule.nd
  refine ⟨_, (pss_cons (ps_if (PW.pt (pw_or (pt_not (pt_val (pe_callB (crIsiK K) (by rfl) T.b_isinstance (by decide +kernel) (pa_cons (pv 0) (pa_cons (pe_bltn (v := .ty "tuple") (u := Value.type "tuple") rfl T.b_tuple (by decide +kernel) rfl) pa_nil))))) (pw_or (pt_cmpR (neDK K (h64 hr)) (pe_callB (crLenK K) (by rfl) T.b_len (by decide +kernel) (pa_cons (pv 0) pa_nil)) pe_int (nomark _)) (pw_or1 (pt_not (pt_val (pe_callB (crIsiK K) (by rfl) T.b_isinstance (by decide +kernel) (pa_cons (pe_ix (ix_seqK K) (pv 0) pe_int (fun _ _ => rfl)) (pa_cons (pe_bltn (v := .ty "str") (u := Value.type "str") rfl T.b_str (by decide +kernel) rfl) pa_nil))))))))) (pss_one (ps_ret pe_bl)) pss_nil)
    (pss_cons (ps_if (PW.pt (pw_and (pt_cmpR (neDK K (h64 hr)) (pe_ix (ix_seqK K) (pv 0) pe_int (fun _ _ => rfl)) (pe_glob (v := .str "settles") rfl T.c_SETTLES ⟨_, rfl⟩) (nomark _)) (pw_and1 (pt_cmpR (neDK K (h64 hr)) (pe_ix (ix_seqK K) (pv 0) pe_int (fun _ _ => rfl)) (pe_glob (v := .str "within") rfl T.c_WITHIN ⟨_, rfl⟩) (nomark _))))) (pss_one (ps_ret pe_bl)) pss_nil)
    (pss_one (ps_ret (pe_and (pe_fn F_is_column (hr.mono (by decide)) rfl (pa_cons (pe_ix (ix_seqK K) (pv 0) pe_int (fun _ _ => rfl)) (pa_cons (pv 1) pa_nil))) (pe_and (pe_fn F_is_column (hr.mono (by decide)) rfl (pa_cons (pe_ix (ix_seqK K) (pv 0) pe_int (fun _ _ => rfl)) (pa_cons (pv 1) pa_nil))) (pe_one (pe_cmpR (neDK K (h64 hr)) (pe_ix (ix_seqK K) (pv 0) pe_int (fun _ _ => rfl)) (pe_ix (ix_seqK K) (pv 0) pe_int (fun _ _ => rfl)) (nomark _))))))))), ?_⟩
  show tSeq _ _ _ [some x, some (.int (n : Int))] H
  rcases hx with ⟨t, ho⟩ | ⟨h1, hn⟩
  · have first : ∀ {b : Bool} {d : PyData}, isiB t "tuple" = b → (b = true → x = x) → True := fun _ _ => trivial
    have hi : EvB (tNot (tB (tCB (rIsi K) (tCons (tVar 0) (tCons (tC (.ty "tuple")) tNil))))) [some x, some (.int (n : Int))] G (!isiB t "tuple") := b_not (b_B (d_isiO (v_var rfl) ho v_c (by simp)))
    have ret : ∀ {G2 H2 : Hp}, Grow M0 G H G2 H2 → tRet (tC (.bl false)) { nx := fun _ H' => Q .non H', rt := Q } [some x, some (.int (n : Int))] H2 := fun {G2 H2} g => k G2 H2 g
    cases ho with
    | tup ht =>
      refine q_raise (b := (!true) || ((!PyData.eqv (.int 2) (.int 3)) || false)) (by rfl) (b_or hi fun _ => b_or (b_test (d_op (d_cb (a_cons (d_var rfl ht) a_nil) c_lenT) d_int (r_ne rfl rfl))) fun z => absurd z (by decide)) eG fun G2 H2 g => k G2 H2 g
    | _ => exact q_raise (b := true || false) rfl (b_or hi fun z => absurd z (by decide)) eG fun G2 H2 g => k G2 H2 g
  · have t0 : ∀ {G' : Hp}, Ex G G' → EvD (tOp (rIx K) (tVar 0) (tC (.int 0))) [some x, some (.int (n : Int))] G' (.str (kd false)) := fun e => d_op (d_var rfl (h1.up e)) d_int (r_ixT (at0 _ _ _))
    have t1 : ∀ {G' : Hp}, Ex G G' → EvD (tOp (rIx K) (tVar 0) (tC (.int 1))) [some x, some (.int (n : Int))] G' (I1 0) := fun e => d_op (d_var rfl (h1.up e)) d_int (r_ixT (at1 _ _ _))
    have t2 : ∀ {G' : Hp}, Ex G G' → EvD (tOp (rIx K) (tVar 0) (tC (.int 2))) [some x, some (.int (n : Int))] G' (I1 0) := fun e => d_op (d_var rfl (h1.up e)) d_int (r_ixT (at2 _ _ _))
    refine q_pass (b := (!true) || ((!PyData.eqv (.int 3) (.int 3)) || (!true))) (by rfl) (b_or (b_not (b_B (d_isi "tuple" (d_var rfl h1) v_c (by decide +kernel)))) fun _ => b_or (b_test (d_op (d_cb (a_cons (d_var rfl h1) a_nil) c_lenT) d_int (r_ne rfl rfl))) fun _ => b_not (b_B (d_isi "str" (t0 (Ex.refl _)) v_c (by decide +kernel)))) eG
      fun G2 H2 g2 => ?_
    refine q_pass (b := (!PyData.eqv (.str (kd false)) (.str "settles")) && (!PyData.eqv (.str (kd false)) (.str "within"))) (by rw [eqv_str, eqv_str]; decide +kernel) (b_and (b_test (d_op (t0 g2.g) d_str (r_ne (shaped_kd _) (shaped_kd true)))) fun _ => b_test (d_op (t0 g2.g) d_str (r_ne (shaped_kd _) (shaped_kd false)))) g2.gh
      fun G3 H3 g3 => ?_
    have e3 := g2.g.trans g3.g
    refine s_ret (d := .bool (true && (true && !PyData.eqv (I1 0) (I1 0)))) ?_ g3.gh fun v G4 H4 g4 hv => ?_
    · exact d_andV (d_call (a_cons (t1 e3) (a_cons (d_var rfl (.int _)) a_nil)) ⟨0, n, rfl, hn, rfl⟩) fun _ => d_andV (d_call (a_cons (t2 e3) (a_cons (d_var rfl (.int _)) a_nil)) ⟨0, n, rfl, hn, rfl⟩) fun _ => d_op (t1 e3) (t2 e3) (r_ne rfl rfl)
    · rw [hv.eqB, eqv_I1]
      exact k G4 H4 ((g2.trans g3).trans g4)
def P_needrule : Hp → List V → Prop := fun G vs => ∃ x, ∃ n : Nat, vs = [x, .int (n : Int)] ∧ P_norule G x n
theorem okX_need_rule {f : Addr} {fd : FuncData} (F : Fun K "need_rule" "need_rule" s_need_rule f fd) (T : Txt Z K mg) (V : TxtV Y K mg) (O_is_rule : Fn1 P w K mg base "is_rule" 4 (spV P_isrule)) : FnOk P w K mg base (L2.CX P w) 5 f fd ["thing", "width"] (spX P_needrule (Y.ex 4)) := by
  refine F.okX sc_need_rule (fun vs H Q E ⟨G, _, ⟨x, n, e, _⟩, _⟩ => by rw [e]; rfl) (fun cdv A outer s H vs Q E hr h => ?_)
  obtain ⟨G, eG, ⟨x, n, rfl, hx⟩, xr⟩ := h
  have nd := sc_need_rule.nd
  refine ⟨_, (pss_one (ps_if (pt_not (pt_val (pe_fn O_is_rule (hr.mono (by decide)) rfl (pa_cons (pv 0) (pa_cons (pv 1) pa_nil))))) (pss_one (ps_exc rfl (takes_of rfl rfl rfl rfl) V.NoRule rfl)) pss_nil)), ?_⟩
  show tIfS _ _ _ _ [some x, some (.int (n : Int))] H
  exact s_raise (b := !false) rfl (b_not (b_B (d_v (v_call (vs := [x, .int (n : Int)]) (w_cons (v_var rfl) (w_cons (v_var rfl) w_nil)) fun G' e => ⟨x, n, rfl, rfl, hx.up e⟩) (.bl _)))) eG fun G2 H2 g => (xr.up g).now g.gh
end
end CP
set_option Elab.async false
set_option linter.all false
set_option maxRecDepth 100000
set_option maxHeartbeats 4000000
namespace CP
open PySem L2 CL CM
/-- the classes, as the top has made them -/
structure TxtW (Z : Ads) (Y : AdY) (K : PySem.W.Frag) : Prop where
  c_Rules : Cls K Z.aR
  c_Table : Cls K Y.aT
  c_Log : Cls K Y.aL
  c_Strict : Cls K Y.aS
  c_Short : Cls K Y.aH
  i_Rules : C8.InsC K Z.aR
  i_Table : C8.InsC K Y.aT
  f_Rules : NoAttr K Z.aR "columns" ∧ NoAttr K Z.aR "kept"
  f_Table : NoAttr K Y.aT "columns" ∧ NoAttr K Y.aT "kept"
  f_Log : NoAttr K Y.aL "given" ∧ NoAttr K Y.aL "state" ∧ NoAttr K Y.aL "past"
  f_Strict : NoAttr K Y.aS "given" ∧ NoAttr K Y.aS "state" ∧ NoAttr K Y.aS "past"
  f_Short : NoAttr K Y.aH "given" ∧ NoAttr K Y.aH "state" ∧ NoAttr K Y.aH "past" ∧ NoAttr K Y.aH "limit"
  tyR : ∀ T, T = "NoneType" ∨ T = "bool" ∨ T = "str" ∨ T = "int" ∨ T = "list" ∨ T = "dict" ∨ T = "tuple" → PySem.W.kitOne K (.type T) (.ref Z.aR) = some false
  tyT : ∀ T, T = "NoneType" ∨ T = "bool" ∨ T = "str" ∨ T = "int" ∨ T = "list" ∨ T = "dict" ∨ T = "tuple" → PySem.W.kitOne K (.type T) (.ref Y.aT) = some false
  tRT : PySem.W.kitOne K (.ref Z.aR) (.ref Y.aT) = some false
  tTR : PySem.W.kitOne K (.ref Y.aT) (.ref Z.aR) = some false
theorem Odd.seven {G : Hp} {v : V} {T : String} (h : Odd G v T) : T = "NoneType" ∨ T = "bool" ∨ T = "str" ∨ T = "int" ∨ T = "list" ∨ T = "dict" ∨ T = "tuple" := by
  cases h <;> simp
/-- an instance that holds a width and rows (or rules) -/
structure TO (C : Addr) (G : Hp) (v : V) (n : Nat) (ds : List PyData) : Prop where
  ex : ∃ p dx t, v = .ref p ∧ G p = some (.ins C dx (flds n t)) ∧ DD G (.ref t) (.tuple ds)
theorem TO.up {C : Addr} {G G' : Hp} {v : V} {n : Nat} {ds : List PyData} (h : TO C G v n ds) (e : Ex G G') : TO C G' v n ds := by
  obtain ⟨p, dx, t, a, b, c⟩ := h.ex
  exact ⟨p, dx, t, a, e _ _ b, c.up e⟩
theorem TO.ofRO {C : Addr} {G : Hp} {v : V} {n : Nat} {rs : List Ru} (h : RO C G v n rs) : TO C G v n (rs.map RU) := ⟨h.ex⟩
theorem TO.ty {K : PySem.W.Frag} {C : Addr} {G H : Hp} {v : V} {n : Nat} {ds : List PyData} (h : TO C G v n ds) (c : C8.InsC K C) (e : Ex G H) : TyX K H v (.ref C) := by
  obtain ⟨p, dx, t, rfl, b, _⟩ := h.ex
  exact .base (.ins (e _ _ b) c.cl c.ha c.hn c.htk c.hm)
section
variable {P : Program} {w : World} {K : PySem.W.Frag} {mg : Str → Option Value} {base : Heap} {Z : Ads} {Y : AdY}
/-! ### a list of rules that is none -/
def P_arerules : Hp → List V → V → Prop := fun G vs v => ∃ (a : Addr) (ob : Obj) (x : V) (n : Nat) (T : String), vs = [.ref a, .int (n : Int)] ∧ G a = some (.frz ob (.tup [x])) ∧ Odd G x T ∧ v = .bl false
theorem okO_are_rules {f : Addr} {fd : FuncData} (F : Fun K "are_rules" "are_rules" s_are_rules f fd) (T : Txt Z K mg) (O_is_rule : Fn1 P w K mg base "is_rule" 4 (spV P_isrule)) : FnOk P w K mg base CX0 5 f fd ["things", "width"] (spV P_arerules) := by
  refine F.ok sc_are_rules (fun vs H Q E ⟨G, v, _, ⟨a, ob, x, n, t, e, _⟩, _⟩ => by rw [e]; rfl) (fun cdv A outer s H vs Q E hr h => ?_)
  obtain ⟨G, v, eG, ⟨a, ob, x, n, t, rfl, hf, ho, rfl⟩, k⟩ := h
  have nd := sc_are_rules.nd
  refine ⟨_, (pss_cons (ps_if (pt_not (pt_val (pe_callB (crAllK K rfl) (by rfl) T.b_all (by decide +kernel) (pa_cons (pe_lc (own := [("thing", 2)]) (by rfl) nd (piTupK K (pv 0)) (blkOk_by (own := [("thing", 2)]) (N := ["things", "width", "thing"]) (sc := (defScope s_are_rules)) (by decide +kernel)) (fun _ _ _ _ _ => (pgN 2 nd)) (fun _ _ _ _ _ => pts_nil) (fun _ _ _ _ _ => (pe_fn O_is_rule (hr.mono (by decide)) rfl (pa_cons (pv 2) (pa_cons (pv 1) pa_nil))))) pa_nil)))) (pss_one (ps_ret pe_bl)) pss_nil)
    (pss_one (ps_ret (pe_callB (crAllK K rfl) (by rfl) T.b_all (by decide +kernel) (pa_cons (pe_lc (own := [("thing", 2)]) (by rfl) nd (piTupK K (pv 0)) (blkOk_by (own := [("thing", 2)]) (N := ["things", "width", "thing"]) (sc := (defScope s_are_rules)) (by decide +kernel)) (fun _ _ _ _ _ => (pgN 2 nd)) (fun _ _ _ _ _ => pts_nil) (fun _ _ _ _ _ => (pe_cmpR (eqDK K (h64 hr)) (peCntK K (h80 hr) (pv 0) (pv 2)) pe_int (nomark _)))) pa_nil))))), ?_⟩
  show tSeq _ _ _ [some (.ref a), some (.int (n : Int)), none] H
  have c1 := m_lcV (K := K) (σ := [some (.ref a), some (.int (n : Int)), none]) (G := G) (tl := tVar 0) (vs := [2]) (g := gName 2) (tt := tYes) (te := tCall (spV P_isrule) [] E0 (tCons (tVar 2) (tCons (tVar 1) tNil))) (xs := [x]) (fun _ => true) (fun _ => .bool false) (v_var rfl) (.inr ⟨ob, hf⟩) (by show 1 ≤ 50000; decide)
    (fun y G1 H1 hy e1 e2 Q q => q _ rfl (fun G1 H1 _ e2 Q q => q G1 H1 (Grow.refl e2)) fun _ => d_v (v_call (vs := [y, .int (n : Int)]) (w_cons (v_var rfl) (w_cons (v_var rfl) w_nil)) fun G' e => ⟨y, n, rfl, rfl, .inl ⟨t, by rw [List.mem_singleton.mp hy]; exact ho.up (e1.trans e)⟩⟩) (.bl _))
  exact q_raise (b := !([false].all id)) rfl (b_not (b_B (d_cb (a_cons (c1.toD.is (d' := .list ([false].map PyData.bool)) rfl) a_nil) c_all))) eG fun G2 H2 g => k G2 H2 g
/-! ### Rules(..) that raises -/
def P_initR0 : Hp → List V → Prop := fun G vs => ∃ (x v : V) (t : V) (T : String), vs = [x, v, t] ∧ Odd G v T
theorem okX_initR0 {f : Addr} {fd : FuncData} (F : Fun K "__init__" "Rules.__init__" s_Rules_init f fd) (T : Txt Z K mg) (V : TxtV Y K mg) (X_need_width : FnX P w K mg base "need_width" 3 (spX P_needw (Y.ex 0))) : FnR P w K mg base (L2.CX P w) 6 f (spStar 2 (spX P_initR0 (Y.ex 0))) := by
  refine Fun.okSX (ps := ["self", "width"]) (pv := "rules") F sc_Rules_init (fun _ _ _ _ _ _ us rest hl => ?_) (fun cdv A outer s H vs Q E hr h => ?_)
  · match us, hl, rest with
    | [a, b], _, [] => rfl
    | [a, b], _, r :: rs => rfl
  obtain ⟨G, eG, ⟨x, v, t, ty, rfl, ho⟩, xr⟩ := h
  have nd := sc_Rules_init.nd
  refine ⟨_, (pss_cons (ps_expr (pe_fx X_need_width (hr.mono (by decide)) (passB (takes_of rfl rfl rfl rfl)) rfl (pa_cons (pv 1) pa_nil)))
    (pss_cons ps_never
    (pss_one ps_never))), ?_⟩
  show tSeq _ _ _ [some x, some v, some t] H
  exact q_x (x_call (vs := [v]) (w_cons (v_var rfl) w_nil) fun G' e => ⟨v, rfl, .inl ⟨ty, ho.up e⟩⟩) eG xr
def P_initR3 : Hp → List V → Prop := fun G vs => ∃ (x v : V) (t : Addr) (ob : Obj) (T : String), vs = [x, .int ((2 : Nat) : Int), .ref t] ∧ G t = some (.frz ob (.tup [v])) ∧ Odd G v T
theorem okX_initR3 {f : Addr} {fd : FuncData} (F : Fun K "__init__" "Rules.__init__" s_Rules_init f fd) (T : Txt Z K mg) (V : TxtV Y K mg) (F_need_width : Fn1 P w K mg base "need_width" 3 (spR R_needw)) (O_are_rules : Fn1 P w K mg base "are_rules" 5 (spV P_arerules)) : FnR P w K mg base (L2.CX P w) 6 f (spStar 2 (spX P_initR3 (Y.ex 3))) := by
  refine Fun.okSX (ps := ["self", "width"]) (pv := "rules") F sc_Rules_init (fun _ _ _ _ _ _ us rest hl => ?_) (fun cdv A outer s H vs Q E hr h => ?_)
  · match us, hl, rest with
    | [a, b], _, [] => rfl
    | [a, b], _, r :: rs => rfl
  obtain ⟨G, eG, ⟨x, v, t, ob, ty, rfl, hf, ho⟩, xr⟩ := h
  have nd := sc_Rules_init.nd
  refine ⟨_, (pss_cons (ps_expr (pe_fn F_need_width (hr.mono (by decide)) rfl (pa_cons (pv 1) pa_nil)))
    (pss_cons (ps_if (pt_not (pt_val (pe_fn O_are_rules (hr.mono (by decide)) rfl (pa_cons (pv 2) (pa_cons (pv 1) pa_nil))))) (pss_one (ps_exc rfl (takes_of rfl rfl rfl rfl) V.NoRules rfl)) pss_nil)
    (pss_one ps_never))), ?_⟩
  show tSeq _ _ _ [some x, some (.int ((2 : Nat) : Int)), some (.ref t)] H
  refine q_drop (d := .none) (d_call (R := R_needw) (a_cons (d_var rfl (.int _)) a_nil) ⟨2, rfl, by decide, by decide, rfl⟩) eG fun G1 H1 g1 => ?_
  exact q_raise (b := !false) rfl (b_not (b_B (d_v (v_call (vs := [.ref t, .int ((2 : Nat) : Int)]) (w_cons (v_var rfl) (w_cons (v_var rfl) w_nil)) fun G' e => ⟨t, ob, v, 2, ty, rfl, e _ _ (g1.g _ _ hf), ho.up (g1.g.trans e), rfl⟩) (.bl _)))) g1.gh fun G2 H2 g => (xr.up (g1.trans g)).now g.gh
/-! ### Rules.read(2, odd), rules(odd) -/
def P_read : Hp → List V → Prop := fun G vs => ∃ (c v : V) (T : String), vs = [c, .int ((2 : Nat) : Int), v] ∧ Odd G v T
theorem okX_readR {f : Addr} {fd : FuncData} (F : Fun K "read" "Rules.read" s_Rules_read f fd) (T : Txt Z K mg) (V : TxtV Y K mg) (F_need_width : Fn1 P w K mg base "need_width" 3 (spR R_needw)) : FnOk P w K mg base (L2.CX P w) 8 f fd ["cls", "width", "text"] (spX P_read (Y.ex 7)) := by
  refine F.okX sc_Rules_read (fun vs H Q E ⟨G, _, ⟨c, v, t, e, _⟩, _⟩ => by rw [e]; rfl) (fun cdv A outer s H vs Q E hr h => ?_)
  obtain ⟨G, eG, ⟨c, v, t, rfl, ho⟩, xr⟩ := h
  have nd := sc_Rules_read.nd
  refine ⟨_, (pss_cons (ps_expr (pe_fn F_need_width (hr.mono (by decide)) rfl (pa_cons (pv 1) pa_nil)))
    (pss_cons (ps_if (PW.pt (pw_or (pt_not (pt_val (pe_callB (crIsiK K) (by rfl) T.b_isinstance (by decide +kernel) (pa_cons (pv 2) (pa_cons (pe_bltn (v := .ty "str") (u := Value.type "str") rfl T.b_str (by decide +kernel) rfl) pa_nil))))) (pw_or1 (PW.pt (pw_and (pt_cmpR (neDK K (h64 hr)) (pv 2) pe_str (nomark _)) (pw_and1 (pt_not (pt_val (pe_m1 PySem.F.slot_str_endswith PySem.F.type_str_endswith mt_endswith (pv 2) pe_str (by rfl) (by rfl) (by rfl)))))))))) (pss_one (ps_exc rfl (takes_of rfl rfl rfl rfl) V.NoText rfl)) pss_nil)
    (pss_cons ps_never
    (pss_cons ps_never
    (pss_one ps_never))))), ?_⟩
  show tSeq _ _ _ [some c, some (.int ((2 : Nat) : Int)), some v, none, none] H
  refine q_drop (d := .none) (d_call (R := R_needw) (a_cons (d_var rfl (.int _)) a_nil) ⟨2, rfl, by decide, by decide, rfl⟩) eG fun G1 H1 g1 => ?_
  have ho1 := ho.up g1.g
  have hi : EvB (tNot (tB (tCB (rIsi K) (tCons (tVar 2) (tCons (tC (.ty "str")) tNil))))) [some c, some (.int ((2 : Nat) : Int)), some v, none, none] G1 (!isiB t "str") := b_not (b_B (d_isiO (v_var rfl) ho1 v_c (by simp)))
  cases ho1 with
  | str =>
    exact q_raise (b := (!true) || ((!PyData.eqv (.str "D") (.str "")) && (!Txt.endswith "D" "\n"))) (by decide +kernel) (b_or hi fun _ => b_and (b_test (d_op (d_var rfl (.str _)) d_str (r_ne (by decide +kernel) (by decide +kernel)))) fun _ => b_not (b_B (d_m1 (d_var rfl (.str _)) d_str m_ends))) g1.gh fun G2 H2 g => (xr.up (g1.trans g)).now g.gh
  | _ => exact q_raise (b := true || false) rfl (b_or hi fun z => absurd z (by decide)) g1.gh fun G2 H2 g => (xr.up (g1.trans g)).now g.gh
def P_callR (C : Addr) : Hp → List V → Prop := fun G vs => ∃ (a dx : Addr) (n : Nat) (t : Addr) (x : V) (T : String), vs = [.ref a, x] ∧ G a = some (.ins C dx (flds n t)) ∧ Odd G x T
theorem okX_callR {f : Addr} {fd : FuncData} (F : Fun K "__call__" "Rules.__call__" s_Rules_call f fd) (T : Txt Z K mg) (V : TxtV Y K mg) (W : TxtW Z Y K) (X_need_rule : FnX P w K mg base "need_rule" 5 (spX P_needrule (Y.ex 4))) : FnOk P w K mg base (L2.CX P w) 6 f fd ["self", "rule"] (spX (P_callR Z.aR) (Y.ex 4)) := by
  refine F.okX sc_Rules_call (fun vs H Q E ⟨G, _, ⟨a, dx, n, t, x, ty, e, _⟩, _⟩ => by rw [e]; rfl) (fun cdv A outer s H vs Q E hr h => ?_)
  obtain ⟨G, eG, ⟨a, dx, n, t, x, ty, rfl, ha, ho⟩, xr⟩ := h
  have nd := sc_Rules_call.nd
  refine ⟨_, (pss_cons (ps_expr (pe_fx X_need_rule (hr.mono (by decide)) (passB (takes_of rfl rfl rfl rfl)) rfl (pa_cons (pv 1) (pa_cons (peFldK K (pv 0)) pa_nil))))
    (pss_one ps_never)), ?_⟩
  show tSeq _ _ _ [some (.ref a), some x] H
  exact q_x (x_call (vs := [x, .int (n : Int)]) (w_cons (v_var rfl) (w_cons (v_fld (K := K) (v_var rfl) ha W.c_Rules W.f_Rules.1 (flds_columns n t)) w_nil)) fun G' e => ⟨x, n, rfl, .inl ⟨ty, ho.up e⟩⟩) eG xr
/-! ### need_rules -/
theorem sc_need_rules : FnScope ["thing"] ["thing"] (defScope s_need_rules) := ⟨rfl, rfl, rfl, by decide +kernel, rfl, by decide +kernel, by decide +kernel⟩
def P_needrulesX (Y : AdY) : Hp → List V → Prop := fun G vs => ∃ x, vs = [x] ∧ ((∃ T, Odd G x T) ∨ ∃ n ds, TO Y.aT G x n ds)
theorem okX_need_rules {f : Addr} {fd : FuncData} (F : Fun K "need_rules" "need_rules" s_need_rules f fd) (T : Txt Z K mg) (V : TxtV Y K mg) (U : TxtU Z Y K mg) (W : TxtW Z Y K) : FnOk P w K mg base (L2.CX P w) 1 f fd ["thing"] (spX (P_needrulesX Y) (Y.ex 9)) := by
  refine F.okX sc_need_rules (fun vs H Q E ⟨G, _, ⟨x, e, _⟩, _⟩ => by rw [e]; rfl) (fun cdv A outer s H vs Q E hr h => ?_)
  obtain ⟨G, eG, ⟨x, rfl, hx⟩, xr⟩ := h
  have nd := sc_need_rules.nd
  refine ⟨_, (pss_one (ps_if (pt_not (pt_val (pe_callB (crIsiK K) (by rfl) T.b_isinstance (by decide +kernel) (pa_cons (pv 0) (pa_cons (pe_glob (v := .ref Z.aR) rfl U.k_Rules rfl) pa_nil))))) (pss_one (ps_exc rfl (takes_of rfl rfl rfl rfl) V.NotRules rfl)) pss_nil)), ?_⟩
  show tIfS _ _ _ _ [some x] H
  refine s_raise (b := !false) rfl (b_not (b_B ?_)) eG fun G2 H2 g => (xr.up g).now g.gh
  rcases hx with ⟨t, ho⟩ | ⟨n, ds, ht⟩
  · exact d_isiC (v_var rfl) (fun H' e => ho.ty e) v_c (W.tyR t (Odd.seven ho))
  · exact d_isiC (v_var rfl) (fun H' e => ht.ty W.i_Table e) v_c W.tTR
def P_isRules (Z : Ads) : Hp → List V → V → Prop := fun G vs v => ∃ x n ds, vs = [x] ∧ TO Z.aR G x n ds ∧ v = .non
theorem okO_need_rules {f : Addr} {fd : FuncData} (F : Fun K "need_rules" "need_rules" s_need_rules f fd) (T : Txt Z K mg) (U : TxtU Z Y K mg) (W : TxtW Z Y K) : FnOk P w K mg base CX0 1 f fd ["thing"] (spV (P_isRules Z)) := by
  refine F.ok sc_need_rules (fun vs H Q E ⟨G, v, _, ⟨x, n, ds, e, _⟩, _⟩ => by rw [e]; rfl) (fun cdv A outer s H vs Q E hr h => ?_)
  obtain ⟨G, v, eG, ⟨x, n, ds, rfl, ht, rfl⟩, k⟩ := h
  have nd := sc_need_rules.nd
  refine ⟨_, (pss_one (ps_if (pt_not (pt_val (pe_callB (crIsiK K) (by rfl) T.b_isinstance (by decide +kernel) (pa_cons (pv 0) (pa_cons (pe_glob (v := .ref Z.aR) rfl U.k_Rules rfl) pa_nil))))) (pss_one ps_never) pss_nil)), ?_⟩
  show tIfS _ _ _ _ [some x] H
  exact s_pass (b := !true) rfl (b_not (b_B (d_isiC (v_var rfl) (fun H' e => ht.ty W.i_Rules e) v_c W.i_Rules.me))) eG fun G2 H2 g => k G2 H2 g
/-! ### + -/
theorem sc_Rules_add : FnScope ["self", "other", "found", "rule"] ["self", "other"] (defScope s_Rules_add) := ⟨rfl, rfl, rfl, by decide +kernel, rfl, by decide +kernel, by decide +kernel⟩
def P_addR9 (Z : Ads) : Hp → List V → Prop := fun G vs => ∃ (x y : V) (T : String), vs = [x, y] ∧ Odd G y T
theorem okX_addR9 {f : Addr} {fd : FuncData} (F : Fun K "__add__" "Rules.__add__" s_Rules_add f fd) (T : Txt Z K mg) (V : TxtV Y K mg) (X_need_rules : FnX P w K mg base "need_rules" 1 (spX (P_needrulesX Y) (Y.ex 9))) : FnOk P w K mg base (L2.CX P w) 9 f fd ["self", "other"] (spX (P_addR9 Z) (Y.ex 9)) := by
  refine F.okX sc_Rules_add (fun vs H Q E ⟨G, _, ⟨x, y, t, e, _⟩, _⟩ => by rw [e]; rfl) (fun cdv A outer s H vs Q E hr h => ?_)
  obtain ⟨G, eG, ⟨x, y, t, rfl, ho⟩, xr⟩ := h
  have nd := sc_Rules_add.nd
  refine ⟨_, (pss_cons (ps_expr (pe_fx X_need_rules (hr.mono (by decide)) (passB (takes_of rfl rfl rfl rfl)) rfl (pa_cons (pv 1) pa_nil)))
    (pss_cons ps_never
    (pss_cons ps_never
    (pss_one ps_never)))), ?_⟩
  show tSeq _ _ _ (start ["self", "other", "found", "rule"] [x, y]) H
  exact q_x (x_call (vs := [y]) (w_cons (v_var rfl) w_nil) fun G' e => ⟨y, rfl, .inl ⟨t, ho.up e⟩⟩) eG xr
def P_addR10 (Z : Ads) : Hp → List V → Prop := fun G vs => ∃ (x y : V) (n m : Nat) (ds es : List PyData), vs = [x, y] ∧ TO Z.aR G x n ds ∧ TO Z.aR G y m es ∧ n ≠ m
theorem okX_addR10 {f : Addr} {fd : FuncData} (F : Fun K "__add__" "Rules.__add__" s_Rules_add f fd) (T : Txt Z K mg) (V : TxtV Y K mg) (W : TxtW Z Y K) (O_need_rules : Fn1 P w K mg base "need_rules" 1 (spV (P_isRules Z))) (Pr_Rules_width : PrOk P w K mg base Z.aR "width" "columns") : FnOk P w K mg base (L2.CX P w) 9 f fd ["self", "other"] (spX (P_addR10 Z) (Y.ex 10)) := by
  refine F.okX sc_Rules_add (fun vs H Q E ⟨G, _, ⟨x, y, n, m, ds, es, e, _⟩, _⟩ => by rw [e]; rfl) (fun cdv A outer s H vs Q E hr h => ?_)
  obtain ⟨G, eG, ⟨x, y, n, m, ds, es, rfl, hx, hy, hne⟩, xr⟩ := h
  obtain ⟨p, dx, t, rfl, hp, _⟩ := hx.ex
  obtain ⟨q, dy, u, rfl, hq, _⟩ := hy.ex
  have nd := sc_Rules_add.nd
  refine ⟨_, (pss_cons (ps_expr (pe_fn O_need_rules (hr.mono (by decide)) rfl (pa_cons (pv 1) pa_nil)))
    (pss_cons (ps_if (pt_cmpR (neDK K (h64 hr)) (peFldK K (pv 0)) (pe_prK (pv 1) W.c_Rules Pr_Rules_width (hr.mono (by decide))) (nomark _)) (pss_one (ps_exc rfl (takes_of rfl rfl rfl rfl) V.UnlikeWidths rfl)) pss_nil)
    (pss_cons ps_never
    (pss_one ps_never)))), ?_⟩
  show tSeq _ _ _ (start ["self", "other", "found", "rule"] [.ref p, .ref q]) H
  refine q_dropV (v_call (vs := [.ref q]) (w_cons (v_var rfl) w_nil) fun G' e => ⟨.ref q, m, es, rfl, hy.up e, rfl⟩) eG fun G1 H1 g1 => ?_
  refine q_raise (b := !PyData.eqv (I1 n) (I1 m)) ?_ (b_test (d_op (d_v (v_fld (K := K) (v_var rfl) (g1.g _ _ hp) W.c_Rules W.f_Rules.1 (flds_columns n t)) (.int _)) (d_v (v_pr (v_var rfl) (g1.g _ _ hq) (flds_columns m u)) (.int _)) (r_ne rfl rfl))) g1.gh fun G2 H2 g => (xr.up (g1.trans g)).now g.gh
  rw [eqv_I1, decide_eq_false hne]; rfl
end
end CP
set_option Elab.async false
set_option linter.all false
set_option maxRecDepth 100000
set_option maxHeartbeats 4000000
namespace CP
open PySem L2 CL CM
abbrev RW (r : List Nat) : PyData := .tuple (r.map I1)
theorem Odd.tupD {G : Hp} {v : V} {T : String} (h : Odd G v T) (e : T = "tuple") : ∃ a, v = .ref a ∧ DD G (.ref a) (.tuple [.str "settles", .int 0]) := by
  cases h with
  | tup hd => exact ⟨_, rfl, hd⟩
  | _ => exact absurd e (by decide)
theorem filt {α β : Type} (xs : List α) (f : α → β) : (xs.filter fun _ => true).map f = xs.map f := by rw [List.filter_eq_self.mpr fun _ _ => rfl]
section
variable {P : Program} {w : World} {K : PySem.W.Frag} {mg : Str → Option Value} {base : Heap} {Z : Ads} {Y : AdY}
/-! ### whole numbers and texts -/
def R_isint2 : List PyData → (PyData → Prop) → Prop := fun ds S => (∃ i : Int, ds = [.int i] ∧ S = fun d => d = .bool true) ∨ ∃ x : Str, ds = [.str x] ∧ S = fun d => d = .bool false
theorem okS_is_integer {f : Addr} {fd : FuncData} (F : Fun K "is_integer" "is_integer" s_is_integer f fd) (T : Txt Z K mg) : FnOk P w K mg base CX0 1 f fd ["thing"] (spR R_isint2) := by
  refine F.ok sc_is_integer (fun vs H Q E h => spR_len (n := 1) (fun ds S h => by rcases h with ⟨_, e, _⟩ | ⟨_, e, _⟩ <;> (rw [e]; rfl)) h) (fun cdv A outer s H vs Q E hr h => ?_)
  obtain ⟨G, ds, S, hR, eG, hd, k⟩ := h
  have nd := sc_is_integer.nd
  refine ⟨_, (pss_one (ps_ret (pe_and (pe_callB (crIsiK K) (by rfl) T.b_isinstance (by decide +kernel) (pa_cons (pv 0) (pa_cons (pe_bltn (v := .ty "int") (u := Value.type "int") rfl T.b_int (by decide +kernel) rfl) pa_nil))) (pe_one (pe_not (pe_callB (crIsiK K) (by rfl) T.b_isinstance (by decide +kernel) (pa_cons (pv 0) (pa_cons (pe_bltn (v := .ty "bool") (u := Value.type "bool") rfl T.b_bool (by decide +kernel) rfl) pa_nil)))))))), ?_⟩
  rcases hR with ⟨i, rfl, rfl⟩ | ⟨x, rfl, rfl⟩
  · obtain ⟨v1, r, rfl, h1, hd⟩ := hd.inv
    obtain rfl := hd.inv0
    show tRet _ _ [some v1] H
    exact s_ret (d_andV (a := true) (b := true) (d_isi "int" (d_var rfl h1) v_c (by decide +kernel)) fun _ => d_notV (a := false) (d_isi "int" (d_var rfl h1) v_c (by decide +kernel))) eG fun v G2 H2 g hv => k v _ G2 H2 rfl g hv
  · obtain ⟨v1, r, rfl, h1, hd⟩ := hd.inv
    obtain rfl := hd.inv0
    show tRet _ _ [some v1] H
    exact s_ret (d_andV (a := false) (b := true) (d_isi "str" (d_var rfl h1) v_c (by decide +kernel)) fun z => absurd z (by decide)) eG fun v G2 H2 g hv => k v _ G2 H2 rfl g hv
def R_betw2 : List PyData → (PyData → Prop) → Prop := fun ds S => ∃ lo hi : Int, (∃ i : Int, ds = [.int i, .int lo, .int hi] ∧ S = fun d => d = .bool (decide (lo ≤ i) && decide (i ≤ hi))) ∨ ∃ x : Str, ds = [.str x, .int lo, .int hi] ∧ S = fun d => d = .bool false
theorem okS_is_between {f : Addr} {fd : FuncData} (F : Fun K "is_between" "is_between" s_is_between f fd) (T : Txt Z K mg) (S_is_integer : Fn1 P w K mg base "is_integer" 1 (spR R_isint2)) : FnOk P w K mg base CX0 2 f fd ["thing", "low", "high"] (spR R_betw2) := by
  refine F.ok sc_is_between (fun vs H Q E h => spR_len (n := 3) (fun ds S ⟨lo, hi, h⟩ => by rcases h with ⟨_, e, _⟩ | ⟨_, e, _⟩ <;> (rw [e]; rfl)) h) (fun cdv A outer s H vs Q E hr h => ?_)
  obtain ⟨G, ds, S, ⟨lo, hi, hR⟩, eG, hd, k⟩ := h
  have nd := sc_is_between.nd
  refine ⟨_, (pss_one (ps_ret (pe_and (pe_fn S_is_integer (hr.mono (by decide)) rfl (pa_cons (pv 0) pa_nil)) (pe_one (pe_chain op_le op_le (pv 1) (pv 0) (pv 2)))))), ?_⟩
  rcases hR with ⟨i, rfl, rfl⟩ | ⟨x, rfl, rfl⟩
  · obtain ⟨v1, r, rfl, h1, hd⟩ := hd.inv
    obtain ⟨v2, r, rfl, h2, hd⟩ := hd.inv
    obtain ⟨v3, r, rfl, h3, hd⟩ := hd.inv
    obtain rfl := hd.inv0
    show tRet _ _ [some v1, some v2, some v3] H
    exact s_ret (d := .bool (true && (decide (lo ≤ i) && decide (i ≤ hi)))) (d_andV (a := true) (d_call (a_cons (d_var rfl h1) a_nil) (.inl ⟨i, rfl, rfl⟩)) fun _ => d_chain (d_var rfl h2) (d_var rfl h1) r_B0 (fun _ => d_var rfl h3) fun _ => r_B0) eG fun v G2 H2 g hv => k v _ G2 H2 rfl g hv
  · obtain ⟨v1, r, rfl, h1, hd⟩ := hd.inv
    obtain ⟨v2, r, rfl, h2, hd⟩ := hd.inv
    obtain ⟨v3, r, rfl, h3, hd⟩ := hd.inv
    obtain rfl := hd.inv0
    show tRet _ _ [some v1, some v2, some v3] H
    exact s_ret (d := .bool (false && true)) (d_andV (a := false) (d_call (a_cons (d_var rfl h1) a_nil) (.inr ⟨x, rfl, rfl⟩)) fun z => absurd z (by decide)) eG fun v G2 H2 g hv => k v _ G2 H2 rfl g hv
/-! ### rows -/
/-- data that may be asked whether they are a row: whole numbers, texts -/
def isCell (d : PyData) : Prop := (∃ i : Int, d = .int i) ∨ ∃ x : Str, d = .str x
def cellOk : PyData → Bool
  | .int i => decide ((0 : Int) ≤ i) && decide (i ≤ 9999)
  | _ => false
def rowOk (ds : List PyData) (n : Nat) : Bool := decide (ds.length = n) && (ds.map cellOk).all id
def R_isrow : List PyData → (PyData → Prop) → Prop := fun ds S => ∃ (r : List PyData) (n : Nat), ds = [.tuple r, I1 n] ∧ r.length ≤ 50 ∧ (∀ d ∈ r, isCell d) ∧ S = fun d => d = .bool (rowOk r n)
theorem sc_is_row : FnScope ["thing", "width", "part"] ["thing", "width"] (defScope s_is_row) := ⟨rfl, rfl, rfl, by decide +kernel, rfl, by decide +kernel, by decide +kernel⟩
theorem ok_is_row {f : Addr} {fd : FuncData} (F : Fun K "is_row" "is_row" s_is_row f fd) (T : Txt Z K mg) (U : TxtU Z Y K mg) (S_is_between : Fn1 P w K mg base "is_between" 2 (spR R_betw2)) : FnOk P w K mg base CX0 3 f fd ["thing", "width"] (spR R_isrow) := by
  refine F.ok sc_is_row (fun vs H Q E h => spR_len (n := 2) (fun ds S ⟨c, n, e, _⟩ => by rw [e]; rfl) h) (fun cdv A outer s H vs Q E hr h => ?_)
  obtain ⟨G, ds, S, ⟨r, n, rfl, hlen, hc, rfl⟩, eG, hd, k⟩ := h
  obtain ⟨v1, r', rfl, h1, hd⟩ := hd.inv
  obtain ⟨v2, r', rfl, h2, hd⟩ := hd.inv
  obtain rfl := hd.inv0
  have nd := sc_is_row.nd
  refine ⟨_, (pss_cons (ps_if (PW.pt (pw_or (pt_not (pt_val (pe_callB (crIsiK K) (by rfl) T.b_isinstance (by decide +kernel) (pa_cons (pv 0) (pa_cons (pe_bltn (v := .ty "tuple") (u := Value.type "tuple") rfl T.b_tuple (by decide +kernel) rfl) pa_nil))))) (pw_or1 (pt_cmpR (neDK K (h64 hr)) (pe_callB (crLenK K) (by rfl) T.b_len (by decide +kernel) (pa_cons (pv 0) pa_nil)) (pv 1) (nomark _))))) (pss_one (ps_ret pe_bl)) pss_nil)
    (pss_one (ps_ret (pe_callB (crAllK K rfl) (by rfl) T.b_all (by decide +kernel) (pa_cons (pe_lc (own := [("part", 2)]) (by rfl) nd (piTupK K (pv 0)) (blkOk_by (own := [("part", 2)]) (N := ["thing", "width", "part"]) (sc := (defScope s_is_row)) (by decide +kernel)) (fun _ _ _ _ _ => (pgN 2 nd)) (fun _ _ _ _ _ => pts_nil) (fun _ _ _ _ _ => (pe_fn S_is_between (hr.mono (by decide)) rfl (pa_cons (pv 2) (pa_cons pe_int (pa_cons (pe_glob (v := .int 9999) rfl U.c_MOST_VALUE ⟨_, rfl⟩) pa_nil)))))) pa_nil))))), ?_⟩
  show tSeq _ _ _ [some v1, some v2, none] H
  have t : EvB (tOr (tNot (tB (tCB (rIsi K) (tCons (tVar 0) (tCons (tC (.ty "tuple")) tNil))))) (tTest (tOp (rNeD K) (tCB (CL.rLen K) (tCons (tVar 0) tNil)) (tVar 1)))) [some v1, some v2, none] G ((!true) || !PyData.eqv (I1 r.length) (I1 n)) :=
    b_or (b_not (b_B (d_isi "tuple" (d_var rfl h1) v_c (by decide +kernel)))) fun _ => b_test (d_op (d_cb (a_cons (d_var rfl h1) a_nil) c_lenT) (d_var rfl h2) (r_ne rfl rfl))
  by_cases hn : r.length = n
  · refine q_pass (b := (!true) || !PyData.eqv (I1 r.length) (I1 n)) (by rw [eqv_I1, decide_eq_true hn]; rfl) t eG fun G2 H2 g2 => ?_
    have c := m_lcT (K := K) (σ := [some v1, some v2, none]) (G := G2) (tl := tVar 0) (vs := [2]) (g := gName 2) (tt := tYes) (te := tCall (spR R_betw2) [] E0 (tCons (tVar 2) (tCons (tC (.int 0)) (tCons (tC (.int 9999)) tNil)))) (enc := id) (xs := r) (fun _ => true) (fun d => .bool (cellOk d)) (by rw [List.map_id]; exact d_var rfl (h1.up g2.g)) (by omega)
      (fun x v G1 H1 hx e1 e2 hv Q q => q _ rfl (fun G1 H1 _ e2 Q q => q G1 H1 (Grow.refl e2)) fun _ => by
        rcases hc x hx with ⟨i, rfl⟩ | ⟨y, rfl⟩
        · exact d_call (a_cons (d_var rfl hv) (a_cons d_int (a_cons d_int a_nil))) ⟨0, 9999, .inl ⟨i, rfl, rfl⟩⟩
        · exact d_call (a_cons (d_var rfl hv) (a_cons d_int (a_cons d_int a_nil))) ⟨0, 9999, .inr ⟨y, rfl, rfl⟩⟩)
    rw [filt] at c
    have c' : EvD _ _ _ (.list ((r.map cellOk).map PyData.bool)) := c.toD.is (by rw [List.map_map]; rfl)
    refine s_ret (d_cb (a_cons c' a_nil) c_all) g2.gh fun v G3 H3 g3 hv => k v _ G3 H3 ?_ (g2.trans g3) hv
    show PyData.bool _ = _
    unfold rowOk
    rw [decide_eq_true hn, Bool.true_and]
  · refine q_raise (b := (!true) || !PyData.eqv (I1 r.length) (I1 n)) (by rw [eqv_I1, decide_eq_false hn]; rfl) t eG fun G2 H2 g2 => ?_
    exact k (.bl false) (.bool false) G2 H2 (by unfold rowOk; rw [decide_eq_false hn]; rfl) g2 (.bl _)
/-- .. of an odd value -/
def P_isrow : Hp → List V → V → Prop := fun G vs v => ∃ (x : V) (T : String), vs = [x, .int ((2 : Nat) : Int)] ∧ Odd G x T ∧ v = .bl false
theorem okO_is_row {f : Addr} {fd : FuncData} (F : Fun K "is_row" "is_row" s_is_row f fd) (T : Txt Z K mg) (U : TxtU Z Y K mg) (R : FnOk P w K mg base CX0 3 f fd ["thing", "width"] (spR R_isrow)) (S_is_between : Fn1 P w K mg base "is_between" 2 (spR R_betw2)) : FnOk P w K mg base CX0 3 f fd ["thing", "width"] (spV P_isrow) := by
  have R2 : FnOk P w K mg base CX0 3 f fd ["thing", "width"] (fun vs H Q E => ∃ (G : Hp) (x : V) (T : String), vs = [x, .int ((2 : Nat) : Int)] ∧ Ex G H ∧ Odd G x T ∧ T ≠ "tuple" ∧ ∀ G2 H2, Grow M0 G H G2 H2 → Q (.bl false) H2) := by
    refine F.ok sc_is_row (fun vs H Q E ⟨G, x, t, e, _⟩ => by rw [e]; rfl) (fun cdv A outer s H vs Q E hr h => ?_)
    obtain ⟨G, x, t, rfl, eG, ho, hne, k⟩ := h
    have nd := sc_is_row.nd
    refine ⟨_, (pss_cons (ps_if (PW.pt (pw_or (pt_not (pt_val (pe_callB (crIsiK K) (by rfl) T.b_isinstance (by decide +kernel) (pa_cons (pv 0) (pa_cons (pe_bltn (v := .ty "tuple") (u := Value.type "tuple") rfl T.b_tuple (by decide +kernel) rfl) pa_nil))))) (pw_or1 (pt_cmpR (neDK K (h64 hr)) (pe_callB (crLenK K) (by rfl) T.b_len (by decide +kernel) (pa_cons (pv 0) pa_nil)) (pv 1) (nomark _))))) (pss_one (ps_ret pe_bl)) pss_nil)
    (pss_one (ps_ret (pe_callB (crAllK K rfl) (by rfl) T.b_all (by decide +kernel) (pa_cons (pe_lc (own := [("part", 2)]) (by rfl) nd (piTupK K (pv 0)) (blkOk_by (own := [("part", 2)]) (N := ["thing", "width", "part"]) (sc := (defScope s_is_row)) (by decide +kernel)) (fun _ _ _ _ _ => (pgN 2 nd)) (fun _ _ _ _ _ => pts_nil) (fun _ _ _ _ _ => (pe_fn S_is_between (hr.mono (by decide)) rfl (pa_cons (pv 2) (pa_cons pe_int (pa_cons (pe_glob (v := .int 9999) rfl U.c_MOST_VALUE ⟨_, rfl⟩) pa_nil)))))) pa_nil))))), ?_⟩
    show tSeq _ _ _ [some x, some (.int ((2 : Nat) : Int)), none] H
    have hi : EvB (tNot (tB (tCB (rIsi K) (tCons (tVar 0) (tCons (tC (.ty "tuple")) tNil))))) [some x, some (.int ((2 : Nat) : Int)), none] G (!isiB t "tuple") := b_not (b_B (d_isiO (v_var rfl) ho v_c (by simp)))
    cases ho with
    | tup ht => exact absurd rfl hne
    | _ => exact q_raise (b := true || false) rfl (b_or hi fun z => absurd z (by decide)) eG fun G2 H2 g => k G2 H2 g
  refine ⟨fun vs H Q E ⟨G, v, _, ⟨x, t, e, _⟩, _⟩ => by rw [e]; rfl, fun A outer s H args us vs Q E hr e0 hb r h => ?_⟩
  obtain ⟨G, v, eG, ⟨x, t, rfl, ho, rfl⟩, k⟩ := h
  by_cases ht : t = "tuple"
  · obtain ⟨a, rfl, hd⟩ := Odd.tupD ho ht
    exact R.run A outer s H args us _ Q E hr e0 hb r ⟨G, [.tuple [.str "settles", .int 0], I1 2], _, ⟨[.str "settles", .int 0], 2, rfl, by decide, fun d hd => by
        rcases List.mem_cons.mp hd with rfl | hd
        · exact .inr ⟨_, rfl⟩
        · rw [List.mem_singleton.mp hd]
          exact .inl ⟨_, rfl⟩, rfl⟩, eG, .cons hd (.cons (.int _) .nil), fun v d G2 H2 hdv g hv => by
            rw [show d = .bool false from hdv] at hv
            rw [hv.eqB]
            exact k G2 H2 g⟩
  · exact R2.run A outer s H args us _ Q E hr e0 hb r ⟨G, x, t, rfl, eG, ho, ht, k⟩
/-! ### are_rows: over a list, over a star's tuple -/
def goodRow (n : Nat) (r : List Nat) : Prop := r.length = n ∧ r.length ≤ 50 ∧ ∀ x ∈ r, x ≤ 9999
theorem rowOk_good {n : Nat} {r : List Nat} (h : goodRow n r) : rowOk (r.map I1) n = true := by
  unfold rowOk
  rw [List.length_map, decide_eq_true h.1, Bool.true_and, List.map_map, List.all_eq_true]
  intro b hb
  obtain ⟨x, hx, rfl⟩ := List.mem_map.mp hb
  have := h.2.2 x hx
  show (decide ((0 : Int) ≤ (x : Int)) && decide ((x : Int) ≤ 9999)) = true
  rw [decide_eq_true (by omega : (0 : Int) ≤ (x : Int)), decide_eq_true (by omega : (x : Int) ≤ 9999)]; rfl
theorem cell_row (r : List Nat) : ∀ d ∈ r.map I1, isCell d := fun d hd => by
  obtain ⟨x, _, rfl⟩ := List.mem_map.mp hd
  exact .inl ⟨_, rfl⟩
def GoodT (n : Nat) (rows : List (List Nat)) : Prop := rows.length ≤ 400 ∧ ∀ r ∈ rows, goodRow n r
theorem sc_are_rows : FnScope ["things", "width", "thing"] ["things", "width"] (defScope s_are_rows) := ⟨rfl, rfl, rfl, by decide +kernel, rfl, by decide +kernel, by decide +kernel⟩
def R_arerows : List PyData → (PyData → Prop) → Prop := fun ds S => ∃ (rows : List (List Nat)) (n : Nat), ds = [.list (rows.map RW), I1 n] ∧ GoodT n rows ∧ S = fun d => d = .bool true
theorem ok_are_rowsL {f : Addr} {fd : FuncData} (F : Fun K "are_rows" "are_rows" s_are_rows f fd) (T : Txt Z K mg) (U : TxtU Z Y K mg) (F_is_row : Fn1 P w K mg base "is_row" 3 (spR R_isrow)) : FnOk P w K mg base CX0 4 f fd ["things", "width"] (spR R_arerows) := by
  refine F.ok sc_are_rows (fun vs H Q E h => spR_len (n := 2) (fun ds S ⟨c, n, e, _⟩ => by rw [e]; rfl) h) (fun cdv A outer s H vs Q E hr h => ?_)
  obtain ⟨G, ds, S, ⟨rows, n, rfl, ⟨hlen, hg⟩, rfl⟩, eG, hd, k⟩ := h
  obtain ⟨v1, r', rfl, h1, hd⟩ := hd.inv
  obtain ⟨v2, r', rfl, h2, hd⟩ := hd.inv
  obtain rfl := hd.inv0
  have nd := sc_are_rows.nd
  refine ⟨_, (pss_one (ps_ret (pe_and (pe_cmpR op_le (pe_callB (crLenK K) (by rfl) T.b_len (by decide +kernel) (pa_cons (pv 0) pa_nil)) (pe_glob (v := .int 400) rfl U.c_MOST_ROWS ⟨_, rfl⟩) (nomark _)) (pe_one (pe_callB (crAllK K rfl) (by rfl) T.b_all (by decide +kernel) (pa_cons (pe_lc (own := [("thing", 2)]) (by rfl) nd (piListK K (pv 0)) (blkOk_by (own := [("thing", 2)]) (N := ["things", "width", "thing"]) (sc := (defScope s_are_rows)) (by decide +kernel)) (fun _ _ _ _ _ => (pgN 2 nd)) (fun _ _ _ _ _ => pts_nil) (fun _ _ _ _ _ => (pe_fn F_is_row (hr.mono (by decide)) rfl (pa_cons (pv 2) (pa_cons (pv 1) pa_nil))))) pa_nil)))))), ?_⟩
  show tRet _ _ [some v1, some v2, none] H
  have c := m_lcL (K := K) (σ := [some v1, some v2, none]) (G := G) (tl := tVar 0) (vs := [2]) (g := gName 2) (tt := tYes) (te := tCall (spR R_isrow) [] E0 (tCons (tVar 2) (tCons (tVar 1) tNil))) (enc := RW) (xs := rows) (fun _ => true) (fun _ => .bool true) (d_var rfl h1) (by omega)
    (fun x v G1 H1 hx e1 e2 hv Q q => q _ rfl (fun G1 H1 _ e2 Q q => q G1 H1 (Grow.refl e2)) fun _ => d_call (a_cons (d_var rfl hv) (a_cons (d_var rfl (h2.up e1)) a_nil)) ⟨x.map I1, n, rfl, by rw [List.length_map]; exact (hg x hx).2.1, cell_row x, by rw [rowOk_good (hg x hx)]⟩)
  rw [trues] at c
  refine s_ret (d := .bool (decide ((rows.map RW).length ≤ (400 : Int)) && (rows.map fun _ => true).all id)) (d_andV (d_op (d_cb (a_cons (d_var rfl h1) a_nil) c_lenL) d_int r_B0) fun _ => d_cb (a_cons c.toD a_nil) c_all) eG fun v G2 H2 g hv => k v _ G2 H2 ?_ g hv
  show PyData.bool _ = _
  rw [all_true, decide_eq_true (by rw [List.length_map]; omega)]; rfl
/-- over a star's tuple: good rows -/
def spArW : Sp := fun vs H Q _ => ∃ (G : Hp) (a : Addr) (ob : Obj) (xs : List V) (rows : List (List Nat)) (n : Nat), vs = [.ref a, .int (n : Int)] ∧ Ex G H ∧ G a = some (.frz ob (.tup xs)) ∧ DDs G xs (rows.map RW) ∧ GoodT n rows ∧ ∀ G2 H2, Grow M0 G H G2 H2 → Q (.bl true) H2
theorem ok_are_rowsT {f : Addr} {fd : FuncData} (F : Fun K "are_rows" "are_rows" s_are_rows f fd) (T : Txt Z K mg) (U : TxtU Z Y K mg) (F_is_row : Fn1 P w K mg base "is_row" 3 (spR R_isrow)) : FnOk P w K mg base CX0 4 f fd ["things", "width"] spArW := by
  refine F.ok sc_are_rows (fun vs H Q E ⟨G, a, ob, xs, rows, n, e, _⟩ => by rw [e]; rfl) (fun cdv A outer s H vs Q E hr h => ?_)
  obtain ⟨G, a, ob, xs, rows, n, rfl, eG, hf, hx, ⟨hlen, hg⟩, k⟩ := h
  have nd := sc_are_rows.nd
  have h1 : DD G (.ref a) (.tuple (rows.map RW)) := .tup (.inr ⟨ob, hf⟩) hx
  refine ⟨_, (pss_one (ps_ret (pe_and (pe_cmpR op_le (pe_callB (crLenK K) (by rfl) T.b_len (by decide +kernel) (pa_cons (pv 0) pa_nil)) (pe_glob (v := .int 400) rfl U.c_MOST_ROWS ⟨_, rfl⟩) (nomark _)) (pe_one (pe_callB (crAllK K rfl) (by rfl) T.b_all (by decide +kernel) (pa_cons (pe_lc (own := [("thing", 2)]) (by rfl) nd (piTupK K (pv 0)) (blkOk_by (own := [("thing", 2)]) (N := ["things", "width", "thing"]) (sc := (defScope s_are_rows)) (by decide +kernel)) (fun _ _ _ _ _ => (pgN 2 nd)) (fun _ _ _ _ _ => pts_nil) (fun _ _ _ _ _ => (pe_fn F_is_row (hr.mono (by decide)) rfl (pa_cons (pv 2) (pa_cons (pv 1) pa_nil))))) pa_nil)))))), ?_⟩
  show tRet _ _ [some (.ref a), some (.int (n : Int)), none] H
  have c := m_lcT (K := K) (σ := [some (.ref a), some (.int (n : Int)), none]) (G := G) (tl := tVar 0) (vs := [2]) (g := gName 2) (tt := tYes) (te := tCall (spR R_isrow) [] E0 (tCons (tVar 2) (tCons (tVar 1) tNil))) (enc := RW) (xs := rows) (fun _ => true) (fun _ => .bool true) (d_var rfl h1) (by omega)
    (fun x v G1 H1 hx e1 e2 hv Q q => q _ rfl (fun G1 H1 _ e2 Q q => q G1 H1 (Grow.refl e2)) fun _ => d_call (a_cons (d_var rfl hv) (a_cons (d_var rfl (.int _)) a_nil)) ⟨x.map I1, n, rfl, by rw [List.length_map]; exact (hg x hx).2.1, cell_row x, by rw [rowOk_good (hg x hx)]⟩)
  rw [trues] at c
  refine s_ret (d := .bool (decide ((rows.map RW).length ≤ (400 : Int)) && (rows.map fun _ => true).all id)) (d_andV (d_op (d_cb (a_cons (d_var rfl h1) a_nil) c_lenT) d_int r_B0) fun _ => d_cb (a_cons c.toD a_nil) c_all) eG fun v G2 H2 g hv => ?_
  rw [hv.eqB, all_true, decide_eq_true (by rw [List.length_map]; omega : ((rows.map RW).length : Int) ≤ 400)]
  exact k G2 H2 g
/-- .. one odd value -/
def P_arerows : Hp → List V → V → Prop := fun G vs v => ∃ (a : Addr) (ob : Obj) (x : V) (T : String), vs = [.ref a, .int ((2 : Nat) : Int)] ∧ G a = some (.frz ob (.tup [x])) ∧ Odd G x T ∧ v = .bl false
theorem okO_are_rows {f : Addr} {fd : FuncData} (F : Fun K "are_rows" "are_rows" s_are_rows f fd) (T : Txt Z K mg) (U : TxtU Z Y K mg) (O_is_row : Fn1 P w K mg base "is_row" 3 (spV P_isrow)) : FnOk P w K mg base CX0 4 f fd ["things", "width"] (spV P_arerows) := by
  refine F.ok sc_are_rows (fun vs H Q E ⟨G, v, _, ⟨a, ob, x, t, e, _⟩, _⟩ => by rw [e]; rfl) (fun cdv A outer s H vs Q E hr h => ?_)
  obtain ⟨G, v, eG, ⟨a, ob, x, t, rfl, hf, ho, rfl⟩, k⟩ := h
  have nd := sc_are_rows.nd
  refine ⟨_, (pss_one (ps_ret (pe_and (pe_cmpR op_le (pe_callB (crLenK K) (by rfl) T.b_len (by decide +kernel) (pa_cons (pv 0) pa_nil)) (pe_glob (v := .int 400) rfl U.c_MOST_ROWS ⟨_, rfl⟩) (nomark _)) (pe_one (pe_callB (crAllK K rfl) (by rfl) T.b_all (by decide +kernel) (pa_cons (pe_lc (own := [("thing", 2)]) (by rfl) nd (piTupK K (pv 0)) (blkOk_by (own := [("thing", 2)]) (N := ["things", "width", "thing"]) (sc := (defScope s_are_rows)) (by decide +kernel)) (fun _ _ _ _ _ => (pgN 2 nd)) (fun _ _ _ _ _ => pts_nil) (fun _ _ _ _ _ => (pe_fn O_is_row (hr.mono (by decide)) rfl (pa_cons (pv 2) (pa_cons (pv 1) pa_nil))))) pa_nil)))))), ?_⟩
  show tRet _ _ [some (.ref a), some (.int ((2 : Nat) : Int)), none] H
  have c := m_lcV (K := K) (σ := [some (.ref a), some (.int ((2 : Nat) : Int)), none]) (G := G) (tl := tVar 0) (vs := [2]) (g := gName 2) (tt := tYes) (te := tCall (spV P_isrow) [] E0 (tCons (tVar 2) (tCons (tVar 1) tNil))) (xs := [x]) (fun _ => true) (fun _ => .bool false) (v_var rfl) (.inr ⟨ob, hf⟩) (by show 1 ≤ 50000; decide)
    (fun y G1 H1 hy e1 e2 Q q => q _ rfl (fun G1 H1 _ e2 Q q => q G1 H1 (Grow.refl e2)) fun _ => d_v (v_call (vs := [y, .int ((2 : Nat) : Int)]) (w_cons (v_var rfl) (w_cons (v_var rfl) w_nil)) fun G' e => ⟨y, t, rfl, by rw [List.mem_singleton.mp hy]; exact ho.up (e1.trans e), rfl⟩) (.bl _))
  have lenV : EvD (tCB (CL.rLen K) (tCons (tVar 0) tNil)) [some (.ref a), some (.int ((2 : Nat) : Int)), none] G (.int 1) := .mk fun G1 H1 e1 e2 Q q => ⟨_, rfl, _, _, rfl, .inr ⟨[x], .inl (.inr ⟨ob, e2 _ _ (e1 _ _ hf)⟩), rfl⟩, q _ G1 H1 (Grow.refl e2) (.int _)⟩
  refine s_ret (d := .bool (decide ((1 : Int) ≤ 400) && [false].all id)) (d_andV (d_op lenV d_int r_B0) fun _ => d_cb (a_cons (c.toD.is (d' := .list ([false].map PyData.bool)) rfl) a_nil) c_all) eG fun v G2 H2 g hv => ?_
  rw [hv.eqB]
  exact k G2 H2 g
end
end CP
set_option Elab.async false
set_option linter.all false
set_option maxRecDepth 100000
set_option maxHeartbeats 4000000
namespace CP
open PySem L2 CL CM
section
variable {P : Program} {w : World} {K : PySem.W.Frag} {mg : Str → Option Value} {base : Heap} {Z : Ads} {Y : AdY}
/-! ### Table(..) -/
def spInitT (C : Addr) : Sp := fun vs H Q _ => ∃ (G : Hp) (x dx t : Addr) (ob : Obj) (xs : List V) (rows : List (List Nat)) (n : Nat), vs = [.ref x, .int (n : Int), .ref t] ∧ Ex G H ∧ G x = none ∧ H x = some (.ins C dx []) ∧ G t = some (.frz ob (.tup xs)) ∧ DDs G xs (rows.map RW) ∧
  GoodT n rows ∧ 1 ≤ n ∧ n ≤ 6 ∧ ∀ G2 H2, Grow (fun a => a = x) G H G2 H2 → H2 x = some (.ins C dx (flds n t)) → G2 x = none → Q .non H2
theorem bindT {pv : Str} : True := trivial
theorem sc_Table_init : FnScope ["self", "width", "rows"] ["self", "width", "rows"] (defScope s_Table_init) := ⟨rfl, rfl, rfl, by decide +kernel, rfl, by decide +kernel, by decide +kernel⟩
theorem ok_initT {f : Addr} {fd : FuncData} (F : Fun K "__init__" "Table.__init__" s_Table_init f fd) (T : Txt Z K mg) (W : TxtW Z Y K) (F_need_width : Fn1 P w K mg base "need_width" 3 (spR R_needw)) (F_are_rows : Fn1 P w K mg base "are_rows" 4 spArW) : FnR P w K mg base CX0 6 f (spStar 2 (spInitT Y.aT)) := by
  refine Fun.okS (ps := ["self", "width"]) (pv := "rows") F sc_Table_init (fun _ _ _ _ _ _ us rest hl => ?_) (fun cdv A outer s H vs Q E hr h => ?_)
  · match us, hl, rest with
    | [a, b], _, [] => rfl
    | [a, b], _, r :: rs => rfl
  obtain ⟨G, x, dx, t, ob, xs, rows, n, rfl, eG, hGx, hx, ht, hxs, hgood, hn1, hn6, k⟩ := h
  have nd := sc_Table_init.nd
  refine ⟨_, (pss_cons (ps_expr (pe_fn F_need_width (hr.mono (by decide)) rfl (pa_cons (pv 1) pa_nil)))
    (pss_cons (ps_if (pt_not (pt_val (pe_fn F_are_rows (hr.mono (by decide)) rfl (pa_cons (pv 2) (pa_cons (pv 1) pa_nil))))) (pss_one ps_never) pss_nil)
    (pss_one (ps_asg (pe_tup (pa_cons (pv 1) (pa_cons (pv 2) pa_nil))) (pgTupK K (n := 2) (pgs_cons (pg_fld (pv 0)) (pgs_cons (pg_fld (pv 0)) pgs_nil))))))), ?_⟩
  show tSeq _ _ _ [some (.ref x), some (.int (n : Int)), some (.ref t)] H
  refine (d_call (E := E0) (R := R_needw) (z := .none) (a_cons (d_var (σ := [some (.ref x), some (.int (n : Int)), some (.ref t)]) (i := 1) rfl (.int _)) a_nil) ⟨n, rfl, hn1, hn6, rfl⟩).go eG fun v G1 H1 g1 _ => ?_
  have har : EvD (tCall spArW [] E0 (tCons (tVar 2) (tCons (tVar 1) tNil))) [some (.ref x), some (.int (n : Int)), some (.ref t)] G1 (.bool true) := .mk fun G2 H2 e1 e2 Q q =>
    ⟨.ref t, rfl, .int (n : Int), rfl, G2, t, ob, xs, rows, n, rfl, e2, e1 _ _ (g1.g _ _ ht), hxs.up (g1.g.trans e1), hgood, fun G3 H3 g3 => q _ G3 H3 g3 (.bl _)⟩
  refine q_when (b := !true) (b_not (b_B har)) g1.gh (fun hx => absurd hx (by decide)) fun _ G2 H2 g2 => ?_
  have g12 := g1.trans g2
  have hx2 : H2 x = some (.ins Y.aT dx []) := g12.ex _ _ hx
  have hGx2 : G2 x = none := g12.new x (by rw [hx]; exact fun z => nomatch z) hGx
  refine ⟨_, rfl, _, rfl, (by show 2 ≤ sizeLine; decide), fun p hp => ⟨p, _, rfl, .inl (.inl upd_same), rfl, _, _, rfl, ?_⟩⟩
  have npx : x ≠ p := ne_of_none hx2 hp
  refine ⟨_, rfl, x, Y.aT, dx, _, rfl, by rw [upd_ne npx]; exact hx2, W.c_Table, W.f_Table.1, by decide, _, _, rfl, ?_⟩
  refine ⟨_, rfl, x, Y.aT, dx, _, rfl, upd_same, W.c_Table, W.f_Table.2, (by show 1 < 1000; decide), rfl, ?_⟩
  have g3 : Grow (fun a => a = x) G H G2 (upd H2 p (.tup [.int (n : Int), .ref t])) := (g12.trans (Grow.mnew g2.gh hp)).of0
  have g4 := g3.set (o := .ins Y.aT dx (putF "columns" (.int (n : Int)) [])) (.inr rfl) hGx2 (by rw [upd_ne npx, hx2]; exact fun z => nomatch z)
  have g5 := g4.set (o := .ins Y.aT dx (flds n t)) (.inr rfl) hGx2 (by rw [upd_same]; exact fun z => nomatch z)
  exact k _ _ g5 upd_same hGx2
/-- the laid star of a call -/
theorem star_lay {G1 H1 G2 H2 : Hp} {C x dx p : Addr} {ob : Obj} {xs : List V} (g2 : Grow M0 G1 H1 G2 H2) (hx : H2 x = none) (hdx : H2 dx = none) (hne : dx ≠ x) (hp : (upd (upd H2 dx (.own x)) x (.ins C dx [])) p = none) :
    Grow M0 G1 H1 (upd G2 p (.frz ob (.tup xs))) (upd (upd (upd H2 dx (.own x)) x (.ins C dx [])) p (.frz ob (.tup xs))) ∧ (upd G2 p (.frz ob (.tup xs))) x = none ∧ (upd (upd (upd H2 dx (.own x)) x (.ins C dx [])) p (.frz ob (.tup xs))) x = some (.ins C dx []) ∧ H1 x = none ∧ Ex G2 (upd G2 p (.frz ob (.tup xs))) := by
  have g4 : Grow M0 G1 H1 G2 (upd H2 dx (.own x)) := g2.trans (Grow.mnew g2.gh hdx)
  have hx4 : (upd H2 dx (.own x)) x = none := by rw [upd_ne (fun z => hne z.symm)]; exact hx
  have g5 : Grow M0 G1 H1 G2 (upd (upd H2 dx (.own x)) x (.ins C dx [])) := g4.trans (Grow.mnew g4.gh hx4)
  have npx : x ≠ p := fun z => by
    rw [← z, upd_same] at hp
    cases hp
  have g6 := g5.trans (Grow.laid (o := .frz ob (.tup xs)) g5.gh hp)
  exact ⟨g6, by rw [upd_ne npx]; exact g4.gh.back hx4, by rw [upd_ne npx, upd_same], g4.there x hx4, Ex.frz (g5.gh.back hp)⟩
/-- Table(n, rows ..): arguments that give these values -/
theorem make_tableV {σ : VSt} {G : Hp} {ta : TA} {n : Nat} {rows : List (List Nat)} (h : EvA ta σ G (I1 n :: rows.map RW)) (hgood : GoodT n rows) (hn1 : 1 ≤ n) (hn6 : n ≤ 6) :
    ∀ G1 H1, Ex G G1 → Ex G1 H1 → ∀ Q : VK, (∀ v G2 H2, Grow M0 G1 H1 G2 H2 → H1 ≠ H1 ∨ TO Y.aT G2 v n (rows.map RW) → Q v H2) → StX.tMakeR Y.aT (spStar 2 (spInitT Y.aT)) E0 ta σ H1 Q := fun G1 H1 e1 e2 Q q =>
  h G1 H1 e1 e2 _ fun vs G2 H2 g2 hv x dx hx hdx hne => by
    obtain ⟨v, xs, rfl, hv1, hxs⟩ := hv.inv
    obtain rfl := hv1.eqI
    refine ⟨[.ref x, .int (n : Int)], xs, rfl, rfl, ?_, fun p ob hp hob => ?_⟩
    · rw [hxs.length, List.length_map]
      have := hgood.1
      exact Evl.sz_of (by omega)
    · obtain ⟨g6, gx, hx6, hx1, e36⟩ := star_lay (ob := ob) (xs := xs) g2 hx hdx hne hp
      refine ⟨upd G2 p (.frz ob (.tup xs)), x, dx, p, ob, xs, rows, n, rfl, g6.gh, gx, hx6, upd_same, hxs.up e36, hgood, hn1, hn6, fun G7 H7 g7 hx7 hG7 => ⟨rfl, ?_⟩⟩
      have g17 : Grow M0 G1 H1 G7 H7 := g6.priv g7 hx1
      have e78 : Ex G7 (upd G7 x (.ins Y.aT dx (flds n p))) := Ex.frz hG7
      exact q (.ref x) _ H7 (g17.freeze hx1 hG7 hx7) (.inr ⟨x, dx, p, rfl, upd_same, .tup (.inr ⟨ob, e78 _ _ (g7.g _ _ upd_same)⟩) (hxs.up (e36.trans (g7.g.trans e78)))⟩)
/-- Table(..) that raises -/
def P_initT0 : Hp → List V → Prop := fun G vs => ∃ (x v : V) (t : V) (T : String), vs = [x, v, t] ∧ Odd G v T
theorem okX_initT0 {f : Addr} {fd : FuncData} (F : Fun K "__init__" "Table.__init__" s_Table_init f fd) (T : Txt Z K mg) (V : TxtV Y K mg) (X_need_width : FnX P w K mg base "need_width" 3 (spX P_needw (Y.ex 0))) : FnR P w K mg base (L2.CX P w) 6 f (spStar 2 (spX P_initT0 (Y.ex 0))) := by
  refine Fun.okSX (ps := ["self", "width"]) (pv := "rows") F sc_Table_init (fun _ _ _ _ _ _ us rest hl => ?_) (fun cdv A outer s H vs Q E hr h => ?_)
  · match us, hl, rest with
    | [a, b], _, [] => rfl
    | [a, b], _, r :: rs => rfl
  obtain ⟨G, eG, ⟨x, v, t, ty, rfl, ho⟩, xr⟩ := h
  have nd := sc_Table_init.nd
  refine ⟨_, (pss_cons (ps_expr (pe_fx X_need_width (hr.mono (by decide)) (passB (takes_of rfl rfl rfl rfl)) rfl (pa_cons (pv 1) pa_nil)))
    (pss_cons ps_never
    (pss_one ps_never))), ?_⟩
  show tSeq _ _ _ [some x, some v, some t] H
  exact q_x (x_call (vs := [v]) (w_cons (v_var rfl) w_nil) fun G' e => ⟨v, rfl, .inl ⟨ty, ho.up e⟩⟩) eG xr
theorem okX_initT1 {f : Addr} {fd : FuncData} (F : Fun K "__init__" "Table.__init__" s_Table_init f fd) (T : Txt Z K mg) (V : TxtV Y K mg) (F_need_width : Fn1 P w K mg base "need_width" 3 (spR R_needw)) (O_are_rows : Fn1 P w K mg base "are_rows" 4 (spV P_arerows)) : FnR P w K mg base (L2.CX P w) 6 f (spStar 2 (spX P_initR3 (Y.ex 1))) := by
  refine Fun.okSX (ps := ["self", "width"]) (pv := "rows") F sc_Table_init (fun _ _ _ _ _ _ us rest hl => ?_) (fun cdv A outer s H vs Q E hr h => ?_)
  · match us, hl, rest with
    | [a, b], _, [] => rfl
    | [a, b], _, r :: rs => rfl
  obtain ⟨G, eG, ⟨x, v, t, ob, ty, rfl, hf, ho⟩, xr⟩ := h
  have nd := sc_Table_init.nd
  refine ⟨_, (pss_cons (ps_expr (pe_fn F_need_width (hr.mono (by decide)) rfl (pa_cons (pv 1) pa_nil)))
    (pss_cons (ps_if (pt_not (pt_val (pe_fn O_are_rows (hr.mono (by decide)) rfl (pa_cons (pv 2) (pa_cons (pv 1) pa_nil))))) (pss_one (ps_exc rfl (takes_of rfl rfl rfl rfl) V.NoRows rfl)) pss_nil)
    (pss_one ps_never))), ?_⟩
  show tSeq _ _ _ [some x, some (.int ((2 : Nat) : Int)), some (.ref t)] H
  refine q_drop (d := .none) (d_call (R := R_needw) (a_cons (d_var rfl (.int _)) a_nil) ⟨2, rfl, by decide, by decide, rfl⟩) eG fun G1 H1 g1 => ?_
  exact q_raise (b := !false) rfl (b_not (b_B (d_v (v_call (vs := [.ref t, .int ((2 : Nat) : Int)]) (w_cons (v_var rfl) (w_cons (v_var rfl) w_nil)) fun G' e => ⟨t, ob, v, ty, rfl, e _ _ (g1.g _ _ hf), ho.up (g1.g.trans e), rfl⟩) (.bl _)))) g1.gh fun G2 H2 g => (xr.up (g1.trans g)).now g.gh
/-! ### Table.read that raises -/
theorem sc_Table_read : FnScope ["cls", "width", "text", "rows", "made", "line", "word"] ["cls", "width", "text"] (defScope s_Table_read) := ⟨rfl, rfl, rfl, by decide +kernel, rfl, by decide +kernel, by decide +kernel⟩
theorem okX_readT7 {f : Addr} {fd : FuncData} (F : Fun K "read" "Table.read" s_Table_read f fd) (T : Txt Z K mg) (V : TxtV Y K mg) (F_need_width : Fn1 P w K mg base "need_width" 3 (spR R_needw)) : FnOk P w K mg base (L2.CX P w) 8 f fd ["cls", "width", "text"] (spX P_read (Y.ex 7)) := by
  refine F.okX sc_Table_read (fun vs H Q E ⟨G, _, ⟨c, v, t, e, _⟩, _⟩ => by rw [e]; rfl) (fun cdv A outer s H vs Q E hr h => ?_)
  obtain ⟨G, eG, ⟨c, v, t, rfl, ho⟩, xr⟩ := h
  have nd := sc_Table_read.nd
  refine ⟨_, (pss_cons (ps_expr (pe_fn F_need_width (hr.mono (by decide)) rfl (pa_cons (pv 1) pa_nil)))
    (pss_cons (ps_if (PW.pt (pw_or (pt_not (pt_val (pe_callB (crIsiK K) (by rfl) T.b_isinstance (by decide +kernel) (pa_cons (pv 2) (pa_cons (pe_bltn (v := .ty "str") (u := Value.type "str") rfl T.b_str (by decide +kernel) rfl) pa_nil))))) (pw_or1 (PW.pt (pw_and (pt_cmpR (neDK K (h64 hr)) (pv 2) pe_str (nomark _)) (pw_and1 (pt_not (pt_val (pe_m1 PySem.F.slot_str_endswith PySem.F.type_str_endswith mt_endswith (pv 2) pe_str (by rfl) (by rfl) (by rfl)))))))))) (pss_one (ps_exc rfl (takes_of rfl rfl rfl rfl) V.NoText rfl)) pss_nil)
    (pss_cons ps_never
    (pss_cons ps_never
    (pss_cons ps_never
    (pss_cons ps_never
    (pss_one ps_never))))))), ?_⟩
  show tSeq _ _ _ (start ["cls", "width", "text", "rows", "made", "line", "word"] [c, .int ((2 : Nat) : Int), v]) H
  refine q_drop (d := .none) (d_call (R := R_needw) (a_cons (d_var rfl (.int _)) a_nil) ⟨2, rfl, by decide, by decide, rfl⟩) eG fun G1 H1 g1 => ?_
  have ho1 := ho.up g1.g
  have hi : EvB (tNot (tB (tCB (rIsi K) (tCons (tVar 2) (tCons (tC (.ty "str")) tNil))))) (start ["cls", "width", "text", "rows", "made", "line", "word"] [c, .int ((2 : Nat) : Int), v]) G1 (!isiB t "str") := b_not (b_B (d_isiO (v_var rfl) ho1 v_c (by simp)))
  cases ho1 with
  | str =>
    exact q_raise (b := (!true) || ((!PyData.eqv (.str "D") (.str "")) && (!Txt.endswith "D" "\n"))) (by decide +kernel) (b_or hi fun _ => b_and (b_test (d_op (d_var rfl (.str _)) d_str (r_ne (by decide +kernel) (by decide +kernel)))) fun _ => b_not (b_B (d_m1 (d_var rfl (.str _)) d_str m_ends))) g1.gh fun G2 H2 g => (xr.up (g1.trans g)).now g.gh
  | _ => exact q_raise (b := true || false) rfl (b_or hi fun z => absurd z (by decide)) g1.gh fun G2 H2 g => (xr.up (g1.trans g)).now g.gh
def P_readT0 : Hp → List V → Prop := fun G vs => ∃ (c v : V), vs = [c, .int 0, v]
theorem okX_readT0 {f : Addr} {fd : FuncData} (F : Fun K "read" "Table.read" s_Table_read f fd) (T : Txt Z K mg) (V : TxtV Y K mg) (X_need_width : FnX P w K mg base "need_width" 3 (spX P_needw (Y.ex 0))) : FnOk P w K mg base (L2.CX P w) 8 f fd ["cls", "width", "text"] (spX P_readT0 (Y.ex 0)) := by
  refine F.okX sc_Table_read (fun vs H Q E ⟨G, _, ⟨c, v, e⟩, _⟩ => by rw [e]; rfl) (fun cdv A outer s H vs Q E hr h => ?_)
  obtain ⟨G, eG, ⟨c, v, rfl⟩, xr⟩ := h
  have nd := sc_Table_read.nd
  refine ⟨_, (pss_cons (ps_expr (pe_fx X_need_width (hr.mono (by decide)) (passB (takes_of rfl rfl rfl rfl)) rfl (pa_cons (pv 1) pa_nil)))
    (pss_cons ps_never
    (pss_cons ps_never
    (pss_cons ps_never
    (pss_cons ps_never
    (pss_cons ps_never
    (pss_one ps_never))))))), ?_⟩
  show tSeq _ _ _ (start ["cls", "width", "text", "rows", "made", "line", "word"] [c, .int 0, v]) H
  exact q_x (x_call (vs := [.int 0]) (w_cons (v_var rfl) w_nil) fun G' e => ⟨.int 0, rfl, .inr ⟨0, rfl, by decide⟩⟩) eG xr
/-! ### table(odd) -/
theorem sc_Table_call : FnScope ["self", "rule"] ["self", "rule"] (defScope s_Table_call) := ⟨rfl, rfl, rfl, by decide +kernel, rfl, by decide +kernel, by decide +kernel⟩
theorem okX_callT {f : Addr} {fd : FuncData} (F : Fun K "__call__" "Table.__call__" s_Table_call f fd) (T : Txt Z K mg) (V : TxtV Y K mg) (W : TxtW Z Y K) (X_need_rule : FnX P w K mg base "need_rule" 5 (spX P_needrule (Y.ex 4))) : FnOk P w K mg base (L2.CX P w) 6 f fd ["self", "rule"] (spX (P_callR Y.aT) (Y.ex 4)) := by
  refine F.okX sc_Table_call (fun vs H Q E ⟨G, _, ⟨a, dx, n, t, x, ty, e, _⟩, _⟩ => by rw [e]; rfl) (fun cdv A outer s H vs Q E hr h => ?_)
  obtain ⟨G, eG, ⟨a, dx, n, t, x, ty, rfl, ha, ho⟩, xr⟩ := h
  have nd := sc_Table_call.nd
  refine ⟨_, (pss_cons (ps_expr (pe_fx X_need_rule (hr.mono (by decide)) (passB (takes_of rfl rfl rfl rfl)) rfl (pa_cons (pv 1) (pa_cons (peFldK K (pv 0)) pa_nil))))
    (pss_one ps_never)), ?_⟩
  show tSeq _ _ _ [some (.ref a), some x] H
  exact q_x (x_call (vs := [x, .int (n : Int)]) (w_cons (v_var rfl) (w_cons (v_fld (K := K) (v_var rfl) ha W.c_Table W.f_Table.1 (flds_columns n t)) w_nil)) fun G' e => ⟨x, n, rfl, .inl ⟨ty, ho.up e⟩⟩) eG xr
/-! ### need_table, need_like -/
theorem sc_need_table : FnScope ["thing"] ["thing"] (defScope s_need_table) := ⟨rfl, rfl, rfl, by decide +kernel, rfl, by decide +kernel, by decide +kernel⟩
def P_needtabX (Z : Ads) : Hp → List V → Prop := fun G vs => ∃ x, vs = [x] ∧ ((∃ T, Odd G x T) ∨ ∃ n ds, TO Z.aR G x n ds)
theorem okX_need_table {f : Addr} {fd : FuncData} (F : Fun K "need_table" "need_table" s_need_table f fd) (T : Txt Z K mg) (V : TxtV Y K mg) (U : TxtU Z Y K mg) (W : TxtW Z Y K) : FnOk P w K mg base (L2.CX P w) 1 f fd ["thing"] (spX (P_needtabX Z) (Y.ex 8)) := by
  refine F.okX sc_need_table (fun vs H Q E ⟨G, _, ⟨x, e, _⟩, _⟩ => by rw [e]; rfl) (fun cdv A outer s H vs Q E hr h => ?_)
  obtain ⟨G, eG, ⟨x, rfl, hx⟩, xr⟩ := h
  have nd := sc_need_table.nd
  refine ⟨_, (pss_one (ps_if (pt_not (pt_val (pe_callB (crIsiK K) (by rfl) T.b_isinstance (by decide +kernel) (pa_cons (pv 0) (pa_cons (pe_glob (v := .ref Y.aT) rfl U.k_Table rfl) pa_nil))))) (pss_one (ps_exc rfl (takes_of rfl rfl rfl rfl) V.NotTable rfl)) pss_nil)), ?_⟩
  show tIfS _ _ _ _ [some x] H
  refine s_raise (b := !false) rfl (b_not (b_B ?_)) eG fun G2 H2 g => (xr.up g).now g.gh
  rcases hx with ⟨t, ho⟩ | ⟨n, ds, ht⟩
  · exact d_isiC (v_var rfl) (fun H' e => ho.ty e) v_c (W.tyT t (Odd.seven ho))
  · exact d_isiC (v_var rfl) (fun H' e => ht.ty W.i_Rules e) v_c W.tRT
def P_isTable (Y : AdY) : Hp → List V → V → Prop := fun G vs v => ∃ x n ds, vs = [x] ∧ TO Y.aT G x n ds ∧ v = .non
theorem okO_need_table {f : Addr} {fd : FuncData} (F : Fun K "need_table" "need_table" s_need_table f fd) (T : Txt Z K mg) (U : TxtU Z Y K mg) (W : TxtW Z Y K) : FnOk P w K mg base CX0 1 f fd ["thing"] (spV (P_isTable Y)) := by
  refine F.ok sc_need_table (fun vs H Q E ⟨G, v, _, ⟨x, n, ds, e, _⟩, _⟩ => by rw [e]; rfl) (fun cdv A outer s H vs Q E hr h => ?_)
  obtain ⟨G, v, eG, ⟨x, n, ds, rfl, ht, rfl⟩, k⟩ := h
  have nd := sc_need_table.nd
  refine ⟨_, (pss_one (ps_if (pt_not (pt_val (pe_callB (crIsiK K) (by rfl) T.b_isinstance (by decide +kernel) (pa_cons (pv 0) (pa_cons (pe_glob (v := .ref Y.aT) rfl U.k_Table rfl) pa_nil))))) (pss_one ps_never) pss_nil)), ?_⟩
  show tIfS _ _ _ _ [some x] H
  exact s_pass (b := !true) rfl (b_not (b_B (d_isiC (v_var rfl) (fun H' e => ht.ty W.i_Table e) v_c W.i_Table.me))) eG fun G2 H2 g => k G2 H2 g
theorem sc_need_like : FnScope ["one", "other"] ["one", "other"] (defScope s_need_like) := ⟨rfl, rfl, rfl, by decide +kernel, rfl, by decide +kernel, by decide +kernel⟩
def P_like8 (Z : Ads) : Hp → List V → Prop := fun G vs => ∃ x y, vs = [x, y] ∧ ((∃ T, Odd G y T) ∨ ∃ n ds, TO Z.aR G y n ds)
theorem okX_like8 {f : Addr} {fd : FuncData} (F : Fun K "need_like" "need_like" s_need_like f fd) (T : Txt Z K mg) (V : TxtV Y K mg) (X_need_table : FnX P w K mg base "need_table" 1 (spX (P_needtabX Z) (Y.ex 8))) : FnOk P w K mg base (L2.CX P w) 3 f fd ["one", "other"] (spX (P_like8 Z) (Y.ex 8)) := by
  refine F.okX sc_need_like (fun vs H Q E ⟨G, _, ⟨x, y, e, _⟩, _⟩ => by rw [e]; rfl) (fun cdv A outer s H vs Q E hr h => ?_)
  obtain ⟨G, eG, ⟨x, y, rfl, hy⟩, xr⟩ := h
  have nd := sc_need_like.nd
  refine ⟨_, (pss_cons (ps_expr (pe_fx X_need_table (hr.mono (by decide)) (passB (takes_of rfl rfl rfl rfl)) rfl (pa_cons (pv 1) pa_nil)))
    (pss_one ps_never)), ?_⟩
  show tSeq _ _ _ [some x, some y] H
  exact q_x (x_call (vs := [y]) (w_cons (v_var rfl) w_nil) fun G' e => ⟨y, rfl, hy.imp (fun ⟨T, h⟩ => ⟨T, h.up e⟩) fun ⟨n, ds, h⟩ => ⟨n, ds, h.up e⟩⟩) eG xr
def P_like10 (Y : AdY) : Hp → List V → Prop := fun G vs => ∃ (x y : V) (n m : Nat) (ds es : List PyData), vs = [x, y] ∧ TO Y.aT G x n ds ∧ TO Y.aT G y m es ∧ n ≠ m
theorem okX_like10 {f : Addr} {fd : FuncData} (F : Fun K "need_like" "need_like" s_need_like f fd) (T : Txt Z K mg) (V : TxtV Y K mg) (W : TxtW Z Y K) (O_need_table : Fn1 P w K mg base "need_table" 1 (spV (P_isTable Y))) (Pr_Table_width : PrOk P w K mg base Y.aT "width" "columns") : FnOk P w K mg base (L2.CX P w) 3 f fd ["one", "other"] (spX (P_like10 Y) (Y.ex 10)) := by
  refine F.okX sc_need_like (fun vs H Q E ⟨G, _, ⟨x, y, n, m, ds, es, e, _⟩, _⟩ => by rw [e]; rfl) (fun cdv A outer s H vs Q E hr h => ?_)
  obtain ⟨G, eG, ⟨x, y, n, m, ds, es, rfl, hx, hy, hne⟩, xr⟩ := h
  obtain ⟨p, dx, t, rfl, hp, _⟩ := hx.ex
  obtain ⟨q, dy, u, rfl, hq, _⟩ := hy.ex
  have nd := sc_need_like.nd
  refine ⟨_, (pss_cons (ps_expr (pe_fn O_need_table (hr.mono (by decide)) rfl (pa_cons (pv 1) pa_nil)))
    (pss_one (ps_if (pt_cmpR (neDK K (h64 hr)) (pe_prK (pv 0) W.c_Table Pr_Table_width (hr.mono (by decide))) (pe_prK (pv 1) W.c_Table Pr_Table_width (hr.mono (by decide))) (nomark _)) (pss_one (ps_exc rfl (takes_of rfl rfl rfl rfl) V.UnlikeWidths rfl)) pss_nil))), ?_⟩
  show tSeq _ _ _ [some (.ref p), some (.ref q)] H
  refine q_dropV (v_call (vs := [.ref q]) (w_cons (v_var rfl) w_nil) fun G' e => ⟨.ref q, m, es, rfl, hy.up e, rfl⟩) eG fun G1 H1 g1 => ?_
  show tIfS _ _ _ _ [some (.ref p), some (.ref q)] H1
  refine s_raise (b := !PyData.eqv (I1 n) (I1 m)) ?_ (b_test (d_op (d_v (v_pr (v_var rfl) (g1.g _ _ hp) (flds_columns n t)) (.int _)) (d_v (v_pr (v_var rfl) (g1.g _ _ hq) (flds_columns m u)) (.int _)) (r_ne rfl rfl))) g1.gh fun G2 H2 g => (xr.up (g1.trans g)).now g.gh
  rw [eqv_I1, decide_eq_false hne]; rfl
def P_like (Y : AdY) : Hp → List V → V → Prop := fun G vs v => ∃ (x y : V) (n : Nat) (ds es : List PyData), vs = [x, y] ∧ TO Y.aT G x n ds ∧ TO Y.aT G y n es ∧ v = .non
theorem okO_like {f : Addr} {fd : FuncData} (F : Fun K "need_like" "need_like" s_need_like f fd) (T : Txt Z K mg) (W : TxtW Z Y K) (O_need_table : Fn1 P w K mg base "need_table" 1 (spV (P_isTable Y))) (Pr_Table_width : PrOk P w K mg base Y.aT "width" "columns") : FnOk P w K mg base CX0 3 f fd ["one", "other"] (spV (P_like Y)) := by
  refine F.ok sc_need_like (fun vs H Q E ⟨G, v, _, ⟨x, y, n, ds, es, e, _⟩, _⟩ => by rw [e]; rfl) (fun cdv A outer s H vs Q E hr h => ?_)
  obtain ⟨G, v, eG, ⟨x, y, n, ds, es, rfl, hx, hy, rfl⟩, k⟩ := h
  obtain ⟨p, dx, t, rfl, hp, _⟩ := hx.ex
  obtain ⟨q, dy, u, rfl, hq, _⟩ := hy.ex
  have nd := sc_need_like.nd
  refine ⟨_, (pss_cons (ps_expr (pe_fn O_need_table (hr.mono (by decide)) rfl (pa_cons (pv 1) pa_nil)))
    (pss_one (ps_if (pt_cmpR (neDK K (h64 hr)) (pe_prK (pv 0) W.c_Table Pr_Table_width (hr.mono (by decide))) (pe_prK (pv 1) W.c_Table Pr_Table_width (hr.mono (by decide))) (nomark _)) (pss_one ps_never) pss_nil))), ?_⟩
  show tSeq _ _ _ [some (.ref p), some (.ref q)] H
  refine q_dropV (v_call (vs := [.ref q]) (w_cons (v_var rfl) w_nil) fun G' e => ⟨.ref q, n, es, rfl, hy.up e, rfl⟩) eG fun G1 H1 g1 => ?_
  show tIfS _ _ _ _ [some (.ref p), some (.ref q)] H1
  refine s_pass (b := !PyData.eqv (I1 n) (I1 n)) (by rw [eqv_I1]; simp) (b_test (d_op (d_v (v_pr (v_var rfl) (g1.g _ _ hp) (flds_columns n t)) (.int _)) (d_v (v_pr (v_var rfl) (g1.g _ _ hq) (flds_columns n u)) (.int _)) (r_ne rfl rfl))) g1.gh fun G2 H2 g => k G2 H2 (g1.trans g)
/-! ### table_of -/
theorem sc_table_of : FnScope ["width", "rows"] ["width", "rows"] (defScope s_table_of) := ⟨rfl, rfl, rfl, by decide +kernel, rfl, by decide +kernel, by decide +kernel⟩
def P_tableof : Hp → List V → Prop := fun G vs => ∃ (n : Nat) (ds : List PyData), DDs G vs [I1 n, .list ds] ∧ 400 < ds.length
theorem okX_table_of {f : Addr} {fd : FuncData} (F : Fun K "table_of" "table_of" s_table_of f fd) (T : Txt Z K mg) (V : TxtV Y K mg) (U : TxtU Z Y K mg) : FnOk P w K mg base (L2.CX P w) 1 f fd ["width", "rows"] (spX P_tableof (Y.ex 11)) := by
  refine F.okX sc_table_of (fun vs H Q E ⟨G, _, ⟨n, ds, h, _⟩, _⟩ => h.length) (fun cdv A outer s H vs Q E hr h => ?_)
  obtain ⟨G, eG, ⟨n, ds, hd, hl⟩, xr⟩ := h
  obtain ⟨v1, r, rfl, h1, hd⟩ := hd.inv
  obtain ⟨v2, r, rfl, h2, hd⟩ := hd.inv
  obtain rfl := hd.inv0
  have nd := sc_table_of.nd
  refine ⟨_, (pss_cons (ps_if (pt_cmpR op_gt (pe_callB (crLenK K) (by rfl) T.b_len (by decide +kernel) (pa_cons (pv 1) pa_nil)) (pe_glob (v := .int 400) rfl U.c_MOST_ROWS ⟨_, rfl⟩) (nomark _)) (pss_one (ps_exc rfl (takes_of rfl rfl rfl rfl) V.TooMuch rfl)) pss_nil)
    (pss_one ps_never)), ?_⟩
  show tSeq _ _ _ [some v1, some v2] H
  exact q_raise (b := decide ((400 : Int) < (ds.length : Int))) (decide_eq_true (by omega)) (b_test (d_op (d_cb (a_cons (d_var rfl h2) a_nil) c_lenL) d_int r_B0)) eG fun G2 H2 g => (xr.up g).now g.gh
/-! ### +, * -/
theorem sc_Table_add : FnScope ["self", "other"] ["self", "other"] (defScope s_Table_add) := ⟨rfl, rfl, rfl, by decide +kernel, rfl, by decide +kernel, by decide +kernel⟩
theorem sc_Table_mul : FnScope ["self", "other", "row"] ["self", "other"] (defScope s_Table_mul) := ⟨rfl, rfl, rfl, by decide +kernel, rfl, by decide +kernel, by decide +kernel⟩
theorem okX_addT8 {f : Addr} {fd : FuncData} (F : Fun K "__add__" "Table.__add__" s_Table_add f fd) (T : Txt Z K mg) (V : TxtV Y K mg) (X_like : FnX P w K mg base "need_like" 3 (spX (P_like8 Z) (Y.ex 8))) : FnOk P w K mg base (L2.CX P w) 4 f fd ["self", "other"] (spX (P_like8 Z) (Y.ex 8)) := by
  refine F.okX sc_Table_add (fun vs H Q E ⟨G, _, ⟨x, y, e, _⟩, _⟩ => by rw [e]; rfl) (fun cdv A outer s H vs Q E hr h => ?_)
  obtain ⟨G, eG, ⟨x, y, rfl, hy⟩, xr⟩ := h
  have nd := sc_Table_add.nd
  refine ⟨_, (pss_cons (ps_expr (pe_fx X_like (hr.mono (by decide)) (passB (takes_of rfl rfl rfl rfl)) rfl (pa_cons (pv 0) (pa_cons (pv 1) pa_nil))))
    (pss_one ps_never)), ?_⟩
  show tSeq _ _ _ (start ["self", "other"] [x, y]) H
  exact q_x (x_call (vs := [x, y]) (w_cons (v_var rfl) (w_cons (v_var rfl) w_nil)) fun G' e => ⟨x, y, rfl, hy.imp (fun ⟨T, h⟩ => ⟨T, h.up e⟩) fun ⟨n, ds, h⟩ => ⟨n, ds, h.up e⟩⟩) eG xr
theorem okX_mulT8 {f : Addr} {fd : FuncData} (F : Fun K "__mul__" "Table.__mul__" s_Table_mul f fd) (T : Txt Z K mg) (V : TxtV Y K mg) (X_like : FnX P w K mg base "need_like" 3 (spX (P_like8 Z) (Y.ex 8))) : FnOk P w K mg base (L2.CX P w) 4 f fd ["self", "other"] (spX (P_like8 Z) (Y.ex 8)) := by
  refine F.okX sc_Table_mul (fun vs H Q E ⟨G, _, ⟨x, y, e, _⟩, _⟩ => by rw [e]; rfl) (fun cdv A outer s H vs Q E hr h => ?_)
  obtain ⟨G, eG, ⟨x, y, rfl, hy⟩, xr⟩ := h
  have nd := sc_Table_mul.nd
  refine ⟨_, (pss_cons (ps_expr (pe_fx X_like (hr.mono (by decide)) (passB (takes_of rfl rfl rfl rfl)) rfl (pa_cons (pv 0) (pa_cons (pv 1) pa_nil))))
    (pss_cons ps_never
    (pss_one ps_never))), ?_⟩
  show tSeq _ _ _ (start ["self", "other", "row"] [x, y]) H
  exact q_x (x_call (vs := [x, y]) (w_cons (v_var rfl) (w_cons (v_var rfl) w_nil)) fun G' e => ⟨x, y, rfl, hy.imp (fun ⟨T, h⟩ => ⟨T, h.up e⟩) fun ⟨n, ds, h⟩ => ⟨n, ds, h.up e⟩⟩) eG xr
theorem okX_addT10 {f : Addr} {fd : FuncData} (F : Fun K "__add__" "Table.__add__" s_Table_add f fd) (T : Txt Z K mg) (V : TxtV Y K mg) (X_like : FnX P w K mg base "need_like" 3 (spX (P_like10 Y) (Y.ex 10))) : FnOk P w K mg base (L2.CX P w) 4 f fd ["self", "other"] (spX (P_like10 Y) (Y.ex 10)) := by
  refine F.okX sc_Table_add (fun vs H Q E ⟨G, _, ⟨x, y, n, m, ds, es, e, _⟩, _⟩ => by rw [e]; rfl) (fun cdv A outer s H vs Q E hr h => ?_)
  obtain ⟨G, eG, ⟨x, y, n, m, ds, es, rfl, hx, hy, hne⟩, xr⟩ := h
  have nd := sc_Table_add.nd
  refine ⟨_, (pss_cons (ps_expr (pe_fx X_like (hr.mono (by decide)) (passB (takes_of rfl rfl rfl rfl)) rfl (pa_cons (pv 0) (pa_cons (pv 1) pa_nil))))
    (pss_one ps_never)), ?_⟩
  show tSeq _ _ _ (start ["self", "other"] [x, y]) H
  exact q_x (x_call (vs := [x, y]) (w_cons (v_var rfl) (w_cons (v_var rfl) w_nil)) fun G' e => ⟨x, y, n, m, ds, es, rfl, hx.up e, hy.up e, hne⟩) eG xr
/-- too many rows -/
def P_addT11 (Y : AdY) : Hp → List V → Prop := fun G vs => ∃ (x y : V) (n : Nat) (ds es : List PyData), vs = [x, y] ∧ TO Y.aT G x n ds ∧ TO Y.aT G y n es ∧ 400 < ds.length + es.length ∧ ds.length + es.length ≤ 100000
theorem okX_addT11 {f : Addr} {fd : FuncData} (F : Fun K "__add__" "Table.__add__" s_Table_add f fd) (T : Txt Z K mg) (V : TxtV Y K mg) (W : TxtW Z Y K) (O_like : Fn1 P w K mg base "need_like" 3 (spV (P_like Y))) (X_table_of : FnX P w K mg base "table_of" 1 (spX P_tableof (Y.ex 11))) (Pr_Table_rows : PrOk P w K mg base Y.aT "rows" "kept") : FnOk P w K mg base (L2.CX P w) 4 f fd ["self", "other"] (spX (P_addT11 Y) (Y.ex 11)) := by
  refine F.okX sc_Table_add (fun vs H Q E ⟨G, _, ⟨x, y, n, ds, es, e, _⟩, _⟩ => by rw [e]; rfl) (fun cdv A outer s H vs Q E hr h => ?_)
  obtain ⟨G, eG, ⟨x, y, n, ds, es, rfl, hx, hy, h1, h2⟩, xr⟩ := h
  obtain ⟨p, dx, t, rfl, hp, ht⟩ := hx.ex
  obtain ⟨q, dy, u, rfl, hq, hu⟩ := hy.ex
  have nd := sc_Table_add.nd
  refine ⟨_, (pss_cons (ps_expr (pe_fn O_like (hr.mono (by decide)) rfl (pa_cons (pv 0) (pa_cons (pv 1) pa_nil))))
    (pss_one (ps_ret (pe_fx X_table_of (hr.mono (by decide)) (passB (takes_of rfl rfl rfl rfl)) rfl (pa_cons (peFldK K (pv 0)) (pa_cons (pe_op op_cat (pe_callTy call_list_of (by rfl) T.b_list (by decide +kernel) (pa_cons (peFldK K (pv 0)) pa_nil)) (pe_callTy call_list_of (by rfl) T.b_list (by decide +kernel) (pa_cons (pe_prK (pv 1) W.c_Table Pr_Table_rows (hr.mono (by decide))) pa_nil))) pa_nil)))))), ?_⟩
  show tSeq _ _ _ (start ["self", "other"] [.ref p, .ref q]) H
  refine q_dropV (v_call (vs := [.ref p, .ref q]) (w_cons (v_var rfl) (w_cons (v_var rfl) w_nil)) fun G' e => ⟨.ref p, .ref q, n, ds, es, rfl, hx.up e, hy.up e, rfl⟩) eG fun G1 H1 g1 => ?_
  show tRet _ _ (start ["self", "other"] [.ref p, .ref q]) H1
  have l1 : EvD _ (start ["self", "other"] [.ref p, .ref q]) G1 (.list ds) := (m_listT (K := K) (d_v (v_fld (K := K) (v_var (i := 0) rfl) (g1.g _ _ hp) W.c_Table W.f_Table.2 (flds_kept n t)) (ht.up g1.g))).toD
  have l2 : EvD _ (start ["self", "other"] [.ref p, .ref q]) G1 (.list es) := (m_listT (K := K) (d_v (v_pr (v_var (i := 1) rfl) (g1.g _ _ hq) (flds_kept n u)) (hu.up g1.g))).toD
  exact x_ret (x_callA (ds := [I1 n, .list (ds ++ es)]) (a_cons (d_v (v_fld (K := K) (v_var rfl) (g1.g _ _ hp) W.c_Table W.f_Table.1 (flds_columns n t)) (.int _)) (a_cons (d_op l1 l2 (r_catL h2)) a_nil)) fun G' vs e hv => ⟨n, ds ++ es, hv, by rw [List.length_append]; exact h1⟩) g1.gh (xr.up g1)
/-- a value that is too great -/
def P_mulT11 (Y : AdY) : Hp → List V → Prop := fun G vs => ∃ (x y : V), vs = [x, y] ∧ TO Y.aT G x 3 [RW [1, 2, 100]] ∧ TO Y.aT G y 3 [RW [1, 2, 100]]
theorem okX_mulT11 {f : Addr} {fd : FuncData} (F : Fun K "__mul__" "Table.__mul__" s_Table_mul f fd) (T : Txt Z K mg) (V : TxtV Y K mg) (U : TxtU Z Y K mg) (W : TxtW Z Y K) (O_like : Fn1 P w K mg base "need_like" 3 (spV (P_like Y))) (Pr_Table_rows : PrOk P w K mg base Y.aT "rows" "kept") (bmax : mg "max" = none) : FnOk P w K mg base (L2.CX P w) 4 f fd ["self", "other"] (spX (P_mulT11 Y) (Y.ex 11)) := by
  refine F.okX sc_Table_mul (fun vs H Q E ⟨G, _, ⟨x, y, e, _⟩, _⟩ => by rw [e]; rfl) (fun cdv A outer s H vs Q E hr h => ?_)
  obtain ⟨G, eG, ⟨x, y, rfl, hx, hy⟩, xr⟩ := h
  obtain ⟨p, dx, t, rfl, hp, ht⟩ := hx.ex
  obtain ⟨q, dy, u, rfl, hq, hu⟩ := hy.ex
  have nd := sc_Table_mul.nd
  refine ⟨_, (pss_cons (ps_expr (pe_fn O_like (hr.mono (by decide)) rfl (pa_cons (pv 0) (pa_cons (pv 1) pa_nil))))
    (pss_cons (ps_if (pt_not (pt_val (pe_callB (crAllK K rfl) (by rfl) T.b_all (by decide +kernel) (pa_cons (pe_lc (own := [("row", 2)]) (by rfl) nd (piTupK K (pe_op (catTK K) (peFldK K (pv 0)) (pe_prK (pv 1) W.c_Table Pr_Table_rows (hr.mono (by decide))))) (blkOk_by (own := [("row", 2)]) (N := ["self", "other", "row"]) (sc := (defScope s_Table_mul)) (by decide +kernel)) (fun _ _ _ _ _ => (pgN 2 nd)) (fun _ _ _ _ _ => pts_nil) (fun _ _ _ _ _ => (pe_cmpR op_le (pe_callB (crMaxTK K rfl (h64 hr)) (by rfl) T.b_max (by decide +kernel) (pa_cons (pv 2) pa_nil)) (pe_glob (v := .int 99) rfl U.c_SMALL ⟨_, rfl⟩) (nomark _)))) pa_nil)))) (pss_one (ps_exc rfl (takes_of rfl rfl rfl rfl) V.TooMuch rfl)) pss_nil)
    (pss_one ps_never))), ?_⟩
  show tSeq _ _ _ (start ["self", "other", "row"] [.ref p, .ref q]) H
  refine q_dropV (v_call (vs := [.ref p, .ref q]) (w_cons (v_var rfl) (w_cons (v_var rfl) w_nil)) fun G' e => ⟨.ref p, .ref q, 3, _, _, rfl, hx.up e, hy.up e, rfl⟩) eG fun G1 H1 g1 => ?_
  have l1 : EvD _ (start ["self", "other", "row"] [.ref p, .ref q]) G1 (.tuple [RW [1, 2, 100]]) := d_v (v_fld (K := K) (v_var (i := 0) rfl) (g1.g _ _ hp) W.c_Table W.f_Table.2 (flds_kept 3 t)) (ht.up g1.g)
  have l2 : EvD _ (start ["self", "other", "row"] [.ref p, .ref q]) G1 (.tuple [RW [1, 2, 100]]) := d_v (v_pr (v_var (i := 1) rfl) (g1.g _ _ hq) (flds_kept 3 u)) (hu.up g1.g)
  have lt : EvD (tOp (rCatT K) _ _) (start ["self", "other", "row"] [.ref p, .ref q]) G1 (.tuple ([[1, 2, 100], [1, 2, 100]].map RW)) := d_op l1 l2 (r_catT (by decide) (by decide) (by decide))
  have c := m_lcT (K := K) (σ := start ["self", "other", "row"] [.ref p, .ref q]) (G := G1) (vs := [2]) (g := gName 2) (tt := tYes) (te := tOp (rI0 fun i j => .bl (decide (i ≤ j))) (tCB (rMaxT K) (tCons (tVar 2) tNil)) (tC (.int 99))) (enc := RW) (xs := [[1, 2, 100], [1, 2, 100]]) (fun _ => true) (fun _ => .bool false) lt (by decide)
    (fun x v G1 H1 hx e1 e2 hv Q q => q _ rfl (fun G1 H1 _ e2 Q q => q G1 H1 (Grow.refl e2)) fun _ => by
      have ex : x = [1, 2, 100] := by
        rcases List.mem_cons.mp hx with h | h
        · exact h
        · exact List.mem_singleton.mp h
      subst ex
      exact (d_op (d_cb (a_cons (d_var rfl hv) a_nil) (c_maxT (m := 1) (ns := [2, 100]) (i := 100) (by rfl))) d_int r_B0).is rfl)
  exact q_raise (b := !([false, false].all id)) rfl (b_not (b_B (d_cb (a_cons (c.toD.is (d' := .list ([false, false].map PyData.bool)) rfl) a_nil) c_all))) g1.gh fun G2 H2 g => (xr.up (g1.trans g)).now g.gh
end
end CP
set_option Elab.async false
set_option linter.all false
set_option maxRecDepth 100000
set_option maxHeartbeats 4000000
namespace CL
open PySem L2
def exScope : Expr → Scope
  | .ListComp _ _ sc _ => sc
  | _ => { kind := .function, names := [], isGenerator := false, isCoroutine := false }
/-- the scope of the comprehension in a def's i-th statement -/
def lcSt (s : Stmt) (i : Nat) : Scope := match (defBody s).getD i (.Pass ⟨0, 0, 0, 0⟩) with
  | .Assign _ v _ => exScope v
  | .Return (some (.Call _ (a :: _) _ _)) _ => exScope a
  | _ => { kind := .function, names := [], isGenerator := false, isCoroutine := false }
end CL
namespace CP
open PySem L2 CL CM
section
variable {P : Program} {w : World} {K : PySem.W.Frag} {mg : Str → Option Value} {base : Heap} {Z : Ads} {Y : AdY}
abbrev rows7 : List (List Nat) := List.replicate 400 [7]
/-! ### number_of("7") -/
theorem sc_number_of : FnScope ["word", "sign"] ["word"] (defScope s_number_of) := ⟨rfl, rfl, rfl, by decide +kernel, rfl, by decide +kernel, by decide +kernel⟩
def R_num : List PyData → (PyData → Prop) → Prop := fun ds S => ds = [.str "7"] ∧ S = fun d => d = I1 7
theorem ok_number_of {f : Addr} {fd : FuncData} (F : Fun K "number_of" "number_of" s_number_of f fd) (T : Txt Z K mg) (U : TxtU Z Y K mg) : FnOk P w K mg base CX0 1 f fd ["word"] (spR R_num) := by
  refine F.ok sc_number_of (fun vs H Q E h => spR_len (n := 1) (fun ds S ⟨e, _⟩ => by rw [e]; rfl) h) (fun cdv A outer s H vs Q E hr h => ?_)
  obtain ⟨G, ds, S, ⟨rfl, rfl⟩, eG, hd, k⟩ := h
  obtain ⟨v1, r, rfl, h1, hd⟩ := hd.inv
  obtain rfl := hd.inv0
  obtain rfl := h1.eqS
  have nd := sc_number_of.nd
  refine ⟨_, (pss_cons (ps_if (PW.pt (pw_or (pt_not (pt_chain op_le op_le pe_int (pe_callB (crLenK K) (by rfl) T.b_len (by decide +kernel) (pa_cons (pv 0) pa_nil)) pe_int)) (pw_or1 (pt_not (pt_val (pe_callB (crAllK K rfl) (by rfl) T.b_all (by decide +kernel) (pa_cons (pe_lc (own := [("sign", 1)]) (by rfl) nd (pi_str (pv 0)) (blkOk_by (own := [("sign", 1)]) (N := ["word", "sign"]) (sc := (defScope s_number_of)) (by decide +kernel)) (fun _ _ _ _ _ => (pgN 1 nd)) (fun _ _ _ _ _ => pts_nil) (fun _ _ _ _ _ => (pe_cmpR op_in_sign (pv 1) (pe_glob (v := .str "0123456789") rfl U.c_DIGITS ⟨_, rfl⟩) (by rfl)))) pa_nil))))))) (pss_one (ps_ret (pe_un un_neg pe_int))) pss_nil)
    (pss_one (ps_ret (pe_callTy call_int_str (by rfl) T.b_int (by decide +kernel) (pa_cons (pv 0) pa_nil))))), ?_⟩
  show tSeq _ _ _ (start ["word", "sign"] [.str "7"]) H
  have hlen : EvD (tCB (CL.rLen K) (tCons (tVar 0) tNil)) (start ["word", "sign"] [.str "7"]) G (.int 1) := (d_cb (a_cons (d_var rfl h1) a_nil) (c_lenS (K := K) (by decide +kernel))).is (congrArg PyData.int (by decide +kernel : (("7" : Str).length : Int) = 1))
  have c := m_lcS (σ := start ["word", "sign"] [.str "7"]) (G := G) (tl := tVar 0) (vs := [1]) (g := gName 1) (tt := tYes) (te := tOp (fun x y H Q => ∃ (c : Nat) (z : Str), x = .str ⟨#[c]⟩ ∧ y = .str z ∧ Q (.bl (decide (c ∈ z.cps.toList))) H) (tVar 1) (tC (.str "0123456789"))) (x := "7") (fun _ => .bool true) (d_var rfl h1) (by decide +kernel)
    (fun ch G1 H1 hc e1 e2 Q q => q _ rfl (fun G1 H1 _ e2 Q q => q G1 H1 (Grow.refl e2)) (.mk fun G2 H2 _ e4 Q q => ⟨_, rfl, ch, "0123456789", rfl, rfl, by
      have e : ch = 55 := by
        have z : ch ∈ [55] := hc
        exact List.mem_singleton.mp z
      subst e
      have z : decide (55 ∈ (Str.cps "0123456789").toList) = true := by decide +kernel
      rw [z]
      exact q _ G2 H2 (Grow.refl e4) (.bl _)⟩))
  have c' : EvD _ _ _ (.list ([true].map PyData.bool)) := c.toD.is (by rfl)
  refine q_pass (b := (!(decide ((1 : Int) ≤ 1) && decide ((1 : Int) ≤ 4))) || (!([true].all id))) (by decide) (b_or (b_not (b_test (d_chain d_int hlen r_B0 (fun _ => d_int) fun _ => r_B0))) fun _ => b_not (b_B (d_cb (a_cons c' a_nil) c_all))) eG fun G2 H2 g2 => ?_
  show tRet _ _ (start ["word", "sign"] [.str "7"]) H2
  refine s_ret (d := I1 7) (.mk fun G3 H3 _ e3 Q q => ⟨_, rfl, "7", 7, rfl, seven_int, by decide +kernel, q _ G3 H3 (Grow.refl e3) (.int _)⟩) g2.gh fun v G3 H3 g3 hv => k v _ G3 H3 rfl (g2.trans g3) hv
end
end CP
set_option Elab.async false
set_option linter.all false
set_option maxRecDepth 100000
set_option maxHeartbeats 4000000
namespace CL
open PySem L2
section
variable {σ : VSt} {G : Hp} {te ta : TE} {t : TA} {K : PySem.W.Frag} {C a dx : Addr} {fs : List (Str × V)} {m : Str} {E : XK} {vs : List V} {v : V}
theorem a_star {ds : List PyData} (h : EvD te σ G (.list ds)) : EvA (StX.tStar K te tNil) σ G ds := fun G1 H1 e1 e2 Q q =>
  h.go' e1 e2 fun v G2 H2 g2 hv => by
    obtain ⟨p, xs, rfl, hp, hx⟩ := hv.eqL
    refine ⟨p, xs, rfl, .inr (.inl (.inl (g2.gh _ _ hp))), ?_⟩
    show Q (xs ++ []) H2
    rw [List.append_nil]
    exact q xs G2 H2 g2 hx
theorem a_starT {ds : List PyData} (h : EvD te σ G (.tuple ds)) : EvA (StX.tStar K te tNil) σ G ds := fun G1 H1 e1 e2 Q q =>
  h.go' e1 e2 fun v G2 H2 g2 hv => by
    obtain ⟨p, xs, rfl, hp, hx⟩ := hv.eqT
    refine ⟨p, xs, rfl, .inl (.inl (up_rd hp g2.gh)), ?_⟩
    show Q (xs ++ []) H2
    rw [List.append_nil]
    exact q xs G2 H2 g2 hx
theorem v_meth {pre : Hp → List V → V → Prop} (h : EvV ta σ G (.ref a)) (ha : G a = some (.ins C dx fs)) (hl : fs.lookup m = none) (hv : EvVs t σ G vs) (hp : ∀ G', Ex G G' → pre G' (.ref a :: vs) v) : EvV (tMeth C m (spV pre) [] E ta t) σ G v := fun G1 H1 e1 e2 Q q =>
  h G1 H1 e1 e2 _ fun G2 H2 g2 => ⟨a, dx, fs, rfl, g2.gh _ _ (g2.g _ _ (e1 _ _ ha)), hl, hv G2 H2 (e1.trans g2.g) g2.gh _ fun G3 H3 g3 => by
    rw [List.append_nil]
    exact ⟨G3, v, g3.gh, hp G3 ((e1.trans g2.g).trans g3.g), fun G4 H4 g4 => q G4 H4 ((g2.trans g3).trans g4)⟩⟩
end
end CL
namespace CP
open PySem L2 CL CM
theorem flds_none {n : Nat} {t : Addr} {m : Str} (h1 : ¬ m = "kept") (h2 : ¬ m = "columns") : (flds n t).lookup m = none := by
  unfold flds
  rw [lookup_putF, if_neg h1, lookup_putF, if_neg h2]
  rfl
section
variable {P : Program} {w : World} {K : PySem.W.Frag} {mg : Str → Option Value} {base : Heap} {Z : Ads} {Y : AdY}
/-! ### text() of the 400 rows -/
theorem sc_Table_text : FnScope ["self", "row", "value"] ["self"] (defScope s_Table_text) := ⟨rfl, rfl, rfl, by decide +kernel, rfl, by decide +kernel, by decide +kernel⟩
def P_textT (Y : AdY) : Hp → List V → V → Prop := fun G vs v => ∃ x, vs = [x] ∧ TO Y.aT G x 1 (rows7.map RW) ∧ v = .str T7
theorem ok_textT {f : Addr} {fd : FuncData} (F : Fun K "text" "Table.text" s_Table_text f fd) (T : Txt Z K mg) (W : TxtW Z Y K) : FnOk P w K mg base CX0 1 f fd ["self"] (spV (P_textT Y)) := by
  refine F.ok sc_Table_text (fun vs H Q E ⟨G, v, _, ⟨x, e, _⟩, _⟩ => by rw [e]; rfl) (fun cdv A outer s H vs Q E hr h => ?_)
  obtain ⟨G, v, eG, ⟨x, rfl, hx, rfl⟩, k⟩ := h
  obtain ⟨p, dx, t, rfl, hp, ht⟩ := hx.ex
  have nd := sc_Table_text.nd
  refine ⟨_, (pss_one (ps_ret (pe_joinK K pe_str (pe_lc (own := [("row", 1)]) (by rfl) nd (piTupK K (peFldK K (pv 0))) (blkOk_by (own := [("row", 1)]) (N := ["self", "row", "value"]) (sc := (defScope s_Table_text)) (by decide +kernel)) (fun _ _ _ _ _ => (pgN 1 nd)) (fun _ _ _ _ _ => pts_nil) (fun _ _ _ _ _ => (pe_op op_add_str (pe_joinK K pe_str (pe_lc (own := [("value", 2)]) (by rfl) nd (piTupK K (pv 1)) (blkOk_by (own := [("value", 2)]) (N := ["self", "row", "value"]) (sc := (relS (lcSt s_Table_text 0) (defScope s_Table_text))) (by decide +kernel)) (fun _ _ _ _ _ => (pgN 2 nd)) (fun _ _ _ _ _ => pts_nil) (fun _ _ _ _ _ => (pe_callTy call_str_int (by rfl) T.b_str (by decide +kernel) (pa_cons (pv 2) pa_nil))))) pe_str)))))), ?_⟩
  show tRet _ _ (start ["self", "row", "value"] [.ref p]) H
  have inner : ∀ {σ : VSt} {G' : Hp} {v : V}, σ[1]? = some (some v) → DD G' v (RW [7]) → (∀ u, (wipe σ [2]).set 2 (some u) = (wipe σ [2]).set 2 (some u) ∧ ((wipe σ [2]).set 2 (some u))[2]? = some (some u) ∧ wipe ((wipe σ [2]).set 2 (some u)) [2] = wipe σ [2]) →
      EvD (tLc (iTup K (tVar 1)) (gName 2) tYes (tCB (fun xs H Q => ∃ i, xs = [V.int i] ∧ i.natAbs.log2 < 1920 ∧ Q (V.str (toString i)) H) (tCons (tVar 2) tNil)) [2]) σ G' (.list ([("7" : Str)].map PyData.str)) := fun {σ G' v} hv hd hs => by
    have c := m_lcT (K := K) (σ := σ) (G := G') (tl := tVar 1) (vs := [2]) (g := gName 2) (tt := tYes) (te := tCB (fun xs H Q => ∃ i, xs = [V.int i] ∧ i.natAbs.log2 < 1920 ∧ Q (V.str (toString i)) H) (tCons (tVar 2) tNil)) (enc := I1) (xs := [7]) (fun _ => true) (fun _ => .str "7") (d_var hv hd) (by decide)
      (fun y u G1 H1 hy e1 e2 hu Q q => q _ (hs u).2.2 (fun G1 H1 _ e2 Q q => q G1 H1 (Grow.refl e2)) fun _ => by
        have ey : y = 7 := List.mem_singleton.mp hy
        subst ey
        exact (d_cb (a_cons (d_var (hs u).2.1 hu) a_nil) (c_strInt (by decide))).is (by rw [seven_str]))
    exact c.toD.is (by rfl)
  have outer := m_lcT (K := K) (σ := start ["self", "row", "value"] [.ref p]) (G := G) (vs := [1]) (g := gName 1) (tt := tYes) (enc := RW) (xs := rows7) (fun _ => true) (fun _ => .str "7\n") (d_v (v_fld (K := K) (v_var (i := 0) rfl) hp W.c_Table W.f_Table.2 (flds_kept 1 t)) ht) (by rw [List.length_replicate]; decide)
      (te := tOp (fun x y H Q => ∃ i j, x = V.str i ∧ y = V.str j ∧ i.length + j.length ≤ sizeLine ∧ Q (V.str (i ++ j)) H) (tM1 (fun x xs H Q => ∃ a p, ∃ ys : List Str, x = V.str a ∧ xs = [V.ref p] ∧ (SqL K H p (ys.map V.str) ∨ SqT K H p (ys.map V.str)) ∧ (ys.map (·.length)).sum + ys.length * a.length ≤ 16777216 ∧ Q (V.str (Txt.join a ys)) H) (tC (.str " "))
        (tLc (iTup K (tVar 1)) (gName 2) tYes (tCB (fun xs H Q => ∃ i, xs = [V.int i] ∧ i.natAbs.log2 < 1920 ∧ Q (V.str (toString i)) H) (tCons (tVar 2) tNil)) [2])) (tC (.str "\n")))
      (fun y v G1 H1 hy e1 e2 hv Q q => q _ rfl (fun G1 H1 _ e2 Q q => q G1 H1 (Grow.refl e2)) fun _ => by
        have ey : y = [7] := List.eq_of_mem_replicate hy
        subst ey
        refine (d_op (d := .str "7") ((d_m1 d_str (inner rfl hv fun u => ⟨rfl, rfl, rfl⟩) (m_join (K := K) (ys := [("7" : Str)]) (by decide +kernel))).is (by rw [seven_join])) d_str (r_catS (by decide +kernel))).is ?_
        rw [seven_nl])
  rw [filt, List.map_replicate] at outer
  have o2 := outer.toD.is (d' := .list ((List.replicate 400 ("7\n" : Str)).map PyData.str)) (by rw [List.map_replicate])
  refine s_ret (d := .str T7) ((d_m1 d_str o2 (m_join (K := K) (ys := List.replicate 400 ("7\n" : Str)) (by decide +kernel))).is (by rw [T7_join])) eG fun v G2 H2 g hv => ?_
  rw [hv.eqS]
  exact k G2 H2 g
/-! ### Table.read(1, "7\n" * 400) -/
def spRead7 (Y : AdY) : Sp := fun vs H Q _ => ∃ (G : Hp), vs = [.ref Y.aT, .int ((1 : Nat) : Int), .str T7] ∧ Ex G H ∧ ∀ v G2 H2, Grow M0 G H G2 H2 → TO Y.aT G2 v 1 (rows7.map RW) → Q v H2
theorem cut7 : cutD ((List.replicate 400 ("7" : Str) ++ [("" : Str)]).map PyData.str) none (some (-1)) = (List.replicate 400 ("7" : Str)).map PyData.str := by
  unfold cutD
  rw [HT.sIx_none, List.drop_zero, List.length_map, List.length_append, List.length_replicate, List.length_singleton]
  have e : HT.sIx (400 + 1) (400 + 1) (some (-1)) = 400 := by rfl
  rw [e, Nat.sub_zero, List.map_append, List.take_append_of_le_length (by simp), List.take_of_length_le (by simp)]
theorem good7 : GoodT 1 rows7 := ⟨by rw [List.length_replicate]; decide, fun r hr => by
  rw [List.eq_of_mem_replicate hr]
  exact ⟨rfl, by decide, fun x hx => by rw [List.mem_singleton.mp hx]; decide⟩⟩
theorem ok_read7 {f fi : Addr} {fd : FuncData} (F : Fun K "read" "Table.read" s_Table_read f fd) (T : Txt Z K mg) (W : TxtW Z Y K) (F_need_width : Fn1 P w K mg base "need_width" 3 (spR R_needw)) (F_are_rows : Fn1 P w K mg base "are_rows" 4 (spR R_arerows)) (F_number_of : Fn1 P w K mg base "number_of" 1 (spR R_num))
    (M_init : Mk K Y.aT fi) (F_init : FnR P w K mg base CX0 6 fi (spStar 2 (spInitT Y.aT))) (F_textT : MeOk P w K mg base CX0 Y.aT "text" 1 (spV (P_textT Y))) : FnOk P w K mg base CX0 8 f fd ["cls", "width", "text"] (spRead7 Y) := by
  refine F.ok sc_Table_read (fun vs H Q E ⟨G, e, _⟩ => by rw [e]; rfl) (fun cdv A outer s H vs Q E hr h => ?_)
  obtain ⟨G, rfl, eG, k⟩ := h
  have nd := sc_Table_read.nd
  refine ⟨_, (pss_cons (ps_expr (pe_fn F_need_width (hr.mono (by decide)) rfl (pa_cons (pv 1) pa_nil)))
    (pss_cons (ps_if (PW.pt (pw_or (pt_not (pt_val (pe_callB (crIsiK K) (by rfl) T.b_isinstance (by decide +kernel) (pa_cons (pv 2) (pa_cons (pe_bltn (v := .ty "str") (u := Value.type "str") rfl T.b_str (by decide +kernel) rfl) pa_nil))))) (pw_or1 (PW.pt (pw_and (pt_cmpR (neDK K (h64 hr)) (pv 2) pe_str (nomark _)) (pw_and1 (pt_not (pt_val (pe_m1 PySem.F.slot_str_endswith PySem.F.type_str_endswith mt_endswith (pv 2) pe_str (by rfl) (by rfl) (by rfl)))))))))) (pss_one ps_never) pss_nil)
    (pss_cons (ps_setLc (i := 3) (own := [("line", 5)]) rfl nd rfl rfl (sw_true rfl rfl rfl (by decide +kernel)) (piListK K (pe_slice (slLK K) (pe_split (pv 2) pe_str) po_none (po_some (pe_un un_neg pe_int)))) (blkOk_by (own := [("line", 5)]) (N := ["cls", "width", "text", "rows", "made", "line", "word"]) (sc := (defScope s_Table_read)) (by decide +kernel)) (fun _ _ _ _ _ => (pgN 5 nd)) (fun _ _ _ _ _ => pts_nil) (fun _ _ _ _ _ => (pe_callTy (crTupleK K) (by rfl) T.b_tuple (by decide +kernel) (pa_cons (pe_lc (own := [("word", 6)]) (by rfl) nd (piListK K (pe_split (pv 5) pe_str)) (blkOk_by (own := [("word", 6)]) (N := ["cls", "width", "text", "rows", "made", "line", "word"]) (sc := (relS (lcSt s_Table_read 2) (defScope s_Table_read))) (by decide +kernel)) (fun _ _ _ _ _ => (pgN 6 nd)) (fun _ _ _ _ _ => pts_nil) (fun _ _ _ _ _ => (pe_fn F_number_of (hr.mono (by decide)) rfl (pa_cons (pv 6) pa_nil)))) pa_nil))))
    (pss_cons (ps_if (pt_not (pt_val (pe_fn F_are_rows (hr.mono (by decide)) rfl (pa_cons (pv 3) (pa_cons (pv 1) pa_nil))))) (pss_one ps_never) pss_nil)
    (pss_cons (ps_set (i := 4) nd rfl (by first | exact Or.inl rfl | exact Or.inr rfl) (pe_makeSL (i := 0) M_init F_init (hr.mono (by decide)) pass0 (pa_cons (pv 1) (StX.pa_star (pv 3) pa_nil))))
    (pss_cons (ps_if (pt_cmpR (neDK K (h64 hr)) (pe_meK0 (pl := _) (pv 4) W.c_Table F_textT (hr.mono (by decide)) pass0) (pv 2) (nomark _)) (pss_one ps_never) pss_nil)
    (pss_one (ps_ret (pv 4))))))))), ?_⟩
  show tSeq _ _ _ [some (.ref Y.aT), some (.int ((1 : Nat) : Int)), some (.str T7), none, none, none, none] H
  refine q_drop (d := .none) (d_call (R := R_needw) (a_cons (d_var rfl (.int _)) a_nil) ⟨1, rfl, by decide, by decide, rfl⟩) eG fun G1 H1 g1 => ?_
  refine q_pass (b := (!true) || ((!PyData.eqv (.str T7) (.str "")) && (!Txt.endswith T7 "\n"))) (by rw [T7_ne, T7_ends]; rfl) (b_or (b_not (b_B (d_isi "str" (d_var rfl (.str _)) v_c (by decide +kernel)))) fun _ =>
      b_and (b_test (d_op (d_var rfl (.str _)) d_str (r_ne T7_shaped (by decide +kernel)))) fun _ => b_not (b_B (d_m1 (d_var rfl (.str _)) d_str m_ends))) g1.gh fun G2 H2 g2 => ?_
  have hs := m_split (a := T7) (b := "\n") (te := tVar 2) (ta := tC (.str "\n")) (σ := [some (.ref Y.aT), some (.int ((1 : Nat) : Int)), some (.str T7), none, none, none, none]) (G := G2) (d_var rfl (.str _)) d_str (by decide +kernel) (by rw [T7_len]; decide)
  rw [T7_split] at hs
  have hc := m_slL (K := K) hs.toD o_none (o_some d_neg1)
  rw [cut7] at hc
  have inner : ∀ {σ : VSt} {G' : Hp}, σ[5]? = some (some (.str "7")) → (∀ u, ((wipe σ [6]).set 6 (some u))[6]? = some (some u) ∧ wipe ((wipe σ [6]).set 6 (some u)) [6] = wipe σ [6]) →
      EvD (tLc (iList K (tM1 rSplit (tVar 5) (tC (.str " ")))) (gName 6) tYes (tCall (spR R_num) [] E0 (tCons (tVar 6) tNil)) [6]) σ G' (.list ([7].map I1)) := fun {σ G'} hv hss => by
    have sp := m_split (a := "7") (b := " ") (te := tVar 5) (ta := tC (.str " ")) (σ := σ) (G := G') (d_var hv (.str _)) d_str (by decide +kernel) (by decide +kernel)
    rw [seven_split] at sp
    have c := m_lcL (K := K) (σ := σ) (G := G') (tl := tM1 rSplit (tVar 5) (tC (.str " "))) (vs := [6]) (g := gName 6) (tt := tYes) (te := tCall (spR R_num) [] E0 (tCons (tVar 6) tNil)) (enc := PyData.str) (xs := [("7" : Str)]) (fun _ => true) (fun _ => I1 7) sp.toD (by decide)
      (fun y u G1 H1 hy e1 e2 hu Q q => q _ (hss u).2 (fun G1 H1 _ e2 Q q => q G1 H1 (Grow.refl e2)) fun _ => by
        have ey : y = "7" := List.mem_singleton.mp hy
        subst ey
        exact d_call (a_cons (d_var (hss u).1 hu) a_nil) ⟨rfl, rfl⟩)
    exact c.toD.is (by rfl)
  have outer := m_lcL (K := K) (σ := [some (.ref Y.aT), some (.int ((1 : Nat) : Int)), some (.str T7), none, none, none, none]) (G := G2) (vs := [5]) (g := gName 5) (tt := tYes) (enc := PyData.str) (xs := List.replicate 400 ("7" : Str)) (fun _ => true) (fun _ => RW [7]) hc.toD (by rw [List.length_replicate]; decide)
      (te := tCB (fun xs H Q => ∃ p ys, xs = [V.ref p] ∧ ((SqL K H p ys ∧ ∀ l, H l = none → Q (V.ref l) (upd H l (.tup ys))) ∨ (SqT K H p ys ∧ Q (V.ref p) H))) (tCons (tLc (iList K (tM1 rSplit (tVar 5) (tC (.str " ")))) (gName 6) tYes (tCall (spR R_num) [] E0 (tCons (tVar 6) tNil)) [6]) tNil))
      (fun y v G1 H1 hy e1 e2 hv Q q => q _ rfl (fun G1 H1 _ e2 Q q => q G1 H1 (Grow.refl e2)) fun _ => by
        have ey : y = "7" := List.eq_of_mem_replicate hy
        subst ey
        obtain rfl := hv.eqS
        exact d_tupL (inner rfl fun u => ⟨rfl, rfl⟩))
  rw [filt, List.map_replicate] at outer
  have o2 := outer.toD.is (d' := .list (rows7.map RW)) (by rw [List.map_replicate])
  refine q_asg o2 g2.gh fun v3 G3 H3 g3 hv3 => ?_
  show tSeq _ _ _ [some (.ref Y.aT), some (.int ((1 : Nat) : Int)), some (.str T7), some v3, none, none, none] H3
  refine q_pass (b := !true) rfl (b_not (b_B (d_call (a_cons (d_var rfl hv3) (a_cons (d_var rfl (.int _)) a_nil)) ⟨rows7, 1, rfl, good7, rfl⟩))) g3.gh fun G4 H4 g4 => ?_
  refine ⟨rfl, make_tableV (n := 1) (rows := rows7) (a_cons (d_var rfl (.int _)) (a_star (d_var rfl (hv3.up g4.g)))) good7 (by decide) (by decide) G4 H4 (Ex.refl _) g4.gh _ fun v5 G5 H5 g5 ht => ?_⟩
  have ht : TO Y.aT G5 v5 1 (rows7.map RW) := ht.resolve_left fun z => z rfl
  obtain ⟨p, dx, t, rfl, hp, hk⟩ := ht.ex
  show tSeq _ _ _ [some (.ref Y.aT), some (.int ((1 : Nat) : Int)), some (.str T7), some v3, some (.ref p), none, none] H5
  refine q_pass (b := !PyData.eqv (.str T7) (.str T7)) (by rw [eqv_str]; simp) (b_test (d_op (d_v (v_meth (v_var rfl) hp (flds_none (by decide +kernel) (by decide +kernel)) w_nil fun G' e => ⟨.ref p, rfl, ht.up e, rfl⟩) (.str _)) (d_var rfl (.str _)) (r_ne T7_shaped T7_shaped))) g5.gh fun G6 H6 g6 => ?_
  show tRet _ _ [some (.ref Y.aT), some (.int ((1 : Nat) : Int)), some (.str T7), some v3, some (.ref p), none, none] H6
  exact s_retV (v_var rfl) g6.gh fun G7 H7 g7 => k _ G7 H7 ((((((g1.trans g2).trans g3).trans g4).trans g5).trans g6).trans g7) (ht.up (g6.g.trans g7.g))
end
end CP
set_option Elab.async false
set_option linter.all false
set_option maxRecDepth 100000
set_option maxHeartbeats 4000000
namespace CP
open PySem L2 CL CM
section
variable {P : Program} {w : World} {K : PySem.W.Frag} {mg : Str → Option Value} {base : Heap} {Z : Ads} {Y : AdY}
/-! ### a column, or not -/
def P_colU : Hp → List V → V → Prop := fun G vs v => ∃ x, ∃ n : Nat, vs = [x, .int (n : Int)] ∧ ((∃ T, Odd G x T ∧ v = .bl false) ∨ ∃ i : Int, x = .int i ∧ v = .bl (decide (0 ≤ i) && decide (i ≤ (n : Int) - 1)))
theorem okU_is_column {f : Addr} {fd : FuncData} (F : Fun K "is_column" "is_column" s_is_column f fd) (T : Txt Z K mg) (O_is_between : Fn1 P w K mg base "is_between" 2 (spV P_betw)) (F_is_between : Fn1 P w K mg base "is_between" 2 (spR R_betw)) : FnOk P w K mg base CX0 3 f fd ["thing", "width"] (spV P_colU) := by
  refine F.ok sc_is_column (fun vs H Q E ⟨G, v, _, ⟨x, n, e, _⟩, _⟩ => by rw [e]; rfl) (fun cdv A outer s H vs Q E hr h => ?_)
  obtain ⟨G, v, eG, ⟨x, n, rfl, hx⟩, k⟩ := h
  have nd := sc_is_column.nd
  rcases hx with ⟨t, ho, rfl⟩ | ⟨i, rfl, rfl⟩
  · refine ⟨_, (pss_one (ps_ret (pe_fn O_is_between (hr.mono (by decide)) rfl (pa_cons (pv 0) (pa_cons pe_int (pa_cons (pe_op op_sub (pv 1) pe_int) pa_nil)))))), ?_⟩
    show tRet _ _ [some x, some (.int (n : Int))] H
    exact s_retV (v_call (vs := [x, .int 0, .int ((n : Int) - 1)]) (w_cons (v_var rfl) (w_cons v_c (w_cons (v_int (d_op (d_var rfl (.int _)) d_int r_I0)) w_nil))) fun G' e => ⟨x, t, 0, _, rfl, ho.up e, by decide, rfl⟩) eG k
  · refine ⟨_, (pss_one (ps_ret (pe_fn F_is_between (hr.mono (by decide)) rfl (pa_cons (pv 0) (pa_cons pe_int (pa_cons (pe_op op_sub (pv 1) pe_int) pa_nil)))))), ?_⟩
    show tRet _ _ [some (.int i), some (.int (n : Int))] H
    refine s_ret (d := .bool (decide ((0 : Int) ≤ i) && decide (i ≤ (n : Int) - 1))) (d_call (a_cons (d_var rfl (.int _)) (a_cons d_int (a_cons (d_op (d_var rfl (.int _)) d_int r_I0) a_nil))) ⟨i, 0, (n : Int) - 1, rfl, rfl⟩) eG fun v G2 H2 g hv => ?_
    rw [hv.eqB]
    exact k G2 H2 g
/-! ### walk -/
theorem sc_walk : FnScope ["rules", "a", "b"] ["rules", "a", "b"] (defScope s_walk) := ⟨rfl, rfl, rfl, by decide +kernel, rfl, by decide +kernel, by decide +kernel⟩
def P_walk (Z : Ads) : Hp → List V → Prop := fun G vs => ∃ (x a b : V) (ds : List PyData), vs = [x, a, b] ∧ TO Z.aR G x 2 ds ∧ ((a = .int 0 ∧ ∃ T, Odd G b T) ∨ (a = .int 2 ∧ b = .int 0))
theorem okX_walk {f : Addr} {fd : FuncData} (F : Fun K "walk" "walk" s_walk f fd) (T : Txt Z K mg) (V : TxtV Y K mg) (W : TxtW Z Y K) (O_need_rules : Fn1 P w K mg base "need_rules" 1 (spV (P_isRules Z))) (U_is_column : Fn1 P w K mg base "is_column" 3 (spV P_colU)) (Pr_Rules_width : PrOk P w K mg base Z.aR "width" "columns") :
    FnOk P w K mg base (L2.CX P w) 4 f fd ["rules", "a", "b"] (spX (P_walk Z) (Y.ex 5)) := by
  refine F.okX sc_walk (fun vs H Q E ⟨G, _, ⟨x, a, b, ds, e, _⟩, _⟩ => by rw [e]; rfl) (fun cdv A outer s H vs Q E hr h => ?_)
  obtain ⟨G, eG, ⟨x, a, b, ds, rfl, hx, hab⟩, xr⟩ := h
  obtain ⟨p, dx, t, rfl, hp, _⟩ := hx.ex
  have nd := sc_walk.nd
  refine ⟨_, (pss_cons (ps_expr (pe_fn O_need_rules (hr.mono (by decide)) rfl (pa_cons (pv 0) pa_nil)))
    (pss_cons (ps_if (PW.pt (pw_or (pt_not (pt_val (pe_fn U_is_column (hr.mono (by decide)) rfl (pa_cons (pv 1) (pa_cons (pe_prK (pv 0) W.c_Rules Pr_Rules_width (hr.mono (by decide))) pa_nil))))) (pw_or1 (pt_not (pt_val (pe_fn U_is_column (hr.mono (by decide)) rfl (pa_cons (pv 2) (pa_cons (pe_prK (pv 0) W.c_Rules Pr_Rules_width (hr.mono (by decide))) pa_nil)))))))) (pss_one (ps_exc rfl (takes_of rfl rfl rfl rfl) V.NoColumn rfl)) pss_nil)
    (pss_one ps_never))), ?_⟩
  show tSeq _ _ _ (start ["rules", "a", "b"] [.ref p, a, b]) H
  refine q_dropV (v_call (vs := [.ref p]) (w_cons (v_var rfl) w_nil) fun G' e => ⟨.ref p, 2, ds, rfl, hx.up e, rfl⟩) eG fun G1 H1 g1 => ?_
  have wd : ∀ {G'}, Ex G1 G' → EvV (tProp Z.aR (getSp Z.aR "columns") [] E0 (tVar 0)) (start ["rules", "a", "b"] [.ref p, a, b]) G' (.int ((2 : Nat) : Int)) := fun e => v_pr (v_var rfl) (e _ _ (g1.g _ _ hp)) (flds_columns 2 t)
  rcases hab with ⟨rfl, T, ho⟩ | ⟨rfl, rfl⟩
  · exact q_raise (b := (!true) || (!false)) rfl (b_or (b_not (b_B (d_v (v_call (vs := [.int 0, .int ((2 : Nat) : Int)]) (w_cons (v_var rfl) (w_cons (wd (Ex.refl _)) w_nil)) fun G' e => ⟨.int 0, 2, rfl, .inr ⟨0, rfl, rfl⟩⟩) (.bl _)))) fun _ =>
      b_not (b_B (d_v (v_call (vs := [b, .int ((2 : Nat) : Int)]) (w_cons (v_var rfl) (w_cons (wd (Ex.refl _)) w_nil)) fun G' e => ⟨b, 2, rfl, .inl ⟨T, ho.up (g1.g.trans e), rfl⟩⟩) (.bl _)))) g1.gh fun G2 H2 g => (xr.up (g1.trans g)).now g.gh
  · exact q_raise (b := (!false) || (!true)) rfl (b_or (b_not (b_B (d_v (v_call (vs := [.int 2, .int ((2 : Nat) : Int)]) (w_cons (v_var rfl) (w_cons (wd (Ex.refl _)) w_nil)) fun G' e => ⟨.int 2, 2, rfl, .inr ⟨2, rfl, rfl⟩⟩) (.bl _)))) fun z => absurd z (by decide)) g1.gh fun G2 H2 g => (xr.up (g1.trans g)).now g.gh
/-! ### what asks for rules first -/
def P_odd1 : Hp → List V → Prop := fun G vs => ∃ (x : V) (T : String), vs = [x] ∧ Odd G x T
theorem sc_groups : FnScope ["rules"] ["rules"] (defScope s_groups) := ⟨rfl, rfl, rfl, by decide +kernel, rfl, by decide +kernel, by decide +kernel⟩
theorem sc_model : FnScope ["rules", "rows"] ["rules"] (defScope s_model) := ⟨rfl, rfl, rfl, by decide +kernel, rfl, by decide +kernel, by decide +kernel⟩
theorem sc_least : FnScope ["rules", "kept", "rule", "rest", "other"] ["rules"] (defScope s_least) := ⟨rfl, rfl, rfl, by decide +kernel, rfl, by decide +kernel, by decide +kernel⟩
theorem okX_groups {f : Addr} {fd : FuncData} (F : Fun K "groups" "groups" s_groups f fd) (X_need_rules : FnX P w K mg base "need_rules" 1 (spX (P_needrulesX Y) (Y.ex 9))) : FnOk P w K mg base (L2.CX P w) 2 f fd ["rules"] (spX P_odd1 (Y.ex 9)) := by
  refine F.okX sc_groups (fun vs H Q E ⟨G, _, ⟨x, t, e, _⟩, _⟩ => by rw [e]; rfl) (fun cdv A outer s H vs Q E hr h => ?_)
  obtain ⟨G, eG, ⟨x, t, rfl, ho⟩, xr⟩ := h
  have nd := sc_groups.nd
  refine ⟨_, (pss_cons (ps_expr (pe_fx X_need_rules (hr.mono (by decide)) (passB (takes_of rfl rfl rfl rfl)) rfl (pa_cons (pv 0) pa_nil)))
    (pss_one ps_never)), ?_⟩
  show tSeq _ _ _ (start ["rules"] [x]) H
  exact q_x (x_call (vs := [x]) (w_cons (v_var rfl) w_nil) fun G' e => ⟨x, rfl, .inl ⟨t, ho.up e⟩⟩) eG xr
theorem okX_model {f : Addr} {fd : FuncData} (F : Fun K "model" "model" s_model f fd) (X_need_rules : FnX P w K mg base "need_rules" 1 (spX (P_needrulesX Y) (Y.ex 9))) : FnOk P w K mg base (L2.CX P w) 2 f fd ["rules"] (spX P_odd1 (Y.ex 9)) := by
  refine F.okX sc_model (fun vs H Q E ⟨G, _, ⟨x, t, e, _⟩, _⟩ => by rw [e]; rfl) (fun cdv A outer s H vs Q E hr h => ?_)
  obtain ⟨G, eG, ⟨x, t, rfl, ho⟩, xr⟩ := h
  have nd := sc_model.nd
  refine ⟨_, (pss_cons (ps_expr (pe_fx X_need_rules (hr.mono (by decide)) (passB (takes_of rfl rfl rfl rfl)) rfl (pa_cons (pv 0) pa_nil)))
    (pss_cons ps_never
    (pss_one ps_never))), ?_⟩
  show tSeq _ _ _ (start ["rules", "rows"] [x]) H
  exact q_x (x_call (vs := [x]) (w_cons (v_var rfl) w_nil) fun G' e => ⟨x, rfl, .inl ⟨t, ho.up e⟩⟩) eG xr
theorem okX_least {f : Addr} {fd : FuncData} (F : Fun K "least" "least" s_least f fd) (X_need_rules : FnX P w K mg base "need_rules" 1 (spX (P_needrulesX Y) (Y.ex 9))) : FnOk P w K mg base (L2.CX P w) 2 f fd ["rules"] (spX P_odd1 (Y.ex 9)) := by
  refine F.okX sc_least (fun vs H Q E ⟨G, _, ⟨x, t, e, _⟩, _⟩ => by rw [e]; rfl) (fun cdv A outer s H vs Q E hr h => ?_)
  obtain ⟨G, eG, ⟨x, t, rfl, ho⟩, xr⟩ := h
  have nd := sc_least.nd
  refine ⟨_, (pss_cons (ps_expr (pe_fx X_need_rules (hr.mono (by decide)) (passB (takes_of rfl rfl rfl rfl)) rfl (pa_cons (pv 0) pa_nil)))
    (pss_cons ps_never
    (pss_cons ps_never
    (pss_one ps_never)))), ?_⟩
  show tSeq _ _ _ (start ["rules", "kept", "rule", "rest", "other"] [x]) H
  exact q_x (x_call (vs := [x]) (w_cons (v_var rfl) w_nil) fun G' e => ⟨x, rfl, .inl ⟨t, ho.up e⟩⟩) eG xr
/-! ### verdict, shows_verdict -/
theorem sc_verdict : FnScope ["rules", "rule", "kind", "a", "b", "way", "at"] ["rules", "rule"] (defScope s_verdict) := ⟨rfl, rfl, rfl, by decide +kernel, rfl, by decide +kernel, by decide +kernel⟩
theorem sc_shows_verdict : FnScope ["rules", "rule", "thing"] ["rules", "rule", "thing"] (defScope s_shows_verdict) := ⟨rfl, rfl, rfl, by decide +kernel, rfl, by decide +kernel, by decide +kernel⟩
def P_verd (Z : Ads) : Hp → List V → Prop := fun G vs => ∃ (x y : V) (r : List V) (ds : List PyData), vs = x :: y :: r ∧ TO Z.aR G x 2 ds ∧ P_norule G y 2
def P_verd2 (Z : Ads) : Hp → List V → Prop := fun G vs => vs.length = 2 ∧ P_verd Z G vs
def P_verd3 (Z : Ads) : Hp → List V → Prop := fun G vs => vs.length = 3 ∧ P_verd Z G vs
theorem okX_verdict {f : Addr} {fd : FuncData} (F : Fun K "verdict" "verdict" s_verdict f fd) (W : TxtW Z Y K) (O_need_rules : Fn1 P w K mg base "need_rules" 1 (spV (P_isRules Z))) (X_need_rule : FnX P w K mg base "need_rule" 5 (spX P_needrule (Y.ex 4))) (Pr_Rules_width : PrOk P w K mg base Z.aR "width" "columns") :
    FnOk P w K mg base (L2.CX P w) 6 f fd ["rules", "rule"] (spX (P_verd2 Z) (Y.ex 4)) := by
  refine F.okX sc_verdict (fun vs H Q E ⟨G, _, ⟨h, _⟩, _⟩ => h) (fun cdv A outer s H vs Q E hr h => ?_)
  obtain ⟨G, eG, ⟨hl, x, y, r, ds, rfl, hx, hy⟩, xr⟩ := h
  obtain rfl : r = [] := List.eq_nil_of_length_eq_zero (by simpa using hl)
  obtain ⟨p, dx, t, rfl, hp, _⟩ := hx.ex
  have nd := sc_verdict.nd
  refine ⟨_, (pss_cons (ps_expr (pe_fn O_need_rules (hr.mono (by decide)) rfl (pa_cons (pv 0) pa_nil)))
    (pss_cons (ps_expr (pe_fx X_need_rule (hr.mono (by decide)) (passB (takes_of rfl rfl rfl rfl)) rfl (pa_cons (pv 1) (pa_cons (pe_prK (pv 0) W.c_Rules Pr_Rules_width (hr.mono (by decide))) pa_nil))))
    (pss_cons ps_never
    (pss_cons ps_never
    (pss_cons ps_never
    (pss_one ps_never)))))), ?_⟩
  show tSeq _ _ _ (start ["rules", "rule", "kind", "a", "b", "way", "at"] [.ref p, y]) H
  refine q_dropV (v_call (vs := [.ref p]) (w_cons (v_var rfl) w_nil) fun G' e => ⟨.ref p, 2, ds, rfl, hx.up e, rfl⟩) eG fun G1 H1 g1 => ?_
  exact q_x (x_call (vs := [y, .int ((2 : Nat) : Int)]) (w_cons (v_var rfl) (w_cons (v_pr (v_var rfl) (g1.g _ _ hp) (flds_columns 2 t)) w_nil)) fun G' e => ⟨y, 2, rfl, hy.up (g1.g.trans e)⟩) g1.gh (xr.up g1)
theorem okX_shows {f : Addr} {fd : FuncData} (F : Fun K "shows_verdict" "shows_verdict" s_shows_verdict f fd) (W : TxtW Z Y K) (O_need_rules : Fn1 P w K mg base "need_rules" 1 (spV (P_isRules Z))) (X_need_rule : FnX P w K mg base "need_rule" 5 (spX P_needrule (Y.ex 4))) (Pr_Rules_width : PrOk P w K mg base Z.aR "width" "columns") :
    FnOk P w K mg base (L2.CX P w) 6 f fd ["rules", "rule", "thing"] (spX (P_verd3 Z) (Y.ex 4)) := by
  refine F.okX sc_shows_verdict (fun vs H Q E ⟨G, _, ⟨h, _⟩, _⟩ => h) (fun cdv A outer s H vs Q E hr h => ?_)
  obtain ⟨G, eG, ⟨hl, x, y, r, ds, rfl, hx, hy⟩, xr⟩ := h
  obtain ⟨z, rfl⟩ : ∃ z, r = [z] := by
    match r, hl with
    | [z], _ => exact ⟨z, rfl⟩
  obtain ⟨p, dx, t, rfl, hp, _⟩ := hx.ex
  have nd := sc_shows_verdict.nd
  refine ⟨_, (pss_cons (ps_expr (pe_fn O_need_rules (hr.mono (by decide)) rfl (pa_cons (pv 0) pa_nil)))
    (pss_cons (ps_expr (pe_fx X_need_rule (hr.mono (by decide)) (passB (takes_of rfl rfl rfl rfl)) rfl (pa_cons (pv 1) (pa_cons (pe_prK (pv 0) W.c_Rules Pr_Rules_width (hr.mono (by decide))) pa_nil))))
    (pss_cons ps_never
    (pss_cons ps_never
    (pss_one ps_never))))), ?_⟩
  show tSeq _ _ _ (start ["rules", "rule", "thing"] [.ref p, y, z]) H
  refine q_dropV (v_call (vs := [.ref p]) (w_cons (v_var rfl) w_nil) fun G' e => ⟨.ref p, 2, ds, rfl, hx.up e, rfl⟩) eG fun G1 H1 g1 => ?_
  exact q_x (x_call (vs := [y, .int ((2 : Nat) : Int)]) (w_cons (v_var rfl) (w_cons (v_pr (v_var rfl) (g1.g _ _ hp) (flds_columns 2 t)) w_nil)) fun G' e => ⟨y, 2, rfl, hy.up (g1.g.trans e)⟩) g1.gh (xr.up g1)
/-! ### following, a generator that raises at once -/
def spFollX (Y : AdY) : SpG := fun vs H _ E => ∃ (G : Hp) (x : V) (T : String), vs = [x] ∧ Ex G H ∧ Odd G x T ∧ XR (Y.ex 9) G H E
theorem gsc_following : GScope ["rules", "rule"] ["rules"] (defScope s_following) := ⟨rfl, rfl, rfl, by decide +kernel, rfl, by decide +kernel, by decide +kernel⟩
theorem gokX_following {f : Addr} {fd : FuncData} (F : Fun K "following" "following" s_following f fd) (X_need_rules : FnX P w K mg base "need_rules" 1 (spX (P_needrulesX Y) (Y.ex 9))) : GFn P w K mg base 2 f fd ["rules"] (spFollX Y) := by
  obtain ⟨oc, od, kV, doc, pm, an, cdv, ct, osl, rfl, lk, hcd⟩ := F.ex
  refine gfn_of lk hcd gsc_following (fun vs H Q E ⟨G, x, t, e, _⟩ => by rw [e]; rfl) (fun A outer s H vs Q E pn hr h => ?_)
  obtain ⟨G, x, t, rfl, eG, ho, xr⟩ := h
  refine ⟨_, gss_cons (gs_ps (ps_expr (pe_fx X_need_rules hr (passB takes_gcx) rfl (pa_cons (pv 0) pa_nil)))) (gss_cons (gs_ps ps_never) gss_nil), ?_⟩
  exact x_drop (D := _) (σ := [some x, none]) (x_call (vs := [x]) (w_cons (v_var rfl) w_nil) fun G' e => ⟨x, rfl, .inl ⟨t, ho.up e⟩⟩) eG xr
structure GnOk (P : Program) (w : World) (K : PySem.W.Frag) (mg : Str → Option Value) (base : Heap) (x : Str) (k : Nat) (sp : SpG) : Prop where
  ex : ∃ (f : Addr) (fd : FuncData) (ps : List Str), GFn P w K mg base k f fd ps sp ∧ mg x = some (.ref f) ∧ PySem.W.keepIn K (.ref f) = true ∧ Binds K fd ps []
/-- only C, and what E wants -/
def onlyC (C : Addr) (E : XK) : XK := fun c d H => c = .ref C ∧ E c d H
theorem pe_listX {X : Cx} {E : XK} {x : Str} {p p2 pos pos2 : Pos} {e : Expr} {t : TA} {C : Addr} {k : Nat} {sp : SpG} (F : GnOk X.prog X.w X.K X.mg X.base x k sp) (hr : Room (k + 3) X.A) (hx : ∀ E' : XK, (∀ c d H, E' c d H → E c d H) → Passes (L2.CX X.prog X.w) X E') (hns : PySem.W.subIn X.K (.ref C) (.type "StopIteration") = some false) (hg : Gl X x) (hgl : Gl X "list") (hml : X.mg "list" = none) (ha : PA X [e] t)
    (hdb : (x == ("__debug__" : Str)) = false := by decide) (he : starEach [e] X.env = (false, eval e X.env) :: starEach [] X.env := by rfl) (hpl : (backTo pos (starEach [] X.env)).any (·.1) = false := by rfl)
    (he2 : starEach [.Call (.Name x p) [e] [] pos] X.env = (false, eval (.Call (.Name x p) [e] [] pos) X.env) :: starEach [] X.env := by rfl) :
    PE X (.Call (.Name "list" p2) [.Call (.Name x p) [e] [] pos] [] pos2) (tListG (tCallG sp [] (onlyC C E) t)) := by
  obtain ⟨f, fd, ps, F, hm, hk, hb⟩ := F.ex
  exact pe_listG (pgen_call (E := onlyC C E) F (hr.mono (by omega)) hg hm hk hb .nil ha hdb he hpl) (hx _ fun c d H z => z.2) (fun cls d H z => by rw [z.1]; exact hns) hr hgl hml (by decide +kernel) (by decide) (by decide) he2
theorem x_listF {σ : VSt} {G : Hp} {i : Nat} {x : V} {T : String} {E : XK} (hi : σ[i]? = some (some x)) (ho : Odd G x T) : EvX (tListG (tCallG (spFollX Y) [] (onlyC (Y.ex 9) E) (tCons (tVar i) tNil))) σ G (Y.ex 9) E := fun G1 H1 e1 e2 xr Q =>
  ⟨x, hi, G1, x, T, rfl, e2, ho.up e1, fun G2 H2 g => ⟨rfl, xr G2 H2 g⟩⟩
end
end CP
set_option Elab.async false
set_option linter.all false
set_option maxRecDepth 100000
set_option maxHeartbeats 4000000
namespace CL
open PySem L2 CM
section
variable {σ : VSt} {G H : Hp} {ta tb te : TE} {d : PyData} {D : Ends} {tz : TS} {l : Addr} {ds : List PyData} {K : PySem.W.Frag}
theorem c_max2 {i j : Int} : RcD (fun xs H Q => ∃ i j, xs = [V.int i, V.int j] ∧ Q (V.int (if j > i then j else i)) H) [.int i, .int j] (.int (if j > i then j else i)) := fun G1 H1 e1 xs hx Q q => by
  have e := DDs.ints (ns := [i, j]) hx
  subst e
  exact ⟨i, j, rfl, q _ G1 H1 (Grow.refl e1) (.int _)⟩
theorem c_min2 {i j : Int} : RcD (fun xs H Q => ∃ i j, xs = [V.int i, V.int j] ∧ Q (V.int (if j < i then j else i)) H) [.int i, .int j] (.int (if j < i then j else i)) := fun G1 H1 e1 xs hx Q q => by
  have e := DDs.ints (ns := [i, j]) hx
  subst e
  exact ⟨i, j, rfl, q _ G1 H1 (Grow.refl e1) (.int _)⟩
theorem s_retM (h : EvM te σ G ds) (e : Ex G H) (k : ∀ p G2 H2, H p = none → Grow M0 G H G2 H2 → ML G2 H2 p ds → D.rt (.ref p) H2) : tRet te D σ H := h G H (Ex.refl G) e _ k
/-- te reads a list that may change, and gives the value v -/
theorem go_frz {v : V} {Q : VK} (m : ML G H l ds) (e : Ex G H) (h : ∀ G3, Ex G G3 → DD G3 (.ref l) (.list ds) → EvD te σ G3 d) (hv : ∀ G x, DD G x d → x = v) (k : ∀ H2, Grow M0 G H G H2 → Q v H2) : te σ H Q := by
  obtain ⟨G3, e1, e2, hd⟩ := m.frz e
  exact (h G3 e1 hd).go e2 fun v' G4 H4 g4 hv' => (hv _ _ hv') ▸ k H4 (g4.drop e1 e2)
theorem q_asgF {i : Nat} {v : V} (m : ML G H l ds) (e : Ex G H) (h : ∀ G3, Ex G G3 → DD G3 (.ref l) (.list ds) → EvD te σ G3 d) (hv : ∀ G x, DD G x d → x = v) (k : ∀ H2, Grow M0 G H G H2 → tz D (σ.set i (some v)) H2) : tSeq (tAsg te (gName i)) tz D σ H := go_frz (Q := fun v H2 => tz D (σ.set i (some v)) H2) m e h hv k
theorem DDs.set {G : Hp} : ∀ {vs : List V} {ds : List PyData} (j : Nat) {v : V} {d : PyData}, DDs G vs ds → DD G v d → DDs G (vs.set j v) (ds.set j d)
  | _, [], j, _, _, h, _ => by cases h; exact .nil
  | _, d :: ds, 0, _, _, h, k => by cases h with | cons h1 h2 => exact .cons k h2
  | _, d :: ds, j + 1, _, _, h, k => by cases h with | cons h1 h2 => exact .cons h1 (DDs.set j h2 k)
/-- l[k] = te, te reads l -/
theorem q_subF {i : Nat} {k : Int} {j : Nat} {v : V} (hi : σ[i]? = some (some (.ref l))) (m : ML G H l ds) (e : Ex G H) (h : ∀ G3, Ex G G3 → DD G3 (.ref l) (.list ds) → EvD te σ G3 d) (hv : ∀ G x, DD G x d → x = v) (hd : ∀ G, DD G v d) (hj : ixN ds.length k = some j)
    (kk : ∀ H2, Grow (Ms l) G H G H2 → Ex G H2 → ML G H2 l (ds.set j d) → tz D σ H2) : tSeq (tAsg te (gSub (tVar i) (tC (.int k)) L2.rSetL)) tz D σ H := by
  show te σ H fun v H1 => gSub (tVar i) (tC (.int k)) L2.rSetL v σ H1 fun σ2 H2 => tz D σ2 H2
  refine go_frz m e h hv fun H2 g2 => ?_
  have m2 := m.grow0 g2
  obtain ⟨g0, xs, hx, dx⟩ := id m2
  obtain ⟨g3, m3⟩ := m2.set (xs := xs.set j v) g2.gh (dx.set j (hd G))
  exact ⟨_, hi, l, xs, k, j, rfl, rfl, hx, by rw [dx.length]; exact hj, kk _ (g2.of0.trans g3) g3.gh m3⟩
end
end CL
namespace CP
open PySem L2 CL CM
section
variable {P : Program} {w : World} {K : PySem.W.Frag} {mg : Str → Option Value} {base : Heap} {Z : Ads}
/-- the script: a list of whole numbers that nobody changes -/
theorem sq_up {G H : Hp} {a : Addr} {xs : List V} (h : SqL K G a xs) (e : Ex G H) : SqL K H a xs := h.imp (fun r => up_rd r e) id
theorem d_lenQ {σ : VSt} {G : Hp} {a : Addr} {xs : List V} {i : Nat} (h : SqL K G a xs) (hi : σ[i]? = some (some (.ref a))) : EvD (tCB (CL.rLen K) (tCons (tVar i) tNil)) σ G (.int (xs.length : Int)) := .mk fun G1 H1 e1 e2 Q q =>
  ⟨_, hi, _, _, rfl, .inl ⟨xs, sq_up h (e1.trans e2), rfl⟩, q _ G1 H1 (Grow.refl e2) (.int _)⟩
def spCell (K : PySem.W.Frag) : Sp := fun vs H Q _ => ∃ (G : Hp) (a : Addr) (cs : List Int) (i : Nat), vs = [.ref a, .int (i : Int)] ∧ Ex G H ∧ SqL K G a (cs.map V.int) ∧ ∀ (c : Int) G2 H2, Grow M0 G H G2 H2 → Q (.int c) H2
theorem sc_law_cell : FnScope ["_law_script", "_law_index"] ["_law_script", "_law_index"] (defScope s_law_cell) := ⟨rfl, rfl, rfl, by decide +kernel, rfl, by decide +kernel, by decide +kernel⟩
theorem ok_law_cell {f : Addr} {fd : FuncData} (F : Fun K "_law_cell" "_law_cell" s_law_cell f fd) (T : Txt Z K mg) : FnOk P w K mg base CX0 1 f fd ["_law_script", "_law_index"] (spCell K) := by
  refine F.ok sc_law_cell (fun vs H Q E ⟨G, a, cs, i, e, _⟩ => by rw [e]; rfl) (fun cdv A outer s H vs Q E hr h => ?_)
  obtain ⟨G, a, cs, i, rfl, eG, ha, k⟩ := h
  have nd := sc_law_cell.nd
  refine ⟨_, (pss_cons (ps_if (pt_cmpR op_lt (pv 1) (pe_callB (crLenK K) (by rfl) T.b_len (by decide +kernel) (pa_cons (pv 0) pa_nil)) (nomark _)) (pss_one (ps_ret (pe_ix (ix_seqK K) (pv 0) (pv 1) (fun _ _ => rfl)))) pss_nil)
    (pss_one (ps_ret pe_int))), ?_⟩
  show tSeq _ _ _ [some (.ref a), some (.int (i : Int))] H
  refine q_when (b_test (d_op (d_var (σ := [some (.ref a), some (.int (i : Int))]) (i := 1) rfl (.int _)) (d_lenQ ha rfl) r_B0)) eG (fun hb G2 H2 g2 => ?_) fun hb G2 H2 g2 => ?_
  · have hi : i < cs.length := by
      have := of_decide_eq_true hb
      rw [List.length_map] at this
      omega
    exact ⟨_, rfl, _, rfl, .inl ⟨a, _, (i : Int), .int cs[i], rfl, rfl, sq_up ha (g2.g.trans g2.gh), atI_at (by rw [List.getElem?_map, List.getElem?_eq_getElem hi]; rfl), k _ G2 H2 g2⟩⟩
  · exact s_ret d_int g2.gh fun v G3 H3 g3 hv => by
      rw [hv.eqI]
      exact k _ G3 H3 (g2.trans g3)
def spSrc : Sp := fun vs H Q _ => ∃ (G : Hp) (c : Int), vs = [.int c] ∧ Ex G H ∧ ∀ p G2 H2, H p = none → Grow M0 G H G2 H2 → Src G2 H2 p → Q (.ref p) H2
theorem sc_law_source : FnScope ["_law_cell_here"] ["_law_cell_here"] (defScope s_law_source) := ⟨rfl, rfl, rfl, by decide +kernel, rfl, by decide +kernel, by decide +kernel⟩
theorem ok_law_source {f : Addr} {fd : FuncData} (F : Fun K "_law_source" "_law_source" s_law_source f fd) (T : Txt Z K mg) : FnOk P w K mg base CX0 1 f fd ["_law_cell_here"] spSrc := by
  refine F.ok sc_law_source (fun vs H Q E ⟨G, c, e, _⟩ => by rw [e]; rfl) (fun cdv A outer s H vs Q E hr h => ?_)
  obtain ⟨G, c, rfl, eG, k⟩ := h
  have nd := sc_law_source.nd
  refine ⟨_, (pss_one (ps_ret (pe_lst (pa_cons (pe_callB (call_max2 rfl) (by rfl) T.b_max (by decide +kernel) (pa_cons pe_int (pa_cons (pe_op op_sub (pv 0) (pe_op op_pow pe_int pe_int)) pa_nil))) (pa_cons (pe_op op_add (pe_op op_mod (pv 0) pe_int) pe_int) (pa_cons pe_int pa_nil)))))), ?_⟩
  show tRet _ _ [some (.int c)] H
  have hc : ∀ {G}, EvD (tVar 0) [some (V.int c)] G (.int c) := d_var rfl (.int c)
  have h1 : EvD (tOp (rI CPow fun i j => .int (i ^ j.toNat)) (tC (.int 10)) (tC (.int 18))) [some (V.int c)] G (.int (10 ^ 18)) := d_op d_int d_int (r_I (i := 10) (j := 18) (by show CPow 10 18; exact ⟨by decide, by decide, by decide⟩))
  have h2 : EvD (tOp (rI (fun _ j => 0 < j) fun i j => .int (i % j)) (tVar 0) (tC (.int 2147483629))) [some (V.int c)] G (.int (c % 2147483629)) := d_op hc d_int (r_I (j := 2147483629) (by show (0 : Int) < 2147483629; decide))
  refine s_retM (ds := [.int _, .int _, .int _]) (m_lst (a_cons (d_cb (a_cons d_int (a_cons (d_op hc h1 r_I0) a_nil)) c_max2) (a_cons (d_op h2 d_int r_I0) (a_cons d_int a_nil))) (by show 3 ≤ 100000; decide)) eG fun p G2 H2 hp g m => k p G2 H2 hp g (Src.ofML m)
def R_draw : List PyData → (PyData → Prop) → Prop := fun ds S => ∃ (n : Nat), ds = [I1 n] ∧ 0 < n ∧ n ≤ 200000 ∧ S = fun d => ∃ m, m < n ∧ d = I1 m
theorem modI1 {i : Int} {n : Nat} (h : 0 < n) : ∃ m, m < n ∧ (PyData.int (i % (n : Int))) = I1 m := by
  refine ⟨(i % (n : Int)).toNat, ?_, ?_⟩
  · have := Int.emod_nonneg i (b := (n : Int)) (by omega)
    have := Int.emod_lt_of_pos i (b := (n : Int)) (by omega)
    omega
  · have := Int.emod_nonneg i (b := (n : Int)) (by omega)
    show PyData.int _ = PyData.int _
    congr 1
    omega
theorem mul_mod_ok (i k j : Int) (hk : 0 < k) (h : k ≤ 2 ^ 32) : CMul (i % k) j := by
  have := Int.emod_nonneg i (b := k) (by omega)
  have := Int.emod_lt_of_pos i (b := k) hk
  exact .inl ⟨by omega, by omega⟩
theorem sc_law_draw : FnScope ["_law_source_here", "_law_many", "_law_found", "_law_mixed"] ["_law_source_here", "_law_many"] (defScope s_law_draw) := ⟨rfl, rfl, rfl, by decide +kernel, rfl, by decide +kernel, by decide +kernel⟩
theorem ok_law_draw {f : Addr} {fd : FuncData} (F : Fun K "_law_draw" "_law_draw" s_law_draw f fd) (T : Txt Z K mg) : FnOk P w K mg base CX0 1 f fd ["_law_source_here", "_law_many"] (spN R_draw) := by
  refine F.ok sc_law_draw (fun vs H Q E h => spN_len (n := 1) (fun ds S ⟨_, e, _⟩ => by rw [e]; rfl) h) (fun cdv A outer s H vs Q E hr h => ?_)
  obtain ⟨G, so, us, ds, S, rfl, ⟨n, rfl, hn, hn2, rfl⟩, eG, ms, hd, k⟩ := h
  obtain ⟨v1, r, rfl, h1, hd⟩ := hd.inv
  obtain rfl := hd.inv0
  obtain rfl := h1.eqI
  obtain ⟨a, b, c, ml⟩ := ms.ml
  have nd := sc_law_draw.nd
  have hdiv : CDivW a (n : Int) := ⟨by omega, by
    show n.log2 < 9000
    exact (Nat.log2_lt (by omega)).mpr (Nat.lt_of_le_of_lt hn2 (Nat.lt_of_lt_of_le (by decide : 200000 < 2 ^ 18) (Nat.pow_le_pow_right (by decide) (by decide))))⟩
  have ix : ∀ {o3 o4 : Option V} {ds : List PyData} {j : Int} {x : PyData} {G3 : Hp}, DD G3 (.ref so) (.list ds) → atI ds j = some x → EvD (tOp (rIx K) (tVar 0) (tC (.int j))) [some (V.ref so), some (.int (n : Int)), o3, o4] G3 x := fun hd hj => d_op (d_var rfl hd) d_int (r_ixL hj)
  refine ⟨_, (pss_cons (ps_if (pt_cmpR op_gt (pe_ix (ix_seqK K) (pv 0) pe_int (fun _ _ => rfl)) pe_int (nomark _)) (pss_cons (ps_set (i := 2) nd rfl (by first | exact Or.inl rfl | exact Or.inr rfl) (pe_op op_mod (pe_ix (ix_seqK K) (pv 0) pe_int (fun _ _ => rfl)) (pv 1)))
    (pss_cons (ps_asg (pe_op op_fdivW (pe_ix (ix_seqK K) (pv 0) pe_int (fun _ _ => rfl)) (pv 1)) (pg_sub (pv 0) pe_int set_list))
    (pss_one (ps_ret (pv 2))))) pss_nil)
    (pss_cons (ps_asg (pe_op op_add (pe_ix (ix_seqK K) (pv 0) pe_int (fun _ _ => rfl)) pe_int) (pg_sub (pv 0) pe_int set_list))
    (pss_cons (ps_asg (pe_op op_mod (pe_op op_add (pe_op op_add (pe_op op_mul (pe_ix (ix_seqK K) (pv 0) pe_int (fun _ _ => rfl)) pe_int) (pe_op op_mul pe_int (pe_ix (ix_seqK K) (pv 0) pe_int (fun _ _ => rfl)))) pe_int) pe_int) (pg_sub (pv 0) pe_int set_list))
    (pss_cons (ps_set (i := 3) nd rfl (by first | exact Or.inl rfl | exact Or.inr rfl) (pe_op op_mod (pe_op op_add (pe_op op_add (pe_op op_mul (pe_ix (ix_seqK K) (pv 0) pe_int (fun _ _ => rfl)) (pe_ix (ix_seqK K) (pv 0) pe_int (fun _ _ => rfl))) (pe_op op_mul pe_int (pe_ix (ix_seqK K) (pv 0) pe_int (fun _ _ => rfl)))) pe_int) pe_int))
    (pss_cons (ps_set (i := 3) nd rfl (by first | exact Or.inl rfl | exact Or.inr rfl) (pe_op op_mod (pe_op op_add (pe_op op_mul (pv 3) (pv 3)) (pe_op op_mul pe_int (pv 3))) pe_int))
    (pss_one (ps_ret (pe_op op_mod (pe_op op_fdivW (pv 3) pe_int) (pv 1))))))))), ?_⟩
  show tSeq _ _ _ [some (.ref so), some (.int (n : Int)), none, none] H
  obtain ⟨G3, e1, e2, hl⟩ := ml.frz eG
  refine q_whenF (b_test (d_op (ix hl (x := .int a) rfl) d_int r_B0)) e1 e2 (fun hb H2 g2 => ?_) fun hb H2 g2 => ?_
  · refine q_asgF (d := .int (a % (n : Int))) (v := .int (a % (n : Int))) (ml.grow0 g2) g2.gh (fun G3 e1 hl => d_op (ix hl (x := .int a) rfl) (d_var rfl (.int _)) (r_I (by show (0 : Int) < n; omega))) (fun _ _ q => q.eqI) fun H3 g3 => ?_
    have g23 := g2.trans g3
    show tSeq _ _ _ [some (.ref so), some (.int (n : Int)), some (.int (a % (n : Int))), none] H3
    refine q_subF (d := .int (a / (n : Int))) (v := .int (a / (n : Int))) (k := 0) (j := 0) rfl (ml.grow0 g23) g23.gh (fun G3 e1 hl => d_op (ix hl (x := .int a) rfl) (d_var rfl (.int _)) (r_I hdiv)) (fun _ _ q => q.eqI) (fun _ => .int _) rfl fun H4 g4 e4 m4 => ?_
    obtain ⟨m, hm, em⟩ := modI1 (i := a) hn
    show tRet _ _ [some (.ref so), some (.int (n : Int)), some (.int (a % (n : Int))), none] H4
    exact s_ret (em ▸ d_var rfl (.int _)) e4 fun v G5 H5 g5 hv => k v _ G5 H5 ⟨m, hm, rfl⟩ ((g23.of0.trans g4).then0 g5) ((Src.ofML m4).grow0 g5) hv
  · show tSeq _ _ _ [some (.ref so), some (.int (n : Int)), none, none] H2
    refine q_subF (d := .int (c + 1)) (v := .int (c + 1)) (k := 2) (j := 2) rfl (ml.grow0 g2) g2.gh (fun G3 e1 hl => d_op (ix hl (x := .int c) rfl) d_int r_I0) (fun _ _ q => q.eqI) (fun _ => .int _) rfl fun H3 g3 e3 m3 => ?_
    have m3 : ML G H3 so [.int a, .int b, .int (c + 1)] := m3
    have g23 := g2.of0.trans g3
    refine q_subF (d := .int ((b * 48271 + 1009 * (c + 1) + 7) % 2147483647)) (v := .int ((b * 48271 + 1009 * (c + 1) + 7) % 2147483647)) (k := 1) (j := 1) rfl m3 e3
      (fun G3 e1 hl => d_op (d_op (d_op (d_op (ix hl (x := .int b) rfl) d_int (r_I (.inr (by decide)))) (d_op d_int (ix hl (x := .int (c + 1)) rfl) (r_I (.inl (by decide)))) r_I0) d_int r_I0) d_int (r_I (by decide))) (fun _ _ q => q.eqI) (fun _ => .int _) rfl fun H4 g4 e4 m4 => ?_
    generalize hB : b * 48271 + 1009 * (c + 1) + 7 = B at *
    have m4 : ML G H4 so [.int a, .int (B % 2147483647), .int (c + 1)] := m4
    have g24 := g23.trans g4
    refine q_asgF (d := .int (((B % 2147483647) * (B % 2147483647) + 69621 * (B % 2147483647) + 11) % 2147483629)) (v := .int (((B % 2147483647) * (B % 2147483647) + 69621 * (B % 2147483647) + 11) % 2147483629)) m4 e4
      (fun G3 e1 hl => d_op (d_op (d_op (d_op (ix hl (x := .int (B % 2147483647)) rfl) (ix hl (x := .int (B % 2147483647)) rfl) (r_I (mul_mod_ok _ _ _ (by decide) (by decide)))) (d_op d_int (ix hl (x := .int (B % 2147483647)) rfl) (r_I (.inl (by decide)))) r_I0) d_int r_I0) d_int (r_I (by decide))) (fun _ _ q => q.eqI) fun H5 g5 => ?_
    generalize hC : (B % 2147483647) * (B % 2147483647) + 69621 * (B % 2147483647) + 11 = C at *
    have v3 : ∀ {i : Int} {G}, EvD (tVar 3) [some (V.ref so), some (.int (n : Int)), none, some (.int i)] G (.int i) := fun {i G} => d_var rfl (.int i)
    refine q_asg (d := .int (((C % 2147483629) * (C % 2147483629) + 40014 * (C % 2147483629)) % 2147483587)) (d_op (d_op (d_op v3 v3 (r_I (mul_mod_ok _ _ _ (by decide) (by decide)))) (d_op d_int v3 (r_I (.inl (by decide)))) r_I0) d_int (r_I (by decide))) g5.gh fun v6 G6 H6 g6 hv6 => ?_
    obtain rfl := hv6.eqI
    have hd16 : ∀ i : Int, CDivW i 16 := fun i => ⟨by decide, by decide⟩
    obtain ⟨m, hm, em⟩ := modI1 (i := (((C % 2147483629) * (C % 2147483629) + 40014 * (C % 2147483629)) % 2147483587) / 16) hn
    refine s_ret (d := I1 m) (em ▸ d_op (d_op v3 d_int (r_I (hd16 _))) (d_var rfl (.int _)) (r_I (by show (0 : Int) < n; omega))) g6.gh fun v G7 H7 g7 hv => k v _ G7 H7 ⟨m, hm, rfl⟩ (g24.then0 ((g5.trans g6).trans g7)) ((Src.ofML m4).grow0 ((g5.trans g6).trans g7)) hv
/-- what values may be drawn from -/
def R_choose : List PyData → (PyData → Prop) → Prop := fun ds S =>
  (∃ es : List PyData, ds = [.list es] ∧ es ≠ [] ∧ es.length ≤ 100000 ∧ S = fun d => d ∈ es) ∨ (∃ x : Str, ds = [.str x] ∧ 0 < x.length ∧ x.length ≤ 100000 ∧ S = fun d => ∃ c ∈ x.cps.toList, d = .str ⟨#[c]⟩)
theorem sc_law_choose : FnScope ["_law_source_here", "_law_values"] ["_law_source_here", "_law_values"] (defScope s_law_choose) := ⟨rfl, rfl, rfl, by decide +kernel, rfl, by decide +kernel, by decide +kernel⟩
theorem ok_law_choose {f : Addr} {fd : FuncData} (F : Fun K "_law_choose" "_law_choose" s_law_choose f fd) (T : Txt Z K mg) (F_law_draw : Fn1 P w K mg base "_law_draw" 1 (spN R_draw)) : FnOk P w K mg base CX0 2 f fd ["_law_source_here", "_law_values"] (spN R_choose) := by
  refine F.ok sc_law_choose (fun vs H Q E h => spN_len (n := 1) (fun ds S h => by rcases h with ⟨_, e, _⟩ | ⟨_, e, _⟩ <;> (rw [e]; rfl)) h) (fun cdv A outer s H vs Q E hr h => ?_)
  obtain ⟨G, so, us, ds, S, rfl, hR, eG, ms, hd, k⟩ := h
  have nd := sc_law_choose.nd
  rcases hR with ⟨es, rfl, hne, hlen, rfl⟩ | ⟨x, rfl, hx0, hxl, rfl⟩
  · obtain ⟨v1, r, rfl, h1, hd⟩ := hd.inv
    obtain rfl := hd.inv0
    refine ⟨_, (pss_one (ps_ret (pe_ix (ix_seqK K) (pv 1) (pe_fn F_law_draw (hr.mono (by decide)) rfl (pa_cons (pv 0) (pa_cons (pe_callB (crLenK K) (by rfl) T.b_len (by decide +kernel) (pa_cons (pv 1) pa_nil)) pa_nil))) (fun _ _ => rfl)))), ?_⟩
    show tRet _ _ [some (.ref so), some v1] H
    refine s_retN (n_op (n_d (d_var rfl h1)) (n_call (v_var rfl) (a_cons (d_cb (a_cons (d_var rfl h1) a_nil) c_lenL) a_nil) ⟨es.length, rfl, List.length_pos_iff.mpr hne, by omega, rfl⟩) fun d e hd he => ?_) eG ms k
    subst hd
    obtain ⟨m, hm, rfl⟩ := he
    exact ⟨es[m], List.getElem_mem hm, r_ixL (atI_at (List.getElem?_eq_getElem hm))⟩
  · obtain ⟨v1, r, rfl, h1, hd⟩ := hd.inv
    obtain rfl := hd.inv0
    refine ⟨_, (pss_one (ps_ret (pe_ix (ix_seqK K) (pv 1) (pe_fn F_law_draw (hr.mono (by decide)) rfl (pa_cons (pv 0) (pa_cons (pe_callB (crLenK K) (by rfl) T.b_len (by decide +kernel) (pa_cons (pv 1) pa_nil)) pa_nil))) (fun _ _ => rfl)))), ?_⟩
    show tRet _ _ [some (.ref so), some v1] H
    refine s_retN (n_op (n_d (d_var rfl h1)) (n_call (v_var rfl) (a_cons (d_cb (a_cons (d_var rfl h1) a_nil) (c_lenS hxl)) a_nil) ⟨x.length, rfl, hx0, by omega, rfl⟩) fun d e hd he => ?_) eG ms k
    subst hd
    obtain ⟨m, hm, rfl⟩ := he
    have hm' : m < x.cps.toList.length := hm
    exact ⟨_, ⟨_, List.getElem_mem hm', rfl⟩, r_ixS hxl (atI_at (List.getElem?_eq_getElem hm'))⟩
def R_equal : List PyData → (PyData → Prop) → Prop := fun ds S => ∃ b : Bool, ds = [.bool b, .bool b] ∧ S = fun d => d = .bool true
theorem c_reprB {b : Bool} : RcD rReprB [.bool b] (.str (if b then ("True" : Str) else ("False" : Str))) := fun G1 H1 e1 xs hx Q q => by
  have e := DDs.bls (ns := [b]) hx
  subst e
  exact ⟨b, rfl, q _ G1 H1 (Grow.refl e1) (.str _)⟩
theorem sc_law_is_equal : FnScope ["_law_actual", "_law_expected"] ["_law_actual", "_law_expected"] (defScope s_law_is_equal) := ⟨rfl, rfl, rfl, by decide +kernel, rfl, by decide +kernel, by decide +kernel⟩
theorem ok_law_is_equal {f : Addr} {fd : FuncData} (F : Fun K "_law_is_equal" "_law_is_equal" s_law_is_equal f fd) (T : Txt Z K mg) : FnOk P w K mg base CX0 1 f fd ["_law_actual", "_law_expected"] (spR R_equal) := by
  refine F.ok sc_law_is_equal (fun vs H Q E h => spR_len (n := 2) (fun ds S ⟨_, e, _⟩ => by rw [e]; rfl) h) (fun cdv A outer s H vs Q E hr h => ?_)
  obtain ⟨G, ds, S, ⟨b, rfl, rfl⟩, eG, hd, k⟩ := h
  obtain ⟨v1, r, rfl, h1, hd⟩ := hd.inv
  obtain ⟨v2, r, rfl, h2, hd⟩ := hd.inv
  obtain rfl := hd.inv0
  have nd := sc_law_is_equal.nd
  refine ⟨_, (pss_one (ps_ret (pe_cmpR (eqDK K (h64 hr)) (pe_callB call_repr_bool (by rfl) T.b_repr (by decide +kernel) (pa_cons (pv 0) pa_nil)) (pe_callB call_repr_bool (by rfl) T.b_repr (by decide +kernel) (pa_cons (pv 1) pa_nil)) (nomark _)))), ?_⟩
  show tRet _ _ [some v1, some v2] H
  have hs : SeqAt.shaped (.str (if b then ("True" : Str) else ("False" : Str))) = true := by cases b <;> decide +kernel
  refine s_ret (d_op (d_cb (a_cons (d_var rfl h1) a_nil) c_reprB) (d_cb (a_cons (d_var rfl h2) a_nil) c_reprB) (r_eq hs hs)) eG fun v G2 H2 g hv => ?_
  rw [eqv_str, decide_eq_true rfl] at hv
  exact k v _ G2 H2 rfl g hv
end
end CP
set_option Elab.async false
set_option linter.all false
set_option maxRecDepth 100000
set_option maxHeartbeats 4000000
namespace CL
open PySem L2
/-- isinstance(e, c), e the exception that the context bears: of what class it is, the reading says -/
def rIsQ (K : PySem.W.Frag) (cls : Value) (d : Option Addr) (a : Addr) : List V → Hp → VK → Prop := fun xs H Q => ∃ (D : Addr) (c : V) (cv : Value) (b : Bool), cls = .ref D ∧ d = none ∧ ExcC K D ∧ xs = [.ref a, c] ∧ (∀ u, RelV c u → u = cv) ∧ PySem.W.kitOne K (.ref D) cv = some b ∧ Q (.bl b) H
theorem call_isQ {X : Cx} {a : Addr} {oe : Obj} {cls : Value} {d : Option Addr} (hp : (a, oe) ∈ X.pn) (hz : Zc cls d oe) (hf : ∃ vs, oe.data = .fields vs) (K : PySem.W.Frag) (h : X.K = K := by rfl) : CallR X (.builtin "isinstance") (rIsQ K cls d a) := by
  subst h
  intro pins s σ H xs us Q I r h
  obtain ⟨D, c, cv, b, rfl, rfl, ec, rfl, h1, h2, q⟩ := h
  exact LM.call_isP (p := (a, oe)) hp ec hz hf pins s σ H _ us Q I r ⟨c, cv, b, rfl, h1, h2, q⟩
theorem pe_callH2 {X : Cx} {CX : CXT} {k : Nat} {f : Addr} {fd : FuncData} {ps : List Str} {sp : Addr → Value → Option Addr → Sp} {E : XK} {x : Str} {q pos : Pos} {e : Expr} {es : List Expr} {t : TA} {a : Addr} {oe : Obj} {cls : Value} {d : Option Addr} (F : LM.FnE X.prog X.w X.K X.mg X.base CX k f fd ps sp) (hr : L2H.RoomH k X.A) (hp : (a, oe) ∈ X.pn) (hz : Zc cls d oe) (hf : ∃ vs, oe.data = .fields vs) (hg : Gl X x) (hm : X.mg x = some (.ref f)) (hk : PySem.W.keepIn X.K (.ref f) = true) (hb : Binds X.K fd ps []) (hx : Passes CX X E)
    (ha : PA X (e :: es) t) (hdb : (x == ("__debug__" : Str)) = false := by decide) (he : starEach (e :: es) X.env = (false, eval e X.env) :: starEach es X.env := by rfl) (hpl : (backTo pos (starEach es X.env)).any (·.1) = false := by rfl) :
    PE X (.Call (.Name x q) (e :: es) [] pos) (fun σ H Q => t σ H fun vs H1 => sp a cls d vs H1 Q E) := LM.pe_callE (p := (a, oe)) F hr hp hz hf hg hm hk hb hx ha hdb he hpl
def tThk (P : Program) (w : World) (K : PySem.W.Frag) (mg : Str → Option Value) (base : Heap) (k i : Nat) (E : L2.St → XK) : TE := fun σ H Q => ∃ (f : Addr) (F : NdefX.NF) (e : Expr), σ[i]? = some (some (.ref f)) ∧ H f = some (LM.LamO f F e) ∧ LM.Runs P w K mg base k f H Q (E σ)
theorem pe_thunkK (P : Program) (w : World) (K : PySem.W.Frag) (mg : Str → Option Value) (base : Heap) {X : Cx} {k i : Nat} {x : Str} {E : L2.St → XK} {p pos : Pos} (hr : Room k X.A) (hx : ∀ σ, PassesAt (L2.CX X.prog X.w) X σ (E σ)) (hN : X.N[i]? = some x) (hv : Vis X.env.scope x)
    (h1 : X.prog = P := by rfl) (h2 : X.w = w := by rfl) (h3 : X.K = K := by rfl) (h4 : X.mg = mg := by rfl) (h5 : X.base = base := by rfl)
    (hd : (x == ("__debug__" : Str)) = false := by decide) (hcd : (x == ("__classdict__" : Str)) = false := by decide) : PE X (.Call (.Name x p) [] [] pos) (tThk P w K mg base k i E) := by
  subst h1 h2 h3 h4 h5
  exact LM.pe_thunk hr hx hN hv hd hcd
theorem peIdxK (K : PySem.W.Frag) {X : Cx} {o e : Expr} {to te : TE} {apos cpos : Pos} (ho : PE X o to) (he : PE X e te) (h : X.K = K := by rfl) (hbase : attributeBase o "index" X.env (eval o X.env) = eval o X.env := by rfl)
    (hfew : ((backTo cpos (starEach [e] X.env)).all (fun x => !x.1) && (backToKw cpos (keywordEach [] X.env)).all (fun x => x.1.isSome)
      && decide ([e].length + ([] : List Keyword).length + (if ([] : List Keyword).isEmpty then 0 else 1) < 30)) = true := by rfl)
    (hline : (apos.endLine == cpos.line) = true := by rfl) (hs : starEach [e] X.env = (false, eval e X.env) :: starEach [] X.env := by rfl) : PE X (.Call (.Attribute o "index" apos) [e] [] cpos) (tBM K "list" (rIndex K) to (tCons te tNil)) :=
  h ▸ pe_bm PySem.F.plainAttrs_list PySem.F.slot_list_index PySem.F.type_list_index mt_index ho (pa_cons he pa_nil hs) hbase hfew hline hs (by rfl)
theorem d_isQ {K : PySem.W.Frag} {σ : VSt} {G : Hp} {te tc : TE} {D C a : Addr} {b : Bool} (ec : ExcC K D) (h : EvV te σ G (.ref a)) (hc : EvV tc σ G (.ref C)) (hk : PySem.W.kitOne K (.ref D) (.ref C) = some b) : EvD (tCB (rIsQ K (.ref D) none a) (tCons te (tCons tc tNil))) σ G (.bool b) := .mk fun G1 H1 e1 e2 Q q =>
  h G1 H1 e1 e2 _ fun G2 H2 g2 => hc G2 H2 (e1.trans g2.g) g2.gh _ fun G3 H3 g3 => ⟨D, .ref C, .ref C, b, rfl, rfl, ec, rfl, fun u r => r, hk, q _ G3 H3 (g2.trans g3) (.bl _)⟩
theorem d_isQt {K : PySem.W.Frag} {σ : VSt} {G : Hp} {te tc : TE} {D a : Addr} {T : String} {b : Bool} (ec : ExcC K D) (h : EvV te σ G (.ref a)) (hc : EvV tc σ G (.ty T)) (hk : PySem.W.kitOne K (.ref D) (.type T) = some b) : EvD (tCB (rIsQ K (.ref D) none a) (tCons te (tCons tc tNil))) σ G (.bool b) := .mk fun G1 H1 e1 e2 Q q =>
  h G1 H1 e1 e2 _ fun G2 H2 g2 => hc G2 H2 (e1.trans g2.g) g2.gh _ fun G3 H3 g3 => ⟨D, .ty T, .type T, b, rfl, rfl, ec, rfl, fun u r => r, hk, q _ G3 H3 (g2.trans g3) (.bl _)⟩
end CL
namespace CP
open PySem L2 CL CM
/-- what isinstance says of the exceptions -/
structure TxtI (Y : AdY) (K : PySem.W.Frag) (mg : Str → Option Value) : Prop where
  kit : ∀ n i, n < 15 → i < 15 → PySem.W.kitOne K (.ref (Y.ex n)) (.ref (Y.ex i)) = some (decide (i = n))
  ec : ∀ n, n < 15 → ExcC K (Y.ex n)
  ve : ∀ n, n < 15 → PySem.W.kitOne K (.ref (Y.ex n)) (.type "ValueError") = some true
  em : ∀ n, n < 15 → PySem.W.exmOne K (.ref (Y.ex n)) (.ref Y.aE) = some true
  k_CE : mg "ColumnError" = some (.ref Y.aE)
  b_ValueError : mg "ValueError" = none
section
variable {P : Program} {w : World} {K : PySem.W.Frag} {mg : Str → Option Value} {base : Heap} {Z : Ads} {Y : AdY}
/-! ### equal whole numbers -/
def R_equalI : List PyData → (PyData → Prop) → Prop := fun ds S => ∃ n : Nat, n < 1000 ∧ ds = [I1 n, I1 n] ∧ S = fun d => d = .bool true
theorem c_reprI {n : Nat} (h : n < 1000) : RcD (fun xs H Q => ∃ i, xs = [V.int i] ∧ i.natAbs.log2 < 1920 ∧ Q (V.str (toString i)) H) [.int (n : Int)] (.str (Str.ofString (toString (n : Int)))) := c_strInt h
theorem small_str (n : Nat) (h : n < 15) : SeqAt.shaped (.str (Str.ofString (toString (n : Int)))) = true := by
  have : n = 0 ∨ n = 1 ∨ n = 2 ∨ n = 3 ∨ n = 4 ∨ n = 5 ∨ n = 6 ∨ n = 7 ∨ n = 8 ∨ n = 9 ∨ n = 10 ∨ n = 11 ∨ n = 12 ∨ n = 13 ∨ n = 14 := by omega
  rcases this with rfl | rfl | rfl | rfl | rfl | rfl | rfl | rfl | rfl | rfl | rfl | rfl | rfl | rfl | rfl <;> decide +kernel
def R_eqI : List PyData → (PyData → Prop) → Prop := fun ds S => ∃ n : Nat, n < 15 ∧ ds = [I1 n, I1 n] ∧ S = fun d => d = .bool true
theorem okI_is_equal {f : Addr} {fd : FuncData} (F : Fun K "_law_is_equal" "_law_is_equal" s_law_is_equal f fd) (T : Txt Z K mg) : FnOk P w K mg base CX0 1 f fd ["_law_actual", "_law_expected"] (spR R_eqI) := by
  refine F.ok sc_law_is_equal (fun vs H Q E h => spR_len (n := 2) (fun ds S ⟨_, _, e, _⟩ => by rw [e]; rfl) h) (fun cdv A outer s H vs Q E hr h => ?_)
  obtain ⟨G, ds, S, ⟨n, hn, rfl, rfl⟩, eG, hd, k⟩ := h
  obtain ⟨v1, r, rfl, h1, hd⟩ := hd.inv
  obtain ⟨v2, r, rfl, h2, hd⟩ := hd.inv
  obtain rfl := hd.inv0
  have nd := sc_law_is_equal.nd
  refine ⟨_, pss_one (ps_ret (pe_cmpR (eqDK K (h64 hr)) (pe_callB SkE.call_repr_int (by rfl) T.b_repr (by decide +kernel) (pa_cons (pv 0) pa_nil)) (pe_callB SkE.call_repr_int (by rfl) T.b_repr (by decide +kernel) (pa_cons (pv 1) pa_nil)) (nomark _))), ?_⟩
  show tRet _ _ [some v1, some v2] H
  refine s_ret (d_op (d_cb (a_cons (d_var rfl h1) a_nil) (c_reprI (by omega))) (d_cb (a_cons (d_var rfl h2) a_nil) (c_reprI (by omega))) (r_eq (small_str n hn) (small_str n hn))) eG fun v G2 H2 g hv => ?_
  rw [eqv_str, decide_eq_true rfl] at hv
  exact k v _ G2 H2 rfl g hv
/-! ### the marks of an exception -/
def mks (n : Nat) : List Bool := (List.range 15).map fun i => decide (i = n)
def spMarks (Y : AdY) : Addr → Value → Option Addr → Sp := fun a cls d vs H Q _ => ∃ (G : Hp) (n : Nat), vs = [.ref a] ∧ n < 15 ∧ cls = .ref (Y.ex n) ∧ d = none ∧ Ex G H ∧ ∀ v G2 H2, Grow M0 G H G2 H2 → DD G2 v (.list ((mks n).map PyData.bool)) → Q v H2
theorem sc_law_marks : FnScope ["_law_error", "_law_found"] ["_law_error"] (defScope s_law_marks) := ⟨rfl, rfl, rfl, by decide +kernel, rfl, by decide +kernel, by decide +kernel⟩
theorem ok_law_marks {f : Addr} {fd : FuncData} (F : Fun K "_law_marks" "_law_marks" s_law_marks f fd) (T : Txt Z K mg) (V : TxtV Y K mg) (T1 : TxtI Y K mg) : LM.FnE P w K mg base CX0 2 f fd ["_law_error"] (spMarks Y) := by
  obtain ⟨oc, od, kV, doc, pm, an, cdv, ct, osl, rfl, lk, hcd⟩ := F.ex
  refine LM.fn_ofE lk hcd sc_law_marks (fun a cls d vs H Q E ⟨G, n, e, _⟩ => by rw [e]; rfl) (fun p cls d hz hf A outer s H vs Q E hr h => ?_)
  obtain ⟨G, n, rfl, hn, rfl, rfl, eG, k⟩ := h
  have nd := sc_law_marks.nd
  have isP := @call_isQ (L2H.cxH CX0 P w K mg base ["_law_error", "_law_found"] "_law_marks" (defScope s_law_marks) f cdv A outer s H E p) p.1 p.2 _ _ (List.mem_cons_self) hz hf K rfl
  refine ⟨_, (pss_cons (ps_set (i := 1) nd rfl (by first | exact Or.inl rfl | exact Or.inr rfl) (pe_lst (pa_cons (pe_callB isP (by rfl) T.b_isinstance (by decide +kernel) (pa_cons (pv 0) (pa_cons (pe_glob (v := .ref (Y.ex 0)) rfl V.NoWidth.g rfl) pa_nil))) (pa_cons (pe_callB isP (by rfl) T.b_isinstance (by decide +kernel) (pa_cons (pv 0) (pa_cons (pe_glob (v := .ref (Y.ex 1)) rfl V.NoRows.g rfl) pa_nil))) (pa_cons (pe_callB isP (by rfl) T.b_isinstance (by decide +kernel) (pa_cons (pv 0) (pa_cons (pe_glob (v := .ref (Y.ex 2)) rfl V.NoRow.g rfl) pa_nil))) pa_nil)))))
    (pss_cons (ps_set (i := 1) nd rfl (by first | exact Or.inl rfl | exact Or.inr rfl) (pe_op op_cat (pv 1) (pe_lst (pa_cons (pe_callB isP (by rfl) T.b_isinstance (by decide +kernel) (pa_cons (pv 0) (pa_cons (pe_glob (v := .ref (Y.ex 3)) rfl V.NoRules.g rfl) pa_nil))) (pa_cons (pe_callB isP (by rfl) T.b_isinstance (by decide +kernel) (pa_cons (pv 0) (pa_cons (pe_glob (v := .ref (Y.ex 4)) rfl V.NoRule.g rfl) pa_nil))) (pa_cons (pe_callB isP (by rfl) T.b_isinstance (by decide +kernel) (pa_cons (pv 0) (pa_cons (pe_glob (v := .ref (Y.ex 5)) rfl V.NoColumn.g rfl) pa_nil))) pa_nil))))))
    (pss_cons (ps_expr (pe_bm PySem.F.plainAttrs_list PySem.F.slot_list_append PySem.F.type_list_append mt_append (pv 1) (pa_cons (pe_callB isP (by rfl) T.b_isinstance (by decide +kernel) (pa_cons (pv 0) (pa_cons (pe_glob (v := .ref (Y.ex 6)) rfl V.NoNumber.g rfl) pa_nil))) pa_nil)))
    (pss_cons (ps_set (i := 1) nd rfl (by first | exact Or.inl rfl | exact Or.inr rfl) (pe_op op_cat (pv 1) (pe_lst (pa_cons (pe_callB isP (by rfl) T.b_isinstance (by decide +kernel) (pa_cons (pv 0) (pa_cons (pe_glob (v := .ref (Y.ex 7)) rfl V.NoText.g rfl) pa_nil))) (pa_cons (pe_callB isP (by rfl) T.b_isinstance (by decide +kernel) (pa_cons (pv 0) (pa_cons (pe_glob (v := .ref (Y.ex 8)) rfl V.NotTable.g rfl) pa_nil))) (pa_cons (pe_callB isP (by rfl) T.b_isinstance (by decide +kernel) (pa_cons (pv 0) (pa_cons (pe_glob (v := .ref (Y.ex 9)) rfl V.NotRules.g rfl) pa_nil))) pa_nil))))))
    (pss_cons (ps_set (i := 1) nd rfl (by first | exact Or.inl rfl | exact Or.inr rfl) (pe_op op_cat (pv 1) (pe_lst (pa_cons (pe_callB isP (by rfl) T.b_isinstance (by decide +kernel) (pa_cons (pv 0) (pa_cons (pe_glob (v := .ref (Y.ex 10)) rfl V.UnlikeWidths.g rfl) pa_nil))) (pa_cons (pe_callB isP (by rfl) T.b_isinstance (by decide +kernel) (pa_cons (pv 0) (pa_cons (pe_glob (v := .ref (Y.ex 11)) rfl V.TooMuch.g rfl) pa_nil))) (pa_cons (pe_callB isP (by rfl) T.b_isinstance (by decide +kernel) (pa_cons (pv 0) (pa_cons (pe_glob (v := .ref (Y.ex 12)) rfl V.NotThere.g rfl) pa_nil))) pa_nil))))))
    (pss_one (ps_ret (pe_op op_cat (pv 1) (pe_lst (pa_cons (pe_callB isP (by rfl) T.b_isinstance (by decide +kernel) (pa_cons (pv 0) (pa_cons (pe_glob (v := .ref (Y.ex 13)) rfl V.Broken.g rfl) pa_nil))) (pa_cons (pe_callB isP (by rfl) T.b_isinstance (by decide +kernel) (pa_cons (pv 0) (pa_cons (pe_glob (v := .ref (Y.ex 14)) rfl V.NothingDone.g rfl) pa_nil))) pa_nil))))))))))), ?_⟩
  have is : ∀ {G' : Hp} {o : Option L2.V} (i : Nat), i < 15 → EvD (tCB (rIsQ K (.ref (Y.ex n)) none p.1) (tCons (tVar 0) (tCons (tC (.ref (Y.ex i))) tNil))) [some (.ref p.1), o] G' (.bool (decide (i = n))) := fun i hi => d_isQ (T1.ec n hn) (v_var rfl) v_c (T1.kit n i hn hi)
  show tSeq _ _ _ [some (.ref p.1), none] H
  refine q_asg (d_lst (a_cons (is 0 (by decide)) (a_cons (is 1 (by decide)) (a_cons (is 2 (by decide)) a_nil)))) eG fun v1 G1 H1 g1 h1 => ?_
  show tSeq _ _ _ [some (.ref p.1), some v1] H1
  refine q_asgM (m_catL (d_var rfl h1) (d_lst (a_cons (is 3 (by decide)) (a_cons (is 4 (by decide)) (a_cons (is 5 (by decide)) a_nil)))) (by simp)) g1.gh fun l G2 H2 hl g2 m2 => ?_
  show tSeq _ _ _ [some (.ref p.1), some (.ref l)] H2
  refine q_app (v_var rfl) m2 (is 6 (by decide)) g2.gh (by simp) fun G3 H3 g3 m3 => ?_
  show tSeq _ _ _ [some (.ref p.1), some (.ref l)] H3
  have g13 : Grow M0 G1 H1 G3 H3 := g2.priv g3 hl
  obtain ⟨G4, g14, e4, d4, _⟩ := m3.fin g13 hl
  refine q_asg (d_op (d_var rfl d4) (d_lst (a_cons (is 7 (by decide)) (a_cons (is 8 (by decide)) (a_cons (is 9 (by decide)) a_nil)))) (r_catL (by simp))) g14.gh fun v5 G5 H5 g5 h5 => ?_
  show tSeq _ _ _ [some (.ref p.1), some v5] H5
  refine q_asg (d_op (d_var rfl h5) (d_lst (a_cons (is 10 (by decide)) (a_cons (is 11 (by decide)) (a_cons (is 12 (by decide)) a_nil)))) (r_catL (by simp))) g5.gh fun v6 G6 H6 g6 h6 => ?_
  show tRet _ _ [some (.ref p.1), some v6] H6
  exact s_ret (d_op (d_var rfl h6) (d_lst (a_cons (is 13 (by decide)) (a_cons (is 14 (by decide)) a_nil))) (r_catL (by simp))) g6.gh fun v7 G7 H7 g7 h7 => k v7 G7 H7 ((((g1.trans g14).trans g5).trans g6).trans g7) h7
theorem DDs.ofBls (G : Hp) : ∀ (bs : List Bool), DDs G (bs.map V.bl) (bs.map PyData.bool)
  | [] => .nil
  | b :: bs => .cons (.bl b) (DDs.ofBls G bs)
/-! ### what a call raises -/
/-- calling f raises the n-th class, whenever what is known stands -/
def Thunk (Y : AdY) (P : Program) (w : World) (K : PySem.W.Frag) (mg : Str → Option Value) (base : Heap) (k n : Nat) (f : Addr) (H : Hp) : Prop :=
  (∃ F e, H f = some (LM.LamO f F e)) ∧ ∀ H1, Ex H H1 → ∀ (Q : VK) (E : XK), (∀ H2, Ex H1 H2 → E (.ref (Y.ex n)) none H2) → LM.Runs P w K mg base k f H1 Q E
theorem Thunk.up {k n : Nat} {f : Addr} {H H' : Hp} (t : Thunk Y P w K mg base k n f H) (e : Ex H H') : Thunk Y P w K mg base k n f H' :=
  ⟨let ⟨F, b, h⟩ := t.1; ⟨F, b, e _ _ h⟩, fun H1 e1 => t.2 H1 (e.trans e1)⟩
def spRaised (Y : AdY) (P : Program) (w : World) (K : PySem.W.Frag) (mg : Str → Option Value) (base : Heap) (k : Nat) : Sp := fun vs H Q _ => ∃ (f : Addr) (n : Nat), vs = [.ref f] ∧ n < 15 ∧ Thunk Y P w K mg base k n f H ∧ ∀ H2, Ex H H2 → Q (.int (n : Int)) H2
theorem sc_law_raised : FnScope ["_law_call", "_law_error", "_law_marks_here"] ["_law_call"] (defScope s_law_raised) := ⟨rfl, rfl, rfl, by decide +kernel, rfl, by decide +kernel, by decide +kernel⟩
theorem mks_count {n : Nat} (h : n < 15) : ((mks n).map PyData.bool).countP (fun z => PyData.eqv z (.bool true)) = 1 := by
  have : n = 0 ∨ n = 1 ∨ n = 2 ∨ n = 3 ∨ n = 4 ∨ n = 5 ∨ n = 6 ∨ n = 7 ∨ n = 8 ∨ n = 9 ∨ n = 10 ∨ n = 11 ∨ n = 12 ∨ n = 13 ∨ n = 14 := by omega
  rcases this with rfl | rfl | rfl | rfl | rfl | rfl | rfl | rfl | rfl | rfl | rfl | rfl | rfl | rfl | rfl <;> decide +kernel
theorem mks_plain (n : Nat) : PyData.plainAll ((mks n).map PyData.bool) = true := by
  unfold mks
  generalize List.range 15 = l
  induction l with
  | nil => rfl
  | cons a l ih =>
    rw [List.map_cons, List.map_cons]
    simp only [PyData.plainAll, PyData.plain, Bool.true_and]
    exact ih
theorem mks_at {n : Nat} (h : n < 15) : ((mks n).map V.bl)[n]? = some (V.bl true) := by
  unfold mks
  rw [List.getElem?_map, List.getElem?_map, List.getElem?_range h]
  simp
theorem mks_before {n m : Nat} {z : V} (h : m < n) (hn : n < 15) (e : ((mks n).map V.bl)[m]? = some z) : z = .bl false := by
  unfold mks at e
  rw [List.getElem?_map, List.getElem?_map, List.getElem?_range (by omega)] at e
  have e := Option.some.inj e
  rw [← e]
  show V.bl (decide (m = n)) = _
  rw [decide_eq_false (by omega : ¬ m = n)]
theorem mks_flat (n : Nat) : ((mks n).map V.bl).all flatV = true := by
  rw [List.all_eq_true]
  intro v hv
  obtain ⟨b, _, rfl⟩ := List.mem_map.mp hv
  rfl
theorem ok_law_raised {f fM : Addr} {fd fdM : FuncData} {k : Nat} (hk : 3 ≤ k) (F : Fun K "_law_raised" "_law_raised" s_law_raised f fd) (T : Txt Z K mg) (T1 : TxtI Y K mg) (FM : LM.FnE P w K mg base CX0 2 fM fdM ["_law_error"] (spMarks Y)) (mM : mg "_law_marks" = some (.ref fM)) (kM : PySem.W.keepIn K (.ref fM) = true) (bM : Binds K fdM ["_law_error"] []) :
    FnOk P w K mg base CX0 (k + 1) f fd ["_law_call"] (spRaised Y P w K mg base k) := by
  refine F.ok sc_law_raised (fun vs H Q E ⟨f, n, e, _⟩ => by rw [e]; rfl) (fun cdv A outer s H vs Q E hr h => ?_)
  obtain ⟨f, n, rfl, hn, ht, k1⟩ := h
  have nd := sc_law_raised.nd
  have hrH := L2H.roomH_of hr
  have u64 := h64 hr
  have u80 := h80 hr
  refine ⟨_, pss_cons (ps_try_as (c := .ref Y.aE) (i := 1) (Wout := fun _ _ _ _ => False) rfl rfl nd rfl rfl ⟨rfl, by decide, .inl T1.k_CE⟩ takes0 (fun W pn xe tk _ => pss_one (ps_expr (pe_thunkK P w K mg base (k := k) (i := 0) hr (fun σ => passAt tk σ) rfl (Or.inl rfl))))
    (fun a oe cls d pn hz hf => pss_cons (ps_set (i := 2) nd rfl (Or.inl rfl) (pe_callH2 (E := E0) (a := a) (oe := oe) FM ⟨(hrH.mono (by omega : 2 ≤ k)).dp, (hrH.mono (by omega : 2 ≤ k)).un⟩ List.mem_cons_self hz hf (by rfl) mM kM bM pass0 (pa_cons (pv 1) pa_nil)))
      (pss_one (ps_ret (pe_ifExp (PW.pt (pw_and (pt_cmpR (eqDK K (by exact u64)) (peCntK K (by exact u80) (pv 2) pe_bl) pe_int (nomark _)) (pw_and1 (pt_val (pe_callB (call_isQ (a := a) (oe := oe) List.mem_cons_self hz hf K) (by rfl) T.b_isinstance (by decide +kernel) (pa_cons (pv 1) (pa_cons (pe_bltn (v := .ty "ValueError") (u := Value.type "ValueError") rfl T1.b_ValueError (by decide +kernel) rfl) pa_nil)))))))
        (peIdxK K (pv 2) pe_bl) (pe_un un_neg pe_int))))))
    (pss_one (ps_ret (pe_un un_neg pe_int))), ?_⟩
  obtain ⟨FF, e, hL⟩ := ht.1
  refine ⟨f, FF, e, rfl, hL, ht.2 H (Ex.refl _) _ _ fun H2 e2 => ⟨true, T1.em n hn, fun _ a na => ?_, fun z => absurd z (by decide)⟩⟩
  refine ⟨_, rfl, H2, n, rfl, hn, rfl, rfl, Ex.refl _, fun v3 G3 H3 g3 h3 => ?_⟩
  obtain ⟨l, xs, rfl, hl, hx⟩ := h3.eqL
  have ex := hx.bls
  subst ex
  have hv3 : DD G3 (.ref l) (.list ((mks n).map PyData.bool)) := .lst hl (DDs.ofBls G3 (mks n))
  have cnt : EvD (tOp (rEqD K) (tCnt K (tVar 2) (tC (.bl true))) (tC (.int 1))) [some (.ref f), some (.ref a), some (.ref l)] G3 (.bool true) := by
    refine (d_op (d_cntL (d_var rfl hv3) d_bl (mks_plain n) (by decide) (by decide)) d_int (r_eq rfl rfl)).is ?_
    rw [mks_count hn, eqv_int]
    rfl
  have go : ∀ (R : VK), (∀ G4 H4, Grow M0 G3 H3 G4 H4 → R (.int (n : Int)) H4) → tIf (tAnd (tTest (tOp (rEqD K) (tCnt K (tVar 2) (tC (.bl true))) (tC (.int 1)))) (tB (tCB (rIsQ K (.ref (Y.ex n)) none a) (tCons (tVar 1) (tCons (tC (.ty "ValueError")) tNil))))) (tBM K "list" (rIndex K) (tVar 2) (tCons (tC (.bl true)) tNil)) (tUn (rU fun i => .int (-i)) (tC (.int 2)))
      [some (.ref f), some (.ref a), some (.ref l)] H3 R := fun R hR => by
    refine b_and (b_test cnt) (fun _ => b_B (d_isQt (T1.ec n hn) (v_var rfl) v_c (T1.ve n hn))) G3 H3 (Ex.refl _) g3.gh _ fun G4 H4 g4 => ?_
    refine ⟨_, rfl, .inl ⟨rfl, _, .inl (.inl (g4.gh _ _ (g4.g _ _ hl)))⟩, l, (mks n).map V.bl, .bl true, n, .bl true, rfl, rfl, .inl (.inl (g4.gh _ _ (g4.g _ _ hl))), rfl, mks_flat n, mks_at hn, rfl, fun m z hm hz => ?_, hR G4 H4 g4⟩
    rw [mks_before hm hn hz]
    rfl
  exact go _ fun G4 H4 g4 => k1 _ ((e2.trans g3.ex).trans g4.ex)
end
end CP
set_option Elab.async false
set_option linter.all false
set_option maxRecDepth 100000
set_option maxHeartbeats 4000000
/-! Lambdas kept in a list of tuples: made, then what they raise. -/
namespace LM
open PySem PySem.Spec L2 LamX NdefX
open PyProof.Rows hiding St
/-- the captured cells of a kept lambda are known behind the maker's end -/
theorem LamAt.made {cells : List (Str × Addr)} {q : Str} {params : Arguments} {e : Expr} {scope : Scope} {c' f : Addr} {H' H2 : Hp} {frAll fr : List Str} {wsAll ws : List V} (hx : Ex H' H2)
    (hf : H' f = some (LamO f ⟨"<lambda>", q, params, [], scope, cloFrom cells scope.names [], c'⟩ e)) (hc : H' c' = some (CodeO c' q)) (inj : ∀ x y c, cells.lookup x = some c → cells.lookup y = some c → x = y)
    (hcells : ∀ (i : Nat) (y : Str), frAll[i]? = some y → ∃ c v, cells.lookup y = some c ∧ wsAll[i]? = some v ∧ H' c = none ∧ H2 c = some (CellO c v))
    (hfree : ∀ y ∈ scope.names, y.2 = .free → y.1 ∈ frAll) (hfr : ∀ y ∈ fr, (y, NameKind.free) ∈ scope.names) (hw : ∀ (i : Nat) (y : Str), fr[i]? = some y → ∃ j : Nat, frAll[j]? = some y ∧ wsAll[j]? = ws[i]?) (hl : ws.length = fr.length) :
    LamAt H2 f ⟨"<lambda>", q, params, [], scope, cloFrom cells scope.names [], c'⟩ e fr ws ∧ (∀ c ∈ (cloFrom cells scope.names []).map (·.2), H' c = none) := by
  have has : ∀ y ∈ scope.names, y.2 = .free → ∃ c, cells.lookup y.1 = some c := fun y hy e => by
    obtain ⟨i, hi⟩ := List.mem_iff_getElem?.mp (hfree y hy e)
    obtain ⟨c, v, h1, _⟩ := hcells i _ hi
    exact ⟨c, h1⟩
  have inCl : ∀ c ∈ (cloFrom cells scope.names []).map (·.2), ∃ y, (y, NameKind.free) ∈ scope.names ∧ cells.lookup y = some c := fun c hc => by
    obtain ⟨⟨y, c0⟩, hm, rfl⟩ := List.mem_map.mp hc
    rcases cloFrom_mem hm with z | ⟨h1, h2⟩
    · cases z
    · obtain ⟨c1, h3⟩ := has _ h1 rfl
      refine ⟨y, h1, ?_⟩
      have h3 : cells.lookup y = some c1 := h3
      have e2 : c0 = c1 := by
        rw [h2, h3] <;> rfl
      rw [e2]
      exact h3
  have known : ∀ c ∈ (cloFrom cells scope.names []).map (·.2), H' c = none ∧ ∃ v, H2 c = some (CellO c v) := fun c hc => by
    obtain ⟨y, h1, h2⟩ := inCl c hc
    obtain ⟨i, hi⟩ := List.mem_iff_getElem?.mp (hfree _ h1 rfl)
    obtain ⟨c1, v, h3, _, h4, h5⟩ := hcells i _ hi
    rw [h2] at h3
    cases h3
    exact ⟨h4, v, h5⟩
  refine ⟨⟨hx _ _ hf, hx _ _ hc, fun x y c a b => inj x y c (clo_cm has a) (clo_cm has b), fun c hc => (known c hc).2, fun i y hi => ?_, hl⟩, fun c hc => (known c hc).1⟩
  have hy := hfr y (List.mem_of_getElem? hi)
  obtain ⟨j, hj, hwj⟩ := hw i y hi
  obtain ⟨c, v, h1, h2, _, h4⟩ := hcells j y hj
  exact ⟨c, v, clo_has has hy h1, by rw [← hwj]; exact h2, h4⟩
end LM
namespace CP
open PySem L2 CL CM
section
variable {P : Program} {w : World} {K : PySem.W.Frag} {mg : Str → Option Value} {base : Heap} {Y : AdY}
/-- a kept lambda whose body raises -/
theorem thunk_of {k n : Nat} {f : Addr} {F : NdefX.NF} {e : Expr} {fr : List Str} {ws : List V} {G H' H2 : Hp} (S : NdefX.NScope fr [] fr F.scope) (hb : ∀ pm ctv : Value, bindArgs (LM.lamD F e pm ctv) ⟨[], []⟩ = pure []) (L : LM.LamAt H2 f F e fr ws) (hx : Ex H' H2) (eG : Ex G H') (hf : H' f ≠ none) (hc : H' F.c ≠ none) (nc : ∀ c ∈ F.cl.map (·.2), H' c = none)
    (body : ∀ (A : Around) (outer : List Env) (s : Shared) (H0 : Hp) (E : XK), Room k (A.deeper (NdefX.envF F f s.heap.objs.size)) → ∃ te, PE (NdefX.ncx (L2.CX P w) P w K mg base fr F f A outer s H0 E) e te ∧ EvX te (ws.map some) G (Y.ex n) E) : Thunk Y P w K mg base (k + 1) n f H2 := by
  refine ⟨⟨F, e, L.obj⟩, fun H1 e1 Q E hE => ?_⟩
  have nf : f ∉ F.cl.map (·.2) := fun z => hf (nc f z)
  have ncc : F.c ∉ F.cl.map (·.2) := fun z => hc (nc _ z)
  refine (L.up e1).runs (Q := Q) (E := E) S hb nf ncc fun A outer s hr => ?_
  obtain ⟨te, hp, hx0⟩ := body A outer s (LM.dropC H1 (F.cl.map (·.2))) (fun c d H3 => E c d (LM.backC H1 H3 (F.cl.map (·.2)))) hr
  refine ⟨te, hp, ?_⟩
  have est : NdefX.startF fr [] (ws.map some) = ws.map some := by
    unfold NdefX.startF
    rw [List.map_nil, List.nil_append, List.length_map, L.len, List.length_nil, Nat.sub_zero, Nat.sub_self]
    simp
  rw [est]
  have eD : Ex G (LM.dropC H1 (F.cl.map (·.2))) := fun b o z => by
    have hn : b ∉ F.cl.map (·.2) := fun y => by
      have q := eG b o z
      rw [nc b y] at q
      cases q
    rw [LM.dropC_out hn]
    exact e1 _ _ (hx _ _ (eG b o z))
  exact hx0 G _ (Ex.refl G) eD (xr_of fun H3 e3 => hE _ fun b o z => by
    by_cases hb : b ∈ F.cl.map (·.2)
    · rw [LM.backC_in hb]; exact z
    · rw [LM.backC_out hb]
      exact e3 b o (by rw [LM.dropC_out hb]; exact z)) _
/-! ### lists of (lambda, number) -/
abbrev LamX3 := Arguments × Expr × Scope
def lam0 : LamX3 := (⟨[], [], none, [], [], none, []⟩, .Constant .none 0 ⟨0, 0, 0, 0⟩, { kind := .function, names := [], isGenerator := false, isCoroutine := false })
def lamTup : Expr → LamX3
  | .Tuple (.Lambda p b sc _ :: _) _ _ => (p, b, sc)
  | _ => lam0
/-- the lambda of a statement that keeps one -/
def lamOf : Stmt → LamX3
  | .Assign _ (.List (t :: _) _) _ => lamTup t
  | .Expr (.Call _ (t :: _) _ _) _ => lamTup t
  | .Return (some (.BinOp _ _ (.List (t :: _) _) _)) _ => lamTup t
  | _ => lam0
def lamAt (s : Stmt) (i : Nat) : LamX3 := lamOf ((defBody s).getD i (.Pass ⟨0, 0, 0, 0⟩))
/-- v is a tuple of a kept lambda and a number -/
def Ent (cells : List (Str × Addr)) (q : Str) (H : Hp) (v : V) (x : LamX3 × Nat) : Prop := ∃ t f c', v = .ref t ∧ H t = some (.tup [.ref f, .int (x.2 : Int)]) ∧ H f = some (LM.LamO f ⟨"<lambda>", q, x.1.1, [], x.1.2.2, cloFrom cells x.1.2.2.names [], c'⟩ x.1.2.1) ∧ H c' = some (LamX.CodeO c' q)
abbrev Ents (cells : List (Str × Addr)) (q : Str) (H : Hp) : List V → List (LamX3 × Nat) → Prop := Paired (Ent cells q H)
/-- all but the tables of T and what stands at l is kept -/
def Keeps (T : List (Addr × Str)) (l : Addr) (H H2 : Hp) : Prop := (∀ b o, H b = some o → (∀ p ∈ T, b ≠ p.1) → b ≠ l → H2 b = some o) ∧ ∀ a, H2 a = none → H a = none
theorem Ent.keep {cells : List (Str × Addr)} {q : Str} {H H2 : Hp} {v : V} {x : LamX3 × Nat} (h : Ent cells q H v x) (k : ∀ b o, H b = some o → (∀ ps, o ≠ .tbl ps) → (∀ xs, o ≠ .lst xs) → H2 b = some o) : Ent cells q H2 v x := by
  obtain ⟨t, f, c', a, b, c, d⟩ := h
  exact ⟨t, f, c', a, k _ _ b (fun _ z => nomatch z) (fun _ z => nomatch z), k _ _ c (fun _ z => by unfold LM.LamO at z; cases z) (fun _ z => by unfold LM.LamO at z; cases z), k _ _ d (fun _ z => by unfold LamX.CodeO at z; cases z) fun _ z => by unfold LamX.CodeO at z; cases z⟩
theorem Ents.keep {cells : List (Str × Addr)} {q : Str} {H H2 : Hp} : ∀ {vs : List V} {xs : List (LamX3 × Nat)}, Ents cells q H vs xs → (∀ b o, H b = some o → (∀ ps, o ≠ .tbl ps) → (∀ xs, o ≠ .lst xs) → H2 b = some o) → Ents cells q H2 vs xs
  | _, _, .nil, _ => .nil
  | _, _, .cons h t, k => .cons (h.keep k) (Ents.keep t k)
theorem Ents.snoc {cells : List (Str × Addr)} {q : Str} {H : Hp} : ∀ {vs : List V} {xs : List (LamX3 × Nat)} {v : V} {x : LamX3 × Nat}, Ents cells q H vs xs → Ent cells q H v x → Ents cells q H (vs ++ [v]) (xs ++ [x])
  | _, _, _, _, .nil, h => .cons h .nil
  | _, _, _, _, .cons a t, h => .cons a (Ents.snoc t h)
/-- (lambda, n), new -/
theorem e_pair {σ : VSt} {H : Hp} {T : List (Addr × Str)} {PT : Addr} {q : Str} {cells : List (Str × Addr)} {L : LamX3} {n : Nat} {mk : Addr → NdefX.NF} {Q : VK} (hmk : ∀ c', mk c' = ⟨"<lambda>", q, L.1, [], L.2.2, cloFrom cells L.2.2.names [], c'⟩) (hT : LamX.Tabs T H) (hP : ∃ q, (PT, q) ∈ T)
    (k : ∀ t H2, (∀ b o, H b = some o → b ≠ PT → H2 b = some o) → LamX.Tabs T H2 → H t = none → Ent cells q H2 (.ref t) (L, n) → Q (.ref t) H2) : tTup (tCons (LM.tLamK PT T mk L.2.1) (tCons (tC (.int (n : Int))) tNil)) σ H Q := by
  refine ⟨hT, fun f c' H1 e1 t1 nf hf hc => ?_⟩
  refine ⟨(by show 2 ≤ sizeLine; decide), fun t ht => ?_⟩
  obtain ⟨q', hm⟩ := hP
  obtain ⟨ps, hps, _⟩ := t1 _ hm
  have up : ∀ {b o}, H1 b = some o → upd H1 t (.tup [.ref f, .int (n : Int)]) b = some o := fun {b o} z => (upd_ne (ne_of_none z ht)).trans z
  rw [hmk] at hf hc
  have nt : H t = none := by
    cases z : H t with
    | none => rfl
    | some o =>
      by_cases hb : t = PT
      · subst hb
        rw [hps] at ht; cases ht
      · rw [e1 t o z hb] at ht; cases ht
  exact k t _ (fun b o z n => up (e1 b o z n)) (t1.ext fun b o z => up z) nt ⟨t, f, c', rfl, upd_same, up hf, up hc⟩
/-- found.append((lambda, n)) -/
theorem s_lam {σ : VSt} {G H : Hp} {K : PySem.W.Frag} {T : List (Addr × Str)} {PT l : Addr} {q : Str} {cells : List (Str × Addr)} {L : LamX3} {n i : Nat} {mk : Addr → NdefX.NF} {D : Ends} {vs : List V} {xs : List (LamX3 × Nat)} (hmk : ∀ c', mk c' = ⟨"<lambda>", q, L.1, [], L.2.2, cloFrom cells L.2.2.names [], c'⟩) (hi : σ[i]? = some (some (.ref l)))
    (hT : LamX.Tabs T H) (hP : ∃ q, (PT, q) ∈ T) (hl : H l = some (.lst vs)) (hz : vs.length < 1000) (he : Ents cells q H vs xs) (eG : Ex G H) (gT : ∀ p ∈ T, G p.1 = none) (gl : G l = none)
    (k : ∀ t H2, (∀ b o, H b = some o → b ≠ PT → b ≠ l → H2 b = some o) → (∀ a, H2 a = none → H a = none) → LamX.Tabs T H2 → H2 l = some (.lst (vs ++ [.ref t])) → Ents cells q H2 (vs ++ [.ref t]) (xs ++ [(L, n)]) → Ex G H2 → D.nx σ H2) :
    tDrop (tBM K "list" rAppend (tVar i) (tCons (tTup (tCons (LM.tLamK PT T mk L.2.1) (tCons (tC (.int (n : Int))) tNil))) tNil)) D σ H := by
  obtain ⟨q', hm⟩ := hP
  obtain ⟨ps, hps, _⟩ := id (hT _ hm)
  have nlP : l ≠ PT := fun z => by rw [z, hps] at hl; cases hl
  refine ⟨.ref l, hi, .inl ⟨rfl, vs, .inl (.inl hl)⟩, e_pair hmk hT ⟨q', hm⟩ fun t H1 e1 t1 nt h1 => ?_⟩
  have hl1 : H1 l = some (.lst vs) := e1 l _ hl nlP
  refine ⟨l, vs, .ref t, rfl, rfl, hl1, Evl.sz_lt (by omega), ?_⟩
  have ktbl : ∀ b o, H1 b = some o → b ≠ l → upd H1 l (.lst (vs ++ [.ref t])) b = some o := fun b o z n => (upd_ne n).trans z
  have nl : ∀ {b : Addr} {o : HO}, H1 b = some o → (∀ xs, o ≠ .lst xs) → b ≠ l := fun {b o} z n y => by
    rw [y, hl1] at z
    exact n vs (Option.some.inj z).symm
  have kp : ∀ b o, H1 b = some o → (∀ ps, o ≠ .tbl ps) → (∀ xs, o ≠ .lst xs) → upd H1 l (.lst (vs ++ [.ref t])) b = some o := fun b o z _ n => ktbl b o z (nl z n)
  have kH : ∀ b o, H b = some o → (∀ ps, o ≠ .tbl ps) → (∀ xs, o ≠ .lst xs) → upd H1 l (.lst (vs ++ [.ref t])) b = some o := fun b o z n1 n2 => kp b o (e1 b o z fun y => by
    rw [y, hps] at z
    exact n1 ps (Option.some.inj z).symm) n1 n2
  refine k t _ (fun b o z n1 n2 => ktbl b o (e1 b o z n1) n2) (fun a z => ?_) (fun p hp => ?_) upd_same ((he.keep kH).snoc (h1.keep kp)) fun b o z => ktbl b o (e1 b o (eG b o z) fun y => ?_) fun y => ?_
  · by_cases ha : a = l
    · rw [ha, upd_same] at z; cases z
    · rw [upd_ne ha] at z
      cases w : H a with
      | none => rfl
      | some o =>
        by_cases hb : a = PT
        · obtain ⟨ps1, hp1, _⟩ := t1 _ hm
          rw [hb] at z
          rw [hp1] at z; cases z
        · rw [e1 a o w hb] at z; cases z
  · obtain ⟨ps1, h1', h2', h3'⟩ := t1 p hp
    exact ⟨ps1, ktbl _ _ h1' (nl h1' fun _ z => nomatch z), h2', fun pos cv hc => let ⟨c, a, b⟩ := h3' pos cv hc; ⟨c, a, ktbl _ _ b (nl b fun _ z => by unfold LamX.CodeO at z; cases z)⟩⟩
  · rw [y, gT _ hm] at z; cases z
  · rw [y, gl] at z; cases z
/-- the items of a list of thunks -/
def TI (Y : AdY) (P : Program) (w : World) (K : PySem.W.Frag) (mg : Str → Option Value) (base : Heap) (k : Nat) (H : Hp) (v : V) (n : Nat) : Prop := ∃ t f, v = .ref t ∧ H t = some (.tup [.ref f, .int (n : Int)]) ∧ n < 15 ∧ Thunk Y P w K mg base k n f H
abbrev TIs (Y : AdY) (P : Program) (w : World) (K : PySem.W.Frag) (mg : Str → Option Value) (base : Heap) (k : Nat) (H : Hp) : List V → List Nat → Prop := Paired (TI Y P w K mg base k H)
theorem TIs.up {k : Nat} {H H' : Hp} (e : Ex H H') : ∀ {vs : List V} {ns : List Nat}, TIs Y P w K mg base k H vs ns → TIs Y P w K mg base k H' vs ns
  | _, _, .nil => .nil
  | _, _, .cons ⟨t, f, a, b, c, d⟩ r => .cons ⟨t, f, a, e _ _ b, c, d.up e⟩ (TIs.up e r)
theorem TIs.append {k : Nat} {H : Hp} : ∀ {vs us : List V} {ns ms : List Nat}, TIs Y P w K mg base k H vs ns → TIs Y P w K mg base k H us ms → TIs Y P w K mg base k H (vs ++ us) (ns ++ ms)
  | _, _, _, _, .nil, r => r
  | _, _, _, _, .cons a t, r => .cons a (TIs.append t r)
/-- all that were kept raise -/
theorem TIs.ofEnts {k : Nat} {cells : List (Str × Addr)} {q : Str} {H' H2 : Hp} (hx : Ex H' H2) : ∀ {vs : List V} {xs : List (LamX3 × Nat)}, Ents cells q H' vs xs → (∀ x ∈ xs, x.2 < 15 ∧ ∀ f c', H' f = some (LM.LamO f ⟨"<lambda>", q, x.1.1, [], x.1.2.2, cloFrom cells x.1.2.2.names [], c'⟩ x.1.2.1) → H' c' = some (LamX.CodeO c' q) → Thunk Y P w K mg base k x.2 f H2) →
    TIs Y P w K mg base k H2 vs (xs.map (·.2))
  | _, _, .nil, _ => .nil
  | _, _, .cons ⟨t, f, c', a, b, c, d⟩ r, h => .cons ⟨t, f, a, hx _ _ b, (h _ List.mem_cons_self).1, (h _ List.mem_cons_self).2 f c' c d⟩ (TIs.ofEnts hx r fun x hm => h x (List.mem_cons_of_mem _ hm))
end
end CP
set_option Elab.async false
set_option linter.all false
set_option maxRecDepth 100000
set_option maxHeartbeats 4000000
namespace CP
open PySem L2 CL CM
theorem passM {X : Cx} {E E' : XK} (h : ∀ c d H, E' c d H → E c d H) (p : Passes (L2.CX X.prog X.w) X E) : Passes (L2.CX X.prog X.w) X E' := fun pins σ H s e s' I ⟨a, B, H', cls, d, z1, z2, z3, z4, z5, z6, z7, z8⟩ => p pins σ H s e s' I ⟨a, B, H', cls, d, z1, z2, z3, z4, z5, z6, z7, h _ _ _ z8⟩
section
variable {σ : VSt} {G : Hp} {ta : TA} {C : Addr} {E : XK}
theorem x_callW {pre : Hp → List V → Prop} (h : ∀ G1 H1, Ex G G1 → Ex G1 H1 → ∀ Q : List V → Hp → Prop, (∀ vs G2 H2, Grow M0 G1 H1 G2 H2 → pre G2 vs → Q vs H2) → ta σ H1 Q) : EvX (tCall (spX pre C) [] E ta) σ G C E := fun G1 H1 e1 e2 x Q =>
  h G1 H1 e1 e2 _ fun vs G2 H2 g hv => by
    rw [List.append_nil]
    exact ⟨G2, g.gh, hv, x.up g⟩
end
def P_short6 (Z : Ads) : Hp → List V → Prop := fun G vs => ∃ (x r m : V) (n : Nat) (ds : List PyData), vs = [x, r, m] ∧ TO Z.aR G r n ds ∧ ((∃ T, Odd G m T) ∨ m = .int 401)
def P_log9 (Y : AdY) : Hp → List V → Prop := fun G vs => ∃ (x r : V) (n : Nat) (ds : List PyData), vs = [x, r] ∧ TO Y.aT G r n ds
/-- all that the kept lambdas call -/
structure PrA (P : Program) (w : World) (K : PySem.W.Frag) (mg : Str → Option Value) (base : Heap) (Z : Ads) (Y : AdY) : Prop where
  T0 : MkOk P w K mg base (L2.CX P w) Y.aT 6 (spStar 2 (spX P_initT0 (Y.ex 0)))
  T1 : MkOk P w K mg base (L2.CX P w) Y.aT 6 (spStar 2 (spX P_initR3 (Y.ex 1)))
  R0 : MkOk P w K mg base (L2.CX P w) Z.aR 6 (spStar 2 (spX P_initR0 (Y.ex 0)))
  R3 : MkOk P w K mg base (L2.CX P w) Z.aR 6 (spStar 2 (spX P_initR3 (Y.ex 3)))
  rT0 : CmOk P w K mg base (L2.CX P w) Y.aT "read" 8 (spX P_readT0 (Y.ex 0))
  rT7 : CmOk P w K mg base (L2.CX P w) Y.aT "read" 8 (spX P_read (Y.ex 7))
  rR7 : CmOk P w K mg base (L2.CX P w) Z.aR "read" 8 (spX P_read (Y.ex 7))
  cR : CaOk P w K mg base (L2.CX P w) Z.aR 6 (spX (P_callR Z.aR) (Y.ex 4))
  cT : CaOk P w K mg base (L2.CX P w) Y.aT 6 (spX (P_callR Y.aT) (Y.ex 4))
  verd : FnX P w K mg base "verdict" 6 (spX (P_verd2 Z) (Y.ex 4))
  shows : FnX P w K mg base "shows_verdict" 6 (spX (P_verd3 Z) (Y.ex 4))
  walk : FnX P w K mg base "walk" 4 (spX (P_walk Z) (Y.ex 5))
  sh6 : MkOk P w K mg base (L2.CX P w) Y.aH 4 (spX (P_short6 Z) (Y.ex 6))
  sb6 : MkOk P w K mg base (L2.CX P w) Y.aB 4 (spX (P_short6 Z) (Y.ex 6))
  lg9 : MkOk P w K mg base (L2.CX P w) Y.aL 2 (spX (P_log9 Y) (Y.ex 9))
  model : FnX P w K mg base "model" 2 (spX P_odd1 (Y.ex 9))
  groups : FnX P w K mg base "groups" 2 (spX P_odd1 (Y.ex 9))
  least : FnX P w K mg base "least" 2 (spX P_odd1 (Y.ex 9))
  foll : GnOk P w K mg base "following" 2 (spFollX Y)
  noStop : PySem.W.subIn K (.ref (Y.ex 9)) (.type "StopIteration") = some false
  aT8 : OpOk P w K mg base Y.aT .Add 4 (spX (P_like8 Z) (Y.ex 8))
  mT8 : OpOk P w K mg base Y.aT .Mult 4 (spX (P_like8 Z) (Y.ex 8))
  aR9 : OpOk P w K mg base Z.aR .Add 9 (spX (P_addR9 Z) (Y.ex 9))
  aR10 : OpOk P w K mg base Z.aR .Add 9 (spX (P_addR10 Z) (Y.ex 10))
  aT10 : OpOk P w K mg base Y.aT .Add 4 (spX (P_like10 Y) (Y.ex 10))
  aT11 : OpOk P w K mg base Y.aT .Add 4 (spX (P_addT11 Y) (Y.ex 11))
  mT11 : OpOk P w K mg base Y.aT .Mult 4 (spX (P_mulT11 Y) (Y.ex 11))
  opT : ∀ T, T = "NoneType" ∨ T = "bool" ∨ T = "str" ∨ T = "int" ∨ T = "list" ∨ T = "dict" ∨ T = "tuple" → RArg K Y.aT .Add (.type T)
  opR : ∀ T, T = "NoneType" ∨ T = "bool" ∨ T = "str" ∨ T = "int" ∨ T = "list" ∨ T = "dict" ∨ T = "tuple" → RArg K Z.aR .Add (.type T)
  opM : RArg K Y.aT .Mult (.ref Z.aR)
section
variable {P : Program} {w : World} {K : PySem.W.Frag} {mg : Str → Option Value} {base : Heap} {Z : Ads} {Y : AdY}
/-- what the body of a kept lambda owes -/
abbrev LBody (P : Program) (w : World) (K : PySem.W.Frag) (mg : Str → Option Value) (base : Heap) (Y : AdY) (k n : Nat) (fr : List Str) (ws : List V) (G : Hp) (L : LamX3) : Prop :=
  ∀ (F : NdefX.NF) (f : Addr), F.scope = L.2.2 → ∀ (A : Around) (outer : List Env) (s : Shared) (H0 : Hp) (E : XK), Room k (A.deeper (NdefX.envF F f s.heap.objs.size)) → ∃ te, PE (NdefX.ncx (L2.CX P w) P w K mg base fr F f A outer s H0 E) L.2.1 te ∧ EvX te (ws.map some) G (Y.ex n) E
theorem lb0 {G : Hp} {o : V} {t : String} (T : Txt Z K mg) (U : TxtU Z Y K mg) (X : PrA P w K mg base Z Y) (ho : Odd G o t) : LBody P w K mg base Y 12 0 ["_law_odd"] [o] G (lamAt s_law_calls 3) := by
  intro F f hs A outer s H0 E hr
  obtain ⟨nm, q, ps, bd, sc, cl, c⟩ := F
  subst hs
  have X_T0 := X.T0
  exact ⟨_, (pe_mkK X_T0 (hr.mono (by decide)) rfl U.k_Table (passB (takes_of rfl rfl rfl rfl)) (pa_cons (pv 0) pa_nil)), x_makeS (us := [o]) (rest := []) (w_cons (v_var rfl) w_nil) rfl (by decide) fun G' x p ob e _ _ => ⟨.ref x, o, .ref p, t, rfl, ho.up e⟩⟩
theorem lb1 {G : Hp} {o : V} {t : String} (T : Txt Z K mg) (U : TxtU Z Y K mg) (X : PrA P w K mg base Z Y) (ho : Odd G o t) : LBody P w K mg base Y 12 0 ["_law_odd"] [o] G (lamAt s_law_calls 4) := by
  intro F f hs A outer s H0 E hr
  obtain ⟨nm, q, ps, bd, sc, cl, c⟩ := F
  subst hs
  have X_R0 := X.R0
  exact ⟨_, (pe_mkK X_R0 (hr.mono (by decide)) rfl U.k_Rules (passB (takes_of rfl rfl rfl rfl)) (pa_cons (pv 0) (pa_cons (pv 0) pa_nil))), x_makeS (us := [o]) (rest := [o]) (w_cons (v_var rfl) (w_cons (v_var rfl) w_nil)) rfl (by show 1 ≤ 100000; decide) fun G' x p ob e _ _ => ⟨.ref x, o, .ref p, t, rfl, ho.up e⟩⟩
theorem lb2 {G : Hp}  (T : Txt Z K mg) (U : TxtU Z Y K mg) (W : TxtW Z Y K) (X : PrA P w K mg base Z Y)  : LBody P w K mg base Y 12 0 [] [] G (lamAt s_law_calls 5) := by
  intro F f hs A outer s H0 E hr
  obtain ⟨nm, q, ps, bd, sc, cl, c⟩ := F
  subst hs
  have X_T0 := X.rT0
  exact ⟨_, (pe_cmK (pl := _) (pe_glob (v := .ref Y.aT) rfl U.k_Table rfl) X_T0 (hr.mono (by decide)) (passB (takes_of rfl rfl rfl rfl)) (pa_cons pe_int (pa_cons pe_str pa_nil))), x_cmeth v_c (w_cons v_c (w_cons v_c w_nil)) fun G' e => ⟨_, _, rfl⟩⟩
theorem lb3 {G : Hp} {o : V} {t : String} (T : Txt Z K mg) (U : TxtU Z Y K mg) (W : TxtW Z Y K) (X : PrA P w K mg base Z Y) (ho : Odd G o t) : LBody P w K mg base Y 12 1 ["_law_odd"] [o] G (lamAt s_law_calls 6) := by
  intro F f hs A outer s H0 E hr
  obtain ⟨nm, q, ps, bd, sc, cl, c⟩ := F
  subst hs
  have X_T1 := X.T1
  exact ⟨_, (pe_mkK X_T1 (hr.mono (by decide)) rfl U.k_Table (passB (takes_of rfl rfl rfl rfl)) (pa_cons pe_int (pa_cons (pv 0) pa_nil))), x_makeS (us := [.int ((2 : Nat) : Int)]) (rest := [o]) (w_cons v_c (w_cons (v_var rfl) w_nil)) rfl (by show 1 ≤ 100000; decide) fun G' x p ob e hp _ => ⟨.ref x, o, p, ob, t, rfl, hp, ho.up e⟩⟩
theorem lb4 {G : Hp} {o : V} {t : String} (T : Txt Z K mg) (U : TxtU Z Y K mg) (W : TxtW Z Y K) (X : PrA P w K mg base Z Y) (ho : Odd G o t) : LBody P w K mg base Y 12 3 ["_law_odd"] [o] G (lamAt s_law_calls 7) := by
  intro F f hs A outer s H0 E hr
  obtain ⟨nm, q, ps, bd, sc, cl, c⟩ := F
  subst hs
  have X_R3 := X.R3
  exact ⟨_, (pe_mkK X_R3 (hr.mono (by decide)) rfl U.k_Rules (passB (takes_of rfl rfl rfl rfl)) (pa_cons pe_int (pa_cons (pv 0) pa_nil))), x_makeS (us := [.int ((2 : Nat) : Int)]) (rest := [o]) (w_cons v_c (w_cons (v_var rfl) w_nil)) rfl (by show 1 ≤ 100000; decide) fun G' x p ob e hp _ => ⟨.ref x, o, p, ob, t, rfl, hp, ho.up e⟩⟩
theorem lb5 {G : Hp} {v2 : V} {d2 : List PyData} {o : V} {t : String} (T : Txt Z K mg) (U : TxtU Z Y K mg) (W : TxtW Z Y K) (X : PrA P w K mg base Z Y) (h2 : TO Z.aR G v2 2 d2) (ho : Odd G o t) : LBody P w K mg base Y 12 4 ["_law_two", "_law_odd"] [v2, o] G (lamAt s_law_calls 8) := by
  intro F f hs A outer s H0 E hr
  obtain ⟨nm, q, ps, bd, sc, cl, c⟩ := F
  subst hs
  have X_c := X.cR
  obtain ⟨p2, dx2, t2, e2, z2, y2⟩ := id h2.ex
  subst e2
  exact ⟨_, (pe_caK (pv 0) X_c (hr.mono (by decide)) (passB (takes_of rfl rfl rfl rfl)) (pa_cons (pv 1) pa_nil)), x_callO (v_var rfl) z2 (w_cons (v_var rfl) w_nil) fun G' e => ⟨p2, dx2, 2, t2, o, t, rfl, e _ _ z2, ho.up e⟩⟩
theorem lb6 {G : Hp} {vT : V} {dT : List PyData} {o : V} {t : String} (T : Txt Z K mg) (U : TxtU Z Y K mg) (W : TxtW Z Y K) (X : PrA P w K mg base Z Y) (hT : TO Y.aT G vT 2 dT) (ho : Odd G o t) : LBody P w K mg base Y 12 4 ["_law_table", "_law_odd"] [vT, o] G (lamAt s_law_calls 9) := by
  intro F f hs A outer s H0 E hr
  obtain ⟨nm, q, ps, bd, sc, cl, c⟩ := F
  subst hs
  have X_c := X.cT
  obtain ⟨pT, dxT, tT, eT, zT, yT⟩ := id hT.ex
  subst eT
  exact ⟨_, (pe_caK (pv 0) X_c (hr.mono (by decide)) (passB (takes_of rfl rfl rfl rfl)) (pa_cons (pv 1) pa_nil)), x_callO (v_var rfl) zT (w_cons (v_var rfl) w_nil) fun G' e => ⟨pT, dxT, 2, tT, o, t, rfl, e _ _ zT, ho.up e⟩⟩
theorem lb7 {G : Hp} {v2 : V} {d2 : List PyData} {o : V} {t : String} (T : Txt Z K mg) (U : TxtU Z Y K mg) (W : TxtW Z Y K) (X : PrA P w K mg base Z Y) (h2 : TO Z.aR G v2 2 d2) (ho : Odd G o t) : LBody P w K mg base Y 12 4 ["_law_two", "_law_odd"] [v2, o] G (lamAt s_law_calls 10) := by
  intro F f hs A outer s H0 E hr
  obtain ⟨nm, q, ps, bd, sc, cl, c⟩ := F
  subst hs
  have X_v := X.verd
  exact ⟨_, (pe_fx X_v (hr.mono (by decide)) (passB (takes_of rfl rfl rfl rfl)) rfl (pa_cons (pv 0) (pa_cons (pv 1) pa_nil))), x_call (vs := [v2, o]) (w_cons (v_var rfl) (w_cons (v_var rfl) w_nil)) fun G' e => ⟨rfl, v2, o, [], d2, rfl, h2.up e, .inl ⟨t, ho.up e⟩⟩⟩
theorem lb8 {G : Hp} {v2 : V} {d2 : List PyData} (T : Txt Z K mg) (U : TxtU Z Y K mg) (W : TxtW Z Y K) (X : PrA P w K mg base Z Y) (h2 : TO Z.aR G v2 2 d2) : LBody P w K mg base Y 12 4 ["_law_two"] [v2] G (lamAt s_law_calls 11) := by
  intro F f hs A outer s H0 E hr
  obtain ⟨nm, q, ps, bd, sc, cl, c⟩ := F
  subst hs
  have X_v := X.shows
  exact ⟨_, (pe_fx X_v (hr.mono (by decide)) (passB (takes_of rfl rfl rfl rfl)) rfl (pa_cons (pv 0) (pa_cons (pe_tup (pa_cons pe_str (pa_cons pe_int (pa_cons pe_int pa_nil)))) (pa_cons pe_non pa_nil)))), x_callW fun G1 H1 e1 e2 Q q => (v_var rfl : EvV (tVar 0) [some v2] G v2) G1 H1 e1 e2 _ fun G2 H2 g2 =>
    (d_tup (a_cons d_str (a_cons d_int (a_cons d_int a_nil))) : EvD _ [some v2] G (RU (false, 0, 0))).go' (e1.trans g2.g) g2.gh fun r G3 H3 g3 hr3 => (q _ G3 H3 (g2.trans g3) ⟨rfl, v2, r, [.non], d2, rfl, h2.up ((e1.trans g2.g).trans g3.g), .inr ⟨hr3, by decide⟩⟩)⟩
theorem lb9 {G : Hp} {v2 : V} {d2 : List PyData} {o : V} {t : String} (T : Txt Z K mg) (U : TxtU Z Y K mg) (W : TxtW Z Y K) (X : PrA P w K mg base Z Y) (h2 : TO Z.aR G v2 2 d2) (ho : Odd G o t) : LBody P w K mg base Y 12 5 ["_law_two", "_law_odd"] [v2, o] G (lamAt s_law_calls 12) := by
  intro F f hs A outer s H0 E hr
  obtain ⟨nm, q, ps, bd, sc, cl, c⟩ := F
  subst hs
  have X_v := X.walk
  exact ⟨_, (pe_fx X_v (hr.mono (by decide)) (passB (takes_of rfl rfl rfl rfl)) rfl (pa_cons (pv 0) (pa_cons pe_int (pa_cons (pv 1) pa_nil)))), x_call (vs := [v2, .int 0, o]) (w_cons (v_var rfl) (w_cons v_c (w_cons (v_var rfl) w_nil))) fun G' e => ⟨v2, .int 0, o, d2, rfl, h2.up e, .inl ⟨rfl, t, ho.up e⟩⟩⟩
theorem lb10 {G : Hp} {v2 : V} {d2 : List PyData} (T : Txt Z K mg) (U : TxtU Z Y K mg) (W : TxtW Z Y K) (X : PrA P w K mg base Z Y) (h2 : TO Z.aR G v2 2 d2) : LBody P w K mg base Y 12 5 ["_law_two"] [v2] G (lamAt s_law_calls 13) := by
  intro F f hs A outer s H0 E hr
  obtain ⟨nm, q, ps, bd, sc, cl, c⟩ := F
  subst hs
  have X_v := X.walk
  exact ⟨_, (pe_fx X_v (hr.mono (by decide)) (passB (takes_of rfl rfl rfl rfl)) rfl (pa_cons (pv 0) (pa_cons pe_int (pa_cons pe_int pa_nil)))), x_call (vs := [v2, .int 2, .int 0]) (w_cons (v_var rfl) (w_cons v_c (w_cons v_c w_nil))) fun G' e => ⟨v2, .int 2, .int 0, d2, rfl, h2.up e, .inr ⟨rfl, rfl⟩⟩⟩
theorem lb11 {G : Hp} {v2 : V} {d2 : List PyData} {o : V} {t : String} (T : Txt Z K mg) (U : TxtU Z Y K mg) (W : TxtW Z Y K) (X : PrA P w K mg base Z Y) (h2 : TO Z.aR G v2 2 d2) (ho : Odd G o t) : LBody P w K mg base Y 12 6 ["_law_two", "_law_odd"] [v2, o] G (lamAt s_law_calls 14) := by
  intro F f hs A outer s H0 E hr
  obtain ⟨nm, q, ps, bd, sc, cl, c⟩ := F
  subst hs
  have X_v := X.sh6
  exact ⟨_, (pe_mkK X_v (hr.mono (by decide)) rfl U.k_Short (passB (takes_of rfl rfl rfl rfl)) (pa_cons (pv 0) (pa_cons (pv 1) pa_nil))), x_make (us := [v2, o]) (w_cons (v_var rfl) (w_cons (v_var rfl) w_nil)) fun G' x e => ⟨.ref x, v2, o, 2, d2, rfl, h2.up e, .inl ⟨t, ho.up e⟩⟩⟩
theorem lb12 {G : Hp} {v2 : V} {d2 : List PyData} (T : Txt Z K mg) (U : TxtU Z Y K mg) (W : TxtW Z Y K) (X : PrA P w K mg base Z Y) (h2 : TO Z.aR G v2 2 d2) : LBody P w K mg base Y 12 6 ["_law_two"] [v2] G (lamAt s_law_calls 15) := by
  intro F f hs A outer s H0 E hr
  obtain ⟨nm, q, ps, bd, sc, cl, c⟩ := F
  subst hs
  have X_v := X.sb6
  exact ⟨_, (pe_mkK X_v (hr.mono (by decide)) rfl U.k_StrictShort (passB (takes_of rfl rfl rfl rfl)) (pa_cons (pv 0) (pa_cons pe_int pa_nil))), x_make (us := [v2, .int 401]) (w_cons (v_var rfl) (w_cons v_c w_nil)) fun G' x e => ⟨.ref x, v2, .int 401, 2, d2, rfl, h2.up e, .inr rfl⟩⟩
theorem lb13 {G : Hp} {o : V} {t : String} (T : Txt Z K mg) (U : TxtU Z Y K mg) (W : TxtW Z Y K) (X : PrA P w K mg base Z Y) (ho : Odd G o t) : LBody P w K mg base Y 12 7 ["_law_odd"] [o] G (lamAt s_law_calls 16) := by
  intro F f hs A outer s H0 E hr
  obtain ⟨nm, q, ps, bd, sc, cl, c⟩ := F
  subst hs
  have X_v := X.rT7
  exact ⟨_, (pe_cmK (pl := _) (pe_glob (v := .ref Y.aT) rfl U.k_Table rfl) X_v (hr.mono (by decide)) (passB (takes_of rfl rfl rfl rfl)) (pa_cons pe_int (pa_cons (pv 0) pa_nil))), x_cmeth v_c (w_cons (v_c (v := .int ((2 : Nat) : Int))) (w_cons (v_var rfl) w_nil)) fun G' e => ⟨_, o, t, rfl, ho.up e⟩⟩
theorem lb14 {G : Hp} {o : V} {t : String} (T : Txt Z K mg) (U : TxtU Z Y K mg) (W : TxtW Z Y K) (X : PrA P w K mg base Z Y) (ho : Odd G o t) : LBody P w K mg base Y 12 7 ["_law_odd"] [o] G (lamAt s_law_calls 17) := by
  intro F f hs A outer s H0 E hr
  obtain ⟨nm, q, ps, bd, sc, cl, c⟩ := F
  subst hs
  have X_v := X.rR7
  exact ⟨_, (pe_cmK (pl := _) (pe_glob (v := .ref Z.aR) rfl U.k_Rules rfl) X_v (hr.mono (by decide)) (passB (takes_of rfl rfl rfl rfl)) (pa_cons pe_int (pa_cons (pv 0) pa_nil))), x_cmeth v_c (w_cons (v_c (v := .int ((2 : Nat) : Int))) (w_cons (v_var rfl) w_nil)) fun G' e => ⟨_, o, t, rfl, ho.up e⟩⟩
theorem lb15 {G : Hp} {vT : V} {dT : List PyData} {o : V} {t : String} (T : Txt Z K mg) (U : TxtU Z Y K mg) (W : TxtW Z Y K) (X : PrA P w K mg base Z Y) (hT : TO Y.aT G vT 2 dT) (ho : Odd G o t) : LBody P w K mg base Y 12 8 ["_law_table", "_law_odd"] [vT, o] G (lamAt s_law_calls 18) := by
  intro F f hs A outer s H0 E hr
  obtain ⟨nm, q, ps, bd, sc, cl, c⟩ := F
  subst hs
  have X_v := X.aT8
  obtain ⟨pT, dxT, tT, eT, zT, yT⟩ := id hT.ex
  subst eT
  exact ⟨_, (pe_opK X_v (hr.mono (by decide)) (passB (takes_of rfl rfl rfl rfl)) (pv 0) (pv 1)), x_op (v_var rfl) zT (v_var rfl) (fun H' e => ho.ty e) (X.opT t (CP.Odd.seven ho)) fun G' e => ⟨_, o, rfl, .inl ⟨t, ho.up e⟩⟩⟩
theorem lb16 {G : Hp} {vT : V} {dT : List PyData} {v2 : V} {d2 : List PyData} (T : Txt Z K mg) (U : TxtU Z Y K mg) (W : TxtW Z Y K) (X : PrA P w K mg base Z Y) (hT : TO Y.aT G vT 2 dT) (h2 : TO Z.aR G v2 2 d2) : LBody P w K mg base Y 12 8 ["_law_table", "_law_two"] [vT, v2] G (lamAt s_law_calls 19) := by
  intro F f hs A outer s H0 E hr
  obtain ⟨nm, q, ps, bd, sc, cl, c⟩ := F
  subst hs
  have X_v := X.mT8
  obtain ⟨pT, dxT, tT, eT, zT, yT⟩ := id hT.ex
  subst eT
  exact ⟨_, (pe_opK X_v (hr.mono (by decide)) (passB (takes_of rfl rfl rfl rfl)) (pv 0) (pv 1)), x_op (v_var rfl) zT (v_var rfl) (fun H' e => h2.ty W.i_Rules e) X.opM fun G' e => ⟨_, v2, rfl, .inr ⟨2, d2, h2.up e⟩⟩⟩
theorem lb17 {G : Hp} {v2 : V} {d2 : List PyData} {o : V} {t : String} (T : Txt Z K mg) (U : TxtU Z Y K mg) (W : TxtW Z Y K) (X : PrA P w K mg base Z Y) (h2 : TO Z.aR G v2 2 d2) (ho : Odd G o t) : LBody P w K mg base Y 12 9 ["_law_two", "_law_odd"] [v2, o] G (lamAt s_law_calls 20) := by
  intro F f hs A outer s H0 E hr
  obtain ⟨nm, q, ps, bd, sc, cl, c⟩ := F
  subst hs
  have X_v := X.aR9
  obtain ⟨p2, dx2, t2, e2, z2, y2⟩ := id h2.ex
  subst e2
  exact ⟨_, (pe_opK X_v (hr.mono (by decide)) (passB (takes_of rfl rfl rfl rfl)) (pv 0) (pv 1)), x_op (v_var rfl) z2 (v_var rfl) (fun H' e => ho.ty e) (X.opR t (CP.Odd.seven ho)) fun G' e => ⟨_, o, t, rfl, ho.up e⟩⟩
theorem lb18 {G : Hp} {vT : V} {dT : List PyData} (T : Txt Z K mg) (U : TxtU Z Y K mg) (W : TxtW Z Y K) (X : PrA P w K mg base Z Y) (hT : TO Y.aT G vT 2 dT) : LBody P w K mg base Y 12 9 ["_law_table"] [vT] G (lamAt s_law_calls 21) := by
  intro F f hs A outer s H0 E hr
  obtain ⟨nm, q, ps, bd, sc, cl, c⟩ := F
  subst hs
  have X_v := X.lg9
  exact ⟨_, (pe_mkK X_v (hr.mono (by decide)) rfl U.k_Log (passB (takes_of rfl rfl rfl rfl)) (pa_cons (pv 0) pa_nil)), x_make (us := [vT]) (w_cons (v_var rfl) w_nil) fun G' x e => ⟨.ref x, vT, 2, dT, rfl, hT.up e⟩⟩
theorem lb19 {G : Hp} {o : V} {t : String} (T : Txt Z K mg) (U : TxtU Z Y K mg) (W : TxtW Z Y K) (X : PrA P w K mg base Z Y) (ho : Odd G o t) : LBody P w K mg base Y 12 9 ["_law_odd"] [o] G (lamAt s_law_calls 22) := by
  intro F f hs A outer s H0 E hr
  obtain ⟨nm, q, ps, bd, sc, cl, c⟩ := F
  subst hs
  have X_v := X.model
  exact ⟨_, (pe_fx X_v (hr.mono (by decide)) (passB (takes_of rfl rfl rfl rfl)) rfl (pa_cons (pv 0) pa_nil)), x_call (vs := [o]) (w_cons (v_var rfl) w_nil) fun G' e => ⟨o, t, rfl, ho.up e⟩⟩
theorem lb20 {G : Hp} {o : V} {t : String} (T : Txt Z K mg) (U : TxtU Z Y K mg) (W : TxtW Z Y K) (X : PrA P w K mg base Z Y) (ho : Odd G o t) : LBody P w K mg base Y 12 9 ["_law_odd"] [o] G (lamAt s_law_calls 23) := by
  intro F f hs A outer s H0 E hr
  obtain ⟨nm, q, ps, bd, sc, cl, c⟩ := F
  subst hs
  have X_v := X.groups
  exact ⟨_, (pe_fx X_v (hr.mono (by decide)) (passB (takes_of rfl rfl rfl rfl)) rfl (pa_cons (pv 0) pa_nil)), x_call (vs := [o]) (w_cons (v_var rfl) w_nil) fun G' e => ⟨o, t, rfl, ho.up e⟩⟩
theorem lb21 {G : Hp} {o : V} {t : String} (T : Txt Z K mg) (U : TxtU Z Y K mg) (W : TxtW Z Y K) (X : PrA P w K mg base Z Y) (ho : Odd G o t) : LBody P w K mg base Y 12 9 ["_law_odd"] [o] G (lamAt s_law_calls 24) := by
  intro F f hs A outer s H0 E hr
  obtain ⟨nm, q, ps, bd, sc, cl, c⟩ := F
  subst hs
  have X_v := X.least
  exact ⟨_, (pe_fx X_v (hr.mono (by decide)) (passB (takes_of rfl rfl rfl rfl)) rfl (pa_cons (pv 0) pa_nil)), x_call (vs := [o]) (w_cons (v_var rfl) w_nil) fun G' e => ⟨o, t, rfl, ho.up e⟩⟩
theorem lb22 {G : Hp} {o : V} {t : String} (T : Txt Z K mg) (U : TxtU Z Y K mg) (W : TxtW Z Y K) (X : PrA P w K mg base Z Y) (ho : Odd G o t) : LBody P w K mg base Y 12 9 ["_law_odd"] [o] G (lamAt s_law_calls 25) := by
  intro F f hs A outer s H0 E hr
  obtain ⟨nm, q, ps, bd, sc, cl, c⟩ := F
  subst hs
  have X_v := X.foll
  have NS := X.noStop
  exact ⟨_, (pe_listX X_v (hr.mono (by decide)) (fun E' hE => (passM hE (passB (takes_of rfl rfl rfl rfl)))) NS rfl rfl T.b_list (pa_cons (pv 0) pa_nil)), x_listF rfl ho⟩
theorem lb23 {G : Hp} {v2 : V} {d2 : List PyData} {v3 : V} {d3 : List PyData} (T : Txt Z K mg) (U : TxtU Z Y K mg) (W : TxtW Z Y K) (X : PrA P w K mg base Z Y) (h2 : TO Z.aR G v2 2 d2) (h3 : TO Z.aR G v3 3 d3) : LBody P w K mg base Y 12 10 ["_law_two", "_law_three"] [v2, v3] G (lamAt s_law_calls 26) := by
  intro F f hs A outer s H0 E hr
  obtain ⟨nm, q, ps, bd, sc, cl, c⟩ := F
  subst hs
  have X_v := X.aR10
  obtain ⟨p2, dx2, t2, e2, z2, y2⟩ := id h2.ex
  subst e2
  exact ⟨_, (pe_opK X_v (hr.mono (by decide)) (passB (takes_of rfl rfl rfl rfl)) (pv 0) (pv 1)), x_op (v_var rfl) z2 (v_var rfl) (fun H' e => h3.ty W.i_Rules e) .same fun G' e => ⟨_, v3, 2, 3, d2, d3, rfl, h2.up e, h3.up e, by decide⟩⟩
theorem lb24 {G : Hp} {vT : V} {dT : List PyData} {vO : V} (T : Txt Z K mg) (U : TxtU Z Y K mg) (W : TxtW Z Y K) (X : PrA P w K mg base Z Y) (hT : TO Y.aT G vT 2 dT) (hO : TO Y.aT G vO 3 [RW [1, 2, 100]]) : LBody P w K mg base Y 12 10 ["_law_table", "_law_other"] [vT, vO] G (lamAt s_law_calls 27) := by
  intro F f hs A outer s H0 E hr
  obtain ⟨nm, q, ps, bd, sc, cl, c⟩ := F
  subst hs
  have X_v := X.aT10
  obtain ⟨pT, dxT, tT, eT, zT, yT⟩ := id hT.ex
  subst eT
  exact ⟨_, (pe_opK X_v (hr.mono (by decide)) (passB (takes_of rfl rfl rfl rfl)) (pv 0) (pv 1)), x_op (v_var rfl) zT (v_var rfl) (fun H' e => hO.ty W.i_Table e) .same fun G' e => ⟨_, vO, 2, 3, dT, _, rfl, hT.up e, hO.up e, by decide⟩⟩
theorem lb25 {G : Hp} {vL : V} (T : Txt Z K mg) (U : TxtU Z Y K mg) (W : TxtW Z Y K) (X : PrA P w K mg base Z Y) (hL : TO Y.aT G vL 1 (rows7.map RW)) : LBody P w K mg base Y 12 11 ["_law_long"] [vL] G (lamAt s_law_calls 28) := by
  intro F f hs A outer s H0 E hr
  obtain ⟨nm, q, ps, bd, sc, cl, c⟩ := F
  subst hs
  have X_v := X.aT11
  obtain ⟨pL, dxL, tL, eL, zL, yL⟩ := id hL.ex
  subst eL
  exact ⟨_, (pe_opK X_v (hr.mono (by decide)) (passB (takes_of rfl rfl rfl rfl)) (pv 0) (pv 0)), x_op (v_var rfl) zL (v_var rfl) (fun H' e => hL.ty W.i_Table e) .same fun G' e => ⟨_, _, 1, _, _, rfl, hL.up e, hL.up e, by rw [List.length_map, List.length_replicate]; decide, by rw [List.length_map, List.length_replicate]; decide⟩⟩
theorem lb26 {G : Hp} {vO : V} (T : Txt Z K mg) (U : TxtU Z Y K mg) (W : TxtW Z Y K) (X : PrA P w K mg base Z Y) (hO : TO Y.aT G vO 3 [RW [1, 2, 100]]) : LBody P w K mg base Y 12 11 ["_law_other"] [vO] G (lamAt s_law_calls 29) := by
  intro F f hs A outer s H0 E hr
  obtain ⟨nm, q, ps, bd, sc, cl, c⟩ := F
  subst hs
  have X_v := X.mT11
  obtain ⟨pO, dxO, tO, eO, zO, yO⟩ := id hO.ex
  subst eO
  exact ⟨_, (pe_opK X_v (hr.mono (by decide)) (passB (takes_of rfl rfl rfl rfl)) (pv 0) (pv 0)), x_op (v_var rfl) zO (v_var rfl) (fun H' e => hO.ty W.i_Table e) .same fun G' e => ⟨_, _, rfl, hO.up e, hO.up e⟩⟩
end
end CP
set_option Elab.async false
set_option linter.all false
set_option maxRecDepth 100000
set_option maxHeartbeats 4000000
/-! Values of a kind; the growing list of kept lambdas. -/
namespace CL
open PySem L2
/-- te gives a value of S -/
def EvP (te : TE) (σ : VSt) (G : Hp) (S : Hp → V → Prop) : Prop := ∀ G1 H1, Ex G G1 → Ex G1 H1 → ∀ Q : VK, (∀ v G2 H2, Grow M0 G1 H1 G2 H2 → S G2 v → Q v H2) → te σ H1 Q
def EvPs (ta : TA) (σ : VSt) (G : Hp) (S : Hp → List V → Prop) : Prop := ∀ G1 H1, Ex G G1 → Ex G1 H1 → ∀ Q : List V → Hp → Prop, (∀ vs G2 H2, Grow M0 G1 H1 G2 H2 → S G2 vs → Q vs H2) → ta σ H1 Q
def Up1 (S : Hp → V → Prop) : Prop := ∀ {G G' : Hp} {v : V}, S G v → Ex G G' → S G' v
section
variable {σ : VSt} {G H : Hp} {te ta tb tc : TE} {tr : TA} {S S1 S2 S3 : Hp → V → Prop} {R : Hp → List V → Prop} {tz : TS} {D : Ends} {K : PySem.W.Frag}
theorem EvP.mono (e : Ex G H) (h : EvP te σ G S) : EvP te σ H S := fun G1 H1 a => h G1 H1 (e.trans a)
theorem EvP.weak (h : EvP te σ G S) (w : ∀ G v, S G v → S1 G v) : EvP te σ G S1 := fun G1 H1 e1 e2 Q q => h G1 H1 e1 e2 Q fun v G2 H2 g s => q v G2 H2 g (w _ _ s)
theorem p_v {v : V} (h : EvV te σ G v) (hs : ∀ G', Ex G G' → S G' v) : EvP te σ G S := fun G1 H1 e1 e2 Q q => h G1 H1 e1 e2 Q fun G2 H2 g => q v G2 H2 g (hs _ (e1.trans g.g))
theorem p_d {d : PyData} (h : EvD te σ G d) (hs : ∀ G' v, DD G' v d → S G' v) : EvP te σ G S := fun G1 H1 e1 e2 Q q => h.go' e1 e2 fun v G2 H2 g hv => q v G2 H2 g (hs _ _ hv)
theorem ps_nil : EvPs tNil σ G (fun _ vs => vs = []) := fun G1 H1 _ e2 Q q => q [] G1 H1 (Grow.refl e2) rfl
theorem ps_cons (h : EvP te σ G S) (u : Up1 S) (hr : EvPs tr σ G R) : EvPs (tCons te tr) σ G (fun G vs => ∃ v r, vs = v :: r ∧ S G v ∧ R G r) := fun G1 H1 e1 e2 Q q =>
  h G1 H1 e1 e2 _ fun v G2 H2 g hv => hr G2 H2 (e1.trans g.g) g.gh _ fun vs G3 H3 g3 hvs => q _ G3 H3 (g.trans g3) ⟨v, vs, rfl, u hv g3.g, hvs⟩
/-- [..], not changed later -/
theorem p_lst (h : EvPs tr σ G R) (hl : ∀ G vs, R G vs → vs.length ≤ 1000) (u : ∀ {G G' vs}, R G vs → Ex G G' → R G' vs) : EvP (tLst tr) σ G (fun G v => ∃ a xs, v = .ref a ∧ G a = some (.lst xs) ∧ R G xs) := fun G1 H1 e1 e2 Q q =>
  h G1 H1 e1 e2 _ fun vs G2 H2 g hvs => ⟨Evl.sz_of (Nat.le_trans (hl _ _ hvs) (by decide)), fun p hp => q _ (upd G2 p (.lst vs)) _ (g.trans (Grow.laid g.gh hp)) ⟨p, vs, rfl, upd_same, u hvs (Ex.frz (g.gh.back hp))⟩⟩
theorem p_lst0 : EvP (tLst tNil) σ G (fun G v => ∃ a, v = .ref a ∧ G a = some (.lst [])) := fun G1 H1 e1 e2 Q q =>
  ⟨Evl.sz_of (by show 0 ≤ 100000; decide), fun p hp => q _ (upd G1 p (.lst [])) _ (Grow.laid e2 hp) ⟨p, rfl, upd_same⟩⟩
theorem p_dnew : EvP tDNewK σ G (fun G v => ∃ a, v = .ref a ∧ G a = some (.dK [])) := fun G1 H1 e1 e2 Q q p hp =>
  q _ (upd G1 p (.dK [])) _ (Grow.laid e2 hp) ⟨p, rfl, upd_same⟩
theorem q_asgP {i : Nat} (h : EvP te σ G S) (e : Ex G H) (k : ∀ v G2 H2, Grow M0 G H G2 H2 → S G2 v → tz D (σ.set i (some v)) H2) : tSeq (tAsg te (gName i)) tz D σ H := h G H (Ex.refl G) e _ k
/-- a, b = .., .. -/
theorem asgT2 {i j : Nat} {nx : VSt → Hp → Prop} (h1 : EvP ta σ G S1) (u1 : Up1 S1) (h2 : EvP tb σ G S2) (e : Ex G H) (k : ∀ v w G2 H2, Grow M0 G H G2 H2 → S1 G2 v → S2 G2 w → nx ((σ.set i (some v)).set j (some w)) H2) :
    tTup (tCons ta (tCons tb tNil)) σ H fun x H1 => gTup K 2 (gCons (gName i) (gCons (gName j) gNil)) x σ H1 nx :=
  h1 G H (Ex.refl G) e _ fun v G1 H1 g1 s1 => h2 G1 H1 g1.g g1.gh _ fun w G2 H2 g2 s2 => ⟨(by show 2 ≤ sizeLine; decide), fun p hp => ⟨p, _, rfl, .inl (.inl upd_same), rfl, _, _, rfl, _, _, rfl, rfl, k v w G2 _ ((g1.trans g2).trans (Grow.mnew g2.gh hp)) (u1 s1 g2.g) s2⟩⟩
theorem asgT3 {i j l : Nat} {nx : VSt → Hp → Prop} (h1 : EvP ta σ G S1) (u1 : Up1 S1) (h2 : EvP tb σ G S2) (u2 : Up1 S2) (h3 : EvP tc σ G S3) (e : Ex G H) (k : ∀ v w x G2 H2, Grow M0 G H G2 H2 → S1 G2 v → S2 G2 w → S3 G2 x → nx (((σ.set i (some v)).set j (some w)).set l (some x)) H2) :
    tTup (tCons ta (tCons tb (tCons tc tNil))) σ H fun x H1 => gTup K 3 (gCons (gName i) (gCons (gName j) (gCons (gName l) gNil))) x σ H1 nx :=
  h1 G H (Ex.refl G) e _ fun v G1 H1 g1 s1 => h2 G1 H1 g1.g g1.gh _ fun w G2 H2 g2 s2 => h3 G2 H2 (g1.g.trans g2.g) g2.gh _ fun x G3 H3 g3 s3 => ⟨(by show 3 ≤ sizeLine; decide), fun p hp => ⟨p, _, rfl, .inl (.inl upd_same), rfl, _, _, rfl, _, _, rfl, _, _, rfl, rfl, k v w x G3 _ (((g1.trans g2).trans g3).trans (Grow.mnew g3.gh hp)) (u1 (u1 s1 g2.g) g3.g) (u2 s2 g3.g) s3⟩⟩
end
/-- all but the tables is kept -/
structure KeptT (T : List (Addr × Str)) (H H2 : Hp) : Prop where
  keep : ∀ b o, H b = some o → (∀ p ∈ T, b ≠ p.1) → H2 b = some o
  there : ∀ a, H2 a = none → H a = none
theorem KeptT.refl {T : List (Addr × Str)} {H : Hp} : KeptT T H H := ⟨fun _ _ h _ => h, fun _ h => h⟩
theorem KeptT.trans {T : List (Addr × Str)} {H H1 H2 : Hp} (a : KeptT T H H1) (b : KeptT T H1 H2) : KeptT T H H2 := ⟨fun x o h n => b.keep x o (a.keep x o h n) n, fun x h => a.there x (b.there x h)⟩
theorem KeptT.of {T : List (Addr × Str)} {G H G2 H2 : Hp} (g : Grow M0 G H G2 H2) : KeptT T H H2 := ⟨fun b o h _ => g.keep b o (fun z => z) h, g.there⟩
end CL
namespace CP
open PySem L2 CL CM
/-- the list at l holds the first n of ALL -/
structure LS (T : List (Addr × Str)) (G H0 H : Hp) (l : Addr) (cells : List (Str × Addr)) (q : Str) (ALL : List (LamX3 × Nat)) (n : Nat) : Prop where
  tabs : LamX.Tabs T H
  lst : ∃ vs, H l = some (.lst vs) ∧ Ents cells q H vs (ALL.take n)
  eG : Ex G H
  kept : KeptT T H0 H
theorem paired_len {α β : Type} {F : α → β → Prop} : ∀ {xs : List α} {ys : List β}, Paired F xs ys → xs.length = ys.length
  | _, _, .nil => rfl
  | _, _, .cons _ t => by rw [List.length_cons, List.length_cons, paired_len t]
section
variable {σ : VSt} {G H0 H : Hp} {K : PySem.W.Frag} {T : List (Addr × Str)} {PT l : Addr} {q : Str} {cells : List (Str × Addr)} {ALL : List (LamX3 × Nat)} {L : LamX3} {m n i : Nat} {mk : Addr → NdefX.NF}
theorem LS.step {D : Ends} (h : LS T G H0 H l cells q ALL m) (hz : ALL.length < 1000) (ha : ALL[m]? = some (L, n)) (hmk : ∀ c', mk c' = ⟨"<lambda>", q, L.1, [], L.2.2, cloFrom cells L.2.2.names [], c'⟩) (hi : σ[i]? = some (some (.ref l))) (hP : ∃ q, (PT, q) ∈ T) (gT : ∀ p ∈ T, G p.1 = none) (gl : G l = none) (hl0 : H0 l = none)
    (k : ∀ H2, LS T G H0 H2 l cells q ALL (m + 1) → D.nx σ H2) :
    tDrop (tBM K "list" rAppend (tVar i) (tCons (tTup (tCons (LM.tLamK PT T mk L.2.1) (tCons (tC (.int (n : Int))) tNil))) tNil)) D σ H := by
  obtain ⟨vs, hl, he⟩ := h.lst
  obtain ⟨q', hm⟩ := hP
  have hlen := paired_len he
  rw [List.length_take] at hlen
  refine s_lam hmk hi h.tabs ⟨q', hm⟩ hl (by omega) he h.eG gT gl fun t H2 kp th t2 l2 e2 x2 => k H2 ⟨t2, ⟨_, l2, ?_⟩, x2, ⟨fun b o z nb => ?_, fun a z => h.kept.there a (th a z)⟩⟩
  · have e : ALL.take (m + 1) = ALL.take m ++ [(L, n)] := by rw [List.take_add_one, ha]; rfl
    rw [e]
    exact e2
  · exact kp b o (h.kept.keep b o z nb) (nb _ hm) fun y => by rw [y, hl0] at z; cases z
/-- found = [(lambda, n)] -/
theorem LS.first {nx : V → Hp → Prop} (ha : ALL[0]? = some (L, n)) (hmk : ∀ c', mk c' = ⟨"<lambda>", q, L.1, [], L.2.2, cloFrom cells L.2.2.names [], c'⟩) (hT : LamX.Tabs T H0) (hP : ∃ q, (PT, q) ∈ T) (eG : Ex G H0) (gT : ∀ p ∈ T, G p.1 = none)
    (k : ∀ l H2, H0 l = none → G l = none → LS T G H0 H2 l cells q ALL 1 → nx (.ref l) H2) :
    tLst (tCons (tTup (tCons (LM.tLamK PT T mk L.2.1) (tCons (tC (.int (n : Int))) tNil))) tNil) σ H0 nx := by
  obtain ⟨q', hm⟩ := hP
  obtain ⟨ps, hps, _⟩ := id (hT _ hm)
  refine ⟨hT, fun f c' H1 e1 t1 nf hf hc => ⟨(by show 2 ≤ sizeLine; decide), fun t ht => ⟨(by show 1 ≤ sizeLine; decide), fun l hl => ?_⟩⟩⟩
  have up1 : ∀ {b o}, H1 b = some o → upd H1 t (.tup [.ref f, .int (n : Int)]) b = some o := fun {b o} z => (upd_ne (ne_of_none z ht)).trans z
  have up2 : ∀ {b o u}, upd H1 t (.tup [.ref f, .int (n : Int)]) b = some o → upd (upd H1 t (.tup [.ref f, .int (n : Int)])) l u b = some o := fun {b o u} z => (upd_ne (ne_of_none z hl)).trans z
  rw [hmk] at hf hc
  have back : ∀ {a}, H1 a = none → H0 a = none := fun {a} z => by
    cases w : H0 a with
    | none => rfl
    | some o =>
      by_cases hb : a = PT
      · obtain ⟨ps1, hp1, _⟩ := t1 _ hm
        rw [hb, hp1] at z; cases z
      · rw [e1 a o w hb] at z; cases z
  have hl1 : H1 l = none := by
    cases w : H1 l with
    | none => rfl
    | some o => rw [up1 w] at hl; cases hl
  have hl0 := back hl1
  refine k l _ hl0 (eG.back hl0) ⟨t1.ext fun b o z => up2 (up1 z), ⟨[.ref t], upd_same, ?_⟩, fun b o z => up2 (up1 (e1 b o (eG b o z) fun y => by rw [y, gT _ hm] at z; cases z)), fun b o z nb => up2 (up1 (e1 b o z (nb _ hm))), fun a z => ?_⟩
  · have e : ALL.take 1 = [(L, n)] := by rw [List.take_add_one, ha]; rfl
    rw [e]
    exact .cons ⟨t, f, c', rfl, up2 upd_same, up2 (up1 hf), up2 (up1 hc)⟩ .nil
  · refine back ?_
    cases w : H1 a with
    | none => rfl
    | some o => rw [up2 (up1 w)] at z; cases z
end
section
variable {P : Program} {w : World} {K : PySem.W.Frag} {mg : Str → Option Value} {base : Heap} {Y : AdY}
/-- the lambda L captures the names of fr, which are those of frAll at js -/
structure Fit (frAll : List Str) (L : LamX3) (fr : List Str) (js : List Nat) : Prop where
  s : NdefX.NScope fr [] fr L.2.2
  b : ∀ (q : Str) (cl : List (Str × Addr)) (c' : Addr) (pm ctv : Value), bindArgs (LM.lamD ⟨"<lambda>", q, L.1, [], L.2.2, cl, c'⟩ L.2.1 pm ctv) ⟨[], []⟩ = pure []
  f : ∀ y ∈ L.2.2.names, y.2 = .free → y.1 ∈ frAll
  r : ∀ y ∈ fr, (y, NameKind.free) ∈ L.2.2.names
  j : js.map (fun j => frAll[j]?) = fr.map some
theorem thunk_at {cells : List (Str × Addr)} {q : Str} {frAll fr : List Str} {js : List Nat} {wsAll ws : List V} {L : LamX3} {n k : Nat} {G H' H2 : Hp} (F : Fit frAll L fr js) (B : LBody P w K mg base Y k n fr ws G L) (hj : js.map (fun j => wsAll[j]?) = ws.map some) (hx : Ex H' H2) (eG : Ex G H') (inj : ∀ x y c, cells.lookup x = some c → cells.lookup y = some c → x = y)
    (hcells : ∀ (i : Nat) (y : Str), frAll[i]? = some y → ∃ c v, cells.lookup y = some c ∧ wsAll[i]? = some v ∧ H' c = none ∧ H2 c = some (LM.CellO c v)) : ∀ f c', H' f = some (LM.LamO f ⟨"<lambda>", q, L.1, [], L.2.2, cloFrom cells L.2.2.names [], c'⟩ L.2.1) → H' c' = some (LamX.CodeO c' q) → Thunk Y P w K mg base (k + 1) n f H2 := fun f c' hf hc => by
  have lj : fr.length = js.length := by
    have := congrArg List.length F.j
    rw [List.length_map, List.length_map] at this
    exact this.symm
  have lw : ws.length = js.length := by
    have := congrArg List.length hj
    rw [List.length_map, List.length_map] at this
    exact this.symm
  obtain ⟨LA, nc⟩ := LM.LamAt.made (fr := fr) (ws := ws) hx hf hc inj hcells F.f F.r (fun i y hi => by
    have hi2 : i < js.length := by rw [← lj]; exact (List.getElem?_eq_some_iff.mp hi).1
    have h1 := congrArg (fun l : List (Option Str) => l[i]?) F.j
    have h2 := congrArg (fun l : List (Option V) => l[i]?) hj
    simp only [List.getElem?_map, List.getElem?_eq_getElem hi2, hi, Option.map_some] at h1 h2
    refine ⟨js[i], Option.some.inj h1, ?_⟩
    rw [List.getElem?_eq_getElem (by omega : i < ws.length)] at h2 ⊢
    exact Option.some.inj h2) (by rw [lw, lj])
  exact thunk_of F.s (F.b _ _ _) LA hx eG (by rw [hf]; exact fun z => nomatch z) (by rw [hc]; exact fun z => nomatch z) nc fun A outer s H0 E hr => B _ f rfl A outer s H0 E hr
end
end CP
set_option Elab.async false
set_option linter.all false
set_option maxRecDepth 100000
set_option maxHeartbeats 4000000
namespace CP
open PySem L2 CL CM
/-- a def of the module that makes lambdas; its code object at c, the table at PT -/
structure FunM (K : PySem.W.Frag) (base : Heap) (mg : Str → Option Value) (x qual : Str) (st : Stmt) (f : Addr) (fd : FuncData) (c PT : Addr) : Prop where
  ex : ∃ (oc : Value) (od : Option Addr) (kV doc pm : Value) (an : Option Addr) (ct : Value) (osl : Array (Option Value)), fd = PySem.W.fnOf x qual (defArgs st) (defBody st) (defScope st) .none kV doc pm an (.ref c) ct ∧
    K.lookup f = some ⟨oc, od, .func (PySem.W.fnOf x qual (defArgs st) (defBody st) (defScope st) .none kV doc pm an (.ref c) ct), osl⟩ ∧ PySem.W.codeIn K (.ref c) qual = true
  kp : PySem.W.keepIn K (.ref f) = true
  tb : LamX.TabB base mg c PT
theorem hfree_by {sc own : Scope} (h : sc.names.all (fun y => !decide (y.2 = .free) || decide (own.names.lookup y.1 = some .cell) || decide (own.names.lookup y.1 = some .free)) = true) : ∀ y ∈ sc.names, y.2 = .free → own.names.lookup y.1 = some .cell ∨ own.names.lookup y.1 = some .free := fun y hy e => by
  have z := List.all_eq_true.mp h y hy
  simp only [Bool.or_eq_true, Bool.not_eq_true', decide_eq_false_iff_not, decide_eq_true_eq] at z
  rcases z with (z | z) | z
  · exact absurd e z
  · exact .inl z
  · exact .inr z
theorem tabs_keep {T : List (Addr × Str)} {H H2 : Hp} (t : LamX.Tabs T H) (k : ∀ b o, H b = some o → (∀ xs, o ≠ .lst xs) → H2 b = some o) : LamX.Tabs T H2 := fun p hp => by
  obtain ⟨ps, h1, h2, h3⟩ := t p hp
  exact ⟨ps, k _ _ h1 (fun _ z => nomatch z), h2, fun pos cv hc => let ⟨c, a, b⟩ := h3 pos cv hc; ⟨c, a, k _ _ b fun _ z => by unfold LamX.CodeO at z; cases z⟩⟩
section
variable {P : Program} {w : World} {K : PySem.W.Frag} {mg : Str → Option Value} {base : Heap} {Z : Ads} {Y : AdY}
/-- a list of values to choose from -/
def spPick : Sp := fun vs H Q _ => ∃ (G : Hp) (so a : Addr) (xs : List V), vs = [.ref so, .ref a] ∧ Ex G H ∧ Src G H so ∧ G a = some (.lst xs) ∧ 0 < xs.length ∧ xs.length ≤ 1000 ∧ ∀ v G2 H2, v ∈ xs → Grow (Ms so) G H G2 H2 → Src G2 H2 so → Q v H2
theorem okV_law_choose {f : Addr} {fd : FuncData} (F : Fun K "_law_choose" "_law_choose" s_law_choose f fd) (T : Txt Z K mg) (F_law_draw : Fn1 P w K mg base "_law_draw" 1 (spN R_draw)) : FnOk P w K mg base CX0 2 f fd ["_law_source_here", "_law_values"] spPick := by
  refine F.ok sc_law_choose (fun vs H Q E ⟨G, so, a, xs, e, _⟩ => by rw [e]; rfl) (fun cdv A outer s H vs Q E hr h => ?_)
  obtain ⟨G, so, a, xs, rfl, eG, ms, ha, h0, hl, k⟩ := h
  have nd := sc_law_choose.nd
  refine ⟨_, (pss_one (ps_ret (pe_ix (ix_seqK K) (pv 1) (pe_fn F_law_draw (hr.mono (by decide)) rfl (pa_cons (pv 0) (pa_cons (pe_callB (crLenK K) (by rfl) T.b_len (by decide +kernel) (pa_cons (pv 1) pa_nil)) pa_nil))) (fun _ _ => rfl)))), ?_⟩
  show tRet _ _ [some (.ref so), some (.ref a)] H
  have hlen : EvD (tCB (CL.rLen K) (tCons (tVar 1) tNil)) [some (.ref so), some (.ref a)] G (I1 xs.length) := .mk fun G1 H1 e1 e2 Q q => ⟨_, rfl, _, _, rfl, .inl ⟨xs, .inl (.inl (e2 _ _ (e1 _ _ ha))), rfl⟩, q _ G1 H1 (Grow.refl e2) (.int _)⟩
  refine ⟨_, rfl, ?_⟩
  refine n_call (E := E0) (R := R_draw) (v_var (σ := [some (.ref so), some (.ref a)]) (i := 0) rfl) (a_cons hlen a_nil) ⟨xs.length, rfl, h0, by omega, rfl⟩ G H (Ex.refl _) eG ms _ fun v d G2 H2 hd g m2 hv => ?_
  obtain ⟨m, hm, rfl⟩ := hd
  obtain rfl := hv.eqI
  exact .inl ⟨a, xs, (m : Int), xs[m], rfl, rfl, .inl (.inl (g.gh _ _ (g.g _ _ ha))), atI_at (List.getElem?_eq_getElem hm), k _ G2 H2 (List.getElem_mem hm) g m2⟩
/-- Rules(n, rules ..) -/
theorem make_rulesV {σ : VSt} {G : Hp} {ta : TA} {n : Nat} {rs : List Ru} (h : EvA ta σ G (I1 n :: rs.map RU)) (hgood : GoodL n rs) (hn1 : 1 ≤ n) (hn6 : n ≤ 6) : EvP (StX.tMakeR Z.aR (spInitS Z.aR) E0 ta) σ G (fun G v => TO Z.aR G v n (rs.map RU)) := fun G1 H1 e1 e2 Q q =>
  h G1 H1 e1 e2 _ fun vs G3 H3 g3 hv x dx hx hdx hne => by
    obtain ⟨v, xs, rfl, hv1, hxs⟩ := hv.inv
    obtain rfl := hv1.eqI
    have g4 : Grow M0 G1 H1 G3 (upd H3 dx (.own x)) := g3.trans (Grow.mnew g3.gh hdx)
    have hx4 : (upd H3 dx (.own x)) x = none := by rw [upd_ne (fun z => hne z.symm)]; exact hx
    have g5 : Grow M0 G1 H1 G3 (upd (upd H3 dx (.own x)) x (.ins Z.aR dx [])) := g4.trans (Grow.mnew g4.gh hx4)
    have hx1 : H1 x = none := g4.there x hx4
    have hG3x : G3 x = none := g4.gh.back hx4
    refine ⟨[.ref x, .int (n : Int)], xs, rfl, rfl, ?_, fun p ob hp hob => ?_⟩
    · rw [hxs.length, List.length_map]
      have := hgood.1
      exact Evl.sz_of (by omega)
    · have npx : x ≠ p := fun z => by
        rw [← z, upd_same] at hp
        cases hp
      have g6 := g5.trans (Grow.laid (o := .frz ob (.tup xs)) g5.gh hp)
      have e36 : Ex G3 (upd G3 p (.frz ob (.tup xs))) := Ex.frz (g5.gh.back hp)
      refine ⟨upd G3 p (.frz ob (.tup xs)), x, dx, p, ob, xs, rs, n, rfl, g6.gh, by rw [upd_ne npx]; exact hG3x, by rw [upd_ne npx, upd_same], upd_same, hob, hxs.up e36, hgood, hn1, hn6, fun G7 H7 g7 hx7 hG7 => ⟨rfl, ?_⟩⟩
      have g17 : Grow M0 G1 H1 G7 H7 := g6.priv g7 hx1
      have e78 : Ex G7 (upd G7 x (.ins Z.aR dx (flds n p))) := Ex.frz hG7
      exact q (.ref x) _ H7 (g17.freeze hx1 hG7 hx7) ⟨x, dx, p, rfl, upd_same, .tup (.inr ⟨ob, e78 _ _ (g7.g _ _ upd_same)⟩) (hxs.up (e36.trans (g7.g.trans e78)))⟩
/-! ### the lists of calls -/
def logCodes : List Nat := [2, 2, 2, 8, 10, 11, 12, 13, 13, 14]
def callCodes : List Nat := [0, 0, 0, 1, 3, 4, 4, 4, 4, 5, 5, 6, 6, 7, 7, 8, 8, 9, 9, 9, 9, 9, 9, 10, 10, 11, 11]
def twoRs : List PyData := [RU (true, 0, 1)]
def spLogs (Z : Ads) (Y : AdY) (P : Program) (w : World) (K : PySem.W.Frag) (mg : Str → Option Value) (base : Heap) (T : List (Addr × Str)) : Sp := fun vs H Q _ => ∃ (G : Hp) (o v2 : V) (t : String), vs = [o, v2] ∧ Ex G H ∧ Odd G o t ∧ TO Z.aR G v2 2 twoRs ∧ LamX.Tabs T H ∧ (∀ p ∈ T, G p.1 = none) ∧ (∀ b o, H b = some o → (∀ ps, o ≠ .tbl ps) → (∀ xs, o ≠ .lst xs) → G b = some o) ∧
  ∀ (l : Addr) (xs : List V) (G2 H2 : Hp), Ex G G2 → Ex G2 H2 → (∀ a, H a ≠ none → G a = none → G2 a = none) → KeptT T H H2 → LamX.Tabs T H2 → G2 l = some (.lst xs) → TIs Y P w K mg base 13 G2 xs logCodes → Q (.ref l) H2
def spCalls (Y : AdY) (P : Program) (w : World) (K : PySem.W.Frag) (mg : Str → Option Value) (base : Heap) (T : List (Addr × Str)) : Sp := fun vs H Q _ => ∃ (G : Hp) (so : Addr), vs = [.ref so] ∧ Ex G H ∧ Src G H so ∧ LamX.Tabs T H ∧ (∀ p ∈ T, G p.1 = none) ∧
  ∀ (l : Addr) (xs : List V) (G2 H2 : Hp), Ex G G2 → Ex G2 H2 → Src G2 H2 so → LamX.Tabs T H2 → (∀ p ∈ T, G2 p.1 = none) → G2 l = some (.lst xs) → TIs Y P w K mg base 13 G2 xs (callCodes ++ logCodes) → Q (.ref l) H2
/-- all but the source and the tables -/
abbrev sansT (H : Hp) (so : Addr) (T : List (Addr × Str)) : Hp := LM.dropC H (so :: T.map (·.1))
theorem sans_in {H : Hp} {so : Addr} {T : List (Addr × Str)} {b : Addr} (hb : b ∈ so :: T.map (·.1)) : sansT H so T b = none := LM.dropC_in hb
theorem sans_out {H : Hp} {so : Addr} {T : List (Addr × Str)} {b : Addr} (hb : b ∉ so :: T.map (·.1)) : sansT H so T b = H b := LM.dropC_out hb
theorem sans_ex {H : Hp} {so : Addr} {T : List (Addr × Str)} : Ex (sansT H so T) H := fun b o z => by
  by_cases hb : b ∈ so :: T.map (·.1)
  · rw [sans_in hb] at z; cases z
  · rw [sans_out hb] at z; exact z
theorem sans_up {G H : Hp} {so : Addr} {T : List (Addr × Str)} (e : Ex G H) (h1 : G so = none) (h2 : ∀ p ∈ T, G p.1 = none) : Ex G (sansT H so T) := fun b o z => by
  have hb : b ∉ so :: T.map (·.1) := fun y => by
    rcases List.mem_cons.mp y with rfl | y
    · rw [h1] at z; cases z
    · obtain ⟨p, hp, rfl⟩ := List.mem_map.mp y
      rw [h2 p hp] at z; cases z
  rw [sans_out hb]
  exact e b o z
theorem sans_mono {H H2 : Hp} {so : Addr} {T : List (Addr × Str)} (e : Ex H H2) : Ex (sansT H so T) (sansT H2 so T) := fun b o z => by
  by_cases hb : b ∈ so :: T.map (·.1)
  · rw [sans_in hb] at z; cases z
  · rw [sans_out hb] at z ⊢; exact e b o z
theorem sans_so {H : Hp} {so : Addr} {T : List (Addr × Str)} : sansT H so T so = none := LM.dropC_in List.mem_cons_self
theorem sans_tab {H : Hp} {so : Addr} {T : List (Addr × Str)} {p : Addr × Str} (hp : p ∈ T) : sansT H so T p.1 = none := LM.dropC_in (List.mem_cons_of_mem _ (List.mem_map.mpr ⟨p, hp, rfl⟩))
theorem sans_at {H : Hp} {so : Addr} {T : List (Addr × Str)} {b : Addr} {o : HO} (h : H b = some o) (h1 : b ≠ so) (h2 : ∀ p ∈ T, b ≠ p.1) : sansT H so T b = some o := by
  have hb : b ∉ so :: T.map (·.1) := fun y => by
    rcases List.mem_cons.mp y with y | y
    · exact h1 y
    · obtain ⟨p, hp, e⟩ := List.mem_map.mp y
      exact h2 p hp e.symm
  exact (LM.dropC_out hb).trans h
/-- neither a list nor a table -/
theorem sans_plain {H : Hp} {so : Addr} {T : List (Addr × Str)} {b : Addr} {o : HO} {xs : List V} (hs : H so = some (.lst xs)) (hT : LamX.Tabs T H) (h : H b = some o) (n1 : ∀ ps, o ≠ .tbl ps) (n2 : ∀ xs, o ≠ .lst xs) : sansT H so T b = some o :=
  sans_at h (fun z => n2 xs (by rw [z, hs] at h; exact (Option.some.inj h).symm)) fun p hp z => by
    obtain ⟨ps, h1, _⟩ := hT p hp
    exact n1 ps (by rw [z, h1] at h; exact (Option.some.inj h).symm)
theorem gT_up {M : Addr → Prop} {T : List (Addr × Str)} {G H G2 H2 : Hp} (hT : LamX.Tabs T H) (gT : ∀ p ∈ T, G p.1 = none) (g : Grow M G H G2 H2) : ∀ p ∈ T, G2 p.1 = none := fun p hp => g.new _ (by
  obtain ⟨ps, h1, _⟩ := hT p hp
  rw [h1]; exact fun z => nomatch z) (gT p hp)
theorem tabs_grow {T : List (Addr × Str)} {G H G2 H2 : Hp} {so : Addr} {xs : List V} (hT : LamX.Tabs T H) (hs : H so = some (.lst xs)) (g : Grow (Ms so) G H G2 H2) : LamX.Tabs T H2 := tabs_keep hT fun b o z n => g.keep b o (fun y => by
  have y : b = so := y
  rw [y, hs] at z
  exact n xs (Option.some.inj z).symm) z
theorem tab_ne {T : List (Addr × Str)} {H : Hp} {b : Addr} {o : HO} (hT : LamX.Tabs T H) (h : H b = some o) (n : ∀ ps, o ≠ .tbl ps) : ∀ p ∈ T, b ≠ p.1 := fun p hp z => by
  obtain ⟨ps, h1, _⟩ := hT p hp
  rw [z, h1] at h
  exact n ps (Option.some.inj h).symm
theorem o_tup {σ : VSt} {G : Hp} : EvP (tTup (tCons (tC (.str "settles")) (tCons (tC (.int 0)) tNil))) σ G (fun G v => ∃ t, Odd G v t) := p_d (d_tup (a_cons d_str (a_cons d_int a_nil))) fun G' v h => by
  obtain ⟨a, xs, e, _⟩ := h.eqT
  subst e
  exact ⟨_, .tup h⟩
section
variable {σ : VSt} {H : Hp} {te : TE} {g : TG} {u : (VSt → V → Hp → Prop) → VSt → Hp → Prop} {R : VSt → V → Hp → Prop}
theorem c_asg {i : Nat} (h : te σ H fun v H1 => u R (σ.set i (some v)) H1) : LM.tSeqC (tAsg te (gName i)) u R σ H := h
theorem c_asgG (h : te σ H fun v H1 => g v σ H1 fun σ2 H2 => u R σ2 H2) : LM.tSeqC (tAsg te g) u R σ H := h
theorem c_drop (h : te σ H fun _ H1 => u R σ H1) : LM.tSeqC (tDrop te) u R σ H := h
theorem c_ret (h : te σ H fun v H1 => R σ v H1) : LM.tRetC te R σ H := h
theorem LS.stepC {G H0 : Hp} {K : PySem.W.Frag} {T : List (Addr × Str)} {PT l : Addr} {q : Str} {cells : List (Str × Addr)} {ALL : List (LamX3 × Nat)} {L : LamX3} {m n i : Nat} {mk : Addr → NdefX.NF} (h : LS T G H0 H l cells q ALL m) (hz : ALL.length < 1000) (ha : ALL[m]? = some (L, n)) (hmk : ∀ c', mk c' = ⟨"<lambda>", q, L.1, [], L.2.2, cloFrom cells L.2.2.names [], c'⟩) (hi : σ[i]? = some (some (.ref l))) (hP : ∃ q, (PT, q) ∈ T) (gT : ∀ p ∈ T, G p.1 = none) (gl : G l = none) (hl0 : H0 l = none)
    (k : ∀ H2, LS T G H0 H2 l cells q ALL (m + 1) → u R σ H2) : LM.tSeqC (tDrop (tBM K "list" rAppend (tVar i) (tCons (tTup (tCons (LM.tLamK PT T mk L.2.1) (tCons (tC (.int (n : Int))) tNil))) tNil))) u R σ H := h.step (D := LM.endN fun σ' H' => u R σ' H') hz ha hmk hi hP gT gl hl0 k
end
def RO7 (n : Nat) : Hp → List V → Prop := fun G xs => xs.length = n ∧ ∀ x ∈ xs, ∃ t, Odd G x t
theorem o_nil {σ : VSt} {G : Hp} : EvPs tNil σ G (RO7 0) := fun G1 H1 e1 e2 Q q => ps_nil (σ := σ) (G := G) G1 H1 e1 e2 Q fun vs G2 H2 g hv => q vs G2 H2 g ⟨by rw [hv]; rfl, fun x hx => by rw [hv] at hx; cases hx⟩
theorem o_cons {σ : VSt} {G : Hp} {te : TE} {tr : TA} {n : Nat} (h : EvP te σ G fun G v => ∃ t, Odd G v t) (hr : EvPs tr σ G (RO7 n)) : EvPs (tCons te tr) σ G (RO7 (n + 1)) := fun G1 H1 e1 e2 Q q =>
  ps_cons h (fun ⟨t, h⟩ e => ⟨t, h.up e⟩) hr G1 H1 e1 e2 Q fun vs G2 H2 g ⟨v, r, e, hv, hl, hx⟩ => q vs G2 H2 g ⟨by rw [e, List.length_cons, hl], fun x hm => by
    rw [e] at hm
    rcases List.mem_cons.mp hm with rfl | hm
    · exact hv
    · exact hx x hm⟩
def callsL : List (LamX3 × Nat) := [(lamAt s_law_calls 3, 0), (lamAt s_law_calls 4, 0), (lamAt s_law_calls 5, 0), (lamAt s_law_calls 6, 1), (lamAt s_law_calls 7, 3), (lamAt s_law_calls 8, 4), (lamAt s_law_calls 9, 4), (lamAt s_law_calls 10, 4), (lamAt s_law_calls 11, 4), (lamAt s_law_calls 12, 5), (lamAt s_law_calls 13, 5), (lamAt s_law_calls 14, 6), (lamAt s_law_calls 15, 6), (lamAt s_law_calls 16, 7), (lamAt s_law_calls 17, 7), (lamAt s_law_calls 18, 8), (lamAt s_law_calls 19, 8), (lamAt s_law_calls 20, 9), (lamAt s_law_calls 21, 9), (lamAt s_law_calls 22, 9), (lamAt s_law_calls 23, 9), (lamAt s_law_calls 24, 9), (lamAt s_law_calls 25, 9), (lamAt s_law_calls 26, 10), (lamAt s_law_calls 27, 10), (lamAt s_law_calls 28, 11), (lamAt s_law_calls 29, 11)]
theorem sc_law_calls : FnScope ["_law_source_here", "_law_odd", "_law_two", "_law_three", "_law_table", "_law_other", "_law_long", "_law_found"] ["_law_source_here"] (defScope s_law_calls) := ⟨rfl, rfl, rfl, by decide +kernel, rfl, by decide +kernel, by decide +kernel⟩
abbrev frC : List Str := ["_law_odd", "_law_two", "_law_three", "_law_table", "_law_other", "_law_long"]
set_option maxHeartbeats 40000000
set_option pp.maxSteps 700
set_option pp.deepTerms false
theorem ok_law_calls {f c PT : Addr} {fd : FuncData} {TB0 : List (Addr × Str)} (M : FunM K base mg "_law_calls" "_law_calls" s_law_calls f fd c PT) (Tt : Txt Z K mg) (U : TxtU Z Y K mg) (W : TxtW Z Y K) (X : PrA P w K mg base Z Y) (F_pick : Fn1 P w K mg base "_law_choose" 2 spPick)
    (K_R : MkOk P w K mg base CX0 Z.aR 6 (spInitS Z.aR)) (K_T : MkOk P w K mg base CX0 Y.aT 6 (spStar 2 (spInitT Y.aT))) (K_rd : CmOk P w K mg base CX0 Y.aT "read" 8 (spRead7 Y)) (F_logs : Fn1 P w K mg base "_law_of_logs" 13 (spLogs Z Y P w K mg base TB0))
    (hmT : (PT, (("_law_calls" : Str) ++ ".<locals>.") ++ "<lambda>") ∈ TB0) (huT : ∀ p ∈ TB0, p.1 = PT → p.2 = (("_law_calls" : Str) ++ ".<locals>.") ++ "<lambda>") : FnOk P w K mg base CX0 14 f fd ["_law_source_here"] (spCalls Y P w K mg base TB0) := by
  obtain ⟨oc, od, kV, doc, pm, an, ct, osl, rfl, lk, hcd⟩ := M.ex
  refine LM.fn_maker (k := 13) (fr := frC) (js := [1, 2, 3, 4, 5, 6]) lk hcd sc_law_calls (fun vs H Q E ⟨G, so, e, _⟩ => by rw [e]; rfl) (by decide +kernel) (by decide) rfl (fun A outer s H vs Q E hr h => ?_)
  obtain ⟨G, so, rfl, eG, ms, hT, gT, k⟩ := h
  have nd := sc_law_calls.nd
  have TB := M.tb
  have T := Tt
  refine ⟨_, (LM.pssC_cons (ps_set (i := 1) nd rfl (by first | exact Or.inl rfl | exact Or.inr rfl) (pe_fn F_pick (hr.mono (by decide)) rfl (pa_cons (pv 0) (pa_cons (pe_lst (pa_cons pe_non (pa_cons pe_bl (pa_cons pe_str (pa_cons (pe_lst pa_nil) (pa_cons pe_dnewK (pa_cons (pe_un un_neg pe_int) (pa_cons (pe_tup (pa_cons pe_str (pa_cons pe_int pa_nil))) pa_nil)))))))) pa_nil))))
    (LM.pssC_cons (ps_asg (pe_tup (pa_cons (pe_mkK K_R (hr.mono (by decide)) rfl U.k_Rules pass0 (pa_cons pe_int (pa_cons (pe_tup (pa_cons pe_str (pa_cons pe_int (pa_cons pe_int pa_nil)))) pa_nil))) (pa_cons (pe_mkK K_R (hr.mono (by decide)) rfl U.k_Rules pass0 (pa_cons pe_int pa_nil)) pa_nil))) (pgTupK K (n := 2) (pgs_cons (pgN 2 nd) (pgs_cons (pgN 3 nd) pgs_nil))))
    (LM.pssC_cons (ps_asg (pe_tup (pa_cons (pe_mkK K_T (hr.mono (by decide)) rfl U.k_Table pass0 (pa_cons pe_int (pa_cons (pe_tup (pa_cons pe_int (pa_cons pe_int pa_nil))) pa_nil))) (pa_cons (pe_mkK K_T (hr.mono (by decide)) rfl U.k_Table pass0 (pa_cons pe_int (pa_cons (pe_tup (pa_cons pe_int (pa_cons pe_int (pa_cons pe_int pa_nil)))) pa_nil))) (pa_cons (pe_cmK (pl := _) (pe_glob (v := .ref Y.aT) rfl U.k_Table rfl) K_rd (hr.mono (by decide)) pass0 (pa_cons pe_int (pa_cons (pe_op op_mulS pe_str pe_int) pa_nil))) pa_nil)))) (pgTupK K (n := 3) (pgs_cons (pgN 4 nd) (pgs_cons (pgN 5 nd) (pgs_cons (pgN 6 nd) pgs_nil)))))
    (LM.pssC_cons (ps_set (i := 7) nd rfl (by first | exact Or.inl rfl | exact Or.inr rfl) (pe_lst (pa_cons (pe_tup (pa_cons (LM.pe_lamK TB rfl hmT huT (hfree_by (own := (defScope s_law_calls)) (by decide +kernel))) (pa_cons pe_int pa_nil))) pa_nil)))
    (LM.pssC_cons (ps_expr (pe_bm PySem.F.plainAttrs_list PySem.F.slot_list_append PySem.F.type_list_append mt_append (pv 7) (pa_cons (pe_tup (pa_cons (LM.pe_lamK TB rfl hmT huT (hfree_by (own := (defScope s_law_calls)) (by decide +kernel))) (pa_cons pe_int pa_nil))) pa_nil)))
    (LM.pssC_cons (ps_expr (pe_bm PySem.F.plainAttrs_list PySem.F.slot_list_append PySem.F.type_list_append mt_append (pv 7) (pa_cons (pe_tup (pa_cons (LM.pe_lamK TB rfl hmT huT (hfree_by (own := (defScope s_law_calls)) (by decide +kernel))) (pa_cons pe_int pa_nil))) pa_nil)))
    (LM.pssC_cons (ps_expr (pe_bm PySem.F.plainAttrs_list PySem.F.slot_list_append PySem.F.type_list_append mt_append (pv 7) (pa_cons (pe_tup (pa_cons (LM.pe_lamK TB rfl hmT huT (hfree_by (own := (defScope s_law_calls)) (by decide +kernel))) (pa_cons pe_int pa_nil))) pa_nil)))
    (LM.pssC_cons (ps_expr (pe_bm PySem.F.plainAttrs_list PySem.F.slot_list_append PySem.F.type_list_append mt_append (pv 7) (pa_cons (pe_tup (pa_cons (LM.pe_lamK TB rfl hmT huT (hfree_by (own := (defScope s_law_calls)) (by decide +kernel))) (pa_cons pe_int pa_nil))) pa_nil)))
    (LM.pssC_cons (ps_expr (pe_bm PySem.F.plainAttrs_list PySem.F.slot_list_append PySem.F.type_list_append mt_append (pv 7) (pa_cons (pe_tup (pa_cons (LM.pe_lamK TB rfl hmT huT (hfree_by (own := (defScope s_law_calls)) (by decide +kernel))) (pa_cons pe_int pa_nil))) pa_nil)))
    (LM.pssC_cons (ps_expr (pe_bm PySem.F.plainAttrs_list PySem.F.slot_list_append PySem.F.type_list_append mt_append (pv 7) (pa_cons (pe_tup (pa_cons (LM.pe_lamK TB rfl hmT huT (hfree_by (own := (defScope s_law_calls)) (by decide +kernel))) (pa_cons pe_int pa_nil))) pa_nil)))
    (LM.pssC_cons (ps_expr (pe_bm PySem.F.plainAttrs_list PySem.F.slot_list_append PySem.F.type_list_append mt_append (pv 7) (pa_cons (pe_tup (pa_cons (LM.pe_lamK TB rfl hmT huT (hfree_by (own := (defScope s_law_calls)) (by decide +kernel))) (pa_cons pe_int pa_nil))) pa_nil)))
    (LM.pssC_cons (ps_expr (pe_bm PySem.F.plainAttrs_list PySem.F.slot_list_append PySem.F.type_list_append mt_append (pv 7) (pa_cons (pe_tup (pa_cons (LM.pe_lamK TB rfl hmT huT (hfree_by (own := (defScope s_law_calls)) (by decide +kernel))) (pa_cons pe_int pa_nil))) pa_nil)))
    (LM.pssC_cons (ps_expr (pe_bm PySem.F.plainAttrs_list PySem.F.slot_list_append PySem.F.type_list_append mt_append (pv 7) (pa_cons (pe_tup (pa_cons (LM.pe_lamK TB rfl hmT huT (hfree_by (own := (defScope s_law_calls)) (by decide +kernel))) (pa_cons pe_int pa_nil))) pa_nil)))
    (LM.pssC_cons (ps_expr (pe_bm PySem.F.plainAttrs_list PySem.F.slot_list_append PySem.F.type_list_append mt_append (pv 7) (pa_cons (pe_tup (pa_cons (LM.pe_lamK TB rfl hmT huT (hfree_by (own := (defScope s_law_calls)) (by decide +kernel))) (pa_cons pe_int pa_nil))) pa_nil)))
    (LM.pssC_cons (ps_expr (pe_bm PySem.F.plainAttrs_list PySem.F.slot_list_append PySem.F.type_list_append mt_append (pv 7) (pa_cons (pe_tup (pa_cons (LM.pe_lamK TB rfl hmT huT (hfree_by (own := (defScope s_law_calls)) (by decide +kernel))) (pa_cons pe_int pa_nil))) pa_nil)))
    (LM.pssC_cons (ps_expr (pe_bm PySem.F.plainAttrs_list PySem.F.slot_list_append PySem.F.type_list_append mt_append (pv 7) (pa_cons (pe_tup (pa_cons (LM.pe_lamK TB rfl hmT huT (hfree_by (own := (defScope s_law_calls)) (by decide +kernel))) (pa_cons pe_int pa_nil))) pa_nil)))
    (LM.pssC_cons (ps_expr (pe_bm PySem.F.plainAttrs_list PySem.F.slot_list_append PySem.F.type_list_append mt_append (pv 7) (pa_cons (pe_tup (pa_cons (LM.pe_lamK TB rfl hmT huT (hfree_by (own := (defScope s_law_calls)) (by decide +kernel))) (pa_cons pe_int pa_nil))) pa_nil)))
    (LM.pssC_cons (ps_expr (pe_bm PySem.F.plainAttrs_list PySem.F.slot_list_append PySem.F.type_list_append mt_append (pv 7) (pa_cons (pe_tup (pa_cons (LM.pe_lamK TB rfl hmT huT (hfree_by (own := (defScope s_law_calls)) (by decide +kernel))) (pa_cons pe_int pa_nil))) pa_nil)))
    (LM.pssC_cons (ps_expr (pe_bm PySem.F.plainAttrs_list PySem.F.slot_list_append PySem.F.type_list_append mt_append (pv 7) (pa_cons (pe_tup (pa_cons (LM.pe_lamK TB rfl hmT huT (hfree_by (own := (defScope s_law_calls)) (by decide +kernel))) (pa_cons pe_int pa_nil))) pa_nil)))
    (LM.pssC_cons (ps_expr (pe_bm PySem.F.plainAttrs_list PySem.F.slot_list_append PySem.F.type_list_append mt_append (pv 7) (pa_cons (pe_tup (pa_cons (LM.pe_lamK TB rfl hmT huT (hfree_by (own := (defScope s_law_calls)) (by decide +kernel))) (pa_cons pe_int pa_nil))) pa_nil)))
    (LM.pssC_cons (ps_expr (pe_bm PySem.F.plainAttrs_list PySem.F.slot_list_append PySem.F.type_list_append mt_append (pv 7) (pa_cons (pe_tup (pa_cons (LM.pe_lamK TB rfl hmT huT (hfree_by (own := (defScope s_law_calls)) (by decide +kernel))) (pa_cons pe_int pa_nil))) pa_nil)))
    (LM.pssC_cons (ps_expr (pe_bm PySem.F.plainAttrs_list PySem.F.slot_list_append PySem.F.type_list_append mt_append (pv 7) (pa_cons (pe_tup (pa_cons (LM.pe_lamK TB rfl hmT huT (hfree_by (own := (defScope s_law_calls)) (by decide +kernel))) (pa_cons pe_int pa_nil))) pa_nil)))
    (LM.pssC_cons (ps_expr (pe_bm PySem.F.plainAttrs_list PySem.F.slot_list_append PySem.F.type_list_append mt_append (pv 7) (pa_cons (pe_tup (pa_cons (LM.pe_lamK TB rfl hmT huT (hfree_by (own := (defScope s_law_calls)) (by decide +kernel))) (pa_cons pe_int pa_nil))) pa_nil)))
    (LM.pssC_cons (ps_expr (pe_bm PySem.F.plainAttrs_list PySem.F.slot_list_append PySem.F.type_list_append mt_append (pv 7) (pa_cons (pe_tup (pa_cons (LM.pe_lamK TB rfl hmT huT (hfree_by (own := (defScope s_law_calls)) (by decide +kernel))) (pa_cons pe_int pa_nil))) pa_nil)))
    (LM.pssC_cons (ps_expr (pe_bm PySem.F.plainAttrs_list PySem.F.slot_list_append PySem.F.type_list_append mt_append (pv 7) (pa_cons (pe_tup (pa_cons (LM.pe_lamK TB rfl hmT huT (hfree_by (own := (defScope s_law_calls)) (by decide +kernel))) (pa_cons pe_int pa_nil))) pa_nil)))
    (LM.pssC_cons (ps_expr (pe_bm PySem.F.plainAttrs_list PySem.F.slot_list_append PySem.F.type_list_append mt_append (pv 7) (pa_cons (pe_tup (pa_cons (LM.pe_lamK TB rfl hmT huT (hfree_by (own := (defScope s_law_calls)) (by decide +kernel))) (pa_cons pe_int pa_nil))) pa_nil)))
    (LM.pssC_cons (ps_expr (pe_bm PySem.F.plainAttrs_list PySem.F.slot_list_append PySem.F.type_list_append mt_append (pv 7) (pa_cons (pe_tup (pa_cons (LM.pe_lamK TB rfl hmT huT (hfree_by (own := (defScope s_law_calls)) (by decide +kernel))) (pa_cons pe_int pa_nil))) pa_nil)))
    (LM.pssC_cons (ps_expr (pe_bm PySem.F.plainAttrs_list PySem.F.slot_list_append PySem.F.type_list_append mt_append (pv 7) (pa_cons (pe_tup (pa_cons (LM.pe_lamK TB rfl hmT huT (hfree_by (own := (defScope s_law_calls)) (by decide +kernel))) (pa_cons pe_int pa_nil))) pa_nil)))
    (LM.pssC_cons (ps_expr (pe_bm PySem.F.plainAttrs_list PySem.F.slot_list_append PySem.F.type_list_append mt_append (pv 7) (pa_cons (pe_tup (pa_cons (LM.pe_lamK TB rfl hmT huT (hfree_by (own := (defScope s_law_calls)) (by decide +kernel))) (pa_cons pe_int pa_nil))) pa_nil)))
    (LM.pssC_cons (ps_expr (pe_bm PySem.F.plainAttrs_list PySem.F.slot_list_append PySem.F.type_list_append mt_append (pv 7) (pa_cons (pe_tup (pa_cons (LM.pe_lamK TB rfl hmT huT (hfree_by (own := (defScope s_law_calls)) (by decide +kernel))) (pa_cons pe_int pa_nil))) pa_nil)))
    (LM.pssC_ret (pe_op op_cat (pv 7) (pe_fn F_logs (hr.mono (by decide)) rfl (pa_cons (pv 1) (pa_cons (pv 2) pa_nil))))))))))))))))))))))))))))))))))), ?_⟩
  show LM.tSeqC _ _ _ [some (.ref so), none, none, none, none, none, none, none] H
  have hodd := p_lst (σ := [some (.ref so), none, none, none, none, none, none, none]) (G := G) (o_cons (p_v (v_c (v := .non)) fun _ _ => ⟨_, .non⟩) (o_cons (p_v (v_c (v := .bl true)) fun _ _ => ⟨_, .bl⟩) (o_cons (p_v (v_c (v := .str "D")) fun _ _ => ⟨_, .str⟩) (o_cons (p_lst0.weak fun G v ⟨a, e, h⟩ => ⟨_, e ▸ Odd.lst h⟩) (o_cons (p_dnew.weak fun G v ⟨a, e, h⟩ => ⟨_, e ▸ Odd.dct h⟩)
    (o_cons (p_d d_neg1 fun G v h => ⟨_, h.eqI ▸ Odd.int⟩) (o_cons o_tup o_nil))))))) (fun G vs h => by rw [h.1]; decide) (fun h e => ⟨h.1, fun x hx => let ⟨t, z⟩ := h.2 x hx; ⟨t, z.up e⟩⟩)
  refine c_asg ?_
  refine ⟨_, rfl, hodd G H (Ex.refl _) eG _ fun v G1 H1 g1 ⟨a, xs, ev, ha, hl7, hx7⟩ => ?_⟩
  subst ev
  show spPick [.ref so, .ref a] H1 _ E0
  refine ⟨G1, so, a, xs, rfl, g1.gh, ms.grow0 g1, ha, by omega, by omega, fun o G2 H2 ho g2 m2 => ?_⟩
  obtain ⟨t, ho⟩ := hx7 o ho
  have ho := ho.up g2.g
  obtain ⟨gso, ia, ib, ic, hso⟩ := id ms
  have g12 : Grow (Ms so) G H G2 H2 := g1.of0.trans g2
  have hT2 := tabs_grow hT hso g12
  have gT2 := gT_up hT gT g12
  show LM.tSeqC _ _ _ [some (.ref so), some o, none, none, none, none, none, none] H2
  refine c_asgG ?_
  refine asgT2 (S1 := fun G v => TO Z.aR G v 2 twoRs) (S2 := fun G v => TO Z.aR G v 3 []) (make_rulesV (rs := [(true, 0, 1)]) (n := 2) (a_cons d_int (a_cons (d_tup (a_cons d_str (a_cons d_int (a_cons d_int a_nil)))) a_nil)) ⟨by decide, fun r hr => by rw [List.mem_singleton.mp hr]; exact ⟨by decide, by decide, by decide⟩, by decide⟩ (by decide) (by decide)) (fun h e => h.up e)
    (make_rulesV (rs := []) (n := 3) (a_cons d_int a_nil) ⟨by decide, (fun r hr => by cases hr), List.Pairwise.nil⟩ (by decide) (by decide)) g2.gh fun v2 v3 G3 H3 g3 h2 h3 => ?_
  show LM.tSeqC _ _ _ [some (.ref so), some o, some v2, some v3, none, none, none, none] H3
  have tabV : ∀ {σ : VSt} {G : Hp} {ta : TA} {n : Nat} {rows : List (List Nat)}, EvA ta σ G (I1 n :: rows.map RW) → GoodT n rows → 1 ≤ n → n ≤ 6 → EvP (StX.tMakeR Y.aT (spStar 2 (spInitT Y.aT)) E0 ta) σ G (fun G v => TO Y.aT G v n (rows.map RW)) := fun h a b c G1 H1 e1 e2 Q q => make_tableV h a b c G1 H1 e1 e2 Q fun v G2 H2 g z => q v G2 H2 g (z.elim (fun x => absurd rfl x) id)
  have hrd : EvP (ClX.tCMeth Y.aT (spRead7 Y) E0 (tC (.ref Y.aT)) (tCons (tC (.int 1)) (tCons (tOp rMulS (tC (.str "7\n")) (tC (.int 400))) tNil))) [some (.ref so), some o, some v2, some v3, none, none, none, none] G3 (fun G v => TO Y.aT G v 1 (rows7.map RW)) := fun G1 H1 e1 e2 Q q =>
    ⟨rfl, (w_cons v_c (w_cons (v_d ((d_op d_str d_int (r_mulS mulOk7)).is (by rw [T7_mul])) fun _ _ q => q.eqS) w_nil) : EvVs _ [some (.ref so), some o, some v2, some v3, none, none, none, none] G3 [.int 1, .str T7]) G1 H1 e1 e2 _ fun G2 H2 g => ⟨G2, rfl, g.gh, fun v G4 H4 g4 ht => q v G4 H4 (g.trans g4) ht⟩⟩
  refine c_asgG ?_
  refine asgT3 (S1 := fun G v => TO Y.aT G v 2 [RW [0, 1]]) (S2 := fun G v => TO Y.aT G v 3 [RW [1, 2, 100]]) (S3 := fun G v => TO Y.aT G v 1 (rows7.map RW))
    (tabV (rows := [[0, 1]]) (n := 2) (a_cons d_int (a_cons (d_tup (a_cons d_int (a_cons d_int a_nil))) a_nil)) ⟨by decide, fun r hr => by rw [List.mem_singleton.mp hr]; exact ⟨by decide, by decide, by decide⟩⟩ (by decide) (by decide)) (fun h e => h.up e)
    (tabV (rows := [[1, 2, 100]]) (n := 3) (a_cons d_int (a_cons (d_tup (a_cons d_int (a_cons d_int (a_cons d_int a_nil)))) a_nil)) ⟨by decide, fun r hr => by rw [List.mem_singleton.mp hr]; exact ⟨by decide, by decide, by decide⟩⟩ (by decide) (by decide)) (fun h e => h.up e)
    hrd g3.gh fun vT vO vL G4 H4 g4 hT0 hO hL => ?_
  show LM.tSeqC _ _ _ [some (.ref so), some o, some v2, some v3, some vT, some vO, some vL, none] H4
  have ho := ho.up (g3.g.trans g4.g)
  have h2 := h2.up g4.g
  have h3 := h3.up g4.g
  have g24 : Grow M0 G2 H2 G4 H4 := g3.trans g4
  have hT4 : LamX.Tabs TB0 H4 := hT2.ext fun b o z => g24.ex b o z
  have gT4 := gT_up hT2 gT2 g24
  have m4 := m2.grow0 g24
  obtain ⟨gso4, ja, jb, jc, hso4⟩ := id m4
  refine c_asg ?_
  refine LS.first (ALL := callsL) (q := (("_law_calls" : Str) ++ ".<locals>.") ++ "<lambda>") (cells := cellsFrom (s.heap.objs.size + 1) (defScope s_law_calls).names []) rfl (fun _ => rfl) hT4 ⟨_, hmT⟩ g4.gh gT4 fun l H5 hl0 gl s1 => ?_
  show LM.tSeqC _ _ _ [some (.ref so), some o, some v2, some v3, some vT, some vO, some vL, some (.ref l)] H5
  refine LS.stepC (m := 1) s1 (by decide) rfl (fun _ => rfl) rfl ⟨_, hmT⟩ gT4 gl hl0 fun H6 s2 => ?_
  show LM.tSeqC _ _ _ [some (.ref so), some o, some v2, some v3, some vT, some vO, some vL, some (.ref l)] H6
  refine LS.stepC (m := 2) s2 (by decide) rfl (fun _ => rfl) rfl ⟨_, hmT⟩ gT4 gl hl0 fun H7 s3 => ?_
  show LM.tSeqC _ _ _ [some (.ref so), some o, some v2, some v3, some vT, some vO, some vL, some (.ref l)] H7
  refine LS.stepC (m := 3) s3 (by decide) rfl (fun _ => rfl) rfl ⟨_, hmT⟩ gT4 gl hl0 fun H8 s4 => ?_
  show LM.tSeqC _ _ _ [some (.ref so), some o, some v2, some v3, some vT, some vO, some vL, some (.ref l)] H8
  refine LS.stepC (m := 4) s4 (by decide) rfl (fun _ => rfl) rfl ⟨_, hmT⟩ gT4 gl hl0 fun H9 s5 => ?_
  show LM.tSeqC _ _ _ [some (.ref so), some o, some v2, some v3, some vT, some vO, some vL, some (.ref l)] H9
  refine LS.stepC (m := 5) s5 (by decide) rfl (fun _ => rfl) rfl ⟨_, hmT⟩ gT4 gl hl0 fun H10 s6 => ?_
  show LM.tSeqC _ _ _ [some (.ref so), some o, some v2, some v3, some vT, some vO, some vL, some (.ref l)] H10
  refine LS.stepC (m := 6) s6 (by decide) rfl (fun _ => rfl) rfl ⟨_, hmT⟩ gT4 gl hl0 fun H11 s7 => ?_
  show LM.tSeqC _ _ _ [some (.ref so), some o, some v2, some v3, some vT, some vO, some vL, some (.ref l)] H11
  refine LS.stepC (m := 7) s7 (by decide) rfl (fun _ => rfl) rfl ⟨_, hmT⟩ gT4 gl hl0 fun H12 s8 => ?_
  show LM.tSeqC _ _ _ [some (.ref so), some o, some v2, some v3, some vT, some vO, some vL, some (.ref l)] H12
  refine LS.stepC (m := 8) s8 (by decide) rfl (fun _ => rfl) rfl ⟨_, hmT⟩ gT4 gl hl0 fun H13 s9 => ?_
  show LM.tSeqC _ _ _ [some (.ref so), some o, some v2, some v3, some vT, some vO, some vL, some (.ref l)] H13
  refine LS.stepC (m := 9) s9 (by decide) rfl (fun _ => rfl) rfl ⟨_, hmT⟩ gT4 gl hl0 fun H14 s10 => ?_
  show LM.tSeqC _ _ _ [some (.ref so), some o, some v2, some v3, some vT, some vO, some vL, some (.ref l)] H14
  refine LS.stepC (m := 10) s10 (by decide) rfl (fun _ => rfl) rfl ⟨_, hmT⟩ gT4 gl hl0 fun H15 s11 => ?_
  show LM.tSeqC _ _ _ [some (.ref so), some o, some v2, some v3, some vT, some vO, some vL, some (.ref l)] H15
  refine LS.stepC (m := 11) s11 (by decide) rfl (fun _ => rfl) rfl ⟨_, hmT⟩ gT4 gl hl0 fun H16 s12 => ?_
  show LM.tSeqC _ _ _ [some (.ref so), some o, some v2, some v3, some vT, some vO, some vL, some (.ref l)] H16
  refine LS.stepC (m := 12) s12 (by decide) rfl (fun _ => rfl) rfl ⟨_, hmT⟩ gT4 gl hl0 fun H17 s13 => ?_
  show LM.tSeqC _ _ _ [some (.ref so), some o, some v2, some v3, some vT, some vO, some vL, some (.ref l)] H17
  refine LS.stepC (m := 13) s13 (by decide) rfl (fun _ => rfl) rfl ⟨_, hmT⟩ gT4 gl hl0 fun H18 s14 => ?_
  show LM.tSeqC _ _ _ [some (.ref so), some o, some v2, some v3, some vT, some vO, some vL, some (.ref l)] H18
  refine LS.stepC (m := 14) s14 (by decide) rfl (fun _ => rfl) rfl ⟨_, hmT⟩ gT4 gl hl0 fun H19 s15 => ?_
  show LM.tSeqC _ _ _ [some (.ref so), some o, some v2, some v3, some vT, some vO, some vL, some (.ref l)] H19
  refine LS.stepC (m := 15) s15 (by decide) rfl (fun _ => rfl) rfl ⟨_, hmT⟩ gT4 gl hl0 fun H20 s16 => ?_
  show LM.tSeqC _ _ _ [some (.ref so), some o, some v2, some v3, some vT, some vO, some vL, some (.ref l)] H20
  refine LS.stepC (m := 16) s16 (by decide) rfl (fun _ => rfl) rfl ⟨_, hmT⟩ gT4 gl hl0 fun H21 s17 => ?_
  show LM.tSeqC _ _ _ [some (.ref so), some o, some v2, some v3, some vT, some vO, some vL, some (.ref l)] H21
  refine LS.stepC (m := 17) s17 (by decide) rfl (fun _ => rfl) rfl ⟨_, hmT⟩ gT4 gl hl0 fun H22 s18 => ?_
  show LM.tSeqC _ _ _ [some (.ref so), some o, some v2, some v3, some vT, some vO, some vL, some (.ref l)] H22
  refine LS.stepC (m := 18) s18 (by decide) rfl (fun _ => rfl) rfl ⟨_, hmT⟩ gT4 gl hl0 fun H23 s19 => ?_
  show LM.tSeqC _ _ _ [some (.ref so), some o, some v2, some v3, some vT, some vO, some vL, some (.ref l)] H23
  refine LS.stepC (m := 19) s19 (by decide) rfl (fun _ => rfl) rfl ⟨_, hmT⟩ gT4 gl hl0 fun H24 s20 => ?_
  show LM.tSeqC _ _ _ [some (.ref so), some o, some v2, some v3, some vT, some vO, some vL, some (.ref l)] H24
  refine LS.stepC (m := 20) s20 (by decide) rfl (fun _ => rfl) rfl ⟨_, hmT⟩ gT4 gl hl0 fun H25 s21 => ?_
  show LM.tSeqC _ _ _ [some (.ref so), some o, some v2, some v3, some vT, some vO, some vL, some (.ref l)] H25
  refine LS.stepC (m := 21) s21 (by decide) rfl (fun _ => rfl) rfl ⟨_, hmT⟩ gT4 gl hl0 fun H26 s22 => ?_
  show LM.tSeqC _ _ _ [some (.ref so), some o, some v2, some v3, some vT, some vO, some vL, some (.ref l)] H26
  refine LS.stepC (m := 22) s22 (by decide) rfl (fun _ => rfl) rfl ⟨_, hmT⟩ gT4 gl hl0 fun H27 s23 => ?_
  show LM.tSeqC _ _ _ [some (.ref so), some o, some v2, some v3, some vT, some vO, some vL, some (.ref l)] H27
  refine LS.stepC (m := 23) s23 (by decide) rfl (fun _ => rfl) rfl ⟨_, hmT⟩ gT4 gl hl0 fun H28 s24 => ?_
  show LM.tSeqC _ _ _ [some (.ref so), some o, some v2, some v3, some vT, some vO, some vL, some (.ref l)] H28
  refine LS.stepC (m := 24) s24 (by decide) rfl (fun _ => rfl) rfl ⟨_, hmT⟩ gT4 gl hl0 fun H29 s25 => ?_
  show LM.tSeqC _ _ _ [some (.ref so), some o, some v2, some v3, some vT, some vO, some vL, some (.ref l)] H29
  refine LS.stepC (m := 25) s25 (by decide) rfl (fun _ => rfl) rfl ⟨_, hmT⟩ gT4 gl hl0 fun H30 s26 => ?_
  show LM.tSeqC _ _ _ [some (.ref so), some o, some v2, some v3, some vT, some vO, some vL, some (.ref l)] H30
  refine LS.stepC (m := 26) s26 (by decide) rfl (fun _ => rfl) rfl ⟨_, hmT⟩ gT4 gl hl0 fun H31 s27 => ?_
  show LM.tRetC _ _ [some (.ref so), some o, some v2, some v3, some vT, some vO, some vL, some (.ref l)] H31
  generalize hHn : H31 = Hn at *
  obtain ⟨vs, hl, he⟩ := s27.lst
  rw [List.take_of_length_le (by decide)] at he
  have hson : Hn so = some (.lst [.int ja, .int jb, .int jc]) := s27.kept.keep _ _ hso4 (tab_ne hT4 hso4 fun _ z => nomatch z)
  refine c_ret ?_
  refine ⟨.ref l, rfl, ?_⟩
  refine ⟨o, rfl, v2, rfl, ?_⟩
  have up4 : Ex G4 (sansT Hn so TB0) := sans_up s27.eG gso4 gT4
  refine ⟨sansT Hn so TB0, o, v2, t, rfl, sans_ex, ho.up up4, h2.up up4, s27.tabs, fun p hp => sans_tab hp, fun b o z n1 n2 => sans_plain hson s27.tabs z n1 n2, fun l2 xs2 G6 H6 e1 e2 hnew hk6 hT6 hl2 ti2 => ?_⟩
  have hl6 : H6 l = some (.lst vs) := hk6.keep _ _ hl (tab_ne s27.tabs hl fun _ z => nomatch z)
  have hso6 : H6 so = some (.lst [.int ja, .int jb, .int jc]) := hk6.keep _ _ hson (tab_ne s27.tabs hson fun _ z => nomatch z)
  have len1 := paired_len he
  have len2 := paired_len ti2
  have len3 : vs.length = 27 := len1
  have len4 : xs2.length = 10 := len2
  refine ⟨l, l2, vs, xs2, rfl, rfl, hl6, e2 _ _ hl2, Evl.sz_of (by omega), fun p hp => ?_⟩
  refine ⟨[o, v2, v3, vT, vO, vL], rfl, fun H8 e8 inj hc => ?_⟩
  generalize hH7 : upd H6 p (.lst (vs ++ xs2)) = H7 at *
  have e67 : Ex H6 H7 := hH7 ▸ Ex.frz hp
  have hp7 : H7 p = some (.lst (vs ++ xs2)) := hH7 ▸ upd_same
  have hT7 : LamX.Tabs TB0 H7 := hT6.ext fun b o z => e67 b o z
  have hT8 : LamX.Tabs TB0 H8 := hT7.ext fun b o z => e8 b o z
  have hso7 := e67 _ _ hso6
  have hso8 := e8 _ _ hso7
  have up7 : Ex G4 (sansT H7 so TB0) := sans_up (((up4.trans e1).trans e2).trans e67) gso4 gT4
  have he7 := Ents.keep (H2 := sansT H7 so TB0) he fun b o z n1 n2 => sans_plain hso7 hT7 (e67 _ _ (e2 _ _ (e1 _ _ (sans_plain hson s27.tabs z n1 n2)))) n1 n2
  have hx : Ex (sansT H7 so TB0) (sansT H8 so TB0) := sans_mono e8
  have hc' : ∀ (i : Nat) (y : Str), frC[i]? = some y → ∃ c v, (cellsFrom (s.heap.objs.size + 1) (defScope s_law_calls).names []).lookup y = some c ∧ [o, v2, v3, vT, vO, vL][i]? = some v ∧ sansT H7 so TB0 c = none ∧ sansT H8 so TB0 c = some (LM.CellO c v) := fun i y hi => by
    obtain ⟨c, v, a1, a2, a3, a4⟩ := hc i y hi
    exact ⟨c, v, a1, a2, LM.dropC_none a3, sans_plain hso8 hT8 a4 (fun _ z => by unfold LM.CellO at z; cases z) fun _ z => by unfold LM.CellO at z; cases z⟩
  have up6 : Ex G6 (sansT H8 so TB0) := sans_up ((e2.trans e67).trans e8) (hnew _ (by rw [hson]; exact fun z => nomatch z) sans_so) fun p hp => hnew _ (by
    obtain ⟨ps, h1, _⟩ := s27.tabs p hp
    rw [h1]; exact fun z => nomatch z) (sans_tab hp)
  have pso : p ≠ so := fun z => by rw [z, hso6] at hp; cases hp
  have pT : ∀ q ∈ TB0, p ≠ q.1 := fun q hq z => by
    obtain ⟨ps, h1, _⟩ := hT6 q hq
    rw [z, h1] at hp; cases hp
  refine k p (vs ++ xs2) (sansT H8 so TB0) H8 (((g12.g.trans g24.g).trans up7).trans hx) sans_ex ⟨sans_so, ja, jb, jc, hso8⟩ hT8 (fun p hp => sans_tab hp) (sans_at (e8 _ _ hp7) pso pT) (TIs.append (TIs.ofEnts hx he7 ?_) (ti2.up up6))
  refine List.forall_mem_cons.mpr ⟨⟨by decide, thunk_at (⟨NdefX.nscope_by (by decide +kernel), fun _ _ _ _ _ => rfl, by decide +kernel, by decide +kernel, rfl⟩ : Fit ["_law_odd", "_law_two", "_law_three", "_law_table", "_law_other", "_law_long"] (lamAt s_law_calls 3) ["_law_odd"] [0]) (lb0 Tt U X ho) rfl hx up7 inj hc'⟩,
    List.forall_mem_cons.mpr ⟨⟨by decide, thunk_at (⟨NdefX.nscope_by (by decide +kernel), fun _ _ _ _ _ => rfl, by decide +kernel, by decide +kernel, rfl⟩ : Fit ["_law_odd", "_law_two", "_law_three", "_law_table", "_law_other", "_law_long"] (lamAt s_law_calls 4) ["_law_odd"] [0]) (lb1 Tt U X ho) rfl hx up7 inj hc'⟩,
    List.forall_mem_cons.mpr ⟨⟨by decide, thunk_at (⟨NdefX.nscope_by (by decide +kernel), fun _ _ _ _ _ => rfl, by decide +kernel, by decide +kernel, rfl⟩ : Fit ["_law_odd", "_law_two", "_law_three", "_law_table", "_law_other", "_law_long"] (lamAt s_law_calls 5) [] []) (lb2 Tt U W X ) rfl hx up7 inj hc'⟩,
    List.forall_mem_cons.mpr ⟨⟨by decide, thunk_at (⟨NdefX.nscope_by (by decide +kernel), fun _ _ _ _ _ => rfl, by decide +kernel, by decide +kernel, rfl⟩ : Fit ["_law_odd", "_law_two", "_law_three", "_law_table", "_law_other", "_law_long"] (lamAt s_law_calls 6) ["_law_odd"] [0]) (lb3 Tt U W X ho) rfl hx up7 inj hc'⟩,
    List.forall_mem_cons.mpr ⟨⟨by decide, thunk_at (⟨NdefX.nscope_by (by decide +kernel), fun _ _ _ _ _ => rfl, by decide +kernel, by decide +kernel, rfl⟩ : Fit ["_law_odd", "_law_two", "_law_three", "_law_table", "_law_other", "_law_long"] (lamAt s_law_calls 7) ["_law_odd"] [0]) (lb4 Tt U W X ho) rfl hx up7 inj hc'⟩,
    List.forall_mem_cons.mpr ⟨⟨by decide, thunk_at (⟨NdefX.nscope_by (by decide +kernel), fun _ _ _ _ _ => rfl, by decide +kernel, by decide +kernel, rfl⟩ : Fit ["_law_odd", "_law_two", "_law_three", "_law_table", "_law_other", "_law_long"] (lamAt s_law_calls 8) ["_law_two", "_law_odd"] [1, 0]) (lb5 Tt U W X h2 ho) rfl hx up7 inj hc'⟩,
    List.forall_mem_cons.mpr ⟨⟨by decide, thunk_at (⟨NdefX.nscope_by (by decide +kernel), fun _ _ _ _ _ => rfl, by decide +kernel, by decide +kernel, rfl⟩ : Fit ["_law_odd", "_law_two", "_law_three", "_law_table", "_law_other", "_law_long"] (lamAt s_law_calls 9) ["_law_table", "_law_odd"] [3, 0]) (lb6 Tt U W X hT0 ho) rfl hx up7 inj hc'⟩,
    List.forall_mem_cons.mpr ⟨⟨by decide, thunk_at (⟨NdefX.nscope_by (by decide +kernel), fun _ _ _ _ _ => rfl, by decide +kernel, by decide +kernel, rfl⟩ : Fit ["_law_odd", "_law_two", "_law_three", "_law_table", "_law_other", "_law_long"] (lamAt s_law_calls 10) ["_law_two", "_law_odd"] [1, 0]) (lb7 Tt U W X h2 ho) rfl hx up7 inj hc'⟩,
    List.forall_mem_cons.mpr ⟨⟨by decide, thunk_at (⟨NdefX.nscope_by (by decide +kernel), fun _ _ _ _ _ => rfl, by decide +kernel, by decide +kernel, rfl⟩ : Fit ["_law_odd", "_law_two", "_law_three", "_law_table", "_law_other", "_law_long"] (lamAt s_law_calls 11) ["_law_two"] [1]) (lb8 Tt U W X h2) rfl hx up7 inj hc'⟩,
    List.forall_mem_cons.mpr ⟨⟨by decide, thunk_at (⟨NdefX.nscope_by (by decide +kernel), fun _ _ _ _ _ => rfl, by decide +kernel, by decide +kernel, rfl⟩ : Fit ["_law_odd", "_law_two", "_law_three", "_law_table", "_law_other", "_law_long"] (lamAt s_law_calls 12) ["_law_two", "_law_odd"] [1, 0]) (lb9 Tt U W X h2 ho) rfl hx up7 inj hc'⟩,
    List.forall_mem_cons.mpr ⟨⟨by decide, thunk_at (⟨NdefX.nscope_by (by decide +kernel), fun _ _ _ _ _ => rfl, by decide +kernel, by decide +kernel, rfl⟩ : Fit ["_law_odd", "_law_two", "_law_three", "_law_table", "_law_other", "_law_long"] (lamAt s_law_calls 13) ["_law_two"] [1]) (lb10 Tt U W X h2) rfl hx up7 inj hc'⟩,
    List.forall_mem_cons.mpr ⟨⟨by decide, thunk_at (⟨NdefX.nscope_by (by decide +kernel), fun _ _ _ _ _ => rfl, by decide +kernel, by decide +kernel, rfl⟩ : Fit ["_law_odd", "_law_two", "_law_three", "_law_table", "_law_other", "_law_long"] (lamAt s_law_calls 14) ["_law_two", "_law_odd"] [1, 0]) (lb11 Tt U W X h2 ho) rfl hx up7 inj hc'⟩,
    List.forall_mem_cons.mpr ⟨⟨by decide, thunk_at (⟨NdefX.nscope_by (by decide +kernel), fun _ _ _ _ _ => rfl, by decide +kernel, by decide +kernel, rfl⟩ : Fit ["_law_odd", "_law_two", "_law_three", "_law_table", "_law_other", "_law_long"] (lamAt s_law_calls 15) ["_law_two"] [1]) (lb12 Tt U W X h2) rfl hx up7 inj hc'⟩,
    List.forall_mem_cons.mpr ⟨⟨by decide, thunk_at (⟨NdefX.nscope_by (by decide +kernel), fun _ _ _ _ _ => rfl, by decide +kernel, by decide +kernel, rfl⟩ : Fit ["_law_odd", "_law_two", "_law_three", "_law_table", "_law_other", "_law_long"] (lamAt s_law_calls 16) ["_law_odd"] [0]) (lb13 Tt U W X ho) rfl hx up7 inj hc'⟩,
    List.forall_mem_cons.mpr ⟨⟨by decide, thunk_at (⟨NdefX.nscope_by (by decide +kernel), fun _ _ _ _ _ => rfl, by decide +kernel, by decide +kernel, rfl⟩ : Fit ["_law_odd", "_law_two", "_law_three", "_law_table", "_law_other", "_law_long"] (lamAt s_law_calls 17) ["_law_odd"] [0]) (lb14 Tt U W X ho) rfl hx up7 inj hc'⟩,
    List.forall_mem_cons.mpr ⟨⟨by decide, thunk_at (⟨NdefX.nscope_by (by decide +kernel), fun _ _ _ _ _ => rfl, by decide +kernel, by decide +kernel, rfl⟩ : Fit ["_law_odd", "_law_two", "_law_three", "_law_table", "_law_other", "_law_long"] (lamAt s_law_calls 18) ["_law_table", "_law_odd"] [3, 0]) (lb15 Tt U W X hT0 ho) rfl hx up7 inj hc'⟩,
    List.forall_mem_cons.mpr ⟨⟨by decide, thunk_at (⟨NdefX.nscope_by (by decide +kernel), fun _ _ _ _ _ => rfl, by decide +kernel, by decide +kernel, rfl⟩ : Fit ["_law_odd", "_law_two", "_law_three", "_law_table", "_law_other", "_law_long"] (lamAt s_law_calls 19) ["_law_table", "_law_two"] [3, 1]) (lb16 Tt U W X hT0 h2) rfl hx up7 inj hc'⟩,
    List.forall_mem_cons.mpr ⟨⟨by decide, thunk_at (⟨NdefX.nscope_by (by decide +kernel), fun _ _ _ _ _ => rfl, by decide +kernel, by decide +kernel, rfl⟩ : Fit ["_law_odd", "_law_two", "_law_three", "_law_table", "_law_other", "_law_long"] (lamAt s_law_calls 20) ["_law_two", "_law_odd"] [1, 0]) (lb17 Tt U W X h2 ho) rfl hx up7 inj hc'⟩,
    List.forall_mem_cons.mpr ⟨⟨by decide, thunk_at (⟨NdefX.nscope_by (by decide +kernel), fun _ _ _ _ _ => rfl, by decide +kernel, by decide +kernel, rfl⟩ : Fit ["_law_odd", "_law_two", "_law_three", "_law_table", "_law_other", "_law_long"] (lamAt s_law_calls 21) ["_law_table"] [3]) (lb18 Tt U W X hT0) rfl hx up7 inj hc'⟩,
    List.forall_mem_cons.mpr ⟨⟨by decide, thunk_at (⟨NdefX.nscope_by (by decide +kernel), fun _ _ _ _ _ => rfl, by decide +kernel, by decide +kernel, rfl⟩ : Fit ["_law_odd", "_law_two", "_law_three", "_law_table", "_law_other", "_law_long"] (lamAt s_law_calls 22) ["_law_odd"] [0]) (lb19 Tt U W X ho) rfl hx up7 inj hc'⟩,
    List.forall_mem_cons.mpr ⟨⟨by decide, thunk_at (⟨NdefX.nscope_by (by decide +kernel), fun _ _ _ _ _ => rfl, by decide +kernel, by decide +kernel, rfl⟩ : Fit ["_law_odd", "_law_two", "_law_three", "_law_table", "_law_other", "_law_long"] (lamAt s_law_calls 23) ["_law_odd"] [0]) (lb20 Tt U W X ho) rfl hx up7 inj hc'⟩,
    List.forall_mem_cons.mpr ⟨⟨by decide, thunk_at (⟨NdefX.nscope_by (by decide +kernel), fun _ _ _ _ _ => rfl, by decide +kernel, by decide +kernel, rfl⟩ : Fit ["_law_odd", "_law_two", "_law_three", "_law_table", "_law_other", "_law_long"] (lamAt s_law_calls 24) ["_law_odd"] [0]) (lb21 Tt U W X ho) rfl hx up7 inj hc'⟩,
    List.forall_mem_cons.mpr ⟨⟨by decide, thunk_at (⟨NdefX.nscope_by (by decide +kernel), fun _ _ _ _ _ => rfl, by decide +kernel, by decide +kernel, rfl⟩ : Fit ["_law_odd", "_law_two", "_law_three", "_law_table", "_law_other", "_law_long"] (lamAt s_law_calls 25) ["_law_odd"] [0]) (lb22 Tt U W X ho) rfl hx up7 inj hc'⟩,
    List.forall_mem_cons.mpr ⟨⟨by decide, thunk_at (⟨NdefX.nscope_by (by decide +kernel), fun _ _ _ _ _ => rfl, by decide +kernel, by decide +kernel, rfl⟩ : Fit ["_law_odd", "_law_two", "_law_three", "_law_table", "_law_other", "_law_long"] (lamAt s_law_calls 26) ["_law_two", "_law_three"] [1, 2]) (lb23 Tt U W X h2 h3) rfl hx up7 inj hc'⟩,
    List.forall_mem_cons.mpr ⟨⟨by decide, thunk_at (⟨NdefX.nscope_by (by decide +kernel), fun _ _ _ _ _ => rfl, by decide +kernel, by decide +kernel, rfl⟩ : Fit ["_law_odd", "_law_two", "_law_three", "_law_table", "_law_other", "_law_long"] (lamAt s_law_calls 27) ["_law_table", "_law_other"] [3, 4]) (lb24 Tt U W X hT0 hO) rfl hx up7 inj hc'⟩,
    List.forall_mem_cons.mpr ⟨⟨by decide, thunk_at (⟨NdefX.nscope_by (by decide +kernel), fun _ _ _ _ _ => rfl, by decide +kernel, by decide +kernel, rfl⟩ : Fit ["_law_odd", "_law_two", "_law_three", "_law_table", "_law_other", "_law_long"] (lamAt s_law_calls 28) ["_law_long"] [5]) (lb25 Tt U W X hL) rfl hx up7 inj hc'⟩,
    List.forall_mem_cons.mpr ⟨⟨by decide, thunk_at (⟨NdefX.nscope_by (by decide +kernel), fun _ _ _ _ _ => rfl, by decide +kernel, by decide +kernel, rfl⟩ : Fit ["_law_odd", "_law_two", "_law_three", "_law_table", "_law_other", "_law_long"] (lamAt s_law_calls 29) ["_law_other"] [4]) (lb26 Tt U W X hO) rfl hx up7 inj hc'⟩,
    fun x hx => by cases hx⟩⟩⟩⟩⟩⟩⟩⟩⟩⟩⟩⟩⟩⟩⟩⟩⟩⟩⟩⟩⟩⟩⟩⟩⟩⟩⟩
end
end CP
set_option Elab.async false
set_option linter.all false
set_option maxRecDepth 100000
set_option maxHeartbeats 4000000
/-! super().m(..) as a statement of a method. -/
namespace SU
open PySem PySem.Spec PySem.Calls L2
open PyProof.Rows hiding St
/-- a block that may ask the frame it runs in -/
structure PSsA (X : Cx) (c : Code) (st : List Stmt) (t : TS) : Prop where
  run : ∀ (pins : List (Addr × Obj)) (s : Shared) (σ : St) (H : Hp) (D : Ends), Inv X pins σ H s → t D σ H → _root_.PySem.wpAt (model X.prog X.w) X.A c (execs st X.env) (SP X pins D) X.xe s
structure PSA (X : Cx) (c : Code) (st : Stmt) (t : TS) : Prop where
  run : ∀ (pins : List (Addr × Obj)) (s : Shared) (σ : St) (H : Hp) (D : Ends), Inv X pins σ H s → t D σ H → _root_.PySem.wpAt (model X.prog X.w) X.A c (exec st X.env) (SP X pins D) X.xe s
theorem PSA.of {X : Cx} {c : Code} {st : Stmt} {t : TS} (h : PS X st t) : PSA X c st t := ⟨fun pins s σ H D I q => wpAt_of_wpAny (h.run pins s σ H D I q)⟩
theorem PSsA.of {X : Cx} {c : Code} {st : List Stmt} {t : TS} (h : PSs X st t) : PSsA X c st t := ⟨fun pins s σ H D I q => wpAt_of_wpAny (h.run pins s σ H D I q)⟩
theorem pssA_cons {X : Cx} {c : Code} {st : Stmt} {rest : List Stmt} {t u : TS} (h1 : PSA X c st t) (h2 : PSsA X c rest u) : PSsA X c (st :: rest) (tSeq t u) := by
  refine ⟨fun pins s σ H D I h => ks_wpAt_execs_cons (ks_wpAt_mono (h1.run pins s σ H _ I h) (fun f s1 q => ?_) fun _ _ z => z)⟩
  cases f with
  | next =>
    obtain ⟨σ', H', J, q⟩ := q
    exact h2.run pins s1 σ' H' D J q
  | ret v => exact q
  | brk => exact q
  | cont => exact q
theorem pssA_one {X : Cx} {c : Code} {st : Stmt} {t : TS} (h : PSA X c st t) : PSsA X c [st] t := by
  refine ⟨fun pins s σ H D I q => ks_wpAt_execs_cons (ks_wpAt_mono (h.run pins s σ H _ I q) (fun f s1 q => ?_) fun _ _ z => z)⟩
  cases f with
  | next =>
    refine wpAt_of_wpAny ?_
    show wpAny _ _ (execs [] X.env) _ _ _
    first
      | exact wpAny_execs_nil q
      | exact wpAny_pure q
  | ret v => exact q
  | brk => exact q
  | cont => exact q
/-- a method that says super(): its cell of the class at cc holds D -/
structure FunS (P : Program) (K : PySem.W.Frag) (x qual : Str) (st : Stmt) (f : Addr) (fd : FuncData) (D : Addr) : Prop where
  ex : ∃ (oc : Value) (od : Option Addr) (dV kV doc pm : Value) (an : Option Addr) (cda cc : Addr) (ct : Value) (osl : Array (Option Value)) (vs : Array Value) (file : Str) (tf : Tok) (ccl : Value) (cdd : Option Addr) (ccs : Array (Option Value)) (cl : Value) (cld : Option Addr) (csl : Array (Option Value)),
    fd = PySem.W.fnX x qual (defArgs st) (defBody st) (defScope st) [("__class__", cc)] dV kV doc pm an (.ref cda) ct ∧
    K.lookup f = some ⟨oc, od, .func (PySem.W.fnX x qual (defArgs st) (defBody st) (defScope st) [("__class__", cc)] dV kV doc pm an (.ref cda) ct), osl⟩ ∧ PySem.W.codeIn K (.ref cda) qual = true ∧ K.lookup cda = some ⟨ccl, cdd, .fields vs, ccs⟩ ∧ vs[2]? = some (.str file tf) ∧ ((P.main.file : Str) == file) = true ∧
    K.lookup cc = some ⟨cl, cld, .cell (some (.ref D)), csl⟩
  kp : PySem.W.keepIn K (.ref f) = true
/-- super() of D at an instance of C has the method m at g -/
structure SupOk (K : PySem.W.Frag) (C D : Addr) (m : Str) (g : Addr) : Prop where
  cD : (PySem.W.clsIn K D).isSome = true
  cC : (PySem.W.clsIn K C).isSome = true
  sub : PySem.W.mroIn K C (.ref D) = some true
  at_ : PySem.W.ks_superIn K C D m = some (some (.ref g))
  ty : PySem.W.typeIn K (.ref g) = some (.type "function")
  fi : PySem.W.fnIn K g = true
  any : PySem.W.nsIn K cStatics "thirdparty.any" = some none
def tSuper (C : Addr) (sp : Sp) (E : XK) (i : Nat) (t : TA) : TS := fun D' σ H => ∃ (a dx : Addr) (fs : List (Str × V)), σ[i]? = some (some (.ref a)) ∧ H a = some (.ins C dx fs) ∧ t σ H fun vs H2 => sp (.ref a :: vs) H2 (fun _ H3 => D'.nx σ H3) E
section
variable {P : Program} {w : World} {K : PySem.W.Frag} {mg : Str → Option Value} {base : Heap} {CX CX' : CXT} {N ps : List Str} {A : Around} {outer : List Env} {s₀ : Shared} {H₀ : Hp} {E₀ E : XK} {f g C D cc cda : Addr} {x qual m : Str} {st : Stmt} {fd : FuncData} {k i : Nat} {sp : Sp}
abbrev nfS (x qual : Str) (st : Stmt) (cc cda : Addr) : NdefX.NF := ⟨x, qual, defArgs st, defBody st, defScope st, [("__class__", cc)], cda⟩
theorem psA_super {c : Code} {ar : Arg} {e : Expr} {es : List Expr} {t : TA} {p0 p1 apos pos pos2 : Pos} {oc : Value} {od : Option Addr} {osl : Array (Option Value)} {vs : Array Value} {file : Str} {tf : Tok} {ccl cl : Value} {cdd cld : Option Addr} {ccs csl : Array (Option Value)}
    (lk : K.lookup f = some ⟨oc, od, .func fd, osl⟩) (hp : (fd.params.posonlyargs ++ fd.params.args).head? = some ar) (hcode : K.lookup cda = some ⟨ccl, cdd, .fields vs, ccs⟩) (hvs : vs[2]? = some (.str file tf)) (hfile : ((P.main.file : Str) == file) = true) (hcell : K.lookup cc = some ⟨cl, cld, .cell (some (.ref D)), csl⟩)
    (S : SupOk K C D m g) (hN : N[i]? = some ar.arg) (hks : (defScope st).names.lookup ("super" : Str) = some .globalImplicit) (hkc : (defScope st).names.lookup ("__class__" : Str) = some .free) (hka : (defScope st).names.lookup ar.arg = some .local) (hk : (defScope st).kind = .function) (hat : (m == ("__class__" : Str)) = false)
    (hms : mg "super" = none) (htop : (P.main.scope.names.lookup ("super" : Str)).isSome = false) (hboot : bootBuiltins "super" = some (.type "super")) (F : FnR P w K mg base CX' k g sp) (hr : Room k (A.deeper (NdefX.envF (nfS x qual st cc cda) f s₀.heap.objs.size)))
    (hx : Passes CX' (NdefX.ncx CX P w K mg base N (nfS x qual st cc cda) f A outer s₀ H₀ E₀) E) (ha : PA (NdefX.ncx CX P w K mg base N (nfS x qual st cc cda) f A outer s₀ H₀ E₀) (e :: es) t) (hc : c = .func (defBody st) (NdefX.envF (nfS x qual st cc cda) f s₀.heap.objs.size))
    (hst : starEach (e :: es) (NdefX.envF (nfS x qual st cc cda) f s₀.heap.objs.size) = (false, eval e (NdefX.envF (nfS x qual st cc cda) f s₀.heap.objs.size)) :: starEach es (NdefX.envF (nfS x qual st cc cda) f s₀.heap.objs.size)) (hpl : (backTo pos (starEach es (NdefX.envF (nfS x qual st cc cda) f s₀.heap.objs.size))).any (·.1) = false)
    (pl : Sem Bool) (he : eval (.Call (.Attribute (.Call (.Name "super" p0) [] [] p1) m apos) (e :: es) [] pos) (NdefX.envF (nfS x qual st cc cda) f s₀.heap.objs.size) = (do
      let ov ← attributeBase (.Call (.Name "super" p0) [] [] p1) m (NdefX.envF (nfS x qual st cc cda) f s₀.heap.objs.size) (eval (.Call (.Name "super" p0) [] [] p1) (NdefX.envF (nfS x qual st cc cda) f s₀.heap.objs.size))
      standAt apos.atName
      let (f', first) ← holding [ov] (getMethod ov m pl)
      callWith pos f' first (backTo pos (starEach (e :: es) (NdefX.envF (nfS x qual st cc cda) f s₀.heap.objs.size))) []))
    (hs : swapsWith (.Call (.Attribute (.Call (.Name "super" p0) [] [] p1) m apos) (e :: es) [] pos) none pos2.line (NdefX.envF (nfS x qual st cc cda) f s₀.heap.objs.size) = pure false) :
    PSA (NdefX.ncx CX P w K mg base N (nfS x qual st cc cda) f A outer s₀ H₀ E₀) c (.Expr (.Call (.Attribute (.Call (.Name "super" p0) [] [] p1) m apos) (e :: es) [] pos) pos2) (tSuper C sp E i t) := by
  subst hc
  refine ⟨fun pins s σ H D' I ⟨a, dx, fs, hi, hH, hq⟩ => ?_⟩
  have X : K.In s.heap := I.kIn
  obtain ⟨mA, O, _⟩ := ins_get I.hok hH
  obtain ⟨od', J, _⟩ := O.look
  obtain ⟨mm, hn, hl⟩ := I.loc
  obtain ⟨u, ru, hself⟩ := hl i ar.arg (.ref a) hN hi (.inl hka)
  obtain rfl : u = Value.ref a := ru
  have hself : mm ar.arg = some (.ref a) := by
    rcases hself with ⟨_, z⟩ | ⟨z, _⟩
    · exact z
    · rcases z with z | z
      · exact absurd (hka.symm.trans z) (by simp)
      · exact absurd (hka.symm.trans z) (by simp)
  obtain ⟨cdD, hD⟩ := Option.isSome_iff_exists.mp S.cD
  obtain ⟨cdC, hC⟩ := Option.isSome_iff_exists.mp S.cC
  obtain ⟨oD, hD1, hD2⟩ : ∃ oD, s.heap.get? D = some oD ∧ oD.data = .cls cdD := by
    unfold PySem.W.clsIn at hD
    split at hD
    · rename_i c d cd' sl ho
      cases hD
      exact ⟨_, X _ _ ho, rfl⟩
    · cases hD
  obtain ⟨of, hof, hofc⟩ : ∃ of, s.heap.get? g = some of ∧ of.cls = .type "function" := by
    have ht' : (K.lookup g).map (·.cls) = some (.type "function") := S.ty
    cases z : K.lookup g with
    | none => rw [z] at ht'; cases ht'
    | some of => rw [z] at ht'; exact ⟨of, X _ _ z, Option.some.inj ht'⟩
  have hsup : PySem.W.alongIn K m ((cdC.mro.dropWhile (· != .ref D)).drop 1) = some (some (.ref g)) := by
    have z := S.at_
    unfold PySem.W.ks_superIn at z
    rw [hC] at z
    exact z
  obtain ⟨mb, hmb, hmb2⟩ := I.ok.mod.blt
  refine ks_wpAt_Expr_any ?_ I.quiet hs
  refine ks_wpAt_MethodCall (pl := pl) ?_ he
  refine ks_wpAt_super_base (env := NdefX.envF (nfS x qual st cc cda) f s₀.heap.objs.size) hks hkc hat rfl (X _ _ lk) rfl hp rfl (X _ _ hcode) rfl hvs hfile htop ?_
  refine PySem.W.ks_loadName_global hk hks (loadGlobal_builtin (env := NdefX.envF (nfS x qual st cc cda) f s₀.heap.objs.size) (I.ok.mod.glob.keeps I.bk) hms (hmb.keeps I.bk) ((hmb2 _ (by decide)).trans hboot) ⟨rfl, ?_⟩)
  refine wpAny_loadName_free hk hkc rfl ⟨_, X _ _ hcell, rfl⟩ ?_
  refine wpAny_loadName_local hk hka hn hself ?_
  refine ks_wpAny_isType_cls hD1 hD2 ⟨rfl, ?_⟩
  obtain ⟨hh, gg, d, tk, os⟩ := s
  refine ks_wpAny_call_super hD1 hD2 J.at_ J.cls (fun c e => ?_) (PySem.W.looks_mroIn X S.sub) (fun h' e1 k1 => ?_)
  · have := J.no
    unfold PySem.W.notCls at this
    rw [e] at this
    exact Bool.noConfusion this
  have I1 := ClX.pin_new (t' := tk) I k1 (Nat.le_refl _) e1 (fun v z => nomatch z)
  have X1 : K.In h' := I1.kIn
  obtain ⟨_, O1, _⟩ := ins_get I1.hok hH
  obtain ⟨_, J1, _⟩ := O1.look
  refine ks_wpAny_getMethod_super e1 (PySem.W.looks_opaque X1 S.any) (l₀ := cdC.mro) ?_ rfl X1 hsup (k1 _ _ hof) hofc (PySem.W.ks_ne X1 J1 hC) hat ?_
  · exact fun A Q E s k q => wpAny_bind ((PySem.W.looks_clsIn X1 hC) A _ E s k (wpAny_pure q))
  have I2 := ClX.met_new (g := g) (C := a) I1
  have go := ClX.callwith_cm (A := (NdefX.ncx CX P w K mg base N (nfS x qual st cc cda) f A outer s₀ H₀ E₀).A) (Q := fun _ s' => SP (NdefX.ncx CX P w K mg base N (nfS x qual st cc cda) f A outer s₀ H₀ E₀) pins D' .next s') (E := (NdefX.ncx CX P w K mg base N (nfS x qual st cc cda) f A outer s₀ H₀ E₀).xe) (pos := pos) (e := e) (es := es) I2 (ClX.base_none I1 (Nat.le_refl _)) S.fi
    (thn (ha.run pos _ _ σ H _ I2 hq) fun us s3 ⟨vs', H2, I3, rv, q2⟩ => ⟨⟨ClX.pin_at I3, I3.kIn⟩, thn (ClX.run_cm F hr hx I3 rv q2) fun u s4 ⟨v, H4, I4, _, q4⟩ => ⟨σ, H4, ClX.unpin I4, q4⟩⟩) hst hpl
  exact go
/-- THE RULE: a def whose scope has the cell of its class -/
theorem fn_ofS {oc : Value} {od an : Option Addr} {dV kV doc pm ct cl : Value} {osl csl : Array (Option Value)} {cld : Option Addr}
    (lk : K.lookup f = some ⟨oc, od, .func (PySem.W.fnX x qual (defArgs st) (defBody st) (defScope st) [("__class__", cc)] dV kV doc pm an (.ref cda) ct), osl⟩) (hcd : PySem.W.codeIn K (.ref cda) qual = true) (hcell : K.lookup cc = some ⟨cl, cld, .cell (some (.ref D)), csl⟩)
    (S : NdefX.NScope N ps ["__class__"] (defScope st)) (len : ∀ vs H Q E, sp vs H Q E → vs.length = ps.length)
    (hbody : ∀ (A : Around) (outer : List Env) (s : Shared) (H : Hp) (vs : List V) (Q : VK) (E : XK), Room k (A.deeper (NdefX.envF (nfS x qual st cc cda) f s.heap.objs.size)) → sp vs H Q E →
      ∃ t, PSsA (NdefX.ncx CX P w K mg base N (nfS x qual st cc cda) f A outer s H E) (.func (defBody st) (NdefX.envF (nfS x qual st cc cda) f s.heap.objs.size)) (defBody st) t ∧ t { nx := fun _ H' => Q .non H', rt := Q } (NdefX.startF N vs [some (.ref D)]) H) :
    FnOk P w K mg base CX (k + 1) f (PySem.W.fnX x qual (defArgs st) (defBody st) (defScope st) [("__class__", cc)] dV kV doc pm an (.ref cda) ct) ps sp := by
  refine ⟨len, fun A outer s H args us vs Q E hr e0 hb r hsp => ?_⟩
  have hl := len _ _ _ _ hsp
  have KX : K.In s.heap := e0.mod.kin.keeps fun b o e => (e0.bs b o e).1
  have lim : s.heap.NoLimit := e0.mod.nolimit.keeps fun b o e => (e0.bs b o e).1
  obtain ⟨t, ht, hq⟩ := hbody A outer s H vs Q E (hr.deeper _) hsp
  refine ks_codeAny_call_defAt (fd := PySem.W.fnX x qual (defArgs st) (defBody st) (defScope st) [("__class__", cc)] dV kV doc pm an (.ref cda) ct) (body := defBody st) (binds := ps.zip us) hr.depth (KX _ _ lk) rfl lim (PySem.W.codeRec_of KX hcd) rfl hb S.nocell (fun ⟨n, _⟩ hy => S.par n (List.of_mem_zip hy).1) (fun h₁ hns kp => ?_) S.co S.gen S.kind
  have C : NdefX.CellsAt [("__class__", cc)] ["__class__"] [some (V.ref D)] s.heap H := by
    have look : ∀ {y : Str} {c : Addr}, ([("__class__", cc)] : List (Str × Addr)).lookup y = some c → y = "__class__" ∧ c = cc := fun {y c} e => by
      rw [List.lookup_cons] at e
      cases hb : y == ("__class__" : Str) with
      | true =>
        rw [hb] at e
        exact ⟨eq_of_beq hb, (Option.some.inj e).symm⟩
      | false =>
        rw [hb] at e
        cases e
    have at_ : H cc = none ∧ s.heap.IsCell cc (some (.ref D)) := ⟨(e0.bs _ _ (e0.mod.kin _ _ hcell)).2, ⟨_, KX _ _ hcell, rfl⟩⟩
    refine ⟨rfl, fun y c e => ?_, fun y z c e1 e2 => (look e1).1.trans (look e2).1.symm, fun i y hi => ?_⟩
    · rw [(look e).2]
      exact ⟨at_.1, _, at_.2⟩
    · match i, hi with
      | 0, hi =>
        have hi : "__class__" = y := Option.some.inj hi
        subst hi
        exact ⟨cc, rfl, fun v hv => ⟨.ref D, by rw [← Option.some.inj (Option.some.inj hv)]; rfl, at_.2⟩⟩
      | n + 1, hi => exact absurd hi (by simp)
  have I : Inv (NdefX.ncx CX P w K mg base N (nfS x qual st cc cda) f A outer s H E) [] (NdefX.startF N vs [some (V.ref D)]) H { s with heap := h₁, toks := s.toks + (ps.zip us).length } := NdefX.inv_startN (F := nfS x qual st cc cda) S hr.hd e0 hl r C hns kp
  have fin : ∀ {σ' : L2.St} {H' : Hp} {v : V} {u : Value} {s' : Shared}, Inv (NdefX.ncx CX P w K mg base N (nfS x qual st cc cda) f A outer s H E) [] σ' H' s' → L2.RelV v u → Q v H' → CE outer P w H s Q u s' :=
    fun {σ' H' v u s'} J rv q => ⟨v, H', J.os, J.bare, J.base, J.hok, rv, q⟩
  refine ks_wpAt_mono (ht.run [] _ (NdefX.startF N vs [some (V.ref D)]) H _ I hq) (fun fl s' hs => ?_) fun e s' hs => hs
  cases fl with
  | ret u =>
    obtain ⟨v, σ', H', J, rv, q⟩ := hs
    exact fin J rv q
  | next =>
    obtain ⟨σ', H', J, q⟩ := hs
    exact fin (v := V.non) (u := Value.none) J rfl q
  | brk =>
    obtain ⟨_, _, _, q⟩ := hs
    exact False.elim q
  | cont =>
    obtain ⟨_, _, _, q⟩ := hs
    exact False.elim q
end
end SU
set_option Elab.async false
set_option linter.all false
set_option maxRecDepth 100000
set_option maxHeartbeats 4000000
/-! o.f = v, f a property with a setter. -/
namespace CL
open PySem PySem.Spec L2
open PyProof.Rows hiding St
structure SetOf (K : PySem.W.Frag) (C : Addr) (f : Str) (p g : Addr) : Prop where
  tk : PySem.W.takerIn K C f = some (some (.ref p))
  ty : PySem.W.typeIn K (.ref p) = some (.type "property")
  rc : ∃ a rest, PySem.W.recIn K p "property" = some (a :: .ref g :: rest)
def gProp (C : Addr) (sp : Sp) (E : XK) (ta : TE) : TG := fun v σ H Q => ta σ H fun x H1 => ∃ a dx fs, x = .ref a ∧ H1 a = some (.ins C dx fs) ∧ sp [.ref a, v] H1 (fun _ H2 => Q σ H2) E
theorem pg_prop {X : Cx} {CX : CXT} {o : Expr} {to : TE} {f : Str} {pos : Pos} {C p g : Addr} {k : Nat} {sp : Sp} {E : XK} (ha : PE X o to) (c : Cls X.K C) (S : SetOf X.K C f p g) (F : FnR X.prog X.w X.K X.mg X.base CX k g sp) (hr : Room (k + 2) X.A) (hx : Passes CX X E) : PG X (.Attribute o f pos) (gProp C sp E to) := by
  refine ⟨fun pins s σ H v u Q I r h => ?_⟩
  refine PySem.W.kas_attr (thn (ha.run pins s σ H _ I h) fun ov s1 ⟨x, H1, I1, rx, a, dx, fs, ex, ea, q⟩ => ?_)
  subst ex
  obtain rfl : ov = Value.ref a := rx
  obtain ⟨mA, O, _⟩ := ins_get I1.hok ea
  obtain ⟨od, J, _⟩ := O.look
  obtain ⟨b, rest, hrec⟩ := S.rc
  have I2 := I1.tok (s1.toks + 1)
  refine PySem.W.set_plain I1.kIn J c.sa ?_
  refine PySem.W.osa_descr (s := { s1 with toks := s1.toks + 1 }) PySem.W.KF.slot_pset I1.kIn J c.po S.tk S.ty ?_
  refine PySem.W.prop_set (s := { s1 with toks := s1.toks + 1 }) I1.kIn hrec ?_
  refine codeAny_mono (F X.A.in1.in1 X.stack { s1 with toks := s1.toks + 1 } H1 [.ref a, u] [.ref a, v] _ E hr.in1.in1 I2.env0.in1.in1 (.cons rfl (.cons r .nil)) q) fun r s' hq => ?_
  cases r with
  | error er => exact hx pins σ H1 { s1 with toks := s1.toks + 1 } er s' I2 hq
  | ok fl =>
    cases fl with
    | ret u =>
      obtain ⟨v', H', I3, rv, q3⟩ := I2.after hq
      exact ⟨σ, H', I3, q3⟩
    | next => exact False.elim hq
    | brk => exact False.elim hq
    | cont => exact False.elim hq
end CL
set_option Elab.async false
set_option linter.all false
set_option maxRecDepth 100000
set_option maxHeartbeats 4000000
set_option pp.maxSteps 900
set_option pp.deepTerms false
namespace CP
open PySem L2 CL CM
theorem hu1 {k : Nat} {A : Around} (hr : Room k A) : A.units + 1 < cLine := Nat.lt_of_le_of_lt (Nat.add_le_add_left (by decide : 1 ≤ 64) _) hr.units
section
variable {P : Program} {w : World} {K : PySem.W.Frag} {mg : Str → Option Value} {base : Heap} {Z : Ads} {Y : AdY}
/-- whether settles 0 1 holds in one or two pairs -/
def hold2 : List (Nat × Nat) → Bool
  | [] => true
  | [_] => true
  | [p, q] => !(decide (p.1 = q.1) && !decide (p.2 = q.2))
  | _ => false
abbrev prRow (p : Nat × Nat) : PyData := RW [p.1, p.2]
def R_holds : List PyData → (PyData → Prop) → Prop := fun ds S => ∃ rs : List (Nat × Nat), ds = [.tuple (rs.map prRow), RU (true, 0, 1)] ∧ rs.length ≤ 2 ∧ S = fun d => d = .bool (hold2 rs)
theorem sc_holds : FnScope ["rows", "rule", "kind", "a", "b", "there", "known", "row"] ["rows", "rule"] (defScope s_holds) := ⟨rfl, rfl, rfl, by decide +kernel, rfl, by decide +kernel, by decide +kernel⟩
-- N = ["rows", "rule", "kind", "a", "b", "there", "known", "row"]
theorem ok_holds {f : Addr} {fd : FuncData} (F : Fun K "holds" "holds" s_holds f fd) (T : Txt Z K mg) : FnOk P w K mg base CX0 1 f fd ["rows", "rule"] (spR R_holds) := by
  refine F.ok sc_holds (fun vs H Q E h => spR_len (n := 2) (fun ds S ⟨rs, e, _⟩ => by rw [e]; rfl) h) (fun cdv A outer s H vs Q E hr h => ?_)
  obtain ⟨G, ds, S, ⟨rs, rfl, hl, rfl⟩, eG, hd, k⟩ := h
  obtain ⟨v1, r, rfl, h1, hd⟩ := hd.inv
  obtain ⟨v2, r, rfl, h2, hd⟩ := hd.inv
  obtain rfl := hd.inv0
  have nd := sc_holds.nd
  refine ⟨_, (pss_cons (ps_asg (pv 1) (pgTupK K (n := 3) (pgs_cons (pgN 2 nd) (pgs_cons (pgN 3 nd) (pgs_cons (pgN 4 nd) pgs_nil)))))
    (pss_cons (ps_if (pt_cmpR (eqDK K (h64 hr)) (pv 2) (pe_glob (v := .str "within") rfl T.c_WITHIN ⟨_, rfl⟩) (nomark _)) (pss_cons ps_never (pss_one ps_never)) pss_nil)
    (pss_cons (ps_set (i := 6) nd rfl (by first | exact Or.inl rfl | exact Or.inr rfl) pe_dnewK)
    (pss_cons (ps_for PassesOwn.never rfl (piTupK K (pv 0)) (pgN 7 nd)
    (pss_cons (ps_if (pt_cmpR (neDK K (h64 hr)) (pe_dget2 (hu1 hr) (pv 6) (pe_ix (ix_seqK K) (pv 7) (pv 3) (fun _ _ => rfl)) (pe_ix (ix_seqK K) (pv 7) (pv 4) (fun _ _ => rfl)) ⟨rfl, rfl, rfl, rfl⟩) (pe_ix (ix_seqK K) (pv 7) (pv 4) (fun _ _ => rfl)) (nomark _)) (pss_one (ps_ret pe_bl)) pss_nil)
    (pss_one (ps_dput (hu1 hr) (pv 6) (pe_ix (ix_seqK K) (pv 7) (pv 3) (fun _ _ => rfl)) (pe_ix (ix_seqK K) (pv 7) (pv 4) (fun _ _ => rfl)) rfl))))
    (pss_one (ps_ret pe_bl)))))), ?_⟩
  show tSeq _ _ _ [some v1, some v2, none, none, none, none, none, none] H
  refine ⟨v2, rfl, g_tup3 h2 eG fun u1 u2 u3 k1 k2 k3 => ?_⟩
  obtain rfl := k1.eqS
  obtain rfl := k2.eqI
  obtain rfl := k3.eqI
  show tSeq _ _ _ [some v1, some v2, some (.str (kd true)), some (.int ((0 : Nat) : Int)), some (.int ((1 : Nat) : Int)), none, none, none] H
  refine q_pass (b := PyData.eqv (.str (kd true)) (.str (kd false))) (by rw [eqv_str]; decide +kernel) (b_test (d_op (d_var rfl (.str _)) d_str (r_eq (shaped_kd true) (shaped_kd false)))) eG fun G1 H1 g1 => ?_
  intro kn hkn
  show tSeq _ _ _ [some v1, some v2, some (.str (kd true)), some (.int ((0 : Nat) : Int)), some (.int ((1 : Nat) : Int)), none, some (.ref kn), none] (upd H1 kn (.dK []))
  have g2 : Grow M0 G H G1 (upd H1 kn (.dK [])) := g1.trans (Grow.mnew g1.gh hkn)
  have hG1 : G1 kn = none := g1.gh.back hkn
  have hH : H kn = none := g1.there kn hkn
  refine q_forT (K := K) (enc := prRow) (xs := rs) (d_var rfl (h1.up g1.g)) g2.gh (fun i σ' G' H' => (∃ o, σ' = [some v1, some v2, some (.str (kd true)), some (.int ((0 : Nat) : Int)), some (.int ((1 : Nat) : Int)), none, some (.ref kn), o]) ∧ Grow M0 G H G' H' ∧ G' kn = none ∧
      (∃ kvs : List (Key × V), H' kn = some (.dK kvs) ∧ kvs.length ≤ i ∧ (i = 0 → kvs = []) ∧ (i = 1 → ∀ q, rs[0]? = some q → kvs = [(.inl (q.1 : Int), .int (q.2 : Int))])) ∧ (i = 2 → hold2 rs = true))
    (fun G3 H3 g3 => ⟨⟨none, rfl⟩, g2.trans g3, g3.new kn (by rw [upd_same]; exact fun z => nomatch z) hG1, ⟨[], g3.ex _ _ upd_same, Nat.le_refl _, fun _ => rfl, fun z => absurd z (by decide)⟩, fun z => absurd z (by decide)⟩) ?_ ?_
  · rintro i p v σ' G' H' hi e1 e2 hv ⟨⟨o, rfl⟩, g, hk0, ⟨kvs, hk, hlen, hz, h1'⟩, h2'⟩ Nx hNx
    have hin : i < rs.length := (List.getElem?_eq_some_iff.mp hi).1
    generalize hσ : ([some v1, some v2, some (.str (kd true)), some (.int ((0 : Nat) : Int)), some (.int ((1 : Nat) : Int)), none, some (.ref kn), some v] : VSt) = σr
    have s7 : σr[7]? = some (some v) := by rw [← hσ]; rfl
    have s3 : σr[3]? = some (some (.int ((0 : Nat) : Int))) := by rw [← hσ]; rfl
    have s4 : σr[4]? = some (some (.int ((1 : Nat) : Int))) := by rw [← hσ]; rfl
    have s6 : σr[6]? = some (some (.ref kn)) := by rw [← hσ]; rfl
    show tSeq _ _ _ ([some v1, some v2, some (.str (kd true)), some (.int ((0 : Nat) : Int)), some (.int ((1 : Nat) : Int)), none, some (.ref kn), some v] : VSt) H'
    rw [hσ]
    have ix0 : EvD (tOp (rIx K) (tVar 7) (tVar 3)) σr G' (I1 p.1) := d_op (d_var s7 hv) (d_var s3 (.int _)) (r_ixT (by rfl))
    have ix1 : EvD (tOp (rIx K) (tVar 7) (tVar 4)) σr G' (I1 p.2) := d_op (d_var s7 hv) (d_var s4 (.int _)) (r_ixT (by rfl))
    obtain ⟨m, hval, hm1, hm2⟩ : ∃ m : Nat, (valV kvs (.inl (p.1 : Int))).getD (.int (p.2 : Int)) = .int (m : Int) ∧ (m = p.2 → i + 1 = 2 → hold2 rs = true) ∧ (m ≠ p.2 → hold2 rs = false) := by
      match rs, hl, i, hin, hi, hz, h1' with
      | [q], _, 0, _, hi, hz, _ =>
        rw [hz rfl]
        exact ⟨p.2, rfl, fun _ z => absurd z (by decide), fun z => absurd rfl z⟩
      | [q, q2], _, 0, _, hi, hz, _ =>
        rw [hz rfl]
        exact ⟨p.2, rfl, fun _ z => absurd z (by decide), fun z => absurd rfl z⟩
      | [q, q2], _, 1, _, hi, _, h1' =>
        rw [h1' rfl q rfl]
        have hi : q2 = p := Option.some.inj hi
        subst hi
        by_cases e : q.1 = q2.1
        · refine ⟨q.2, ?_, fun z _ => ?_, fun z => ?_⟩
          · unfold valV
            rw [List.find?_cons_of_pos (by rw [e]; exact decide_eq_true rfl)]
            rfl
          · simp [hold2, e, z]
          · simp [hold2, e, z]
        · refine ⟨q2.2, ?_, fun z _ => ?_, fun z => absurd rfl z⟩
          · unfold valV
            rw [List.find?_cons_of_neg (by
              intro z
              have z := of_decide_eq_true z
              have z : (q.1 : Int) = (q2.1 : Int) := Sum.inl.inj z
              omega)]
            rfl
          · simp [hold2, e]
      | _ :: _ :: _ :: _, hl, _, _, _, _, _ => exact absurd hl (by simp)
    refine ⟨_, s6, kn, rfl, .inl ⟨kvs, .inl hk⟩, ix0.go e2 fun x G3 H3 g3 hx => ?_⟩
    obtain rfl := hx.eqI
    refine ix1.go' g3.g g3.gh fun y G4 H4 g4 hy => ?_
    obtain rfl := hy.eqI
    refine ⟨_, DGet.k (k := .inl (p.1 : Int)) (g4.ex _ _ (g3.ex _ _ hk)), ?_⟩
    rw [hval]
    refine ix1.go' (g3.g.trans g4.g) g4.gh fun z G5 H5 g5 hz => ?_
    obtain rfl := hz.eqI
    refine (r_ne (K := K) (d := I1 m) (e := I1 p.2) rfl rfl) G5 H5 g5.gh _ _ (.int _) (.int _) _ fun w G6 H6 g6 hw => ?_
    obtain rfl := hw.eqB
    have g36 : Grow M0 G' H' G6 H6 := ((g3.trans g4).trans g5).trans g6
    refine ⟨_, rfl, ?_⟩
    by_cases hmp : m = p.2
    · subst hmp
      rw [eqv_I1]
      rw [show (!decide (p.2 = p.2)) = false by simp]
      rw [if_neg (by decide)]
      show sDPut (tVar 6) (tOp (rIx K) (tVar 7) (tVar 3)) (tOp (rIx K) (tVar 7) (tVar 4)) _ σr H6
      refine ix1.go' g36.g g36.gh fun y G7 H7 g7 hy => ?_
      obtain rfl := hy.eqI
      refine ⟨_, s6, ix0.go' (g36.g.trans g7.g) g7.gh fun x G8 H8 g8 hx => ?_⟩
      obtain rfl := hx.eqI
      have g38 : Grow M0 G' H' G8 H8 := (g36.trans g7).trans g8
      have hk8 := g38.ex _ _ hk
      have hk08 : G8 kn = none := g38.new kn (by rw [hk]; exact fun z => nomatch z) hk0
      refine ⟨kn, _, rfl, DPut.k (k := .inl (p.1 : Int)) hk8 (Nat.lt_of_le_of_lt hlen (Nat.lt_of_lt_of_le hin (Nat.le_trans hl (by decide)))), ?_⟩
      have gs : Grow M0 G H G8 (upd H8 kn (.dK (putK kvs (.inl (p.1 : Int)) (.int (p.2 : Int))))) := (g.trans g38).set (.inl hH) hk08 (by rw [hk8]; exact fun z => nomatch z)
      refine hNx _ G8 _ g38.g gs.gh ⟨⟨some v, hσ.symm⟩, gs, hk08, ⟨_, upd_same, ?_, fun z => absurd z (by omega), fun z q hq => ?_⟩, fun z => hm1 rfl z⟩
      · unfold putK
        split
        · rw [List.length_map]; omega
        · rw [List.length_append, List.length_singleton]; omega
      · have z0 : i = 0 := by omega
        subst z0
        rw [hz rfl]
        have : p = q := Option.some.inj (hi.symm.trans hq)
        subst this
        rfl
    · rw [eqv_int]
      have e : decide ((m : Int) = (p.2 : Int)) = false := decide_eq_false (by omega)
      rw [show (!decide ((m : Int) = (p.2 : Int))) = true by rw [e]; rfl]
      dsimp only
      rw [if_pos rfl]
      show tRet (tC (.bl false)) _ σr H6
      exact k _ _ G6 H6 rfl (g.trans g36) (by rw [hm2 hmp]; exact .bl _)
  · rintro σ' G' H' e1 e2 ⟨⟨o, rfl⟩, g, hk0, _, h2'⟩
    show tRet (tC (.bl true)) _ _ H'
    refine k _ _ G' H' rfl g ?_
    have : hold2 rs = true := by
      match rs, hl, h2' with
      | [], _, _ => rfl
      | [_], _, _ => rfl
      | [p, q], _, h => exact h rfl
      | _ :: _ :: _ :: _, hl, _ => exact absurd hl (by simp)
    rw [this]
    exact .bl _
end
end CP
set_option Elab.async false
set_option linter.all false
set_option maxRecDepth 100000
set_option maxHeartbeats 4000000
set_option pp.maxSteps 900
set_option pp.deepTerms false
namespace CL
open PySem L2
theorem catAK (K : PySem.W.Frag) {X : Cx} (h : X.K = K := by rfl) : OpR X (binaryOp .Add) (rCatA K) := h ▸ op_catA
end CL
namespace CP
open PySem L2 CL CM
/-- the fields of a log -/
def fldL (fs0 : List (Str × V)) (r st : V) (p : Addr) : List (Str × V) := putF "past" (.ref p) (putF "state" st (putF "given" r fs0))
structure LogC (K : PySem.W.Frag) (C : Addr) : Prop where
  c : Cls K C
  given : NoAttr K C "given"
  state : NoAttr K C "state"
  past : NoAttr K C "past"
structure SupG (P : Program) (mg : Str → Option Value) : Prop where
  ms : mg "super" = none
  top : (P.main.scope.names.lookup ("super" : Str)).isSome = false
theorem putF_len (f : Str) (v : V) : ∀ fs : List (Str × V), (putF f v fs).length ≤ fs.length + 1
  | [] => Nat.le_refl _
  | (g, x) :: r => by
    unfold putF
    split
    · simp
    · have := putF_len f v r
      simp only [List.length_cons]
      omega
section
variable {fs0 : List (Str × V)} {r st : V} {p : Addr}
theorem fldL_given : (fldL fs0 r st p).lookup ("given" : Str) = some r := by
  unfold fldL
  rw [lookup_putF, if_neg (by decide +kernel), lookup_putF, if_neg (by decide +kernel), lookup_putF, if_pos rfl]
theorem fldL_state : (fldL fs0 r st p).lookup ("state" : Str) = some st := by
  unfold fldL
  rw [lookup_putF, if_neg (by decide +kernel), lookup_putF, if_pos rfl]
theorem fldL_past : (fldL fs0 r st p).lookup ("past" : Str) = some (.ref p) := by
  unfold fldL
  rw [lookup_putF, if_pos rfl]
theorem fldL_other {f : Str} (h1 : ¬ f = "past") (h2 : ¬ f = "state") (h3 : ¬ f = "given") : (fldL fs0 r st p).lookup f = fs0.lookup f := by
  unfold fldL
  rw [lookup_putF, if_neg h1, lookup_putF, if_neg h2, lookup_putF, if_neg h3]
end
section
variable {P : Program} {w : World} {K : PySem.W.Frag} {mg : Str → Option Value} {base : Heap} {Z : Ads} {Y : AdY}
def spInitL (Z : Ads) (Y : AdY) (C : Addr) (fs0 : List (Str × V)) : Sp := fun vs H Q _ => ∃ (G : Hp) (x dx : Addr) (r : V) (n : Nat) (ds : List PyData), vs = [.ref x, r] ∧ Ex G H ∧ G x = none ∧ H x = some (.ins C dx fs0) ∧ TO Z.aR G r n ds ∧ 1 ≤ n ∧ n ≤ 6 ∧
  ∀ (st : V) (p : Addr) (G2 H2 : Hp), Grow (fun a => a = x) G H G2 H2 → TO Y.aT G2 st n [] → H p = none → H2 p = some (.lst []) → G2 p = none → H2 x = some (.ins C dx (fldL fs0 r st p)) → G2 x = none → Q .non H2
theorem sc_Log_init : FnScope ["self", "rules"] ["self", "rules"] (defScope s_Log_init) := ⟨rfl, rfl, rfl, by decide +kernel, rfl, by decide +kernel, by decide +kernel⟩
theorem ok_initL {C : Addr} {fs0 : List (Str × V)} (LC : LogC K C) (h0 : fs0.length ≤ 1) {f : Addr} {fd : FuncData} (F : Fun K "__init__" "Log.__init__" s_Log_init f fd) (T : Txt Z K mg) (U : TxtU Z Y K mg) (W : TxtW Z Y K) (O_need_rules : Fn1 P w K mg base "need_rules" 1 (spV (P_isRules Z)))
    (K_T : MkOk P w K mg base CX0 Y.aT 6 (spStar 2 (spInitT Y.aT))) (Pr_Rules_width : PrOk P w K mg base Z.aR "width" "columns") : FnOk P w K mg base CX0 8 f fd ["self", "rules"] (spInitL Z Y C fs0) := by
  refine F.ok sc_Log_init (fun vs H Q E ⟨G, x, dx, r, n, ds, e, _⟩ => by rw [e]; rfl) (fun cdv A outer s H vs Q E hr h => ?_)
  obtain ⟨G, x, dx, r, n, ds, rfl, eG, hGx, hx, hR, hn1, hn6, k⟩ := h
  have nd := sc_Log_init.nd
  refine ⟨_, (pss_cons (ps_expr (pe_fn O_need_rules (hr.mono (by decide)) rfl (pa_cons (pv 1) pa_nil)))
    (pss_one (ps_asg (pe_tup (pa_cons (pv 1) (pa_cons (pe_mkK K_T (hr.mono (by decide)) rfl U.k_Table pass0 (pa_cons (pe_prK (pv 1) W.c_Rules Pr_Rules_width (hr.mono (by decide))) pa_nil)) (pa_cons (pe_lst pa_nil) pa_nil)))) (pgTupK K (n := 3) (pgs_cons (pg_fld (pv 0)) (pgs_cons (pg_fld (pv 0)) (pgs_cons (pg_fld (pv 0)) pgs_nil))))))), ?_⟩
  show tSeq _ _ _ [some (.ref x), some r] H
  refine q_dropV (v_call (vs := [r]) (w_cons (v_var rfl) w_nil) fun G' e => ⟨r, n, ds, rfl, hR.up e, rfl⟩) eG fun G1 H1 g1 => ?_
  obtain ⟨pr, dr, tr, er, hpr, htr⟩ := id (hR.up g1.g).ex
  subst er
  refine ⟨_, rfl, ?_⟩
  refine make_tableV (σ := [some (.ref x), some (.ref pr)]) (rows := []) (n := n) (a_cons (d_v (v_pr (v_var rfl) hpr (flds_columns n tr)) (.int _)) a_nil) ⟨by decide, fun r hr => by cases hr⟩ hn1 hn6 G1 H1 (Ex.refl _) g1.gh _ fun st G2 H2 g2 hst => ?_
  have hst := hst.elim (fun x => absurd rfl x) id
  have g12 := g1.trans g2
  refine ⟨Evl.sz_of (by show 0 ≤ 100000; decide), fun p hp => ⟨Evl.sz_of (by show 3 ≤ 100000; decide), fun t ht => ?_⟩⟩
  have hx2 : H2 x = some (.ins C dx fs0) := g12.ex _ _ hx
  have hGx2 : G2 x = none := g12.new x (by rw [hx]; exact fun z => nomatch z) hGx
  have npx : x ≠ p := ne_of_none hx2 hp
  have hxp : upd H2 p (.lst []) x = some (.ins C dx fs0) := (upd_ne npx).trans hx2
  have ntx : x ≠ t := ne_of_none hxp ht
  have ntp : p ≠ t := fun z => by rw [← z, upd_same] at ht; cases ht
  refine ⟨t, _, rfl, .inl (.inl upd_same), rfl, _, _, rfl, ?_⟩
  refine ⟨_, rfl, x, C, dx, fs0, rfl, by rw [upd_ne ntx]; exact hxp, LC.c, LC.given, by omega, _, _, rfl, ?_⟩
  have l1 : (putF "given" (.ref pr) fs0).length ≤ 2 := Nat.le_trans (putF_len _ _ _) (by omega)
  have l2 : (putF "state" st (putF "given" (.ref pr) fs0)).length ≤ 3 := Nat.le_trans (putF_len _ _ _) (by omega)
  refine ⟨_, rfl, x, C, dx, _, rfl, upd_same, LC.c, LC.state, by omega, _, _, rfl, ?_⟩
  refine ⟨_, rfl, x, C, dx, _, rfl, upd_same, LC.c, LC.past, by omega, rfl, ?_⟩
  have g3 : Grow (fun a => a = x) G H G2 (upd (upd H2 p (.lst [])) t (.tup [.ref pr, st, .ref p])) := ((g12.trans (Grow.mnew g2.gh hp)).trans (Grow.mnew (Grow.mnew (M := M0) (o := .lst []) g2.gh hp).gh ht)).of0
  have g4 := g3.set (o := .ins C dx (putF "given" (.ref pr) fs0)) (.inr rfl) hGx2 (by rw [upd_ne ntx, hxp]; exact fun z => nomatch z)
  have g5 := g4.set (o := .ins C dx (putF "state" st (putF "given" (.ref pr) fs0))) (.inr rfl) hGx2 (by rw [upd_same]; exact fun z => nomatch z)
  have g6 := g5.set (o := .ins C dx (fldL fs0 (.ref pr) st p)) (.inr rfl) hGx2 (by rw [upd_same]; exact fun z => nomatch z)
  exact k st p G2 _ g6 hst (g12.there p hp) (by rw [upd_ne npx.symm, upd_ne npx.symm, upd_ne npx.symm, upd_ne ntp, upd_same]) (g2.gh.back hp) upd_same hGx2
theorem okX_initL {C : Addr} {f : Addr} {fd : FuncData} (F : Fun K "__init__" "Log.__init__" s_Log_init f fd) (T : Txt Z K mg) (X_need_rules : FnX P w K mg base "need_rules" 1 (spX (P_needrulesX Y) (Y.ex 9))) : FnOk P w K mg base (L2.CX P w) 2 f fd ["self", "rules"] (spX (P_log9 Y) (Y.ex 9)) := by
  refine F.okX sc_Log_init (fun vs H Q E ⟨G, _, ⟨x, r, n, ds, e, _⟩, _⟩ => by rw [e]; rfl) (fun cdv A outer s H vs Q E hr h => ?_)
  obtain ⟨G, eG, ⟨x, r, n, ds, rfl, hT⟩, xr⟩ := h
  have nd := sc_Log_init.nd
  refine ⟨_, (pss_cons (ps_expr (pe_fx X_need_rules (hr.mono (by decide)) (passB (takes_of rfl rfl rfl rfl)) rfl (pa_cons (pv 1) pa_nil)))
    (pss_one ps_never)), ?_⟩
  show tSeq _ _ _ [some x, some r] H
  exact q_x (x_call (vs := [r]) (w_cons (v_var rfl) w_nil) fun G' e => ⟨r, rfl, .inr ⟨n, ds, hT.up e⟩⟩) eG xr
/-! ### need_fit -/
def spFit0 : Sp := fun vs H Q _ => ∃ (G : Hp) (x rv : V) (ds : List PyData), vs = [x, rv] ∧ Ex G H ∧ DD G rv (.tuple ds) ∧ ds.length ≤ 400 ∧ ∀ H2, Grow M0 G H G H2 → Q .non H2
theorem sc_Log_need_fit : FnScope ["self", "rows"] ["self", "rows"] (defScope s_Log_need_fit) := ⟨rfl, rfl, rfl, by decide +kernel, rfl, by decide +kernel, by decide +kernel⟩
theorem ok_fitL {f : Addr} {fd : FuncData} (F : Fun K "need_fit" "Log.need_fit" s_Log_need_fit f fd) (T : Txt Z K mg) (U : TxtU Z Y K mg) : FnOk P w K mg base CX0 1 f fd ["self", "rows"] spFit0 := by
  refine F.ok sc_Log_need_fit (fun vs H Q E ⟨G, x, rv, ds, e, _⟩ => by rw [e]; rfl) (fun cdv A outer s H vs Q E hr h => ?_)
  obtain ⟨G, x, rv, ds, rfl, eG, hd, hl, k⟩ := h
  have nd := sc_Log_need_fit.nd
  refine ⟨_, (pss_one (ps_if (pt_cmpR op_gt (pe_callB (crLenK K) (by rfl) T.b_len (by decide +kernel) (pa_cons (pv 1) pa_nil)) (pe_glob (v := .int 400) rfl U.c_MOST_ROWS ⟨_, rfl⟩) (nomark _)) (pss_one ps_never) pss_nil)), ?_⟩
  show tIfS _ _ _ _ [some x, some rv] H
  exact s_pass (b := decide ((ds.length : Int) > 400)) (decide_eq_false (by omega)) (b_test (d_op (d_cb (a_cons (d_var rfl hd) a_nil) c_lenT) d_int r_B0)) eG fun G2 H2 g => k H2 (g.drop (Ex.refl _) eG)
/-- rows that fit beside settles 0 1, or do not -/
def spFitS (Z : Ads) (C : Addr) (ok : Bool) (D : Addr) : Sp := fun vs H Q E => ∃ (G : Hp) (x dx : Addr) (fs : List (Str × V)) (r rv : V) (rs : List (Nat × Nat)), vs = [.ref x, rv] ∧ Ex G H ∧ G x = some (.ins C dx fs) ∧ fs.lookup ("given" : Str) = some r ∧ TO Z.aR G r 2 twoRs ∧ DD G rv (.tuple (rs.map prRow)) ∧ rs.length ≤ 2 ∧ hold2 rs = ok ∧
  (ok = true → ∀ H2, Grow M0 G H G H2 → Q .non H2) ∧ (ok = false → XR D G H E)
theorem nsc_Strict_need_fit : NdefX.NScope ["self", "rows", "__class__", "rule"] ["self", "rows"] ["__class__"] (defScope s_Strict_need_fit) := NdefX.nscope_by (by decide +kernel)
theorem ok_fitS {f gL : Addr} {fd : FuncData} (SG : SupG P mg) (F : SU.FunS P K "need_fit" "Strict.need_fit" s_Strict_need_fit f fd Y.aS) (SO : SU.SupOk K Y.aS Y.aS "need_fit" gL) (LC : LogC K Y.aS) (F_sup : FnR P w K mg base CX0 1 gL spFit0) (T : Txt Z K mg) (U : TxtU Z Y K mg) (W : TxtW Z Y K)
    (Pr_Rules_rules : PrOk P w K mg base Z.aR "rules" "kept") (F_holds : Fn1 P w K mg base "holds" 1 (spR R_holds)) : FnOk P w K mg base CX0 3 f fd ["self", "rows"] (spFitS Z Y.aS true (Y.ex 13)) := by
  obtain ⟨oc, od, dV, kV, doc, pm, an, cda, cc, ct, osl, vs', file, tf, ccl, cdd, ccs, cl, cld, csl, rfl, lk, hcd, hcode, hvs, hfile, hcell⟩ := F.ex
  refine SU.fn_ofS (k := 2) lk hcd hcell nsc_Strict_need_fit (fun vs H Q E ⟨G, x, dx, fs, r, rv, rs, e, _⟩ => by rw [e]; rfl) (fun A outer s H vs Q E hr h => ?_)
  obtain ⟨G, x, dx, fs, r, rv, rs, rfl, eG, hx, hg, hR, hd, hl, hok, k, _⟩ := h
  have nd := nsc_Strict_need_fit.nd
  refine ⟨_, (SU.pssA_cons (SU.psA_super (i := 0) lk rfl hcode hvs hfile hcell SO rfl (by decide +kernel) (by decide +kernel) (by decide +kernel) rfl (by decide) SG.ms SG.top (by rfl) F_sup (hr.mono (by decide)) pass0 (pa_cons (pv 1) pa_nil) rfl rfl rfl _ rfl rfl)
    (SU.pssA_one (SU.PSA.of (ps_for (passes_of rfl) rfl (piTupK K (pe_prK (peFldK K (pv 0)) W.c_Rules Pr_Rules_rules (hr.mono (by decide)))) (pgN 3 nd)
    (pss_one (ps_if (PW.pt (pw_and (pt_cmpR (eqDK K (h64 hr)) (pe_ix (ix_seqK K) (pv 3) pe_int (fun _ _ => rfl)) (pe_glob (v := .str "settles") rfl T.c_SETTLES ⟨_, rfl⟩) (nomark _)) (pw_and1 (pt_not (pt_val (pe_fn F_holds (hr.mono (by decide)) rfl (pa_cons (pv 1) (pa_cons (pv 3) pa_nil)))))))) (pss_one ps_never) pss_nil)))))), ?_⟩
  show tSeq _ _ _ [some (.ref x), some rv, some (.ref Y.aS), none] H
  refine ⟨x, dx, fs, rfl, eG _ _ hx, rv, rfl, G, _, rv, _, rfl, eG, hd, by rw [List.length_map]; omega, fun H2 g2 => ?_⟩
  obtain ⟨pr, dr, tr, er, hpr, htr⟩ := id hR.ex
  subst er
  refine s_forT (K := K) (enc := fun r : Ru => RU r) (xs := [(true, 0, 1)]) (d_v (v_pr (v_fld (K := K) (v_var (σ := [some (.ref x), some rv, some (.ref Y.aS), none]) (i := 0) rfl) hx LC.c LC.given hg) hpr (flds_kept 2 tr)) htr) g2.gh
    (fun i σ' G' H' => (∃ o, σ' = [some (.ref x), some rv, some (.ref Y.aS), o]) ∧ Grow M0 G H G' H') (fun G3 H3 g3 => ⟨⟨none, rfl⟩, g2.trans g3⟩) ?_ fun σ' G' H' e1 e2 ⟨_, g⟩ => k rfl H' (g.drop (Ex.refl _) eG)
  rintro i u v σ' G' H' hi e1 e2 hv ⟨⟨o, rfl⟩, g⟩ Nx hNx
  show tIfS _ _ _ _ [some (.ref x), some rv, some (.ref Y.aS), some v] H'
  have hu : u = (true, 0, 1) := by
    have z := List.mem_of_getElem? hi
    exact List.mem_singleton.mp z
  subst hu
  refine s_pass (b := PyData.eqv (.str (kd true)) (.str (kd true)) && !hold2 rs) (by rw [hok]; simp) (b_and (b_test (d_op (d_op (d_var rfl hv) d_int (r_ixT (by rfl))) d_str (r_eq (shaped_kd true) (shaped_kd true)))) fun _ => b_not (b_B (d_call (a_cons (d_var rfl (hd.up g.g)) (a_cons (d_var rfl hv) a_nil)) ⟨rs, rfl, hl, rfl⟩))) e2 fun G2 H2 g2 => ?_
  exact hNx _ G2 H2 g2.g g2.gh ⟨⟨_, rfl⟩, g.trans g2⟩
theorem okX_fitS {f gL : Addr} {fd : FuncData} (SG : SupG P mg) (F : SU.FunS P K "need_fit" "Strict.need_fit" s_Strict_need_fit f fd Y.aS) (SO : SU.SupOk K Y.aS Y.aS "need_fit" gL) (LC : LogC K Y.aS) (F_sup : FnR P w K mg base CX0 1 gL spFit0) (T : Txt Z K mg) (U : TxtU Z Y K mg) (V : TxtV Y K mg) (W : TxtW Z Y K)
    (Pr_Rules_rules : PrOk P w K mg base Z.aR "rules" "kept") (F_holds : Fn1 P w K mg base "holds" 1 (spR R_holds)) : FnOk P w K mg base (L2.CX P w) 3 f fd ["self", "rows"] (spFitS Z Y.aS false (Y.ex 13)) := by
  obtain ⟨oc, od, dV, kV, doc, pm, an, cda, cc, ct, osl, vs', file, tf, ccl, cdd, ccs, cl, cld, csl, rfl, lk, hcd, hcode, hvs, hfile, hcell⟩ := F.ex
  refine SU.fn_ofS (k := 2) lk hcd hcell nsc_Strict_need_fit (fun vs H Q E ⟨G, x, dx, fs, r, rv, rs, e, _⟩ => by rw [e]; rfl) (fun A outer s H vs Q E hr h => ?_)
  obtain ⟨G, x, dx, fs, r, rv, rs, rfl, eG, hx, hg, hR, hd, hl, hok, _, xr⟩ := h
  have nd := nsc_Strict_need_fit.nd
  refine ⟨_, (SU.pssA_cons (SU.psA_super (i := 0) lk rfl hcode hvs hfile hcell SO rfl (by decide +kernel) (by decide +kernel) (by decide +kernel) rfl (by decide) SG.ms SG.top (by rfl) F_sup (hr.mono (by decide)) pass0 (pa_cons (pv 1) pa_nil) rfl rfl rfl _ rfl rfl)
    (SU.pssA_one (SU.PSA.of (ps_for (passes_of rfl) rfl (piTupK K (pe_prK (peFldK K (pv 0)) W.c_Rules Pr_Rules_rules (hr.mono (by decide)))) (pgN 3 nd)
    (pss_one (ps_if (PW.pt (pw_and (pt_cmpR (eqDK K (h64 hr)) (pe_ix (ix_seqK K) (pv 3) pe_int (fun _ _ => rfl)) (pe_glob (v := .str "settles") rfl T.c_SETTLES ⟨_, rfl⟩) (nomark _)) (pw_and1 (pt_not (pt_val (pe_fn F_holds (hr.mono (by decide)) rfl (pa_cons (pv 1) (pa_cons (pv 3) pa_nil)))))))) (pss_one (ps_exc rfl (takes_of rfl rfl rfl rfl) V.Broken rfl)) pss_nil)))))), ?_⟩
  show tSeq _ _ _ [some (.ref x), some rv, some (.ref Y.aS), none] H
  refine ⟨x, dx, fs, rfl, eG _ _ hx, rv, rfl, G, _, rv, _, rfl, eG, hd, by rw [List.length_map]; omega, fun H2 g2 => ?_⟩
  obtain ⟨pr, dr, tr, er, hpr, htr⟩ := id hR.ex
  subst er
  refine s_forT (K := K) (enc := fun r : Ru => RU r) (xs := [(true, 0, 1)]) (d_v (v_pr (v_fld (K := K) (v_var (σ := [some (.ref x), some rv, some (.ref Y.aS), none]) (i := 0) rfl) hx LC.c LC.given hg) hpr (flds_kept 2 tr)) htr) g2.gh
    (fun i σ' G' H' => i = 0 ∧ (∃ o, σ' = [some (.ref x), some rv, some (.ref Y.aS), o]) ∧ Grow M0 G H G' H') (fun G3 H3 g3 => ⟨rfl, ⟨none, rfl⟩, g2.trans g3⟩) ?_ fun σ' G' H' e1 e2 ⟨z, _⟩ => absurd z (by simp)
  rintro i u v σ' G' H' hi e1 e2 hv ⟨_, ⟨o, rfl⟩, g⟩ Nx hNx
  show tIfS (tAnd _ _) (fun _ _ H => E (.ref (Y.ex 13)) none H) tNext _ [some (.ref x), some rv, some (.ref Y.aS), some v] H'
  have hu : u = (true, 0, 1) := by
    have z := List.mem_of_getElem? hi
    exact List.mem_singleton.mp z
  subst hu
  refine s_raise (b := PyData.eqv (.str (kd true)) (.str (kd true)) && !hold2 rs) (by rw [hok, eqv_str]; simp) (b_and (b_test (d_op (d_op (d_var rfl hv) d_int (r_ixT (by rfl))) d_str (r_eq (shaped_kd true) (shaped_kd true)))) fun _ => b_not (b_B (d_call (a_cons (d_var rfl (hd.up g.g)) (a_cons (d_var rfl hv) a_nil)) ⟨rs, rfl, hl, rfl⟩))) e2 fun G2 H2 g2 => ?_
  exact ((xr rfl).up (g.trans g2)).now g2.gh
/-- rows that fit under one row, or do not -/
def spFitH (C : Addr) (ok : Bool) (D : Addr) : Sp := fun vs H Q E => ∃ (G : Hp) (x dx : Addr) (fs : List (Str × V)) (rv : V) (ds : List PyData), vs = [.ref x, rv] ∧ Ex G H ∧ G x = some (.ins C dx fs) ∧ fs.lookup ("limit" : Str) = some (.int 1) ∧ DD G rv (.tuple ds) ∧ ds.length ≤ 400 ∧ decide (ds.length ≤ 1) = ok ∧
  (ok = true → ∀ H2, Grow M0 G H G H2 → Q .non H2) ∧ (ok = false → XR D G H E)
theorem nsc_Short_need_fit : NdefX.NScope ["self", "rows", "__class__"] ["self", "rows"] ["__class__"] (defScope s_Short_need_fit) := NdefX.nscope_by (by decide +kernel)
theorem ok_fitH {f gL : Addr} {fd : FuncData} (SG : SupG P mg) (F : SU.FunS P K "need_fit" "Short.need_fit" s_Short_need_fit f fd Y.aH) (SO : SU.SupOk K Y.aH Y.aH "need_fit" gL) (c : Cls K Y.aH) (nl : NoAttr K Y.aH "limit") (F_sup : FnR P w K mg base CX0 1 gL spFit0) (T : Txt Z K mg) : FnOk P w K mg base CX0 3 f fd ["self", "rows"] (spFitH Y.aH true (Y.ex 11)) := by
  obtain ⟨oc, od, dV, kV, doc, pm, an, cda, cc, ct, osl, vs', file, tf, ccl, cdd, ccs, cl, cld, csl, rfl, lk, hcd, hcode, hvs, hfile, hcell⟩ := F.ex
  refine SU.fn_ofS (k := 2) lk hcd hcell nsc_Short_need_fit (fun vs H Q E ⟨G, x, dx, fs, rv, ds, e, _⟩ => by rw [e]; rfl) (fun A outer s H vs Q E hr h => ?_)
  obtain ⟨G, x, dx, fs, rv, ds, rfl, eG, hx, hg, hd, hl, hok, k, _⟩ := h
  have nd := nsc_Short_need_fit.nd
  have hl1 := of_decide_eq_true hok
  refine ⟨_, (SU.pssA_cons (SU.PSA.of (ps_if (pt_cmpR op_gt (pe_callB (crLenK K) (by rfl) T.b_len (by decide +kernel) (pa_cons (pv 1) pa_nil)) (peFldK K (pv 0)) (nomark _)) (pss_one ps_never) pss_nil))
    (SU.pssA_one (SU.psA_super (i := 0) lk rfl hcode hvs hfile hcell SO rfl (by decide +kernel) (by decide +kernel) (by decide +kernel) rfl (by decide) SG.ms SG.top (by rfl) F_sup (hr.mono (by decide)) pass0 (pa_cons (pv 1) pa_nil) rfl rfl rfl _ rfl rfl))), ?_⟩
  show tSeq _ _ _ [some (.ref x), some rv, some (.ref Y.aH)] H
  refine q_pass (b := decide ((ds.length : Int) > 1)) (decide_eq_false (by omega)) (b_test (d_op (d_cb (a_cons (d_var rfl hd) a_nil) c_lenT) (d_v (v_fld (K := K) (v_var (σ := [some (.ref x), some rv, some (.ref Y.aH)]) (i := 0) rfl) hx c nl hg) (.int _)) r_B0)) eG fun G2 H2 g => ?_
  exact ⟨x, dx, fs, rfl, g.gh _ _ (g.g _ _ hx), rv, rfl, G2, _, rv, _, rfl, g.gh, hd.up g.g, hl, fun H3 g3 => k rfl H3 ((g.trans g3).drop (Ex.refl _) eG)⟩
theorem okX_fitH {f gL : Addr} {fd : FuncData} (F : SU.FunS P K "need_fit" "Short.need_fit" s_Short_need_fit f fd Y.aH) (c : Cls K Y.aH) (nl : NoAttr K Y.aH "limit") (T : Txt Z K mg) (V : TxtV Y K mg) : FnOk P w K mg base (L2.CX P w) 3 f fd ["self", "rows"] (spFitH Y.aH false (Y.ex 11)) := by
  obtain ⟨oc, od, dV, kV, doc, pm, an, cda, cc, ct, osl, vs', file, tf, ccl, cdd, ccs, cl, cld, csl, rfl, lk, hcd, hcode, hvs, hfile, hcell⟩ := F.ex
  refine SU.fn_ofS (k := 2) lk hcd hcell nsc_Short_need_fit (fun vs H Q E ⟨G, x, dx, fs, rv, ds, e, _⟩ => by rw [e]; rfl) (fun A outer s H vs Q E hr h => ?_)
  obtain ⟨G, x, dx, fs, rv, ds, rfl, eG, hx, hg, hd, hl, hok, _, xr⟩ := h
  have nd := nsc_Short_need_fit.nd
  have hl1 := of_decide_eq_false hok
  refine ⟨_, (SU.pssA_cons (SU.PSA.of (ps_if (pt_cmpR op_gt (pe_callB (crLenK K) (by rfl) T.b_len (by decide +kernel) (pa_cons (pv 1) pa_nil)) (peFldK K (pv 0)) (nomark _)) (pss_one (ps_exc rfl (takes_of rfl rfl rfl rfl) V.TooMuch rfl)) pss_nil))
    (SU.pssA_one (SU.PSA.of ps_never))), ?_⟩
  show tSeq _ _ _ [some (.ref x), some rv, some (.ref Y.aH)] H
  exact q_raise (b := decide ((ds.length : Int) > 1)) (decide_eq_true (by omega)) (b_test (d_op (d_cb (a_cons (d_var rfl hd) a_nil) c_lenT) (d_v (v_fld (K := K) (v_var (σ := [some (.ref x), some rv, some (.ref Y.aH)]) (i := 0) rfl) hx c nl hg) (.int _)) r_B0)) eG fun G2 H2 g => ((xr rfl).up g).now g.gh
end
end CP
set_option Elab.async false
set_option linter.all false
set_option maxRecDepth 100000
set_option maxHeartbeats 4000000
set_option pp.maxSteps 900
set_option pp.deepTerms false
namespace CL
open PySem L2
section
variable {G G' : Hp}
theorem Rd.part {a : Addr} {u : HO} (e : ∀ a o, G a = some o → (∀ C dx fs, o ≠ .ins C dx fs) → G' a = some o) (nu : ∀ C dx fs, u ≠ .ins C dx fs) (h : Rd G a u) : Rd G' a u := by
  rcases h with h | ⟨ob, h⟩
  · exact .inl (e _ _ h nu)
  · exact .inr ⟨ob, e _ _ h fun _ _ _ z => nomatch z⟩
mutual
theorem DD.part (e : ∀ a o, G a = some o → (∀ C dx fs, o ≠ .ins C dx fs) → G' a = some o) : ∀ (d : PyData) (v : V), DD G v d → DD G' v d
  | .none, _, h => by cases h; exact .non
  | .bool b, _, h => by cases h; exact .bl b
  | .int i, _, h => by cases h; exact .int i
  | .str x, _, h => by cases h; exact .str x
  | .list ds, _, h => by cases h with | lst h1 h2 => exact .lst (e _ _ h1 fun _ _ _ z => nomatch z) (DDs.part e ds _ h2)
  | .tuple ds, _, h => by cases h with | tup h1 h2 => exact .tup (Rd.part e (fun _ _ _ z => nomatch z) h1) (DDs.part e ds _ h2)
  | .dict _, _, h => by cases h
theorem DDs.part (e : ∀ a o, G a = some o → (∀ C dx fs, o ≠ .ins C dx fs) → G' a = some o) : ∀ (ds : List PyData) (vs : List V), DDs G vs ds → DDs G' vs ds
  | [], _, h => by cases h; exact .nil
  | d :: ds, _, h => by cases h with | cons h1 h2 => exact .cons (DD.part e d _ h1) (DDs.part e ds _ h2)
end
end
theorem r_catA {K : PySem.W.Frag} {ds es : List PyData} (hl : ds.length + es.length ≤ 100000) : RvD (rCatA K) (.tuple ds) (.tuple es) (.tuple (ds ++ es)) := fun G1 H1 e1 x y hx hy Q q => by
  obtain ⟨a, xs, rfl, ha, hxs⟩ := hx.eqT
  obtain ⟨b, ys, rfl, hb, hys⟩ := hy.eqT
  refine ⟨a, b, xs, ys, rfl, rfl, .inl (up_rd ha e1), .inl (up_rd hb e1), Evl.sz_of (by rw [hxs.length, hys.length]; exact hl), fun z => ?_, fun _ z => ?_, fun _ _ p hp => ?_⟩
  · subst z
    cases ds with
    | nil => exact q _ G1 H1 (Grow.refl e1) (.tup hb hys)
    | cons d ds => cases hxs
  · subst z
    cases es with
    | nil => rw [List.append_nil] at q; exact q _ G1 H1 (Grow.refl e1) (.tup ha hxs)
    | cons d ds => cases hys
  · exact q _ _ _ (new_tup e1 hp (hxs.append hys)).1 (new_tup (M := M0) e1 hp (hxs.append hys)).2
end CL
namespace CP
open PySem L2 CL CM
section
variable {P : Program} {w : World} {K : PySem.W.Frag} {mg : Str → Option Value} {base : Heap} {Z : Ads} {Y : AdY}
theorem TO.part {C : Addr} {G G' : Hp} {x C' dx' : Addr} {fs' : List (Str × V)} {v : V} {n : Nat} {ds : List PyData} (h : TO C G v n ds) (e : ∀ b o, G b = some o → b ≠ x → G' b = some o) (hx : G x = some (.ins C' dx' fs')) (hc : C' ≠ C) : TO C G' v n ds := by
  obtain ⟨p, dx, t, a, b, c⟩ := h.ex
  refine ⟨p, dx, t, a, e _ _ b fun z => ?_, DD.part (fun a o h n => e a o h fun z => ?_) _ _ c⟩
  · rw [z, hx] at b
    injection b with b
    injection b with b _ _
    exact hc b
  · rw [z, hx] at h
    exact n _ _ _ (Option.some.inj h).symm
/-! ### Short.__init__ -/
theorem nsc_Short_init : NdefX.NScope ["self", "rules", "most", "__class__"] ["self", "rules", "most"] ["__class__"] (defScope s_Short_init) := NdefX.nscope_by (by decide +kernel)
theorem okX_initH {f D : Addr} {fd : FuncData} (F : SU.FunS P K "__init__" "Short.__init__" s_Short_init f fd D) (T : Txt Z K mg) (U : TxtU Z Y K mg) (V : TxtV Y K mg) (O_need_rules : Fn1 P w K mg base "need_rules" 1 (spV (P_isRules Z))) (O_is_between : Fn1 P w K mg base "is_between" 2 (spV P_betw)) (F_is_between : Fn1 P w K mg base "is_between" 2 (spR R_betw)) :
    FnOk P w K mg base (L2.CX P w) 4 f fd ["self", "rules", "most"] (spX (P_short6 Z) (Y.ex 6)) := by
  obtain ⟨oc, od, dV, kV, doc, pm, an, cda, cc, ct, osl, vs', file, tf, ccl, cdd, ccs, cl, cld, csl, rfl, lk, hcd, hcode, hvs, hfile, hcell⟩ := F.ex
  refine SU.fn_ofS (k := 3) lk hcd hcell nsc_Short_init (fun vs H Q E ⟨G, _, ⟨x, r, m, n, ds, e, _⟩, _⟩ => by rw [e]; rfl) (fun A outer s H vs Q E hr h => ?_)
  obtain ⟨G, eG, ⟨x, r, m, n, ds, rfl, hR, hm⟩, xr⟩ := h
  have nd := nsc_Short_init.nd
  rcases hm with ⟨t, ho⟩ | rfl
  · refine ⟨_, (SU.pssA_cons (SU.PSA.of (ps_expr (pe_fn O_need_rules (hr.mono (by decide)) rfl (pa_cons (pv 1) pa_nil))))
    (SU.pssA_cons (SU.PSA.of (ps_if (pt_not (pt_val (pe_fn O_is_between (hr.mono (by decide)) rfl (pa_cons (pv 2) (pa_cons pe_int (pa_cons (pe_glob (v := .int 400) rfl U.c_MOST_ROWS ⟨_, rfl⟩) pa_nil)))))) (pss_one (ps_exc rfl (takes_of rfl rfl rfl rfl) V.NoNumber rfl)) pss_nil))
    (SU.pssA_cons (SU.PSA.of ps_never)
    (SU.pssA_one (SU.PSA.of ps_never))))), ?_⟩
    show tSeq _ _ _ [some x, some r, some m, some (.ref D)] H
    refine q_dropV (v_call (vs := [r]) (w_cons (v_var rfl) w_nil) fun G' e => ⟨r, n, ds, rfl, hR.up e, rfl⟩) eG fun G1 H1 g1 => ?_
    exact q_raise (b := !false) rfl (b_not (b_B (d_v (v_call (vs := [m, .int 0, .int 400]) (w_cons (v_var rfl) (w_cons v_c (w_cons v_c w_nil))) fun G' e => ⟨m, t, 0, 400, rfl, ho.up (g1.g.trans e), by decide, rfl⟩) (.bl _)))) g1.gh fun G2 H2 g => (xr.up (g1.trans g)).now g.gh
  · refine ⟨_, (SU.pssA_cons (SU.PSA.of (ps_expr (pe_fn O_need_rules (hr.mono (by decide)) rfl (pa_cons (pv 1) pa_nil))))
    (SU.pssA_cons (SU.PSA.of (ps_if (pt_not (pt_val (pe_fn F_is_between (hr.mono (by decide)) rfl (pa_cons (pv 2) (pa_cons pe_int (pa_cons (pe_glob (v := .int 400) rfl U.c_MOST_ROWS ⟨_, rfl⟩) pa_nil)))))) (pss_one (ps_exc rfl (takes_of rfl rfl rfl rfl) V.NoNumber rfl)) pss_nil))
    (SU.pssA_cons (SU.PSA.of ps_never)
    (SU.pssA_one (SU.PSA.of ps_never))))), ?_⟩
    show tSeq _ _ _ [some x, some r, some (.int 401), some (.ref D)] H
    refine q_dropV (v_call (vs := [r]) (w_cons (v_var rfl) w_nil) fun G' e => ⟨r, n, ds, rfl, hR.up e, rfl⟩) eG fun G1 H1 g1 => ?_
    exact q_raise (b := !(decide ((0 : Int) ≤ 401) && decide ((401 : Int) ≤ 400))) (by decide) (b_not (b_B (d_call (a_cons (d_var rfl (.int _)) (a_cons d_int (a_cons d_int a_nil))) ⟨401, 0, 400, rfl, rfl⟩))) g1.gh fun G2 H2 g => (xr.up (g1.trans g)).now g.gh
def fsH : List (Str × V) := [("limit", .int 1)]
def spInitH (Z : Ads) (Y : AdY) : Sp := fun vs H Q _ => ∃ (G : Hp) (x dx : Addr) (r : V) (n : Nat) (ds : List PyData), vs = [.ref x, r, .int 1] ∧ Ex G H ∧ G x = none ∧ H x = some (.ins Y.aH dx []) ∧ TO Z.aR G r n ds ∧ 1 ≤ n ∧ n ≤ 6 ∧
  ∀ (st : V) (p : Addr) (G2 H2 : Hp), Grow (fun a => a = x) G H G2 H2 → TO Y.aT G2 st n [] → H p = none → H2 p = some (.lst []) → G2 p = none → H2 x = some (.ins Y.aH dx (fldL fsH r st p)) → G2 x = none → Q .non H2
theorem ok_initH {f gL : Addr} {fd : FuncData} (SG : SupG P mg) (F : SU.FunS P K "__init__" "Short.__init__" s_Short_init f fd Y.aH) (SO : SU.SupOk K Y.aH Y.aH "__init__" gL) (c : Cls K Y.aH) (nl : NoAttr K Y.aH "limit") (F_sup : FnR P w K mg base CX0 8 gL (spInitL Z Y Y.aH fsH)) (T : Txt Z K mg) (U : TxtU Z Y K mg) (O_need_rules : Fn1 P w K mg base "need_rules" 1 (spV (P_isRules Z)))
    (F_is_between : Fn1 P w K mg base "is_between" 2 (spR R_betw)) : FnOk P w K mg base CX0 9 f fd ["self", "rules", "most"] (spInitH Z Y) := by
  obtain ⟨oc, od, dV, kV, doc, pm, an, cda, cc, ct, osl, vs', file, tf, ccl, cdd, ccs, cl, cld, csl, rfl, lk, hcd, hcode, hvs, hfile, hcell⟩ := F.ex
  refine SU.fn_ofS (k := 8) lk hcd hcell nsc_Short_init (fun vs H Q E ⟨G, x, dx, r, n, ds, e, _⟩ => by rw [e]; rfl) (fun A outer s H vs Q E hr h => ?_)
  obtain ⟨G, x, dx, r, n, ds, rfl, eG, hGx, hx, hR, hn1, hn6, k⟩ := h
  have nd := nsc_Short_init.nd
  refine ⟨_, (SU.pssA_cons (SU.PSA.of (ps_expr (pe_fn O_need_rules (hr.mono (by decide)) rfl (pa_cons (pv 1) pa_nil))))
    (SU.pssA_cons (SU.PSA.of (ps_if (pt_not (pt_val (pe_fn F_is_between (hr.mono (by decide)) rfl (pa_cons (pv 2) (pa_cons pe_int (pa_cons (pe_glob (v := .int 400) rfl U.c_MOST_ROWS ⟨_, rfl⟩) pa_nil)))))) (pss_one ps_never) pss_nil))
    (SU.pssA_cons (SU.PSA.of (ps_asg (pv 2) (pg_fld (pv 0))))
    (SU.pssA_one (SU.psA_super (i := 0) lk rfl hcode hvs hfile hcell SO rfl (by decide +kernel) (by decide +kernel) (by decide +kernel) rfl (by decide) SG.ms SG.top (by rfl) F_sup (hr.mono (by decide)) pass0 (pa_cons (pv 1) pa_nil) rfl rfl rfl _ rfl rfl))))), ?_⟩
  show tSeq _ _ _ [some (.ref x), some r, some (.int 1), some (.ref Y.aH)] H
  refine q_dropV (v_call (vs := [r]) (w_cons (v_var rfl) w_nil) fun G' e => ⟨r, n, ds, rfl, hR.up e, rfl⟩) eG fun G1 H1 g1 => ?_
  refine q_pass (b := !(decide ((0 : Int) ≤ 1) && decide ((1 : Int) ≤ 400))) (by decide) (b_not (b_B (d_call (a_cons (d_var rfl (.int _)) (a_cons d_int (a_cons d_int a_nil))) ⟨1, 0, 400, rfl, rfl⟩))) g1.gh fun G2 H2 g2 => ?_
  have g12 := g1.trans g2
  have hx2 : H2 x = some (.ins Y.aH dx []) := g12.ex _ _ hx
  have hGx2 : G2 x = none := g12.new x (by rw [hx]; exact fun z => nomatch z) hGx
  refine ⟨_, rfl, _, rfl, x, Y.aH, dx, _, rfl, hx2, c, nl, by decide, ?_⟩
  show SU.tSuper _ _ _ _ _ _ [some (.ref x), some r, some (.int 1), some (.ref Y.aH)] (upd H2 x (.ins Y.aH dx fsH))
  have g3 : Grow (fun a => a = x) G H G2 (upd H2 x (.ins Y.aH dx fsH)) := g12.of0.set (.inr rfl) hGx2 (by rw [hx2]; exact fun z => nomatch z)
  refine ⟨x, dx, fsH, rfl, upd_same, r, rfl, G2, x, dx, r, n, ds, rfl, g3.gh, hGx2, upd_same, hR.up g3.g, hn1, hn6, fun st p G4 H4 g4 hst hp hp4 hGp hx4 hGx4 => ?_⟩
  exact k st p G4 H4 (g3.trans g4) hst (g3.there p hp) hp4 hGp hx4 hGx4
/-! ### become -/
def spBecome (K : PySem.W.Frag) : Sp := fun vs H Q _ => ∃ (x C dx p : Addr) (fs : List (Str × V)) (v st : V) (xs : List V), vs = [.ref x, v] ∧ LogC K C ∧ H x = some (.ins C dx fs) ∧ fs.lookup ("state" : Str) = some st ∧ fs.lookup ("past" : Str) = some (.ref p) ∧ H p = some (.lst xs) ∧ fs.length < 1000 ∧ xs.length < 1000 ∧
  Q .non (upd (upd H p (.lst (xs ++ [st]))) x (.ins C dx (putF "state" v fs)))
theorem sc_Log_become : FnScope ["self", "table"] ["self", "table"] (defScope s_Log_become) := ⟨rfl, rfl, rfl, by decide +kernel, rfl, by decide +kernel, by decide +kernel⟩
theorem ok_become {f : Addr} {fd : FuncData} (F : Fun K "become" "Log.become" s_Log_become f fd) (T : Txt Z K mg) : FnOk P w K mg base CX0 1 f fd ["self", "table"] (spBecome K) := by
  refine F.ok sc_Log_become (fun vs H Q E ⟨x, C, dx, p, fs, v, st, xs, e, _⟩ => by rw [e]; rfl) (fun cdv A outer s H vs Q E hr h => ?_)
  obtain ⟨x, C, dx, p, fs, v, st, xs, rfl, LC, hx, h1, h2, hp, l1, l2, k⟩ := h
  have nd := sc_Log_become.nd
  refine ⟨_, (pss_cons (ps_expr (pe_bm PySem.F.plainAttrs_list PySem.F.slot_list_append PySem.F.type_list_append mt_append (peFldK K (pv 0)) (pa_cons (peFldK K (pv 0)) pa_nil)))
    (pss_one (ps_asg (pv 1) (pg_fld (pv 0))))), ?_⟩
  show tSeq _ _ _ [some (.ref x), some v] H
  have npx : x ≠ p := fun z => by rw [← z, hx] at hp; cases hp
  refine ⟨.ref x, rfl, x, C, dx, fs, .ref p, rfl, hx, LC.c, LC.past, h2, .inl ⟨rfl, xs, .inl (.inl hp)⟩, .ref x, rfl, x, C, dx, fs, st, rfl, hx, LC.c, LC.state, h1, p, xs, st, rfl, rfl, hp, Evl.sz_lt (by omega), ?_⟩
  exact ⟨v, rfl, .ref x, rfl, x, C, dx, fs, rfl, (upd_ne npx).trans hx, LC.c, LC.state, l1, k⟩
end
end CP
set_option Elab.async false
set_option linter.all false
set_option maxRecDepth 100000
set_option maxHeartbeats 4000000
set_option pp.maxSteps 900
set_option pp.deepTerms false
namespace CP
open PySem L2 CL CM
section
variable {P : Program} {w : World} {K : PySem.W.Frag} {mg : Str → Option Value} {base : Heap} {Z : Ads} {Y : AdY}
abbrev row56 : PyData := prRow (5, 6)
/-! ### add, a row that fits -/
def spAdd (Z : Ads) (Y : AdY) (C : Addr) (fs0 : List (Str × V)) : Sp := fun vs H Q _ => ∃ (G : Hp) (x dx p : Addr) (r st row : V), vs = [.ref x, row] ∧ Ex G H ∧ G x = none ∧ G p = none ∧ H x = some (.ins C dx (fldL fs0 r st p)) ∧ H p = some (.lst []) ∧ TO Z.aR G r 2 twoRs ∧ TO Y.aT G st 2 [] ∧ DD G row row56 ∧
  ∀ (st' : V) (G2 H2 : Hp), Grow (fun a => a = x ∨ a = p) G H G2 H2 → TO Y.aT G2 st' 2 [row56] → H2 x = some (.ins C dx (fldL fs0 r st' p)) → H2 p = some (.lst [st]) → G2 x = none → G2 p = none → Q .non H2
/-- what a log's need_fit lets pass -/
def FitOk (Z : Ads) (C : Addr) (fs0 : List (Str × V)) (FIT : Sp) : Prop := ∀ (G H : Hp) (Q : VK) (E : XK) (x dx p : Addr) (r st rv : V), Ex G H → G x = some (.ins C dx (fldL fs0 r st p)) → TO Z.aR G r 2 twoRs → DD G rv (.tuple [row56]) → (∀ H2, Grow M0 G H G H2 → Q .non H2) → FIT [.ref x, rv] H Q E
def Fs0 (fs0 : List (Str × V)) : Prop := fs0 = [] ∨ fs0 = fsH
theorem Fs0.none {fs0 : List (Str × V)} (h : Fs0 fs0) {m : Str} (h1 : ¬ m = "past") (h2 : ¬ m = "state") (h3 : ¬ m = "given") (h4 : ¬ m = "limit") {r st : V} {p : Addr} : (fldL fs0 r st p).lookup m = none := by
  rw [fldL_other h1 h2 h3]
  rcases h with rfl | rfl
  · rfl
  · unfold fsH
    rw [List.lookup_cons]
    cases z : m == ("limit" : Str) with
    | true => exact absurd (eq_of_beq z) h4
    | false => rfl
theorem Fs0.len {fs0 : List (Str × V)} (h : Fs0 fs0) {r st : V} {p : Addr} : (fldL fs0 r st p).length < 1000 := by
  have h0 : fs0.length ≤ 1 := by
    rcases h with rfl | rfl
    · exact Nat.zero_le _
    · exact Nat.le_refl _
  unfold fldL
  have a := putF_len "past" (.ref p) (putF "state" st (putF "given" r fs0))
  have b := putF_len "state" st (putF "given" r fs0)
  have c := putF_len "given" r fs0
  omega
theorem Fs0.put {fs0 : List (Str × V)} (h : Fs0 fs0) {r st st' : V} {p : Addr} : putF "state" st' (fldL fs0 r st p) = fldL fs0 r st' p := by
  have e1 : ¬ (("given" : Str) = "state") := by decide +kernel
  have e2 : ¬ (("given" : Str) = "past") := by decide +kernel
  have e3 : ¬ (("state" : Str) = "past") := by decide +kernel
  have e4 : ¬ (("limit" : Str) = "given") := by decide +kernel
  have e5 : ¬ (("limit" : Str) = "state") := by decide +kernel
  have e6 : ¬ (("limit" : Str) = "past") := by decide +kernel
  rcases h with rfl | rfl <;> simp [fldL, putF, fsH, e1, e2, e3, e4, e5, e6]
/-- G without x -/
def offG (G : Hp) (x : Addr) : Hp := fun b => if b = x then none else G b
theorem offG_ne {G : Hp} {x b : Addr} (h : b ≠ x) : offG G x b = G b := if_neg h
theorem offG_at {G : Hp} {x : Addr} : offG G x x = none := if_pos rfl
theorem sc_Log_add : FnScope ["self", "row", "rows"] ["self", "row"] (defScope s_Log_add) := ⟨rfl, rfl, rfl, by decide +kernel, rfl, by decide +kernel, by decide +kernel⟩
theorem ok_addOk {C : Addr} {fs0 : List (Str × V)} {FIT : Sp} (LC : LogC K C) (h0 : Fs0 fs0) (hCT : C ≠ Y.aT) (hF : FitOk Z C fs0 FIT) {f : Addr} {fd : FuncData} (F : Fun K "add" "Log.add" s_Log_add f fd) (T : Txt Z K mg) (U : TxtU Z Y K mg) (W : TxtW Z Y K) (F_is_row : Fn1 P w K mg base "is_row" 3 (spR R_isrow))
    (Pr_Rules_width : PrOk P w K mg base Z.aR "width" "columns") (Pr_Table_rows : PrOk P w K mg base Y.aT "rows" "kept") (M_fit : MeOk P w K mg base CX0 C "need_fit" 3 FIT) (M_bec : MeOk P w K mg base CX0 C "become" 1 (spBecome K)) (K_T : MkOk P w K mg base CX0 Y.aT 6 (spStar 2 (spInitT Y.aT))) :
    FnOk P w K mg base CX0 8 f fd ["self", "row"] (spAdd Z Y C fs0) := by
  refine F.ok sc_Log_add (fun vs H Q E ⟨G, x, dx, p, r, st, row, e, _⟩ => by rw [e]; rfl) (fun cdv A outer s H vs Q E hr h => ?_)
  obtain ⟨G, x, dx, p, r, st, row, rfl, eG, hGx, hGp, hx, hp, hR, hst, hrow, k⟩ := h
  have nd := sc_Log_add.nd
  refine ⟨_, (pss_cons (ps_if (pt_not (pt_val (pe_fn F_is_row (hr.mono (by decide)) rfl (pa_cons (pv 1) (pa_cons (pe_prK (peFldK K (pv 0)) W.c_Rules Pr_Rules_width (hr.mono (by decide))) pa_nil))))) (pss_one ps_never) pss_nil)
    (pss_cons (ps_set (i := 2) nd rfl (by first | exact Or.inl rfl | exact Or.inr rfl) (pe_op (catAK K) (pe_prK (peFldK K (pv 0)) W.c_Table Pr_Table_rows (hr.mono (by decide))) (pe_tup (pa_cons (pv 1) pa_nil))))
    (pss_cons (ps_expr (pe_meK (pl := _) (pv 0) LC.c M_fit (hr.mono (by decide)) pass0 (pa_cons (pv 2) pa_nil)))
    (pss_one (ps_expr (pe_meK (pl := _) (pv 0) LC.c M_bec (hr.mono (by decide)) pass0 (pa_cons (pe_mkSK K_T (hr.mono (by decide)) rfl U.k_Table pass0 (pa_cons (pe_prK (peFldK K (pv 0)) W.c_Rules Pr_Rules_width (hr.mono (by decide))) (StX.pa_star (pv 2) pa_nil))) pa_nil))))))), ?_⟩
  generalize hGX : upd G x (.ins C dx (fldL fs0 r st p)) = GX
  have xG : GX x = some (.ins C dx (fldL fs0 r st p)) := hGX ▸ upd_same
  have eX : Ex G GX := hGX ▸ Ex.frz hGx
  have eXH : Ex GX H := fun b o z => by
    rw [← hGX] at z
    by_cases hb : b = x
    · rw [hb, upd_same] at z
      rw [hb, ← Option.some.inj z]; exact hx
    · rw [upd_ne hb] at z
      exact eG b o z
  have npx : p ≠ x := fun z => by rw [z, hx] at hp; cases hp
  have pX : GX p = none := by rw [← hGX, upd_ne npx]; exact hGp
  obtain ⟨pr, dr, tr, er, hpr, htr⟩ := id (hR.up eX).ex
  subst er
  obtain ⟨ps, ds, ts, es, hps, hts⟩ := id (hst.up eX).ex
  subst es
  have wid : ∀ {σ : VSt} {G1 : Hp}, Ex GX G1 → σ[0]? = some (some (.ref x)) → EvD (tProp Z.aR (getSp Z.aR "columns") [] E0 (tFld K (tVar 0) "given")) σ G1 (I1 2) := fun e hi => d_v (v_pr (v_fld (K := K) (v_var hi) (e _ _ xG) LC.c LC.given fldL_given) (e _ _ hpr) (flds_columns 2 tr)) (.int _)
  show tSeq _ _ _ [some (.ref x), some row, none] H
  refine q_pass (b := !true) rfl (b_not (b_B (d_call (R := R_isrow) (z := .bool true) (a_cons (d_var rfl (hrow.up eX)) (a_cons (wid (Ex.refl _) rfl) a_nil)) ⟨[I1 5, I1 6], 2, rfl, by decide, cell_row [5, 6], by rw [show rowOk [I1 5, I1 6] 2 = true by decide +kernel]⟩))) eXH fun G1 H1 g1 => ?_
  show tSeq _ _ _ [some (.ref x), some row, none] H1
  refine q_asg (d_op (d_v (v_pr (v_fld (K := K) (v_var (σ := [some (.ref x), some row, none]) (i := 0) rfl) (g1.g _ _ xG) LC.c LC.state fldL_state) (g1.g _ _ hps) (flds_kept 2 ts)) (hts.up g1.g)) (d_tup (a_cons (d_var rfl (hrow.up (eX.trans g1.g))) a_nil)) (r_catA (K := K) (ds := []) (es := [row56]) (by decide))) g1.gh fun v2 G2 H2 g2 hv2 => ?_
  show tSeq _ _ _ [some (.ref x), some row, some v2] H2
  have g12 := g1.trans g2
  refine ⟨.ref x, rfl, x, dx, _, rfl, g12.gh _ _ (g12.g _ _ xG), h0.none (by decide +kernel) (by decide +kernel) (by decide +kernel) (by decide +kernel), v2, rfl, ?_⟩
  refine hF G2 H2 _ _ x dx p _ _ v2 g12.gh (g12.g _ _ xG) ((hR.up eX).up g12.g) hv2 fun H3 g3 => ?_
  have g13 := g12.trans g3
  show tDrop (tMeth C "become" (spBecome K) [] E0 (tVar 0) _) _ [some (.ref x), some row, some v2] H3
  refine ⟨.ref x, rfl, x, dx, _, rfl, g13.gh _ _ (g13.g _ _ xG), h0.none (by decide +kernel) (by decide +kernel) (by decide +kernel) (by decide +kernel), ?_⟩
  refine make_tableV (σ := [some (.ref x), some row, some v2]) (rows := [[5, 6]]) (n := 2) (a_cons (wid g13.g rfl) (a_starT (d_var rfl hv2))) ⟨by decide, fun r hr => by rw [List.mem_singleton.mp hr]; exact ⟨by decide, by decide, by decide⟩⟩ (by decide) (by decide) G2 H3 (Ex.refl _) g3.gh _ fun v4 G4 H4 g4 h4 => ?_
  have h4 := h4.elim (fun x => absurd rfl x) id
  have g14 := g13.trans g4
  have hx4 := g14.ex _ _ hx
  have hp4 := g14.ex _ _ hp
  refine ⟨x, C, dx, p, _, v4, _, [], rfl, LC, hx4, fldL_state, fldL_past, hp4, h0.len, by decide, ?_⟩
  rw [h0.put]
  have hG4x : G4 x = some (.ins C dx (fldL fs0 (.ref pr) (.ref ps) p)) := g14.g _ _ xG
  have hG4p : G4 p = none := g14.new p (by rw [hp]; exact fun z => nomatch z) pX
  refine k v4 (offG G4 x) _ ⟨fun b o z => ?_, fun b o z => ?_, fun b o nb z => ?_, fun b z => ?_, fun b z1 z2 => ?_⟩ (h4.part (x := x) (fun b o z n => (offG_ne n).trans z) hG4x hCT) upd_same (by rw [upd_ne npx, upd_same]; rfl) offG_at (by rw [offG_ne npx]; exact hG4p)
  · have nb : b ≠ x := fun y => by rw [y, hGx] at z; cases z
    exact (offG_ne nb).trans (g14.g _ _ (eX _ _ z))
  · have nb : b ≠ x := fun y => by rw [y, offG_at] at z; cases z
    rw [offG_ne nb] at z
    have np : b ≠ p := fun y => by rw [y, hG4p] at z; cases z
    rw [upd_ne nb, upd_ne np]
    exact g14.gh _ _ z
  · rw [upd_ne fun y => nb (.inl y), upd_ne fun y => nb (.inr y)]
    exact g14.ex _ _ z
  · have nb : b ≠ x := fun y => by rw [y, upd_same] at z; cases z
    rw [upd_ne nb] at z
    have np : b ≠ p := fun y => by rw [y, upd_same] at z; cases z
    rw [upd_ne np] at z
    exact g14.there b z
  · by_cases nb : b = x
    · rw [nb]; exact offG_at
    · rw [offG_ne nb]
      exact g14.new b z1 (by rw [← hGX, upd_ne nb]; exact z2)
theorem sc_Log_call : FnScope ["self", "row"] ["self", "row"] (defScope s_Log_call) := ⟨rfl, rfl, rfl, by decide +kernel, rfl, by decide +kernel, by decide +kernel⟩
theorem ok_callOk {C : Addr} {fs0 : List (Str × V)} (LC : LogC K C) (h0 : Fs0 fs0) {f : Addr} {fd : FuncData} (F : Fun K "__call__" "Log.__call__" s_Log_call f fd) (T : Txt Z K mg) (M_add : MeOk P w K mg base CX0 C "add" 8 (spAdd Z Y C fs0)) : FnOk P w K mg base CX0 9 f fd ["self", "row"] (spAdd Z Y C fs0) := by
  refine F.ok sc_Log_call (fun vs H Q E ⟨G, x, dx, p, r, st, row, e, _⟩ => by rw [e]; rfl) (fun cdv A outer s H vs Q E hr h => ?_)
  obtain ⟨G, x, dx, p, r, st, row, rfl, eG, hGx, hGp, hx, hp, hR, hst, hrow, k⟩ := h
  have nd := sc_Log_call.nd
  refine ⟨_, (pss_one (ps_expr (pe_meK (pl := _) (pv 0) LC.c M_add (hr.mono (by decide)) pass0 (pa_cons (pv 1) pa_nil)))), ?_⟩
  show tDrop _ _ [some (.ref x), some row] H
  exact ⟨.ref x, rfl, x, dx, _, rfl, hx, h0.none (by decide +kernel) (by decide +kernel) (by decide +kernel) (by decide +kernel), row, rfl, G, x, dx, p, r, st, row, rfl, eG, hGx, hGp, hx, hp, hR, hst, hrow, k⟩
end
end CP
set_option Elab.async false
set_option linter.all false
set_option maxRecDepth 100000
set_option maxHeartbeats 4000000
set_option pp.maxSteps 900
set_option pp.deepTerms false
namespace CP
open PySem L2 CL CM
section
variable {P : Program} {w : World} {K : PySem.W.Frag} {mg : Str → Option Value} {base : Heap} {Z : Ads} {Y : AdY}
/-! ### no row -/
def P_badrow (Z : Ads) (C : Addr) : Hp → List V → Prop := fun G vs => ∃ (x dx : Addr) (fs : List (Str × V)) (r row : V) (ds : List PyData), vs = [.ref x, row] ∧ G x = some (.ins C dx fs) ∧ fs.lookup ("given" : Str) = some r ∧ fs.lookup ("add" : Str) = none ∧ TO Z.aR G r 2 ds ∧ ((∃ t, Odd G row t) ∨ DD G row (.tuple [I1 1, I1 2, I1 3]))
theorem okX_addR {C : Addr} (LC : LogC K C) {f : Addr} {fd : FuncData} (F : Fun K "add" "Log.add" s_Log_add f fd) (T : Txt Z K mg) (V : TxtV Y K mg) (W : TxtW Z Y K) (O_is_row : Fn1 P w K mg base "is_row" 3 (spV P_isrow)) (F_is_row : Fn1 P w K mg base "is_row" 3 (spR R_isrow)) (Pr_Rules_width : PrOk P w K mg base Z.aR "width" "columns") :
    FnOk P w K mg base (L2.CX P w) 5 f fd ["self", "row"] (spX (P_badrow Z C) (Y.ex 2)) := by
  refine F.okX sc_Log_add (fun vs H Q E ⟨G, _, ⟨x, dx, fs, r, row, ds, e, _⟩, _⟩ => by rw [e]; rfl) (fun cdv A outer s H vs Q E hr h => ?_)
  obtain ⟨G, eG, ⟨x, dx, fs, r, row, ds, rfl, hx, hg, _, hR, hrow⟩, xr⟩ := h
  have nd := sc_Log_add.nd
  obtain ⟨pr, dr, tr, er, hpr, htr⟩ := id hR.ex
  subst er
  have wid : EvV (tProp Z.aR (getSp Z.aR "columns") [] E0 (tFld K (tVar 0) "given")) [some (.ref x), some row, none] G (.int ((2 : Nat) : Int)) := v_pr (v_fld (K := K) (v_var rfl) hx LC.c LC.given hg) hpr (flds_columns 2 tr)
  rcases hrow with ⟨t, ho⟩ | hd
  · refine ⟨_, (pss_cons (ps_if (pt_not (pt_val (pe_fn O_is_row (hr.mono (by decide)) rfl (pa_cons (pv 1) (pa_cons (pe_prK (peFldK K (pv 0)) W.c_Rules Pr_Rules_width (hr.mono (by decide))) pa_nil))))) (pss_one (ps_exc rfl (takes_of rfl rfl rfl rfl) V.NoRow rfl)) pss_nil)
    (pss_cons ps_never
    (pss_cons ps_never
    (pss_one ps_never)))), ?_⟩
    show tSeq _ _ _ [some (.ref x), some row, none] H
    exact q_raise (b := !false) rfl (b_not (b_B (d_v (v_call (vs := [row, .int ((2 : Nat) : Int)]) (w_cons (v_var rfl) (w_cons wid w_nil)) fun G' e => ⟨row, t, rfl, ho.up e, rfl⟩) (.bl _)))) eG fun G2 H2 g => (xr.up g).now g.gh
  · refine ⟨_, (pss_cons (ps_if (pt_not (pt_val (pe_fn F_is_row (hr.mono (by decide)) rfl (pa_cons (pv 1) (pa_cons (pe_prK (peFldK K (pv 0)) W.c_Rules Pr_Rules_width (hr.mono (by decide))) pa_nil))))) (pss_one (ps_exc rfl (takes_of rfl rfl rfl rfl) V.NoRow rfl)) pss_nil)
    (pss_cons ps_never
    (pss_cons ps_never
    (pss_one ps_never)))), ?_⟩
    show tSeq _ _ _ [some (.ref x), some row, none] H
    exact q_raise (b := !false) rfl (b_not (b_B (d_call (R := R_isrow) (z := .bool false) (a_cons (d_var rfl hd) (a_cons (d_v wid (.int _)) a_nil)) ⟨[I1 1, I1 2, I1 3], 2, rfl, by decide, cell_row [1, 2, 3], by rw [show rowOk [I1 1, I1 2, I1 3] 2 = false by decide +kernel]⟩))) eG fun G2 H2 g => (xr.up g).now g.gh
theorem okX_callL {C : Addr} (LC : LogC K C) {f : Addr} {fd : FuncData} (F : Fun K "__call__" "Log.__call__" s_Log_call f fd) (X_add : MeOk P w K mg base (L2.CX P w) C "add" 5 (spX (P_badrow Z C) (Y.ex 2))) : FnOk P w K mg base (L2.CX P w) 6 f fd ["self", "row"] (spX (P_badrow Z C) (Y.ex 2)) := by
  refine F.okX sc_Log_call (fun vs H Q E ⟨G, _, ⟨x, dx, fs, r, row, ds, e, _⟩, _⟩ => by rw [e]; rfl) (fun cdv A outer s H vs Q E hr h => ?_)
  obtain ⟨G, eG, ⟨x, dx, fs, r, row, ds, rfl, hx, hg, hn, hR, hrow⟩, xr⟩ := h
  have nd := sc_Log_call.nd
  refine ⟨_, (pss_one (ps_expr (pe_meK (pl := _) (pv 0) LC.c X_add (hr.mono (by decide)) (passB (takes_of rfl rfl rfl rfl)) (pa_cons (pv 1) pa_nil)))), ?_⟩
  show tDrop _ _ [some (.ref x), some row] H
  exact x_drop (x_meth (v_var rfl) hx hn (w_cons (v_var rfl) w_nil) fun G' e => ⟨x, dx, fs, r, row, ds, rfl, e _ _ hx, hg, hn, hR.up e, hrow.imp (fun ⟨t, h⟩ => ⟨t, h.up e⟩) fun h => h.up e⟩) eG xr
theorem sc_Log_drop : FnScope ["self", "row", "rows", "places", "at", "other"] ["self", "row"] (defScope s_Log_drop) := ⟨rfl, rfl, rfl, by decide +kernel, rfl, by decide +kernel, by decide +kernel⟩
-- N = ["self", "row", "rows", "places", "at", "other"]
theorem okX_dropR {C : Addr} (LC : LogC K C) {f : Addr} {fd : FuncData} (F : Fun K "drop" "Log.drop" s_Log_drop f fd) (T : Txt Z K mg) (V : TxtV Y K mg) (W : TxtW Z Y K) (O_is_row : Fn1 P w K mg base "is_row" 3 (spV P_isrow)) (F_is_row : Fn1 P w K mg base "is_row" 3 (spR R_isrow)) (Pr_Rules_width : PrOk P w K mg base Z.aR "width" "columns") :
    FnOk P w K mg base (L2.CX P w) 5 f fd ["self", "row"] (spX (P_badrow Z C) (Y.ex 2)) := by
  refine F.okX sc_Log_drop (fun vs H Q E ⟨G, _, ⟨x, dx, fs, r, row, ds, e, _⟩, _⟩ => by rw [e]; rfl) (fun cdv A outer s H vs Q E hr h => ?_)
  obtain ⟨G, eG, ⟨x, dx, fs, r, row, ds, rfl, hx, hg, _, hR, hrow⟩, xr⟩ := h
  have nd := sc_Log_drop.nd
  obtain ⟨pr, dr, tr, er, hpr, htr⟩ := id hR.ex
  subst er
  have wid : EvV (tProp Z.aR (getSp Z.aR "columns") [] E0 (tFld K (tVar 0) "given")) [some (.ref x), some row, none, none, none, none] G (.int ((2 : Nat) : Int)) := v_pr (v_fld (K := K) (v_var rfl) hx LC.c LC.given hg) hpr (flds_columns 2 tr)
  rcases hrow with ⟨t, ho⟩ | hd
  · refine ⟨_, (pss_cons (ps_if (pt_not (pt_val (pe_fn O_is_row (hr.mono (by decide)) rfl (pa_cons (pv 1) (pa_cons (pe_prK (peFldK K (pv 0)) W.c_Rules Pr_Rules_width (hr.mono (by decide))) pa_nil))))) (pss_one (ps_exc rfl (takes_of rfl rfl rfl rfl) V.NoRow rfl)) pss_nil)
    (pss_cons ps_never
    (pss_cons ps_never
    (pss_cons ps_never
    (pss_cons ps_never
    (pss_one ps_never)))))), ?_⟩
    show tSeq _ _ _ [some (.ref x), some row, none, none, none, none] H
    exact q_raise (b := !false) rfl (b_not (b_B (d_v (v_call (vs := [row, .int ((2 : Nat) : Int)]) (w_cons (v_var rfl) (w_cons wid w_nil)) fun G' e => ⟨row, t, rfl, ho.up e, rfl⟩) (.bl _)))) eG fun G2 H2 g => (xr.up g).now g.gh
  · refine ⟨_, (pss_cons (ps_if (pt_not (pt_val (pe_fn F_is_row (hr.mono (by decide)) rfl (pa_cons (pv 1) (pa_cons (pe_prK (peFldK K (pv 0)) W.c_Rules Pr_Rules_width (hr.mono (by decide))) pa_nil))))) (pss_one (ps_exc rfl (takes_of rfl rfl rfl rfl) V.NoRow rfl)) pss_nil)
    (pss_cons ps_never
    (pss_cons ps_never
    (pss_cons ps_never
    (pss_cons ps_never
    (pss_one ps_never)))))), ?_⟩
    show tSeq _ _ _ [some (.ref x), some row, none, none, none, none] H
    exact q_raise (b := !false) rfl (b_not (b_B (d_call (R := R_isrow) (z := .bool false) (a_cons (d_var rfl hd) (a_cons (d_v wid (.int _)) a_nil)) ⟨[I1 1, I1 2, I1 3], 2, rfl, by decide, cell_row [1, 2, 3], by rw [show rowOk [I1 1, I1 2, I1 3] 2 = false by decide +kernel]⟩))) eG fun G2 H2 g => (xr.up g).now g.gh
/-! ### a row that does not fit -/
/-- what a log's need_fit refuses -/
def FitX (Z : Ads) (C : Addr) (fs0 : List (Str × V)) (FIT : Sp) (D : Addr) (a b : Nat × Nat) : Prop := ∀ (G H : Hp) (Q : VK) (E : XK) (x dx p : Addr) (r st rv : V), Ex G H → G x = some (.ins C dx (fldL fs0 r st p)) → TO Z.aR G r 2 twoRs → DD G rv (.tuple [prRow a, prRow b]) → XR D G H E → FIT [.ref x, rv] H Q E
def P_nofit (Z : Ads) (Y : AdY) (C : Addr) (fs0 : List (Str × V)) (b : Nat × Nat) : Hp → List V → Prop := fun G vs => ∃ (x dx p : Addr) (r st row : V), vs = [.ref x, row] ∧ G x = some (.ins C dx (fldL fs0 r st p)) ∧ TO Z.aR G r 2 twoRs ∧ TO Y.aT G st 2 [row56] ∧ DD G row (prRow b)
theorem okX_addF {C D : Addr} {fs0 : List (Str × V)} {FIT : Sp} {b : Nat × Nat} (LC : LogC K C) (h0 : Fs0 fs0) (hb : b.1 ≤ 9999 ∧ b.2 ≤ 9999) (hF : FitX Z C fs0 FIT D (5, 6) b) {f : Addr} {fd : FuncData} (F : Fun K "add" "Log.add" s_Log_add f fd) (T : Txt Z K mg) (V : TxtV Y K mg) (W : TxtW Z Y K) (F_is_row : Fn1 P w K mg base "is_row" 3 (spR R_isrow))
    (Pr_Rules_width : PrOk P w K mg base Z.aR "width" "columns") (Pr_Table_rows : PrOk P w K mg base Y.aT "rows" "kept") (X_fit : MeOk P w K mg base (L2.CX P w) C "need_fit" 3 FIT) : FnOk P w K mg base (L2.CX P w) 5 f fd ["self", "row"] (spX (P_nofit Z Y C fs0 b) D) := by
  refine F.okX sc_Log_add (fun vs H Q E ⟨G, _, ⟨x, dx, p, r, st, row, e, _⟩, _⟩ => by rw [e]; rfl) (fun cdv A outer s H vs Q E hr h => ?_)
  obtain ⟨G, eG, ⟨x, dx, p, r, st, row, rfl, hx, hR, hst, hrow⟩, xr⟩ := h
  have nd := sc_Log_add.nd
  obtain ⟨pr, dr, tr, er, hpr, htr⟩ := id hR.ex
  subst er
  obtain ⟨ps, ds, ts, es, hps, hts⟩ := id hst.ex
  subst es
  refine ⟨_, (pss_cons (ps_if (pt_not (pt_val (pe_fn F_is_row (hr.mono (by decide)) rfl (pa_cons (pv 1) (pa_cons (pe_prK (peFldK K (pv 0)) W.c_Rules Pr_Rules_width (hr.mono (by decide))) pa_nil))))) (pss_one (ps_exc rfl (takes_of rfl rfl rfl rfl) V.NoRow rfl)) pss_nil)
    (pss_cons (ps_set (i := 2) nd rfl (by first | exact Or.inl rfl | exact Or.inr rfl) (pe_op (catAK K) (pe_prK (peFldK K (pv 0)) W.c_Table Pr_Table_rows (hr.mono (by decide))) (pe_tup (pa_cons (pv 1) pa_nil))))
    (pss_cons (ps_expr (pe_meK (pl := _) (pv 0) LC.c X_fit (hr.mono (by decide)) (passB (takes_of rfl rfl rfl rfl)) (pa_cons (pv 2) pa_nil)))
    (pss_one ps_never)))), ?_⟩
  show tSeq _ _ _ [some (.ref x), some row, none] H
  have good : goodRow 2 [b.1, b.2] := ⟨rfl, (by show 2 ≤ 50; decide), fun y hy => by
    rcases List.mem_cons.mp hy with rfl | hy
    · exact hb.1
    · rw [List.mem_singleton.mp hy]; exact hb.2⟩
  refine q_pass (b := !true) rfl (b_not (b_B (d_call (R := R_isrow) (z := .bool true) (a_cons (d_var rfl hrow) (a_cons (d_v (v_pr (v_fld (K := K) (v_var rfl) hx LC.c LC.given fldL_given) hpr (flds_columns 2 tr)) (.int _)) a_nil)) ⟨[b.1, b.2].map I1, 2, rfl, by simp, cell_row [b.1, b.2], by rw [rowOk_good good]⟩))) eG fun G1 H1 g1 => ?_
  show tSeq _ _ _ [some (.ref x), some row, none] H1
  refine q_asg (d_op (d_v (v_pr (v_fld (K := K) (v_var (σ := [some (.ref x), some row, none]) (i := 0) rfl) (g1.g _ _ hx) LC.c LC.state fldL_state) (g1.g _ _ hps) (flds_kept 2 ts)) (hts.up g1.g)) (d_tup (a_cons (d_var rfl (hrow.up g1.g)) a_nil)) (r_catA (K := K) (ds := [row56]) (es := [prRow b]) (by show 2 ≤ 100000; decide))) g1.gh fun v2 G2 H2 g2 hv2 => ?_
  show tSeq _ _ _ [some (.ref x), some row, some v2] H2
  have g12 := g1.trans g2
  exact ⟨.ref x, rfl, x, dx, _, rfl, g12.gh _ _ (g12.g _ _ hx), h0.none (by decide +kernel) (by decide +kernel) (by decide +kernel) (by decide +kernel), v2, rfl, hF G2 H2 _ _ x dx p _ _ v2 g12.gh (g12.g _ _ hx) (hR.up g12.g) hv2 (xr.up g12)⟩
/-! ### the setter of table -/
def P_set8 : Hp → List V → Prop := fun G vs => ∃ (x v : V) (t : String), vs = [x, v] ∧ Odd G v t
theorem sc_Log_table2 : FnScope ["self", "value"] ["self", "value"] (defScope s_Log_table2) := ⟨rfl, rfl, rfl, by decide +kernel, rfl, by decide +kernel, by decide +kernel⟩
theorem okX_set8 {f : Addr} {fd : FuncData} (F : Fun K "table" "Log.table" s_Log_table2 f fd) (X_need_table : FnX P w K mg base "need_table" 1 (spX (P_needtabX Z) (Y.ex 8))) : FnOk P w K mg base (L2.CX P w) 4 f fd ["self", "value"] (spX P_set8 (Y.ex 8)) := by
  refine F.okX sc_Log_table2 (fun vs H Q E ⟨G, _, ⟨x, v, t, e, _⟩, _⟩ => by rw [e]; rfl) (fun cdv A outer s H vs Q E hr h => ?_)
  obtain ⟨G, eG, ⟨x, v, t, rfl, ho⟩, xr⟩ := h
  have nd := sc_Log_table2.nd
  refine ⟨_, (pss_cons (ps_expr (pe_fx X_need_table (hr.mono (by decide)) (passB (takes_of rfl rfl rfl rfl)) rfl (pa_cons (pv 1) pa_nil)))
    (pss_cons ps_never
    (pss_cons ps_never
    (pss_one ps_never)))), ?_⟩
  show tSeq _ _ _ [some x, some v] H
  exact q_x (x_call (vs := [v]) (w_cons (v_var rfl) w_nil) fun G' e => ⟨v, rfl, .inl ⟨t, ho.up e⟩⟩) eG xr
def P_set10 (Z : Ads) (Y : AdY) (C : Addr) : Hp → List V → Prop := fun G vs => ∃ (x dx : Addr) (fs : List (Str × V)) (r v : V) (ds es : List PyData), vs = [.ref x, v] ∧ G x = some (.ins C dx fs) ∧ fs.lookup ("given" : Str) = some r ∧ TO Z.aR G r 2 ds ∧ TO Y.aT G v 3 es
theorem okX_set10 {C : Addr} (LC : LogC K C) {f : Addr} {fd : FuncData} (F : Fun K "table" "Log.table" s_Log_table2 f fd) (V : TxtV Y K mg) (T : Txt Z K mg) (W : TxtW Z Y K) (O_need_table : Fn1 P w K mg base "need_table" 1 (spV (P_isTable Y))) (Pr_Rules_width : PrOk P w K mg base Z.aR "width" "columns") (Pr_Table_width : PrOk P w K mg base Y.aT "width" "columns") :
    FnOk P w K mg base (L2.CX P w) 4 f fd ["self", "value"] (spX (P_set10 Z Y C) (Y.ex 10)) := by
  refine F.okX sc_Log_table2 (fun vs H Q E ⟨G, _, ⟨x, dx, fs, r, v, ds, es, e, _⟩, _⟩ => by rw [e]; rfl) (fun cdv A outer s H vs Q E hr h => ?_)
  obtain ⟨G, eG, ⟨x, dx, fs, r, v, ds, es, rfl, hx, hg, hR, hV⟩, xr⟩ := h
  have nd := sc_Log_table2.nd
  obtain ⟨pr, dr, tr, er, hpr, htr⟩ := id hR.ex
  subst er
  obtain ⟨pv', dv, tv, ev, hpv, htv⟩ := id hV.ex
  subst ev
  refine ⟨_, (pss_cons (ps_expr (pe_fn O_need_table (hr.mono (by decide)) rfl (pa_cons (pv 1) pa_nil)))
    (pss_cons (ps_if (pt_cmpR (neDK K (h64 hr)) (pe_prK (pv 1) W.c_Table Pr_Table_width (hr.mono (by decide))) (pe_prK (peFldK K (pv 0)) W.c_Rules Pr_Rules_width (hr.mono (by decide))) (nomark _)) (pss_one (ps_exc rfl (takes_of rfl rfl rfl rfl) V.UnlikeWidths rfl)) pss_nil)
    (pss_cons ps_never
    (pss_one ps_never)))), ?_⟩
  show tSeq _ _ _ [some (.ref x), some (.ref pv')] H
  refine q_dropV (v_call (vs := [.ref pv']) (w_cons (v_var rfl) w_nil) fun G' e => ⟨_, 3, es, rfl, hV.up e, rfl⟩) eG fun G1 H1 g1 => ?_
  exact q_raise (b := !PyData.eqv (I1 3) (I1 2)) (by rw [eqv_I1]; rfl) (b_test (d_op (d_v (v_pr (v_var rfl) (g1.g _ _ hpv) (flds_columns 3 tv)) (.int _)) (d_v (v_pr (v_fld (K := K) (v_var (σ := [some (.ref x), some (.ref pv')]) (i := 0) rfl) (g1.g _ _ hx) LC.c LC.given hg) (g1.g _ _ hpr) (flds_columns 2 tr)) (.int _)) (r_ne rfl rfl))) g1.gh fun G2 H2 g => (xr.up (g1.trans g)).now g.gh
def P_set13 (Z : Ads) (Y : AdY) (C : Addr) (fs0 : List (Str × V)) (a b : Nat × Nat) : Hp → List V → Prop := fun G vs => ∃ (x dx p : Addr) (r st v : V), vs = [.ref x, v] ∧ G x = some (.ins C dx (fldL fs0 r st p)) ∧ TO Z.aR G r 2 twoRs ∧ TO Y.aT G v 2 [prRow a, prRow b]
theorem okX_set13 {C D : Addr} {fs0 : List (Str × V)} {FIT : Sp} {a b : Nat × Nat} (LC : LogC K C) (h0 : Fs0 fs0) (hF : FitX Z C fs0 FIT D a b) {f : Addr} {fd : FuncData} (F : Fun K "table" "Log.table" s_Log_table2 f fd) (T : Txt Z K mg) (V : TxtV Y K mg) (W : TxtW Z Y K) (O_need_table : Fn1 P w K mg base "need_table" 1 (spV (P_isTable Y))) (Pr_Rules_width : PrOk P w K mg base Z.aR "width" "columns") (Pr_Table_width : PrOk P w K mg base Y.aT "width" "columns")
    (Pr_Table_rows : PrOk P w K mg base Y.aT "rows" "kept") (X_fit : MeOk P w K mg base (L2.CX P w) C "need_fit" 3 FIT) : FnOk P w K mg base (L2.CX P w) 4 f fd ["self", "value"] (spX (P_set13 Z Y C fs0 a b) D) := by
  refine F.okX sc_Log_table2 (fun vs H Q E ⟨G, _, ⟨x, dx, p, r, st, v, e, _⟩, _⟩ => by rw [e]; rfl) (fun cdv A outer s H vs Q E hr h => ?_)
  obtain ⟨G, eG, ⟨x, dx, p, r, st, v, rfl, hx, hR, hV⟩, xr⟩ := h
  have nd := sc_Log_table2.nd
  obtain ⟨pr, dr, tr, er, hpr, htr⟩ := id hR.ex
  subst er
  obtain ⟨pv', dv, tv, ev, hpv, htv⟩ := id hV.ex
  subst ev
  refine ⟨_, (pss_cons (ps_expr (pe_fn O_need_table (hr.mono (by decide)) rfl (pa_cons (pv 1) pa_nil)))
    (pss_cons (ps_if (pt_cmpR (neDK K (h64 hr)) (pe_prK (pv 1) W.c_Table Pr_Table_width (hr.mono (by decide))) (pe_prK (peFldK K (pv 0)) W.c_Rules Pr_Rules_width (hr.mono (by decide))) (nomark _)) (pss_one (ps_exc rfl (takes_of rfl rfl rfl rfl) V.UnlikeWidths rfl)) pss_nil)
    (pss_cons (ps_expr (pe_meK (pl := _) (pv 0) LC.c X_fit (hr.mono (by decide)) (passB (takes_of rfl rfl rfl rfl)) (pa_cons (pe_prK (pv 1) W.c_Table Pr_Table_rows (hr.mono (by decide))) pa_nil)))
    (pss_one ps_never)))), ?_⟩
  show tSeq _ _ _ [some (.ref x), some (.ref pv')] H
  refine q_dropV (v_call (vs := [.ref pv']) (w_cons (v_var rfl) w_nil) fun G' e => ⟨_, 2, _, rfl, hV.up e, rfl⟩) eG fun G1 H1 g1 => ?_
  refine q_pass (b := !PyData.eqv (I1 2) (I1 2)) (by rw [eqv_I1]; rfl) (b_test (d_op (d_v (v_pr (v_var rfl) (g1.g _ _ hpv) (flds_columns 2 tv)) (.int _)) (d_v (v_pr (v_fld (K := K) (v_var (σ := [some (.ref x), some (.ref pv')]) (i := 0) rfl) (g1.g _ _ hx) LC.c LC.given fldL_given) (g1.g _ _ hpr) (flds_columns 2 tr)) (.int _)) (r_ne rfl rfl))) g1.gh fun G2 H2 g2 => ?_
  have g12 := g1.trans g2
  show tSeq _ _ _ [some (.ref x), some (.ref pv')] H2
  refine ⟨.ref x, rfl, x, dx, _, rfl, g12.gh _ _ (g12.g _ _ hx), h0.none (by decide +kernel) (by decide +kernel) (by decide +kernel) (by decide +kernel), ?_⟩
  refine (v_pr (v_var (σ := [some (.ref x), some (.ref pv')]) (i := 1) rfl) (g12.g _ _ hpv) (flds_kept 2 tv)) G2 H2 (Ex.refl _) g12.gh _ fun G3 H3 g3 => ?_
  have g13 := g12.trans g3
  exact hF G3 H3 _ _ x dx p _ _ _ g13.gh (g13.g _ _ hx) (hR.up g13.g) (htv.up g13.g) (xr.up g13)
/-- self.table = table -/
def P_assign (C : Addr) (pre : Hp → List V → Prop) : Hp → List V → Prop := fun G vs => ∃ (x dx : Addr) (fs : List (Str × V)) (v : V), vs = [.ref x, v] ∧ G x = some (.ins C dx fs) ∧ pre G vs
theorem sc_Log_assign_table : FnScope ["self", "table"] ["self", "table"] (defScope s_Log_assign_table) := ⟨rfl, rfl, rfl, by decide +kernel, rfl, by decide +kernel, by decide +kernel⟩
theorem okX_assign {C D p g : Addr} {pre : Hp → List V → Prop} (up : ∀ {G G' : Hp} {vs : List V}, pre G vs → Ex G G' → pre G' vs) (LC : LogC K C) (S : SetOf K C "table" p g) (F_set : FnR P w K mg base (L2.CX P w) 4 g (spX pre D)) {f : Addr} {fd : FuncData} (F : Fun K "assign_table" "Log.assign_table" s_Log_assign_table f fd) (T : Txt Z K mg) :
    FnOk P w K mg base (L2.CX P w) 7 f fd ["self", "table"] (spX (P_assign C pre) D) := by
  refine F.okX sc_Log_assign_table (fun vs H Q E ⟨G, _, ⟨x, dx, fs, v, e, _⟩, _⟩ => by rw [e]; rfl) (fun cdv A outer s H vs Q E hr h => ?_)
  obtain ⟨G, eG, ⟨x, dx, fs, v, rfl, hx, hp⟩, xr⟩ := h
  have nd := sc_Log_assign_table.nd
  refine ⟨_, pss_one (ps_asg (pv 1) (pg_prop (k := 4) (pv 0) LC.c S F_set (hr.mono (by decide)) (passB (takes_of rfl rfl rfl rfl)))), ?_⟩
  show tAsg _ _ _ [some (.ref x), some v] H
  exact ⟨v, rfl, .ref x, rfl, x, dx, fs, rfl, eG _ _ hx, G, eG, hp, xr⟩
/-! ### undo -/
def P_undo (C : Addr) : Hp → List V → Prop := fun G vs => ∃ (x dx p : Addr) (fs : List (Str × V)), vs = [.ref x] ∧ G x = some (.ins C dx fs) ∧ fs.lookup ("past" : Str) = some (.ref p) ∧ G p = some (.lst [])
theorem sc_Log_undo : FnScope ["self"] ["self"] (defScope s_Log_undo) := ⟨rfl, rfl, rfl, by decide +kernel, rfl, by decide +kernel, by decide +kernel⟩
theorem okX_undo {C : Addr} (LC : LogC K C) {f : Addr} {fd : FuncData} (F : Fun K "undo" "Log.undo" s_Log_undo f fd) (T : Txt Z K mg) (V : TxtV Y K mg) : FnOk P w K mg base (L2.CX P w) 1 f fd ["self"] (spX (P_undo C) (Y.ex 14)) := by
  refine F.okX sc_Log_undo (fun vs H Q E ⟨G, _, ⟨x, dx, p, fs, e, _⟩, _⟩ => by rw [e]; rfl) (fun cdv A outer s H vs Q E hr h => ?_)
  obtain ⟨G, eG, ⟨x, dx, p, fs, rfl, hx, hl, hp⟩, xr⟩ := h
  have nd := sc_Log_undo.nd
  refine ⟨_, (pss_cons (ps_if (pt_cmpR (eqDK K (h64 hr)) (peFldK K (pv 0)) (pe_lst pa_nil) (nomark _)) (pss_one (ps_exc rfl (takes_of rfl rfl rfl rfl) V.NothingDone rfl)) pss_nil)
    (pss_one ps_never)), ?_⟩
  show tSeq _ _ _ [some (.ref x)] H
  exact q_raise (b := PyData.eqv (.list []) (.list [])) (by decide +kernel) (b_test (d_op (d_v (v_fld (K := K) (v_var (σ := [some (.ref x)]) (i := 0) rfl) hx LC.c LC.past hl) (.lst hp .nil)) (d_lst a_nil) (r_eq (by decide +kernel) (by decide +kernel)))) eG fun G2 H2 g => (xr.up g).now g.gh
end
end CP
set_option Elab.async false
set_option linter.all false
set_option maxRecDepth 100000
set_option maxHeartbeats 4000000
set_option pp.maxSteps 900
set_option pp.deepTerms false
namespace CP
open PySem L2 CL CM
section
variable {P : Program} {w : World} {K : PySem.W.Frag} {mg : Str → Option Value} {base : Heap} {Z : Ads} {Y : AdY}
def P_nothere (Z : Ads) (Y : AdY) (C : Addr) : Hp → List V → Prop := fun G vs => ∃ (x dx p : Addr) (fs0 : List (Str × V)) (r st row : V), vs = [.ref x, row] ∧ G x = some (.ins C dx (fldL fs0 r st p)) ∧ TO Z.aR G r 1 [] ∧ TO Y.aT G st 1 [] ∧ DD G row (.tuple [I1 7])
theorem okX_dropT {C : Addr} (LC : LogC K C) {f : Addr} {fd : FuncData} (F : Fun K "drop" "Log.drop" s_Log_drop f fd) (T : Txt Z K mg) (V : TxtV Y K mg) (W : TxtW Z Y K) (F_is_row : Fn1 P w K mg base "is_row" 3 (spR R_isrow)) (Pr_Rules_width : PrOk P w K mg base Z.aR "width" "columns") (Pr_Table_rows : PrOk P w K mg base Y.aT "rows" "kept") :
    FnOk P w K mg base (L2.CX P w) 5 f fd ["self", "row"] (spX (P_nothere Z Y C) (Y.ex 12)) := by
  refine F.okX sc_Log_drop (fun vs H Q E ⟨G, _, ⟨x, dx, p, fs0, r, st, row, e, _⟩, _⟩ => by rw [e]; rfl) (fun cdv A outer s H vs Q E hr h => ?_)
  obtain ⟨G, eG, ⟨x, dx, p, fs0, r, st, row, rfl, hx, hR, hst, hrow⟩, xr⟩ := h
  have nd := sc_Log_drop.nd
  obtain ⟨pr, dr, tr, er, hpr, htr⟩ := id hR.ex
  subst er
  obtain ⟨ps, ds, ts, es, hps, hts⟩ := id hst.ex
  subst es
  refine ⟨_, (pss_cons (ps_if (pt_not (pt_val (pe_fn F_is_row (hr.mono (by decide)) rfl (pa_cons (pv 1) (pa_cons (pe_prK (peFldK K (pv 0)) W.c_Rules Pr_Rules_width (hr.mono (by decide))) pa_nil))))) (pss_one (ps_exc rfl (takes_of rfl rfl rfl rfl) V.NoRow rfl)) pss_nil)
    (pss_cons (ps_set (i := 2) nd rfl (by first | exact Or.inl rfl | exact Or.inr rfl) (pe_callTy call_list_of (by rfl) T.b_list (by decide +kernel) (pa_cons (pe_prK (peFldK K (pv 0)) W.c_Table Pr_Table_rows (hr.mono (by decide))) pa_nil)))
    (pss_cons (ps_setLc (i := 3) (own := [("at", 4), ("other", 5)]) rfl nd rfl rfl (sw_true rfl rfl rfl (by decide +kernel)) (pi_enum (by rfl) T.b_enumerate (pa_cons (pv 2) pa_nil)) (blkOk_by (own := [("at", 4), ("other", 5)]) (N := ["self", "row", "rows", "places", "at", "other"]) (sc := (defScope s_Log_drop)) (by decide +kernel)) (fun _ _ _ _ _ => (pgTupK K (n := 2) (pgs_cons (pgN 4 nd) (pgs_cons (pgN 5 nd) pgs_nil)))) (fun _ _ _ _ _ => pts_one (pt_cmpR (eqDK K (h64 hr)) (pv 5) (pv 1) (nomark _))) (fun _ _ _ _ _ => (pv 4)))
    (pss_cons (ps_if (pt_cmpR (eqDK K (h64 hr)) (pv 3) (pe_lst pa_nil) (nomark _)) (pss_one (ps_exc rfl (takes_of rfl rfl rfl rfl) V.NotThere rfl)) pss_nil)
    (pss_cons ps_never
    (pss_one ps_never)))))), ?_⟩
  show tSeq _ _ _ [some (.ref x), some row, none, none, none, none] H
  refine q_pass (b := !true) rfl (b_not (b_B (d_call (R := R_isrow) (z := .bool true) (a_cons (d_var rfl hrow) (a_cons (d_v (v_pr (v_fld (K := K) (v_var rfl) hx LC.c LC.given fldL_given) hpr (flds_columns 1 tr)) (.int _)) a_nil)) ⟨[I1 7], 1, rfl, by decide, cell_row [7], by rw [show rowOk [I1 7] 1 = true by decide +kernel]⟩))) eG fun G1 H1 g1 => ?_
  show tSeq _ _ _ [some (.ref x), some row, none, none, none, none] H1
  refine q_asg (m_listT (K := K) (d_v (v_pr (v_fld (K := K) (v_var (σ := [some (.ref x), some row, none, none, none, none]) (i := 0) rfl) (g1.g _ _ hx) LC.c LC.state fldL_state) (g1.g _ _ hps) (flds_kept 1 ts)) (hts.up g1.g))).toD g1.gh fun v2 G2 H2 g2 hv2 => ?_
  show tSeq _ _ _ [some (.ref x), some row, some v2, none, none, none] H2
  refine q_asg (m_lcE (K := K) (xs := ([] : List Nat)) (enc := I1) (fun _ => true) (fun _ => .none) (a_cons (d_var rfl hv2) a_nil) (by decide) (fun i x v G1 H1 hi => absurd hi (by simp))).toD g2.gh fun v3 G3 H3 g3 hv3 => ?_
  show tSeq _ _ _ [some (.ref x), some row, some v2, some v3, none, none] H3
  exact q_raise (b := PyData.eqv (.list []) (.list [])) (by decide +kernel) (b_test (d_op (d_var rfl hv3) (d_lst a_nil) (r_eq (by decide +kernel) (by decide +kernel)))) g3.gh fun G4 H4 g4 => (xr.up (((g1.trans g2).trans g3).trans g4)).now g4.gh
/-! ### calls whose parts are made on the way -/
theorem x_methP {σ : VSt} {G : Hp} {ta : TE} {t : TA} {C D : Addr} {m : Str} {E : XK} {pre : Hp → List V → Prop} {S : Hp → V → Prop} {R : Hp → List V → Prop} (h : EvP ta σ G S) (u : Up1 S) (hv : EvPs t σ G R) (hi : ∀ G v, S G v → ∃ a dx fs, v = .ref a ∧ G a = some (.ins C dx fs) ∧ fs.lookup m = none) (hp : ∀ G v vs, S G v → R G vs → pre G (v :: vs)) :
    EvX (tMeth C m (spX pre D) [] E ta t) σ G D E := fun G1 H1 e1 e2 xr Q =>
  h G1 H1 e1 e2 _ fun v G2 H2 g2 hs => by
    obtain ⟨a, dx, fs, rfl, ha, hl⟩ := hi _ _ hs
    refine ⟨a, dx, fs, rfl, g2.gh _ _ ha, hl, hv G2 H2 (e1.trans g2.g) g2.gh _ fun vs G3 H3 g3 hr => ?_⟩
    rw [List.append_nil]
    exact ⟨G3, g3.gh, hp G3 _ _ (u hs g3.g) hr, xr.up (g2.trans g3)⟩
theorem x_callP {X : Cx} {σ : VSt} {G : Hp} {tf : TE} {t : TA} {C D a dx : Addr} {fs : List (Str × V)} {E : XK} {pre : Hp → List V → Prop} {R : Hp → List V → Prop} (h : EvV tf σ G (.ref a)) (ha : G a = some (.ins C dx fs)) (hv : EvPs t σ G R) (hp : ∀ G' vs, Ex G G' → R G' vs → pre G' (.ref a :: vs)) :
    EvX (StX.tCallO X C (spX pre D) E tf t) σ G D E := fun G1 H1 e1 e2 xr Q =>
  h G1 H1 e1 e2 _ fun G2 H2 g2 => ⟨a, rfl, hv G2 H2 (e1.trans g2.g) g2.gh _ fun vs G3 H3 g3 hr =>
    ⟨.inr ⟨dx, fs, g3.gh _ _ (g3.g _ _ (g2.g _ _ (e1 _ _ ha)))⟩, G3, g3.gh, hp G3 vs ((e1.trans g2.g).trans g3.g) hr, xr.up (g2.trans g3)⟩⟩
theorem ps_one {σ : VSt} {G : Hp} {te : TE} {S : Hp → V → Prop} (h : EvP te σ G S) (u : Up1 S) : EvPs (tCons te tNil) σ G (fun G vs => ∃ v, vs = [v] ∧ S G v) := fun G1 H1 e1 e2 Q q => CL.ps_cons h u CL.ps_nil G1 H1 e1 e2 Q fun vs G2 H2 g ⟨v, r, e, hs, hr⟩ => q vs G2 H2 g ⟨v, by rw [e, hr], hs⟩
theorem p_dd {σ : VSt} {G : Hp} {te : TE} {d : PyData} (h : EvD te σ G d) : EvP te σ G (fun G v => DD G v d) := p_d h fun _ _ z => z
theorem tabP {σ : VSt} {G : Hp} {ta : TA} {n : Nat} {rows : List (List Nat)} (h : EvA ta σ G (I1 n :: rows.map RW)) (a : GoodT n rows) (b : 1 ≤ n) (c : n ≤ 6) : EvP (StX.tMakeR Y.aT (spStar 2 (spInitT Y.aT)) E0 ta) σ G (fun G v => TO Y.aT G v n (rows.map RW)) := fun G1 H1 e1 e2 Q q => make_tableV h a b c G1 H1 e1 e2 Q fun v G2 H2 g z => q v G2 H2 g (z.elim (fun x => absurd rfl x) id)
/-- a log, new: its object and its list may change -/
theorem make_log {C : Addr} {fs0 : List (Str × V)} {vs0 : List V} {SPI : Sp} {σ : VSt} {G : Hp} {ta : TA} {n : Nat} {ds : List PyData} (h : EvPs ta σ G (fun G vs => ∃ r, vs = r :: vs0 ∧ TO Z.aR G r n ds)) (hn1 : 1 ≤ n) (hn6 : n ≤ 6)
    (hE : ∀ (H : Hp) (Q : VK) (x dx : Addr) (r : V), H x = some (.ins C dx []) → ∀ G, Ex G H → G x = none → TO Z.aR G r n ds → (∀ (st : V) (p : Addr) (G2 H2 : Hp), Grow (fun a => a = x) G H G2 H2 → TO Y.aT G2 st n [] → H p = none → H2 p = some (.lst []) → G2 p = none → H2 x = some (.ins C dx (fldL fs0 r st p)) → G2 x = none → Q .non H2) → SPI (.ref x :: r :: vs0) H Q E0) :
    ∀ G1 H1, Ex G G1 → Ex G1 H1 → ∀ Q : VK, (∀ (x dx p : Addr) (r st : V) (G2 H2 : Hp), Grow M0 G1 H1 G2 H2 → H1 x = none → H1 p = none → x ≠ p → G2 x = none → G2 p = none → H2 x = some (.ins C dx (fldL fs0 r st p)) → H2 p = some (.lst []) → TO Z.aR G2 r n ds → TO Y.aT G2 st n [] → Q (.ref x) H2) → StX.tMakeR C SPI E0 ta σ H1 Q := fun G1 H1 e1 e2 Q q =>
  h G1 H1 e1 e2 _ fun vs G2 H2 g2 ⟨r, ev, hR⟩ x dx hx hdx hne => by
    subst ev
    have g4 : Grow M0 G1 H1 G2 (upd H2 dx (.own x)) := g2.trans (Grow.mnew g2.gh hdx)
    have hx4 : (upd H2 dx (.own x)) x = none := by rw [upd_ne (fun z => hne z.symm)]; exact hx
    have g5 : Grow M0 G1 H1 G2 (upd (upd H2 dx (.own x)) x (.ins C dx [])) := g4.trans (Grow.mnew g4.gh hx4)
    have hx1 : H1 x = none := g4.there x hx4
    refine hE _ _ x dx r upd_same G2 g5.gh (g4.gh.back hx4) hR fun st p G6 H6 g6 hst hp hp6 hGp hx6 hGx => ⟨rfl, ?_⟩
    exact q x dx p r st G6 H6 (g5.priv g6 hx1) hx1 (g5.there p hp) (fun z => by rw [← z, upd_same] at hp; cases hp) hGx hGp hx6 hp6 (hR.up g6.g) hst
/-- a log that stands still -/
structure LO (Z : Ads) (Y : AdY) (C : Addr) (fs0 : List (Str × V)) (n : Nat) (rs rows : List PyData) (past : List V) (G : Hp) (v : V) : Prop where
  ex : ∃ x dx r st p, v = .ref x ∧ G x = some (.ins C dx (fldL fs0 r st p)) ∧ TO Z.aR G r n rs ∧ TO Y.aT G st n rows ∧ G p = some (.lst past)
theorem LO.up {C : Addr} {fs0 : List (Str × V)} {n : Nat} {rs rows : List PyData} {past : List V} {G G' : Hp} {v : V} (h : LO Z Y C fs0 n rs rows past G v) (e : Ex G G') : LO Z Y C fs0 n rs rows past G' v := by
  obtain ⟨x, dx, r, st, p, a, b, c, d, f⟩ := h.ex
  exact ⟨x, dx, r, st, p, a, e _ _ b, c.up e, d.up e, e _ _ f⟩
/-- Log(..), then left alone -/
theorem p_log {C : Addr} {σ : VSt} {G : Hp} {ta : TA} {n : Nat} {ds : List PyData} (h : EvPs ta σ G (fun G vs => ∃ r, vs = [r] ∧ TO Z.aR G r n ds)) (hn1 : 1 ≤ n) (hn6 : n ≤ 6) : EvP (StX.tMakeR C (spInitL Z Y C []) E0 ta) σ G (LO Z Y C [] n ds [] []) := fun G1 H1 e1 e2 Q q =>
  make_log (Y := Y) (Z := Z) (C := C) (fs0 := []) (vs0 := []) (SPI := spInitL Z Y C []) (n := n) (ds := ds) h hn1 hn6 (fun H Q x dx r hx G eG hG hR k => ⟨G, x, dx, r, n, ds, rfl, eG, hG, hx, hR, hn1, hn6, k⟩) G1 H1 e1 e2 Q fun x dx p r st G2 H2 g hx1 hp1 nxp hGx hGp hx2 hp2 hR hst => by
    have g1 := g.freeze hx1 hGx hx2
    have g2 := g1.freeze hp1 (by rw [upd_ne (fun z => nxp z.symm)]; exact hGp) hp2
    have e : Ex G2 (upd (upd G2 x (.ins C dx (fldL [] r st p))) p (.lst [])) := (Ex.frz hGx).trans (Ex.frz (by rw [upd_ne (fun z => nxp z.symm)]; exact hGp))
    exact q (.ref x) _ H2 g2 ⟨x, dx, r, st, p, rfl, by rw [upd_ne nxp, upd_same], hR.up e, hst.up e, upd_same⟩
end
end CP
set_option Elab.async false
set_option linter.all false
set_option maxRecDepth 100000
set_option maxHeartbeats 4000000
set_option pp.maxSteps 900
set_option pp.deepTerms false
namespace CP
open PySem L2 CL CM
/-- what the kept lambdas of the logs call -/
structure PrL (P : Program) (w : World) (K : PySem.W.Frag) (mg : Str → Option Value) (base : Heap) (Z : Ads) (Y : AdY) : Prop where
  lAdd : MeOk P w K mg base (L2.CX P w) Y.aL "add" 5 (spX (P_badrow Z Y.aL) (Y.ex 2))
  lCall : CaOk P w K mg base (L2.CX P w) Y.aL 6 (spX (P_badrow Z Y.aL) (Y.ex 2))
  lDrop : MeOk P w K mg base (L2.CX P w) Y.aL "drop" 5 (spX (P_badrow Z Y.aL) (Y.ex 2))
  lAs8 : MeOk P w K mg base (L2.CX P w) Y.aL "assign_table" 7 (spX (P_assign Y.aL P_set8) (Y.ex 8))
  lAs10 : MeOk P w K mg base (L2.CX P w) Y.aL "assign_table" 7 (spX (P_assign Y.aL (P_set10 Z Y Y.aL)) (Y.ex 10))
  hAdd : MeOk P w K mg base (L2.CX P w) Y.aH "add" 5 (spX (P_nofit Z Y Y.aH fsH (7, 8)) (Y.ex 11))
  lDropT : MeOk P w K mg base (L2.CX P w) Y.aL "drop" 5 (spX (P_nothere Z Y Y.aL) (Y.ex 12))
  sAdd : MeOk P w K mg base (L2.CX P w) Y.aS "add" 5 (spX (P_nofit Z Y Y.aS [] (5, 7)) (Y.ex 13))
  sAs13 : MeOk P w K mg base (L2.CX P w) Y.aS "assign_table" 7 (spX (P_assign Y.aS (P_set13 Z Y Y.aS [] (1, 1) (1, 2))) (Y.ex 13))
  lUndo : MeOk P w K mg base (L2.CX P w) Y.aL "undo" 1 (spX (P_undo Y.aL) (Y.ex 14))
  kT : MkOk P w K mg base CX0 Y.aT 6 (spStar 2 (spInitT Y.aT))
  kR : MkOk P w K mg base CX0 Z.aR 6 (spInitS Z.aR)
  kL : MkOk P w K mg base CX0 Y.aL 8 (spInitL Z Y Y.aL [])
section
variable {P : Program} {w : World} {K : PySem.W.Frag} {mg : Str → Option Value} {base : Heap} {Z : Ads} {Y : AdY}
theorem no_f {m : Str} {fs0 : List (Str × V)} {r st : V} {p : Addr} (h : Fs0 fs0) (h1 : ¬ m = "past" := by decide +kernel) (h2 : ¬ m = "state" := by decide +kernel) (h3 : ¬ m = "given" := by decide +kernel) (h4 : ¬ m = "limit" := by decide +kernel) : (fldL fs0 r st p).lookup m = none := h.none h1 h2 h3 h4
theorem f0 : Fs0 [] := Or.inl rfl
theorem fH : Fs0 fsH := Or.inr rfl
theorem ll0 {G : Hp} {vL : V} {o : V} {t : String} (T : Txt Z K mg) (U : TxtU Z Y K mg) (W : TxtW Z Y K) (X : PrL P w K mg base Z Y) (hL : LO Z Y Y.aL [] 2 twoRs [] [] G vL) (ho : Odd G o t) : LBody P w K mg base Y 12 2 ["_law_log", "_law_odd"] [vL, o] G (lamAt s_law_of_logs 3) := by
  intro F f hs A outer s H0 E hr
  obtain ⟨nm, q, ps, bd, sc, cl, c⟩ := F
  subst hs
  have X_m := X.lAdd
  obtain ⟨x, dx, r, st, p, e0, hx, hR, hst, hp⟩ := id hL.ex
  subst e0
  exact ⟨_, (pe_meK (pl := _) (pv 0) W.c_Log X_m (hr.mono (by decide)) (passB (takes_of rfl rfl rfl rfl)) (pa_cons (pv 1) pa_nil)), x_meth (v_var rfl) hx (no_f f0) (w_cons (v_var rfl) w_nil) fun G' e => ⟨x, dx, _, r, o, twoRs, rfl, e _ _ hx, fldL_given, no_f f0, hR.up e, .inl ⟨t, ho.up e⟩⟩⟩
theorem ll1 {G : Hp} {vL : V} (T : Txt Z K mg) (U : TxtU Z Y K mg) (W : TxtW Z Y K) (X : PrL P w K mg base Z Y) (hL : LO Z Y Y.aL [] 2 twoRs [] [] G vL) : LBody P w K mg base Y 12 2 ["_law_log"] [vL] G (lamAt s_law_of_logs 4) := by
  intro F f hs A outer s H0 E hr
  obtain ⟨nm, q, ps, bd, sc, cl, c⟩ := F
  subst hs
  have X_c := X.lCall
  obtain ⟨x, dx, r, st, p, e0, hx, hR, hst, hp⟩ := id hL.ex
  subst e0
  exact ⟨_, (pe_caK (pv 0) X_c (hr.mono (by decide)) (passB (takes_of rfl rfl rfl rfl)) (pa_cons (pe_tup (pa_cons pe_int (pa_cons pe_int (pa_cons pe_int pa_nil)))) pa_nil)), x_callP (v_var rfl) hx (ps_one (p_dd (d_tup (a_cons d_int (a_cons d_int (a_cons d_int a_nil))))) (fun h e => h.up e)) fun G' vs e ⟨v, ev, hv⟩ => ⟨x, dx, _, r, v, twoRs, by rw [ev], e _ _ hx, fldL_given, no_f f0, hR.up e, .inr hv⟩⟩
theorem ll2 {G : Hp} {vL : V} {o : V} {t : String} (T : Txt Z K mg) (U : TxtU Z Y K mg) (W : TxtW Z Y K) (X : PrL P w K mg base Z Y) (hL : LO Z Y Y.aL [] 2 twoRs [] [] G vL) (ho : Odd G o t) : LBody P w K mg base Y 12 2 ["_law_log", "_law_odd"] [vL, o] G (lamAt s_law_of_logs 5) := by
  intro F f hs A outer s H0 E hr
  obtain ⟨nm, q, ps, bd, sc, cl, c⟩ := F
  subst hs
  have X_m := X.lDrop
  obtain ⟨x, dx, r, st, p, e0, hx, hR, hst, hp⟩ := id hL.ex
  subst e0
  exact ⟨_, (pe_meK (pl := _) (pv 0) W.c_Log X_m (hr.mono (by decide)) (passB (takes_of rfl rfl rfl rfl)) (pa_cons (pv 1) pa_nil)), x_meth (v_var rfl) hx (no_f f0) (w_cons (v_var rfl) w_nil) fun G' e => ⟨x, dx, _, r, o, twoRs, rfl, e _ _ hx, fldL_given, no_f f0, hR.up e, .inl ⟨t, ho.up e⟩⟩⟩
theorem ll3 {G : Hp} {vL : V} {o : V} {t : String} (T : Txt Z K mg) (U : TxtU Z Y K mg) (W : TxtW Z Y K) (X : PrL P w K mg base Z Y) (hL : LO Z Y Y.aL [] 2 twoRs [] [] G vL) (ho : Odd G o t) : LBody P w K mg base Y 12 8 ["_law_log", "_law_odd"] [vL, o] G (lamAt s_law_of_logs 6) := by
  intro F f hs A outer s H0 E hr
  obtain ⟨nm, q, ps, bd, sc, cl, c⟩ := F
  subst hs
  have X_m := X.lAs8
  obtain ⟨x, dx, r, st, p, e0, hx, hR, hst, hp⟩ := id hL.ex
  subst e0
  exact ⟨_, (pe_meK (pl := _) (pv 0) W.c_Log X_m (hr.mono (by decide)) (passB (takes_of rfl rfl rfl rfl)) (pa_cons (pv 1) pa_nil)), x_meth (v_var rfl) hx (no_f f0) (w_cons (v_var rfl) w_nil) fun G' e => ⟨x, dx, _, o, rfl, e _ _ hx, .ref x, o, t, rfl, ho.up e⟩⟩
theorem ll4 {G : Hp} {vL : V} (T : Txt Z K mg) (U : TxtU Z Y K mg) (W : TxtW Z Y K) (X : PrL P w K mg base Z Y) (hL : LO Z Y Y.aL [] 2 twoRs [] [] G vL) : LBody P w K mg base Y 12 10 ["_law_log"] [vL] G (lamAt s_law_of_logs 7) := by
  intro F f hs A outer s H0 E hr
  obtain ⟨nm, q, ps, bd, sc, cl, c⟩ := F
  subst hs
  have X_m := X.lAs10
  have K_T := X.kT
  exact ⟨_, (pe_meK (pl := _) (pv 0) W.c_Log X_m (hr.mono (by decide)) (passB (takes_of rfl rfl rfl rfl)) (pa_cons (pe_mkK K_T (hr.mono (by decide)) rfl U.k_Table pass0 (pa_cons pe_int (pa_cons (pe_tup (pa_cons pe_int (pa_cons pe_int (pa_cons pe_int pa_nil)))) pa_nil))) pa_nil)), x_methP (p_v (v_var rfl) fun G' e => hL.up e) (fun h e => h.up e) (ps_one (tabP (rows := [[1, 2, 100]]) (n := 3) (a_cons d_int (a_cons (d_tup (a_cons d_int (a_cons d_int (a_cons d_int a_nil)))) a_nil)) ⟨by decide, fun r hr => by
    simp only [List.mem_cons, List.not_mem_nil, or_false] at hr
    rcases hr with rfl <;> exact ⟨by decide, by decide, by decide⟩⟩ (by decide) (by decide)) (fun h e => h.up e)) (fun G v h => by obtain ⟨x, dx, r, st, p, e0, hx, _⟩ := h.ex; exact ⟨x, dx, _, e0, hx, no_f f0⟩) fun G v vs h ⟨u, ev, hu⟩ => by
    obtain ⟨x, dx, r, st, p, e0, hx, hR, _⟩ := h.ex
    subst e0 ev
    exact ⟨x, dx, _, u, rfl, hx, x, dx, _, r, u, twoRs, _, rfl, hx, fldL_given, hR, hu⟩⟩
theorem ll5 {G : Hp} {vH : V} {pH : List V} (T : Txt Z K mg) (U : TxtU Z Y K mg) (W : TxtW Z Y K) (X : PrL P w K mg base Z Y) (hH : LO Z Y Y.aH fsH 2 twoRs [row56] pH G vH) : LBody P w K mg base Y 12 11 ["_law_short"] [vH] G (lamAt s_law_of_logs 8) := by
  intro F f hs A outer s H0 E hr
  obtain ⟨nm, q, ps, bd, sc, cl, c⟩ := F
  subst hs
  have X_m := X.hAdd
  exact ⟨_, (pe_meK (pl := _) (pv 0) W.c_Short X_m (hr.mono (by decide)) (passB (takes_of rfl rfl rfl rfl)) (pa_cons (pe_tup (pa_cons pe_int (pa_cons pe_int pa_nil))) pa_nil)), x_methP (p_v (v_var rfl) fun G' e => hH.up e) (fun h e => h.up e) (ps_one (p_dd (d_tup (a_cons d_int (a_cons d_int a_nil)))) (fun h e => h.up e)) (fun G v h => by obtain ⟨x, dx, r, st, p, e0, hx, _⟩ := h.ex; exact ⟨x, dx, _, e0, hx, no_f fH⟩) fun G v vs h ⟨u, ev, hu⟩ => by
    obtain ⟨x, dx, r, st, p, e0, hx, hR, hst, _⟩ := h.ex
    subst e0 ev
    exact ⟨x, dx, p, r, st, u, rfl, hx, hR, hst, hu⟩⟩
theorem ll6 {G : Hp}  (T : Txt Z K mg) (U : TxtU Z Y K mg) (W : TxtW Z Y K) (X : PrL P w K mg base Z Y)  : LBody P w K mg base Y 12 12 [] [] G (lamAt s_law_of_logs 9) := by
  intro F f hs A outer s H0 E hr
  obtain ⟨nm, q, ps, bd, sc, cl, c⟩ := F
  subst hs
  have X_m := X.lDropT
  have K_L := X.kL
  have K_R := X.kR
  exact ⟨_, (pe_meK (pl := _) (pe_mkK K_L (hr.mono (by decide)) rfl U.k_Log pass0 (pa_cons (pe_mkK K_R (hr.mono (by decide)) rfl U.k_Rules pass0 (pa_cons pe_int pa_nil)) pa_nil)) W.c_Log X_m (hr.mono (by decide)) (passB (takes_of rfl rfl rfl rfl)) (pa_cons (pe_tup (pa_cons pe_int pa_nil)) pa_nil)), x_methP (p_log (n := 1) (ds := []) (fun G1 H1 e1 e2 Q q => (ps_one (make_rulesV (rs := []) (n := 1) (a_cons d_int a_nil) ⟨by decide, (fun r hr => by cases hr), List.Pairwise.nil⟩ (by decide) (by decide)) (fun h e => h.up e)) G1 H1 e1 e2 Q q) (by decide) (by decide)) (fun h e => h.up e) (ps_one (p_dd (d_tup (a_cons d_int a_nil))) (fun h e => h.up e)) (fun G v h => by obtain ⟨x, dx, r, st, p, e0, hx, _⟩ := h.ex; exact ⟨x, dx, _, e0, hx, no_f f0⟩) fun G v vs h ⟨u, ev, hu⟩ => by
    obtain ⟨x, dx, r, st, p, e0, hx, hR, hst, _⟩ := h.ex
    subst e0 ev
    exact ⟨x, dx, p, [], r, st, u, rfl, hx, hR, hst, hu⟩⟩
theorem ll7 {G : Hp} {vS : V} {pS : List V} (T : Txt Z K mg) (U : TxtU Z Y K mg) (W : TxtW Z Y K) (X : PrL P w K mg base Z Y) (hS : LO Z Y Y.aS [] 2 twoRs [row56] pS G vS) : LBody P w K mg base Y 12 13 ["_law_strict"] [vS] G (lamAt s_law_of_logs 10) := by
  intro F f hs A outer s H0 E hr
  obtain ⟨nm, q, ps, bd, sc, cl, c⟩ := F
  subst hs
  have X_m := X.sAdd
  exact ⟨_, (pe_meK (pl := _) (pv 0) W.c_Strict X_m (hr.mono (by decide)) (passB (takes_of rfl rfl rfl rfl)) (pa_cons (pe_tup (pa_cons pe_int (pa_cons pe_int pa_nil))) pa_nil)), x_methP (p_v (v_var rfl) fun G' e => hS.up e) (fun h e => h.up e) (ps_one (p_dd (d_tup (a_cons d_int (a_cons d_int a_nil)))) (fun h e => h.up e)) (fun G v h => by obtain ⟨x, dx, r, st, p, e0, hx, _⟩ := h.ex; exact ⟨x, dx, _, e0, hx, no_f f0⟩) fun G v vs h ⟨u, ev, hu⟩ => by
    obtain ⟨x, dx, r, st, p, e0, hx, hR, hst, _⟩ := h.ex
    subst e0 ev
    exact ⟨x, dx, p, r, st, u, rfl, hx, hR, hst, hu⟩⟩
theorem ll8 {G : Hp} {vS : V} {pS : List V} (T : Txt Z K mg) (U : TxtU Z Y K mg) (W : TxtW Z Y K) (X : PrL P w K mg base Z Y) (hS : LO Z Y Y.aS [] 2 twoRs [row56] pS G vS) : LBody P w K mg base Y 12 13 ["_law_strict"] [vS] G (lamAt s_law_of_logs 11) := by
  intro F f hs A outer s H0 E hr
  obtain ⟨nm, q, ps, bd, sc, cl, c⟩ := F
  subst hs
  have X_m := X.sAs13
  have K_T := X.kT
  exact ⟨_, (pe_meK (pl := _) (pv 0) W.c_Strict X_m (hr.mono (by decide)) (passB (takes_of rfl rfl rfl rfl)) (pa_cons (pe_mkK K_T (hr.mono (by decide)) rfl U.k_Table pass0 (pa_cons pe_int (pa_cons (pe_tup (pa_cons pe_int (pa_cons pe_int pa_nil))) (pa_cons (pe_tup (pa_cons pe_int (pa_cons pe_int pa_nil))) pa_nil)))) pa_nil)), x_methP (p_v (v_var rfl) fun G' e => hS.up e) (fun h e => h.up e) (ps_one (tabP (rows := [[1, 1], [1, 2]]) (n := 2) (a_cons d_int (a_cons (d_tup (a_cons d_int (a_cons d_int a_nil))) (a_cons (d_tup (a_cons d_int (a_cons d_int a_nil))) a_nil))) ⟨by decide, fun r hr => by
    simp only [List.mem_cons, List.not_mem_nil, or_false] at hr
    rcases hr with rfl | rfl <;> exact ⟨by decide, by decide, by decide⟩⟩ (by decide) (by decide)) (fun h e => h.up e)) (fun G v h => by obtain ⟨x, dx, r, st, p, e0, hx, _⟩ := h.ex; exact ⟨x, dx, _, e0, hx, no_f f0⟩) fun G v vs h ⟨u, ev, hu⟩ => by
    obtain ⟨x, dx, r, st, p, e0, hx, hR, _⟩ := h.ex
    subst e0 ev
    exact ⟨x, dx, _, u, rfl, hx, x, dx, p, r, st, u, rfl, hx, hR, hu⟩⟩
theorem ll9 {G : Hp} {vL : V} (T : Txt Z K mg) (U : TxtU Z Y K mg) (W : TxtW Z Y K) (X : PrL P w K mg base Z Y) (hL : LO Z Y Y.aL [] 2 twoRs [] [] G vL) : LBody P w K mg base Y 12 14 ["_law_log"] [vL] G (lamAt s_law_of_logs 12) := by
  intro F f hs A outer s H0 E hr
  obtain ⟨nm, q, ps, bd, sc, cl, c⟩ := F
  subst hs
  have X_m := X.lUndo
  obtain ⟨x, dx, r, st, p, e0, hx, hR, hst, hp⟩ := id hL.ex
  subst e0
  exact ⟨_, (pe_meK0 (pl := _) (pv 0) W.c_Log X_m (hr.mono (by decide)) (passB (takes_of rfl rfl rfl rfl))), x_meth (v_var rfl) hx (no_f f0) w_nil fun G' e => ⟨x, dx, p, _, rfl, e _ _ hx, fldL_past, e _ _ hp⟩⟩
end
end CP
set_option Elab.async false
set_option linter.all false
set_option maxRecDepth 100000
set_option maxHeartbeats 40000000
set_option pp.maxSteps 900
set_option pp.deepTerms false
namespace CP
open PySem L2 CL CM
/-- X, as far as it is new or in G -/
noncomputable def newG (G H X : Hp) : Hp := fun b => @ite _ (G b ≠ none ∨ H b = none) (Classical.propDecidable _) (X b) none
section
variable {G H X X' : Hp}
theorem newG_at {b : Addr} (h : G b ≠ none ∨ H b = none) : newG G H X b = X b := if_pos h
theorem newG_some {b : Addr} {o : HO} (h : newG G H X b = some o) : (G b ≠ none ∨ H b = none) ∧ X b = some o := by
  by_cases c : G b ≠ none ∨ H b = none
  · rw [newG_at c] at h
    exact ⟨c, h⟩
  · have e : newG G H X b = none := if_neg c
    rw [e] at h; cases h
theorem newG_ex : Ex (newG G H X) X := fun b o h => (newG_some h).2
theorem newG_up (e : Ex G X) : Ex G (newG G H X) := fun b o h => (newG_at (.inl (by rw [h]; exact fun z => nomatch z))).trans (e b o h)
theorem newG_of {M : Addr → Prop} {G2 H2 : Hp} (g : Grow M G H G2 H2) (e : Ex G2 X) : Ex G2 (newG G H X) := fun b o h => by
  refine (newG_at ?_).trans (e b o h)
  by_cases z1 : H b = none
  · exact .inr z1
  · refine .inl fun z2 => ?_
    rw [g.new b z1 z2] at h
    cases h
theorem newG_sub (e : Ex (newG G H X) X') : Ex (newG G H X) (newG G H X') := fun b o h => (newG_at (newG_some h).1).trans (e b o h)
theorem newG_new {a : Addr} (h1 : H a ≠ none) (h2 : G a = none) : newG G H X a = none := if_neg fun z => z.elim (fun z => z h2) h1
theorem newG_none {a : Addr} (h : X a = none) : newG G H X a = none := by
  cases z : newG G H X a with
  | none => rfl
  | some o => rw [newG_ex _ _ z] at h; cases h
theorem newG_fresh {a : Addr} {o : HO} (h : X a = some o) (h2 : H a = none) : newG G H X a = some o := (newG_at (.inr h2)).trans h
theorem newG_plain {T : List (Addr × Str)} {b : Addr} {o : HO} (hT : LamX.Tabs T X) (hf : ∀ b o, H b = some o → (∀ ps, o ≠ .tbl ps) → (∀ xs, o ≠ .lst xs) → G b = some o) (kp : KeptT T H X) (h : X b = some o) (n1 : ∀ ps, o ≠ .tbl ps) (n2 : ∀ xs, o ≠ .lst xs) : newG G H X b = some o := by
  refine (newG_at ?_).trans h
  cases z : H b with
  | none => exact .inr rfl
  | some o' =>
    have nb := tab_ne hT h n1
    have e := kp.keep b o' z nb
    rw [h] at e
    cases e
    exact .inl (by rw [hf b o z n1 n2]; exact fun z => nomatch z)
end
section
variable {P : Program} {w : World} {K : PySem.W.Frag} {mg : Str → Option Value} {base : Heap} {Z : Ads} {Y : AdY}
theorem lst1_go {σ : VSt} {H : Hp} {te : TE} {Q : VK} (h : te σ H fun x H1 => 1 ≤ sizeLine ∧ ∀ p, H1 p = none → Q (.ref p) (upd H1 p (.lst [x]))) : tLst (tCons te tNil) σ H Q := h
theorem tup3_go {σ : VSt} {H : Hp} {ta tb tc : TE} {Q : VK} (h : ta σ H fun x H1 => tb σ H1 fun y H2 => tc σ H2 fun z H3 => 3 ≤ sizeLine ∧ ∀ p, H3 p = none → Q (.ref p) (upd H3 p (.tup [x, y, z]))) : tTup (tCons ta (tCons tb (tCons tc tNil))) σ H Q := h
/-- l + [(lambda, n)] -/
theorem LS.last {σ : VSt} {G H0 H : Hp} {T : List (Addr × Str)} {PT l : Addr} {q : Str} {cells : List (Str × Addr)} {ALL : List (LamX3 × Nat)} {L : LamX3} {m n i : Nat} {mk : Addr → NdefX.NF} {Q : VK} (h : LS T G H0 H l cells q ALL m) (hz : ALL.length < 1000) (ha : ALL[m]? = some (L, n)) (hmk : ∀ c', mk c' = ⟨"<lambda>", q, L.1, [], L.2.2, cloFrom cells L.2.2.names [], c'⟩) (hi : σ[i]? = some (some (.ref l))) (hP : ∃ q, (PT, q) ∈ T) (gT : ∀ p ∈ T, G p.1 = none)
    (k : ∀ p vs H2, LamX.Tabs T H2 → H2 p = some (.lst vs) → Ents cells q H2 vs (ALL.take (m + 1)) → Ex G H2 → KeptT T H0 H2 → H0 p = none → Q (.ref p) H2) :
    tOp rCat (tVar i) (tLst (tCons (tTup (tCons (LM.tLamK PT T mk L.2.1) (tCons (tC (.int (n : Int))) tNil))) tNil)) σ H Q := by
  obtain ⟨vs, hl, he⟩ := h.lst
  obtain ⟨q', hm⟩ := hP
  obtain ⟨ps, hps, _⟩ := id (h.tabs _ hm)
  have hlen := paired_len he
  rw [List.length_take] at hlen
  have nlP : l ≠ PT := fun z => by rw [z, hps] at hl; cases hl
  refine ⟨.ref l, hi, lst1_go ?_⟩
  refine e_pair hmk h.tabs ⟨q', hm⟩ fun t H1 e1 t1 nt h1 => ⟨(by show 1 ≤ sizeLine; decide), fun l2 hl2 => ?_⟩
  have hl1 : H1 l = some (.lst vs) := e1 l _ hl nlP
  have up : ∀ {b o u}, H1 b = some o → upd H1 l2 u b = some o := fun {b o u} z => (upd_ne (ne_of_none z hl2)).trans z
  refine ⟨l, l2, vs, [.ref t], rfl, rfl, up hl1, upd_same, Evl.sz_of (by rw [List.length_singleton]; omega), fun p hp => ?_⟩
  have up2 : ∀ {b o u}, H1 b = some o → upd (upd H1 l2 (.lst [.ref t])) p u b = some o := fun {b o u} z => (upd_ne (ne_of_none (up z) hp)).trans (up z)
  have back : ∀ {a}, H1 a = none → H a = none := fun {a} z => by
    cases w : H a with
    | none => rfl
    | some o =>
      by_cases hb : a = PT
      · obtain ⟨ps1, hp1, _⟩ := t1 _ hm
        rw [hb, hp1] at z; cases z
      · rw [e1 a o w hb] at z; cases z
  have back2 : ∀ {a u}, upd (upd H1 l2 (.lst [.ref t])) p u a = none → H1 a = none := fun {a u} z => by
    cases w : H1 a with
    | none => rfl
    | some o => rw [up2 w] at z; cases z
  have hp1 : H1 p = none := by
    cases w : H1 p with
    | none => rfl
    | some o => rw [up w] at hp; cases hp
  refine k p (vs ++ [.ref t]) _ (t1.ext fun b o z => up2 z) upd_same ?_ (fun b o z => up2 (e1 b o (h.eG b o z) fun y => by rw [y, gT _ hm] at z; cases z)) ⟨fun b o z nb => up2 (e1 b o (h.kept.keep b o z nb) (nb _ hm)), fun a z => h.kept.there a (back (back2 z))⟩ (h.kept.there p (back hp1))
  have e : ALL.take (m + 1) = ALL.take m ++ [(L, n)] := by rw [List.take_add_one, ha]; rfl
  rw [e]
  exact ((he.keep fun b o z n1 n2 => e1 b o z fun y => by
    rw [y, hps] at z
    exact n1 ps (Option.some.inj z).symm).snoc h1).keep fun b o z _ _ => up2 z
def logsL : List (LamX3 × Nat) := [(lamAt s_law_of_logs 3, 2), (lamAt s_law_of_logs 4, 2), (lamAt s_law_of_logs 5, 2), (lamAt s_law_of_logs 6, 8), (lamAt s_law_of_logs 7, 10), (lamAt s_law_of_logs 8, 11), (lamAt s_law_of_logs 9, 12), (lamAt s_law_of_logs 10, 13), (lamAt s_law_of_logs 11, 13), (lamAt s_law_of_logs 12, 14)]
theorem sc_law_of_logs : FnScope ["_law_odd", "_law_two", "_law_log", "_law_strict", "_law_short", "_law_found"] ["_law_odd", "_law_two"] (defScope s_law_of_logs) := ⟨rfl, rfl, rfl, by decide +kernel, rfl, by decide +kernel, by decide +kernel⟩
abbrev frL : List Str := ["_law_odd", "_law_log", "_law_strict", "_law_short"]
-- N = ["_law_odd", "_law_two", "_law_log", "_law_strict", "_law_short", "_law_found"]
theorem ok_law_of_logs {f c PT : Addr} {fd : FuncData} {TB0 : List (Addr × Str)} (M : FunM K base mg "_law_of_logs" "_law_of_logs" s_law_of_logs f fd c PT) (Tt : Txt Z K mg) (U : TxtU Z Y K mg) (W : TxtW Z Y K) (X : PrL P w K mg base Z Y) (K_L : MkOk P w K mg base CX0 Y.aL 8 (spInitL Z Y Y.aL [])) (K_S : MkOk P w K mg base CX0 Y.aS 8 (spInitL Z Y Y.aS [])) (K_H : MkOk P w K mg base CX0 Y.aH 9 (spInitH Z Y))
    (M_sadd : MeOk P w K mg base CX0 Y.aS "add" 8 (spAdd Z Y Y.aS [])) (C_short : CaOk P w K mg base CX0 Y.aH 9 (spAdd Z Y Y.aH fsH))
    (hmT : (PT, (("_law_of_logs" : Str) ++ ".<locals>.") ++ "<lambda>") ∈ TB0) (huT : ∀ p ∈ TB0, p.1 = PT → p.2 = (("_law_of_logs" : Str) ++ ".<locals>.") ++ "<lambda>") : FnOk P w K mg base CX0 13 f fd ["_law_odd", "_law_two"] (spLogs Z Y P w K mg base TB0) := by
  obtain ⟨oc, od, kV, doc, pm, an, ct, osl, rfl, lk, hcd⟩ := M.ex
  refine LM.fn_maker (k := 12) (fr := frL) (js := [0, 2, 3, 4]) lk hcd sc_law_of_logs (fun vs H Q E ⟨G, o, v2, t, e, _⟩ => by rw [e]; rfl) (by decide +kernel) (by decide) rfl (fun A outer s H vs Q E hr h => ?_)
  obtain ⟨G, o, v2, t, rfl, eG, ho, h2, hT, gT, hfull, k⟩ := h
  have nd := sc_law_of_logs.nd
  have TB := M.tb
  have T := Tt
  refine ⟨_, (LM.pssC_cons (ps_asg (pe_tup (pa_cons (pe_mkK K_L (hr.mono (by decide)) rfl U.k_Log pass0 (pa_cons (pv 1) pa_nil)) (pa_cons (pe_mkK K_S (hr.mono (by decide)) rfl U.k_Strict pass0 (pa_cons (pv 1) pa_nil)) (pa_cons (pe_mkK K_H (hr.mono (by decide)) rfl U.k_Short pass0 (pa_cons (pv 1) (pa_cons pe_int pa_nil))) pa_nil)))) (pgTupK K (n := 3) (pgs_cons (pgN 2 nd) (pgs_cons (pgN 3 nd) (pgs_cons (pgN 4 nd) pgs_nil)))))
    (LM.pssC_cons (ps_expr (pe_meK (pl := _) (pv 3) W.c_Strict M_sadd (hr.mono (by decide)) pass0 (pa_cons (pe_tup (pa_cons pe_int (pa_cons pe_int pa_nil))) pa_nil)))
    (LM.pssC_cons (ps_expr (pe_caK (pv 4) C_short (hr.mono (by decide)) pass0 (pa_cons (pe_tup (pa_cons pe_int (pa_cons pe_int pa_nil))) pa_nil)))
    (LM.pssC_cons (ps_set (i := 5) nd rfl (by first | exact Or.inl rfl | exact Or.inr rfl) (pe_lst (pa_cons (pe_tup (pa_cons (LM.pe_lamK TB rfl hmT huT (hfree_by (own := (defScope s_law_of_logs)) (by decide +kernel))) (pa_cons pe_int pa_nil))) pa_nil)))
    (LM.pssC_cons (ps_expr (pe_bm PySem.F.plainAttrs_list PySem.F.slot_list_append PySem.F.type_list_append mt_append (pv 5) (pa_cons (pe_tup (pa_cons (LM.pe_lamK TB rfl hmT huT (hfree_by (own := (defScope s_law_of_logs)) (by decide +kernel))) (pa_cons pe_int pa_nil))) pa_nil)))
    (LM.pssC_cons (ps_expr (pe_bm PySem.F.plainAttrs_list PySem.F.slot_list_append PySem.F.type_list_append mt_append (pv 5) (pa_cons (pe_tup (pa_cons (LM.pe_lamK TB rfl hmT huT (hfree_by (own := (defScope s_law_of_logs)) (by decide +kernel))) (pa_cons pe_int pa_nil))) pa_nil)))
    (LM.pssC_cons (ps_expr (pe_bm PySem.F.plainAttrs_list PySem.F.slot_list_append PySem.F.type_list_append mt_append (pv 5) (pa_cons (pe_tup (pa_cons (LM.pe_lamK TB rfl hmT huT (hfree_by (own := (defScope s_law_of_logs)) (by decide +kernel))) (pa_cons pe_int pa_nil))) pa_nil)))
    (LM.pssC_cons (ps_expr (pe_bm PySem.F.plainAttrs_list PySem.F.slot_list_append PySem.F.type_list_append mt_append (pv 5) (pa_cons (pe_tup (pa_cons (LM.pe_lamK TB rfl hmT huT (hfree_by (own := (defScope s_law_of_logs)) (by decide +kernel))) (pa_cons pe_int pa_nil))) pa_nil)))
    (LM.pssC_cons (ps_expr (pe_bm PySem.F.plainAttrs_list PySem.F.slot_list_append PySem.F.type_list_append mt_append (pv 5) (pa_cons (pe_tup (pa_cons (LM.pe_lamK TB rfl hmT huT (hfree_by (own := (defScope s_law_of_logs)) (by decide +kernel))) (pa_cons pe_int pa_nil))) pa_nil)))
    (LM.pssC_cons (ps_expr (pe_bm PySem.F.plainAttrs_list PySem.F.slot_list_append PySem.F.type_list_append mt_append (pv 5) (pa_cons (pe_tup (pa_cons (LM.pe_lamK TB rfl hmT huT (hfree_by (own := (defScope s_law_of_logs)) (by decide +kernel))) (pa_cons pe_int pa_nil))) pa_nil)))
    (LM.pssC_cons (ps_expr (pe_bm PySem.F.plainAttrs_list PySem.F.slot_list_append PySem.F.type_list_append mt_append (pv 5) (pa_cons (pe_tup (pa_cons (LM.pe_lamK TB rfl hmT huT (hfree_by (own := (defScope s_law_of_logs)) (by decide +kernel))) (pa_cons pe_int pa_nil))) pa_nil)))
    (LM.pssC_cons (ps_expr (pe_bm PySem.F.plainAttrs_list PySem.F.slot_list_append PySem.F.type_list_append mt_append (pv 5) (pa_cons (pe_tup (pa_cons (LM.pe_lamK TB rfl hmT huT (hfree_by (own := (defScope s_law_of_logs)) (by decide +kernel))) (pa_cons pe_int pa_nil))) pa_nil)))
    (LM.pssC_ret (pe_op op_cat (pv 5) (pe_lst (pa_cons (pe_tup (pa_cons (LM.pe_lamK TB rfl hmT huT (hfree_by (own := (defScope s_law_of_logs)) (by decide +kernel))) (pa_cons pe_int pa_nil))) pa_nil)))))))))))))))), ?_⟩
  show LM.tSeqC _ _ _ [some o, some v2, none, none, none, none] H
  refine c_asgG (tup3_go ?_)
  have one : ∀ {G' : Hp}, Ex G G' → EvPs (tCons (tVar 1) tNil) [some o, some v2, none, none, none, none] G' (fun G vs => ∃ r, vs = r :: [] ∧ TO Z.aR G r 2 twoRs) := fun e => ps_one (p_v (v_var rfl) fun G' e2 => h2.up (e.trans e2)) (fun h e => h.up e)
  have two : ∀ {G' : Hp}, Ex G G' → EvPs (tCons (tVar 1) (tCons (tC (.int 1)) tNil)) [some o, some v2, none, none, none, none] G' (fun G vs => ∃ r, vs = r :: [.int 1] ∧ TO Z.aR G r 2 twoRs) := fun e G1 H1 e1 e2 Q q => (w_cons (v_var rfl) (w_cons v_c w_nil)) G1 H1 (Ex.refl _) e2 Q fun G2 H2 g => q _ G2 H2 g ⟨v2, rfl, h2.up ((e.trans e1).trans g.g)⟩
  refine make_log (Y := Y) (Z := Z) (C := Y.aL) (fs0 := []) (vs0 := []) (SPI := spInitL Z Y Y.aL []) (n := 2) (ds := twoRs) (one (Ex.refl _)) (by decide) (by decide) (fun H Q x dx r hx G eG hG hR k => ⟨G, x, dx, r, 2, twoRs, rfl, eG, hG, hx, hR, by decide, by decide, k⟩) G H (Ex.refl _) eG _ fun xL dL pL rL sL G1 H1 g1 hxL0 hpL0 nL gxL gpL hxL hpL hrL hsL => ?_
  refine make_log (Y := Y) (Z := Z) (C := Y.aS) (fs0 := []) (vs0 := []) (SPI := spInitL Z Y Y.aS []) (n := 2) (ds := twoRs) (one g1.g) (by decide) (by decide) (fun H Q x dx r hx G eG hG hR k => ⟨G, x, dx, r, 2, twoRs, rfl, eG, hG, hx, hR, by decide, by decide, k⟩) G1 H1 (Ex.refl _) g1.gh _ fun xS dS pS rS sS G2 H2 g2 hxS0 hpS0 nS gxS gpS hxS hpS hrS hsS => ?_
  refine make_log (Y := Y) (Z := Z) (C := Y.aH) (fs0 := fsH) (vs0 := [.int 1]) (SPI := spInitH Z Y) (n := 2) (ds := twoRs) (two (g1.g.trans g2.g)) (by decide) (by decide) (fun H Q x dx r hx G eG hG hR k => ⟨G, x, dx, r, 2, twoRs, rfl, eG, hG, hx, hR, by decide, by decide, k⟩) G2 H2 (Ex.refl _) g2.gh _ fun xH dH pH rH sH G3 H3 g3 hxH0 hpH0 nH gxH gpH hxH hpH hrH hsH => ?_
  refine ⟨(by show 3 ≤ sizeLine; decide), fun tp htp => ⟨tp, _, rfl, .inl (.inl upd_same), rfl, _, _, rfl, _, _, rfl, _, _, rfl, rfl, ?_⟩⟩
  show LM.tSeqC _ _ _ [some o, some v2, some (.ref xL), some (.ref xS), some (.ref xH), none] _
  have g3t : Grow M0 G2 H2 G3 (upd H3 tp (.tup [.ref xL, .ref xS, .ref xH])) := g3.trans (Grow.mnew g3.gh htp)
  generalize hH4 : upd H3 tp (.tup [.ref xL, .ref xS, .ref xH]) = H4 at *
  have e34 : Ex H3 H4 := hH4 ▸ Ex.frz htp
  have g13 : Grow M0 G1 H1 G3 H4 := g2.trans g3t
  have gA : Grow M0 G H G3 H4 := g1.trans g13
  have some_ne : ∀ {X : Hp} {a : Addr} {u : HO}, X a = some u → X a ≠ none := fun h z => by rw [h] at z; cases z
  have gxS3 : G3 xS = none := g3t.new xS (some_ne hxS) gxS
  have gpS3 : G3 pS = none := g3t.new pS (some_ne hpS) gpS
  refine c_drop ?_
  refine ⟨.ref xS, rfl, xS, dS, _, rfl, e34 _ _ (g3.ex _ _ hxS), no_f f0, ?_⟩
  refine (d_tup (a_cons d_int (a_cons d_int a_nil)) : EvD _ [some o, some v2, some (.ref xL), some (.ref xS), some (.ref xH), none] G3 row56).go g3t.gh fun row G5 H5 g5 hrow => ?_
  refine ⟨G5, xS, dS, pS, rS, sS, row, rfl, g5.gh, g5.new xS (some_ne (e34 _ _ (g3.ex _ _ hxS))) gxS3, g5.new pS (some_ne (e34 _ _ (g3.ex _ _ hpS))) gpS3, g5.ex _ _ (e34 _ _ (g3.ex _ _ hxS)), g5.ex _ _ (e34 _ _ (g3.ex _ _ hpS)), hrS.up (g3.g.trans g5.g), hsS.up (g3.g.trans g5.g), hrow, fun sS' G6 H6 g6 hsS' hxS6 hpS6 gxS6 gpS6 => ?_⟩
  show LM.tSeqC _ _ _ [some o, some v2, some (.ref xL), some (.ref xS), some (.ref xH), none] H6
  have neHS : ∀ {a : Addr}, H2 a = none → a ≠ xS ∧ a ≠ pS := fun {a} z => ⟨(fun y => by rw [y, hxS] at z; cases z), (fun y => by rw [y, hpS] at z; cases z)⟩
  have hxH6 : H6 xH = some (.ins Y.aH dH (fldL fsH rH sH pH)) := g6.keep xH _ (fun z => z.elim (neHS hxH0).1 (neHS hxH0).2) (g5.ex _ _ (e34 _ _ hxH))
  have hpH6 : H6 pH = some (.lst []) := g6.keep pH _ (fun z => z.elim (neHS hpH0).1 (neHS hpH0).2) (g5.ex _ _ (e34 _ _ hpH))
  have gxH5 : G5 xH = none := g5.new xH (some_ne (e34 _ _ hxH)) gxH
  have gpH5 : G5 pH = none := g5.new pH (some_ne (e34 _ _ hpH)) gpH
  have gxH6 : G6 xH = none := g6.new xH (some_ne (g5.ex _ _ (e34 _ _ hxH))) gxH5
  have gpH6 : G6 pH = none := g6.new pH (some_ne (g5.ex _ _ (e34 _ _ hpH))) gpH5
  refine c_drop ?_
  refine ⟨.ref xH, rfl, xH, rfl, ?_⟩
  refine (d_tup (a_cons d_int (a_cons d_int a_nil)) : EvD _ [some o, some v2, some (.ref xL), some (.ref xS), some (.ref xH), none] G6 row56).go g6.gh fun row' G7 H7 g7 hrow' => ?_
  refine ⟨.inr ⟨dH, _, g7.ex _ _ hxH6⟩, G7, xH, dH, pH, rH, sH, row', rfl, g7.gh, g7.new xH (some_ne hxH6) gxH6, g7.new pH (some_ne hpH6) gpH6, g7.ex _ _ hxH6, g7.ex _ _ hpH6, hrH.up ((g5.g.trans g6.g).trans g7.g), hsH.up ((g5.g.trans g6.g).trans g7.g), hrow', fun sH' G8 H8 g8 hsH' hxH8 hpH8 gxH8 gpH8 => ?_⟩
  show LM.tSeqC _ _ _ [some o, some v2, some (.ref xL), some (.ref xS), some (.ref xH), none] H8
  have hxSH : H xS = none := g1.there _ hxS0
  have hpSH : H pS = none := g1.there _ hpS0
  have hxHH : H xH = none := g1.there _ (g2.there _ hxH0)
  have hpHH : H pH = none := g1.there _ (g2.there _ hpH0)
  have kk : ∀ b o, H b = some o → H8 b = some o := fun b o z => by
    have a1 := g5.ex _ _ (gA.ex _ _ z)
    have a2 := g6.keep b o (fun y => y.elim (fun y => by rw [y, hxSH] at z; cases z) fun y => by rw [y, hpSH] at z; cases z) a1
    exact g8.keep b o (fun y => y.elim (fun y => by rw [y, hxHH] at z; cases z) fun y => by rw [y, hpHH] at z; cases z) (g7.ex _ _ a2)
  have kHS : KeptT TB0 H H8 := ⟨fun b o z _ => kk b o z, fun a z => gA.there a (g5.there a (g6.there a (g7.there a (g8.there a z))))⟩
  have hT8 : LamX.Tabs TB0 H8 := hT.ext kk
  have e68 : Ex G6 H8 := g7.g.trans (g8.g.trans g8.gh)
  have e38 : Ex G3 H8 := (g5.g.trans g6.g).trans e68
  have eGH8 : Ex G H8 := gA.g.trans e38
  have g06 : Grow (fun _ => True) G H G6 H6 := ((gA.trans g5).of0 : Grow (fun _ => True) G H G5 H5).trans (g6.weak fun _ _ => trivial)
  have g08 : Grow (fun _ => True) G H G8 H8 := (g06.then0 g7).trans (g8.weak fun _ _ => trivial)
  have eGN : Ex G (newG G H H8) := newG_up eGH8
  have gN : ∀ p ∈ TB0, newG G H H8 p.1 = none := fun p hp => newG_new (by
    obtain ⟨ps, h1, _⟩ := hT p hp
    rw [h1]; exact fun z => nomatch z) (gT p hp)
  have e1N : Ex G1 (newG G H H8) := newG_of g1 (g13.g.trans e38)
  have e2N : Ex G2 (newG G H H8) := newG_of (g1.trans g2) (g3t.g.trans e38)
  have e3N : Ex G3 (newG G H H8) := newG_of gA e38
  have e6N : Ex G6 (newG G H H8) := newG_of g06 e68
  have e8N : Ex G8 (newG G H H8) := newG_of g08 g8.gh
  have stay : ∀ {a : Addr} {u : HO}, H1 a = some u → H8 a = some u := fun {a u} z => by
    have z2 := g2.ex _ _ z
    have a1 := g5.ex _ _ (g13.ex _ _ z)
    have a2 := g6.keep a u (fun y => y.elim (fun y => by rw [y, hxS0] at z; cases z) fun y => by rw [y, hpS0] at z; cases z) a1
    exact g8.keep a u (fun y => y.elim (fun y => by rw [y, hxH0] at z2; cases z2) fun y => by rw [y, hpH0] at z2; cases z2) (g7.ex _ _ a2)
  have stay6 : ∀ {a : Addr} {u : HO}, H6 a = some u → a ≠ xH → a ≠ pH → H8 a = some u := fun {a u} z n1 n2 => g8.keep a u (fun y => y.elim n1 n2) (g7.ex _ _ z)
  have hLO : LO Z Y Y.aL [] 2 twoRs [] [] (newG G H H8) (.ref xL) := ⟨xL, dL, rL, sL, pL, rfl, newG_fresh (stay hxL) hxL0, hrL.up e1N, hsL.up e1N, newG_fresh (stay hpL) hpL0⟩
  have hSO : LO Z Y Y.aS [] 2 twoRs [row56] [sS] (newG G H H8) (.ref xS) := ⟨xS, dS, rS, sS', pS, rfl, newG_fresh (stay6 hxS6 (neHS hxH0).1.symm (neHS hpH0).1.symm) hxSH, hrS.up e2N, hsS'.up e6N, newG_fresh (stay6 hpS6 (neHS hxH0).2.symm (neHS hpH0).2.symm) hpSH⟩
  have hHO : LO Z Y Y.aH fsH 2 twoRs [row56] [sH] (newG G H H8) (.ref xH) := ⟨xH, dH, rH, sH', pH, rfl, newG_fresh hxH8 hxHH, hrH.up e3N, hsH'.up e8N, newG_fresh hpH8 hpHH⟩
  have hoN := ho.up eGN
  refine c_asg ?_
  refine LS.first (ALL := logsL) (q := (("_law_of_logs" : Str) ++ ".<locals>.") ++ "<lambda>") (cells := cellsFrom (s.heap.objs.size + 1) (defScope s_law_of_logs).names []) rfl (fun _ => rfl) hT8 ⟨_, hmT⟩ newG_ex gN fun l H9 hl0 gl s1 => ?_
  show LM.tSeqC _ _ _ [some o, some v2, some (.ref xL), some (.ref xS), some (.ref xH), some (.ref l)] H9
  refine LS.stepC (m := 1) s1 (by decide) rfl (fun _ => rfl) rfl ⟨_, hmT⟩ gN gl hl0 fun H10 s2 => ?_
  show LM.tSeqC _ _ _ [some o, some v2, some (.ref xL), some (.ref xS), some (.ref xH), some (.ref l)] H10
  refine LS.stepC (m := 2) s2 (by decide) rfl (fun _ => rfl) rfl ⟨_, hmT⟩ gN gl hl0 fun H11 s3 => ?_
  show LM.tSeqC _ _ _ [some o, some v2, some (.ref xL), some (.ref xS), some (.ref xH), some (.ref l)] H11
  refine LS.stepC (m := 3) s3 (by decide) rfl (fun _ => rfl) rfl ⟨_, hmT⟩ gN gl hl0 fun H12 s4 => ?_
  show LM.tSeqC _ _ _ [some o, some v2, some (.ref xL), some (.ref xS), some (.ref xH), some (.ref l)] H12
  refine LS.stepC (m := 4) s4 (by decide) rfl (fun _ => rfl) rfl ⟨_, hmT⟩ gN gl hl0 fun H13 s5 => ?_
  show LM.tSeqC _ _ _ [some o, some v2, some (.ref xL), some (.ref xS), some (.ref xH), some (.ref l)] H13
  refine LS.stepC (m := 5) s5 (by decide) rfl (fun _ => rfl) rfl ⟨_, hmT⟩ gN gl hl0 fun H14 s6 => ?_
  show LM.tSeqC _ _ _ [some o, some v2, some (.ref xL), some (.ref xS), some (.ref xH), some (.ref l)] H14
  refine LS.stepC (m := 6) s6 (by decide) rfl (fun _ => rfl) rfl ⟨_, hmT⟩ gN gl hl0 fun H15 s7 => ?_
  show LM.tSeqC _ _ _ [some o, some v2, some (.ref xL), some (.ref xS), some (.ref xH), some (.ref l)] H15
  refine LS.stepC (m := 7) s7 (by decide) rfl (fun _ => rfl) rfl ⟨_, hmT⟩ gN gl hl0 fun H16 s8 => ?_
  show LM.tSeqC _ _ _ [some o, some v2, some (.ref xL), some (.ref xS), some (.ref xH), some (.ref l)] H16
  refine LS.stepC (m := 8) s8 (by decide) rfl (fun _ => rfl) rfl ⟨_, hmT⟩ gN gl hl0 fun H17 s9 => ?_
  show LM.tRetC _ _ [some o, some v2, some (.ref xL), some (.ref xS), some (.ref xH), some (.ref l)] H17
  refine c_ret ?_
  refine LS.last (m := 9) s9 (by decide) rfl (fun _ => rfl) rfl ⟨_, hmT⟩ gN fun p vs HE hTE hpE heE eNE kpE hp0 => ?_
  refine ⟨[o, .ref xL, .ref xS, .ref xH], rfl, fun HF eF inj hc => ?_⟩
  rw [List.take_of_length_le (by decide)] at heE
  have kA : KeptT TB0 H HE := kHS.trans kpE
  have hTF : LamX.Tabs TB0 HF := hTE.ext fun b o z => eF b o z
  have upN : Ex (newG G H H8) (newG G H HE) := newG_sub eNE
  have hx : Ex (newG G H HE) (newG G H HF) := newG_sub (newG_ex.trans eF)
  have he' := Ents.keep (H2 := newG G H HE) heE fun b o z n1 n2 => newG_plain hTE hfull kA z n1 n2
  have hc' : ∀ (i : Nat) (y : Str), frL[i]? = some y → ∃ c v, (cellsFrom (s.heap.objs.size + 1) (defScope s_law_of_logs).names []).lookup y = some c ∧ [o, .ref xL, .ref xS, .ref xH][i]? = some v ∧ newG G H HE c = none ∧ newG G H HF c = some (LM.CellO c v) := fun i y hi => by
    obtain ⟨c, v, a1, a2, a3, a4⟩ := hc i y hi
    exact ⟨c, v, a1, a2, newG_none a3, newG_fresh a4 (kA.there c a3)⟩
  refine k p vs (newG G H HF) HF (newG_up ((eGN.trans eNE).trans eF)) newG_ex (fun a z1 z2 => newG_new z1 z2) ⟨fun b o z nb => eF b o (kA.keep b o z nb), fun a z => kA.there a (Ex.back eF z)⟩ hTF (newG_fresh (eF _ _ hpE) (kHS.there p hp0)) (TIs.ofEnts hx he' ?_)
  refine List.forall_mem_cons.mpr ⟨⟨by decide, thunk_at (⟨NdefX.nscope_by (by decide +kernel), fun _ _ _ _ _ => rfl, by decide +kernel, by decide +kernel, rfl⟩ : Fit ["_law_odd", "_law_log", "_law_strict", "_law_short"] (lamAt s_law_of_logs 3) ["_law_log", "_law_odd"] [1, 0]) (ll0 Tt U W X hLO hoN) rfl hx upN inj hc'⟩,
    List.forall_mem_cons.mpr ⟨⟨by decide, thunk_at (⟨NdefX.nscope_by (by decide +kernel), fun _ _ _ _ _ => rfl, by decide +kernel, by decide +kernel, rfl⟩ : Fit ["_law_odd", "_law_log", "_law_strict", "_law_short"] (lamAt s_law_of_logs 4) ["_law_log"] [1]) (ll1 Tt U W X hLO) rfl hx upN inj hc'⟩,
    List.forall_mem_cons.mpr ⟨⟨by decide, thunk_at (⟨NdefX.nscope_by (by decide +kernel), fun _ _ _ _ _ => rfl, by decide +kernel, by decide +kernel, rfl⟩ : Fit ["_law_odd", "_law_log", "_law_strict", "_law_short"] (lamAt s_law_of_logs 5) ["_law_log", "_law_odd"] [1, 0]) (ll2 Tt U W X hLO hoN) rfl hx upN inj hc'⟩,
    List.forall_mem_cons.mpr ⟨⟨by decide, thunk_at (⟨NdefX.nscope_by (by decide +kernel), fun _ _ _ _ _ => rfl, by decide +kernel, by decide +kernel, rfl⟩ : Fit ["_law_odd", "_law_log", "_law_strict", "_law_short"] (lamAt s_law_of_logs 6) ["_law_log", "_law_odd"] [1, 0]) (ll3 Tt U W X hLO hoN) rfl hx upN inj hc'⟩,
    List.forall_mem_cons.mpr ⟨⟨by decide, thunk_at (⟨NdefX.nscope_by (by decide +kernel), fun _ _ _ _ _ => rfl, by decide +kernel, by decide +kernel, rfl⟩ : Fit ["_law_odd", "_law_log", "_law_strict", "_law_short"] (lamAt s_law_of_logs 7) ["_law_log"] [1]) (ll4 Tt U W X hLO) rfl hx upN inj hc'⟩,
    List.forall_mem_cons.mpr ⟨⟨by decide, thunk_at (⟨NdefX.nscope_by (by decide +kernel), fun _ _ _ _ _ => rfl, by decide +kernel, by decide +kernel, rfl⟩ : Fit ["_law_odd", "_law_log", "_law_strict", "_law_short"] (lamAt s_law_of_logs 8) ["_law_short"] [3]) (ll5 Tt U W X hHO) rfl hx upN inj hc'⟩,
    List.forall_mem_cons.mpr ⟨⟨by decide, thunk_at (⟨NdefX.nscope_by (by decide +kernel), fun _ _ _ _ _ => rfl, by decide +kernel, by decide +kernel, rfl⟩ : Fit ["_law_odd", "_law_log", "_law_strict", "_law_short"] (lamAt s_law_of_logs 9) [] []) (ll6 Tt U W X ) rfl hx upN inj hc'⟩,
    List.forall_mem_cons.mpr ⟨⟨by decide, thunk_at (⟨NdefX.nscope_by (by decide +kernel), fun _ _ _ _ _ => rfl, by decide +kernel, by decide +kernel, rfl⟩ : Fit ["_law_odd", "_law_log", "_law_strict", "_law_short"] (lamAt s_law_of_logs 10) ["_law_strict"] [2]) (ll7 Tt U W X hSO) rfl hx upN inj hc'⟩,
    List.forall_mem_cons.mpr ⟨⟨by decide, thunk_at (⟨NdefX.nscope_by (by decide +kernel), fun _ _ _ _ _ => rfl, by decide +kernel, by decide +kernel, rfl⟩ : Fit ["_law_odd", "_law_log", "_law_strict", "_law_short"] (lamAt s_law_of_logs 11) ["_law_strict"] [2]) (ll8 Tt U W X hSO) rfl hx upN inj hc'⟩,
    List.forall_mem_cons.mpr ⟨⟨by decide, thunk_at (⟨NdefX.nscope_by (by decide +kernel), fun _ _ _ _ _ => rfl, by decide +kernel, by decide +kernel, rfl⟩ : Fit ["_law_odd", "_law_log", "_law_strict", "_law_short"] (lamAt s_law_of_logs 12) ["_law_log"] [1]) (ll9 Tt U W X hLO) rfl hx upN inj hc'⟩,
    fun x hx => by cases hx⟩⟩⟩⟩⟩⟩⟩⟩⟩⟩
end
end CP
set_option Elab.async false
set_option linter.all false
set_option maxRecDepth 100000
set_option maxHeartbeats 4000000
set_option pp.maxSteps 900
set_option pp.deepTerms false
namespace CP
open PySem L2 CL CM
section
variable {P : Program} {w : World} {K : PySem.W.Frag} {mg : Str → Option Value} {base : Heap} {Z : Ads} {Y : AdY}
def spLaw10 (K : PySem.W.Frag) (T : List (Addr × Str)) : Sp := fun vs H Q _ => ∃ (a : Addr) (cs : List Int), vs = [.ref a] ∧ SqL K H a (cs.map V.int) ∧ LamX.Tabs T H ∧ ∀ H2, Q (.bl true) H2
theorem sc_law : FnScope ["_law_script", "_law_k", "_law_source_here", "_law_calls_here", "_law_at", "_law_call", "_law_expected"] ["_law_script"] (defScope s_law) := ⟨rfl, rfl, rfl, by decide +kernel, rfl, by decide +kernel, by decide +kernel⟩
-- N = ["_law_script", "_law_k", "_law_source_here", "_law_calls_here", "_law_at", "_law_call", "_law_expected"]
theorem ok_law {f : Addr} {fd : FuncData} {TB0 : List (Addr × Str)} (F : Fun K "law" "law" s_law f fd) (T : Txt Z K mg) (F_law_cell : Fn1 P w K mg base "_law_cell" 1 (spCell K)) (F_law_source : Fn1 P w K mg base "_law_source" 1 spSrc) (F_law_draw : Fn1 P w K mg base "_law_draw" 1 (spN R_draw))
    (F_law_calls : Fn1 P w K mg base "_law_calls" 14 (spCalls Y P w K mg base TB0)) (F_law_raised : Fn1 P w K mg base "_law_raised" 14 (spRaised Y P w K mg base 13)) (F_law_is_equal : Fn1 P w K mg base "_law_is_equal" 1 (spR R_eqI)) : FnOk P w K mg base CX0 15 f fd ["_law_script"] (spLaw10 K TB0) := by
  refine F.ok sc_law (fun vs H Q E ⟨a, cs, e, _⟩ => by rw [e]; rfl) (fun cdv A outer s H vs Q E hr h => ?_)
  obtain ⟨a, cs, rfl, h1, hT, k⟩ := h
  have nd := sc_law.nd
  refine ⟨_, (pss_one (ps_try_thru0 (pss_cons (ps_for PassesOwn.never rfl (pi_range1 (by rfl) T.b_range (pa_cons (pe_callB (call_max2 rfl) (by rfl) T.b_max (by decide +kernel) (pa_cons pe_int (pa_cons (pe_callB (call_min2 rfl) (by rfl) T.b_min (by decide +kernel) (pa_cons (pe_callB (crLenK K) (by rfl) T.b_len (by decide +kernel) (pa_cons (pv 0) pa_nil)) (pa_cons pe_int pa_nil))) pa_nil))) pa_nil)) (pgN 1 nd)
    (pss_cons (ps_set (i := 2) nd rfl (by first | exact Or.inl rfl | exact Or.inr rfl) (pe_fn F_law_source (hr.mono (by decide)) rfl (pa_cons (pe_fn F_law_cell (hr.mono (by decide)) rfl (pa_cons (pv 0) (pa_cons (pv 1) pa_nil))) pa_nil)))
    (pss_cons (ps_set (i := 3) nd rfl (by first | exact Or.inl rfl | exact Or.inr rfl) (pe_fn F_law_calls (hr.mono (by decide)) rfl (pa_cons (pv 2) pa_nil)))
    (pss_cons (ps_set (i := 4) nd rfl (by first | exact Or.inl rfl | exact Or.inr rfl) (pe_fn F_law_draw (hr.mono (by decide)) rfl (pa_cons (pv 2) (pa_cons (pe_callB (crLenK K) (by rfl) T.b_len (by decide +kernel) (pa_cons (pv 3) pa_nil)) pa_nil))))
    (pss_one (ps_for PassesOwn.never rfl (piListK K (pe_op op_cat (pe_slice (slLK K) (pv 3) (po_some (pv 4)) po_none) (pe_slice (slLK K) (pv 3) po_none (po_some (pv 4))))) (pgTupK K (n := 2) (pgs_cons (pgN 5 nd) (pgs_cons (pgN 6 nd) pgs_nil)))
    (pss_one (ps_if (pt_not (pt_val (pe_fn F_law_is_equal (hr.mono (by decide)) rfl (pa_cons (pe_fn F_law_raised (hr.mono (by decide)) rfl (pa_cons (pv 5) pa_nil)) (pa_cons (pv 6) pa_nil))))) (pss_one (ps_ret pe_bl)) pss_nil))))))))
    (pss_one (ps_ret pe_bl))))), ?_⟩
  generalize hG : LM.dropC H (TB0.map (·.1)) = G
  have gT : ∀ p ∈ TB0, G p.1 = none := fun p hp => by rw [← hG]; exact LM.dropC_in (List.mem_map.mpr ⟨p, hp, rfl⟩)
  have eG : Ex G H := fun b o z => by
    rw [← hG] at z
    by_cases hb : b ∈ TB0.map (·.1)
    · rw [LM.dropC_in hb] at z; cases z
    · rw [LM.dropC_out hb] at z; exact z
  have h1 : SqL K G a (cs.map V.int) := h1.imp (fun r => by
    have out : ∀ {o : HO}, H a = some o → (∀ ps, o ≠ .tbl ps) → G a = some o := fun {o} z n => by
      rw [← hG]
      refine (LM.dropC_out fun y => ?_).trans z
      obtain ⟨p, hp, e⟩ := List.mem_map.mp y
      exact tab_ne hT z n p hp e.symm
    rcases r with r | ⟨ob, r⟩
    · exact .inl (out r fun _ z => nomatch z)
    · exact .inr ⟨ob, out r fun _ z => nomatch z⟩) id
  clear hG
  obtain ⟨v1, hv1⟩ : ∃ v, v = V.ref a := ⟨_, rfl⟩
  rw [← hv1]
  show tSeq _ _ _ [some v1, none, none, none, none, none, none] H
  have hN : ∃ N : Nat, N ≤ 4 ∧ EvD (tCB (fun xs H Q => ∃ i j, xs = [V.int i, V.int j] ∧ Q (V.int (if j > i then j else i)) H) (tCons (tC (.int 1)) (tCons (tCB (fun xs H Q => ∃ i j, xs = [V.int i, V.int j] ∧ Q (V.int (if j < i then j else i)) H) (tCons (tCB (CL.rLen K) (tCons (tVar 0) tNil)) (tCons (tC (.int 4)) tNil))) tNil))) [some v1, none, none, none, none, none, none] G (.int (N : Int)) := by
    refine ⟨max 1 (min cs.length 4), by omega, (d_cb (a_cons d_int (a_cons (d_cb (a_cons (d_lenQ (xs := cs.map V.int) h1 (by rw [hv1]; rfl)) (a_cons d_int a_nil)) c_min2) a_nil)) c_max2).is (congrArg PyData.int ?_)⟩
    rw [List.length_map]
    split <;> split <;> omega
  obtain ⟨N, hN2, hN⟩ := hN
  refine q_forR (n := N) (a_cons hN a_nil) eG (by omega) (fun i σ' G' H' => (∃ o1 o2 o3 o4 o5 o6, σ' = [some v1, o1, o2, o3, o4, o5, o6]) ∧ LamX.Tabs TB0 H' ∧ (∀ p ∈ TB0, G' p.1 = none))
    (fun G2 H2 g2 => ⟨⟨none, none, none, none, none, none, rfl⟩, hT.ext fun b o z => g2.ex b o z, gT_up hT gT g2⟩) ?_ ?_
  · rintro i σ' G2 H2 hi eG2 eH2 ⟨⟨o1, o2, o3, o4, o5, o6, rfl⟩, hT2, gT2⟩ Nx hNx
    show tSeq _ _ _ [some v1, some (.int (i : Int)), o2, o3, o4, o5, o6] H2
    refine ⟨_, rfl, _, rfl, G2, a, cs, i, by rw [hv1]; rfl, eH2, sq_up h1 eG2, fun c G3 H3 g3 => ?_⟩
    refine ⟨G3, c, rfl, g3.gh, fun p G4 H4 hp4 g4 ms4 => ?_⟩
    show tSeq _ _ _ [some v1, some (.int (i : Int)), some (.ref p), o3, o4, o5, o6] H4
    have g34 := g3.trans g4
    have hT4 : LamX.Tabs TB0 H4 := hT2.ext fun b o z => g34.ex b o z
    have gT4 := gT_up hT2 gT2 g34
    refine ⟨_, rfl, ?_⟩
    refine ⟨G4, p, rfl, g4.gh, ms4, hT4, gT4, fun l xs G5 H5 e45 e5 ms5 hT5 gT5 hl5 ti => ?_⟩
    show tSeq _ _ _ [some v1, some (.int (i : Int)), some (.ref p), some (.ref l), o4, o5, o6] H5
    have hlen : xs.length = 37 := paired_len ti
    have hmem : ∀ v ∈ xs, ∃ n, TI Y P w K mg base 13 G5 v n := fun v hv => by
      have : ∀ {vs : List V} {ns : List Nat}, TIs Y P w K mg base 13 G5 vs ns → v ∈ vs → ∃ n, TI Y P w K mg base 13 G5 v n := by
        intro vs ns h
        induction h with
        | nil => intro z; cases z
        | cons a _ ih =>
          intro z
          rcases List.mem_cons.mp z with rfl | z
          · exact ⟨_, a⟩
          · exact ih z
      exact this ti hv
    have hln : EvD (tCB (CL.rLen K) (tCons (tVar 3) tNil)) [some v1, some (.int (i : Int)), some (.ref p), some (.ref l), o4, o5, o6] G5 (I1 37) := .mk fun G1 H1 e1 e2 Q q => ⟨_, rfl, _, _, rfl, .inl ⟨xs, .inl (.inl (e2 _ _ (e1 _ _ hl5))), rfl⟩, by rw [hlen]; exact q _ G1 H1 (Grow.refl e2) (.int _)⟩
    refine q_asgN (s := p) (n_call (v_var rfl) (a_cons hln a_nil) ⟨37, rfl, by decide, by decide, rfl⟩) e5 ms5 fun v d G6 H6 hd g6 ms6 hv => ?_
    obtain ⟨m, hm, rfl⟩ := hd
    obtain rfl := hv.eqI
    obtain ⟨_, ia, ib, ic, hso5⟩ := id ms5
    have hT6 := tabs_grow hT5 hso5 g6
    have gT6 := gT_up hT5 gT5 g6
    have hl6 : H6 l = some (.lst xs) := g6.gh _ _ (g6.g _ _ hl5)
    have c1 : (cutV xs (some (m : Int)) none).length ≤ 37 ∧ ∀ v ∈ cutV xs (some (m : Int)) none, v ∈ xs := ⟨by unfold cutV; rw [List.length_take, List.length_drop]; omega, fun v hv => List.mem_of_mem_drop (List.mem_of_mem_take hv)⟩
    have c2 : (cutV xs none (some (m : Int))).length ≤ 37 ∧ ∀ v ∈ cutV xs none (some (m : Int)), v ∈ xs := ⟨by unfold cutV; rw [List.length_take, List.length_drop]; omega, fun v hv => List.mem_of_mem_drop (List.mem_of_mem_take hv)⟩
    show tFor _ _ _ _ [some v1, some (.int (i : Int)), some (.ref p), some (.ref l), some (.int (m : Int)), o5, o6] H6
    refine ⟨_, rfl, _, rfl, _, rfl, l, xs, rfl, .inl (.inl hl6), fun q1 hq1 => ?_⟩
    have e6a : Ex H6 (upd H6 q1 (.lst (cutV xs (some (m : Int)) none))) := Ex.frz hq1
    refine ⟨_, rfl, _, rfl, _, rfl, l, xs, rfl, .inl (.inl (e6a _ _ hl6)), fun q2 hq2 => ?_⟩
    have n12 : q1 ≠ q2 := fun z => by rw [← z, upd_same] at hq2; cases hq2
    refine ⟨q1, q2, cutV xs (some (m : Int)) none, cutV xs none (some (m : Int)), rfl, rfl, by rw [upd_ne n12, upd_same], upd_same, Evl.sz_of (by have := c1.1; have := c2.1; omega), fun q3 hq3 => ?_⟩
    generalize cutV xs (some (m : Int)) none = ys at *
    generalize cutV xs none (some (m : Int)) = zs at *
    have e67 : Ex H6 (upd (upd (upd H6 q1 (.lst ys)) q2 (.lst zs)) q3 (.lst (ys ++ zs))) := (e6a.trans (Ex.frz hq2)).trans (Ex.frz hq3)
    have h73 : (upd (upd (upd H6 q1 (.lst ys)) q2 (.lst zs)) q3 (.lst (ys ++ zs))) q3 = some (.lst (ys ++ zs)) := upd_same
    generalize upd (upd (upd H6 q1 (.lst ys)) q2 (.lst zs)) q3 (.lst (ys ++ zs)) = H7 at *
    refine ⟨q3, rfl, ⟨_, .inl (.inl h73)⟩, for_list (K := K) (a := q3) (xs := ys ++ zs) (fun j σ' H' => (∃ o5 o6, σ' = [some v1, some (.int (i : Int)), some (.ref p), some (.ref l), some (.int (m : Int)), o5, o6]) ∧ Ex H7 H') ⟨⟨o5, o6, rfl⟩, Ex.refl _⟩ (fun j σ' H' _ ⟨_, e⟩ => .inl (.inl (e _ _ h73))) ?_ ?_⟩
    · rintro j x σ' H' hj ⟨⟨o5, o6, rfl⟩, e7⟩
      have hx : x ∈ xs := by
        rcases List.mem_append.mp (List.mem_of_getElem? hj) with z | z
        · exact c1.2 _ z
        · exact c2.2 _ z
      obtain ⟨n, t, f, rfl, ht, hn, th⟩ := hmem x hx
      have e57 : Ex G5 H' := ((g6.g.trans g6.gh).trans e67).trans e7
      refine ⟨t, _, rfl, .inl (.inl (e57 _ _ ht)), rfl, _, _, rfl, _, _, rfl, rfl, ?_⟩
      show tIfS _ _ _ _ [some v1, some (.int (i : Int)), some (.ref p), some (.ref l), some (.int (m : Int)), some (.ref f), some (.int (n : Int))] H'
      refine ⟨.ref f, rfl, f, n, rfl, hn, th.up e57, fun H8 e8 => ?_⟩
      refine ⟨.int (n : Int), rfl, H8, _, _, ⟨n, hn, rfl, rfl⟩, Ex.refl _, .cons (.int _) (.cons (.int _) .nil), fun v d G9 H9 hd g9 hv => ?_⟩
      subst hd
      obtain rfl := hv.eqB
      refine ⟨true, rfl, ?_⟩
      exact ⟨⟨_, _, rfl⟩, (e7.trans e8).trans g9.ex⟩
    · rintro σ' H' ⟨⟨o5, o6, rfl⟩, e7⟩
      exact hNx _ G6 H' (((g34.g.trans e45).trans g6.g)) ((g6.gh.trans e67).trans e7) ⟨⟨_, _, _, _, _, _, rfl⟩, hT6.ext fun b o z => e7 _ _ (e67 _ _ z), gT6⟩
  · rintro σ' G2 H2 eG2 eH2 ⟨⟨o1, o2, o3, o4, o5, o6, rfl⟩, _⟩
    exact k H2
end
end CP
set_option Elab.async false
set_option linter.all false
set_option maxRecDepth 100000
set_option maxHeartbeats 40000000
set_option pp.maxSteps 8
set_option pp.deepTerms false
namespace CP
open PySem L2 CL CM
theorem ok_getter {P : Program} {w : World} {K : PySem.W.Frag} {mg : Str → Option Value} {base : Heap} {x q f : Str} {st : Stmt} {g C : Addr} {fd : FuncData} {N : List Str} {p1 p2 p3 : Pos} (F : Fun K x q st g fd) (S : FnScope N ["self"] (defScope st)) (hN : N[0]? = some ("self" : Str))
    (hb : defBody st = [.Return (some (.Attribute (.Name "self" p1) f p2)) p3]) (c : Cls K C) (n : NoAttr K C f) : FnOk P w K mg base CX0 1 g fd ["self"] (getSp C f) := by
  obtain ⟨oc, od, kV, doc, pm, an, cdv, ct, osl, rfl, lk, hcd⟩ := F.ex
  exact fn_getter lk hcd S hN hb c n
theorem FunM.binds2 {K : PySem.W.Frag} {base : Heap} {mg : Str → Option Value} {x qual : Str} {st : Stmt} {f c PT : Addr} {fd : FuncData} {ps : List Str} (F : FunM K base mg x qual st f fd c PT) (hb : ∀ (kV doc pm : Value) (an : Option Addr) (cdv ct : Value) (us : List Value), us.length = ps.length → bindArgs (PySem.W.fnOf x qual (defArgs st) (defBody st) (defScope st) .none kV doc pm an cdv ct) ⟨us, []⟩ = pure (ps.zip us)) : Binds K fd ps [] := by
  obtain ⟨oc, od, kV, doc, pm, an, ct, osl, rfl, _⟩ := F.ex
  exact .all fun us hl => hb _ _ _ _ _ _ us hl
theorem raw0 {P : Program} {w : World} {K : PySem.W.Frag} {mg : Str → Option Value} {base : Heap} {CX : CXT} {k : Nat} {f : Addr} {fd : FuncData} {ps : List Str} {sp : Sp} (F : FnOk P w K mg base CX k f fd ps sp) (b : Binds K fd ps []) : FnR P w K mg base CX k f sp := (F.raw b .nil).imp fun vs H Q E z => by rw [List.append_nil]; exact z
theorem sc_Rules_width_g : FnScope ["self"] ["self"] (defScope s_Rules_width) := ⟨rfl, rfl, rfl, by decide +kernel, rfl, by decide +kernel, by decide +kernel⟩
theorem sc_Rules_rules_g : FnScope ["self"] ["self"] (defScope s_Rules_rules) := ⟨rfl, rfl, rfl, by decide +kernel, rfl, by decide +kernel, by decide +kernel⟩
theorem sc_Table_width_g : FnScope ["self"] ["self"] (defScope s_Table_width) := ⟨rfl, rfl, rfl, by decide +kernel, rfl, by decide +kernel, by decide +kernel⟩
theorem sc_Table_rows_g : FnScope ["self"] ["self"] (defScope s_Table_rows) := ⟨rfl, rfl, rfl, by decide +kernel, rfl, by decide +kernel, by decide +kernel⟩
set_option maxHeartbeats 0 in
theorem law_all {P : Program} {w : World} {K : PySem.W.Frag} {mg : Str → Option Value} {base : Heap} {Z : Ads} {Y : AdY} {TB0 : List (Addr × Str)} {f_is_integer f_is_between f_need_width f_is_column f_is_rule f_need_rule f_are_rules f_need_rules f_need_table f_need_like f_table_of f_is_row f_are_rows f_number_of f_verdict f_shows_verdict f_walk f_groups f_model f_least f_following f_holds f_law_cell f_law_source f_law_draw f_law_choose f_law_is_equal f_law_marks f_law_raised f_law f_Rules_init f_Rules_read f_Rules_call f_Rules_add f_Rules_width f_Rules_rules f_Table_init f_Table_read f_Table_text f_Table_call f_Table_add f_Table_mul f_Table_width f_Table_rows f_Log_init f_Log_need_fit f_Log_add f_Log_call f_Log_drop f_Log_assign_table f_Log_table2 f_Log_become f_Log_undo f_Strict_need_fit f_Short_init f_Short_need_fit f_law_calls f_law_of_logs c_law_calls p_law_calls c_law_of_logs p_law_of_logs pr_Rules pr_Table pp_Rules_width pp_Rules_rules pp_Table_width pp_Table_rows ps_Log ps_Strict : Addr} {mc_Rules mc_Table : Value} {fd_is_integer fd_is_between fd_need_width fd_is_column fd_is_rule fd_need_rule fd_are_rules fd_need_rules fd_need_table fd_need_like fd_table_of fd_is_row fd_are_rows fd_number_of fd_verdict fd_shows_verdict fd_walk fd_groups fd_model fd_least fd_following fd_holds fd_law_cell fd_law_source fd_law_draw fd_law_choose fd_law_is_equal fd_law_marks fd_law_raised fd_law fd_Rules_init fd_Rules_read fd_Rules_call fd_Rules_add fd_Rules_width fd_Rules_rules fd_Table_init fd_Table_read fd_Table_text fd_Table_call fd_Table_add fd_Table_mul fd_Table_width fd_Table_rows fd_Log_init fd_Log_need_fit fd_Log_add fd_Log_call fd_Log_drop fd_Log_assign_table fd_Log_table2 fd_Log_become fd_Log_undo fd_Strict_need_fit fd_Short_init fd_Short_need_fit fd_law_calls fd_law_of_logs : FuncData}
    (T : Txt Z K mg) (V : TxtV Y K mg) (U : TxtU Z Y K mg) (W : TxtW Z Y K) (T1 : TxtI Y K mg) (SG : SupG P mg) (bmax : mg "max" = none)
    (F_is_integer : Fun K "is_integer" "is_integer" s_is_integer f_is_integer fd_is_integer) (m_is_integer : mg "is_integer" = some (.ref f_is_integer))
    (F_is_between : Fun K "is_between" "is_between" s_is_between f_is_between fd_is_between) (m_is_between : mg "is_between" = some (.ref f_is_between))
    (F_need_width : Fun K "need_width" "need_width" s_need_width f_need_width fd_need_width) (m_need_width : mg "need_width" = some (.ref f_need_width))
    (F_is_column : Fun K "is_column" "is_column" s_is_column f_is_column fd_is_column) (m_is_column : mg "is_column" = some (.ref f_is_column))
    (F_is_rule : Fun K "is_rule" "is_rule" s_is_rule f_is_rule fd_is_rule) (m_is_rule : mg "is_rule" = some (.ref f_is_rule))
    (F_need_rule : Fun K "need_rule" "need_rule" s_need_rule f_need_rule fd_need_rule) (m_need_rule : mg "need_rule" = some (.ref f_need_rule))
    (F_are_rules : Fun K "are_rules" "are_rules" s_are_rules f_are_rules fd_are_rules) (m_are_rules : mg "are_rules" = some (.ref f_are_rules))
    (F_need_rules : Fun K "need_rules" "need_rules" s_need_rules f_need_rules fd_need_rules) (m_need_rules : mg "need_rules" = some (.ref f_need_rules))
    (F_need_table : Fun K "need_table" "need_table" s_need_table f_need_table fd_need_table) (m_need_table : mg "need_table" = some (.ref f_need_table))
    (F_need_like : Fun K "need_like" "need_like" s_need_like f_need_like fd_need_like) (m_need_like : mg "need_like" = some (.ref f_need_like))
    (F_table_of : Fun K "table_of" "table_of" s_table_of f_table_of fd_table_of) (m_table_of : mg "table_of" = some (.ref f_table_of))
    (F_is_row : Fun K "is_row" "is_row" s_is_row f_is_row fd_is_row) (m_is_row : mg "is_row" = some (.ref f_is_row))
    (F_are_rows : Fun K "are_rows" "are_rows" s_are_rows f_are_rows fd_are_rows) (m_are_rows : mg "are_rows" = some (.ref f_are_rows))
    (F_number_of : Fun K "number_of" "number_of" s_number_of f_number_of fd_number_of) (m_number_of : mg "number_of" = some (.ref f_number_of))
    (F_verdict : Fun K "verdict" "verdict" s_verdict f_verdict fd_verdict) (m_verdict : mg "verdict" = some (.ref f_verdict))
    (F_shows_verdict : Fun K "shows_verdict" "shows_verdict" s_shows_verdict f_shows_verdict fd_shows_verdict) (m_shows_verdict : mg "shows_verdict" = some (.ref f_shows_verdict))
    (F_walk : Fun K "walk" "walk" s_walk f_walk fd_walk) (m_walk : mg "walk" = some (.ref f_walk))
    (F_groups : Fun K "groups" "groups" s_groups f_groups fd_groups) (m_groups : mg "groups" = some (.ref f_groups))
    (F_model : Fun K "model" "model" s_model f_model fd_model) (m_model : mg "model" = some (.ref f_model))
    (F_least : Fun K "least" "least" s_least f_least fd_least) (m_least : mg "least" = some (.ref f_least))
    (F_following : Fun K "following" "following" s_following f_following fd_following) (m_following : mg "following" = some (.ref f_following))
    (F_holds : Fun K "holds" "holds" s_holds f_holds fd_holds) (m_holds : mg "holds" = some (.ref f_holds))
    (F_law_cell : Fun K "_law_cell" "_law_cell" s_law_cell f_law_cell fd_law_cell) (m_law_cell : mg "_law_cell" = some (.ref f_law_cell))
    (F_law_source : Fun K "_law_source" "_law_source" s_law_source f_law_source fd_law_source) (m_law_source : mg "_law_source" = some (.ref f_law_source))
    (F_law_draw : Fun K "_law_draw" "_law_draw" s_law_draw f_law_draw fd_law_draw) (m_law_draw : mg "_law_draw" = some (.ref f_law_draw))
    (F_law_choose : Fun K "_law_choose" "_law_choose" s_law_choose f_law_choose fd_law_choose) (m_law_choose : mg "_law_choose" = some (.ref f_law_choose))
    (F_law_is_equal : Fun K "_law_is_equal" "_law_is_equal" s_law_is_equal f_law_is_equal fd_law_is_equal) (m_law_is_equal : mg "_law_is_equal" = some (.ref f_law_is_equal))
    (F_law_marks : Fun K "_law_marks" "_law_marks" s_law_marks f_law_marks fd_law_marks) (m_law_marks : mg "_law_marks" = some (.ref f_law_marks))
    (F_law_raised : Fun K "_law_raised" "_law_raised" s_law_raised f_law_raised fd_law_raised) (m_law_raised : mg "_law_raised" = some (.ref f_law_raised))
    (F_law : Fun K "law" "law" s_law f_law fd_law) (m_law : mg "law" = some (.ref f_law))
    (F_Rules_init : Fun K "__init__" "Rules.__init__" s_Rules_init f_Rules_init fd_Rules_init)
    (F_Rules_read : Fun K "read" "Rules.read" s_Rules_read f_Rules_read fd_Rules_read)
    (F_Rules_call : Fun K "__call__" "Rules.__call__" s_Rules_call f_Rules_call fd_Rules_call)
    (F_Rules_add : Fun K "__add__" "Rules.__add__" s_Rules_add f_Rules_add fd_Rules_add)
    (F_Rules_width : Fun K "width" "Rules.width" s_Rules_width f_Rules_width fd_Rules_width)
    (F_Rules_rules : Fun K "rules" "Rules.rules" s_Rules_rules f_Rules_rules fd_Rules_rules)
    (F_Table_init : Fun K "__init__" "Table.__init__" s_Table_init f_Table_init fd_Table_init)
    (F_Table_read : Fun K "read" "Table.read" s_Table_read f_Table_read fd_Table_read)
    (F_Table_text : Fun K "text" "Table.text" s_Table_text f_Table_text fd_Table_text)
    (F_Table_call : Fun K "__call__" "Table.__call__" s_Table_call f_Table_call fd_Table_call)
    (F_Table_add : Fun K "__add__" "Table.__add__" s_Table_add f_Table_add fd_Table_add)
    (F_Table_mul : Fun K "__mul__" "Table.__mul__" s_Table_mul f_Table_mul fd_Table_mul)
    (F_Table_width : Fun K "width" "Table.width" s_Table_width f_Table_width fd_Table_width)
    (F_Table_rows : Fun K "rows" "Table.rows" s_Table_rows f_Table_rows fd_Table_rows)
    (F_Log_init : Fun K "__init__" "Log.__init__" s_Log_init f_Log_init fd_Log_init)
    (F_Log_need_fit : Fun K "need_fit" "Log.need_fit" s_Log_need_fit f_Log_need_fit fd_Log_need_fit)
    (F_Log_add : Fun K "add" "Log.add" s_Log_add f_Log_add fd_Log_add)
    (F_Log_call : Fun K "__call__" "Log.__call__" s_Log_call f_Log_call fd_Log_call)
    (F_Log_drop : Fun K "drop" "Log.drop" s_Log_drop f_Log_drop fd_Log_drop)
    (F_Log_assign_table : Fun K "assign_table" "Log.assign_table" s_Log_assign_table f_Log_assign_table fd_Log_assign_table)
    (F_Log_table2 : Fun K "table" "Log.table" s_Log_table2 f_Log_table2 fd_Log_table2)
    (F_Log_become : Fun K "become" "Log.become" s_Log_become f_Log_become fd_Log_become)
    (F_Log_undo : Fun K "undo" "Log.undo" s_Log_undo f_Log_undo fd_Log_undo)
    (F_Strict_need_fit : SU.FunS P K "need_fit" "Strict.need_fit" s_Strict_need_fit f_Strict_need_fit fd_Strict_need_fit Y.aS) (b_Strict_need_fit : Binds K fd_Strict_need_fit ["self", "rows"] [])
    (F_Short_init : SU.FunS P K "__init__" "Short.__init__" s_Short_init f_Short_init fd_Short_init Y.aH) (b_Short_init : Binds K fd_Short_init ["self", "rules", "most"] [])
    (F_Short_need_fit : SU.FunS P K "need_fit" "Short.need_fit" s_Short_need_fit f_Short_need_fit fd_Short_need_fit Y.aH) (b_Short_need_fit : Binds K fd_Short_need_fit ["self", "rows"] [])
    (M_law_calls : FunM K base mg "_law_calls" "_law_calls" s_law_calls f_law_calls fd_law_calls c_law_calls p_law_calls) (m_law_calls : mg "_law_calls" = some (.ref f_law_calls)) (q_law_calls : (p_law_calls, ((("_law_calls" : Str) ++ ".<locals>.") ++ "<lambda>")) ∈ TB0) (u_law_calls : ∀ p ∈ TB0, p.1 = p_law_calls → p.2 = ((("_law_calls" : Str) ++ ".<locals>.") ++ "<lambda>"))
    (M_law_of_logs : FunM K base mg "_law_of_logs" "_law_of_logs" s_law_of_logs f_law_of_logs fd_law_of_logs c_law_of_logs p_law_of_logs) (m_law_of_logs : mg "_law_of_logs" = some (.ref f_law_of_logs)) (q_law_of_logs : (p_law_of_logs, ((("_law_of_logs" : Str) ++ ".<locals>.") ++ "<lambda>")) ∈ TB0) (u_law_of_logs : ∀ p ∈ TB0, p.1 = p_law_of_logs → p.2 = ((("_law_of_logs" : Str) ++ ".<locals>.") ++ "<lambda>"))
    (K_Rules : Mk K Z.aR f_Rules_init)
    (K_Table : Mk K Y.aT f_Table_init)
    (K_Log : Mk K Y.aL f_Log_init)
    (K_Strict : Mk K Y.aS f_Log_init)
    (K_Short : Mk K Y.aH f_Short_init)
    (K_StrictShort : Mk K Y.aB f_Short_init)
    (C_Rules : StX.CallO K Z.aR f_Rules_call)
    (C_Table : StX.CallO K Y.aT f_Table_call)
    (C_Log : StX.CallO K Y.aL f_Log_call)
    (C_Short : StX.CallO K Y.aH f_Log_call)
    (D_Rules : ClX.CRead K Z.aR mc_Rules) (E_Rules : ClX.CMet K Z.aR mc_Rules "read" pr_Rules f_Rules_read)
    (D_Table : ClX.CRead K Y.aT mc_Table) (E_Table : ClX.CMet K Y.aT mc_Table "read" pr_Table f_Table_read)
    (P_Rules_width : PropOf K Z.aR "width" pp_Rules_width f_Rules_width)
    (P_Rules_rules : PropOf K Z.aR "rules" pp_Rules_rules f_Rules_rules)
    (P_Table_width : PropOf K Y.aT "width" pp_Table_width f_Table_width)
    (P_Table_rows : PropOf K Y.aT "rows" pp_Table_rows f_Table_rows)
    (O_Table_Add : PySem.W.OpC K Y.aT .Add f_Table_add)
    (O_Table_Mult : PySem.W.OpC K Y.aT .Mult f_Table_mul)
    (O_Rules_Add : PySem.W.OpC K Z.aR .Add f_Rules_add)
    (A_Table_text : Meth K Y.aT "text" f_Table_text)
    (A_Log_add : Meth K Y.aL "add" f_Log_add)
    (A_Log_drop : Meth K Y.aL "drop" f_Log_drop)
    (A_Log_assign_table : Meth K Y.aL "assign_table" f_Log_assign_table)
    (A_Log_undo : Meth K Y.aL "undo" f_Log_undo)
    (A_Strict_add : Meth K Y.aS "add" f_Log_add)
    (A_Strict_assign_table : Meth K Y.aS "assign_table" f_Log_assign_table)
    (A_Strict_need_fit : Meth K Y.aS "need_fit" f_Strict_need_fit)
    (A_Strict_become : Meth K Y.aS "become" f_Log_become)
    (A_Short_add : Meth K Y.aH "add" f_Log_add)
    (A_Short_need_fit : Meth K Y.aH "need_fit" f_Short_need_fit)
    (A_Short_become : Meth K Y.aH "become" f_Log_become)
    (S_Log : SetOf K Y.aL "table" ps_Log f_Log_table2)
    (S_Strict : SetOf K Y.aS "table" ps_Strict f_Log_table2)
    (SO_fitS : SU.SupOk K Y.aS Y.aS "need_fit" f_Log_need_fit) (SO_fitH : SU.SupOk K Y.aH Y.aH "need_fit" f_Log_need_fit) (SO_initH : SU.SupOk K Y.aH Y.aH "__init__" f_Log_init)
    (opT : ∀ T, T = "NoneType" ∨ T = "bool" ∨ T = "str" ∨ T = "int" ∨ T = "list" ∨ T = "dict" ∨ T = "tuple" → RArg K Y.aT .Add (.type T)) (opR : ∀ T, T = "NoneType" ∨ T = "bool" ∨ T = "str" ∨ T = "int" ∨ T = "list" ∨ T = "dict" ∨ T = "tuple" → RArg K Z.aR .Add (.type T)) (opM : RArg K Y.aT .Mult (.ref Z.aR)) (noStop : PySem.W.subIn K (.ref (Y.ex 9)) (.type "StopIteration") = some false) (hST : Y.aS ≠ Y.aT) (hHT : Y.aH ≠ Y.aT) :
    FnOk P w K mg base CX0 15 f_law fd_law ["_law_script"] (spLaw10 K TB0) := by
  have b_is_integer : Binds K fd_is_integer ["thing"] [] := F_is_integer.binds (ps := ["thing"]) fun _ _ _ _ _ _ us hl => match us, hl with | [_], _ => rfl
  have b_is_between : Binds K fd_is_between ["thing", "low", "high"] [] := F_is_between.binds (ps := ["thing", "low", "high"]) fun _ _ _ _ _ _ us hl => match us, hl with | [_, _, _], _ => rfl
  have b_need_width : Binds K fd_need_width ["thing"] [] := F_need_width.binds (ps := ["thing"]) fun _ _ _ _ _ _ us hl => match us, hl with | [_], _ => rfl
  have b_is_column : Binds K fd_is_column ["thing", "width"] [] := F_is_column.binds (ps := ["thing", "width"]) fun _ _ _ _ _ _ us hl => match us, hl with | [_, _], _ => rfl
  have b_is_rule : Binds K fd_is_rule ["thing", "width"] [] := F_is_rule.binds (ps := ["thing", "width"]) fun _ _ _ _ _ _ us hl => match us, hl with | [_, _], _ => rfl
  have b_need_rule : Binds K fd_need_rule ["thing", "width"] [] := F_need_rule.binds (ps := ["thing", "width"]) fun _ _ _ _ _ _ us hl => match us, hl with | [_, _], _ => rfl
  have b_are_rules : Binds K fd_are_rules ["things", "width"] [] := F_are_rules.binds (ps := ["things", "width"]) fun _ _ _ _ _ _ us hl => match us, hl with | [_, _], _ => rfl
  have b_need_rules : Binds K fd_need_rules ["thing"] [] := F_need_rules.binds (ps := ["thing"]) fun _ _ _ _ _ _ us hl => match us, hl with | [_], _ => rfl
  have b_need_table : Binds K fd_need_table ["thing"] [] := F_need_table.binds (ps := ["thing"]) fun _ _ _ _ _ _ us hl => match us, hl with | [_], _ => rfl
  have b_need_like : Binds K fd_need_like ["one", "other"] [] := F_need_like.binds (ps := ["one", "other"]) fun _ _ _ _ _ _ us hl => match us, hl with | [_, _], _ => rfl
  have b_table_of : Binds K fd_table_of ["width", "rows"] [] := F_table_of.binds (ps := ["width", "rows"]) fun _ _ _ _ _ _ us hl => match us, hl with | [_, _], _ => rfl
  have b_is_row : Binds K fd_is_row ["thing", "width"] [] := F_is_row.binds (ps := ["thing", "width"]) fun _ _ _ _ _ _ us hl => match us, hl with | [_, _], _ => rfl
  have b_are_rows : Binds K fd_are_rows ["things", "width"] [] := F_are_rows.binds (ps := ["things", "width"]) fun _ _ _ _ _ _ us hl => match us, hl with | [_, _], _ => rfl
  have b_number_of : Binds K fd_number_of ["word"] [] := F_number_of.binds (ps := ["word"]) fun _ _ _ _ _ _ us hl => match us, hl with | [_], _ => rfl
  have b_verdict : Binds K fd_verdict ["rules", "rule"] [] := F_verdict.binds (ps := ["rules", "rule"]) fun _ _ _ _ _ _ us hl => match us, hl with | [_, _], _ => rfl
  have b_shows_verdict : Binds K fd_shows_verdict ["rules", "rule", "thing"] [] := F_shows_verdict.binds (ps := ["rules", "rule", "thing"]) fun _ _ _ _ _ _ us hl => match us, hl with | [_, _, _], _ => rfl
  have b_walk : Binds K fd_walk ["rules", "a", "b"] [] := F_walk.binds (ps := ["rules", "a", "b"]) fun _ _ _ _ _ _ us hl => match us, hl with | [_, _, _], _ => rfl
  have b_groups : Binds K fd_groups ["rules"] [] := F_groups.binds (ps := ["rules"]) fun _ _ _ _ _ _ us hl => match us, hl with | [_], _ => rfl
  have b_model : Binds K fd_model ["rules"] [] := F_model.binds (ps := ["rules"]) fun _ _ _ _ _ _ us hl => match us, hl with | [_], _ => rfl
  have b_least : Binds K fd_least ["rules"] [] := F_least.binds (ps := ["rules"]) fun _ _ _ _ _ _ us hl => match us, hl with | [_], _ => rfl
  have b_following : Binds K fd_following ["rules"] [] := F_following.binds (ps := ["rules"]) fun _ _ _ _ _ _ us hl => match us, hl with | [_], _ => rfl
  have b_holds : Binds K fd_holds ["rows", "rule"] [] := F_holds.binds (ps := ["rows", "rule"]) fun _ _ _ _ _ _ us hl => match us, hl with | [_, _], _ => rfl
  have b_law_cell : Binds K fd_law_cell ["_law_script", "_law_index"] [] := F_law_cell.binds (ps := ["_law_script", "_law_index"]) fun _ _ _ _ _ _ us hl => match us, hl with | [_, _], _ => rfl
  have b_law_source : Binds K fd_law_source ["_law_cell_here"] [] := F_law_source.binds (ps := ["_law_cell_here"]) fun _ _ _ _ _ _ us hl => match us, hl with | [_], _ => rfl
  have b_law_draw : Binds K fd_law_draw ["_law_source_here", "_law_many"] [] := F_law_draw.binds (ps := ["_law_source_here", "_law_many"]) fun _ _ _ _ _ _ us hl => match us, hl with | [_, _], _ => rfl
  have b_law_choose : Binds K fd_law_choose ["_law_source_here", "_law_values"] [] := F_law_choose.binds (ps := ["_law_source_here", "_law_values"]) fun _ _ _ _ _ _ us hl => match us, hl with | [_, _], _ => rfl
  have b_law_is_equal : Binds K fd_law_is_equal ["_law_actual", "_law_expected"] [] := F_law_is_equal.binds (ps := ["_law_actual", "_law_expected"]) fun _ _ _ _ _ _ us hl => match us, hl with | [_, _], _ => rfl
  have b_law_marks : Binds K fd_law_marks ["_law_error"] [] := F_law_marks.binds (ps := ["_law_error"]) fun _ _ _ _ _ _ us hl => match us, hl with | [_], _ => rfl
  have b_law_raised : Binds K fd_law_raised ["_law_call"] [] := F_law_raised.binds (ps := ["_law_call"]) fun _ _ _ _ _ _ us hl => match us, hl with | [_], _ => rfl
  have b_law : Binds K fd_law ["_law_script"] [] := F_law.binds (ps := ["_law_script"]) fun _ _ _ _ _ _ us hl => match us, hl with | [_], _ => rfl
  have b_Rules_read : Binds K fd_Rules_read ["cls", "width", "text"] [] := F_Rules_read.binds (ps := ["cls", "width", "text"]) fun _ _ _ _ _ _ us hl => match us, hl with | [_, _, _], _ => rfl
  have b_Rules_call : Binds K fd_Rules_call ["self", "rule"] [] := F_Rules_call.binds (ps := ["self", "rule"]) fun _ _ _ _ _ _ us hl => match us, hl with | [_, _], _ => rfl
  have b_Rules_add : Binds K fd_Rules_add ["self", "other"] [] := F_Rules_add.binds (ps := ["self", "other"]) fun _ _ _ _ _ _ us hl => match us, hl with | [_, _], _ => rfl
  have b_Rules_width : Binds K fd_Rules_width ["self"] [] := F_Rules_width.binds (ps := ["self"]) fun _ _ _ _ _ _ us hl => match us, hl with | [_], _ => rfl
  have b_Rules_rules : Binds K fd_Rules_rules ["self"] [] := F_Rules_rules.binds (ps := ["self"]) fun _ _ _ _ _ _ us hl => match us, hl with | [_], _ => rfl
  have b_Table_read : Binds K fd_Table_read ["cls", "width", "text"] [] := F_Table_read.binds (ps := ["cls", "width", "text"]) fun _ _ _ _ _ _ us hl => match us, hl with | [_, _, _], _ => rfl
  have b_Table_text : Binds K fd_Table_text ["self"] [] := F_Table_text.binds (ps := ["self"]) fun _ _ _ _ _ _ us hl => match us, hl with | [_], _ => rfl
  have b_Table_call : Binds K fd_Table_call ["self", "rule"] [] := F_Table_call.binds (ps := ["self", "rule"]) fun _ _ _ _ _ _ us hl => match us, hl with | [_, _], _ => rfl
  have b_Table_add : Binds K fd_Table_add ["self", "other"] [] := F_Table_add.binds (ps := ["self", "other"]) fun _ _ _ _ _ _ us hl => match us, hl with | [_, _], _ => rfl
  have b_Table_mul : Binds K fd_Table_mul ["self", "other"] [] := F_Table_mul.binds (ps := ["self", "other"]) fun _ _ _ _ _ _ us hl => match us, hl with | [_, _], _ => rfl
  have b_Table_width : Binds K fd_Table_width ["self"] [] := F_Table_width.binds (ps := ["self"]) fun _ _ _ _ _ _ us hl => match us, hl with | [_], _ => rfl
  have b_Table_rows : Binds K fd_Table_rows ["self"] [] := F_Table_rows.binds (ps := ["self"]) fun _ _ _ _ _ _ us hl => match us, hl with | [_], _ => rfl
  have b_Log_init : Binds K fd_Log_init ["self", "rules"] [] := F_Log_init.binds (ps := ["self", "rules"]) fun _ _ _ _ _ _ us hl => match us, hl with | [_, _], _ => rfl
  have b_Log_need_fit : Binds K fd_Log_need_fit ["self", "rows"] [] := F_Log_need_fit.binds (ps := ["self", "rows"]) fun _ _ _ _ _ _ us hl => match us, hl with | [_, _], _ => rfl
  have b_Log_add : Binds K fd_Log_add ["self", "row"] [] := F_Log_add.binds (ps := ["self", "row"]) fun _ _ _ _ _ _ us hl => match us, hl with | [_, _], _ => rfl
  have b_Log_call : Binds K fd_Log_call ["self", "row"] [] := F_Log_call.binds (ps := ["self", "row"]) fun _ _ _ _ _ _ us hl => match us, hl with | [_, _], _ => rfl
  have b_Log_drop : Binds K fd_Log_drop ["self", "row"] [] := F_Log_drop.binds (ps := ["self", "row"]) fun _ _ _ _ _ _ us hl => match us, hl with | [_, _], _ => rfl
  have b_Log_assign_table : Binds K fd_Log_assign_table ["self", "table"] [] := F_Log_assign_table.binds (ps := ["self", "table"]) fun _ _ _ _ _ _ us hl => match us, hl with | [_, _], _ => rfl
  have b_Log_table2 : Binds K fd_Log_table2 ["self", "value"] [] := F_Log_table2.binds (ps := ["self", "value"]) fun _ _ _ _ _ _ us hl => match us, hl with | [_, _], _ => rfl
  have b_Log_become : Binds K fd_Log_become ["self", "table"] [] := F_Log_become.binds (ps := ["self", "table"]) fun _ _ _ _ _ _ us hl => match us, hl with | [_, _], _ => rfl
  have b_Log_undo : Binds K fd_Log_undo ["self"] [] := F_Log_undo.binds (ps := ["self"]) fun _ _ _ _ _ _ us hl => match us, hl with | [_], _ => rfl
  have o_is_integerO : FnOk P w K mg base CX0 1 f_is_integer fd_is_integer ["thing"] (spV P_isint) := by apply okO_is_integer <;> assumption
  have n_is_integerO : Fn1 P w K mg base "is_integer" 1 (spV P_isint) := ⟨f_is_integer, fd_is_integer, _, o_is_integerO, m_is_integer, F_is_integer.kp, b_is_integer⟩
  have o_is_integerS : FnOk P w K mg base CX0 1 f_is_integer fd_is_integer ["thing"] (spR R_isint2) := by apply okS_is_integer <;> assumption
  have n_is_integerS : Fn1 P w K mg base "is_integer" 1 (spR R_isint2) := ⟨f_is_integer, fd_is_integer, _, o_is_integerS, m_is_integer, F_is_integer.kp, b_is_integer⟩
  have o_is_integer : FnOk P w K mg base CX0 1 f_is_integer fd_is_integer ["thing"] (spR R_isint) := by apply ok_is_integer <;> assumption
  have n_is_integer : Fn1 P w K mg base "is_integer" 1 (spR R_isint) := ⟨f_is_integer, fd_is_integer, _, o_is_integer, m_is_integer, F_is_integer.kp, b_is_integer⟩
  have o_is_betweenO : FnOk P w K mg base CX0 2 f_is_between fd_is_between ["thing", "low", "high"] (spV P_betw) := by apply okO_is_between <;> assumption
  have n_is_betweenO : Fn1 P w K mg base "is_between" 2 (spV P_betw) := ⟨f_is_between, fd_is_between, _, o_is_betweenO, m_is_between, F_is_between.kp, b_is_between⟩
  have o_is_betweenS : FnOk P w K mg base CX0 2 f_is_between fd_is_between ["thing", "low", "high"] (spR R_betw2) := by apply okS_is_between <;> assumption
  have n_is_betweenS : Fn1 P w K mg base "is_between" 2 (spR R_betw2) := ⟨f_is_between, fd_is_between, _, o_is_betweenS, m_is_between, F_is_between.kp, b_is_between⟩
  have o_is_between : FnOk P w K mg base CX0 2 f_is_between fd_is_between ["thing", "low", "high"] (spR R_betw) := by apply ok_is_between <;> assumption
  have n_is_between : Fn1 P w K mg base "is_between" 2 (spR R_betw) := ⟨f_is_between, fd_is_between, _, o_is_between, m_is_between, F_is_between.kp, b_is_between⟩
  have o_need_width : FnOk P w K mg base CX0 3 f_need_width fd_need_width ["thing"] (spR R_needw) := by apply ok_need_width <;> assumption
  have n_need_width : Fn1 P w K mg base "need_width" 3 (spR R_needw) := ⟨f_need_width, fd_need_width, _, o_need_width, m_need_width, F_need_width.kp, b_need_width⟩
  have o_need_widthX : FnOk P w K mg base (L2.CX P w) 3 f_need_width fd_need_width ["thing"] (spX P_needw (Y.ex 0)) := by apply okX_need_width <;> assumption
  have n_need_widthX : FnX P w K mg base "need_width" 3 (spX P_needw (Y.ex 0)) := ⟨f_need_width, fd_need_width, _, o_need_widthX, m_need_width, F_need_width.kp, b_need_width⟩
  have o_is_column : FnOk P w K mg base CX0 3 f_is_column fd_is_column ["thing", "width"] (spR R_col) := by apply ok_is_column <;> assumption
  have n_is_column : Fn1 P w K mg base "is_column" 3 (spR R_col) := ⟨f_is_column, fd_is_column, _, o_is_column, m_is_column, F_is_column.kp, b_is_column⟩
  have o_is_columnU : FnOk P w K mg base CX0 3 f_is_column fd_is_column ["thing", "width"] (spV P_colU) := by apply okU_is_column <;> assumption
  have n_is_columnU : Fn1 P w K mg base "is_column" 3 (spV P_colU) := ⟨f_is_column, fd_is_column, _, o_is_columnU, m_is_column, F_is_column.kp, b_is_column⟩
  have o_is_rule : FnOk P w K mg base CX0 4 f_is_rule fd_is_rule ["thing", "width"] (spR R_isrule) := by apply ok_is_rule <;> assumption
  have n_is_rule : Fn1 P w K mg base "is_rule" 4 (spR R_isrule) := ⟨f_is_rule, fd_is_rule, _, o_is_rule, m_is_rule, F_is_rule.kp, b_is_rule⟩
  have o_is_ruleO : FnOk P w K mg base CX0 4 f_is_rule fd_is_rule ["thing", "width"] (spV P_isrule) := by apply okO_is_rule <;> assumption
  have n_is_ruleO : Fn1 P w K mg base "is_rule" 4 (spV P_isrule) := ⟨f_is_rule, fd_is_rule, _, o_is_ruleO, m_is_rule, F_is_rule.kp, b_is_rule⟩
  have o_need_ruleX : FnOk P w K mg base (L2.CX P w) 5 f_need_rule fd_need_rule ["thing", "width"] (spX P_needrule (Y.ex 4)) := by apply okX_need_rule <;> assumption
  have n_need_ruleX : FnX P w K mg base "need_rule" 5 (spX P_needrule (Y.ex 4)) := ⟨f_need_rule, fd_need_rule, _, o_need_ruleX, m_need_rule, F_need_rule.kp, b_need_rule⟩
  have o_are_rules : FnOk P w K mg base CX0 5 f_are_rules fd_are_rules ["things", "width"] spArT := by apply ok_are_rulesT <;> assumption
  have n_are_rules : Fn1 P w K mg base "are_rules" 5 spArT := ⟨f_are_rules, fd_are_rules, _, o_are_rules, m_are_rules, F_are_rules.kp, b_are_rules⟩
  have o_are_rulesO : FnOk P w K mg base CX0 5 f_are_rules fd_are_rules ["things", "width"] (spV P_arerules) := by apply okO_are_rules <;> assumption
  have n_are_rulesO : Fn1 P w K mg base "are_rules" 5 (spV P_arerules) := ⟨f_are_rules, fd_are_rules, _, o_are_rulesO, m_are_rules, F_are_rules.kp, b_are_rules⟩
  have o_need_rules : FnOk P w K mg base CX0 1 f_need_rules fd_need_rules ["thing"] (spV (P_isRules Z)) := by apply okO_need_rules <;> assumption
  have n_need_rules : Fn1 P w K mg base "need_rules" 1 (spV (P_isRules Z)) := ⟨f_need_rules, fd_need_rules, _, o_need_rules, m_need_rules, F_need_rules.kp, b_need_rules⟩
  have o_need_rulesX : FnOk P w K mg base (L2.CX P w) 1 f_need_rules fd_need_rules ["thing"] (spX (P_needrulesX Y) (Y.ex 9)) := by apply okX_need_rules <;> assumption
  have n_need_rulesX : FnX P w K mg base "need_rules" 1 (spX (P_needrulesX Y) (Y.ex 9)) := ⟨f_need_rules, fd_need_rules, _, o_need_rulesX, m_need_rules, F_need_rules.kp, b_need_rules⟩
  have o_is_row : FnOk P w K mg base CX0 3 f_is_row fd_is_row ["thing", "width"] (spR R_isrow) := by apply ok_is_row <;> assumption
  have n_is_row : Fn1 P w K mg base "is_row" 3 (spR R_isrow) := ⟨f_is_row, fd_is_row, _, o_is_row, m_is_row, F_is_row.kp, b_is_row⟩
  have o_is_rowO : FnOk P w K mg base CX0 3 f_is_row fd_is_row ["thing", "width"] (spV P_isrow) := by apply okO_is_row <;> assumption
  have n_is_rowO : Fn1 P w K mg base "is_row" 3 (spV P_isrow) := ⟨f_is_row, fd_is_row, _, o_is_rowO, m_is_row, F_is_row.kp, b_is_row⟩
  have o_are_rows : FnOk P w K mg base CX0 4 f_are_rows fd_are_rows ["things", "width"] (spR R_arerows) := by apply ok_are_rowsL <;> assumption
  have n_are_rows : Fn1 P w K mg base "are_rows" 4 (spR R_arerows) := ⟨f_are_rows, fd_are_rows, _, o_are_rows, m_are_rows, F_are_rows.kp, b_are_rows⟩
  have o_are_rowsT : FnOk P w K mg base CX0 4 f_are_rows fd_are_rows ["things", "width"] spArW := by apply ok_are_rowsT <;> assumption
  have n_are_rowsT : Fn1 P w K mg base "are_rows" 4 spArW := ⟨f_are_rows, fd_are_rows, _, o_are_rowsT, m_are_rows, F_are_rows.kp, b_are_rows⟩
  have o_are_rowsO : FnOk P w K mg base CX0 4 f_are_rows fd_are_rows ["things", "width"] (spV P_arerows) := by apply okO_are_rows <;> assumption
  have n_are_rowsO : Fn1 P w K mg base "are_rows" 4 (spV P_arerows) := ⟨f_are_rows, fd_are_rows, _, o_are_rowsO, m_are_rows, F_are_rows.kp, b_are_rows⟩
  have o_need_table : FnOk P w K mg base CX0 1 f_need_table fd_need_table ["thing"] (spV (P_isTable Y)) := by apply okO_need_table <;> assumption
  have n_need_table : Fn1 P w K mg base "need_table" 1 (spV (P_isTable Y)) := ⟨f_need_table, fd_need_table, _, o_need_table, m_need_table, F_need_table.kp, b_need_table⟩
  have o_need_tableX : FnOk P w K mg base (L2.CX P w) 1 f_need_table fd_need_table ["thing"] (spX (P_needtabX Z) (Y.ex 8)) := by apply okX_need_table <;> assumption
  have n_need_tableX : FnX P w K mg base "need_table" 1 (spX (P_needtabX Z) (Y.ex 8)) := ⟨f_need_table, fd_need_table, _, o_need_tableX, m_need_table, F_need_table.kp, b_need_table⟩
  have Pr_Rules_width : PrOk P w K mg base Z.aR "width" "columns" := ⟨pp_Rules_width, f_Rules_width, fd_Rules_width, P_Rules_width, ok_getter F_Rules_width sc_Rules_width_g rfl rfl W.c_Rules W.f_Rules.1, b_Rules_width⟩
  have Pr_Rules_rules : PrOk P w K mg base Z.aR "rules" "kept" := ⟨pp_Rules_rules, f_Rules_rules, fd_Rules_rules, P_Rules_rules, ok_getter F_Rules_rules sc_Rules_rules_g rfl rfl W.c_Rules W.f_Rules.2, b_Rules_rules⟩
  have Pr_Table_width : PrOk P w K mg base Y.aT "width" "columns" := ⟨pp_Table_width, f_Table_width, fd_Table_width, P_Table_width, ok_getter F_Table_width sc_Table_width_g rfl rfl W.c_Table W.f_Table.1, b_Table_width⟩
  have Pr_Table_rows : PrOk P w K mg base Y.aT "rows" "kept" := ⟨pp_Table_rows, f_Table_rows, fd_Table_rows, P_Table_rows, ok_getter F_Table_rows sc_Table_rows_g rfl rfl W.c_Table W.f_Table.2, b_Table_rows⟩
  have o_need_likeA : FnOk P w K mg base (L2.CX P w) 3 f_need_like fd_need_like ["one", "other"] (spX (P_like8 Z) (Y.ex 8)) := by apply okX_like8 <;> assumption
  have n_need_likeA : FnX P w K mg base "need_like" 3 (spX (P_like8 Z) (Y.ex 8)) := ⟨f_need_like, fd_need_like, _, o_need_likeA, m_need_like, F_need_like.kp, b_need_like⟩
  have o_need_likeB : FnOk P w K mg base (L2.CX P w) 3 f_need_like fd_need_like ["one", "other"] (spX (P_like10 Y) (Y.ex 10)) := by apply okX_like10 <;> assumption
  have n_need_likeB : FnX P w K mg base "need_like" 3 (spX (P_like10 Y) (Y.ex 10)) := ⟨f_need_like, fd_need_like, _, o_need_likeB, m_need_like, F_need_like.kp, b_need_like⟩
  have o_need_like : FnOk P w K mg base CX0 3 f_need_like fd_need_like ["one", "other"] (spV (P_like Y)) := by apply okO_like <;> assumption
  have n_need_like : Fn1 P w K mg base "need_like" 3 (spV (P_like Y)) := ⟨f_need_like, fd_need_like, _, o_need_like, m_need_like, F_need_like.kp, b_need_like⟩
  have o_table_ofX : FnOk P w K mg base (L2.CX P w) 1 f_table_of fd_table_of ["width", "rows"] (spX P_tableof (Y.ex 11)) := by apply okX_table_of <;> assumption
  have n_table_ofX : FnX P w K mg base "table_of" 1 (spX P_tableof (Y.ex 11)) := ⟨f_table_of, fd_table_of, _, o_table_ofX, m_table_of, F_table_of.kp, b_table_of⟩
  have o_number_of : FnOk P w K mg base CX0 1 f_number_of fd_number_of ["word"] (spR R_num) := by apply ok_number_of <;> assumption
  have n_number_of : Fn1 P w K mg base "number_of" 1 (spR R_num) := ⟨f_number_of, fd_number_of, _, o_number_of, m_number_of, F_number_of.kp, b_number_of⟩
  have VC : TxtC Z K := ⟨W.c_Rules, W.f_Rules.1, W.f_Rules.2⟩
  have r_initR : FnR P w K mg base CX0 6 f_Rules_init (spInitS Z.aR) := by apply ok_init <;> assumption
  have r_initT : FnR P w K mg base CX0 6 f_Table_init (spStar 2 (spInitT Y.aT)) := by apply ok_initT <;> assumption
  have K_R : MkOk P w K mg base CX0 Z.aR 6 (spInitS Z.aR) := ⟨_, K_Rules, r_initR⟩
  have K_T : MkOk P w K mg base CX0 Y.aT 6 (spStar 2 (spInitT Y.aT)) := ⟨_, K_Table, r_initT⟩
  have r_T0 : FnR P w K mg base (L2.CX P w) 6 f_Table_init (spStar 2 (spX P_initT0 (Y.ex 0))) := by apply okX_initT0 <;> assumption
  have a_T0 : MkOk P w K mg base (L2.CX P w) Y.aT 6 (spStar 2 (spX P_initT0 (Y.ex 0))) := ⟨_, K_Table, r_T0⟩
  have r_T1 : FnR P w K mg base (L2.CX P w) 6 f_Table_init (spStar 2 (spX P_initR3 (Y.ex 1))) := by apply okX_initT1 <;> assumption
  have a_T1 : MkOk P w K mg base (L2.CX P w) Y.aT 6 (spStar 2 (spX P_initR3 (Y.ex 1))) := ⟨_, K_Table, r_T1⟩
  have r_R0 : FnR P w K mg base (L2.CX P w) 6 f_Rules_init (spStar 2 (spX P_initR0 (Y.ex 0))) := by apply okX_initR0 <;> assumption
  have a_R0 : MkOk P w K mg base (L2.CX P w) Z.aR 6 (spStar 2 (spX P_initR0 (Y.ex 0))) := ⟨_, K_Rules, r_R0⟩
  have r_R3 : FnR P w K mg base (L2.CX P w) 6 f_Rules_init (spStar 2 (spX P_initR3 (Y.ex 3))) := by apply okX_initR3 <;> assumption
  have a_R3 : MkOk P w K mg base (L2.CX P w) Z.aR 6 (spStar 2 (spX P_initR3 (Y.ex 3))) := ⟨_, K_Rules, r_R3⟩
  have o_Table_text : FnOk P w K mg base CX0 1 f_Table_text fd_Table_text ["self"] (spV (P_textT Y)) := by apply ok_textT <;> assumption
  have e_Table_text : MeOk P w K mg base CX0 Y.aT "text" 1 (spV (P_textT Y)) := ⟨f_Table_text, fd_Table_text, _, A_Table_text, o_Table_text, b_Table_text⟩
  have o_rd7 : FnOk P w K mg base CX0 8 f_Table_read fd_Table_read ["cls", "width", "text"] (spRead7 Y) := by apply ok_read7 <;> assumption
  have a_rd7 : CmOk P w K mg base CX0 Y.aT "read" 8 (spRead7 Y) := ⟨mc_Table, pr_Table, f_Table_read, D_Table, E_Table, raw0 o_rd7 b_Table_read⟩
  have o_rT0 : FnOk P w K mg base (L2.CX P w) 8 f_Table_read fd_Table_read ["cls", "width", "text"] (spX P_readT0 (Y.ex 0)) := by apply okX_readT0 <;> assumption
  have a_rT0 : CmOk P w K mg base (L2.CX P w) Y.aT "read" 8 (spX P_readT0 (Y.ex 0)) := ⟨mc_Table, pr_Table, f_Table_read, D_Table, E_Table, raw0 o_rT0 b_Table_read⟩
  have o_rT7 : FnOk P w K mg base (L2.CX P w) 8 f_Table_read fd_Table_read ["cls", "width", "text"] (spX P_read (Y.ex 7)) := by apply okX_readT7 <;> assumption
  have a_rT7 : CmOk P w K mg base (L2.CX P w) Y.aT "read" 8 (spX P_read (Y.ex 7)) := ⟨mc_Table, pr_Table, f_Table_read, D_Table, E_Table, raw0 o_rT7 b_Table_read⟩
  have o_rR7 : FnOk P w K mg base (L2.CX P w) 8 f_Rules_read fd_Rules_read ["cls", "width", "text"] (spX P_read (Y.ex 7)) := by apply okX_readR <;> assumption
  have a_rR7 : CmOk P w K mg base (L2.CX P w) Z.aR "read" 8 (spX P_read (Y.ex 7)) := ⟨mc_Rules, pr_Rules, f_Rules_read, D_Rules, E_Rules, raw0 o_rR7 b_Rules_read⟩
  have o_cR : FnOk P w K mg base (L2.CX P w) 6 f_Rules_call fd_Rules_call ["self", "rule"] (spX (P_callR Z.aR) (Y.ex 4)) := by apply okX_callR <;> assumption
  have a_cR : CaOk P w K mg base (L2.CX P w) Z.aR 6 (spX (P_callR Z.aR) (Y.ex 4)) := ⟨f_Rules_call, C_Rules, raw0 o_cR b_Rules_call⟩
  have o_cT : FnOk P w K mg base (L2.CX P w) 6 f_Table_call fd_Table_call ["self", "rule"] (spX (P_callR Y.aT) (Y.ex 4)) := by apply okX_callT <;> assumption
  have a_cT : CaOk P w K mg base (L2.CX P w) Y.aT 6 (spX (P_callR Y.aT) (Y.ex 4)) := ⟨f_Table_call, C_Table, raw0 o_cT b_Table_call⟩
  have o_verdictX : FnOk P w K mg base (L2.CX P w) 6 f_verdict fd_verdict ["rules", "rule"] (spX (P_verd2 Z) (Y.ex 4)) := by apply okX_verdict <;> assumption
  have n_verdictX : FnX P w K mg base "verdict" 6 (spX (P_verd2 Z) (Y.ex 4)) := ⟨f_verdict, fd_verdict, _, o_verdictX, m_verdict, F_verdict.kp, b_verdict⟩
  have o_shows_verdictX : FnOk P w K mg base (L2.CX P w) 6 f_shows_verdict fd_shows_verdict ["rules", "rule", "thing"] (spX (P_verd3 Z) (Y.ex 4)) := by apply okX_shows <;> assumption
  have n_shows_verdictX : FnX P w K mg base "shows_verdict" 6 (spX (P_verd3 Z) (Y.ex 4)) := ⟨f_shows_verdict, fd_shows_verdict, _, o_shows_verdictX, m_shows_verdict, F_shows_verdict.kp, b_shows_verdict⟩
  have o_walkX : FnOk P w K mg base (L2.CX P w) 4 f_walk fd_walk ["rules", "a", "b"] (spX (P_walk Z) (Y.ex 5)) := by apply okX_walk <;> assumption
  have n_walkX : FnX P w K mg base "walk" 4 (spX (P_walk Z) (Y.ex 5)) := ⟨f_walk, fd_walk, _, o_walkX, m_walk, F_walk.kp, b_walk⟩
  have o_modelX : FnOk P w K mg base (L2.CX P w) 2 f_model fd_model ["rules"] (spX P_odd1 (Y.ex 9)) := by apply okX_model <;> assumption
  have n_modelX : FnX P w K mg base "model" 2 (spX P_odd1 (Y.ex 9)) := ⟨f_model, fd_model, _, o_modelX, m_model, F_model.kp, b_model⟩
  have o_groupsX : FnOk P w K mg base (L2.CX P w) 2 f_groups fd_groups ["rules"] (spX P_odd1 (Y.ex 9)) := by apply okX_groups <;> assumption
  have n_groupsX : FnX P w K mg base "groups" 2 (spX P_odd1 (Y.ex 9)) := ⟨f_groups, fd_groups, _, o_groupsX, m_groups, F_groups.kp, b_groups⟩
  have o_leastX : FnOk P w K mg base (L2.CX P w) 2 f_least fd_least ["rules"] (spX P_odd1 (Y.ex 9)) := by apply okX_least <;> assumption
  have n_leastX : FnX P w K mg base "least" 2 (spX P_odd1 (Y.ex 9)) := ⟨f_least, fd_least, _, o_leastX, m_least, F_least.kp, b_least⟩
  have g_foll : GnOk P w K mg base "following" 2 (spFollX Y) := ⟨f_following, fd_following, _, gokX_following F_following n_need_rulesX, m_following, F_following.kp, b_following⟩
  have o_aT8 : FnOk P w K mg base (L2.CX P w) 4 f_Table_add fd_Table_add ["self", "other"] (spX (P_like8 Z) (Y.ex 8)) := by apply okX_addT8 <;> assumption
  have a_aT8 : OpOk P w K mg base Y.aT .Add 4 (spX (P_like8 Z) (Y.ex 8)) := ⟨f_Table_add, O_Table_Add, raw0 o_aT8 b_Table_add⟩
  have o_mT8 : FnOk P w K mg base (L2.CX P w) 4 f_Table_mul fd_Table_mul ["self", "other"] (spX (P_like8 Z) (Y.ex 8)) := by apply okX_mulT8 <;> assumption
  have a_mT8 : OpOk P w K mg base Y.aT .Mult 4 (spX (P_like8 Z) (Y.ex 8)) := ⟨f_Table_mul, O_Table_Mult, raw0 o_mT8 b_Table_mul⟩
  have o_aR9 : FnOk P w K mg base (L2.CX P w) 9 f_Rules_add fd_Rules_add ["self", "other"] (spX (P_addR9 Z) (Y.ex 9)) := by apply okX_addR9 <;> assumption
  have a_aR9 : OpOk P w K mg base Z.aR .Add 9 (spX (P_addR9 Z) (Y.ex 9)) := ⟨f_Rules_add, O_Rules_Add, raw0 o_aR9 b_Rules_add⟩
  have o_aR10 : FnOk P w K mg base (L2.CX P w) 9 f_Rules_add fd_Rules_add ["self", "other"] (spX (P_addR10 Z) (Y.ex 10)) := by apply okX_addR10 <;> assumption
  have a_aR10 : OpOk P w K mg base Z.aR .Add 9 (spX (P_addR10 Z) (Y.ex 10)) := ⟨f_Rules_add, O_Rules_Add, raw0 o_aR10 b_Rules_add⟩
  have o_aT10 : FnOk P w K mg base (L2.CX P w) 4 f_Table_add fd_Table_add ["self", "other"] (spX (P_like10 Y) (Y.ex 10)) := by apply okX_addT10 <;> assumption
  have a_aT10 : OpOk P w K mg base Y.aT .Add 4 (spX (P_like10 Y) (Y.ex 10)) := ⟨f_Table_add, O_Table_Add, raw0 o_aT10 b_Table_add⟩
  have o_aT11 : FnOk P w K mg base (L2.CX P w) 4 f_Table_add fd_Table_add ["self", "other"] (spX (P_addT11 Y) (Y.ex 11)) := by apply okX_addT11 <;> assumption
  have a_aT11 : OpOk P w K mg base Y.aT .Add 4 (spX (P_addT11 Y) (Y.ex 11)) := ⟨f_Table_add, O_Table_Add, raw0 o_aT11 b_Table_add⟩
  have o_mT11 : FnOk P w K mg base (L2.CX P w) 4 f_Table_mul fd_Table_mul ["self", "other"] (spX (P_mulT11 Y) (Y.ex 11)) := by apply okX_mulT11 <;> assumption
  have a_mT11 : OpOk P w K mg base Y.aT .Mult 4 (spX (P_mulT11 Y) (Y.ex 11)) := ⟨f_Table_mul, O_Table_Mult, raw0 o_mT11 b_Table_mul⟩
  have LL : LogC K Y.aL := ⟨W.c_Log, W.f_Log.1, W.f_Log.2.1, W.f_Log.2.2⟩
  have LS0 : LogC K Y.aS := ⟨W.c_Strict, W.f_Strict.1, W.f_Strict.2.1, W.f_Strict.2.2⟩
  have LH : LogC K Y.aH := ⟨W.c_Short, W.f_Short.1, W.f_Short.2.1, W.f_Short.2.2.1⟩
  have cH := W.c_Short
  have nl := W.f_Short.2.2.2
  have o_sh6 : FnOk P w K mg base (L2.CX P w) 4 f_Short_init fd_Short_init ["self", "rules", "most"] (spX (P_short6 Z) (Y.ex 6)) := by apply okX_initH <;> assumption
  have a_sh6 : MkOk P w K mg base (L2.CX P w) Y.aH 4 (spX (P_short6 Z) (Y.ex 6)) := ⟨_, K_Short, raw0 o_sh6 b_Short_init⟩
  have a_sb6 : MkOk P w K mg base (L2.CX P w) Y.aB 4 (spX (P_short6 Z) (Y.ex 6)) := ⟨_, K_StrictShort, raw0 o_sh6 b_Short_init⟩
  have o_lg9 : FnOk P w K mg base (L2.CX P w) 2 f_Log_init fd_Log_init ["self", "rules"] (spX (P_log9 Y) (Y.ex 9)) := okX_initL (C := Y.aL) F_Log_init T n_need_rulesX
  have a_lg9 : MkOk P w K mg base (L2.CX P w) Y.aL 2 (spX (P_log9 Y) (Y.ex 9)) := ⟨_, K_Log, raw0 o_lg9 b_Log_init⟩
  have XA : PrA P w K mg base Z Y := ⟨a_T0, a_T1, a_R0, a_R3, a_rT0, a_rT7, a_rR7, a_cR, a_cT, n_verdictX, n_shows_verdictX, n_walkX, a_sh6, a_sb6, a_lg9, n_modelX, n_groupsX, n_leastX, g_foll, noStop, a_aT8, a_mT8, a_aR9, a_aR10, a_aT10, a_aT11, a_mT11, opT, opR, opM⟩
  have o_holds : FnOk P w K mg base CX0 1 f_holds fd_holds ["rows", "rule"] (spR R_holds) := by apply ok_holds <;> assumption
  have n_holds : Fn1 P w K mg base "holds" 1 (spR R_holds) := ⟨f_holds, fd_holds, _, o_holds, m_holds, F_holds.kp, b_holds⟩
  have o_initL : FnOk P w K mg base CX0 8 f_Log_init fd_Log_init ["self", "rules"] (spInitL Z Y Y.aL []) := ok_initL LL (by decide) F_Log_init T U W n_need_rules K_T Pr_Rules_width
  have o_initS : FnOk P w K mg base CX0 8 f_Log_init fd_Log_init ["self", "rules"] (spInitL Z Y Y.aS []) := ok_initL LS0 (by decide) F_Log_init T U W n_need_rules K_T Pr_Rules_width
  have o_initHs : FnOk P w K mg base CX0 8 f_Log_init fd_Log_init ["self", "rules"] (spInitL Z Y Y.aH fsH) := ok_initL LH (by decide) F_Log_init T U W n_need_rules K_T Pr_Rules_width
  have K_L : MkOk P w K mg base CX0 Y.aL 8 (spInitL Z Y Y.aL []) := ⟨_, K_Log, raw0 o_initL b_Log_init⟩
  have K_S : MkOk P w K mg base CX0 Y.aS 8 (spInitL Z Y Y.aS []) := ⟨_, K_Strict, raw0 o_initS b_Log_init⟩
  have K_H : MkOk P w K mg base CX0 Y.aH 9 (spInitH Z Y) := ⟨_, K_Short, raw0 (ok_initH SG F_Short_init SO_initH cH nl (raw0 o_initHs b_Log_init) T U n_need_rules n_is_between) b_Short_init⟩
  have o_fitL := ok_fitL (P := P) (w := w) (base := base) F_Log_need_fit T U
  have r_fitL := raw0 o_fitL b_Log_need_fit
  have o_fitS := ok_fitS SG F_Strict_need_fit SO_fitS LS0 r_fitL T U W Pr_Rules_rules n_holds
  have o_fitSX := okX_fitS SG F_Strict_need_fit SO_fitS LS0 r_fitL T U V W Pr_Rules_rules n_holds
  have o_fitH := ok_fitH (Y := Y) SG F_Short_need_fit SO_fitH cH nl r_fitL T
  have o_fitHX := okX_fitH (w := w) (base := base) (gL := f_Log_need_fit) F_Short_need_fit cH nl T V
  have e_fitS : MeOk P w K mg base CX0 Y.aS "need_fit" 3 (spFitS Z Y.aS true (Y.ex 13)) := ⟨_, _, _, A_Strict_need_fit, o_fitS, b_Strict_need_fit⟩
  have e_fitSX : MeOk P w K mg base (L2.CX P w) Y.aS "need_fit" 3 (spFitS Z Y.aS false (Y.ex 13)) := ⟨_, _, _, A_Strict_need_fit, o_fitSX, b_Strict_need_fit⟩
  have e_fitH : MeOk P w K mg base CX0 Y.aH "need_fit" 3 (spFitH Y.aH true (Y.ex 11)) := ⟨_, _, _, A_Short_need_fit, o_fitH, b_Short_need_fit⟩
  have e_fitHX : MeOk P w K mg base (L2.CX P w) Y.aH "need_fit" 3 (spFitH Y.aH false (Y.ex 11)) := ⟨_, _, _, A_Short_need_fit, o_fitHX, b_Short_need_fit⟩
  have o_bec := ok_become (P := P) (w := w) (base := base) F_Log_become T
  have e_becS : MeOk P w K mg base CX0 Y.aS "become" 1 (spBecome K) := ⟨_, _, _, A_Strict_become, o_bec, b_Log_become⟩
  have e_becH : MeOk P w K mg base CX0 Y.aH "become" 1 (spBecome K) := ⟨_, _, _, A_Short_become, o_bec, b_Log_become⟩
  have fitS : FitOk Z Y.aS [] (spFitS Z Y.aS true (Y.ex 13)) := fun G H Q E x dx p r st rv e hx hR hd k => ⟨G, x, dx, _, r, rv, [(5, 6)], rfl, e, hx, fldL_given, hR, hd, by decide, rfl, fun _ => k, fun z => nomatch z⟩
  have fitH : FitOk Z Y.aH fsH (spFitH Y.aH true (Y.ex 11)) := fun G H Q E x dx p r st rv e hx hR hd k => ⟨G, x, dx, _, rv, _, rfl, e, hx, by rw [fldL_other (by decide +kernel) (by decide +kernel) (by decide +kernel)]; rfl, hd, by decide, rfl, fun _ => k, fun z => nomatch z⟩
  have fitSX : FitX Z Y.aS [] (spFitS Z Y.aS false (Y.ex 13)) (Y.ex 13) (5, 6) (5, 7) := fun G H Q E x dx p r st rv e hx hR hd xr => ⟨G, x, dx, _, r, rv, [(5, 6), (5, 7)], rfl, e, hx, fldL_given, hR, hd, by decide, rfl, (fun z => nomatch z), fun _ => xr⟩
  have fitSY : FitX Z Y.aS [] (spFitS Z Y.aS false (Y.ex 13)) (Y.ex 13) (1, 1) (1, 2) := fun G H Q E x dx p r st rv e hx hR hd xr => ⟨G, x, dx, _, r, rv, [(1, 1), (1, 2)], rfl, e, hx, fldL_given, hR, hd, by decide, rfl, (fun z => nomatch z), fun _ => xr⟩
  have fitHX : FitX Z Y.aH fsH (spFitH Y.aH false (Y.ex 11)) (Y.ex 11) (5, 6) (7, 8) := fun G H Q E x dx p r st rv e hx hR hd xr => ⟨G, x, dx, _, rv, _, rfl, e, hx, by rw [fldL_other (by decide +kernel) (by decide +kernel) (by decide +kernel)]; rfl, hd, by decide, rfl, (fun z => nomatch z), fun _ => xr⟩
  have M_sadd : MeOk P w K mg base CX0 Y.aS "add" 8 (spAdd Z Y Y.aS []) := ⟨_, _, _, A_Strict_add, ok_addOk LS0 (Or.inl rfl) hST fitS F_Log_add T U W n_is_row Pr_Rules_width Pr_Table_rows e_fitS e_becS K_T, b_Log_add⟩
  have M_hadd : MeOk P w K mg base CX0 Y.aH "add" 8 (spAdd Z Y Y.aH fsH) := ⟨_, _, _, A_Short_add, ok_addOk LH (Or.inr rfl) hHT fitH F_Log_add T U W n_is_row Pr_Rules_width Pr_Table_rows e_fitH e_becH K_T, b_Log_add⟩
  have C_short : CaOk P w K mg base CX0 Y.aH 9 (spAdd Z Y Y.aH fsH) := ⟨_, C_Short, raw0 (ok_callOk LH (Or.inr rfl) F_Log_call T M_hadd) b_Log_call⟩
  have l_add : MeOk P w K mg base (L2.CX P w) Y.aL "add" 5 (spX (P_badrow Z Y.aL) (Y.ex 2)) := ⟨_, _, _, A_Log_add, okX_addR LL F_Log_add T V W n_is_rowO n_is_row Pr_Rules_width, b_Log_add⟩
  have l_call : CaOk P w K mg base (L2.CX P w) Y.aL 6 (spX (P_badrow Z Y.aL) (Y.ex 2)) := ⟨_, C_Log, raw0 (okX_callL LL F_Log_call l_add) b_Log_call⟩
  have l_drop : MeOk P w K mg base (L2.CX P w) Y.aL "drop" 5 (spX (P_badrow Z Y.aL) (Y.ex 2)) := ⟨_, _, _, A_Log_drop, okX_dropR LL F_Log_drop T V W n_is_rowO n_is_row Pr_Rules_width, b_Log_drop⟩
  have l_dropT : MeOk P w K mg base (L2.CX P w) Y.aL "drop" 5 (spX (P_nothere Z Y Y.aL) (Y.ex 12)) := ⟨_, _, _, A_Log_drop, okX_dropT LL F_Log_drop T V W n_is_row Pr_Rules_width Pr_Table_rows, b_Log_drop⟩
  have l_as8 : MeOk P w K mg base (L2.CX P w) Y.aL "assign_table" 7 (spX (P_assign Y.aL P_set8) (Y.ex 8)) := ⟨_, _, _, A_Log_assign_table, okX_assign (pre := P_set8) (fun ⟨x, v, t, e, h⟩ e2 => ⟨x, v, t, e, h.up e2⟩) LL S_Log (raw0 (okX_set8 F_Log_table2 n_need_tableX) b_Log_table2) F_Log_assign_table T, b_Log_assign_table⟩
  have l_as10 : MeOk P w K mg base (L2.CX P w) Y.aL "assign_table" 7 (spX (P_assign Y.aL (P_set10 Z Y Y.aL)) (Y.ex 10)) := ⟨_, _, _, A_Log_assign_table, okX_assign (pre := P_set10 Z Y Y.aL) (fun ⟨x, dx, fs, r, v, ds, es, e, h1, h2, h3, h4⟩ e2 => ⟨x, dx, fs, r, v, ds, es, e, e2 _ _ h1, h2, h3.up e2, h4.up e2⟩) LL S_Log (raw0 (okX_set10 LL F_Log_table2 V T W n_need_table Pr_Rules_width Pr_Table_width) b_Log_table2) F_Log_assign_table T, b_Log_assign_table⟩
  have s_as13 : MeOk P w K mg base (L2.CX P w) Y.aS "assign_table" 7 (spX (P_assign Y.aS (P_set13 Z Y Y.aS [] (1, 1) (1, 2))) (Y.ex 13)) := ⟨_, _, _, A_Strict_assign_table, okX_assign (pre := P_set13 Z Y Y.aS [] (1, 1) (1, 2)) (fun ⟨x, dx, p, r, st, v, e, h1, h2, h3⟩ e2 => ⟨x, dx, p, r, st, v, e, e2 _ _ h1, h2.up e2, h3.up e2⟩) LS0 S_Strict (raw0 (okX_set13 LS0 (Or.inl rfl) fitSY F_Log_table2 T V W n_need_table Pr_Rules_width Pr_Table_width Pr_Table_rows e_fitSX) b_Log_table2) F_Log_assign_table T, b_Log_assign_table⟩
  have h_add : MeOk P w K mg base (L2.CX P w) Y.aH "add" 5 (spX (P_nofit Z Y Y.aH fsH (7, 8)) (Y.ex 11)) := ⟨_, _, _, A_Short_add, okX_addF LH (Or.inr rfl) (by decide) fitHX F_Log_add T V W n_is_row Pr_Rules_width Pr_Table_rows e_fitHX, b_Log_add⟩
  have s_add : MeOk P w K mg base (L2.CX P w) Y.aS "add" 5 (spX (P_nofit Z Y Y.aS [] (5, 7)) (Y.ex 13)) := ⟨_, _, _, A_Strict_add, okX_addF LS0 (Or.inl rfl) (by decide) fitSX F_Log_add T V W n_is_row Pr_Rules_width Pr_Table_rows e_fitSX, b_Log_add⟩
  have l_undo : MeOk P w K mg base (L2.CX P w) Y.aL "undo" 1 (spX (P_undo Y.aL) (Y.ex 14)) := ⟨_, _, _, A_Log_undo, okX_undo LL F_Log_undo T V, b_Log_undo⟩
  have XL : PrL P w K mg base Z Y := ⟨l_add, l_call, l_drop, l_as8, l_as10, h_add, l_dropT, s_add, s_as13, l_undo, K_T, K_R, K_L⟩
  have n_logs : Fn1 P w K mg base "_law_of_logs" 13 (spLogs Z Y P w K mg base TB0) := ⟨f_law_of_logs, fd_law_of_logs, _, ok_law_of_logs M_law_of_logs T U W XL K_L K_S K_H M_sadd C_short q_law_of_logs u_law_of_logs, m_law_of_logs, M_law_of_logs.kp, M_law_of_logs.binds2 (ps := ["_law_odd", "_law_two"]) fun _ _ _ _ _ _ us hl => match us, hl with | [_, _], _ => rfl⟩
  have o_law_draw : FnOk P w K mg base CX0 1 f_law_draw fd_law_draw ["_law_source_here", "_law_many"] (spN R_draw) := by apply ok_law_draw <;> assumption
  have n_law_draw : Fn1 P w K mg base "_law_draw" 1 (spN R_draw) := ⟨f_law_draw, fd_law_draw, _, o_law_draw, m_law_draw, F_law_draw.kp, b_law_draw⟩
  have o_law_cell : FnOk P w K mg base CX0 1 f_law_cell fd_law_cell ["_law_script", "_law_index"] (spCell K) := by apply ok_law_cell <;> assumption
  have n_law_cell : Fn1 P w K mg base "_law_cell" 1 (spCell K) := ⟨f_law_cell, fd_law_cell, _, o_law_cell, m_law_cell, F_law_cell.kp, b_law_cell⟩
  have o_law_source : FnOk P w K mg base CX0 1 f_law_source fd_law_source ["_law_cell_here"] spSrc := by apply ok_law_source <;> assumption
  have n_law_source : Fn1 P w K mg base "_law_source" 1 spSrc := ⟨f_law_source, fd_law_source, _, o_law_source, m_law_source, F_law_source.kp, b_law_source⟩
  have o_law_choose : FnOk P w K mg base CX0 2 f_law_choose fd_law_choose ["_law_source_here", "_law_values"] spPick := by apply okV_law_choose <;> assumption
  have n_law_choose : Fn1 P w K mg base "_law_choose" 2 spPick := ⟨f_law_choose, fd_law_choose, _, o_law_choose, m_law_choose, F_law_choose.kp, b_law_choose⟩
  have o_law_is_equal : FnOk P w K mg base CX0 1 f_law_is_equal fd_law_is_equal ["_law_actual", "_law_expected"] (spR R_eqI) := by apply okI_is_equal <;> assumption
  have n_law_is_equal : Fn1 P w K mg base "_law_is_equal" 1 (spR R_eqI) := ⟨f_law_is_equal, fd_law_is_equal, _, o_law_is_equal, m_law_is_equal, F_law_is_equal.kp, b_law_is_equal⟩
  have n_calls : Fn1 P w K mg base "_law_calls" 14 (spCalls Y P w K mg base TB0) := ⟨f_law_calls, fd_law_calls, _, ok_law_calls M_law_calls T U W XA n_law_choose K_R K_T a_rd7 n_logs q_law_calls u_law_calls, m_law_calls, M_law_calls.kp, M_law_calls.binds2 (ps := ["_law_source_here"]) fun _ _ _ _ _ _ us hl => match us, hl with | [_], _ => rfl⟩
  have FM := ok_law_marks (P := P) (w := w) (base := base) F_law_marks T V T1
  have n_raised : Fn1 P w K mg base "_law_raised" 14 (spRaised Y P w K mg base 13) := ⟨f_law_raised, fd_law_raised, _, ok_law_raised (by decide) F_law_raised T T1 FM m_law_marks F_law_marks.kp b_law_marks, m_law_raised, F_law_raised.kp, b_law_raised⟩
  exact ok_law F_law T n_law_cell n_law_source n_law_draw n_calls n_raised n_law_is_equal
end CP
set_option Elab.async false
set_option linter.all false
set_option maxRecDepth 100000
set_option maxHeartbeats 4000000
namespace CP
open PySem PySem.Spec PySem.W PyProof.Rows L2 LamX
/-- the end, where some defs of the module hold tables -/
theorem walk10 {l : PySem.W.OpenLaw} {n k : Nat} {q : Program} {loose : List Str} {XP : (Str → Option Value) → Heap → Prop} {YP : World → Heap → Prop} {d : DefRec} {K : Params → PySem.W.Frag} {x : Str}
    (hn : l.most = some n) (hn2 : n ≤ sizeLine) (hdf : d.params.defaults = []) (hr : Room k callerA) (hY : ∀ (w : World) (h : Heap), YP w h → (K w.params).In h)
    (F : ∀ (w : World) (mg : Str → Option Value) (fa : Addr) (h : Heap), (K w.params).In h → h.Ns mainGlobals mg → mg d.name = some (.ref fa) →
      (∀ (y : Str) (c P : Addr), ((recsOf q).find? (fun e => e.name == y)).isSome = true → PySem.W.tabIn (K w.params) y = some (c, P) → PySem.W.CodeHd h c P ∧ h.get? P = some { cls := .none, data := .fields #[] }) → LawAtS l w (K w.params) CX0 k n x mg fa h) :
    PySem.W.WalkO q loose XP YP l.row.toRowW d [] (fun f vs => PySem.call f vs) := by
  refine Att.attach_callB hn hdf fun w s₀ s₁ mg mb fa o pm cd doc a vs ns G Y ho hd hcd hmg hobj hints hlen hbits hg => ?_
  have KX := hY w _ Y
  obtain ⟨fd, cs, sp, hT, nT, C, hb, hsp, hF⟩ := F w mg fa _ KX G.T.g hmg fun y c P h1 h2 => by
    obtain ⟨dd, h3⟩ := Option.isSome_iff_exists.mp h1
    exact PySem.W.tab_of G.T KX h3 h2
  exact law_callTs KX G.T.g G.T.b G.T.builtins G.T.nolimit hg hT nT C G.T.bmain hobj hints (Nat.le_trans hlen hn2) hr hF hb (fun H hH hS => hsp H a ns hlen hbits hH hS) fun H e s' z => z
end CP
set_option Elab.async false
set_option linter.all false
set_option maxRecDepth 100000
set_option maxHeartbeats 40000000
set_option pp.maxSteps 8
set_option pp.deepTerms false
namespace CP
open PySem PySem.Spec PySem.W PyProof.Rows L2 LamX CL CM
/-- a def of the module, as the top has made it -/
def DefK (K : PySem.W.Frag) (x : Str) (st : Stmt) : Prop := ∃ (f : Addr) (fd : FuncData), L2.Fun K x x st f fd ∧ PySem.W.nsIn K mainGlobals x = some (some (.ref f))
theorem defK {K : PySem.W.Frag} {x : Str} {st : Stmt} {f : Addr} {oc : Value} {od an : Option Addr} {osl : Array (Option Value)} {kV doc pm cdv ct : Value} (a : PySem.W.nsIn K mainGlobals x = some (some (.ref f)))
    (l : K.lookup f = some ⟨oc, od, .func (PySem.W.fnOf x x (defArgs st) (defBody st) (defScope st) .none kV doc pm an cdv ct), osl⟩) (c : PySem.W.codeIn K cdv x = true) (k : PySem.W.keepIn K (.ref f) = true) : DefK K x st := ⟨f, _, fun_mk l c k, a⟩
/-- a def of a class -/
def MetK (K : PySem.W.Frag) (x q : Str) (st : Stmt) (f : Addr) : Prop := ∃ fd : FuncData, L2.Fun K x q st f fd
theorem metK {K : PySem.W.Frag} {x q : Str} {st : Stmt} {f : Addr} {oc : Value} {od an : Option Addr} {osl : Array (Option Value)} {kV doc pm cdv ct : Value}
    (l : K.lookup f = some ⟨oc, od, .func (PySem.W.fnOf x q (defArgs st) (defBody st) (defScope st) .none kV doc pm an cdv ct), osl⟩) (c : PySem.W.codeIn K cdv q = true) (k : PySem.W.keepIn K (.ref f) = true) : MetK K x q st f := ⟨_, fun_mk l c k⟩
/-- a method that says super() -/
def SupK (P : Program) (K : PySem.W.Frag) (x q : Str) (st : Stmt) (f D : Addr) (ps : List Str) : Prop := ∃ fd : FuncData, SU.FunS P K x q st f fd D ∧ Binds K fd ps []
theorem supK {P : Program} {K : PySem.W.Frag} {x q : Str} {st : Stmt} {f D cda cc : Addr} {ps : List Str} {oc ccl cl : Value} {od an cdd cld : Option Addr} {osl ccs csl : Array (Option Value)} {dV kV doc pm ct : Value} {vs : Array Value} {file : Str} {tf : Tok}
    (l : K.lookup f = some ⟨oc, od, .func (PySem.W.fnX x q (defArgs st) (defBody st) (defScope st) [("__class__", cc)] dV kV doc pm an (.ref cda) ct), osl⟩) (c : PySem.W.codeIn K (.ref cda) q = true) (l2 : K.lookup cda = some ⟨ccl, cdd, .fields vs, ccs⟩) (v : vs[2]? = some (.str file tf)) (fl : ((P.main.file : Str) == file) = true)
    (l3 : K.lookup cc = some ⟨cl, cld, .cell (some (.ref D)), csl⟩) (k : PySem.W.keepIn K (.ref f) = true) (hb : Binds K (PySem.W.fnX x q (defArgs st) (defBody st) (defScope st) [("__class__", cc)] dV kV doc pm an (.ref cda) ct) ps []) : SupK P K x q st f D ps :=
  ⟨_, ⟨⟨oc, od, dV, kV, doc, pm, an, cda, cc, ct, osl, vs, file, tf, ccl, cdd, ccs, cl, cld, csl, rfl, l, c, l2, v, fl, l3⟩, k⟩, hb⟩
theorem hb_fitS {K : PySem.W.Frag} {cc : Addr} {kV doc pm : Value} {an : Option Addr} {cdv ct : Value} : Binds K (PySem.W.fnX "need_fit" "Strict.need_fit" (defArgs s_Strict_need_fit) (defBody s_Strict_need_fit) (defScope s_Strict_need_fit) [("__class__", cc)] .none kV doc pm an cdv ct) ["self", "rows"] [] := .all fun us hl => match us, hl with | [_, _], _ => rfl
theorem hb_fitH {K : PySem.W.Frag} {cc : Addr} {kV doc pm : Value} {an : Option Addr} {cdv ct : Value} : Binds K (PySem.W.fnX "need_fit" "Short.need_fit" (defArgs s_Short_need_fit) (defBody s_Short_need_fit) (defScope s_Short_need_fit) [("__class__", cc)] .none kV doc pm an cdv ct) ["self", "rows"] [] := .all fun us hl => match us, hl with | [_, _], _ => rfl
theorem hb_initH {K : PySem.W.Frag} {T cc : Addr} {o : Obj} {dv : Value} {n : Nat} {kV doc pm : Value} {an : Option Addr} {cdv ct : Value} (lT : K.lookup T = some o) (oT : o.data = .seq #[dv] n) : Binds K (PySem.W.fnX "__init__" "Short.__init__" (defArgs s_Short_init) (defBody s_Short_init) (defScope s_Short_init) [("__class__", cc)] (.ref T) kV doc pm an cdv ct) ["self", "rules", "most"] [] := fun s us X hl => by
  rw [List.append_nil] at hl ⊢
  match us, hl with
  | [a, b, c], _ =>
    refine BindsTo.of_looks fun M => ?_
    obtain ⟨k, e1, e2⟩ : ∃ k, bindArgs (PySem.W.fnX "__init__" "Short.__init__" (defArgs s_Short_init) (defBody s_Short_init) (defScope s_Short_init) [("__class__", cc)] (.ref T) kV doc pm an cdv ct) ⟨[a, b, c], []⟩ = seqItems? (.ref T) >>= k ∧ k (some #[dv]) = pure ((["self", "rules", "most"] : List Str).zip [a, b, c]) := ⟨_, rfl, rfl⟩
    rw [e1]
    exact looks_items X lT oT (PySem.W.Looks.of_pure e2)
/-- a def that makes lambdas -/
def MakK (K : PySem.W.Frag) (x : Str) (st : Stmt) (c : Addr) : Prop := ∃ (f : Addr) (oc : Value) (od : Option Addr) (kV doc pm : Value) (an : Option Addr) (ct : Value) (osl : Array (Option Value)), K.lookup f = some ⟨oc, od, .func (PySem.W.fnOf x x (defArgs st) (defBody st) (defScope st) .none kV doc pm an (.ref c) ct), osl⟩ ∧ PySem.W.codeIn K (.ref c) x = true ∧ PySem.W.keepIn K (.ref f) = true ∧ PySem.W.nsIn K mainGlobals x = some (some (.ref f))
theorem makK {K : PySem.W.Frag} {x : Str} {st : Stmt} {f c : Addr} {oc : Value} {od an : Option Addr} {osl : Array (Option Value)} {kV doc pm ct : Value} (a : PySem.W.nsIn K mainGlobals x = some (some (.ref f)))
    (l : K.lookup f = some ⟨oc, od, .func (PySem.W.fnOf x x (defArgs st) (defBody st) (defScope st) .none kV doc pm an (.ref c) ct), osl⟩) (cc : PySem.W.codeIn K (.ref c) x = true) (k : PySem.W.keepIn K (.ref f) = true) : MakK K x st c := ⟨f, oc, od, kV, doc, pm, an, ct, osl, l, cc, k, a⟩
/-- an exception class of the program -/
structure XcK (K : PySem.W.Frag) (x : Str) (C E : Addr) : Prop where
  a : PySem.W.nsIn K mainGlobals x = some (some (.ref C))
  x : PySem.W.excIn K C [.type "ValueError", .type "Exception", .type "BaseException", .type "object"] "ValueError.__new__" = true
  k : PySem.W.keepIn K (.ref C) = true
  t : PySem.W.typeIn K (.ref C) = some (.type "type")
  g : PySem.W.findIn K (.ref C) "__getattribute__" = some (some (.builtin "BaseException.__getattribute__"))
  h : PySem.W.findIn K (.ref C) "__getattr__" = some none
  d : PySem.W.hasDictIn K C = true
  c : PySem.W.findIn K (.ref C) "__class__" = some (some (.builtin "object.__class__"))
  m : ∃ cd, PySem.W.clsIn K C = some cd ∧ cd.mro = [.ref C, .ref E, .type "ValueError", .type "Exception", .type "BaseException", .type "object"]
theorem XcK.sub {K : PySem.W.Frag} {x : Str} {C E : Addr} (F : XcK K x C E) {v : Value} {b : Bool} (h : [Value.ref C, .ref E, .type "ValueError", .type "Exception", .type "BaseException", .type "object"].contains v = b) : PySem.W.subIn K (.ref C) v = some b := by
  obtain ⟨cd, h1, h2⟩ := F.m
  show PySem.W.mroIn K C v = some b
  unfold PySem.W.mroIn
  rw [h1, Option.bind_some, h2, ← h]
  rfl
theorem XcK.cls {K : PySem.W.Frag} {x : Str} {C E : Addr} (F : XcK K x C E) : (PySem.W.clsIn K C).isSome = true := by
  obtain ⟨cd, h1, _⟩ := F.m
  rw [h1]; rfl
theorem kit_cls_own {K : PySem.W.Frag} {x : Str} {C E : Addr} (F : XcK K x C E) {D : Addr} {b : Bool} (hc : (PySem.W.clsIn K D).isSome = true) (ht : PySem.W.typeIn K (.ref D) = some (.type "type")) (h : [Value.ref C, .ref E, .type "ValueError", .type "Exception", .type "BaseException", .type "object"].contains (.ref D) = b) : PySem.W.kitCls K (.ref C) (.ref D) = some b := by
  unfold PySem.W.kitCls
  dsimp only
  rw [hc, ht]
  exact (if_pos (by simp)).trans (F.sub h)
theorem has_ref {C D E : Addr} : [Value.ref C, .ref E, .type "ValueError", .type "Exception", .type "BaseException", .type "object"].contains (.ref D) = (decide (D = C) || decide (D = E)) := by
  simp only [List.contains_cons, List.contains_nil]
  have e1 : ∀ a : Addr, (Value.ref D == Value.ref a) = decide (D = a) := fun a => by
    by_cases h : D = a
    · subst h; simp
    · rw [decide_eq_false h]; exact Bool.eq_false_iff.mpr fun z => h (Value.ref.inj (beq_iff_eq.mp z))
  have e2 : ∀ s : String, (Value.ref D == Value.type s) = false := fun s => Bool.eq_false_iff.mpr fun z => by cases beq_iff_eq.mp z
  rw [e1, e1, e2, e2, e2, e2]
  simp
theorem XcK.excC {K : PySem.W.Frag} {x : Str} {C E : Addr} (F : XcK K x C E) (hn : PySem.W.specialIn K (.builtin "object.__class__") "__get__" = some (some (.builtin "getset_descriptor.__get__"))) (ht : PySem.W.takesIn K (.builtin "object.__class__") = some true) : ExcC K C := by
  refine ⟨F.g, F.h, F.sub (b := true) ?_, F.d, F.c, hn, ht, F.sub (b := true) ?_⟩
  · simp
  · simp
end CP

set_option Elab.async false
set_option linter.all false
set_option maxRecDepth 100000
set_option maxHeartbeats 0
set_option pp.maxSteps 8
set_option pp.deepTerms false
namespace CP
open PySem PySem.Spec PySem.W PyProof.Rows L2 LamX CL CM
theorem all_mk {l : PySem.W.OpenLaw} {w : World} {K : PySem.W.Frag} {h : Heap} {mg : Str → Option Value} {fa aR aT aL aS aH aB aE e0 e1 e2 e3 e4 e5 e6 e7 e8 e9 e10 e11 e12 e13 e14 f_Rules_init f_Rules_read f_Rules_call f_Rules_add f_Rules_width f_Rules_rules f_Table_init f_Table_read f_Table_text f_Table_call f_Table_add f_Table_mul f_Table_width f_Table_rows f_Log_init f_Log_need_fit f_Log_add f_Log_call f_Log_drop f_Log_assign_table f_Log_table2 f_Log_become f_Log_undo f_Strict_need_fit f_Short_init f_Short_need_fit c_law_calls p_law_calls c_law_of_logs p_law_of_logs pr_Rules pr_Table pp_Rules_width pp_Rules_rules pp_Table_width pp_Table_rows ps_Log ps_Strict : Addr} {mc_Rules mc_Table : Value} {tS tW tM s1 s2 s3 s4 : Tok}
    (X : K.In h) (G : h.Ns mainGlobals mg) (hfa : mg "law" = some (.ref fa)) (CP1 : PySem.W.CodeHd h c_law_calls p_law_calls ∧ h.get? p_law_calls = some { cls := .none, data := .fields #[] }) (CP2 : PySem.W.CodeHd h c_law_of_logs p_law_of_logs ∧ h.get? p_law_of_logs = some { cls := .none, data := .fields #[] })
    (n1 : K.lookup p_law_calls = none) (n2 : K.lookup p_law_of_logs = none) (hne : p_law_calls ≠ p_law_of_logs)
    (d_is_integer : DefK K "is_integer" s_is_integer)
    (d_is_between : DefK K "is_between" s_is_between)
    (d_need_width : DefK K "need_width" s_need_width)
    (d_is_column : DefK K "is_column" s_is_column)
    (d_is_rule : DefK K "is_rule" s_is_rule)
    (d_need_rule : DefK K "need_rule" s_need_rule)
    (d_are_rules : DefK K "are_rules" s_are_rules)
    (d_need_rules : DefK K "need_rules" s_need_rules)
    (d_need_table : DefK K "need_table" s_need_table)
    (d_need_like : DefK K "need_like" s_need_like)
    (d_table_of : DefK K "table_of" s_table_of)
    (d_is_row : DefK K "is_row" s_is_row)
    (d_are_rows : DefK K "are_rows" s_are_rows)
    (d_number_of : DefK K "number_of" s_number_of)
    (d_verdict : DefK K "verdict" s_verdict)
    (d_shows_verdict : DefK K "shows_verdict" s_shows_verdict)
    (d_walk : DefK K "walk" s_walk)
    (d_groups : DefK K "groups" s_groups)
    (d_model : DefK K "model" s_model)
    (d_least : DefK K "least" s_least)
    (d_following : DefK K "following" s_following)
    (d_holds : DefK K "holds" s_holds)
    (d_law_cell : DefK K "_law_cell" s_law_cell)
    (d_law_source : DefK K "_law_source" s_law_source)
    (d_law_draw : DefK K "_law_draw" s_law_draw)
    (d_law_choose : DefK K "_law_choose" s_law_choose)
    (d_law_is_equal : DefK K "_law_is_equal" s_law_is_equal)
    (d_law_marks : DefK K "_law_marks" s_law_marks)
    (d_law_raised : DefK K "_law_raised" s_law_raised)
    (d_law : DefK K "law" s_law)
    (i_Rules_init : MetK K "__init__" "Rules.__init__" s_Rules_init f_Rules_init)
    (i_Rules_read : MetK K "read" "Rules.read" s_Rules_read f_Rules_read)
    (i_Rules_call : MetK K "__call__" "Rules.__call__" s_Rules_call f_Rules_call)
    (i_Rules_add : MetK K "__add__" "Rules.__add__" s_Rules_add f_Rules_add)
    (i_Rules_width : MetK K "width" "Rules.width" s_Rules_width f_Rules_width)
    (i_Rules_rules : MetK K "rules" "Rules.rules" s_Rules_rules f_Rules_rules)
    (i_Table_init : MetK K "__init__" "Table.__init__" s_Table_init f_Table_init)
    (i_Table_read : MetK K "read" "Table.read" s_Table_read f_Table_read)
    (i_Table_text : MetK K "text" "Table.text" s_Table_text f_Table_text)
    (i_Table_call : MetK K "__call__" "Table.__call__" s_Table_call f_Table_call)
    (i_Table_add : MetK K "__add__" "Table.__add__" s_Table_add f_Table_add)
    (i_Table_mul : MetK K "__mul__" "Table.__mul__" s_Table_mul f_Table_mul)
    (i_Table_width : MetK K "width" "Table.width" s_Table_width f_Table_width)
    (i_Table_rows : MetK K "rows" "Table.rows" s_Table_rows f_Table_rows)
    (i_Log_init : MetK K "__init__" "Log.__init__" s_Log_init f_Log_init)
    (i_Log_need_fit : MetK K "need_fit" "Log.need_fit" s_Log_need_fit f_Log_need_fit)
    (i_Log_add : MetK K "add" "Log.add" s_Log_add f_Log_add)
    (i_Log_call : MetK K "__call__" "Log.__call__" s_Log_call f_Log_call)
    (i_Log_drop : MetK K "drop" "Log.drop" s_Log_drop f_Log_drop)
    (i_Log_assign_table : MetK K "assign_table" "Log.assign_table" s_Log_assign_table f_Log_assign_table)
    (i_Log_table2 : MetK K "table" "Log.table" s_Log_table2 f_Log_table2)
    (i_Log_become : MetK K "become" "Log.become" s_Log_become f_Log_become)
    (i_Log_undo : MetK K "undo" "Log.undo" s_Log_undo f_Log_undo)
    (j_Strict_need_fit : SupK l.prog K "need_fit" "Strict.need_fit" s_Strict_need_fit f_Strict_need_fit aS ["self", "rows"])
    (j_Short_init : SupK l.prog K "__init__" "Short.__init__" s_Short_init f_Short_init aH ["self", "rules", "most"])
    (j_Short_need_fit : SupK l.prog K "need_fit" "Short.need_fit" s_Short_need_fit f_Short_need_fit aH ["self", "rows"])
    (k_law_calls : MakK K "_law_calls" s_law_calls c_law_calls)
    (k_law_of_logs : MakK K "_law_of_logs" s_law_of_logs c_law_of_logs)
    (kS : PySem.W.nsIn K mainGlobals "SETTLES" = some (some (.str "settles" tS))) (kW : PySem.W.nsIn K mainGlobals "WITHIN" = some (some (.str "within" tW))) (kM : PySem.W.nsIn K mainGlobals "MOST_WIDTH" = some (some (.int 6 tM)))
    (kMR : PySem.W.nsIn K mainGlobals "MOST_ROWS" = some (some (.int 400 s1))) (kMV : PySem.W.nsIn K mainGlobals "MOST_VALUE" = some (some (.int 9999 s2))) (kSM : PySem.W.nsIn K mainGlobals "SMALL" = some (some (.int 99 s3))) (kDG : PySem.W.nsIn K mainGlobals "DIGITS" = some (some (.str "0123456789" s4)))
    (g_Rules : PySem.W.nsIn K mainGlobals "Rules" = some (some (.ref aR)))
    (g_Table : PySem.W.nsIn K mainGlobals "Table" = some (some (.ref aT)))
    (g_Log : PySem.W.nsIn K mainGlobals "Log" = some (some (.ref aL)))
    (g_Strict : PySem.W.nsIn K mainGlobals "Strict" = some (some (.ref aS)))
    (g_Short : PySem.W.nsIn K mainGlobals "Short" = some (some (.ref aH)))
    (g_StrictShort : PySem.W.nsIn K mainGlobals "StrictShort" = some (some (.ref aB)))
    (g_ColumnError : PySem.W.nsIn K mainGlobals "ColumnError" = some (some (.ref aE)))
    (z_len : PySem.W.nsIn K mainGlobals "len" = some none)
    (z_range : PySem.W.nsIn K mainGlobals "range" = some none)
    (z_sorted : PySem.W.nsIn K mainGlobals "sorted" = some none)
    (z_set : PySem.W.nsIn K mainGlobals "set" = some none)
    (z_all : PySem.W.nsIn K mainGlobals "all" = some none)
    (z_isinstance : PySem.W.nsIn K mainGlobals "isinstance" = some none)
    (z_int : PySem.W.nsIn K mainGlobals "int" = some none)
    (z_bool : PySem.W.nsIn K mainGlobals "bool" = some none)
    (z_str : PySem.W.nsIn K mainGlobals "str" = some none)
    (z_tuple : PySem.W.nsIn K mainGlobals "tuple" = some none)
    (z_max : PySem.W.nsIn K mainGlobals "max" = some none)
    (z_min : PySem.W.nsIn K mainGlobals "min" = some none)
    (z_repr : PySem.W.nsIn K mainGlobals "repr" = some none)
    (z_list : PySem.W.nsIn K mainGlobals "list" = some none)
    (z_enumerate : PySem.W.nsIn K mainGlobals "enumerate" = some none)
    (z_super : PySem.W.nsIn K mainGlobals "super" = some none)
    (z_ValueError : PySem.W.nsIn K mainGlobals "ValueError" = some none)
    (x_NoWidth : XcK K "NoWidth" e0 aE)
    (x_NoRows : XcK K "NoRows" e1 aE)
    (x_NoRow : XcK K "NoRow" e2 aE)
    (x_NoRules : XcK K "NoRules" e3 aE)
    (x_NoRule : XcK K "NoRule" e4 aE)
    (x_NoColumn : XcK K "NoColumn" e5 aE)
    (x_NoNumber : XcK K "NoNumber" e6 aE)
    (x_NoText : XcK K "NoText" e7 aE)
    (x_NotTable : XcK K "NotTable" e8 aE)
    (x_NotRules : XcK K "NotRules" e9 aE)
    (x_UnlikeWidths : XcK K "UnlikeWidths" e10 aE)
    (x_TooMuch : XcK K "TooMuch" e11 aE)
    (x_NotThere : XcK K "NotThere" e12 aE)
    (x_Broken : XcK K "Broken" e13 aE)
    (x_NothingDone : XcK K "NothingDone" e14 aE)
    (ed : [e0, e1, e2, e3, e4, e5, e6, e7, e8, e9, e10, e11, e12, e13, e14, aE].Nodup) (eE : (PySem.W.clsIn K aE).isSome = true) (eT : PySem.W.typeIn K (.ref aE) = some (.type "type")) (eB : PySem.W.subIn K (.ref aE) (.type "BaseException") = some true)
    (oc1 : PySem.W.specialIn K (.builtin "object.__class__") "__get__" = some (some (.builtin "getset_descriptor.__get__"))) (oc2 : PySem.W.takesIn K (.builtin "object.__class__") = some true)
    (w_Rules : Cls K aR)
    (w_Table : Cls K aT)
    (w_Log : Cls K aL)
    (w_Strict : Cls K aS)
    (w_Short : Cls K aH)
    (v_Rules : C8.InsC K aR)
    (v_Table : C8.InsC K aT)
    (y_Rules : NoAttr K aR "columns" ∧ NoAttr K aR "kept")
    (y_Table : NoAttr K aT "columns" ∧ NoAttr K aT "kept")
    (y_Log : NoAttr K aL "given" ∧ NoAttr K aL "state" ∧ NoAttr K aL "past")
    (y_Strict : NoAttr K aS "given" ∧ NoAttr K aS "state" ∧ NoAttr K aS "past")
    (y_Short : NoAttr K aH "given" ∧ NoAttr K aH "state" ∧ NoAttr K aH "past" ∧ NoAttr K aH "limit")
    (tyR : ∀ T, T = "NoneType" ∨ T = "bool" ∨ T = "str" ∨ T = "int" ∨ T = "list" ∨ T = "dict" ∨ T = "tuple" → PySem.W.kitOne K (.type T) (.ref aR) = some false) (tyT : ∀ T, T = "NoneType" ∨ T = "bool" ∨ T = "str" ∨ T = "int" ∨ T = "list" ∨ T = "dict" ∨ T = "tuple" → PySem.W.kitOne K (.type T) (.ref aT) = some false) (tRT : PySem.W.kitOne K (.ref aR) (.ref aT) = some false) (tTR : PySem.W.kitOne K (.ref aT) (.ref aR) = some false)
    (opT : ∀ T, T = "NoneType" ∨ T = "bool" ∨ T = "str" ∨ T = "int" ∨ T = "list" ∨ T = "dict" ∨ T = "tuple" → RArg K aT .Add (.type T)) (opR : ∀ T, T = "NoneType" ∨ T = "bool" ∨ T = "str" ∨ T = "int" ∨ T = "list" ∨ T = "dict" ∨ T = "tuple" → RArg K aR .Add (.type T))
    (htop : (l.prog.main.scope.names.lookup ("super" : Str)).isSome = false)
    (K_Rules : Mk K aR f_Rules_init)
    (K_Table : Mk K aT f_Table_init)
    (K_Log : Mk K aL f_Log_init)
    (K_Strict : Mk K aS f_Log_init)
    (K_Short : Mk K aH f_Short_init)
    (K_StrictShort : Mk K aB f_Short_init)
    (C_Rules : StX.CallO K aR f_Rules_call)
    (C_Table : StX.CallO K aT f_Table_call)
    (C_Log : StX.CallO K aL f_Log_call)
    (C_Short : StX.CallO K aH f_Log_call)
    (D_Rules : ClX.CRead K aR mc_Rules) (E_Rules : ClX.CMet K aR mc_Rules "read" pr_Rules f_Rules_read)
    (D_Table : ClX.CRead K aT mc_Table) (E_Table : ClX.CMet K aT mc_Table "read" pr_Table f_Table_read)
    (P_Rules_width : PropOf K aR "width" pp_Rules_width f_Rules_width)
    (P_Rules_rules : PropOf K aR "rules" pp_Rules_rules f_Rules_rules)
    (P_Table_width : PropOf K aT "width" pp_Table_width f_Table_width)
    (P_Table_rows : PropOf K aT "rows" pp_Table_rows f_Table_rows)
    (O_Table_Add : PySem.W.OpC K aT .Add f_Table_add)
    (O_Table_Mult : PySem.W.OpC K aT .Mult f_Table_mul)
    (O_Rules_Add : PySem.W.OpC K aR .Add f_Rules_add)
    (A_Table_text : Meth K aT "text" f_Table_text)
    (A_Log_add : Meth K aL "add" f_Log_add)
    (A_Log_drop : Meth K aL "drop" f_Log_drop)
    (A_Log_assign_table : Meth K aL "assign_table" f_Log_assign_table)
    (A_Log_undo : Meth K aL "undo" f_Log_undo)
    (A_Strict_add : Meth K aS "add" f_Log_add)
    (A_Strict_assign_table : Meth K aS "assign_table" f_Log_assign_table)
    (A_Strict_need_fit : Meth K aS "need_fit" f_Strict_need_fit)
    (A_Strict_become : Meth K aS "become" f_Log_become)
    (A_Short_add : Meth K aH "add" f_Log_add)
    (A_Short_need_fit : Meth K aH "need_fit" f_Short_need_fit)
    (A_Short_become : Meth K aH "become" f_Log_become)
    (S_Log : SetOf K aL "table" ps_Log f_Log_table2)
    (S_Strict : SetOf K aS "table" ps_Strict f_Log_table2)
    (SO_fitS : SU.SupOk K aS aS "need_fit" f_Log_need_fit) (SO_fitH : SU.SupOk K aH aH "need_fit" f_Log_need_fit) (SO_initH : SU.SupOk K aH aH "__init__" f_Log_init)
    (opM : RArg K aT .Mult (.ref aR)) (noStop : PySem.W.subIn K (.ref e9) (.type "StopIteration") = some false) (hST : aS ≠ aT) (hHT : aH ≠ aT) :
    LawAtS l w K CX0 15 63 "_law_script" mg fa h := by
  obtain ⟨f_is_integer, fd_is_integer, F_is_integer, a_is_integer⟩ := d_is_integer
  have m_is_integer := mg_of X G a_is_integer
  obtain ⟨f_is_between, fd_is_between, F_is_between, a_is_between⟩ := d_is_between
  have m_is_between := mg_of X G a_is_between
  obtain ⟨f_need_width, fd_need_width, F_need_width, a_need_width⟩ := d_need_width
  have m_need_width := mg_of X G a_need_width
  obtain ⟨f_is_column, fd_is_column, F_is_column, a_is_column⟩ := d_is_column
  have m_is_column := mg_of X G a_is_column
  obtain ⟨f_is_rule, fd_is_rule, F_is_rule, a_is_rule⟩ := d_is_rule
  have m_is_rule := mg_of X G a_is_rule
  obtain ⟨f_need_rule, fd_need_rule, F_need_rule, a_need_rule⟩ := d_need_rule
  have m_need_rule := mg_of X G a_need_rule
  obtain ⟨f_are_rules, fd_are_rules, F_are_rules, a_are_rules⟩ := d_are_rules
  have m_are_rules := mg_of X G a_are_rules
  obtain ⟨f_need_rules, fd_need_rules, F_need_rules, a_need_rules⟩ := d_need_rules
  have m_need_rules := mg_of X G a_need_rules
  obtain ⟨f_need_table, fd_need_table, F_need_table, a_need_table⟩ := d_need_table
  have m_need_table := mg_of X G a_need_table
  obtain ⟨f_need_like, fd_need_like, F_need_like, a_need_like⟩ := d_need_like
  have m_need_like := mg_of X G a_need_like
  obtain ⟨f_table_of, fd_table_of, F_table_of, a_table_of⟩ := d_table_of
  have m_table_of := mg_of X G a_table_of
  obtain ⟨f_is_row, fd_is_row, F_is_row, a_is_row⟩ := d_is_row
  have m_is_row := mg_of X G a_is_row
  obtain ⟨f_are_rows, fd_are_rows, F_are_rows, a_are_rows⟩ := d_are_rows
  have m_are_rows := mg_of X G a_are_rows
  obtain ⟨f_number_of, fd_number_of, F_number_of, a_number_of⟩ := d_number_of
  have m_number_of := mg_of X G a_number_of
  obtain ⟨f_verdict, fd_verdict, F_verdict, a_verdict⟩ := d_verdict
  have m_verdict := mg_of X G a_verdict
  obtain ⟨f_shows_verdict, fd_shows_verdict, F_shows_verdict, a_shows_verdict⟩ := d_shows_verdict
  have m_shows_verdict := mg_of X G a_shows_verdict
  obtain ⟨f_walk, fd_walk, F_walk, a_walk⟩ := d_walk
  have m_walk := mg_of X G a_walk
  obtain ⟨f_groups, fd_groups, F_groups, a_groups⟩ := d_groups
  have m_groups := mg_of X G a_groups
  obtain ⟨f_model, fd_model, F_model, a_model⟩ := d_model
  have m_model := mg_of X G a_model
  obtain ⟨f_least, fd_least, F_least, a_least⟩ := d_least
  have m_least := mg_of X G a_least
  obtain ⟨f_following, fd_following, F_following, a_following⟩ := d_following
  have m_following := mg_of X G a_following
  obtain ⟨f_holds, fd_holds, F_holds, a_holds⟩ := d_holds
  have m_holds := mg_of X G a_holds
  obtain ⟨f_law_cell, fd_law_cell, F_law_cell, a_law_cell⟩ := d_law_cell
  have m_law_cell := mg_of X G a_law_cell
  obtain ⟨f_law_source, fd_law_source, F_law_source, a_law_source⟩ := d_law_source
  have m_law_source := mg_of X G a_law_source
  obtain ⟨f_law_draw, fd_law_draw, F_law_draw, a_law_draw⟩ := d_law_draw
  have m_law_draw := mg_of X G a_law_draw
  obtain ⟨f_law_choose, fd_law_choose, F_law_choose, a_law_choose⟩ := d_law_choose
  have m_law_choose := mg_of X G a_law_choose
  obtain ⟨f_law_is_equal, fd_law_is_equal, F_law_is_equal, a_law_is_equal⟩ := d_law_is_equal
  have m_law_is_equal := mg_of X G a_law_is_equal
  obtain ⟨f_law_marks, fd_law_marks, F_law_marks, a_law_marks⟩ := d_law_marks
  have m_law_marks := mg_of X G a_law_marks
  obtain ⟨f_law_raised, fd_law_raised, F_law_raised, a_law_raised⟩ := d_law_raised
  have m_law_raised := mg_of X G a_law_raised
  obtain ⟨f_law, fd_law, F_law, a_law⟩ := d_law
  have m_law := mg_of X G a_law
  obtain ⟨fd_Rules_init, F_Rules_init⟩ := i_Rules_init
  obtain ⟨fd_Rules_read, F_Rules_read⟩ := i_Rules_read
  obtain ⟨fd_Rules_call, F_Rules_call⟩ := i_Rules_call
  obtain ⟨fd_Rules_add, F_Rules_add⟩ := i_Rules_add
  obtain ⟨fd_Rules_width, F_Rules_width⟩ := i_Rules_width
  obtain ⟨fd_Rules_rules, F_Rules_rules⟩ := i_Rules_rules
  obtain ⟨fd_Table_init, F_Table_init⟩ := i_Table_init
  obtain ⟨fd_Table_read, F_Table_read⟩ := i_Table_read
  obtain ⟨fd_Table_text, F_Table_text⟩ := i_Table_text
  obtain ⟨fd_Table_call, F_Table_call⟩ := i_Table_call
  obtain ⟨fd_Table_add, F_Table_add⟩ := i_Table_add
  obtain ⟨fd_Table_mul, F_Table_mul⟩ := i_Table_mul
  obtain ⟨fd_Table_width, F_Table_width⟩ := i_Table_width
  obtain ⟨fd_Table_rows, F_Table_rows⟩ := i_Table_rows
  obtain ⟨fd_Log_init, F_Log_init⟩ := i_Log_init
  obtain ⟨fd_Log_need_fit, F_Log_need_fit⟩ := i_Log_need_fit
  obtain ⟨fd_Log_add, F_Log_add⟩ := i_Log_add
  obtain ⟨fd_Log_call, F_Log_call⟩ := i_Log_call
  obtain ⟨fd_Log_drop, F_Log_drop⟩ := i_Log_drop
  obtain ⟨fd_Log_assign_table, F_Log_assign_table⟩ := i_Log_assign_table
  obtain ⟨fd_Log_table2, F_Log_table2⟩ := i_Log_table2
  obtain ⟨fd_Log_become, F_Log_become⟩ := i_Log_become
  obtain ⟨fd_Log_undo, F_Log_undo⟩ := i_Log_undo
  obtain ⟨fd_Strict_need_fit, F_Strict_need_fit, b_Strict_need_fit⟩ := j_Strict_need_fit
  obtain ⟨fd_Short_init, F_Short_init, b_Short_init⟩ := j_Short_init
  obtain ⟨fd_Short_need_fit, F_Short_need_fit, b_Short_need_fit⟩ := j_Short_need_fit
  obtain ⟨f_law_calls, oc_law_calls, od_law_calls, kV_law_calls, doc_law_calls, pm_law_calls, an_law_calls, ct_law_calls, osl_law_calls, lk_law_calls, cd_law_calls, kp_law_calls, a_law_calls⟩ := k_law_calls
  have m_law_calls := mg_of X G a_law_calls
  obtain ⟨f_law_of_logs, oc_law_of_logs, od_law_of_logs, kV_law_of_logs, doc_law_of_logs, pm_law_of_logs, an_law_of_logs, ct_law_of_logs, osl_law_of_logs, lk_law_of_logs, cd_law_of_logs, kp_law_of_logs, a_law_of_logs⟩ := k_law_of_logs
  have m_law_of_logs := mg_of X G a_law_of_logs
  cases hfa.symm.trans m_law
  let Z : Ads := ⟨tS, tW, tM, aR⟩
  let Y : AdY := ⟨aT, aL, aS, aH, aB, aE, fun i => [e0, e1, e2, e3, e4, e5, e6, e7, e8, e9, e10, e11, e12, e13, e14].getD i 0, s1, s2, s3, s4⟩
  have T : Txt Z K mg := ⟨mg_of X G kS, mg_of X G kW, mg_of X G kM, mg_none_of X G z_len, mg_none_of X G z_range, mg_none_of X G z_sorted, mg_none_of X G z_set, mg_none_of X G z_all, mg_none_of X G z_isinstance, mg_none_of X G z_int, mg_none_of X G z_bool, mg_none_of X G z_str, mg_none_of X G z_tuple, mg_none_of X G z_max, mg_none_of X G z_min, mg_none_of X G z_repr, mg_none_of X G z_list, mg_none_of X G z_enumerate⟩
  have V : TxtV Y K mg := ⟨⟨mg_of X G x_NoWidth.a, x_NoWidth.x, x_NoWidth.k, x_NoWidth.sub (by simp), x_NoWidth.t⟩, ⟨mg_of X G x_NoRows.a, x_NoRows.x, x_NoRows.k, x_NoRows.sub (by simp), x_NoRows.t⟩, ⟨mg_of X G x_NoRow.a, x_NoRow.x, x_NoRow.k, x_NoRow.sub (by simp), x_NoRow.t⟩, ⟨mg_of X G x_NoRules.a, x_NoRules.x, x_NoRules.k, x_NoRules.sub (by simp), x_NoRules.t⟩, ⟨mg_of X G x_NoRule.a, x_NoRule.x, x_NoRule.k, x_NoRule.sub (by simp), x_NoRule.t⟩, ⟨mg_of X G x_NoColumn.a, x_NoColumn.x, x_NoColumn.k, x_NoColumn.sub (by simp), x_NoColumn.t⟩, ⟨mg_of X G x_NoNumber.a, x_NoNumber.x, x_NoNumber.k, x_NoNumber.sub (by simp), x_NoNumber.t⟩, ⟨mg_of X G x_NoText.a, x_NoText.x, x_NoText.k, x_NoText.sub (by simp), x_NoText.t⟩, ⟨mg_of X G x_NotTable.a, x_NotTable.x, x_NotTable.k, x_NotTable.sub (by simp), x_NotTable.t⟩, ⟨mg_of X G x_NotRules.a, x_NotRules.x, x_NotRules.k, x_NotRules.sub (by simp), x_NotRules.t⟩, ⟨mg_of X G x_UnlikeWidths.a, x_UnlikeWidths.x, x_UnlikeWidths.k, x_UnlikeWidths.sub (by simp), x_UnlikeWidths.t⟩, ⟨mg_of X G x_TooMuch.a, x_TooMuch.x, x_TooMuch.k, x_TooMuch.sub (by simp), x_TooMuch.t⟩, ⟨mg_of X G x_NotThere.a, x_NotThere.x, x_NotThere.k, x_NotThere.sub (by simp), x_NotThere.t⟩, ⟨mg_of X G x_Broken.a, x_Broken.x, x_Broken.k, x_Broken.sub (by simp), x_Broken.t⟩, ⟨mg_of X G x_NothingDone.a, x_NothingDone.x, x_NothingDone.k, x_NothingDone.sub (by simp), x_NothingDone.t⟩⟩
  have U : TxtU Z Y K mg := ⟨mg_of X G kMR, mg_of X G kMV, mg_of X G kSM, mg_of X G kDG, mg_of X G g_Rules, mg_of X G g_Table, mg_of X G g_Log, mg_of X G g_Strict, mg_of X G g_Short, mg_of X G g_StrictShort⟩
  have W : TxtW Z Y K := ⟨w_Rules, w_Table, w_Log, w_Strict, w_Short, v_Rules, v_Table, y_Rules, y_Table, y_Log, y_Strict, y_Short, tyR, tyT, tRT, tTR⟩
  have SG : SupG l.prog mg := ⟨mg_none_of X G z_super, htop⟩
  have bmax : mg "max" = none := mg_none_of X G z_max
  have T1 : TxtI Y K mg := by
    have xc : ∀ n, n < 15 → (∃ x, XcK K x (Y.ex n) aE) ∧ ([e0, e1, e2, e3, e4, e5, e6, e7, e8, e9, e10, e11, e12, e13, e14, aE] : List Addr)[n]? = some (Y.ex n) := fun n hn => by
      have : n = 0 ∨ n = 1 ∨ n = 2 ∨ n = 3 ∨ n = 4 ∨ n = 5 ∨ n = 6 ∨ n = 7 ∨ n = 8 ∨ n = 9 ∨ n = 10 ∨ n = 11 ∨ n = 12 ∨ n = 13 ∨ n = 14 := by omega
      rcases this with rfl | rfl | rfl | rfl | rfl | rfl | rfl | rfl | rfl | rfl | rfl | rfl | rfl | rfl | rfl
      · exact ⟨⟨_, x_NoWidth⟩, rfl⟩
      · exact ⟨⟨_, x_NoRows⟩, rfl⟩
      · exact ⟨⟨_, x_NoRow⟩, rfl⟩
      · exact ⟨⟨_, x_NoRules⟩, rfl⟩
      · exact ⟨⟨_, x_NoRule⟩, rfl⟩
      · exact ⟨⟨_, x_NoColumn⟩, rfl⟩
      · exact ⟨⟨_, x_NoNumber⟩, rfl⟩
      · exact ⟨⟨_, x_NoText⟩, rfl⟩
      · exact ⟨⟨_, x_NotTable⟩, rfl⟩
      · exact ⟨⟨_, x_NotRules⟩, rfl⟩
      · exact ⟨⟨_, x_UnlikeWidths⟩, rfl⟩
      · exact ⟨⟨_, x_TooMuch⟩, rfl⟩
      · exact ⟨⟨_, x_NotThere⟩, rfl⟩
      · exact ⟨⟨_, x_Broken⟩, rfl⟩
      · exact ⟨⟨_, x_NothingDone⟩, rfl⟩
    have ne : ∀ n i, n < 15 → i < 15 → i ≠ n → Y.ex i ≠ Y.ex n := fun n i hn hi h z => by
      have a1 := (xc n hn).2
      have a2 := (xc i hi).2
      rw [z] at a2
      exact h ((List.getElem?_inj (by show i < 16; omega) ed).mp (a2.trans a1.symm))
    have neE : ∀ n, n < 15 → Y.ex n ≠ aE := fun n hn z => by
      have a1 := (xc n hn).2
      rw [z] at a1
      have a2 : ([e0, e1, e2, e3, e4, e5, e6, e7, e8, e9, e10, e11, e12, e13, e14, aE] : List Addr)[15]? = some aE := rfl
      have := (List.getElem?_inj (by show n < 16; omega) ed).mp (a1.trans a2.symm)
      omega
    refine ⟨fun n i hn hi => ?_, fun n hn => ?_, fun n hn => ?_, fun n hn => ?_, mg_of X G g_ColumnError, mg_none_of X G z_ValueError⟩
    · obtain ⟨⟨_, xn⟩, _⟩ := xc n hn
      obtain ⟨⟨_, xi⟩, _⟩ := xc i hi
      unfold PySem.W.kitOne
      by_cases h : i = n
      · subst h
        rw [if_pos (beq_self_eq_true _), decide_eq_true rfl]
      · rw [if_neg (fun z => ne n i hn hi h (Value.ref.inj (beq_iff_eq.mp z)).symm), decide_eq_false h]
        exact kit_cls_own xn xi.cls xi.t (by rw [has_ref, decide_eq_false (ne n i hn hi h), decide_eq_false (neE i hi)]; rfl)
    · obtain ⟨⟨_, xn⟩, _⟩ := xc n hn
      exact xn.excC oc1 oc2
    · obtain ⟨⟨_, xn⟩, _⟩ := xc n hn
      unfold PySem.W.kitOne
      rw [if_neg (fun z => by cases beq_iff_eq.mp z)]
      unfold PySem.W.kitCls
      dsimp only
      exact (if_pos (by decide +kernel)).trans (xn.sub (by simp))
    · obtain ⟨⟨_, xn⟩, _⟩ := xc n hn
      unfold PySem.W.exmOne
      rw [eB]
      exact (if_pos (by rfl)).trans (kit_cls_own xn eE eT (by rw [has_ref, decide_eq_true (rfl : aE = aE), Bool.or_true]))
  obtain ⟨C1, P1⟩ := CP1
  obtain ⟨C2, P2⟩ := CP2
  obtain ⟨oc, od, kV, doc, pm, an, cdv, ct, osl, efd, _, _⟩ := F_law.ex
  refine ⟨fd_law, [(c_law_calls, p_law_calls), (c_law_of_logs, p_law_of_logs)], spLaw10 K [(p_law_calls, ((("_law_calls" : Str) ++ ".<locals>.") ++ "<lambda>")), (p_law_of_logs, ((("_law_of_logs" : Str) ++ ".<locals>.") ++ "<lambda>"))], ?_, ?_, ?_, fun s v => by rw [efd]; exact .of_eq rfl, fun H a ns _ _ ht hS => ⟨a, ns, rfl, hS, ?_, fun _ => rfl⟩, fun base kb nb tb => ?_⟩
  · intro x hx
    rcases List.mem_cons.mp hx with rfl | hx
    · exact P1
    · rw [List.mem_singleton.mp hx]; exact P2
  · intro x hx
    rcases List.mem_cons.mp hx with rfl | hx
    · exact n1
    · rw [List.mem_singleton.mp hx]; exact n2
  · intro x hx
    rcases List.mem_cons.mp hx with rfl | hx
    · exact C1
    · rw [List.mem_singleton.mp hx]; exact C2
  · intro x hx
    rcases List.mem_cons.mp hx with rfl | hx
    · exact TabS.nil (ht _ List.mem_cons_self)
    · rw [List.mem_singleton.mp hx]; exact TabS.nil (ht (c_law_of_logs, p_law_of_logs) (List.mem_cons_of_mem _ List.mem_cons_self))
  have M_law_calls : FunM K base mg "_law_calls" "_law_calls" s_law_calls f_law_calls _ c_law_calls p_law_calls := ⟨⟨_, _, _, _, _, _, _, _, rfl, lk_law_calls, cd_law_calls⟩, kp_law_calls, tb _ List.mem_cons_self⟩
  have M_law_of_logs : FunM K base mg "_law_of_logs" "_law_of_logs" s_law_of_logs f_law_of_logs _ c_law_of_logs p_law_of_logs := ⟨⟨_, _, _, _, _, _, _, _, rfl, lk_law_of_logs, cd_law_of_logs⟩, kp_law_of_logs, tb (c_law_of_logs, p_law_of_logs) (List.mem_cons_of_mem _ List.mem_cons_self)⟩
  have q_law_calls : (p_law_calls, ((("_law_calls" : Str) ++ ".<locals>.") ++ "<lambda>")) ∈ [(p_law_calls, ((("_law_calls" : Str) ++ ".<locals>.") ++ "<lambda>")), (p_law_of_logs, ((("_law_of_logs" : Str) ++ ".<locals>.") ++ "<lambda>"))] := List.mem_cons_self
  have q_law_of_logs : (p_law_of_logs, ((("_law_of_logs" : Str) ++ ".<locals>.") ++ "<lambda>")) ∈ [(p_law_calls, ((("_law_calls" : Str) ++ ".<locals>.") ++ "<lambda>")), (p_law_of_logs, ((("_law_of_logs" : Str) ++ ".<locals>.") ++ "<lambda>"))] := List.mem_cons_of_mem _ List.mem_cons_self
  have u_law_calls : ∀ p ∈ [(p_law_calls, ((("_law_calls" : Str) ++ ".<locals>.") ++ "<lambda>")), (p_law_of_logs, ((("_law_of_logs" : Str) ++ ".<locals>.") ++ "<lambda>"))], p.1 = p_law_calls → p.2 = ((("_law_calls" : Str) ++ ".<locals>.") ++ "<lambda>") := fun p hp e => by
    rcases List.mem_cons.mp hp with rfl | hp
    · rfl
    · rw [List.mem_singleton.mp hp] at e
      exact absurd e.symm hne
  have u_law_of_logs : ∀ p ∈ [(p_law_calls, ((("_law_calls" : Str) ++ ".<locals>.") ++ "<lambda>")), (p_law_of_logs, ((("_law_of_logs" : Str) ++ ".<locals>.") ++ "<lambda>"))], p.1 = p_law_of_logs → p.2 = ((("_law_of_logs" : Str) ++ ".<locals>.") ++ "<lambda>") := fun p hp e => by
    rcases List.mem_cons.mp hp with rfl | hp
    · exact absurd e hne
    · rw [List.mem_singleton.mp hp]
  exact law_all (Z := Z) (Y := Y) T V U W T1 SG bmax F_is_integer m_is_integer F_is_between m_is_between F_need_width m_need_width F_is_column m_is_column F_is_rule m_is_rule F_need_rule m_need_rule F_are_rules m_are_rules F_need_rules m_need_rules F_need_table m_need_table F_need_like m_need_like F_table_of m_table_of F_is_row m_is_row F_are_rows m_are_rows F_number_of m_number_of F_verdict m_verdict F_shows_verdict m_shows_verdict F_walk m_walk F_groups m_groups F_model m_model F_least m_least F_following m_following F_holds m_holds F_law_cell m_law_cell F_law_source m_law_source F_law_draw m_law_draw F_law_choose m_law_choose F_law_is_equal m_law_is_equal F_law_marks m_law_marks F_law_raised m_law_raised F_law m_law F_Rules_init F_Rules_read F_Rules_call F_Rules_add F_Rules_width F_Rules_rules F_Table_init F_Table_read F_Table_text F_Table_call F_Table_add F_Table_mul F_Table_width F_Table_rows F_Log_init F_Log_need_fit F_Log_add F_Log_call F_Log_drop F_Log_assign_table F_Log_table2 F_Log_become F_Log_undo F_Strict_need_fit b_Strict_need_fit F_Short_init b_Short_init F_Short_need_fit b_Short_need_fit M_law_calls m_law_calls q_law_calls u_law_calls M_law_of_logs m_law_of_logs q_law_of_logs u_law_of_logs K_Rules K_Table K_Log K_Strict K_Short K_StrictShort C_Rules C_Table C_Log C_Short D_Rules E_Rules D_Table E_Table P_Rules_width P_Rules_rules P_Table_width P_Table_rows O_Table_Add O_Table_Mult O_Rules_Add A_Table_text A_Log_add A_Log_drop A_Log_assign_table A_Log_undo A_Strict_add A_Strict_assign_table A_Strict_need_fit A_Strict_become A_Short_add A_Short_need_fit A_Short_become S_Log S_Strict SO_fitS SO_fitH SO_initH opT opR opM noStop hST hHT
end CP
set_option Elab.async false
set_option linter.all false
set_option maxRecDepth 100000
set_option maxHeartbeats 4000000
set_option pp.maxSteps 400
set_option pp.deepTerms false
namespace HX
open PySem PySem.Spec PySem.W PyProof.Rows L2 LamX CL CM CP
theorem cm_ok {r : Option PySem.W.CFound} {p C : Addr} (h : cmB r p C = true) : r = some (.get (.builtin "classmethod.__get__") (.ref p) .none (.ref C)) := by
  unfold cmB at h
  split at h
  · obtain ⟨h1, h2⟩ := He.ba h
    obtain ⟨h3, h4⟩ := He.ba h2
    rw [of_decide_eq_true h1, of_decide_eq_true h3, of_decide_eq_true h4]
  · cases h
theorem rec_ok {K : PySem.W.Frag} {p : Addr} {T : String} {g : Addr} (h : recB K p T g = true) : ∃ rest, PySem.W.recIn K p T = some (.ref g :: rest) := by
  unfold recB at h
  split at h
  · rename_i a r e
    rw [e, of_decide_eq_true h]
    exact ⟨r, rfl⟩
  · cases h
theorem rec2_ok {K : PySem.W.Frag} {p : Addr} {T : String} {g : Addr} (h : recB2 K p T g = true) : ∃ a rest, PySem.W.recIn K p T = some (a :: .ref g :: rest) := by
  unfold recB2 at h
  split at h
  · rename_i b a r e
    rw [e, of_decide_eq_true h]
    exact ⟨b, r, rfl⟩
  · cases h
theorem mro_ok {K : PySem.W.Frag} {C : Addr} {l : List Value} (h : (PySem.W.clsIn K C).map (·.mro) = some l) : ∃ cd, PySem.W.clsIn K C = some cd ∧ cd.mro = l := by
  obtain ⟨cd, h1, h2⟩ := Option.map_eq_some_iff.mp h
  exact ⟨cd, h1, h2⟩
theorem opC_add {K : PySem.W.Frag} {C f : Addr} (h1 : PySem.W.selfFirst K C = true) (h2 : PySem.W.findIn K (.ref C) "__add__" = some (some (.ref f))) (h3 : PySem.W.isFn K (.ref f) = true) (h4 : PySem.W.findIn K (.ref C) "__radd__" = some none) : PySem.W.OpC K C .Add f := ⟨h1, h2, h3, h4⟩
theorem opC_mul {K : PySem.W.Frag} {C f : Addr} (h1 : PySem.W.selfFirst K C = true) (h2 : PySem.W.findIn K (.ref C) "__mul__" = some (some (.ref f))) (h3 : PySem.W.isFn K (.ref f) = true) (h4 : PySem.W.findIn K (.ref C) "__rmul__" = some none) : PySem.W.OpC K C .Mult f := ⟨h1, h2, h3, h4⟩
theorem ra_add {K : PySem.W.Frag} {C : Addr} {T : String} (h1 : (PySem.W.findIn K (.type T) "__add__").isSome = true) (h2 : (PySem.W.findIn K (.type T) "__radd__").isSome = true) (h3 : PySem.W.subIn K (.type T) (.ref C) = some false) : RArg K C .Add (.type T) := by
  obtain ⟨a, e1⟩ := Option.isSome_iff_exists.mp h1
  obtain ⟨b, e2⟩ := Option.isSome_iff_exists.mp h2
  exact .ty e1 e2 h3
theorem rm_own {K : PySem.W.Frag} {C D : Addr} (h0 : (Value.ref C == Value.ref D) = false) (hm : (PySem.W.clsIn K D).map (·.mro) = some [.ref D, .type "object"]) (h1 : PySem.W.findIn K (.ref D) "__mul__" = some none) (h2 : PySem.W.findIn K (.ref D) "__rmul__" = some none) (h3 : PySem.W.findIn K (.type "object") "__mul__" = some none) (h4 : PySem.W.findIn K (.type "object") "__rmul__" = some none) : RArg K C .Mult (.ref D) := by
  obtain ⟨cd, e1, e2⟩ := mro_ok hm
  exact .own h0 e1 e2 h1 h2 h3 h4
theorem seven {Q : String → Prop} (h1 : Q "NoneType") (h2 : Q "bool") (h3 : Q "str") (h4 : Q "int") (h5 : Q "list") (h6 : Q "dict") (h7 : Q "tuple") : ∀ T, T = "NoneType" ∨ T = "bool" ∨ T = "str" ∨ T = "int" ∨ T = "list" ∨ T = "dict" ∨ T = "tuple" → Q T := fun T h => by
  rcases h with rfl | rfl | rfl | rfl | rfl | rfl | rfl <;> assumption
theorem fn_at {K : PySem.W.Frag} {l : List DK} (h : l.map (fnV K) = l.map DK.val) (i : Nat) {d : DK} (e : l[i]? = some d) : fnV K d = d.val := by
  have e2 : (l.map (fnV K))[i]? = (l.map DK.val)[i]? := by rw [h]
  rw [List.getElem?_map, List.getElem?_map, e] at e2
  exact Option.some.inj e2
theorem fn_ex {K : PySem.W.Frag} {d : DK} (e : fnV K d = d.val) : ∃ oc od osl cl dV kV doc pm an cdv ct, cl.map (·.1) = d.clo ∧ K.lookup (d.at_ K) = some ⟨oc, od, .func (PySem.W.fnX d.name d.qual (defArgs d.st) (defBody d.st) (defScope d.st) cl dV kV doc pm an cdv ct), osl⟩ := by
  unfold fnV at e
  cases q : K.lookup (d.at_ K) with
  | none => rw [q] at e; cases e
  | some o =>
    obtain ⟨oc, od, dt, osl⟩ := o
    rw [q] at e
    cases dt with
    | func fd =>
      obtain ⟨n1, n2, n3, n4, n5, n6, n7, n8, n9, n10, n11, n12, n13, n14, n15⟩ := fd
      have e2 : (some (n1, n2, n3, n4, n5, n6, n7.map (·.1), n15) : FnV) = some (d.name, d.qual, defArgs d.st, .stmts (defBody d.st), defScope d.st, mainGlobals, d.clo, builtinsNs) := e
      simp only [Option.some.injEq, Prod.mk.injEq] at e2
      obtain ⟨h1, h2, h3, h4, h5, h6, h7, h8⟩ := e2
      subst h1 h2 h3 h4 h5 h6 h8
      exact ⟨oc, od, osl, n7, n8, n9, n10, n11, n12, n13, n14, h7, rfl⟩
    | _ => cases e
theorem plain_ex {K : PySem.W.Frag} {d : DK} (e : fnV K d = d.val) (hc : d.clo = []) (b : plainB K (d.at_ K) d.qual = true) :
    ∃ oc od osl kV doc pm an cdv ct, K.lookup (d.at_ K) = some ⟨oc, od, .func (PySem.W.fnOf d.name d.qual (defArgs d.st) (defBody d.st) (defScope d.st) .none kV doc pm an cdv ct), osl⟩ ∧ PySem.W.codeIn K cdv d.qual = true ∧ PySem.W.keepIn K (.ref (d.at_ K)) = true := by
  obtain ⟨oc, od, osl, cl, dV, kV, doc, pm, an, cdv, ct, h1, h2⟩ := fn_ex e
  obtain ⟨b1, b2⟩ := He.ba b
  rw [hc] at h1
  have e1 : cl = [] := List.map_eq_nil_iff.mp h1
  subst e1
  rw [h2] at b2
  obtain ⟨b3, b4⟩ := He.ba (show (PySem.W.codeIn K cdv d.qual && isNon dV) = true from b2)
  cases dV with
  | none => exact ⟨oc, od, osl, kV, doc, pm, an, cdv, ct, h2, b3, b1⟩
  | _ => cases b4
theorem met_ok {K : PySem.W.Frag} {d : DK} (e : fnV K d = d.val) (hc : d.clo = []) (b : plainB K (d.at_ K) d.qual = true) : MetK K d.name d.qual d.st (d.at_ K) := by
  obtain ⟨oc, od, osl, kV, doc, pm, an, cdv, ct, h, h1, h2⟩ := plain_ex e hc b
  exact metK h h1 h2
theorem def_ok {K : PySem.W.Frag} {f : PySem.W.Frag → Addr} {x : Str} {st : Stmt} (e : fnV K ⟨f, x, x, st, []⟩ = DK.val ⟨f, x, x, st, []⟩) (hc : (⟨f, x, x, st, []⟩ : DK).clo = []) (b : plainB K (f K) x = true) (g : PySem.W.nsIn K mainGlobals x = some (some (.ref (f K)))) : DefK K x st := by
  obtain ⟨oc, od, osl, kV, doc, pm, an, cdv, ct, h, h1, h2⟩ := plain_ex e hc b
  exact defK g h h1 h2
theorem mak_ok {K : PySem.W.Frag} {f : PySem.W.Frag → Addr} {x : Str} {st : Stmt} (e : fnV K ⟨f, x, x, st, []⟩ = DK.val ⟨f, x, x, st, []⟩) (hc : (⟨f, x, x, st, []⟩ : DK).clo = []) (b : plainB K (f K) x = true) (g : PySem.W.nsIn K mainGlobals x = some (some (.ref (f K)))) : MakK K x st (He.codeOf K (x, none)) := by
  obtain ⟨oc, od, osl, kV, doc, pm, an, cdv, ct, h, h1, h2⟩ := plain_ex e hc b
  obtain ⟨c, rfl⟩ := He.codeIn_ref h1
  have ef : He.fAd K (x, none) = f K := by
    show He.ga K x = f K
    unfold He.ga
    rw [g]
  have ec : He.codeOf K (x, none) = c := He.codeOf_eq (p := (x, none)) (by rw [ef]; exact h) rfl
  rw [ec]
  exact makK g h h1 h2
theorem cdFile_ok {K : PySem.W.Frag} {cda : Addr} {file : Str} (h : cdFile K cda file = true) : ∃ ccl cdd vs ccs fl tf, K.lookup cda = some ⟨ccl, cdd, .fields vs, ccs⟩ ∧ vs[2]? = some (.str fl tf) ∧ (file == fl) = true := by
  unfold cdFile at h
  split at h
  · rename_i ccl cdd vs ccs q
    split at h
    · rename_i fl tf q2
      exact ⟨ccl, cdd, vs, ccs, fl, tf, q, q2, h⟩
    · cases h
  · cases h
theorem cellB_ok {K : PySem.W.Frag} {x : Str} {cl : List (Str × Addr)} {D : Addr} (e : cl.map (·.1) = [x]) (h : cellB K cl D = true) : ∃ cc c1 c2 c3, cl = [(x, cc)] ∧ K.lookup cc = some ⟨c1, c2, .cell (some (.ref D)), c3⟩ := by
  match cl, e, h with
  | [(y, cc)], e, h =>
    obtain rfl : y = x := (List.cons.inj e).1
    unfold cellB at h
    dsimp only at h
    split at h
    · rename_i c1 c2 D' c3 q
      rw [of_decide_eq_true h] at q
      exact ⟨cc, c1, c2, c3, rfl, q⟩
    · cases h
theorem oneD_ok {K : PySem.W.Frag} {v : Value} (h : oneD K v = true) : ∃ T o dv m, v = .ref T ∧ K.lookup T = some o ∧ o.data = .seq #[dv] m := by
  cases v with
  | ref T =>
    unfold oneD at h
    dsimp only at h
    split at h
    · rename_i c1 c2 its m c3 q
      obtain ⟨dv, e⟩ := Array.size_eq_one_iff.mp (of_decide_eq_true h)
      exact ⟨T, _, dv, m, rfl, q, by rw [e]⟩
    · cases h
  | _ => cases h
theorem sup_ex {K : PySem.W.Frag} {d : DK} {D : Addr} {file : Str} (e : fnV K d = d.val) (hc : d.clo = (["__class__"] : List Str)) (b : supB K (d.at_ K) D d.qual file = true) :
    ∃ oc od osl cc dV kV doc pm an cda ct ccl cdd vs ccs fl tf cl cld csl, K.lookup (d.at_ K) = some ⟨oc, od, .func (PySem.W.fnX d.name d.qual (defArgs d.st) (defBody d.st) (defScope d.st) [("__class__", cc)] dV kV doc pm an (.ref cda) ct), osl⟩ ∧ PySem.W.codeIn K (.ref cda) d.qual = true ∧
      K.lookup cda = some ⟨ccl, cdd, .fields vs, ccs⟩ ∧ vs[2]? = some (.str fl tf) ∧ (file == fl) = true ∧ K.lookup cc = some ⟨cl, cld, .cell (some (.ref D)), csl⟩ ∧ PySem.W.keepIn K (.ref (d.at_ K)) = true := by
  obtain ⟨oc, od, osl, cl, dV, kV, doc, pm, an, cdv, ct, h1, h2⟩ := fn_ex e
  obtain ⟨b1, b2⟩ := He.ba b
  rw [hc] at h1
  rw [h2] at b2
  obtain ⟨b3, b4⟩ := He.ba (show (PySem.W.codeIn K cdv d.qual && (cdFile K (codR cdv) file && cellB K cl D)) = true from b2)
  obtain ⟨b5, b6⟩ := He.ba b4
  obtain ⟨cda, rfl⟩ := He.codeIn_ref b3
  obtain ⟨ccl, cdd, vs, ccs, fl, tf, q1, q2, q3⟩ := cdFile_ok (show cdFile K cda file = true from b5)
  obtain ⟨cc, c1, c2, c3, rfl, q4⟩ := cellB_ok h1 b6
  exact ⟨oc, od, osl, cc, dV, kV, doc, pm, an, cda, ct, ccl, cdd, vs, ccs, fl, tf, c1, c2, c3, h2, b3, q1, q2, q3, q4, b1⟩
theorem sup_ok0 {K : PySem.W.Frag} {d : DK} {D : Addr} {ps : List Str} {l : PySem.W.OpenLaw} {file : Str} (e : fnV K d = d.val) (hc : d.clo = (["__class__"] : List Str)) (b : supB K (d.at_ K) D d.qual file = true) (n : noDfl K (d.at_ K) = true) (hfl : l.prog.main.file = file)
    (hb : ∀ (cc : Addr) (kV doc pm : Value) (an : Option Addr) (cdv ct : Value), Binds K (PySem.W.fnX d.name d.qual (defArgs d.st) (defBody d.st) (defScope d.st) [("__class__", cc)] .none kV doc pm an cdv ct) ps []) : SupK l.prog K d.name d.qual d.st (d.at_ K) D ps := by
  obtain ⟨oc, od, osl, cc, dV, kV, doc, pm, an, cda, ct, ccl, cdd, vs, ccs, fl, tf, c1, c2, c3, h1, h2, h3, h4, h5, h6, h7⟩ := sup_ex e hc b
  unfold noDfl at n
  rw [h1] at n
  cases dV with
  | none => exact supK h1 h2 h3 h4 (by rw [hfl]; exact h5) h6 h7 (hb _ _ _ _ _ _ _)
  | _ => cases n
theorem sup_ok1 {K : PySem.W.Frag} {d : DK} {D : Addr} {ps : List Str} {l : PySem.W.OpenLaw} {file : Str} (e : fnV K d = d.val) (hc : d.clo = (["__class__"] : List Str)) (b : supB K (d.at_ K) D d.qual file = true) (n : oneDfl K (d.at_ K) = true) (hfl : l.prog.main.file = file)
    (hb : ∀ (cc T : Addr) (kV doc pm : Value) (an : Option Addr) (cdv ct : Value) (o : Obj) (dv : Value) (m : Nat), K.lookup T = some o → o.data = .seq #[dv] m → Binds K (PySem.W.fnX d.name d.qual (defArgs d.st) (defBody d.st) (defScope d.st) [("__class__", cc)] (.ref T) kV doc pm an cdv ct) ps []) : SupK l.prog K d.name d.qual d.st (d.at_ K) D ps := by
  obtain ⟨oc, od, osl, cc, dV, kV, doc, pm, an, cda, ct, ccl, cdd, vs, ccs, fl, tf, c1, c2, c3, h1, h2, h3, h4, h5, h6, h7⟩ := sup_ex e hc b
  unfold oneDfl at n
  rw [h1] at n
  obtain ⟨T, o, dv, m, e1, e2, e3⟩ := oneD_ok (show oneD K dV = true from n)
  subst e1
  exact supK h1 h2 h3 h4 (by rw [hfl]; exact h5) h6 h7 (hb _ _ _ _ _ _ _ _ _ _ _ e2 e3)

theorem facts_of {K : PySem.W.Frag} (h : exK K = true) : Facts K := by
  unfold exK exB exC at h
  simp only [Bool.and_eq_true, decide_eq_true_eq] at h
  unfold Facts
  simp only [and_assoc] at h ⊢
  exact h
abbrev LW : PySem.W.OpenLaw := PySem.Challenge.rw_countcycles_k10_exceptions_are_of_one_cl
set_option maxHeartbeats 0 in
theorem law_at {w : World} {K : PySem.W.Frag} {h : Heap} {mg : Str → Option Value} {fa : Addr} (X : K.In h) (G : h.Ns mainGlobals mg) (hfa : mg "law" = some (.ref fa)) (hf : dks.map (fnV K) = dks.map DK.val) (c : Facts K)
    (CP1 : PySem.W.CodeHd h (c_law_calls K) (p_law_calls K) ∧ h.get? (p_law_calls K) = some { cls := .none, data := .fields #[] }) (CP2 : PySem.W.CodeHd h (c_law_of_logs K) (p_law_of_logs K) ∧ h.get? (p_law_of_logs K) = some { cls := .none, data := .fields #[] }) : LawAtS LW w K CX0 15 63 "_law_script" mg fa h := by
  obtain ⟨c0, c1, c2, c3, c4, c5, c6, c7, c8, c9, c10, c11, c12, c13, c14, c15, c16, c17, c18, c19, c20, c21, c22, c23, c24, c25, c26, c27⟩ := c
  obtain ⟨t0_0, t0_1, t0_2, t0_3, t0_4, t0_5, t0_6, t0_7, t0_8, t0_9, t0_10, t0_11, t0_12, t0_13, t0_14, t0_15, t0_16, t0_17, t0_18, t0_19⟩ := c0
  obtain ⟨t1_0, t1_1, t1_2, t1_3, t1_4, t1_5, t1_6, t1_7, t1_8, t1_9, t1_10, t1_11, t1_12, t1_13, t1_14, t1_15, t1_16, t1_17, t1_18, t1_19⟩ := c1
  obtain ⟨t2_0, t2_1, t2_2, t2_3, t2_4, t2_5, t2_6, t2_7, t2_8, t2_9, t2_10, t2_11, t2_12, t2_13, t2_14, t2_15, t2_16, t2_17, t2_18, t2_19⟩ := c2
  obtain ⟨t3_0, t3_1, t3_2, t3_3, t3_4, t3_5, t3_6, t3_7, t3_8, t3_9, t3_10, t3_11, t3_12, t3_13, t3_14, t3_15, t3_16, t3_17, t3_18, t3_19⟩ := c3
  obtain ⟨t4_0, t4_1, t4_2, t4_3, t4_4, t4_5, t4_6, t4_7, t4_8, t4_9, t4_10, t4_11, t4_12, t4_13, t4_14, t4_15, t4_16, t4_17, t4_18, t4_19⟩ := c4
  obtain ⟨t5_0, t5_1, t5_2, t5_3, t5_4, t5_5, t5_6, t5_7, t5_8, t5_9, t5_10, t5_11, t5_12, t5_13, t5_14, t5_15, t5_16, t5_17, t5_18, t5_19⟩ := c5
  obtain ⟨t6_0, t6_1, t6_2, t6_3, t6_4, t6_5, t6_6, t6_7, t6_8, t6_9, t6_10, t6_11, t6_12, t6_13, t6_14, t6_15⟩ := c6
  obtain ⟨t7_0, t7_1, t7_2, t7_3, t7_4, t7_5, t7_6, t7_7, t7_8, t7_9, t7_10, t7_11, t7_12, t7_13, t7_14, t7_15, t7_16, t7_17⟩ := c7
  obtain ⟨t8_0, t8_1, t8_2, t8_3, t8_4, t8_5, t8_6, t8_7, t8_8, t8_9, t8_10, t8_11, t8_12, t8_13, t8_14, t8_15, t8_16, t8_17⟩ := c8
  obtain ⟨t9_0, t9_1, t9_2, t9_3, t9_4, t9_5, t9_6, t9_7, t9_8, t9_9, t9_10, t9_11, t9_12, t9_13, t9_14, t9_15, t9_16, t9_17⟩ := c9
  obtain ⟨t10_0, t10_1, t10_2, t10_3, t10_4, t10_5, t10_6, t10_7, t10_8, t10_9, t10_10, t10_11, t10_12, t10_13, t10_14, t10_15, t10_16, t10_17⟩ := c10
  obtain ⟨t11_0, t11_1, t11_2, t11_3, t11_4, t11_5, t11_6, t11_7, t11_8, t11_9, t11_10, t11_11, t11_12, t11_13, t11_14, t11_15, t11_16, t11_17⟩ := c11
  obtain ⟨t12_0, t12_1, t12_2, t12_3, t12_4, t12_5, t12_6, t12_7, t12_8, t12_9, t12_10, t12_11, t12_12, t12_13, t12_14, t12_15, t12_16, t12_17⟩ := c12
  obtain ⟨t13_0, t13_1, t13_2, t13_3, t13_4, t13_5, t13_6, t13_7, t13_8, t13_9, t13_10, t13_11, t13_12, t13_13, t13_14, t13_15, t13_16, t13_17, t13_18, t13_19⟩ := c13
  obtain ⟨t14_0, t14_1, t14_2, t14_3, t14_4, t14_5, t14_6, t14_7, t14_8, t14_9, t14_10, t14_11, t14_12, t14_13, t14_14, t14_15, t14_16, t14_17, t14_18⟩ := c14
  obtain ⟨t15_0, t15_1, t15_2, t15_3, t15_4, t15_5, t15_6, t15_7, t15_8, t15_9, t15_10, t15_11, t15_12, t15_13, t15_14, t15_15, t15_16⟩ := c15
  obtain ⟨t16_0, t16_1, t16_2, t16_3, t16_4, t16_5, t16_6, t16_7, t16_8, t16_9, t16_10, t16_11, t16_12, t16_13, t16_14, t16_15, t16_16, t16_17, t16_18⟩ := c16
  obtain ⟨t17_0, t17_1, t17_2, t17_3, t17_4, t17_5, t17_6, t17_7, t17_8, t17_9, t17_10, t17_11, t17_12, t17_13, t17_14, t17_15, t17_16, t17_17, t17_18, t17_19⟩ := c17
  obtain ⟨t18_0, t18_1, t18_2, t18_3, t18_4, t18_5, t18_6, t18_7, t18_8, t18_9, t18_10, t18_11, t18_12, t18_13, t18_14, t18_15, t18_16, t18_17, t18_18, t18_19, t18_20⟩ := c18
  obtain ⟨t19_0, t19_1, t19_2, t19_3, t19_4, t19_5, t19_6, t19_7, t19_8, t19_9, t19_10, t19_11, t19_12, t19_13, t19_14, t19_15, t19_16, t19_17, t19_18, t19_19, t19_20⟩ := c19
  obtain ⟨t20_0, t20_1, t20_2, t20_3, t20_4, t20_5, t20_6, t20_7, t20_8, t20_9, t20_10, t20_11, t20_12, t20_13, t20_14, t20_15, t20_16, t20_17⟩ := c20
  obtain ⟨t21_0, t21_1, t21_2, t21_3, t21_4, t21_5, t21_6, t21_7, t21_8, t21_9, t21_10, t21_11, t21_12, t21_13, t21_14, t21_15, t21_16, t21_17⟩ := c21
  obtain ⟨t22_0, t22_1, t22_2, t22_3, t22_4, t22_5, t22_6, t22_7, t22_8, t22_9, t22_10, t22_11, t22_12, t22_13, t22_14, t22_15, t22_16, t22_17, t22_18, t22_19⟩ := c22
  obtain ⟨t23_0, t23_1, t23_2, t23_3, t23_4, t23_5, t23_6, t23_7, t23_8, t23_9, t23_10, t23_11, t23_12, t23_13, t23_14, t23_15, t23_16, t23_17, t23_18, t23_19⟩ := c23
  obtain ⟨t24_0, t24_1, t24_2, t24_3, t24_4, t24_5, t24_6, t24_7, t24_8, t24_9, t24_10, t24_11, t24_12, t24_13, t24_14, t24_15, t24_16, t24_17, t24_18⟩ := c24
  obtain ⟨t25_0, t25_1, t25_2, t25_3, t25_4, t25_5, t25_6, t25_7, t25_8, t25_9, t25_10, t25_11, t25_12, t25_13, t25_14, t25_15, t25_16, t25_17⟩ := c25
  obtain ⟨t26_0, t26_1, t26_2, t26_3, t26_4, t26_5, t26_6, t26_7, t26_8, t26_9, t26_10, t26_11, t26_12, t26_13, t26_14, t26_15⟩ := c26
  obtain ⟨t27_0, t27_1, t27_2, t27_3, t27_4, t27_5, t27_6, t27_7, t27_8, t27_9, t27_10, t27_11, t27_12, t27_13⟩ := c27
  exact all_mk (l := LW) (w := w) (aR := aR K) (aT := aT K) (aL := aL K) (aS := aS K) (aH := aH K) (aB := aB K) (aE := aE K) (e0 := e0 K) (e1 := e1 K) (e2 := e2 K) (e3 := e3 K) (e4 := e4 K) (e5 := e5 K) (e6 := e6 K) (e7 := e7 K) (e8 := e8 K) (e9 := e9 K) (e10 := e10 K) (e11 := e11 K) (e12 := e12 K) (e13 := e13 K) (e14 := e14 K) (f_Rules_init := f_Rules_init K) (f_Rules_read := f_Rules_read K) (f_Rules_call := f_Rules_call K) (f_Rules_add := f_Rules_add K) (f_Rules_width := f_Rules_width K) (f_Rules_rules := f_Rules_rules K) (f_Table_init := f_Table_init K) (f_Table_read := f_Table_read K) (f_Table_text := f_Table_text K) (f_Table_call := f_Table_call K) (f_Table_add := f_Table_add K) (f_Table_mul := f_Table_mul K) (f_Table_width := f_Table_width K) (f_Table_rows := f_Table_rows K) (f_Log_init := f_Log_init K) (f_Log_need_fit := f_Log_need_fit K) (f_Log_add := f_Log_add K) (f_Log_call := f_Log_call K) (f_Log_drop := f_Log_drop K) (f_Log_assign_table := f_Log_assign_table K) (f_Log_table2 := f_Log_table2 K) (f_Log_become := f_Log_become K) (f_Log_undo := f_Log_undo K) (f_Strict_need_fit := f_Strict_need_fit K) (f_Short_init := f_Short_init K) (f_Short_need_fit := f_Short_need_fit K) (c_law_calls := c_law_calls K) (p_law_calls := p_law_calls K) (c_law_of_logs := c_law_of_logs K) (p_law_of_logs := p_law_of_logs K) (pr_Rules := pr_Rules K) (pr_Table := pr_Table K) (pp_Rules_width := pp_Rules_width K) (pp_Rules_rules := pp_Rules_rules K) (pp_Table_width := pp_Table_width K) (pp_Table_rows := pp_Table_rows K) (ps_Log := ps_Log K) (ps_Strict := ps_Strict K) (mc_Rules := .type "type") (mc_Table := .type "type")
    (X := X) (G := G) (hfa := hfa) (CP1 := CP1) (CP2 := CP2) (htop := by rfl)
    (d_is_integer := (def_ok (fn_at hf 0 rfl) rfl t0_1 t0_0))
    (d_is_between := (def_ok (fn_at hf 1 rfl) rfl t0_3 t0_2))
    (d_need_width := (def_ok (fn_at hf 2 rfl) rfl t0_5 t0_4))
    (d_is_column := (def_ok (fn_at hf 3 rfl) rfl t0_7 t0_6))
    (d_is_rule := (def_ok (fn_at hf 4 rfl) rfl t0_9 t0_8))
    (d_need_rule := (def_ok (fn_at hf 5 rfl) rfl t0_11 t0_10))
    (d_are_rules := (def_ok (fn_at hf 6 rfl) rfl t0_13 t0_12))
    (d_need_rules := (def_ok (fn_at hf 7 rfl) rfl t0_15 t0_14))
    (d_need_table := (def_ok (fn_at hf 8 rfl) rfl t0_17 t0_16))
    (d_need_like := (def_ok (fn_at hf 9 rfl) rfl t0_19 t0_18))
    (d_table_of := (def_ok (fn_at hf 10 rfl) rfl t1_1 t1_0))
    (d_is_row := (def_ok (fn_at hf 11 rfl) rfl t1_3 t1_2))
    (d_are_rows := (def_ok (fn_at hf 12 rfl) rfl t1_5 t1_4))
    (d_number_of := (def_ok (fn_at hf 13 rfl) rfl t1_7 t1_6))
    (d_verdict := (def_ok (fn_at hf 14 rfl) rfl t1_9 t1_8))
    (d_shows_verdict := (def_ok (fn_at hf 15 rfl) rfl t1_11 t1_10))
    (d_walk := (def_ok (fn_at hf 16 rfl) rfl t1_13 t1_12))
    (d_groups := (def_ok (fn_at hf 17 rfl) rfl t1_15 t1_14))
    (d_model := (def_ok (fn_at hf 18 rfl) rfl t1_17 t1_16))
    (d_least := (def_ok (fn_at hf 19 rfl) rfl t1_19 t1_18))
    (d_following := (def_ok (fn_at hf 20 rfl) rfl t2_1 t2_0))
    (d_holds := (def_ok (fn_at hf 21 rfl) rfl t2_3 t2_2))
    (d_law_cell := (def_ok (fn_at hf 22 rfl) rfl t2_5 t2_4))
    (d_law_source := (def_ok (fn_at hf 23 rfl) rfl t2_7 t2_6))
    (d_law_draw := (def_ok (fn_at hf 24 rfl) rfl t2_9 t2_8))
    (d_law_choose := (def_ok (fn_at hf 25 rfl) rfl t2_11 t2_10))
    (d_law_is_equal := (def_ok (fn_at hf 26 rfl) rfl t2_13 t2_12))
    (d_law_marks := (def_ok (fn_at hf 27 rfl) rfl t2_15 t2_14))
    (d_law_raised := (def_ok (fn_at hf 28 rfl) rfl t2_17 t2_16))
    (d_law := (def_ok (fn_at hf 29 rfl) rfl t2_19 t2_18))
    (i_Rules_init := (met_ok (fn_at hf 30 rfl) rfl t3_0))
    (i_Rules_read := (met_ok (fn_at hf 31 rfl) rfl t3_1))
    (i_Rules_call := (met_ok (fn_at hf 32 rfl) rfl t3_2))
    (i_Rules_add := (met_ok (fn_at hf 33 rfl) rfl t3_3))
    (i_Rules_width := (met_ok (fn_at hf 34 rfl) rfl t3_4))
    (i_Rules_rules := (met_ok (fn_at hf 35 rfl) rfl t3_5))
    (i_Table_init := (met_ok (fn_at hf 36 rfl) rfl t3_6))
    (i_Table_read := (met_ok (fn_at hf 37 rfl) rfl t3_7))
    (i_Table_text := (met_ok (fn_at hf 38 rfl) rfl t3_8))
    (i_Table_call := (met_ok (fn_at hf 39 rfl) rfl t3_9))
    (i_Table_add := (met_ok (fn_at hf 40 rfl) rfl t3_10))
    (i_Table_mul := (met_ok (fn_at hf 41 rfl) rfl t3_11))
    (i_Table_width := (met_ok (fn_at hf 42 rfl) rfl t3_12))
    (i_Table_rows := (met_ok (fn_at hf 43 rfl) rfl t3_13))
    (i_Log_init := (met_ok (fn_at hf 44 rfl) rfl t3_14))
    (i_Log_need_fit := (met_ok (fn_at hf 45 rfl) rfl t3_15))
    (i_Log_add := (met_ok (fn_at hf 46 rfl) rfl t3_16))
    (i_Log_call := (met_ok (fn_at hf 47 rfl) rfl t3_17))
    (i_Log_drop := (met_ok (fn_at hf 48 rfl) rfl t3_18))
    (i_Log_assign_table := (met_ok (fn_at hf 49 rfl) rfl t3_19))
    (i_Log_table2 := (met_ok (fn_at hf 50 rfl) rfl t4_0))
    (i_Log_become := (met_ok (fn_at hf 51 rfl) rfl t4_1))
    (i_Log_undo := (met_ok (fn_at hf 52 rfl) rfl t4_2))
    (j_Strict_need_fit := (sup_ok0 (fn_at hf 53 rfl) rfl t4_3 t4_4 rfl (fun _ _ _ _ _ _ _ => CP.hb_fitS)))
    (j_Short_init := (sup_ok1 (fn_at hf 54 rfl) rfl t4_5 t4_6 rfl (fun _ _ _ _ _ _ _ _ _ _ _ a b => CP.hb_initH a b)))
    (j_Short_need_fit := (sup_ok0 (fn_at hf 55 rfl) rfl t4_7 t4_8 rfl (fun _ _ _ _ _ _ _ => CP.hb_fitH)))
    (k_law_calls := (mak_ok (fn_at hf 56 rfl) rfl t4_10 t4_9))
    (n1 := (Option.isNone_iff_eq_none.mp t4_11))
    (k_law_of_logs := (mak_ok (fn_at hf 57 rfl) rfl t4_13 t4_12))
    (n2 := (Option.isNone_iff_eq_none.mp t4_14))
    (hne := t4_15)
    (kS := t4_16)
    (kW := t4_17)
    (kM := t4_18)
    (kMR := t4_19)
    (kMV := t5_0)
    (kSM := t5_1)
    (kDG := t5_2)
    (g_Rules := t5_3)
    (g_Table := t5_4)
    (g_Log := t5_5)
    (g_Strict := t5_6)
    (g_Short := t5_7)
    (g_StrictShort := t5_8)
    (g_ColumnError := t5_9)
    (z_len := t5_10)
    (z_range := t5_11)
    (z_sorted := t5_12)
    (z_set := t5_13)
    (z_all := t5_14)
    (z_isinstance := t5_15)
    (z_int := t5_16)
    (z_bool := t5_17)
    (z_str := t5_18)
    (z_tuple := t5_19)
    (z_max := t6_0)
    (z_min := t6_1)
    (z_repr := t6_2)
    (z_list := t6_3)
    (z_enumerate := t6_4)
    (z_super := t6_5)
    (z_ValueError := t6_6)
    (x_NoWidth := ⟨t6_7, t6_8, t6_9, t6_10, t6_11, t6_12, t6_13, t6_14, mro_ok t6_15⟩)
    (x_NoRows := ⟨t7_0, t7_1, t7_2, t7_3, t7_4, t7_5, t7_6, t7_7, mro_ok t7_8⟩)
    (x_NoRow := ⟨t7_9, t7_10, t7_11, t7_12, t7_13, t7_14, t7_15, t7_16, mro_ok t7_17⟩)
    (x_NoRules := ⟨t8_0, t8_1, t8_2, t8_3, t8_4, t8_5, t8_6, t8_7, mro_ok t8_8⟩)
    (x_NoRule := ⟨t8_9, t8_10, t8_11, t8_12, t8_13, t8_14, t8_15, t8_16, mro_ok t8_17⟩)
    (x_NoColumn := ⟨t9_0, t9_1, t9_2, t9_3, t9_4, t9_5, t9_6, t9_7, mro_ok t9_8⟩)
    (x_NoNumber := ⟨t9_9, t9_10, t9_11, t9_12, t9_13, t9_14, t9_15, t9_16, mro_ok t9_17⟩)
    (x_NoText := ⟨t10_0, t10_1, t10_2, t10_3, t10_4, t10_5, t10_6, t10_7, mro_ok t10_8⟩)
    (x_NotTable := ⟨t10_9, t10_10, t10_11, t10_12, t10_13, t10_14, t10_15, t10_16, mro_ok t10_17⟩)
    (x_NotRules := ⟨t11_0, t11_1, t11_2, t11_3, t11_4, t11_5, t11_6, t11_7, mro_ok t11_8⟩)
    (x_UnlikeWidths := ⟨t11_9, t11_10, t11_11, t11_12, t11_13, t11_14, t11_15, t11_16, mro_ok t11_17⟩)
    (x_TooMuch := ⟨t12_0, t12_1, t12_2, t12_3, t12_4, t12_5, t12_6, t12_7, mro_ok t12_8⟩)
    (x_NotThere := ⟨t12_9, t12_10, t12_11, t12_12, t12_13, t12_14, t12_15, t12_16, mro_ok t12_17⟩)
    (x_Broken := ⟨t13_0, t13_1, t13_2, t13_3, t13_4, t13_5, t13_6, t13_7, mro_ok t13_8⟩)
    (x_NothingDone := ⟨t13_9, t13_10, t13_11, t13_12, t13_13, t13_14, t13_15, t13_16, mro_ok t13_17⟩)
    (ed := t13_18)
    (eE := t13_19)
    (eT := t14_0)
    (eB := t14_1)
    (oc1 := t14_2)
    (oc2 := t14_3)
    (noStop := t14_4)
    (hST := t14_5)
    (hHT := t14_6)
    (w_Rules := ⟨t14_7, t14_8, t14_9, t14_10⟩)
    (w_Table := ⟨t14_11, t14_12, t14_13, t14_14⟩)
    (w_Log := ⟨t14_15, t14_16, t14_17, t14_18⟩)
    (w_Strict := ⟨t15_0, t15_1, t15_2, t15_3⟩)
    (w_Short := ⟨t15_4, t15_5, t15_6, t15_7⟩)
    (v_Rules := ⟨⟨t15_8, t15_9, t15_10, t15_11⟩, t15_12, t15_13, t15_14, t15_15, t15_16⟩)
    (v_Table := ⟨⟨t16_0, t16_1, t16_2, t16_3⟩, t16_4, t16_5, t16_6, t16_7, t16_8⟩)
    (y_Rules := ⟨t16_9, t16_10⟩)
    (y_Table := ⟨t16_11, t16_12⟩)
    (y_Log := ⟨t16_13, t16_14, t16_15⟩)
    (y_Strict := ⟨t16_16, t16_17, t16_18⟩)
    (y_Short := ⟨t17_0, t17_1, t17_2, t17_3⟩)
    (tyR := (seven t17_4 t17_5 t17_6 t17_7 t17_8 t17_9 t17_10))
    (tyT := (seven t17_11 t17_12 t17_13 t17_14 t17_15 t17_16 t17_17))
    (tRT := t17_18)
    (tTR := t17_19)
    (opT := (seven (ra_add t18_0 t18_1 t18_2) (ra_add t18_3 t18_4 t18_5) (ra_add t18_6 t18_7 t18_8) (ra_add t18_9 t18_10 t18_11) (ra_add t18_12 t18_13 t18_14) (ra_add t18_15 t18_16 t18_17) (ra_add t18_18 t18_19 t18_20)))
    (opR := (seven (ra_add t19_0 t19_1 t19_2) (ra_add t19_3 t19_4 t19_5) (ra_add t19_6 t19_7 t19_8) (ra_add t19_9 t19_10 t19_11) (ra_add t19_12 t19_13 t19_14) (ra_add t19_15 t19_16 t19_17) (ra_add t19_18 t19_19 t19_20)))
    (opM := (rm_own t20_0 t20_1 t20_2 t20_3 t20_4 t20_5))
    (K_Rules := ⟨t20_6, t20_7, t20_8, t20_9⟩)
    (K_Table := ⟨t20_10, t20_11, t20_12, t20_13⟩)
    (K_Log := ⟨t20_14, t20_15, t20_16, t20_17⟩)
    (K_Strict := ⟨t21_0, t21_1, t21_2, t21_3⟩)
    (K_Short := ⟨t21_4, t21_5, t21_6, t21_7⟩)
    (K_StrictShort := ⟨t21_8, t21_9, t21_10, t21_11⟩)
    (C_Rules := ⟨t21_12, t21_13, t21_14⟩)
    (C_Table := ⟨t21_15, t21_16, t21_17⟩)
    (C_Log := ⟨t22_0, t22_1, t22_2⟩)
    (C_Short := ⟨t22_3, t22_4, t22_5⟩)
    (D_Rules := ⟨t22_6, t22_7⟩)
    (E_Rules := ⟨cm_ok t22_8, rec_ok t22_9, t22_10⟩)
    (D_Table := ⟨t22_11, t22_12⟩)
    (E_Table := ⟨cm_ok t22_13, rec_ok t22_14, t22_15⟩)
    (P_Rules_width := ⟨t22_16, t22_17, t22_18, rec_ok t22_19⟩)
    (P_Rules_rules := ⟨t23_0, t23_1, t23_2, rec_ok t23_3⟩)
    (P_Table_width := ⟨t23_4, t23_5, t23_6, rec_ok t23_7⟩)
    (P_Table_rows := ⟨t23_8, t23_9, t23_10, rec_ok t23_11⟩)
    (O_Table_Add := (opC_add t23_12 t23_13 t23_14 t23_15))
    (O_Table_Mult := (opC_mul t23_16 t23_17 t23_18 t23_19))
    (O_Rules_Add := (opC_add t24_0 t24_1 t24_2 t24_3))
    (A_Table_text := ⟨t24_4, t24_5, t24_6⟩)
    (A_Log_add := ⟨t24_7, t24_8, t24_9⟩)
    (A_Log_drop := ⟨t24_10, t24_11, t24_12⟩)
    (A_Log_assign_table := ⟨t24_13, t24_14, t24_15⟩)
    (A_Log_undo := ⟨t24_16, t24_17, t24_18⟩)
    (A_Strict_add := ⟨t25_0, t25_1, t25_2⟩)
    (A_Strict_assign_table := ⟨t25_3, t25_4, t25_5⟩)
    (A_Strict_need_fit := ⟨t25_6, t25_7, t25_8⟩)
    (A_Strict_become := ⟨t25_9, t25_10, t25_11⟩)
    (A_Short_add := ⟨t25_12, t25_13, t25_14⟩)
    (A_Short_need_fit := ⟨t25_15, t25_16, t25_17⟩)
    (A_Short_become := ⟨t26_0, t26_1, t26_2⟩)
    (S_Log := ⟨t26_3, t26_4, rec2_ok t26_5⟩)
    (S_Strict := ⟨t26_6, t26_7, rec2_ok t26_8⟩)
    (SO_fitS := ⟨t26_9, t26_10, t26_11, t26_12, t26_13, t26_14, t26_15⟩)
    (SO_fitH := ⟨t27_0, t27_1, t27_2, t27_3, t27_4, t27_5, t27_6⟩)
    (SO_initH := ⟨t27_7, t27_8, t27_9, t27_10, t27_11, t27_12, t27_13⟩)
end HX
set_option Elab.async false
set_option linter.all false
open PySem PySem.W PyProof.Rows
set_option maxRecDepth 100000 in
set_option maxHeartbeats 0 in
theorem PySem.Challenge.cw_countcycles_k10_exceptions_are_of_one_cl_holds : PySem.Challenge.rw_countcycles_k10_exceptions_are_of_one_cl.Holds := by
  w_on; o_law
  refine HandSHeadRun.head_any (r := OpenLaw.row PySem.Challenge.rw_countcycles_k10_exceptions_are_of_one_cl) (q := HX.qv) (H := HX.hk) (ob := HX.ob) (M := 10000) (loose := HX.names) (d := HandSHeadRun.topDef (OpenLaw.row PySem.Challenge.rw_countcycles_k10_exceptions_are_of_one_cl).prog 90) (kwd := []) HX.ob_eq
    (by kernel_rfl) (fun s => by kernel_rfl) HX.run (by kernel_rfl) (by kernel_rfl) (by kernel_rfl) (by rfl) (by first | assumption | decide +kernel) (by decide +kernel) ⟨rfl, rfl, rfl, rfl, rfl, by decide +kernel⟩ ?hw ?hc
  case hw => w_witness2
  case hc =>
    refine LamX.walk_ofTsE (l := PySem.Challenge.rw_countcycles_k10_exceptions_are_of_one_cl) (n := 63) (k := 15) (x := "_law_script") (CX := fun _ => L2.CX0) rfl (by decide) (by kernel_rfl) ⟨rfl, by decide, by decide⟩ ?F (fun _ _ _ _ _ z => z)
    intro w mg fa h Y G hmg0
    obtain ⟨K, c⟩ := Y
    have hmg : mg ("law" : PySem.Str) = some (.ref fa) := by
      have e : (HandSHeadRun.topDef (OpenLaw.row PySem.Challenge.rw_countcycles_k10_exceptions_are_of_one_cl).prog 90).name = ("law" : PySem.Str) := by kernel_rfl
      rw [← e]
      exact hmg0
    exact ⟨K, c.X, HX.law_at c.X G hmg c.f (HX.facts_of c.e) ⟨PySem.W.codeHd_of_K c.X c.c1, c.p1⟩ ⟨PySem.W.codeHd_of_K c.X c.c2, c.p2⟩⟩
#print axioms PySem.Challenge.cw_countcycles_k10_exceptions_are_of_one_cl_holds
