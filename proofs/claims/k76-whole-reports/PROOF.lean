import PyProof.Rows.All
import Wide.All
import OpenK.AllK
import Wide.FinOn
import KE.KStateDown
import Lean
import HandS.ForMost
import HandS.ForExc
import HandS.Walk
import HandS.Zip
import HandS.TupMul
import HandS.TupAny
import HandS.IsInst
import HandS.Defaults
import HandS.Lambda
import HandS.Style
import HandS.TryMany
import HandS.ExcInit
import HandS.ExcField
import HandS.HeadHook4
import HandS.HeadWalk
import HandS.Head2
import KE.GoesEnum
import KE.GoesMore
import KE.KDictZip
import HandS.Strs
import KE.KExcSuper
import HandS.ExcSuper
import PySem.Challenge.RW_byhalves_k76_whole_reports_behind_correc
import HandS.HeadNt
import HandS.Head0
import HandS.Head1
set_option Elab.async false
set_option linter.all false
set_option maxRecDepth 100000
set_option autoImplicit false
set_option maxHeartbeats 0
/-! K0: what the top's run is looked at for, and the run itself, first of all (printed by mk0.py) -/
namespace K76
open PySem PySem.Spec PyProof.Rows L2
/-- a pure value; ref: the number of a mutable object of the store; fl: a list from outside that nobody changes; tupx: a tuple of texts whose methods are asked -/
inductive D where
  | non | bl (b : Bool) | int (i : Int) | str (s : Str) | tup (l : List D) | fl (l : List D) | tupx (l : List Str) | ref (i : Nat)
/-- names by numbers: of classes, of attributes and methods -/
structure Nm where
  cls : Nat → Str
  at_ : Nat → Str

/-- the checked tables: places of defs, names of global constants -/
structure Ct where
  nf : Nat
  fn : Nat → Str × Option Str
  ar : Nat → Nat
  gnm : Nat → Option Str
  isC : Nat → Bool
  isE : Nat → Bool
  wn : Nat
def plainP (p : Arguments) (ps : List Str) : Bool := match p with
  | ⟨[], as, none, [], [], none, []⟩ => decide (as.map (·.arg) = ps) && decide ps.Nodup
  | _ => false
def iniTB (params : Arguments) (body : List Stmt) (sc : Scope) : Bool := match body with
  | [.Expr (.Call (.Attribute (.Call (.Name s1 _) [] [] _) at1 q2) [.Name w1 _] [] q4) _, .Assign [.Attribute (.Name s2 _) at2 _] (.Name w2 _) _] =>
    (q2.endLine == q4.line) && (decide (s1 = "super") && (decide (at1 = "__init__") && (decide (w1 = "what") && (decide (s2 = "self") && (decide (at2 = "what") && (decide (w2 = "what") && (plainP params ["self", "what"] && (decide (sc.kind = .function) && (!sc.isCoroutine && (!sc.isGenerator &&
      (decide (sc.names.lookup ("self" : Str) = some .local) && (decide (sc.names.lookup ("what" : Str) = some .local) && (decide (sc.names.lookup ("super" : Str) = some .globalImplicit) && (decide (sc.names.lookup ("__class__" : Str) = some .free) && (sc.names.all fun y => !decide (y.2 = .cell) && (!decide (y.2 = .free) || decide (y.1 = "__class__")))))))))))))))))
  | _ => false
def hdTag (K : PySem.W.Frag) (cls : Value) : List (Addr × Str) → Option Str
  | [] => none
  | (c, t) :: r => match PySem.W.exmOne K cls (.ref c) with
    | some true => some t
    | some false => hdTag K cls r
    | none => none
end K76
namespace K76P
open PySem PySem.Spec PyProof.Rows L2 K76
abbrev prog : Program := PySem.Challenge.pw_byhalves_k76_whole_reports_behind_correc
def top (i : Nat) : Stmt := prog.main.body.getD i (.Pass ⟨0, 0, 0, 0⟩)
def sub (i j : Nat) : Stmt := (C8.clsBody (top i)).getD j (.Pass ⟨0, 0, 0, 0⟩)
def d_is_whole : He.DefD := ⟨("is_whole", none), "is_whole", "is_whole", defArgs (top 20), defBody (top 20), defScope (top 20), [], []⟩
def d_is_between : He.DefD := ⟨("is_between", none), "is_between", "is_between", defArgs (top 21), defBody (top 21), defScope (top 21), [], []⟩
def d_is_below : He.DefD := ⟨("is_below", none), "is_below", "is_below", defArgs (top 22), defBody (top 22), defScope (top 22), [], []⟩
def d_is_links : He.DefD := ⟨("is_links", none), "is_links", "is_links", defArgs (top 23), defBody (top 23), defScope (top 23), [], []⟩
def d_has_size : He.DefD := ⟨("has_size", none), "has_size", "has_size", defArgs (top 24), defBody (top 24), defScope (top 24), [], []⟩
def d_wrong_entry : He.DefD := ⟨("wrong_entry", none), "wrong_entry", "wrong_entry", defArgs (top 25), defBody (top 25), defScope (top 25), [], []⟩
def d_made_book : He.DefD := ⟨("made_book", none), "made_book", "made_book", defArgs (top 26), defBody (top 26), defScope (top 26), [], []⟩
def d_many_parts : He.DefD := ⟨("many_parts", none), "many_parts", "many_parts", defArgs (top 27), defBody (top 27), defScope (top 27), [], []⟩
def d_is_part_books : He.DefD := ⟨("is_part_books", none), "is_part", "is_part", defArgs (top 28), defBody (top 28), defScope (top 28), [], []⟩
def d_wrong_weight : He.DefD := ⟨("wrong_weight", none), "wrong_weight", "wrong_weight", defArgs (top 30), defBody (top 30), defScope (top 30), [], []⟩
def d_divisor : He.DefD := ⟨("divisor", none), "divisor", "divisor", defArgs (top 32), defBody (top 32), defScope (top 32), [], []⟩
def d_is_move : He.DefD := ⟨("is_move", none), "is_move", "is_move", defArgs (top 36), defBody (top 36), defScope (top 36), [], []⟩
def d_want_history : He.DefD := ⟨("want_history", none), "want_history", "want_history", defArgs (top 37), defBody (top 37), defScope (top 37), [], []⟩
def d_is_change : He.DefD := ⟨("is_change", none), "is_change", "is_change", defArgs (top 39), defBody (top 39), defScope (top 39), [], []⟩
def d_is_changes : He.DefD := ⟨("is_changes", none), "is_changes", "is_changes", defArgs (top 40), defBody (top 40), defScope (top 40), [], []⟩
def d_first_outside : He.DefD := ⟨("first_outside", none), "first_outside", "first_outside", defArgs (top 41), defBody (top 41), defScope (top 41), [], []⟩
def d_at_first : He.DefD := ⟨("at_first", none), "at_first", "at_first", defArgs (top 42), defBody (top 42), defScope (top 42), [], []⟩
def d_put_to : He.DefD := ⟨("put_to", none), "put_to", "put_to", defArgs (top 43), defBody (top 43), defScope (top 43), [], []⟩
def d_state_behind : He.DefD := ⟨("state_behind", none), "state_behind", "state_behind", defArgs (top 44), defBody (top 44), defScope (top 44), [], []⟩
def d_Standing_init : He.DefD := ⟨("Standing", some "__init__"), "__init__", "Standing.__init__", defArgs (sub 45 0), defBody (sub 45 0), defScope (sub 45 0), [], []⟩
def d_Standing_branch : He.DefD := ⟨("Standing", some "branch"), "branch", "Standing.branch", defArgs (sub 45 1), defBody (sub 45 1), defScope (sub 45 1), [], []⟩
def d_Standing_step : He.DefD := ⟨("Standing", some "step"), "step", "Standing.step", defArgs (sub 45 2), defBody (sub 45 2), defScope (sub 45 2), [], []⟩
def d_standing_at_first : He.DefD := ⟨("standing_at_first", none), "standing_at_first", "standing_at_first", defArgs (top 46), defBody (top 46), defScope (top 46), [], []⟩
def d_strays_of : He.DefD := ⟨("strays_of", none), "strays_of", "strays_of", defArgs (top 48), defBody (top 48), defScope (top 48), [], []⟩
def d_stray_of : He.DefD := ⟨("stray_of", none), "stray_of", "stray_of", defArgs (top 49), defBody (top 49), defScope (top 49), [], []⟩
def d_want_lines : He.DefD := ⟨("want_lines", none), "want_lines", "want_lines", defArgs (top 51), defBody (top 51), defScope (top 51), [], []⟩
def d_is_name : He.DefD := ⟨("is_name", none), "is_name", "is_name", defArgs (top 57), defBody (top 57), defScope (top 57), [], []⟩
def d_Scope_init : He.DefD := ⟨("Scope", some "__init__"), "__init__", "Scope.__init__", defArgs (sub 68 0), defBody (sub 68 0), defScope (sub 68 0), [], []⟩
def d_want_names : He.DefD := ⟨("want_names", none), "want_names", "want_names", defArgs (top 69), defBody (top 69), defScope (top 69), [], []⟩
def d_is_short : He.DefD := ⟨("is_short", none), "is_short", "is_short", defArgs (top 70), defBody (top 70), defScope (top 70), [], []⟩
def d_is_worded : He.DefD := ⟨("is_worded", none), "is_worded", "is_worded", defArgs (top 71), defBody (top 71), defScope (top 71), [], []⟩
def d_is_one_of : He.DefD := ⟨("is_one_of", none), "is_one_of", "is_one_of", defArgs (top 72), defBody (top 72), defScope (top 72), [], []⟩
def d_is_part_publishers : He.DefD := ⟨("is_part_publishers", none), "is_part", "is_part", defArgs (top 73), defBody (top 73), defScope (top 73), [], []⟩
def d_is_leaf : He.DefD := ⟨("is_leaf", none), "is_leaf", "is_leaf", defArgs (top 75), defBody (top 75), defScope (top 75), [], []⟩
def d_is_number : He.DefD := ⟨("is_number", none), "is_number", "is_number", defArgs (top 76), defBody (top 76), defScope (top 76), [], []⟩
def d_is_test_leaf : He.DefD := ⟨("is_test_leaf", none), "is_test_leaf", "is_test_leaf", defArgs (top 77), defBody (top 77), defScope (top 77), [], []⟩
def d_is_test : He.DefD := ⟨("is_test", none), "is_test", "is_test", defArgs (top 78), defBody (top 78), defScope (top 78), [], []⟩
def d_is_plain : He.DefD := ⟨("is_plain", none), "is_plain", "is_plain", defArgs (top 79), defBody (top 79), defScope (top 79), [], []⟩
def d_is_choice : He.DefD := ⟨("is_choice", none), "is_choice", "is_choice", defArgs (top 80), defBody (top 80), defScope (top 80), [], []⟩
def d_is_each_form : He.DefD := ⟨("is_each_form", none), "is_each_form", "is_each_form", defArgs (top 81), defBody (top 81), defScope (top 81), [], []⟩
def d_Reading_init : He.DefD := ⟨("Reading", some "__init__"), "__init__", "Reading.__init__", defArgs (sub 82 0), defBody (sub 82 0), defScope (sub 82 0), [], []⟩
def d_Reading_body : He.DefD := ⟨("Reading", some "body"), "body", "Reading.body", defArgs (sub 82 1), defBody (sub 82 1), defScope (sub 82 1), [], []⟩
def d_Reading_statement : He.DefD := ⟨("Reading", some "statement"), "statement", "Reading.statement", defArgs (sub 82 2), defBody (sub 82 2), defScope (sub 82 2), [], []⟩
def d_is_kept : He.DefD := ⟨("is_kept", none), "is_kept", "is_kept", defArgs (top 83), defBody (top 83), defScope (top 83), [], []⟩
def d_kept_names : He.DefD := ⟨("kept_names", none), "kept_names", "kept_names", defArgs (top 84), defBody (top 84), defScope (top 84), [], []⟩
def d_want_publisher : He.DefD := ⟨("want_publisher", none), "want_publisher", "want_publisher", defArgs (top 85), defBody (top 85), defScope (top 85), [], []⟩
def d_made_publisher : He.DefD := ⟨("made_publisher", none), "made_publisher", "made_publisher", defArgs (top 86), defBody (top 86), defScope (top 86), [], []⟩
def d_number_text : He.DefD := ⟨("number_text", none), "number_text", "number_text", defArgs (top 88), defBody (top 88), defScope (top 88), [], []⟩
def d_figure_text : He.DefD := ⟨("figure_text", none), "figure_text", "figure_text", defArgs (top 89), defBody (top 89), defScope (top 89), [], []⟩
def d_are_numbers : He.DefD := ⟨("are_numbers", none), "are_numbers", "are_numbers", defArgs (top 90), defBody (top 90), defScope (top 90), [], []⟩
def d_is_state : He.DefD := ⟨("is_state", none), "is_state", "is_state", defArgs (top 91), defBody (top 91), defScope (top 91), [], []⟩
def d_weighted : He.DefD := ⟨("weighted", none), "weighted", "weighted", defArgs (top 92), defBody (top 92), defScope (top 92), [], []⟩
def d_line_text : He.DefD := ⟨("line_text", none), "line_text", "line_text", defArgs (top 93), defBody (top 93), defScope (top 93), [], []⟩
def d_report : He.DefD := ⟨("report", none), "report", "report", defArgs (top 94), defBody (top 94), defScope (top 94), [], []⟩
def d_want_few : He.DefD := ⟨("want_few", none), "want_few", "want_few", defArgs (top 99), defBody (top 99), defScope (top 99), [], []⟩
def d_Edition_init : He.DefD := ⟨("Edition", some "__init__"), "__init__", "Edition.__init__", defArgs (sub 100 0), defBody (sub 100 0), defScope (sub 100 0), [], []⟩
def d_Edition_branch : He.DefD := ⟨("Edition", some "branch"), "branch", "Edition.branch", defArgs (sub 100 1), defBody (sub 100 1), defScope (sub 100 1), [], []⟩
def d_Edition_put : He.DefD := ⟨("Edition", some "put"), "put", "Edition.put", defArgs (sub 100 2), defBody (sub 100 2), defScope (sub 100 2), [], []⟩
def d_Feed_init : He.DefD := ⟨("Feed", some "__init__"), "__init__", "Feed.__init__", defArgs (sub 101 0), defBody (sub 101 0), defScope (sub 101 0), [], []⟩
def d_Feed_fresh : He.DefD := ⟨("Feed", some "fresh"), "fresh", "Feed.fresh", defArgs (sub 101 1), defBody (sub 101 1), defScope (sub 101 1), [], []⟩
def d_Feed_last : He.DefD := ⟨("Feed", some "last"), "last", "Feed.last", defArgs (sub 101 2), defBody (sub 101 2), defScope (sub 101 2), [], []⟩
def d_Feed_move : He.DefD := ⟨("Feed", some "move"), "move", "Feed.move", defArgs (sub 101 3), defBody (sub 101 3), defScope (sub 101 3), [.int 1], []⟩
def d_Feed_correct : He.DefD := ⟨("Feed", some "correct"), "correct", "Feed.correct", defArgs (sub 101 4), defBody (sub 101 4), defScope (sub 101 4), [], []⟩
def d_Feed_edition : He.DefD := ⟨("Feed", some "edition"), "edition", "Feed.edition", defArgs (sub 101 5), defBody (sub 101 5), defScope (sub 101 5), [], []⟩
def d_Feed_asked : He.DefD := ⟨("Feed", some "asked"), "asked", "Feed.asked", defArgs (sub 101 6), defBody (sub 101 6), defScope (sub 101 6), [], []⟩
def d_Feed_state : He.DefD := ⟨("Feed", some "state"), "state", "Feed.state", defArgs (sub 101 9), defBody (sub 101 9), defScope (sub 101 9), [.non], []⟩
def d_want_ties : He.DefD := ⟨("want_ties", none), "want_ties", "want_ties", defArgs (top 103), defBody (top 103), defScope (top 103), [], []⟩
def d_nearest : He.DefD := ⟨("nearest", none), "nearest", "nearest", defArgs (top 104), defBody (top 104), defScope (top 104), [], []⟩
def d_HalvesPlayer_init : He.DefD := ⟨("HalvesPlayer", some "__init__"), "__init__", "HalvesPlayer.__init__", defArgs (sub 105 0), defBody (sub 105 0), defScope (sub 105 0), [], []⟩
def d_HalvesPlayer_copy : He.DefD := ⟨("HalvesPlayer", some "copy"), "copy", "HalvesPlayer.copy", defArgs (sub 105 1), defBody (sub 105 1), defScope (sub 105 1), [], []⟩
def d_HalvesPlayer_number : He.DefD := ⟨("HalvesPlayer", some "number"), "number", "HalvesPlayer.number", defArgs (sub 105 2), defBody (sub 105 2), defScope (sub 105 2), [], []⟩
def d_HalvesPlayer_moved : He.DefD := ⟨("HalvesPlayer", some "moved"), "moved", "HalvesPlayer.moved", defArgs (sub 105 3), defBody (sub 105 3), defScope (sub 105 3), [], []⟩
def d_halves : He.DefD := ⟨("halves", none), "halves", "halves", defArgs (top 106), defBody (top 106), defScope (top 106), [], []⟩
def d_bounded : He.DefD := ⟨("bounded", none), "bounded", "bounded", defArgs (top 109), defBody (top 109), defScope (top 109), [], []⟩
def d_summed : He.DefD := ⟨("summed", none), "summed", "summed", defArgs (top 110), defBody (top 110), defScope (top 110), [], []⟩
def d_Run_init : He.DefD := ⟨("Run", some "__init__"), "__init__", "Run.__init__", defArgs (sub 111 0), defBody (sub 111 0), defScope (sub 111 0), [], []⟩
def d_Run_state : He.DefD := ⟨("Run", some "state"), "state", "Run.state", defArgs (sub 111 1), defBody (sub 111 1), defScope (sub 111 1), [], []⟩
def d_Run_part_of : He.DefD := ⟨("Run", some "part_of"), "part_of", "Run.part_of", defArgs (sub 111 2), defBody (sub 111 2), defScope (sub 111 2), [], []⟩
def d_Run_leaf : He.DefD := ⟨("Run", some "leaf"), "leaf", "Run.leaf", defArgs (sub 111 3), defBody (sub 111 3), defScope (sub 111 3), [], []⟩
def d_Run_worth : He.DefD := ⟨("Run", some "worth"), "worth", "Run.worth", defArgs (sub 111 4), defBody (sub 111 4), defScope (sub 111 4), [], []⟩
def d_Run_holds : He.DefD := ⟨("Run", some "holds"), "holds", "Run.holds", defArgs (sub 111 5), defBody (sub 111 5), defScope (sub 111 5), [], []⟩
def d_Run_body : He.DefD := ⟨("Run", some "body"), "body", "Run.body", defArgs (sub 111 6), defBody (sub 111 6), defScope (sub 111 6), [], []⟩
def d_Run_statement : He.DefD := ⟨("Run", some "statement"), "statement", "Run.statement", defArgs (sub 111 7), defBody (sub 111 7), defScope (sub 111 7), [], []⟩
def d_Run_store : He.DefD := ⟨("Run", some "store"), "store", "Run.store", defArgs (sub 111 8), defBody (sub 111 8), defScope (sub 111 8), [], []⟩
def d_Run_choice : He.DefD := ⟨("Run", some "choice"), "choice", "Run.choice", defArgs (sub 111 9), defBody (sub 111 9), defScope (sub 111 9), [], []⟩
def d_Run_each : He.DefD := ⟨("Run", some "each"), "each", "Run.each", defArgs (sub 111 10), defBody (sub 111 10), defScope (sub 111 10), [], []⟩
def d_told_of : He.DefD := ⟨("told_of", none), "told_of", "told_of", defArgs (top 112), defBody (top 112), defScope (top 112), [], []⟩
def d_Program_init : He.DefD := ⟨("Program", some "__init__"), "__init__", "Program.__init__", defArgs (sub 113 0), defBody (sub 113 0), defScope (sub 113 0), [], []⟩
def d_Program_copy : He.DefD := ⟨("Program", some "copy"), "copy", "Program.copy", defArgs (sub 113 1), defBody (sub 113 1), defScope (sub 113 1), [], []⟩
def d_Program_state : He.DefD := ⟨("Program", some "state"), "state", "Program.state", defArgs (sub 113 2), defBody (sub 113 2), defScope (sub 113 2), [], []⟩
def d_Program_moved : He.DefD := ⟨("Program", some "moved"), "moved", "Program.moved", defArgs (sub 113 3), defBody (sub 113 3), defScope (sub 113 3), [], []⟩
def d_first_state : He.DefD := ⟨("first_state", none), "first_state", "first_state", defArgs (top 114), defBody (top 114), defScope (top 114), [], []⟩
def d_program : He.DefD := ⟨("program", none), "program", "program", defArgs (top 115), defBody (top 115), defScope (top 115), [], []⟩
def d__law_pool : He.DefD := ⟨("_law_pool", none), "_law_pool", "_law_pool", defArgs (top 117), defBody (top 117), defScope (top 117), [], []⟩
def d__law_take : He.DefD := ⟨("_law_take", none), "_law_take", "_law_take", defArgs (top 118), defBody (top 118), defScope (top 118), [], []⟩
def d__law_one : He.DefD := ⟨("_law_one", none), "_law_one", "_law_one", defArgs (top 119), defBody (top 119), defScope (top 119), [], []⟩
def d__law_mixed : He.DefD := ⟨("_law_mixed", none), "_law_mixed", "_law_mixed", defArgs (top 120), defBody (top 120), defScope (top 120), [], []⟩
def d__law_pub_moved_worth : He.DefD := ⟨("_law_pub_moved_worth", none), "_law_pub_moved_worth", "_law_pub_moved_worth", defArgs (top 121), defBody (top 121), defScope (top 121), [], []⟩
def d__law_pub_halves : He.DefD := ⟨("_law_pub_halves", none), "_law_pub_halves", "_law_pub_halves", defArgs (top 122), defBody (top 122), defScope (top 122), [], []⟩
def d__law_pub_floor : He.DefD := ⟨("_law_pub_floor", none), "_law_pub_floor", "_law_pub_floor", defArgs (top 123), defBody (top 123), defScope (top 123), [], []⟩
def d__law_pub_nudge : He.DefD := ⟨("_law_pub_nudge", none), "_law_pub_nudge", "_law_pub_nudge", defArgs (top 124), defBody (top 124), defScope (top 124), [], []⟩
def d__law_pub_off : He.DefD := ⟨("_law_pub_off", none), "_law_pub_off", "_law_pub_off", defArgs (top 125), defBody (top 125), defScope (top 125), [], []⟩
def d__law_pub_lagging : He.DefD := ⟨("_law_pub_lagging", none), "_law_pub_lagging", "_law_pub_lagging", defArgs (top 126), defBody (top 126), defScope (top 126), [], []⟩
def d__law_pub_mender : He.DefD := ⟨("_law_pub_mender", none), "_law_pub_mender", "_law_pub_mender", defArgs (top 127), defBody (top 127), defScope (top 127), [], []⟩
def d__law_pub_counter : He.DefD := ⟨("_law_pub_counter", none), "_law_pub_counter", "_law_pub_counter", defArgs (top 128), defBody (top 128), defScope (top 128), [], []⟩
def d__law_plain_links : He.DefD := ⟨("_law_plain_links", none), "_law_plain_links", "_law_plain_links", defArgs (top 129), defBody (top 129), defScope (top 129), [], []⟩
def d__law_drawn_links : He.DefD := ⟨("_law_drawn_links", none), "_law_drawn_links", "_law_drawn_links", defArgs (top 130), defBody (top 130), defScope (top 130), [], []⟩
def d__law_drawn_steps : He.DefD := ⟨("_law_drawn_steps", none), "_law_drawn_steps", "_law_drawn_steps", defArgs (top 131), defBody (top 131), defScope (top 131), [], []⟩
def d__law_plain_book : He.DefD := ⟨("_law_plain_book", none), "_law_plain_book", "_law_plain_book", defArgs (top 132), defBody (top 132), defScope (top 132), [], []⟩
def d__law_linked_book : He.DefD := ⟨("_law_linked_book", none), "_law_linked_book", "_law_linked_book", defArgs (top 133), defBody (top 133), defScope (top 133), [], []⟩
def d__law_some_book : He.DefD := ⟨("_law_some_book", none), "_law_some_book", "_law_some_book", defArgs (top 134), defBody (top 134), defScope (top 134), [], []⟩
def d__law_drawn_line : He.DefD := ⟨("_law_drawn_line", none), "_law_drawn_line", "_law_drawn_line", defArgs (top 135), defBody (top 135), defScope (top 135), [], []⟩
def d__law_drawn_history : He.DefD := ⟨("_law_drawn_history", none), "_law_drawn_history", "_law_drawn_history", defArgs (top 136), defBody (top 136), defScope (top 136), [], []⟩
def d__law_noughts : He.DefD := ⟨("_law_noughts", none), "_law_noughts", "_law_noughts", defArgs (top 137), defBody (top 137), defScope (top 137), [], []⟩
def d__law_stepped : He.DefD := ⟨("_law_stepped", none), "_law_stepped", "_law_stepped", defArgs (top 138), defBody (top 138), defScope (top 138), [], []⟩
def d__law_strays_of : He.DefD := ⟨("_law_strays_of", none), "_law_strays_of", "_law_strays_of", defArgs (top 139), defBody (top 139), defScope (top 139), [], []⟩
def d__law_weighed : He.DefD := ⟨("_law_weighed", none), "_law_weighed", "_law_weighed", defArgs (top 140), defBody (top 140), defScope (top 140), [], []⟩
def d__law_is_formed : He.DefD := ⟨("_law_is_formed", none), "_law_is_formed", "_law_is_formed", defArgs (top 141), defBody (top 141), defScope (top 141), [], []⟩
def d__law_is_let : He.DefD := ⟨("_law_is_let", none), "_law_is_let", "_law_is_let", defArgs (top 142), defBody (top 142), defScope (top 142), [], []⟩
def d__law_played : He.DefD := ⟨("_law_played", none), "_law_played", "_law_played", defArgs (top 143), defBody (top 143), defScope (top 143), [], []⟩
def d__law_last_of : He.DefD := ⟨("_law_last_of", none), "_law_last_of", "_law_last_of", defArgs (top 144), defBody (top 144), defScope (top 144), [], []⟩
def d__law_divisor : He.DefD := ⟨("_law_divisor", none), "_law_divisor", "_law_divisor", defArgs (top 145), defBody (top 145), defScope (top 145), [], []⟩
def d__law_told_names : He.DefD := ⟨("_law_told_names", none), "_law_told_names", "_law_told_names", defArgs (top 146), defBody (top 146), defScope (top 146), [], []⟩
def d__law_fraction : He.DefD := ⟨("_law_fraction", none), "_law_fraction", "_law_fraction", defArgs (top 147), defBody (top 147), defScope (top 147), [], []⟩
def d__law_report_due : He.DefD := ⟨("_law_report_due", none), "_law_report_due", "_law_report_due", defArgs (top 148), defBody (top 148), defScope (top 148), [], []⟩
def d__law_report_player : He.DefD := ⟨("_law_report_player", none), "_law_report_player", "_law_report_player", defArgs (top 149), defBody (top 149), defScope (top 149), [], []⟩
def d__law_report_refused : He.DefD := ⟨("_law_report_refused", none), "_law_report_refused", "_law_report_refused", defArgs (top 151), defBody (top 151), defScope (top 151), [], []⟩
def d__law_far_state : He.DefD := ⟨("_law_far_state", none), "_law_far_state", "_law_far_state", defArgs (top 152), defBody (top 152), defScope (top 152), [], []⟩
def d_law : He.DefD := ⟨("law", none), "law", "law", defArgs (top 153), defBody (top 153), defScope (top 153), [], []⟩
def ds : List He.DefD := [d_is_whole, d_is_between, d_is_below, d_is_links, d_has_size, d_wrong_entry, d_made_book, d_many_parts, d_is_part_books, d_wrong_weight, d_divisor, d_is_move, d_want_history, d_is_change, d_is_changes, d_first_outside, d_at_first, d_put_to, d_state_behind, d_Standing_init, d_Standing_branch, d_Standing_step, d_standing_at_first, d_strays_of, d_stray_of, d_want_lines, d_is_name, d_Scope_init, d_want_names, d_is_short, d_is_worded, d_is_one_of, d_is_part_publishers, d_is_leaf, d_is_number, d_is_test_leaf, d_is_test, d_is_plain, d_is_choice, d_is_each_form, d_Reading_init, d_Reading_body, d_Reading_statement, d_is_kept, d_kept_names, d_want_publisher, d_made_publisher, d_number_text, d_figure_text, d_are_numbers, d_is_state, d_weighted, d_line_text, d_report, d_want_few, d_Edition_init, d_Edition_branch, d_Edition_put, d_Feed_init, d_Feed_fresh, d_Feed_last, d_Feed_move, d_Feed_correct, d_Feed_edition, d_Feed_asked, d_Feed_state, d_want_ties, d_nearest, d_HalvesPlayer_init, d_HalvesPlayer_copy, d_HalvesPlayer_number, d_HalvesPlayer_moved, d_halves, d_bounded, d_summed, d_Run_init, d_Run_state, d_Run_part_of, d_Run_leaf, d_Run_worth, d_Run_holds, d_Run_body, d_Run_statement, d_Run_store, d_Run_choice, d_Run_each, d_told_of, d_Program_init, d_Program_copy, d_Program_state, d_Program_moved, d_first_state, d_program, d__law_pool, d__law_take, d__law_one, d__law_mixed, d__law_pub_moved_worth, d__law_pub_halves, d__law_pub_floor, d__law_pub_nudge, d__law_pub_off, d__law_pub_lagging, d__law_pub_mender, d__law_pub_counter, d__law_plain_links, d__law_drawn_links, d__law_drawn_steps, d__law_plain_book, d__law_linked_book, d__law_some_book, d__law_drawn_line, d__law_drawn_history, d__law_noughts, d__law_stepped, d__law_strays_of, d__law_weighed, d__law_is_formed, d__law_is_let, d__law_played, d__law_last_of, d__law_divisor, d__law_told_names, d__law_fraction, d__law_report_due, d__law_report_player, d__law_report_refused, d__law_far_state, d_law]
def attrs : List Str := (List.append (["state", "player", "book", "copy", "moved", "rows", "cells", "many", "met", "scope", "statement", "body", "shown", "history", "standing", "branch", "step", "fresh", "put", "last"] : List Str) (List.append (["edition", "asked", "truths", "ties", "number", "turn", "way", "part", "row_names", "cell_names", "steps", "links", "part_of", "worth", "leaf", "holds", "store", "each", "choice", "here"] : List Str) (["publisher", "correct", "move"] : List Str)))
def clss : List Str := (List.append (["Refused", "BadBook", "BadLine", "BadHistory", "BadTies", "BadPart", "BadState", "Broken", "BadNames", "BadPublisher", "TooMany", "BadMany", "BadIndex", "BadEdition", "Standing", "Scope", "Reading", "Edition", "Feed", "HalvesPlayer"] : List Str) (["Run", "Program"] : List Str))
def glos : List Str := (List.append (["MOST_PARTS", "MOST_STEPS", "MOST_WEIGHT", "DOWN", "UP", "LETTERS", "FIGURES", "LONGEST_NAME", "KEPT_WORDS", "OF_PART", "MOST_NUMBER", "SUMS", "MOST_DEEP", "MOST_IN_BODY", "MOST_IN_ALL", "MOST_BODIES", "MOST_ROWS", "MOST_CELLS", "MOST_MOVES", "MOST_AT_ONCE"] : List Str) (["MOST_EDITIONS", "MOST_KEPT"] : List Str))
def gvals : List D := [.int 6, .int 60, .int 20, .int (-1), .int 1, .str "abcdefghijklmnopqrstuvwxyz", .str "0123456789", .int 12, .tup [.str "parts", .str "links", .str "cells", .str "rows", .str "show", .str "if", .str "else", .str "each", .str "moved", .str "it", .str "truth", .str "shown", .str "steps", .str "way", .str "mod", .str "not", .str "and", .str "or", .str "same", .str "linked", .str "line", .str "up", .str "down", .str "by", .str "spread", .str "bound", .str "rule"], .tup [.str "truth", .str "shown", .str "steps"], .int 1000000, .tup [.str "add", .str "sub", .str "mul", .str "div", .str "mod"], .int 6, .int 30, .int 100, .int 6, .int 4, .int 8, .int 5000, .int 1000, .int 50, .int 1000000000000]
def dats : List (Nat × Nat) := [(14, 2), (14, 1), (14, 0), (15, 7), (15, 6), (15, 5), (16, 9), (16, 8), (17, 14), (17, 13), (17, 12), (18, 2), (18, 1), (18, 5), (19, 2), (19, 23), (19, 22), (20, 29), (20, 28), (20, 22), (20, 12), (20, 6), (20, 5), (20, 27), (20, 26), (20, 25), (20, 30), (20, 31), (21, 2), (21, 40), (21, 39)]
def inits : List (Nat × Nat) := [(14, 19), (15, 27), (16, 40), (17, 55), (18, 58), (19, 68), (20, 75), (21, 87)]
def meths : List ((Nat × Nat) × Nat) := [((14, 15), 20), ((14, 16), 21), ((16, 11), 41), ((16, 10), 42), ((17, 15), 56), ((17, 18), 57), ((18, 17), 59), ((18, 19), 60), ((18, 42), 61), ((18, 41), 62), ((18, 20), 63), ((18, 21), 64), ((18, 0), 65), ((19, 3), 69), ((19, 24), 70), ((19, 4), 71), ((20, 0), 76), ((20, 32), 77), ((20, 34), 78), ((20, 33), 79), ((20, 35), 80), ((20, 11), 81), ((20, 10), 82), ((20, 36), 83), ((20, 38), 84), ((20, 37), 85), ((21, 3), 88), ((21, 0), 89), ((21, 4), 90)]
def nE : Nat := 14
abbrev iHeard : Nat := 150
def nm : Nm := ⟨fun c => clss.getD c "", fun i => match attrs[i]? with | some x => x | none => ⟨Array.replicate (i + 100) 0⟩⟩
def hws : List (Option Str) := clss.map fun (c : Str) => if c = ("BadNames" : Str) then some "names" else if c = ("BadLine" : Str) then some "line" else if c = ("BadState" : Str) then some "state" else some "other"
def hwK (c : Nat) : Option Str := if c < nE then hws.getD c none else none
def ats : List (Str × Option Str) := ds.map fun d => d.at_
def ct : Ct where
  nf := ds.length
  fn := fun k => ats.getD k ("", none)
  ar := fun _ => 0
  gnm := fun k => glos[k]?
  isC := fun c => (inits.lookup c).isSome
  isE := fun c => decide (c < nE)
  wn := 0
def dHeard : He.DefD := ⟨("_law_report_heard", none), "_law_report_heard", "_law_report_heard", defArgs (top iHeard), defBody (top iHeard), defScope (top iHeard), [], []⟩
def fnK : List He.DefD := ds ++ [dHeard]
def tfK : List He.Defn := [("_law_report_refused", none)]
def refsK (o : Obj) : List Addr := match o.data with
  | .dict es _ => es.toList.flatMap fun e => He.refV e.val
  | .func fd => He.refV fd.code ++ (fd.closure.map (·.2) ++ He.refV fd.defaults)
  | .cls cd => [cd.ns]
  | _ => []
def stepK (g : Addr → Option Obj) (l : List Addr) : List Addr := l.flatMap fun a => match g a with
  | some o => refsK o
  | none => []
def asK (g : Addr → Option Obj) : List Addr := mainGlobals :: cStatics :: (stepK g [mainGlobals] ++ (stepK g (stepK g [mainGlobals]) ++ (stepK g (stepK g (stepK g [mainGlobals])) ++ stepK g (stepK g (stepK g (stepK g [mainGlobals]))))))
def frK (g : Addr → Option Obj) : PySem.W.Frag := He.frT g (asK g)
/-! ### the Bool -/
section
variable (K : PySem.W.Frag)
def dvOf : D → He.Dv
  | .str x => .str x
  | .int i => .int i
  | _ => .non
def flatB : D → Bool
  | .str _ => true
  | .int _ => true
  | _ => false
def gloB (p : Str × D) : Bool := match p.2 with
  | .int i => (He.Fa.int p.1 i).ok K
  | .str z => (He.Fa.str p.1 z).ok K
  | .tup l => (He.Fa.glo p.1).ok K && (l.all flatB && He.tupB K p.1 (l.map dvOf))
  | _ => false
def fngB (p : Str × Option Str) : Bool := match p.2 with
  | none => (He.Fa.glo p.1).ok K
  | some _ => true
def datB (p : Nat × Nat) : Bool := (He.Fa.cls (nm.cls p.1)).ok K && (He.Fa.noat (nm.cls p.1) (nm.at_ p.2)).ok K
def methB (q : (Nat × Nat) × Nat) : Bool := decide (q.2 < ct.nf) && (decide (ct.fn q.2 = (nm.cls q.1.1, some (nm.at_ q.1.2))) && ((He.Fa.cls (nm.cls q.1.1)).ok K && (He.Fa.meth (nm.cls q.1.1) (nm.at_ q.1.2)).ok K))
def initB (q : Nat × Nat) : Bool := decide (q.2 < ct.nf) && (decide (ct.fn q.2 = (nm.cls q.1, some ("__init__" : Str))) && ((He.Fa.glo (nm.cls q.1)).ok K && (He.Fa.mkr (nm.cls q.1)).ok K))
def frees : List Str := ["len", "abs", "max", "min", "int", "str", "tuple", "list", "sum", "all", "any", "isinstance", "range", "enumerate", "zip", "bool", "super"]
def oexB (C : Addr) : Bool := (match K.lookup C with
  | some ⟨.type t, _, .cls ⟨_, _, .ref C' :: bm, _, _, true, _, _, _, _, false⟩, sl⟩ => decide (t = "type") && (decide (C' = C) && (PySem.HandSPX.refsVE bm && (match sl.toList with
    | [_, _, _, _, some (.builtin b), _] => decide (b = "ValueError.__new__")
    | _ => false)))
  | _ => false) && (He.eqO (PySem.W.findIn K (.ref C) "__setattr__") (some (some (.builtin "object.__setattr__"))) && (decide (PySem.W.subIn K (.ref C) (.type "BaseException") = some true) && (decide (PySem.W.typeIn K (.ref C) = some (.type "type")) && PySem.W.keepIn K (.ref C))))
def refD : Addr := He.ga K "Refused"
def refI : Addr := He.ma K (refD K) "__init__"
def hearHs : List (Str × Str) := [("BadNames", "names"), ("BadLine", "line"), ("BadState", "state"), ("Refused", "other")]
def excB (c : Nat) : Bool := (He.Fa.glo (nm.cls c)).ok K && (oexB K (He.ga K (nm.cls c)) && (decide (PySem.W.ks_superIn K (He.ga K (nm.cls c)) (refD K) "__init__" = some (some (.builtin "ValueError.__init__"))) && (decide (PySem.W.subIn K (.ref (He.ga K (nm.cls c))) (.type "ValueError") = some true) &&
  (He.eqO (PySem.W.findIn K (.ref (He.ga K (nm.cls c))) "what") (some none) && (decide (PySem.W.mroIn K (He.ga K (nm.cls c)) (.ref (refD K)) = some true) && (He.eqO (PySem.W.findIn K (.ref (He.ga K (nm.cls c))) "__init__") (some (some (.ref (refI K)))) &&
  (xfB K (He.ga K (nm.cls c)) && decide (hdTag K (.ref (He.ga K (nm.cls c))) (hearHs.map fun p => (He.ga K p.1, p.2)) = hwK c))))))))
def iniB : Bool := decide (PySem.W.typeIn K (.ref (refI K)) = some (.type "function")) && ((match K.lookup (refI K) with
  | some ⟨_, _, .func ⟨_, q, ps, .stmts b, sc, gl, [(x, cc)], .none, _, _, _, _, .ref co, _, bl⟩, _⟩ => decide (gl = mainGlobals) && (decide (bl = builtinsNs) && (decide (x = "__class__") && (iniTB ps b sc && (PySem.W.codeIn K (.ref co) q && ((match K.lookup co with
      | some ⟨_, _, .fields vs, _⟩ => (match (vs[2]? : Option Value) with
        | some (.str file _) => ((prog.main.file : Str) == file)
        | _ => false)
      | _ => false) && (match K.lookup cc with
      | some ⟨_, _, .cell (some (.ref D)), _⟩ => decide (D = refD K)
      | _ => false))))))
  | _ => false) && ((match K.lookup (refD K) with
  | some ⟨_, _, .cls _, _⟩ => true
  | _ => false) && decide (PySem.W.nsIn K cStatics "thirdparty.any" = some none)))
def exK : Bool := (glos.zip gvals).all (gloB K) && (ats.all (fngB K) && (dats.all (datB K) && (meths.all (methB K) && (inits.all (initB K) && (frees.all (fun x => (He.Fa.free x).ok K) && ((List.range nE).all (excB K) && (iniB K && (He.Fa.glo "_law_report_heard").ok K)))))))
end
end K76P
namespace K76P
open PySem PySem.W PySem.Calls PyProof.Rows
abbrev R : OpenRow := OpenLaw.row PySem.Challenge.rw_byhalves_k76_whole_reports_behind_correc
abbrev qv : Program := view R.prog [153]
def names0 : List PySem.Str := ["_wall", "Refused", "BadBook", "BadLine", "BadHistory", "BadTies", "BadPart", "BadState", "Broken", "BadNames", "BadPublisher", "TooMany", "BadMany", "BadIndex", "BadEdition", "MOST_PARTS", "MOST_STEPS", "MOST_WEIGHT", "is_whole", "is_between"]
def names1 : List PySem.Str := ["is_below", "is_links", "has_size", "wrong_entry", "made_book", "many_parts", "is_part", "is_part_books", "wrong_weight", "divisor", "UP", "DOWN", "is_move", "want_history", "is_change", "is_changes", "first_outside", "at_first", "put_to", "state_behind"]
def names2 : List PySem.Str := ["Standing", "standing_at_first", "strays_of", "stray_of", "want_lines", "LETTERS", "FIGURES", "KEPT_WORDS", "LONGEST_NAME", "is_name", "MOST_CELLS", "MOST_ROWS", "MOST_IN_BODY", "MOST_IN_ALL", "MOST_BODIES", "MOST_DEEP", "MOST_NUMBER", "SUMS", "OF_PART", "Scope"]
def names3 : List PySem.Str := ["want_names", "is_short", "is_worded", "is_one_of", "is_part_publishers", "is_leaf", "is_number", "is_test_leaf", "is_test", "is_plain", "is_choice", "is_each_form", "Reading", "is_kept", "kept_names", "want_publisher", "made_publisher", "number_text", "figure_text", "are_numbers"]
def names4 : List PySem.Str := ["is_state", "weighted", "line_text", "report", "MOST_AT_ONCE", "MOST_MOVES", "MOST_EDITIONS", "want_few", "Edition", "Feed", "want_ties", "nearest", "HalvesPlayer", "halves", "MOST_KEPT", "bounded", "summed", "Run", "told_of", "Program"]
def names5 : List PySem.Str := ["first_state", "program", "_law_pool", "_law_take", "_law_one", "_law_mixed", "_law_pub_moved_worth", "_law_pub_halves", "_law_pub_floor", "_law_pub_nudge", "_law_pub_off", "_law_pub_lagging", "_law_pub_mender", "_law_pub_counter", "_law_plain_links", "_law_drawn_links", "_law_drawn_steps", "_law_plain_book", "_law_linked_book", "_law_some_book"]
def names6 : List PySem.Str := ["_law_drawn_line", "_law_drawn_history", "_law_noughts", "_law_stepped", "_law_strays_of", "_law_weighed", "_law_is_formed", "_law_is_let", "_law_played", "_law_last_of", "_law_divisor", "_law_told_names", "_law_fraction", "_law_report_due", "_law_report_player", "_law_report_heard", "_law_report_refused", "_law_far_state"]
def names : List PySem.Str := names0 ++ (names1 ++ (names2 ++ (names3 ++ (names4 ++ (names5 ++ (names6))))))
noncomputable abbrev runS (w : World) (os : OsState) : Option SharedT := HandSHeadRun.endF (HandSHeadRun.stepQ (HandSHeadRun.denQ HandSHeadRun.tabQ) R.prog w) 40000 R.prog w os
theorem run_b (w : World) (os : OsState) : (runS w os).map (fun s => He.obsD [] fnK (frK (HandSHeadRun.getT s))) = some (He.valD fnK) := by kernel_rfl
theorem run_c (w : World) (os : OsState) : (runS w os).map (fun s => exK (frK (HandSHeadRun.getT s)) && He.tabsB (HandSHeadRun.getT s) tfK (frK (HandSHeadRun.getT s))) = some true := by kernel_rfl
theorem run_a (w : World) (os : OsState) : (runS w os).map (fun s => (HandSHeadRun.looksF R.prog (boot_heap w.params) s.abs, HandSHeadRun.seenQ qv names (importedModules R.prog.main.body) (fun s => xlAt qv [] s && recOk R.toRowW.records s) s.abs)) = some (true, openGood qv names) := by kernel_rfl
end K76P
set_option Elab.async false
set_option linter.all false
set_option maxRecDepth 100000
set_option maxHeartbeats 4000000
/-! K1: pure values, the store of mutable objects, how they stand in the abstract heap -/
namespace K76
open PySem PySem.Spec PyProof.Rows L2

/-- a mutable object: a list, an instance of the class of that number -/
inductive MO where
  | lst (l : List D)
  | ins (C : Nat) (fs : List (Nat × D))
abbrev Store := List MO
inductive Res (α : Type) where
  | ok (a : α) (S : Store)
  | exc (c : Nat) (d : D) (S : Store)
  | bad
def Res.bind {α β : Type} (r : Res α) (k : α → Store → Res β) : Res β := match r with
  | .ok a S => k a S
  | .exc c d S => .exc c d S
  | .bad => .bad
section
variable (K : PySem.W.Frag) (n : Nm) (m : List Addr) (H : Hp)
mutual
def Rep : D → V → Prop
  | .non, v => v = .non
  | .bl b, v => v = .bl b
  | .int i, v => v = .int i
  | .str s, v => v = .str s
  | .tup l, v => ∃ (a : Addr) (vs : List V), v = .ref a ∧ SqT K H a vs ∧ Reps l vs
  | .fl l, v => ∃ (a : Addr) (vs : List V), v = .ref a ∧ ((∃ o, H a = some (.frz o (.lst vs))) ∨
      ∃ (o : Obj) (its : Array Value) (k : Nat), K.lookup a = some o ∧ o.cls = .type "list" ∧ o.dict = none ∧ o.data = .seq its k ∧ its.size ≤ sizeLine ∧ Vals vs its.toList) ∧ Reps l vs
  | .tupx l, v => ∃ (a : Addr) (o : Obj), v = .ref a ∧ H a = some (.frz o (.tup (l.map V.str))) ∧ o.dict = none
  | .ref i, v => ∃ a : Addr, m[i]? = some a ∧ v = .ref a
def Reps : List D → List V → Prop
  | [], vs => vs = []
  | d :: ds, vs => ∃ (v : V) (r : List V), vs = v :: r ∧ Rep d v ∧ Reps ds r
end
def FRep : List (Nat × D) → List (Str × V) → Prop
  | [], fv => fv = []
  | (f, d) :: fs, fv => ∃ (v : V) (r : List (Str × V)), fv = (n.at_ f, v) :: r ∧ Rep K m H d v ∧ FRep fs r
def MRep : MO → Option HO → Prop
  | .lst l, o => ∃ vs, o = some (.lst vs) ∧ Reps K m H l vs
  | .ins C fs, o => ∃ (dx : Addr) (fv : List (Str × V)), o = some (.ins (He.ga K (n.cls C)) dx fv) ∧ FRep K n m H fs fv
end

/-- the context of all: the written part, the names, the tables of code objects -/
structure G where
  K : PySem.W.Frag
  n : Nm
  T : List (Addr × Str)
structure SR (g : G) (m : List Addr) (S : Store) (H : Hp) : Prop where
  len : m.length = S.length
  nd : m.Nodup
  at_ : ∀ (i : Nat) (a : Addr) (o : MO), m[i]? = some a → S[i]? = some o → MRep g.K g.n m H o (H a)
  tabs : LamX.Tabs g.T H
/-- nothing there but a table -/
def NT (H : Hp) (a : Addr) : Prop := ∀ o, H a = some o → ∃ ps, o = .tbl ps
theorem NT.of {H : Hp} {a : Addr} (h : H a = none) : NT H a := fun o z => by
  rw [h] at z
  cases z
structure Ext (m : List Addr) (H : Hp) (m' : List Addr) (H' : Hp) : Prop where
  pre : ∃ ex : List Addr, m' = m ++ ex ∧ ∀ a ∈ ex, NT H a
  kp : ∀ a o, H a = some o → a ∉ m → (∀ ps, o ≠ .tbl ps) → H' a = some o
  st : ∀ a, NT H' a → NT H a
def ER (g : G) (m : List Addr) (H : Hp) (ρ : List (Option D)) (σ : L2.St) : Prop :=
  ρ.length = σ.length ∧ ∀ (i : Nat) (d : D), ρ[i]? = some (some d) → ∃ v, σ[i]? = some (some v) ∧ Rep g.K m H d v

section
variable {g : G} {m m1 m2 : List Addr} {S S1 : Store} {H H1 H2 : Hp}
theorem Ext.refl (m : List Addr) (H : Hp) : Ext m H m H := ⟨⟨[], by simp, by simp⟩, fun _ _ h _ _ => h, fun _ h => h⟩
theorem Ext.fresh (e : Ext m H m1 H1) {a : Addr} (h : NT H1 a) : NT H a := e.st a h
theorem Ext.trans (a : Ext m H m1 H1) (b : Ext m1 H1 m2 H2) : Ext m H m2 H2 := by
  obtain ⟨ex1, e1, f1⟩ := a.pre
  obtain ⟨ex2, e2, f2⟩ := b.pre
  refine ⟨⟨ex1 ++ ex2, by rw [e2, e1, List.append_assoc], fun c hc => ?_⟩, fun c o h hm ht => ?_, fun c h => a.st c (b.st c h)⟩
  · rcases List.mem_append.mp hc with hc | hc
    · exact f1 c hc
    · exact a.fresh (f2 c hc)
  · refine b.kp c o (a.kp c o h hm ht) (fun z => ?_) ht
    rw [e1] at z
    rcases List.mem_append.mp z with z | z
    · exact hm z
    · obtain ⟨ps, e⟩ := f1 c z o h
      exact absurd e (ht ps)
theorem Ext.get (e : Ext m H m1 H1) {i : Nat} {a : Addr} (h : m[i]? = some a) : m1[i]? = some a := by
  obtain ⟨ex, e1, _⟩ := e.pre
  rw [e1, List.getElem?_append_left (List.getElem?_eq_some_iff.mp h).1]
  exact h
theorem SR.has (sr : SR g m S H) {a : Addr} (h : a ∈ m) : ∃ (i : Nat) (o : MO), m[i]? = some a ∧ S[i]? = some o ∧ MRep g.K g.n m H o (H a) := by
  obtain ⟨i, hi, e⟩ := List.mem_iff_getElem.mp h
  have h1 : m[i]? = some a := by rw [List.getElem?_eq_getElem hi, e]
  have hi2 : i < List.length S := by rw [← sr.len]; exact hi
  have h2 : S[i]? = some (S[i]'hi2) := List.getElem?_eq_getElem hi2
  exact ⟨i, _, h1, h2, sr.at_ i a _ h1 h2⟩
theorem SR.kind (sr : SR g m S H) {a : Addr} {o : HO} (h : a ∈ m) (e : H a = some o) : (∃ vs, o = .lst vs) ∨ ∃ C dx fv, o = .ins C dx fv := by
  obtain ⟨i, mo, _, _, r⟩ := sr.has h
  rw [e] at r
  cases mo with
  | lst l =>
    obtain ⟨vs, e1, _⟩ := r
    exact .inl ⟨vs, Option.some.inj e1⟩
  | ins C fs =>
    obtain ⟨dx, fv, e1, _⟩ := r
    exact .inr ⟨_, dx, fv, Option.some.inj e1⟩
theorem SR.ntup (sr : SR g m S H) {a : Addr} {vs : List V} (e : H a = some (.tup vs)) : a ∉ m := fun h => by
  rcases sr.kind h e with ⟨_, z⟩ | ⟨_, _, _, z⟩ <;> cases z
theorem SR.nfrz (sr : SR g m S H) {a : Addr} {o : Obj} {u : HO} (e : H a = some (.frz o u)) : a ∉ m := fun h => by
  rcases sr.kind h e with ⟨_, z⟩ | ⟨_, _, _, z⟩ <;> cases z
theorem SR.there (sr : SR g m S H) {a : Addr} (h : a ∈ m) : H a ≠ none := by
  obtain ⟨i, mo, _, _, r⟩ := sr.has h
  cases mo with
  | lst l =>
    obtain ⟨vs, e1, _⟩ := r
    rw [e1]; simp
  | ins C fs =>
    obtain ⟨dx, fv, e1, _⟩ := r
    rw [e1]; simp
/-- what stays of tuples and frozen things is enough for values -/
structure Kpt (m : List Addr) (H : Hp) (m' : List Addr) (H' : Hp) : Prop where
  ix : ∀ (i : Nat) (a : Addr), m[i]? = some a → m'[i]? = some a
  tup : ∀ a vs, H a = some (.tup vs) → H' a = some (.tup vs)
  frz : ∀ a o u, H a = some (.frz o u) → H' a = some (.frz o u)
theorem Ext.kpt (e : Ext m H m1 H1) (sr : SR g m S H) : Kpt m H m1 H1 :=
  ⟨fun _ _ h => e.get h, fun a vs h => e.kp a _ h (sr.ntup h) (fun _ z => by cases z), fun a o u h => e.kp a _ h (sr.nfrz h) (fun _ z => by cases z)⟩
theorem Kpt.sqt {K : PySem.W.Frag} (k : Kpt m H m1 H1) {a : Addr} {vs : List V} (h : SqT K H a vs) : SqT K H1 a vs := by
  rcases h with (h | ⟨o, h⟩) | h
  · exact .inl (.inl (k.tup _ _ h))
  · exact .inl (.inr ⟨o, k.frz _ _ _ h⟩)
  · exact .inr h
mutual
theorem Rep.kpt {K : PySem.W.Frag} (k : Kpt m H m1 H1) : ∀ (d : D) (v : V), Rep K m H d v → Rep K m1 H1 d v
  | .non, _, h => h
  | .bl _, _, h => h
  | .int _, _, h => h
  | .str _, _, h => h
  | .tup l, v, h => by
    unfold Rep at h ⊢
    obtain ⟨a, vs, e, q, r⟩ := h
    exact ⟨a, vs, e, k.sqt q, Reps.kpt k l vs r⟩
  | .fl l, v, h => by
    unfold Rep at h ⊢
    obtain ⟨a, vs, e, q, r⟩ := h
    refine ⟨a, vs, e, ?_, Reps.kpt k l vs r⟩
    rcases q with ⟨o, q⟩ | q
    · exact .inl ⟨o, k.frz _ _ _ q⟩
    · exact .inr q
  | .tupx l, v, h => by
    unfold Rep at h ⊢
    obtain ⟨a, o, e, q, r⟩ := h
    exact ⟨a, o, e, k.frz _ _ _ q, r⟩
  | .ref i, v, h => by
    unfold Rep at h ⊢
    obtain ⟨a, e, q⟩ := h
    exact ⟨a, k.ix i a e, q⟩
theorem Reps.kpt {K : PySem.W.Frag} (k : Kpt m H m1 H1) : ∀ (ds : List D) (vs : List V), Reps K m H ds vs → Reps K m1 H1 ds vs
  | [], _, h => h
  | d :: ds, vs, h => by
    unfold Reps at h ⊢
    obtain ⟨v, r, e, h1, h2⟩ := h
    exact ⟨v, r, e, Rep.kpt k d v h1, Reps.kpt k ds r h2⟩
end
theorem FRep.kpt {K : PySem.W.Frag} {n : Nm} (k : Kpt m H m1 H1) : ∀ (fs : List (Nat × D)) (fv : List (Str × V)), FRep K n m H fs fv → FRep K n m1 H1 fs fv
  | [], _, h => h
  | (f, d) :: fs, fv, h => by
    unfold FRep at h ⊢
    obtain ⟨v, r, e, h1, h2⟩ := h
    exact ⟨v, r, e, Rep.kpt k d v h1, FRep.kpt k fs r h2⟩
theorem MRep.kpt {K : PySem.W.Frag} {n : Nm} (k : Kpt m H m1 H1) : ∀ (o : MO) (x : Option HO), MRep K n m H o x → MRep K n m1 H1 o x
  | .lst l, x, ⟨vs, e, r⟩ => ⟨vs, e, r.kpt k⟩
  | .ins C fs, x, ⟨dx, fv, e, r⟩ => ⟨dx, fv, e, r.kpt k⟩
theorem Rep.ext {d : D} {v : V} (e : Ext m H m1 H1) (sr : SR g m S H) (h : Rep g.K m H d v) : Rep g.K m1 H1 d v := Rep.kpt (e.kpt sr) d v h
theorem Reps.ext {d : List D} {v : List V} (e : Ext m H m1 H1) (sr : SR g m S H) (h : Reps g.K m H d v) : Reps g.K m1 H1 d v := Reps.kpt (e.kpt sr) d v h
theorem ER.ext {ρ : List (Option D)} {σ : L2.St} (e : Ext m H m1 H1) (sr : SR g m S H) (h : ER g m H ρ σ) : ER g m1 H1 ρ σ :=
  ⟨h.1, fun i d hd => by
    obtain ⟨v, h1, h2⟩ := h.2 i d hd
    exact ⟨v, h1, h2.ext e sr⟩⟩
theorem Reps.length {K : PySem.W.Frag} : ∀ {ds : List D} {vs : List V}, Reps K m H ds vs → vs.length = ds.length
  | [], _, h => by unfold Reps at h; rw [h]; rfl
  | d :: ds, vs, h => by
    unfold Reps at h
    obtain ⟨v, r, e, _, h2⟩ := h
    rw [e, List.length_cons, List.length_cons, Reps.length h2]
theorem Reps.get {K : PySem.W.Frag} : ∀ {ds : List D} {vs : List V} {i : Nat} {d : D}, Reps K m H ds vs → ds[i]? = some d → ∃ v, vs[i]? = some v ∧ Rep K m H d v
  | [], _, _, _, _, h => by simp at h
  | d :: ds, vs, 0, d', h, e => by
    unfold Reps at h
    obtain ⟨v, r, e1, h1, h2⟩ := h
    simp at e
    subst e
    exact ⟨v, by rw [e1]; rfl, h1⟩
  | d :: ds, vs, i + 1, d', h, e => by
    unfold Reps at h
    obtain ⟨v, r, e1, h1, h2⟩ := h
    obtain ⟨w, q1, q2⟩ := Reps.get (i := i) (d := d') h2 (by simpa using e)
    exact ⟨w, by rw [e1]; simpa using q1, q2⟩
theorem Reps.nil {K : PySem.W.Frag} : Reps K m H [] [] := by unfold Reps; rfl
theorem Reps.cons {K : PySem.W.Frag} {d : D} {v : V} {ds : List D} {vs : List V} (h : Rep K m H d v) (hs : Reps K m H ds vs) : Reps K m H (d :: ds) (v :: vs) := by
  unfold Reps
  exact ⟨v, vs, rfl, h, hs⟩
theorem Reps.append {K : PySem.W.Frag} : ∀ {ds es : List D} {vs ws : List V}, Reps K m H ds vs → Reps K m H es ws → Reps K m H (ds ++ es) (vs ++ ws)
  | [], _, _, _, h, h' => by
    unfold Reps at h
    rw [h]
    exact h'
  | d :: ds, es, vs, ws, h, h' => by
    unfold Reps at h
    obtain ⟨v, r, e1, h1, h2⟩ := h
    rw [e1]
    exact Reps.cons h1 (Reps.append h2 h')
theorem Reps.one {K : PySem.W.Frag} {d : D} {v : V} (h : Rep K m H d v) : Reps K m H [d] [v] := Reps.cons h Reps.nil
theorem Reps.take {K : PySem.W.Frag} : ∀ (k : Nat) {ds : List D} {vs : List V}, Reps K m H ds vs → Reps K m H (ds.take k) (vs.take k)
  | 0, _, _, _ => Reps.nil
  | k + 1, [], vs, h => by unfold Reps at h; rw [h]; exact Reps.nil
  | k + 1, d :: ds, vs, h => by
    unfold Reps at h
    obtain ⟨v, r, e1, h1, h2⟩ := h
    rw [e1]
    exact Reps.cons h1 (Reps.take k h2)
theorem Reps.drop {K : PySem.W.Frag} : ∀ (k : Nat) {ds : List D} {vs : List V}, Reps K m H ds vs → Reps K m H (ds.drop k) (vs.drop k)
  | 0, _, _, h => h
  | k + 1, [], vs, h => by unfold Reps at h; rw [h]; exact Reps.nil
  | k + 1, d :: ds, vs, h => by
    unfold Reps at h
    obtain ⟨v, r, e1, h1, h2⟩ := h
    rw [e1]
    exact Reps.drop k h2
theorem Reps.set {K : PySem.W.Frag} {d : D} {v : V} (hd : Rep K m H d v) : ∀ (k : Nat) {ds : List D} {vs : List V}, Reps K m H ds vs → Reps K m H (ds.set k d) (vs.set k v)
  | _, [], vs, h => by unfold Reps at h; rw [h]; exact Reps.nil
  | 0, e :: ds, vs, h => by
    unfold Reps at h
    obtain ⟨w, r, e1, h1, h2⟩ := h
    rw [e1]
    exact Reps.cons hd h2
  | k + 1, e :: ds, vs, h => by
    unfold Reps at h
    obtain ⟨w, r, e1, h1, h2⟩ := h
    rw [e1]
    exact Reps.cons h1 (Reps.set hd k h2)
theorem Reps.eraseIdx {K : PySem.W.Frag} : ∀ (k : Nat) {ds : List D} {vs : List V}, Reps K m H ds vs → Reps K m H (ds.eraseIdx k) (vs.eraseIdx k)
  | _, [], vs, h => by unfold Reps at h; rw [h]; exact Reps.nil
  | 0, e :: ds, vs, h => by
    unfold Reps at h
    obtain ⟨w, r, e1, h1, h2⟩ := h
    rw [e1]
    exact h2
  | k + 1, e :: ds, vs, h => by
    unfold Reps at h
    obtain ⟨w, r, e1, h1, h2⟩ := h
    rw [e1]
    exact Reps.cons h1 (Reps.eraseIdx k h2)
theorem Reps.rep {K : PySem.W.Frag} {ds : List D} {vs : List V} (h : Reps K m H ds vs) : ∀ k : Nat, Reps K m H (List.replicate k ds).flatten (List.replicate k vs).flatten
  | 0 => Reps.nil
  | k + 1 => by
    rw [List.replicate_succ, List.replicate_succ, List.flatten_cons, List.flatten_cons]
    exact Reps.append h (Reps.rep h k)
end

/-! ### results -/
/-- E: what is wanted of an exception: of the class at an address, its dict -/
def ResOk (g : G) (E : XK) (m : List Addr) (H : Hp) (r : Res D) (Q : VK) : Prop := match r with
  | .ok d S => ∀ (m' : List Addr) (H' : Hp) (v : V), Ext m H m' H' → SR g m' S H' → Rep g.K m' H' d v → Q v H'
  | .exc c d S => ∀ (m' : List Addr) (H' : Hp) (dx : Addr) (v : V), Ext m H m' H' → SR g m' S H' → H' dx = some (.xd [("what", v)]) → Rep g.K m' H' d v → E (.ref (He.ga g.K (g.n.cls c))) (some dx) H'
  | .bad => False
/-- the same of a list of values -/
def ResOkA (g : G) (E : XK) (m : List Addr) (H : Hp) (r : Res (List D)) (Q : List V → Hp → Prop) : Prop := match r with
  | .ok d S => ∀ (m' : List Addr) (H' : Hp) (v : List V), Ext m H m' H' → SR g m' S H' → Reps g.K m' H' d v → Q v H'
  | .exc c d S => ∀ (m' : List Addr) (H' : Hp) (dx : Addr) (v : V), Ext m H m' H' → SR g m' S H' → H' dx = some (.xd [("what", v)]) → Rep g.K m' H' d v → E (.ref (He.ga g.K (g.n.cls c))) (some dx) H'
  | .bad => False
/-- the same of a truth value -/
def ResOkB (g : G) (E : XK) (m : List Addr) (H : Hp) (r : Res D) (Q : Bool → Hp → Prop) : Prop := match r with
  | .ok d S => ∃ b, d = .bl b ∧ ∀ (m' : List Addr) (H' : Hp), Ext m H m' H' → SR g m' S H' → Q b H'
  | .exc c d S => ∀ (m' : List Addr) (H' : Hp) (dx : Addr) (v : V), Ext m H m' H' → SR g m' S H' → H' dx = some (.xd [("what", v)]) → Rep g.K m' H' d v → E (.ref (He.ga g.K (g.n.cls c))) (some dx) H'
  | .bad => False
inductive Fl where
  | nx | rt (d : D)
abbrev Ev := List (Option D)
/-- the same of a statement -/
def ResOkS (g : G) (E : XK) (m : List Addr) (H : Hp) (r : Res (Fl × Ev)) (D : Ends) : Prop := match r with
  | .ok (.nx, ρ) S => ∀ (m' : List Addr) (H' : Hp) (σ : L2.St), Ext m H m' H' → SR g m' S H' → ER g m' H' ρ σ → D.nx σ H'
  | .ok (.rt d, _) S => ∀ (m' : List Addr) (H' : Hp) (v : V), Ext m H m' H' → SR g m' S H' → Rep g.K m' H' d v → D.rt v H'
  | .exc c d S => ∀ (m' : List Addr) (H' : Hp) (dx : Addr) (v : V), Ext m H m' H' → SR g m' S H' → H' dx = some (.xd [("what", v)]) → Rep g.K m' H' d v → E (.ref (He.ga g.K (g.n.cls c))) (some dx) H'
  | .bad => False
def tD (g : G) (E : XK) (f : Ev → Store → Res D) : TE := fun σ H Q => ∃ m ρ S, SR g m S H ∧ ER g m H ρ σ ∧ ResOk g E m H (f ρ S) Q
def tDA (g : G) (E : XK) (f : Ev → Store → Res (List D)) : TA := fun σ H Q => ∃ m ρ S, SR g m S H ∧ ER g m H ρ σ ∧ ResOkA g E m H (f ρ S) Q
def tDB (g : G) (E : XK) (f : Ev → Store → Res D) : TT := fun σ H Q => ∃ m ρ S, SR g m S H ∧ ER g m H ρ σ ∧ ResOkB g E m H (f ρ S) Q
def tDS (g : G) (E : XK) (f : Ev → Store → Res (Fl × Ev)) : TS := fun D σ H => ∃ m ρ S, SR g m S H ∧ ER g m H ρ σ ∧ ResOkS g E m H (f ρ S) D
section
variable {g : G} {E : XK} {m m1 : List Addr} {S : Store} {H H1 : Hp}
theorem ResOk.ext {r : Res D} {Q : VK} (e : Ext m H m1 H1) (h : ResOk g E m H r Q) : ResOk g E m1 H1 r Q := by
  cases r with
  | ok d S => exact fun m' H' v e' => h m' H' v (e.trans e')
  | exc c d S => exact fun m' H' dx v e' => h m' H' dx v (e.trans e')
  | bad => exact h
theorem ResOkA.ext {r : Res (List D)} {Q : List V → Hp → Prop} (e : Ext m H m1 H1) (h : ResOkA g E m H r Q) : ResOkA g E m1 H1 r Q := by
  cases r with
  | ok d S => exact fun m' H' v e' => h m' H' v (e.trans e')
  | exc c d S => exact fun m' H' dx v e' => h m' H' dx v (e.trans e')
  | bad => exact h
theorem ResOkB.ext {r : Res D} {Q : Bool → Hp → Prop} (e : Ext m H m1 H1) (h : ResOkB g E m H r Q) : ResOkB g E m1 H1 r Q := by
  cases r with
  | ok d S =>
    obtain ⟨b, e1, h⟩ := h
    exact ⟨b, e1, fun m' H' e' => h m' H' (e.trans e')⟩
  | exc c d S => exact fun m' H' dx v e' => h m' H' dx v (e.trans e')
  | bad => exact h
theorem ResOkS.ext {r : Res (Fl × Ev)} {D : Ends} (e : Ext m H m1 H1) (h : ResOkS g E m H r D) : ResOkS g E m1 H1 r D := by
  cases r with
  | ok d S =>
    obtain ⟨fl, ρ⟩ := d
    cases fl with
    | nx => exact fun m' H' σ e' => h m' H' σ (e.trans e')
    | rt d => exact fun m' H' v e' => h m' H' v (e.trans e')
  | exc c d S => exact fun m' H' dx v e' => h m' H' dx v (e.trans e')
  | bad => exact h
end
/-- a piece's own state -/
structure Sit (g : G) (m : List Addr) (ρ : Ev) (S : Store) (σ : L2.St) (H : Hp) : Prop where
  sr : SR g m S H
  er : ER g m H ρ σ
section
variable {g : G} {E : XK} {m : List Addr} {ρ : Ev} {S : Store} {σ : L2.St} {H : Hp}
theorem Sit.ext {m1 : List Addr} {S1 : Store} {H1 : Hp} (s : Sit g m ρ S σ H) (e : Ext m H m1 H1) (sr : SR g m1 S1 H1) : Sit g m1 ρ S1 σ H1 := ⟨sr, s.er.ext e s.sr⟩
/-- one expression, then what follows of its value -/
theorem seqD {fa : Ev → Store → Res D} {k : D → Store → Res D} {Q : VK} (s : Sit g m ρ S σ H) (h : ResOk g E m H ((fa ρ S).bind k) Q) {R : V → Hp → Prop}
    (c : ∀ m1 S1 H1 v d, Ext m H m1 H1 → Sit g m1 ρ S1 σ H1 → Rep g.K m1 H1 d v → ResOk g E m1 H1 (k d S1) Q → R v H1) : tD g E fa σ H R := by
  refine ⟨m, ρ, S, s.sr, s.er, ?_⟩
  cases e : fa ρ S with
  | ok d S1 =>
    rw [e] at h
    exact fun m1 H1 v e1 sr r => c m1 S1 H1 v d e1 (s.ext e1 sr) r (ResOk.ext e1 h)
  | exc c d S1 =>
    rw [e] at h
    exact h
  | bad =>
    rw [e] at h
    exact h
theorem seqDA {fa : Ev → Store → Res D} {k : D → Store → Res (List D)} {Q : List V → Hp → Prop} (s : Sit g m ρ S σ H) (h : ResOkA g E m H ((fa ρ S).bind k) Q) {R : V → Hp → Prop}
    (c : ∀ m1 S1 H1 v d, Ext m H m1 H1 → Sit g m1 ρ S1 σ H1 → Rep g.K m1 H1 d v → ResOkA g E m1 H1 (k d S1) Q → R v H1) : tD g E fa σ H R := by
  refine ⟨m, ρ, S, s.sr, s.er, ?_⟩
  cases e : fa ρ S with
  | ok d S1 =>
    rw [e] at h
    exact fun m1 H1 v e1 sr r => c m1 S1 H1 v d e1 (s.ext e1 sr) r (ResOkA.ext e1 h)
  | exc c d S1 =>
    rw [e] at h
    exact h
  | bad =>
    rw [e] at h
    exact h
theorem seqDB {fa : Ev → Store → Res D} {k : D → Store → Res D} {Q : Bool → Hp → Prop} (s : Sit g m ρ S σ H) (h : ResOkB g E m H ((fa ρ S).bind k) Q) {R : V → Hp → Prop}
    (c : ∀ m1 S1 H1 v d, Ext m H m1 H1 → Sit g m1 ρ S1 σ H1 → Rep g.K m1 H1 d v → ResOkB g E m1 H1 (k d S1) Q → R v H1) : tD g E fa σ H R := by
  refine ⟨m, ρ, S, s.sr, s.er, ?_⟩
  cases e : fa ρ S with
  | ok d S1 =>
    rw [e] at h
    exact fun m1 H1 v e1 sr r => c m1 S1 H1 v d e1 (s.ext e1 sr) r (ResOkB.ext e1 h)
  | exc c d S1 =>
    rw [e] at h
    exact h
  | bad =>
    rw [e] at h
    exact h
theorem seqDS {fa : Ev → Store → Res D} {k : D → Store → Res (Fl × Ev)} {Q : Ends} (s : Sit g m ρ S σ H) (h : ResOkS g E m H ((fa ρ S).bind k) Q) {R : V → Hp → Prop}
    (c : ∀ m1 S1 H1 v d, Ext m H m1 H1 → Sit g m1 ρ S1 σ H1 → Rep g.K m1 H1 d v → ResOkS g E m1 H1 (k d S1) Q → R v H1) : tD g E fa σ H R := by
  refine ⟨m, ρ, S, s.sr, s.er, ?_⟩
  cases e : fa ρ S with
  | ok d S1 =>
    rw [e] at h
    exact fun m1 H1 v e1 sr r => c m1 S1 H1 v d e1 (s.ext e1 sr) r (ResOkS.ext e1 h)
  | exc c d S1 =>
    rw [e] at h
    exact h
  | bad =>
    rw [e] at h
    exact h
/-- arguments, then what follows -/
theorem seqA {fa : Ev → Store → Res (List D)} {k : List D → Store → Res D} {Q : VK} (s : Sit g m ρ S σ H) (h : ResOk g E m H ((fa ρ S).bind k) Q) {R : List V → Hp → Prop}
    (c : ∀ m1 S1 H1 v d, Ext m H m1 H1 → Sit g m1 ρ S1 σ H1 → Reps g.K m1 H1 d v → ResOk g E m1 H1 (k d S1) Q → R v H1) : tDA g E fa σ H R := by
  refine ⟨m, ρ, S, s.sr, s.er, ?_⟩
  cases e : fa ρ S with
  | ok d S1 =>
    rw [e] at h
    exact fun m1 H1 v e1 sr r => c m1 S1 H1 v d e1 (s.ext e1 sr) r (ResOk.ext e1 h)
  | exc c d S1 =>
    rw [e] at h
    exact h
  | bad =>
    rw [e] at h
    exact h
theorem seqAA {fa : Ev → Store → Res (List D)} {k : List D → Store → Res (List D)} {Q : List V → Hp → Prop} (s : Sit g m ρ S σ H) (h : ResOkA g E m H ((fa ρ S).bind k) Q) {R : List V → Hp → Prop}
    (c : ∀ m1 S1 H1 v d, Ext m H m1 H1 → Sit g m1 ρ S1 σ H1 → Reps g.K m1 H1 d v → ResOkA g E m1 H1 (k d S1) Q → R v H1) : tDA g E fa σ H R := by
  refine ⟨m, ρ, S, s.sr, s.er, ?_⟩
  cases e : fa ρ S with
  | ok d S1 =>
    rw [e] at h
    exact fun m1 H1 v e1 sr r => c m1 S1 H1 v d e1 (s.ext e1 sr) r (ResOkA.ext e1 h)
  | exc c d S1 =>
    rw [e] at h
    exact h
  | bad =>
    rw [e] at h
    exact h
theorem seqAS {fa : Ev → Store → Res (List D)} {k : List D → Store → Res (Fl × Ev)} {Q : Ends} (s : Sit g m ρ S σ H) (h : ResOkS g E m H ((fa ρ S).bind k) Q) {R : List V → Hp → Prop}
    (c : ∀ m1 S1 H1 v d, Ext m H m1 H1 → Sit g m1 ρ S1 σ H1 → Reps g.K m1 H1 d v → ResOkS g E m1 H1 (k d S1) Q → R v H1) : tDA g E fa σ H R := by
  refine ⟨m, ρ, S, s.sr, s.er, ?_⟩
  cases e : fa ρ S with
  | ok d S1 =>
    rw [e] at h
    exact fun m1 H1 v e1 sr r => c m1 S1 H1 v d e1 (s.ext e1 sr) r (ResOkS.ext e1 h)
  | exc c d S1 =>
    rw [e] at h
    exact h
  | bad =>
    rw [e] at h
    exact h
/-- a truth value or bad -/
def asB {α : Type} (k : Bool → Store → Res α) : D → Store → Res α := fun d S => match d with
  | .bl b => k b S
  | _ => .bad
/-- a test, then what follows -/
theorem seqB {fa : Ev → Store → Res D} {k : Bool → Store → Res D} {Q : VK} (s : Sit g m ρ S σ H) (h : ResOk g E m H ((fa ρ S).bind (asB k)) Q) {R : Bool → Hp → Prop}
    (c : ∀ m1 S1 H1 b, Ext m H m1 H1 → Sit g m1 ρ S1 σ H1 → ResOk g E m1 H1 (k b S1) Q → R b H1) : tDB g E fa σ H R := by
  refine ⟨m, ρ, S, s.sr, s.er, ?_⟩
  cases e : fa ρ S with
  | ok d S1 =>
    rw [e] at h
    cases d with
    | bl b => exact ⟨b, rfl, fun m1 H1 e1 sr => c m1 S1 H1 b e1 (s.ext e1 sr) (ResOk.ext e1 h)⟩
    | _ => exact (show False from h).elim
  | exc c d S1 =>
    rw [e] at h
    exact h
  | bad =>
    rw [e] at h
    exact h
theorem seqBB {fa : Ev → Store → Res D} {k : Bool → Store → Res D} {Q : Bool → Hp → Prop} (s : Sit g m ρ S σ H) (h : ResOkB g E m H ((fa ρ S).bind (asB k)) Q) {R : Bool → Hp → Prop}
    (c : ∀ m1 S1 H1 b, Ext m H m1 H1 → Sit g m1 ρ S1 σ H1 → ResOkB g E m1 H1 (k b S1) Q → R b H1) : tDB g E fa σ H R := by
  refine ⟨m, ρ, S, s.sr, s.er, ?_⟩
  cases e : fa ρ S with
  | ok d S1 =>
    rw [e] at h
    cases d with
    | bl b => exact ⟨b, rfl, fun m1 H1 e1 sr => c m1 S1 H1 b e1 (s.ext e1 sr) (ResOkB.ext e1 h)⟩
    | _ => exact (show False from h).elim
  | exc c d S1 =>
    rw [e] at h
    exact h
  | bad =>
    rw [e] at h
    exact h
theorem seqBS {fa : Ev → Store → Res D} {k : Bool → Store → Res (Fl × Ev)} {Q : Ends} (s : Sit g m ρ S σ H) (h : ResOkS g E m H ((fa ρ S).bind (asB k)) Q) {R : Bool → Hp → Prop}
    (c : ∀ m1 S1 H1 b, Ext m H m1 H1 → Sit g m1 ρ S1 σ H1 → ResOkS g E m1 H1 (k b S1) Q → R b H1) : tDB g E fa σ H R := by
  refine ⟨m, ρ, S, s.sr, s.er, ?_⟩
  cases e : fa ρ S with
  | ok d S1 =>
    rw [e] at h
    cases d with
    | bl b => exact ⟨b, rfl, fun m1 H1 e1 sr => c m1 S1 H1 b e1 (s.ext e1 sr) (ResOkS.ext e1 h)⟩
    | _ => exact (show False from h).elim
  | exc c d S1 =>
    rw [e] at h
    exact h
  | bad =>
    rw [e] at h
    exact h
end
/-! ### weaker readings -/
section
variable {X : Cx}
theorem PE.weak {e : Expr} {t t' : TE} (h : PE X e t) (c : ∀ σ H Q, t' σ H Q → t σ H Q) : PE X e t' := ⟨fun pins s σ H Q I q => h.run pins s σ H Q I (c σ H Q q)⟩
theorem PT.weak {e : Expr} {t t' : TT} (h : PT X e t) (c : ∀ σ H Q, t' σ H Q → t σ H Q) : PT X e t' := ⟨fun pins s σ H Q I q => h.run pins s σ H Q I (c σ H Q q)⟩
theorem PW.weak {e : Expr} {t t' : TT} (h : PW X e t) (c : ∀ σ H Q, t' σ H Q → t σ H Q) : PW X e t' := ⟨fun wh pins s σ H Q I q => h.run wh pins s σ H Q I (c σ H Q q)⟩
theorem PA.weak {e : List Expr} {t t' : TA} (h : PA X e t) (c : ∀ σ H Q, t' σ H Q → t σ H Q) : PA X e t' := ⟨fun pos pins s σ H Q I q => h.run pos pins s σ H Q I (c σ H Q q)⟩
theorem PS.weak {e : Stmt} {t t' : TS} (h : PS X e t) (c : ∀ D σ H, t' D σ H → t D σ H) : PS X e t' := ⟨fun pins s σ H D I q => h.run pins s σ H D I (c D σ H q)⟩
theorem PSs.weak {e : List Stmt} {t t' : TS} (h : PSs X e t) (c : ∀ D σ H, t' D σ H → t D σ H) : PSs X e t' := ⟨fun pins s σ H D I q => h.run pins s σ H D I (c D σ H q)⟩
end
end K76
set_option Elab.async false
set_option linter.all false
set_option maxRecDepth 100000
set_option maxHeartbeats 4000000
/-! K2: new objects, changed objects -/
namespace K76
open PySem PySem.Spec PyProof.Rows L2
section
variable {g : G} {m : List Addr} {S : Store} {H : Hp} {p a : Addr} {o : HO}
theorem some_ne {a p : Addr} (h : H a ≠ none) (hp : H p = none) : a ≠ p := fun z => h (by rw [z]; exact hp)
theorem kpt_upd {m' : List Addr} (hi : ∀ (i : Nat) (c : Addr), m[i]? = some c → m'[i]? = some c) (h1 : ∀ vs, H a ≠ some (.tup vs)) (h2 : ∀ o u, H a ≠ some (.frz o u)) : Kpt m H m' (upd H a o) :=
  ⟨hi, fun b vs e => by rw [upd_ne (fun z => h1 vs (by rw [← z]; exact e))]; exact e, fun b ob u e => by rw [upd_ne (fun z => h2 ob u (by rw [← z]; exact e))]; exact e⟩
theorem Kpt.refl' {ex : List Addr} : ∀ (i : Nat) (c : Addr), m[i]? = some c → (m ++ ex)[i]? = some c := fun i c h => by
  rw [List.getElem?_append_left (List.getElem?_eq_some_iff.mp h).1]
  exact h
theorem Ext.new (hp : H p = none) : Ext m H m (upd H p o) :=
  ⟨⟨[], by simp, by simp⟩, fun b ob e _ _ => by rw [upd_ne (ne_of_none e hp)]; exact e, fun b h ob e => h ob (by rw [upd_ne (ne_of_none e hp)]; exact e)⟩
theorem Ext.push (hp : H p = none) : Ext m H (m ++ [p]) (upd H p o) :=
  ⟨⟨[p], rfl, fun c hc => by rw [List.mem_singleton.mp hc]; exact NT.of hp⟩, (Ext.new (m := m) hp).kp, (Ext.new (m := m) hp).st⟩
theorem Ext.put (ha : a ∈ m) (ho : ∀ ps, o ≠ .tbl ps) : Ext m H m (upd H a o) :=
  ⟨⟨[], by simp, by simp⟩, fun b ob e hb _ => by rw [upd_ne (fun z => hb (by rw [z]; exact ha))]; exact e, fun b h ob e => by
    by_cases q : b = a
    · subst q
      obtain ⟨ps, z⟩ := h o upd_same
      exact absurd z (ho ps)
    · exact h ob (by rw [upd_ne q]; exact e)⟩
theorem SR.new (sr : SR g m S H) (hp : H p = none) : SR g m S (upd H p o) := by
  refine ⟨sr.len, sr.nd, fun i c mo h1 h2 => ?_, sr.tabs.ext fun b ob e => by rw [upd_ne (ne_of_none e hp)]; exact e⟩
  have hc : c ∈ m := List.mem_of_getElem? h1
  rw [upd_ne (some_ne (sr.there hc) hp)]
  exact MRep.kpt (kpt_upd (fun _ _ h => h) (fun vs z => by rw [hp] at z; cases z) fun o u z => by rw [hp] at z; cases z) mo _ (sr.at_ i c mo h1 h2)
theorem SR.push {mo : MO} (sr : SR g m S H) (hp : H p = none) (hm : MRep g.K g.n (m ++ [p]) (upd H p o) mo (some o)) : SR g (m ++ [p]) (S ++ [mo]) (upd H p o) := by
  have np : p ∉ m := fun z => sr.there z hp
  refine ⟨by simp [sr.len], ?_, fun i c mo' h1 h2 => ?_, (sr.new (o := o) hp).tabs⟩
  · rw [List.nodup_append]
    refine ⟨sr.nd, by simp, fun x hx y hy => ?_⟩
    have e : y = p := by simpa using hy
    rw [e]
    exact fun z => np (by rw [← z]; exact hx)
  · by_cases hi : i < m.length
    · rw [List.getElem?_append_left hi] at h1
      rw [List.getElem?_append_left (by rw [← sr.len]; exact hi)] at h2
      have hc : c ∈ m := List.mem_of_getElem? h1
      rw [upd_ne (some_ne (sr.there hc) hp)]
      exact MRep.kpt (kpt_upd Kpt.refl' (fun vs z => by rw [hp] at z; cases z) fun o u z => by rw [hp] at z; cases z) mo' _ (sr.at_ i c mo' h1 h2)
    · rw [List.getElem?_append_right (by omega)] at h1
      rw [List.getElem?_append_right (by rw [← sr.len]; omega), ← sr.len] at h2
      cases k : i - m.length with
      | zero =>
        rw [k] at h1 h2
        have e1 : p = c := by simpa using h1
        have e2 : mo = mo' := by simpa using h2
        rw [← e1, ← e2, upd_same]
        exact hm
      | succ j =>
        rw [k] at h1
        simp at h1
theorem SR.put {i : Nat} {mo : MO} (sr : SR g m S H) (hi : m[i]? = some a) (hm : MRep g.K g.n m (upd H a o) mo (some o)) : SR g m (S.set i mo) (upd H a o) := by
  have ha : a ∈ m := List.mem_of_getElem? hi
  have ht : ∀ vs, H a ≠ some (.tup vs) := fun vs z => sr.ntup z ha
  have hf : ∀ ob u, H a ≠ some (.frz ob u) := fun ob u z => sr.nfrz z ha
  refine ⟨by simp [sr.len], sr.nd, fun j c mo' h1 h2 => ?_, fun q hq => ?_⟩
  · by_cases hj : j = i
    · subst hj
      rw [hi] at h1
      cases h1
      rw [upd_same]
      have hl : j < List.length S := by rw [← sr.len]; exact (List.getElem?_eq_some_iff.mp hi).1
      rw [List.getElem?_set_self hl] at h2
      cases h2
      exact hm
    · have hc : c ≠ a := fun z => hj ((List.getElem?_inj (List.getElem?_eq_some_iff.mp h1).1 sr.nd).mp (by rw [h1, hi, z]))
      rw [List.getElem?_set_ne (Ne.symm hj)] at h2
      rw [upd_ne hc]
      exact MRep.kpt (kpt_upd (fun _ _ h => h) ht hf) mo' _ (sr.at_ j c mo' h1 h2)
  · obtain ⟨ps, e1, e2, e3⟩ := sr.tabs q hq
    refine ⟨ps, ?_, e2, fun pos cv hcv => ?_⟩
    · rw [upd_ne (fun z => ?_)]
      · exact e1
      · rcases sr.kind ha (by rw [← z]; exact e1) with ⟨_, y⟩ | ⟨_, _, _, y⟩ <;> cases y
    · obtain ⟨c, q1, q2⟩ := e3 pos cv hcv
      refine ⟨c, q1, ?_⟩
      rw [upd_ne (fun z => ?_)]
      · exact q2
      · rcases sr.kind ha (by rw [← z]; exact q2) with ⟨_, y⟩ | ⟨_, _, _, y⟩ <;> (unfold LamX.CodeO at y; cases y)
/-- the address of a mutable object -/
theorem rep_ref {i : Nat} {v : V} (r : Rep g.K m H (.ref i) v) : ∃ a : Addr, m[i]? = some a ∧ v = .ref a := by
  unfold Rep at r
  exact r
theorem rep_tup {l : List D} {v : V} (r : Rep g.K m H (.tup l) v) : ∃ (a : Addr) (vs : List V), v = .ref a ∧ SqT g.K H a vs ∧ Reps g.K m H l vs := by
  unfold Rep at r
  exact r
theorem rep_int {i : Int} {v : V} (r : Rep g.K m H (.int i) v) : v = .int i := by
  unfold Rep at r
  exact r
theorem rep_bl {i : Bool} {v : V} (r : Rep g.K m H (.bl i) v) : v = .bl i := by
  unfold Rep at r
  exact r
theorem rep_str {i : Str} {v : V} (r : Rep g.K m H (.str i) v) : v = .str i := by
  unfold Rep at r
  exact r
theorem rep_non {v : V} (r : Rep g.K m H .non v) : v = .non := by
  unfold Rep at r
  exact r
theorem mk_int (i : Int) : Rep g.K m H (.int i) (.int i) := by unfold Rep; rfl
theorem mk_bl (i : Bool) : Rep g.K m H (.bl i) (.bl i) := by unfold Rep; rfl
theorem mk_str (i : Str) : Rep g.K m H (.str i) (.str i) := by unfold Rep; rfl
theorem mk_non : Rep g.K m H .non .non := by unfold Rep; rfl
theorem mk_tup {l : List D} {vs : List V} {a : Addr} (h : SqT g.K H a vs) (r : Reps g.K m H l vs) : Rep g.K m H (.tup l) (.ref a) := by
  unfold Rep
  exact ⟨a, vs, rfl, h, r⟩
theorem mk_ref {i : Nat} {a : Addr} (h : m[i]? = some a) : Rep g.K m H (.ref i) (.ref a) := by
  unfold Rep
  exact ⟨a, h, rfl⟩
theorem SR.ix (sr : SR g m S H) {i : Nat} {mo : MO} (h : S[i]? = some mo) : ∃ a : Addr, m[i]? = some a ∧ MRep g.K g.n m H mo (H a) := by
  have hl : i < List.length m := by rw [sr.len]; exact (List.getElem?_eq_some_iff.mp h).1
  exact ⟨m[i], List.getElem?_eq_getElem hl, sr.at_ i _ mo (List.getElem?_eq_getElem hl) h⟩
/-- the list that is behind a reference -/
theorem ref_lst {i : Nat} {l : List D} {v : V} (sr : SR g m S H) (r : Rep g.K m H (.ref i) v) (h : S[i]? = some (.lst l)) : ∃ (a : Addr) (vs : List V), v = .ref a ∧ m[i]? = some a ∧ H a = some (.lst vs) ∧ Reps g.K m H l vs := by
  obtain ⟨a, h1, rfl⟩ := rep_ref r
  obtain ⟨vs, h2, h3⟩ := sr.at_ i a _ h1 h
  exact ⟨a, vs, rfl, h1, h2, h3⟩
theorem ref_ins {i C : Nat} {fs : List (Nat × D)} {v : V} (sr : SR g m S H) (r : Rep g.K m H (.ref i) v) (h : S[i]? = some (.ins C fs)) :
    ∃ (a dx : Addr) (fv : List (Str × V)), v = .ref a ∧ m[i]? = some a ∧ H a = some (.ins (He.ga g.K (g.n.cls C)) dx fv) ∧ FRep g.K g.n m H fs fv := by
  obtain ⟨a, h1, rfl⟩ := rep_ref r
  obtain ⟨dx, fv, h2, h3⟩ := sr.at_ i a _ h1 h
  exact ⟨a, dx, fv, rfl, h1, h2, h3⟩
/-! ### a new tuple, a new list -/
theorem okTup {E : XK} {l : List D} {vs : List V} {Q : VK} (sr : SR g m S H) (r : Reps g.K m H l vs) (h : ResOk g E m H (.ok (.tup l) S) Q) (hp : H p = none) : Q (.ref p) (upd H p (.tup vs)) :=
  h m _ _ (Ext.new hp) (sr.new hp) (mk_tup (SqT.of upd_same) (r.ext (Ext.new hp) sr))
theorem okLst {E : XK} {l : List D} {vs : List V} {Q : VK} (sr : SR g m S H) (r : Reps g.K m H l vs) (h : ResOk g E m H (.ok (.ref S.length) (S ++ [.lst l])) Q) (hp : H p = none) : Q (.ref p) (upd H p (.lst vs)) :=
  h (m ++ [p]) _ _ (Ext.push hp) (sr.push hp ⟨vs, rfl, r.ext (Ext.push hp) sr⟩) (mk_ref (by rw [← sr.len]; simp))
/-- a value as it stands -/
theorem okVal {E : XK} {d : D} {v : V} {Q : VK} (sr : SR g m S H) (r : Rep g.K m H d v) (h : ResOk g E m H (.ok d S) Q) : Q v H := h m H v (Ext.refl m H) sr r
/-- a list changed -/
theorem okSet {i : Nat} {l l' : List D} {vs : List V} (sr : SR g m S H) (hi : m[i]? = some a) (hl : S[i]? = some (.lst l)) (r : Reps g.K m H l' vs) :
    Ext m H m (upd H a (.lst vs)) ∧ SR g m (S.set i (.lst l')) (upd H a (.lst vs)) := by
  have ha : a ∈ m := List.mem_of_getElem? hi
  have e : Ext m H m (upd H a (.lst vs)) := Ext.put ha fun ps z => by cases z
  exact ⟨e, sr.put hi ⟨vs, rfl, r.ext e sr⟩⟩
end
end K76
set_option Elab.async false
set_option linter.all false
set_option maxRecDepth 100000
set_option maxHeartbeats 4000000
/-! K3: the little language and what it computes -/
namespace K76
open PySem PySem.Spec PyProof.Rows L2

inductive Bop where
  | add | sub | mul | fdiv | mod | pow
  deriving DecidableEq
inductive Cop where
  | eq | ne | lt | le | gt | ge | isN | notN | in_ | notIn
  deriving DecidableEq
/-- built-in functions -/
inductive BI where
  | len | abs | max2 | min2 | int1 | str1 | tuple1 | list1 | sum1 | all1 | any1 | isInt | isBool | isTup | isStr
  deriving DecidableEq
/-- what a comprehension's list is handed to -/
inductive LF where
  | tuple | all | any | sum | eqNil | neNil | tupleX
  deriving DecidableEq
/-- targets -/
inductive CT where
  | nm (i : Nat)
  | tp (l : List CT)
mutual
inductive CE where
  | var (i : Nat) | int (i : Int) | str (w : Nat) | bl (b : Bool) | non | glob (k : Nat)
  | bin (op : Bop) (a b : CE) | neg (a : CE)
  | cmp (op : Cop) (a b : CE) | chain (o1 o2 : Cop) (a b c : CE) | eqNil (ne : Bool) (a : CE)
  | and (l : CEs) | or (l : CEs) | not (a : CE) | ite (c a b : CE)
  | tup (l : CEs) | lst (l : CEs)
  | idx (a i : CE) | slc (a : CE) (lo hi : CO)
  | attr (a : CE) (f : Nat)
  | call (k : Nat) (l : CEs) | make (c : Nat) (l : CEs) | meth (a : CE) (f : Nat) (l : CEs)
  | bi (b : BI) (l : CEs)
  | app (a x : CE) | ext (a x : CE) | pop (a i : CE) | index (a x : CE)
  | lc (elt : CE) (t : CT) (it : CI) (cond : CO) (own : List Nat)
  | lcf (k : LF) (elt : CE) (t : CT) (it : CI) (cond : CO) (own : List Nat)
  | heard (e : CE)
inductive CEs where
  | nil | cons (e : CE) (r : CEs)
inductive CO where
  | no | yes (e : CE)
inductive CI where
  | of (e : CE) | range (e : CE) | enum (e : CE) | zip2 (a b : CE) | zip3 (a b c : CE) | enumZip (a b : CE)
end
mutual
inductive CS where
  | asg (i : Nat) (e : CE) | asgLc (i : Nat) (elt : CE) (t : CT) (it : CI) (cond : CO) (own : List Nat)
  | asgT (t : CT) (e : CE) | par (is : List Nat) (l : CEs)
  | attr (a : CE) (f : Nat) (e : CE) | attr2 (a : CE) (f h : Nat) (e : CE) | item (a i e : CE)
  | augItem (a i e : CE) | augAttr (a : CE) (f : Nat) (e : CE)
  | expr (e : CE) | ret (e : CE)
  | ite (c : CE) (a b : CB)
  | for_ (t : CT) (it : CI) (b : CB) | while_ (fuel : Nat) (c : CE) (b : CB)
  | raise (c : Nat) (e : CE)
inductive CB where
  | nil | cons (s : CS) (r : CB)
end

/-- the tables of the program -/
structure Tb where
  dat : Nat → Nat → Bool
  w : Nat → Str
  glob : Nat → D
  init : Nat → Nat
  meth : Nat → Nat → Option Nat
  hw : Nat → Option Str

/-! ### values -/
def D.flat : D → Bool
  | .non | .bl _ | .int _ | .str _ => true
  | _ => false
mutual
def D.py : D → Option PyData
  | .non => some .none
  | .bl b => some (.bool b)
  | .int i => some (.int i)
  | .str s => some (.str s)
  | .tup l => (D.pyAll l).map .tuple
  | .fl l => (D.pyAll l).map .list
  | .tupx _ => none
  | .ref _ => none
def D.pyAll : List D → Option (List PyData)
  | [] => some []
  | d :: r => match D.py d, D.pyAll r with
    | some a, some b => some (a :: b)
    | _, _ => none
end
def pyS (S : Store) : D → Option PyData
  | .ref i => match S[i]? with
    | some (.lst l) => (D.pyAll l).map .list
    | _ => none
  | d => d.py
/-- == of flat values -/
def D.eqf : D → D → Bool
  | .non, .non => true
  | .bl a, .bl b => a == b
  | .bl a, .int b => (if a then 1 else 0) == b
  | .int a, .bl b => a == (if b then 1 else 0)
  | .int a, .int b => a == b
  | .str a, .str b => a == b
  | _, _ => false
def inD (x : D) (l : List D) : Bool := l.any fun y => D.eqf y x
def opIn (neg : Bool) (x y : D) (S : Store) : Res D := match y with
  | .str b => (match x with
    | .str a => .ok (.bl (if neg then !(!(Builtin.Str.occurrences b a 0 b.length 1).isEmpty) else !(Builtin.Str.occurrences b a 0 b.length 1).isEmpty)) S
    | _ => .bad)
  | .tup l => if x.flat && l.all D.flat then .ok (.bl (if neg then !inD x l else inD x l)) S else .bad
  | .ref i => (match S[i]? with
    | some (.lst l) => if x.flat && l.all D.flat then .ok (.bl (if neg then !inD x l else inD x l)) S else .bad
    | _ => .bad)
  | _ => .bad
/-- == of data: none where it is not served -/
def eqD (S : Store) (x y : D) : Option Bool := match pyS S x, pyS S y with
  | some a, some b => if SeqAt.shaped a && SeqAt.shaped b then some (PyData.eqv a b) else none
  | _, _ => none
def opEq (neg : Bool) (x y : D) (S : Store) : Res D := match x, y with
  | .int a, .int b => .ok (.bl (if neg then !decide (a = b) else decide (a = b))) S
  | .str a, .str b => .ok (.bl (if neg then !decide (a = b) else decide (a = b))) S
  | x, y => match eqD S x y with
    | some b => .ok (.bl (if neg then !b else b)) S
    | none => .bad
def opCmp : Cop → D → D → Store → Res D
  | .eq, x, y, S => opEq false x y S
  | .ne, x, y, S => opEq true x y S
  | .lt, .int a, .int b, S => .ok (.bl (decide (a < b))) S
  | .le, .int a, .int b, S => .ok (.bl (decide (a ≤ b))) S
  | .gt, .int a, .int b, S => .ok (.bl (decide (b < a))) S
  | .ge, .int a, .int b, S => .ok (.bl (decide (b ≤ a))) S
  | .isN, .non, .non, S => .ok (.bl true) S
  | .isN, _, .non, S => .ok (.bl false) S
  | .notN, .non, .non, S => .ok (.bl false) S
  | .notN, _, .non, S => .ok (.bl true) S
  | .in_, x, y, S => opIn false x y S
  | .notIn, x, y, S => opIn true x y S
  | _, _, _, _ => .bad
def opAdd : D → D → Store → Res D
  | .int a, .int b, S => .ok (.int (a + b)) S
  | .str a, .str b, S => if a.length + b.length ≤ sizeLine then .ok (.str (a ++ b)) S else .bad
  | .tup a, .tup b, S => if a.length + b.length ≤ sizeLine then .ok (.tup (a ++ b)) S else .bad
  | .ref i, .ref j, S => (match S[i]?, S[j]? with
    | some (.lst a), some (.lst b) => if a.length + b.length ≤ sizeLine then .ok (.ref S.length) (S ++ [.lst (a ++ b)]) else .bad
    | _, _ => .bad)
  | _, _, _ => .bad
def opMul : D → D → Store → Res D
  | .int a, .int b, S => if (-(2 ^ 64) < a ∧ a < 2 ^ 64) ∨ (-(2 ^ 64) < b ∧ b < 2 ^ 64) then .ok (.int (a * b)) S else .bad
  | .tup a, .int k, S => if a.length ≤ 1000 ∧ -1000 ≤ k ∧ k ≤ 1000 then .ok (.tup (List.replicate k.toNat a).flatten) S else .bad
  | .str a, .int k, S => if a.length ≤ 1000 ∧ 2 ≤ k ∧ k ≤ 1000 then .ok (.str (Txt.mul a k)) S else .bad
  | .ref i, .int k, S => (match S[i]? with
    | some (.lst a) => if a.length ≤ 1000 ∧ -1000 ≤ k ∧ k ≤ 1000 then .ok (.ref S.length) (S ++ [.lst (List.replicate k.toNat a).flatten]) else .bad
    | _ => .bad)
  | _, _, _ => .bad
def opBin : Bop → D → D → Store → Res D
  | .add, x, y, S => opAdd x y S
  | .mul, x, y, S => opMul x y S
  | .sub, .int a, .int b, S => .ok (.int (a - b)) S
  | .fdiv, .int a, .int b, S => if 0 < b ∧ b < 1073741824 then .ok (.int (a / b)) S else .bad
  | .mod, .int a, .int b, S => if 0 < b then .ok (.int (a % b)) S else .bad
  | .pow, .int a, .int b, S => if 0 ≤ b ∧ b ≤ 1000000 ∧ a.natAbs < 2 ^ 64 then .ok (.int (a ^ b.toNat)) S else .bad
  | _, _, _, _ => .bad
def opIdx : D → D → Store → Res D
  | .tup l, .int i, S => (match atI l i with
    | some d => .ok d S
    | none => .bad)
  | .fl l, .int i, S => (match atI l i with
    | some d => .ok d S
    | none => .bad)
  | .ref j, .int i, S => (match S[j]? with
    | some (.lst l) => (match atI l i with
      | some d => .ok d S
      | none => .bad)
    | _ => .bad)
  | .str z, .int i, S => if z.length ≤ sizeLine then (match atI z.cps.toList i with
    | some c => .ok (.str ⟨#[c]⟩) S
    | none => .bad) else .bad
  | _, _, _ => .bad
def opIdxL : D → D → Store → Res D
  | .ref j, .int i, S => opIdx (.ref j) (.int i) S
  | _, _, _ => .bad
def cutD (xs : List D) (lo hi : Option Int) : List D := (xs.drop (HT.sIx xs.length 0 lo)).take (HT.sIx xs.length xs.length hi - HT.sIx xs.length 0 lo)
def opSlc : D → Option Int → Option Int → Store → Res D
  | .tup l, lo, hi, S => .ok (.tup (cutD l lo hi)) S
  | .ref j, lo, hi, S => (match S[j]? with
    | some (.lst l) => .ok (.ref S.length) (S ++ [.lst (cutD l lo hi)])
    | _ => .bad)
  | _, _, _, _ => .bad
def opAttr (dat : Nat → Nat → Bool) (d : D) (f : Nat) (S : Store) : Res D := match d with
  | .ref i => (match S[i]? with
    | some (.ins C fs) => (match dat C f, fs.lookup f with
      | true, some v => .ok v S
      | _, _ => .bad)
    | _ => .bad)
  | _ => .bad
def putD (f : Nat) (v : D) : List (Nat × D) → List (Nat × D)
  | [] => [(f, v)]
  | (g, x) :: r => if g = f then (g, v) :: r else (g, x) :: putD f v r
def opSetAttr (dat : Nat → Nat → Bool) (d : D) (f : Nat) (v : D) (S : Store) : Option Store := match d with
  | .ref i => (match S[i]? with
    | some (.ins C fs) => if dat C f = true ∧ fs.length < 1000 then some (S.set i (.ins C (putD f v fs))) else none
    | _ => none)
  | _ => none
def clsAt (d : D) (S : Store) : Option Nat := match d with
  | .ref i => (match S[i]? with
    | some (.ins C _) => some C
    | _ => none)
  | _ => none
def opSetItem (o i v : D) (S : Store) : Option Store := match o, i with
  | .ref j, .int k => (match S[j]? with
    | some (.lst l) => (match ixN l.length k with
      | some n => some (S.set j (.lst (l.set n v)))
      | none => none)
    | _ => none)
  | _, _ => none
def allInts : List D → Option (List Int)
  | [] => some []
  | .int i :: r => (allInts r).map (i :: ·)
  | _ => none
def allBls : List D → Option (List Bool)
  | [] => some []
  | .bl i :: r => (allBls r).map (i :: ·)
  | _ => none
def sumD (l : List D) (S : Store) : Res D := match allInts l with
  | some ns => .ok (.int ns.sum) S
  | none => .bad
def allD (l : List D) (S : Store) : Res D := match allBls l with
  | some bs => .ok (.bl (bs.all id)) S
  | none => .bad
def anyD (l : List D) (S : Store) : Res D := match allBls l with
  | some bs => .ok (.bl (bs.any id)) S
  | none => .bad
def isD (t : BI) (d : D) (S : Store) : Res D := match d with
  | .non => .ok (.bl false) S
  | .bl _ => .ok (.bl (match t with | .isInt => true | .isBool => true | _ => false)) S
  | .int _ => .ok (.bl (match t with | .isInt => true | _ => false)) S
  | .str _ => .ok (.bl (match t with | .isStr => true | _ => false)) S
  | .tup _ => .ok (.bl (match t with | .isTup => true | _ => false)) S
  | _ => .bad
def opBI : BI → List D → Store → Res D
  | .len, [.str z], S => if z.length ≤ sizeLine then .ok (.int z.length) S else .bad
  | .len, [.tup l], S => .ok (.int l.length) S
  | .len, [.fl l], S => .ok (.int l.length) S
  | .len, [.ref i], S => (match S[i]? with
    | some (.lst l) => .ok (.int l.length) S
    | _ => .bad)
  | .abs, [.int i], S => .ok (.int (if i < 0 then -i else i)) S
  | .max2, [.int i, .int j], S => .ok (.int (if j > i then j else i)) S
  | .min2, [.int i, .int j], S => .ok (.int (if j < i then j else i)) S
  | .int1, [.int i], S => .ok (.int i) S
  | .int1, [.bl b], S => .ok (.int (if b then 1 else 0)) S
  | .str1, [.int i], S => if i.natAbs.log2 < 1920 then .ok (.str (toString i)) S else .bad
  | .tuple1, [.tup l], S => .ok (.tup l) S
  | .tuple1, [.ref i], S => (match S[i]? with
    | some (.lst l) => .ok (.tup l) S
    | _ => .bad)
  | .list1, [.tup l], S => .ok (.ref S.length) (S ++ [.lst l])
  | .list1, [.ref i], S => (match S[i]? with
    | some (.lst l) => .ok (.ref S.length) (S ++ [.lst l])
    | _ => .bad)
  | .sum1, [.ref i], S => (match S[i]? with
    | some (.lst l) => sumD l S
    | _ => .bad)
  | .all1, [.ref i], S => (match S[i]? with
    | some (.lst l) => allD l S
    | _ => .bad)
  | .any1, [.ref i], S => (match S[i]? with
    | some (.lst l) => anyD l S
    | _ => .bad)
  | .isInt, [d], S => isD .isInt d S
  | .isBool, [d], S => isD .isBool d S
  | .isTup, [d], S => isD .isTup d S
  | .isStr, [d], S => isD .isStr d S
  | _, _, _ => .bad
def allStrs : List D → Option (List Str)
  | [] => some []
  | .str i :: r => (allStrs r).map (i :: ·)
  | _ => none
def opLF : LF → List D → Store → Res D
  | .tuple, l, S => .ok (.tup l) S
  | .tupleX, l, S => (match allStrs l with
    | some ys => .ok (.tupx ys) S
    | none => .bad)
  | .all, l, S => allD l S
  | .any, l, S => anyD l S
  | .sum, l, S => sumD l S
  | .eqNil, l, S => (match D.pyAll l with
    | some ps => if SeqAt.shaped (.list ps) then .ok (.bl l.isEmpty) S else .bad
    | none => .bad)
  | .neNil, l, S => (match D.pyAll l with
    | some ps => if SeqAt.shaped (.list ps) then .ok (.bl !l.isEmpty) S else .bad
    | none => .bad)
/-- x == [], x != [] -/
def opEqNil (ne : Bool) (x : D) (S : Store) : Res D := match x with
  | .fl l => opLF (if ne then .neNil else .eqNil) l S
  | .ref i => (match S[i]? with
    | some (.lst l) => opLF (if ne then .neNil else .eqNil) l S
    | _ => .bad)
  | .tup l => (match D.pyAll l with
    | some ps => if SeqAt.shaped (.tuple ps) then .ok (.bl ne) S else .bad
    | none => .bad)
  | _ => .bad
def opApp (a x : D) (S : Store) : Res D := match a with
  | .ref i => (match S[i]? with
    | some (.lst l) => if l.length < sizeLine then .ok .non (S.set i (.lst (l ++ [x]))) else .bad
    | _ => .bad)
  | _ => .bad
def opExt (a x : D) (S : Store) : Res D := match a, x with
  | .ref i, .ref j => (match S[i]?, S[j]? with
    | some (.lst l), some (.lst l2) => if l.length + l2.length ≤ sizeLine then .ok .non (S.set i (.lst (l ++ l2))) else .bad
    | _, _ => .bad)
  | _, _ => .bad
def opPop (a x : D) (S : Store) : Res D := match a, x with
  | .ref i, .int k => (match S[i]? with
    | some (.lst l) => (match ixN l.length k with
      | some n => (match l[n]? with
        | some d => .ok d (S.set i (.lst (l.eraseIdx n)))
        | none => .bad)
      | none => .bad)
    | _ => .bad)
  | _, _ => .bad
/-- the first place of x -/
def findS (x : Str) : List Str → Nat → Option Nat
  | [], _ => none
  | y :: r, k => if y = x then some k else findS x r (k + 1)
def opIndex (a x : D) (S : Store) : Res D := match a, x with
  | .tupx ys, .str z => (match findS z ys 0 with
    | some k => .ok (.int (k : Int)) S
    | none => .bad)
  | _, _ => .bad

/-! ### targets -/
mutual
def bindT : CT → D → Ev → Option Ev
  | .nm i, d, ρ => if i < ρ.length then some (ρ.set i (some d)) else none
  | .tp ts, .tup ds, ρ => bindTs ts ds ρ
  | .tp _, _, _ => none
def bindTs : List CT → List D → Ev → Option Ev
  | [], [], ρ => some ρ
  | t :: ts, d :: ds, ρ => (match bindT t d ρ with
    | some ρ' => bindTs ts ds ρ'
    | none => none)
  | _, _, _ => none
end
def wipeD (ρ : Ev) : List Nat → Ev
  | [] => ρ
  | v :: vs => (wipeD ρ vs).set v none
def setAll (ρ : Ev) : List Nat → List D → Ev
  | i :: is, d :: ds => setAll (ρ.set i (some d)) is ds
  | _, _ => ρ

/-! ### what is walked -/
inductive Src where
  | fix (l : List D)
  | ls (i n : Nat)
def Src.len : Src → Nat
  | .fix l => l.length
  | .ls _ n => n
def Src.item (S : Store) : Src → Nat → Option D
  | .fix l, k => l[k]?
  | .ls i n, k => match S[i]? with
    | some (.lst xs) => if xs.length = n then xs[k]? else none
    | _ => none
/-- at the end: the list is as long as it was -/
def Src.fine (S : Store) : Src → Bool
  | .fix _ => true
  | .ls i n => match S[i]? with
    | some (.lst xs) => decide (xs.length = n)
    | _ => false
def enumL : Nat → List D → List D
  | _, [] => []
  | k, d :: r => .tup [.int k, d] :: enumL (k + 1) r
def zip2L : List D → List D → List D
  | a :: r, b :: s => .tup [a, b] :: zip2L r s
  | _, _ => []
def zip3L : List D → List D → List D → List D
  | a :: r, b :: s, c :: t => .tup [a, b, c] :: zip3L r s t
  | _, _, _ => []
/-- the turns of a for -/
def forL (src : Src) (step : D → Ev → Store → Res (Fl × Ev)) : Nat → Nat → Ev → Store → Res (Fl × Ev)
  | 0, _, ρ, S => if src.fine S then .ok (.nx, ρ) S else .bad
  | r + 1, k, ρ, S => match src.item S k with
    | some d => (step d ρ S).bind fun x S' => match x with
      | (.nx, ρ') => forL src step r (k + 1) ρ' S'
      | (.rt d, ρ') => .ok (.rt d, ρ') S'
    | none => .bad
/-- the turns of a comprehension -/
def lcL (src : Src) (step : D → Store → Res (Option D)) : Nat → Nat → List D → Store → Res (List D)
  | 0, _, acc, S => if src.fine S then .ok acc S else .bad
  | r + 1, k, acc, S => match src.item S k with
    | some d => (match step d S with
      | .ok (some y) S' => if acc.length < sizeLine then lcL src step r (k + 1) (acc ++ [y]) S' else .bad
      | .ok none S' => lcL src step r (k + 1) acc S'
      | _ => .bad)
    | none => .bad
/-- the turns of a while -/
def whileL (c : Ev → Store → Res D) (b : Ev → Store → Res (Fl × Ev)) : Nat → Ev → Store → Res (Fl × Ev)
  | 0, _, _ => .bad
  | r + 1, ρ, S => (c ρ S).bind (asB fun t S1 => match t with
    | true => (b ρ S1).bind fun x S' => match x with
      | (.nx, ρ') => whileL c b r ρ' S'
      | (.rt d, ρ') => .ok (.rt d, ρ') S'
    | false => .ok (.nx, ρ) S1)

/-! ### expressions -/
section
variable (tb : Tb) (call : Nat → List D → Store → Res D)
def heardD (tb : Tb) (r : Res D) : Res D := match r with
  | .ok d S => .ok d S
  | .exc c d S => match tb.hw c with
    | some t => .ok (.tup [.str t, d]) S
    | none => .bad
  | .bad => .bad
mutual
def ev : CE → Ev → Store → Res D
  | .var i, ρ, S => (match ρ[i]? with
    | some (some d) => .ok d S
    | _ => .bad)
  | .int i, _, S => .ok (.int i) S
  | .str w, _, S => .ok (.str (tb.w w)) S
  | .bl b, _, S => .ok (.bl b) S
  | .non, _, S => .ok .non S
  | .glob k, _, S => .ok (tb.glob k) S
  | .bin op a b, ρ, S => (ev a ρ S).bind fun x S1 => (ev b ρ S1).bind fun y S2 => opBin op x y S2
  | .neg a, ρ, S => (ev a ρ S).bind fun x S1 => (match x with
    | .int i => .ok (.int (-i)) S1
    | _ => .bad)
  | .cmp op a b, ρ, S => (ev a ρ S).bind fun x S1 => (ev b ρ S1).bind fun y S2 => opCmp op x y S2
  | .chain o1 o2 a b c, ρ, S => (ev a ρ S).bind fun x S1 => (ev b ρ S1).bind fun y S2 => (opCmp o1 x y S2).bind (asB fun t S3 => match t with
    | true => (ev c ρ S3).bind fun z S4 => opCmp o2 y z S4
    | false => .ok (.bl false) S3)
  | .eqNil ne a, ρ, S => (ev a ρ S).bind fun x S1 => opEqNil ne x S1
  | .and l, ρ, S => evAnd l ρ S
  | .or l, ρ, S => evOr l ρ S
  | .not a, ρ, S => (ev a ρ S).bind (asB fun t S1 => .ok (.bl !t) S1)
  | .ite c a b, ρ, S => (ev c ρ S).bind (asB fun t S1 => match t with
    | true => ev a ρ S1
    | false => ev b ρ S1)
  | .tup l, ρ, S => (evs l ρ S).bind fun xs S1 => if xs.length ≤ sizeLine then .ok (.tup xs) S1 else .bad
  | .lst l, ρ, S => (evs l ρ S).bind fun xs S1 => if xs.length ≤ sizeLine then .ok (.ref S1.length) (S1 ++ [.lst xs]) else .bad
  | .idx a i, ρ, S => (ev a ρ S).bind fun x S1 => (ev i ρ S1).bind fun y S2 => opIdx x y S2
  | .slc a lo hi, ρ, S => (ev a ρ S).bind fun x S1 => (evO lo ρ S1).bind fun l S2 => (evO hi ρ S2).bind fun h S3 => opSlc x l h S3
  | .attr a f, ρ, S => (ev a ρ S).bind fun x S1 => opAttr tb.dat x f S1
  | .call k l, ρ, S => (evs l ρ S).bind fun xs S1 => call k xs S1
  | .make c l, ρ, S => (evs l ρ S).bind fun xs S1 => (call (tb.init c) (.ref S1.length :: xs) (S1 ++ [.ins c []])).bind fun r S2 => (match r with
    | .non => .ok (.ref S1.length) S2
    | _ => .bad)
  | .meth a f l, ρ, S => (ev a ρ S).bind fun x S1 => (match x with
    | .ref i => (match S1[i]? with
      | some (.ins C fs) => (match fs.lookup f, tb.meth C f with
        | none, some k => (evs l ρ S1).bind fun xs S2 => call k (.ref i :: xs) S2
        | _, _ => .bad)
      | _ => .bad)
    | _ => .bad)
  | .bi b l, ρ, S => (evs l ρ S).bind fun xs S1 => opBI b xs S1
  | .app a x, ρ, S => (ev a ρ S).bind fun y S1 => (match y with
    | .ref i => (match S1[i]? with
      | some (.lst _) => (ev x ρ S1).bind fun z S2 => opApp (.ref i) z S2
      | _ => .bad)
    | _ => .bad)
  | .ext a x, ρ, S => (ev a ρ S).bind fun y S1 => (match y with
    | .ref i => (match S1[i]? with
      | some (.lst _) => (ev x ρ S1).bind fun z S2 => opExt (.ref i) z S2
      | _ => .bad)
    | _ => .bad)
  | .pop a x, ρ, S => (ev a ρ S).bind fun y S1 => (match y with
    | .ref i => (match S1[i]? with
      | some (.lst _) => (ev x ρ S1).bind fun z S2 => opPop (.ref i) z S2
      | _ => .bad)
    | _ => .bad)
  | .index a x, ρ, S => (ev a ρ S).bind fun y S1 => (match y with
    | .tupx l => (ev x ρ S1).bind fun z S2 => opIndex (.tupx l) z S2
    | _ => .bad)
  | .lc elt t it cond own, ρ, S => ((evI it ρ S).bind fun src S1 => lcL src (fun d S2 => match bindT t d (wipeD ρ own) with
    | some ρ' => (evC cond ρ' S2).bind fun b S3 => (match b with
      | true => (ev elt ρ' S3).bind fun y S4 => .ok (some y) S4
      | false => .ok none S3)
    | none => .bad) src.len 0 [] S1).bind fun xs S5 => .ok (.ref S5.length) (S5 ++ [.lst xs])
  | .lcf k elt t it cond own, ρ, S => ((evI it ρ S).bind fun src S1 => lcL src (fun d S2 => match bindT t d (wipeD ρ own) with
    | some ρ' => (evC cond ρ' S2).bind fun b S3 => (match b with
      | true => (ev elt ρ' S3).bind fun y S4 => .ok (some y) S4
      | false => .ok none S3)
    | none => .bad) src.len 0 [] S1).bind fun xs S5 => opLF k xs S5
  | .heard e, ρ, S => heardD tb (ev e ρ S)
def evs : CEs → Ev → Store → Res (List D)
  | .nil, _, S => .ok [] S
  | .cons e r, ρ, S => (ev e ρ S).bind fun x S1 => (evs r ρ S1).bind fun xs S2 => .ok (x :: xs) S2
def evAnd : CEs → Ev → Store → Res D
  | .nil, _, _ => .bad
  | .cons e r, ρ, S => (match r with
    | .nil => ev e ρ S
    | .cons _ _ => (ev e ρ S).bind (asB fun t S1 => match t with
      | true => evAnd r ρ S1
      | false => .ok (.bl false) S1))
def evOr : CEs → Ev → Store → Res D
  | .nil, _, _ => .bad
  | .cons e r, ρ, S => (match r with
    | .nil => ev e ρ S
    | .cons _ _ => (ev e ρ S).bind (asB fun t S1 => match t with
      | true => .ok (.bl true) S1
      | false => evOr r ρ S1))
def evO : CO → Ev → Store → Res (Option Int)
  | .no, _, S => .ok none S
  | .yes e, ρ, S => (ev e ρ S).bind fun x S1 => (match x with
    | .int i => .ok (some i) S1
    | _ => .bad)
def evC : CO → Ev → Store → Res Bool
  | .no, _, S => .ok true S
  | .yes e, ρ, S => (ev e ρ S).bind (asB fun t S1 => .ok t S1)
def evI : CI → Ev → Store → Res Src
  | .of e, ρ, S => (ev e ρ S).bind fun x S1 => (match x with
    | .tup l => .ok (.fix l) S1
    | .str z => .ok (.fix (z.cps.toList.map fun c => .str ⟨#[c]⟩)) S1
    | .ref i => (match S1[i]? with
      | some (.lst l) => .ok (.ls i l.length) S1
      | _ => .bad)
    | _ => .bad)
  | .range e, ρ, S => (ev e ρ S).bind fun x S1 => (match x with
    | .int n => if -(2 ^ 62) ≤ n ∧ n < 2 ^ 62 then .ok (.fix ((List.range n.toNat).map fun (k : Nat) => .int (k : Int))) S1 else .bad
    | _ => .bad)
  | .enum e, ρ, S => (ev e ρ S).bind fun x S1 => (match x with
    | .tup l => .ok (.fix (enumL 0 l)) S1
    | _ => .bad)
  | .zip2 a b, ρ, S => (ev a ρ S).bind fun x S1 => (ev b ρ S1).bind fun y S2 => (match x, y with
    | .tup l, .tup k => .ok (.fix (zip2L l k)) S2
    | _, _ => .bad)
  | .zip3 a b c, ρ, S => (ev a ρ S).bind fun x S1 => (ev b ρ S1).bind fun y S2 => (ev c ρ S2).bind fun z S3 => (match x, y, z with
    | .tup l, .tup k, .tup j => .ok (.fix (zip3L l k j)) S3
    | _, _, _ => .bad)
  | .enumZip a b, ρ, S => (ev a ρ S).bind fun x S1 => (ev b ρ S1).bind fun y S2 => (match x, y with
    | .tup l, .tup k => .ok (.fix (enumL 0 (zip2L l k))) S2
    | _, _ => .bad)
end
/-! ### statements -/
mutual
def ex : CS → Ev → Store → Res (Fl × Ev)
  | .asg i e, ρ, S => (ev tb call e ρ S).bind fun x S1 => if i < ρ.length then .ok (.nx, ρ.set i (some x)) S1 else .bad
  | .asgLc i elt t it cond own, ρ, S => (ev tb call (.lc elt t it cond own) ρ S).bind fun x S1 => if i < ρ.length then .ok (.nx, ρ.set i (some x)) S1 else .bad
  | .asgT t e, ρ, S => (ev tb call e ρ S).bind fun x S1 => (match bindT t x ρ with
    | some ρ' => .ok (.nx, ρ') S1
    | none => .bad)
  | .par is l, ρ, S => (evs tb call l ρ S).bind fun xs S1 => if xs.length = is.length ∧ is.all (fun i => decide (i < ρ.length)) then .ok (.nx, setAll ρ is xs) S1 else .bad
  | .attr a f e, ρ, S => (ev tb call e ρ S).bind fun x S1 => (ev tb call a ρ S1).bind fun o S2 => (match opSetAttr tb.dat o f x S2 with
    | some S3 => .ok (.nx, ρ) S3
    | none => .bad)
  | .attr2 a f h e, ρ, S => (ev tb call e ρ S).bind fun x S1 => (match x with
    | .tup [u, v] => (ev tb call a ρ S1).bind fun o S2 => (match opSetAttr tb.dat o f u S2 with
      | some S3 => (ev tb call a ρ S3).bind fun o2 S4 => (match opSetAttr tb.dat o2 h v S4 with
        | some S5 => .ok (.nx, ρ) S5
        | none => .bad)
      | none => .bad)
    | _ => .bad)
  | .item a i e, ρ, S => (ev tb call e ρ S).bind fun x S1 => (ev tb call a ρ S1).bind fun o S2 => (ev tb call i ρ S2).bind fun k S3 => (match opSetItem o k x S3 with
    | some S4 => .ok (.nx, ρ) S4
    | none => .bad)
  | .augItem a i e, ρ, S => (ev tb call a ρ S).bind fun o S1 => (ev tb call i ρ S1).bind fun k S2 => (opIdxL o k S2).bind fun x S3 => (match x with
    | .int p => (ev tb call e ρ S3).bind fun y S4 => (match y with
      | .int q => (match opSetItem o k (.int (p + q)) S4 with
        | some S5 => .ok (.nx, ρ) S5
        | none => .bad)
      | _ => .bad)
    | _ => .bad)
  | .augAttr a f e, ρ, S => (ev tb call a ρ S).bind fun o S1 => (opAttr tb.dat o f S1).bind fun x S2 => (match x with
    | .int p => (ev tb call e ρ S2).bind fun y S3 => (match y with
      | .int q => (match decide (clsAt o S1 = clsAt o S3), opSetAttr tb.dat o f (.int (p + q)) S3 with
        | true, some S4 => .ok (.nx, ρ) S4
        | _, _ => .bad)
      | _ => .bad)
    | _ => .bad)
  | .expr e, ρ, S => (ev tb call e ρ S).bind fun _ S1 => .ok (.nx, ρ) S1
  | .ret e, ρ, S => (ev tb call e ρ S).bind fun x S1 => .ok (.rt x, ρ) S1
  | .ite c a b, ρ, S => (ev tb call c ρ S).bind (asB fun t S1 => match t with
    | true => exs a ρ S1
    | false => exs b ρ S1)
  | .for_ t it b, ρ, S => (evI tb call it ρ S).bind fun src S1 => forL src (fun d ρ1 S2 => match bindT t d ρ1 with
    | some ρ' => exs b ρ' S2
    | none => .bad) src.len 0 ρ S1
  | .while_ n c b, ρ, S => whileL (ev tb call c) (exs b) n ρ S
  | .raise c e, ρ, S => (ev tb call e ρ S).bind fun x S1 => .exc c x S1
def exs : CB → Ev → Store → Res (Fl × Ev)
  | .nil, ρ, S => .ok (.nx, ρ) S
  | .cons s r, ρ, S => (ex s ρ S).bind fun x S1 => match x with
    | (.nx, ρ') => exs r ρ' S1
    | (.rt d, ρ') => .ok (.rt d, ρ') S1
end
/-- a def's call: n names -/
def runF (n : Nat) (b : CB) (args : List D) (S : Store) : Res D := (exs tb call b (args.map some ++ List.replicate (n - args.length) none) S).bind fun x S1 => match x with
  | (.nx, _) => .ok .non S1
  | (.rt d, _) => .ok d S1
end
end K76
set_option Elab.async false
set_option linter.all false
set_option maxRecDepth 100000
set_option maxHeartbeats 4000000
/-! K4a: tuple * 1, tuple * 0; text * int; walks over enumerate, zip .. of tuples -/
namespace K76
open PySem PySem.Spec PyProof.Rows L2
section
theorem tuple_mul_same (l : Addr) (items : Array Value) (n : Nat) (dd : Option Addr) (sl : Array (Option Value)) (u : Tok) :
    Meets (Builtin.«tuple.__mul__» ⟨[.ref l, .int 1 u], []⟩) (fun _ R s => s.heap.get? l = some { cls := .type "tuple", dict := dd, data := .seq items n, slots := sl } ∧ R (.ok (.ret (Value.ref l))) s) :=
  .of_wp fun prog w A R s h => by
    obtain ⟨hp, g, d, tk, os⟩ := s
    obtain ⟨hl, h⟩ := h
    have f1 := AutoSeq1.idx_int
    have c1 : (items.isEmpty || ((1 : Int) == 1)) = true := by simp
    wp_walk using wpAny_loadPart' hl
    repeat (first
      | (refine wpAny_ite_false (by decide) ?_; wp_walk using wpAny_loadPart' hl)
      | (refine wpAny_ite_true (by rw [c1]) ?_; wp_walk using wpAny_loadPart' hl))
    exact ⟨_, rfl, h⟩
theorem tuple_mul_empty (l : Addr) (n : Nat) (dd : Option Addr) (sl : Array (Option Value)) (x : Int) (u : Tok) (c0 : (decide (x < -(2 ^ 63)) || decide (x ≥ 2 ^ 63)) = false) :
    Meets (Builtin.«tuple.__mul__» ⟨[.ref l, .int x u], []⟩) (fun _ R s => s.heap.get? l = some { cls := .type "tuple", dict := dd, data := .seq (([] : List Value).toArray) n, slots := sl } ∧ R (.ok (.ret (Value.ref l))) s) :=
  .of_wp fun prog w A R s h => by
    obtain ⟨hp, g, d, tk, os⟩ := s
    obtain ⟨hl, h⟩ := h
    have f1 := AutoSeq1.idx_int
    have c1 : ((([] : List Value).toArray).isEmpty || (x == 1)) = true := by simp
    wp_walk using wpAny_loadPart' hl
    repeat (first
      | (refine wpAny_ite_false (decide_eq_false (by rw [c0]; exact Bool.false_ne_true)) ?_; wp_walk using wpAny_loadPart' hl)
      | (refine wpAny_ite_true (by rw [c1]) ?_; wp_walk using wpAny_loadPart' hl))
    exact ⟨_, rfl, h⟩
theorem tuple_mul_none (l : Addr) (items : Array Value) (n : Nat) (dd : Option Addr) (sl : Array (Option Value)) (x : Int) (u : Tok) (c0 : (decide (x < -(2 ^ 63)) || decide (x ≥ 2 ^ 63)) = false) (hi : items.isEmpty = false) (hx : x ≤ 0) :
    Meets (Builtin.«tuple.__mul__» ⟨[.ref l, .int x u], []⟩) (fun _ R s => s.heap.get? l = some { cls := .type "tuple", dict := dd, data := .seq items n, slots := sl } ∧
      R (.ok (.ret (Value.ref s.heap.objs.size))) { s with heap := s.heap.push { cls := Value.type "tuple", data := Data.seq #[] }, toks := s.toks }) :=
  .of_wp fun prog w A R s h => by
    obtain ⟨hp, g, d, tk, os⟩ := s
    obtain ⟨hl, h⟩ := h
    have f1 := AutoSeq1.idx_int
    have c1 : (items.isEmpty || x == 1) = false := by
      rw [hi, Bool.false_or]
      exact beq_eq_false_iff_ne.mpr (by omega)
    have c2 : (decide (x ≤ 0) || items.isEmpty) = true := by rw [decide_eq_true hx]; rfl
    wp_walk using wpAny_loadPart' hl
    repeat (first
      | (refine wpAny_ite_false (decide_eq_false (by rw [c0]; exact Bool.false_ne_true)) ?_; wp_walk using wpAny_loadPart' hl)
      | (refine wpAny_ite_false (decide_eq_false (by rw [c1]; exact Bool.false_ne_true)) ?_; wp_walk using wpAny_loadPart' hl)
      | (refine wpAny_ite_true (by rw [c2]) ?_; wp_walk using wpAny_loadPart' hl))
    exact ⟨_, rfl, h⟩
end
end K76
set_option Elab.async false
set_option linter.all false
set_option maxRecDepth 100000
set_option maxHeartbeats 4000000
/-! K4b: operators, subscripts, built-in calls by values -/
namespace K76
open PySem PySem.Spec PyProof.Rows L2
/-! ### tuple * int of any size, text * int -/
section
variable {X : Cx}
def rRepA (K : PySem.W.Frag) : R2 := fun x y H Q => ∃ l k xs, x = .ref l ∧ y = .int k ∧ SqT K H l xs ∧ xs.length ≤ 1000 ∧ -1000 ≤ k ∧ k ≤ 1000 ∧ (xs = [] ∨ k = 1 → Q (.ref l) H) ∧ (xs ≠ [] → k ≠ 1 → ∀ p, H p = none → Q (.ref p) (upd H p (.tup (List.replicate k.toNat xs).flatten)))
theorem op_repA : OpR X (binaryOp .Mult) (rRepA X.K) := by
  intro pins s σ H x y v u Q I rx ry h
  obtain ⟨l, k, xs, rfl, rfl, hT, hz, h1, h2, q1, q2⟩ := h
  by_cases hx : xs = []
  · subst hx
    cases rx
    obtain ⟨t, rfl⟩ := ry
    obtain ⟨its, r, ⟨⟨cls, dd, data, sl⟩, ho, hc, n, hd⟩, hs⟩ := I.tuple hT
    simp only at hc hd
    subst hc hd
    cases r
    refine wpAny_binaryOp_repeat_ref (T := "tuple") (U := "int") (by decide) ⟨_, ho, rfl⟩ (fun s' => typeIs_int s' k t) noFill_tuple_mul F.fills_int_mul F.slot_int_rmul repeat_tuple F.slot_int_index.lookup
      (call_meets F.slot_int_rmul (typeIs_int s k t) F.entry_int_rmul (F.args_int_rmul_2 _ _) (int_rmul_tuple k t l (([] : List Value).toArray) n dd sl)
        ⟨ho, rfl, ⟨_, ho, rfl⟩, call_meets F.slot_tuple_mul ⟨_, ho, rfl⟩ F.entry_tuple_mul (F.args_tuple_mul_2 _ _) (tuple_mul_empty l n dd sl k t (by
          rw [decide_eq_false (by omega), decide_eq_false (by omega)] <;> rfl)) ⟨ho, ?_⟩⟩)
    exact ⟨.ref l, H, I, rfl, q1 (.inl rfl)⟩
  · by_cases hk : k = 1
    · subst hk
      cases rx
      obtain ⟨t, rfl⟩ := ry
      obtain ⟨its, r, ⟨⟨cls, dd, data, sl⟩, ho, hc, n, hd⟩, hs⟩ := I.tuple hT
      simp only at hc hd
      subst hc hd
      refine wpAny_binaryOp_repeat_ref (T := "tuple") (U := "int") (by decide) ⟨_, ho, rfl⟩ (fun s' => typeIs_int s' 1 t) noFill_tuple_mul F.fills_int_mul F.slot_int_rmul repeat_tuple F.slot_int_index.lookup
        (call_meets F.slot_int_rmul (typeIs_int s 1 t) F.entry_int_rmul (F.args_int_rmul_2 _ _) (int_rmul_tuple 1 t l its.toArray n dd sl)
          ⟨ho, rfl, ⟨_, ho, rfl⟩, call_meets F.slot_tuple_mul ⟨_, ho, rfl⟩ F.entry_tuple_mul (F.args_tuple_mul_2 _ _) (tuple_mul_same l its.toArray n dd sl t) ⟨ho, ?_⟩⟩)
      exact ⟨.ref l, H, I, rfl, q1 (.inr rfl)⟩
    · by_cases h0 : k ≤ 0
      · have hq := q2 hx hk
        cases rx
        obtain ⟨t, rfl⟩ := ry
        obtain ⟨its, r, ⟨⟨cls, dd, data, sl⟩, ho, hc, n, hd⟩, hs⟩ := I.tuple hT
        simp only at hc hd
        subst hc hd
        have hi : its.toArray.isEmpty = false := by
          cases r with
          | nil => exact absurd rfl hx
          | cons _ _ => rfl
        refine wpAny_binaryOp_repeat_ref (T := "tuple") (U := "int") (by decide) ⟨_, ho, rfl⟩ (fun s' => typeIs_int s' k t) noFill_tuple_mul F.fills_int_mul F.slot_int_rmul repeat_tuple F.slot_int_index.lookup
          (call_meets F.slot_int_rmul (typeIs_int s k t) F.entry_int_rmul (F.args_int_rmul_2 _ _) (int_rmul_tuple k t l its.toArray n dd sl)
            ⟨ho, rfl, ⟨_, ho, rfl⟩, call_meets F.slot_tuple_mul ⟨_, ho, rfl⟩ F.entry_tuple_mul (F.args_tuple_mul_2 _ _) (tuple_mul_none l its.toArray n dd sl k t (by
              rw [decide_eq_false (by omega), decide_eq_false (by omega)] <;> rfl) hi h0) ⟨ho, ?_⟩⟩)
        have e0 : k.toNat = 0 := by omega
        rw [e0] at hq
        refine ⟨.ref s.heap.objs.size, _, I.laid (t' := s.toks) (o := .tup []) (fun b ob q => Heap.get?_push_of_some _ q) (Nat.le_refl _) ?_, rfl, hq _ (I.hok.fresh (Nat.le_refl _))⟩
        exact ⟨Nat.zero_le _, [], .nil, ⟨_, Heap.get?_push_size _ rfl, rfl, _, rfl⟩⟩
      · exact op_repT pins s σ H _ _ v u Q I rx ry ⟨l, k, xs, rfl, rfl, hT, hx, by omega, h2, hz, q2 hx hk⟩
def rRepS : R2 := fun x y H Q => ∃ z k, x = .str z ∧ y = .int k ∧ z.length ≤ 1000 ∧ 2 ≤ k ∧ k ≤ 1000 ∧ Q (.str (Txt.mul z k)) H
theorem op_repS : OpR X (binaryOp .Mult) rRepS := by
  intro pins s σ H x y v u Q I rx ry h
  obtain ⟨z, k, rfl, rfl, hz, h1, h2, q⟩ := h
  obtain ⟨t, rfl⟩ := rx
  obtain ⟨t', rfl⟩ := ry
  refine SB.mul ⟨?_, fun _ _ => ?_, fun _ _ => ?_⟩ fun t2 tk => ⟨.str _, H, I.tok _, ⟨_, rfl⟩, q⟩
  · rw [decide_eq_false (by omega), decide_eq_false (by omega)] <;> rfl
  · have a1 : (z.length : Int) ≤ (2 ^ 63 - 1) / k := by
      rw [Int.le_ediv_iff_mul_le (by omega)]
      have a2 : (z.length : Int) * k ≤ 1000 * k := Int.mul_le_mul_of_nonneg_right (by omega) (by omega)
      omega
    omega
  · have a1 : z.length * k.toNat ≤ 1000 * 1000 := Nat.mul_le_mul hz (by omega)
    show decide (z.length * k.toNat > sizeLine) = false
    rw [decide_eq_false_iff_not, sizeLine_eq]
    omega
end
/-! ### operators on values of ours -/
def rV (g : G) (E : XK) (f : D → D → Store → Res D) : R2 := fun x y H Q => ∃ m S a b, SR g m S H ∧ Rep g.K m H a x ∧ Rep g.K m H b y ∧ ResOk g E m H (f a b S) Q
section
variable {X : Cx} {g : G} {E : XK}
theorem reps_nil_iff {K : PySem.W.Frag} {m : List Addr} {H : Hp} {ds : List D} {vs : List V} (r : Reps K m H ds vs) : vs = [] ↔ ds = [] := by
  have e := r.length
  constructor
  · intro h
    rw [h] at e
    exact List.eq_nil_of_length_eq_zero e.symm
  · intro h
    rw [h] at e
    exact List.eq_nil_of_length_eq_zero e
theorem opr_add (hK : X.K = g.K) : OpR X (binaryOp .Add) (rV g E opAdd) := by
  intro pins s σ H x y v u Q I rx ry h
  obtain ⟨m, S, a, b, sr, ra, rb, h⟩ := h
  cases a with
  | int i =>
    cases b with
    | int j =>
      obtain rfl := rep_int ra
      obtain rfl := rep_int rb
      exact op_add pins s σ H _ _ v u Q I rx ry ⟨i, j, rfl, rfl, okVal sr (mk_int _) h⟩
    | _ => exact (show False from h).elim
  | str i =>
    cases b with
    | str j =>
      obtain rfl := rep_str ra
      obtain rfl := rep_str rb
      simp only [opAdd] at h
      split at h
      · rename_i hz
        exact op_add_str pins s σ H _ _ v u Q I rx ry ⟨i, j, rfl, rfl, hz, okVal sr (mk_str _) h⟩
      · exact (show False from h).elim
    | _ => exact (show False from h).elim
  | tup l =>
    cases b with
    | tup k =>
      obtain ⟨p, vs, rfl, hp, rp⟩ := rep_tup ra
      obtain ⟨q, ws, rfl, hq, rq⟩ := rep_tup rb
      simp only [opAdd] at h
      split at h
      · rename_i hz
        refine op_catA pins s σ H _ _ v u Q I rx ry ⟨p, q, vs, ws, rfl, rfl, by rw [hK]; exact hp, by rw [hK]; exact hq, by rw [rp.length, rq.length]; exact hz, fun e => ?_, fun e1 e2 => ?_, fun e1 e2 t ht => ?_⟩
        · have e' := (reps_nil_iff rp).mp e
          subst e'
          exact okVal sr rb h
        · have e' := (reps_nil_iff rq).mp e2
          subst e'
          rw [List.append_nil] at h
          exact okVal sr ra h
        · exact okTup sr (rp.append rq) h ht
      · exact (show False from h).elim
    | _ => exact (show False from h).elim
  | ref i =>
    cases b with
    | ref j =>
      simp only [opAdd] at h
      cases e1 : S[i]? with
      | none => rw [e1] at h; exact (show False from h).elim
      | some o1 =>
        cases e2 : S[j]? with
        | none => rw [e1, e2] at h; cases o1 <;> exact (show False from h).elim
        | some o2 =>
          rw [e1, e2] at h
          cases o1 with
          | ins C fs => exact (show False from h).elim
          | lst l =>
            cases o2 with
            | ins C fs => exact (show False from h).elim
            | lst k =>
              simp only at h
              obtain ⟨p, vs, rfl, _, hp, rp⟩ := ref_lst sr ra e1
              obtain ⟨q, ws, rfl, _, hq, rq⟩ := ref_lst sr rb e2
              split at h
              · rename_i hz
                exact op_cat pins s σ H _ _ v u Q I rx ry ⟨p, q, vs, ws, rfl, rfl, hp, hq, by rw [rp.length, rq.length]; exact hz, fun t ht => okLst sr (rp.append rq) h ht⟩
              · exact (show False from h).elim
    | _ => exact (show False from h).elim
  | _ => exact (show False from h).elim
theorem opr_mul (hK : X.K = g.K) : OpR X (binaryOp .Mult) (rV g E opMul) := by
  intro pins s σ H x y v u Q I rx ry h
  obtain ⟨m, S, a, b, sr, ra, rb, h⟩ := h
  cases a with
  | int i =>
    cases b with
    | int j =>
      obtain rfl := rep_int ra
      obtain rfl := rep_int rb
      simp only [opMul] at h
      split at h
      · rename_i hz
        exact op_mul pins s σ H _ _ v u Q I rx ry ⟨i, j, rfl, rfl, hz, okVal sr (mk_int _) h⟩
      · exact (show False from h).elim
    | _ => exact (show False from h).elim
  | str i =>
    cases b with
    | int j =>
      obtain rfl := rep_str ra
      obtain rfl := rep_int rb
      simp only [opMul] at h
      split at h
      · rename_i hz
        exact op_repS pins s σ H _ _ v u Q I rx ry ⟨i, j, rfl, rfl, hz.1, hz.2.1, hz.2.2, okVal sr (mk_str _) h⟩
      · exact (show False from h).elim
    | _ => exact (show False from h).elim
  | tup l =>
    cases b with
    | int k =>
      obtain ⟨p, vs, rfl, hp, rp⟩ := rep_tup ra
      obtain rfl := rep_int rb
      simp only [opMul] at h
      split at h
      · rename_i hz
        refine op_repA pins s σ H _ _ v u Q I rx ry ⟨p, k, vs, rfl, rfl, by rw [hK]; exact hp, by rw [rp.length]; exact hz.1, hz.2.1, hz.2.2, fun e => ?_, fun e1 e2 t ht => okTup sr (rp.rep _) h ht⟩
        rcases e with e | e
        · have e' := (reps_nil_iff rp).mp e
          subst e'
          rw [show (List.replicate k.toNat ([] : List D)).flatten = [] by simp] at h
          exact okVal sr ra h
        · subst e
          rw [show (List.replicate (1 : Int).toNat l).flatten = l by simp] at h
          exact okVal sr ra h
      · exact (show False from h).elim
    | _ => exact (show False from h).elim
  | ref i =>
    cases b with
    | int k =>
      obtain rfl := rep_int rb
      simp only [opMul] at h
      cases e1 : S[i]? with
      | none => rw [e1] at h; exact (show False from h).elim
      | some o1 =>
        rw [e1] at h
        cases o1 with
        | ins C fs => exact (show False from h).elim
        | lst l =>
          simp only at h
          obtain ⟨p, vs, rfl, _, hp, rp⟩ := ref_lst sr ra e1
          split at h
          · rename_i hz
            refine op_rep pins s σ H _ _ v u Q I rx ry ⟨p, k, vs, rfl, rfl, hp, by omega, by omega, ?_, fun t ht => okLst sr (rp.rep _) h ht⟩
            rw [rp.length, sizeLine_eq]
            have a1 : l.length * k.toNat ≤ 1000 * 1000 := Nat.mul_le_mul hz.1 (by omega)
            omega
          · exact (show False from h).elim
    | _ => exact (show False from h).elim
  | _ => exact (show False from h).elim
/-- an operator that serves ints alone -/
theorem opr_ints {f : Value → Value → Sem Value} {r : R2} {h : D → D → Store → Res D} (ho : OpR X f r) (c : ∀ m S H i j Q, SR g m S H → ResOk g E m H (h (.int i) (.int j) S) Q → r (.int i) (.int j) H Q)
    (no : ∀ a b S, (∀ i j, ¬ (a = .int i ∧ b = .int j)) → h a b S = .bad) : OpR X f (rV g E h) := by
  intro pins s σ H x y v u Q I rx ry q
  obtain ⟨m, S, a, b, sr, ra, rb, q⟩ := q
  by_cases z : ∃ i j, a = .int i ∧ b = .int j
  · obtain ⟨i, j, rfl, rfl⟩ := z
    obtain rfl := rep_int ra
    obtain rfl := rep_int rb
    exact ho pins s σ H _ _ v u Q I rx ry (c m S H i j Q sr q)
  · rw [no a b S fun i j e => z ⟨i, j, e⟩] at q
    exact (show False from q).elim
theorem notInts {α : Type} {F : Int → Int → α} {d : α} (a b : D) (h : ∀ i j, ¬ (a = .int i ∧ b = .int j)) : (match a, b with | .int i, .int j => F i j | _, _ => d) = d := by
  cases a with
  | int i =>
    cases b with
    | int j => exact absurd ⟨rfl, rfl⟩ (h i j)
    | _ => rfl
  | _ => rfl
def opOf : Bop → Operator
  | .add => .Add
  | .sub => .Sub
  | .mul => .Mult
  | .fdiv => .FloorDiv
  | .mod => .Mod
  | .pow => .Pow
theorem opr_bin (hK : X.K = g.K) (op : Bop) : OpR X (binaryOp (opOf op)) (rV g E (opBin op)) := by
  cases op with
  | add => exact opr_add hK
  | mul => exact opr_mul hK
  | sub =>
    refine opr_ints op_sub (fun m S H i j Q sr q => ⟨i, j, rfl, rfl, okVal sr (mk_int _) q⟩) fun a b S h => ?_
    cases a <;> cases b <;> first | rfl | exact absurd ⟨rfl, rfl⟩ (h _ _)
  | fdiv =>
    refine opr_ints op_fdiv (fun m S H i j Q sr q => ?_) fun a b S h => ?_
    · simp only [opBin] at q
      split at q
      · rename_i hz
        exact ⟨i, j, rfl, rfl, hz, okVal sr (mk_int _) q⟩
      · exact (show False from q).elim
    · cases a <;> cases b <;> first | rfl | exact absurd ⟨rfl, rfl⟩ (h _ _)
  | mod =>
    refine opr_ints op_mod (fun m S H i j Q sr q => ?_) fun a b S h => ?_
    · simp only [opBin] at q
      split at q
      · rename_i hz
        exact ⟨i, j, rfl, rfl, hz, okVal sr (mk_int _) q⟩
      · exact (show False from q).elim
    · cases a <;> cases b <;> first | rfl | exact absurd ⟨rfl, rfl⟩ (h _ _)
  | pow =>
    refine opr_ints op_pow (fun m S H i j Q sr q => ?_) fun a b S h => ?_
    · simp only [opBin] at q
      split at q
      · rename_i hz
        exact ⟨i, j, rfl, rfl, hz, okVal sr (mk_int _) q⟩
      · exact (show False from q).elim
    · cases a <;> cases b <;> first | rfl | exact absurd ⟨rfl, rfl⟩ (h _ _)
end
/-! ### comparisons -/
section
variable {X : Cx} {g : G} {E : XK} {m : List Addr} {S : Store} {H : Hp}
mutual
theorem dp_of {K : PySem.W.Frag} : ∀ (d : D) (v : V) (p : PyData), Rep K m H d v → d.py = some p → Dp K H v p
  | .non, v, p, r, e => by
    unfold Rep at r
    subst r
    simp only [D.py, Option.some.injEq] at e
    subst e
    exact .non
  | .bl b, v, p, r, e => by
    unfold Rep at r
    subst r
    simp only [D.py, Option.some.injEq] at e
    subst e
    exact .bl b
  | .int b, v, p, r, e => by
    unfold Rep at r
    subst r
    simp only [D.py, Option.some.injEq] at e
    subst e
    exact .int b
  | .str b, v, p, r, e => by
    unfold Rep at r
    subst r
    simp only [D.py, Option.some.injEq] at e
    subst e
    exact .str b
  | .tup l, v, p, r, e => by
    unfold Rep at r
    obtain ⟨a, vs, rfl, hq, rs⟩ := r
    simp only [D.py, Option.map_eq_some_iff] at e
    obtain ⟨ps, e1, rfl⟩ := e
    exact .tup hq (dpAll_of l vs ps rs e1)
  | .fl l, v, p, r, e => by
    unfold Rep at r
    obtain ⟨a, vs, rfl, hq, rs⟩ := r
    simp only [D.py, Option.map_eq_some_iff] at e
    obtain ⟨ps, e1, rfl⟩ := e
    refine .lst (xs := vs) ?_ (dpAll_of l vs ps rs e1)
    rcases hq with ⟨o, q⟩ | q
    · exact .inl (.inr ⟨o, q⟩)
    · exact .inr q
  | .tupx l, v, p, r, e => by
    simp only [D.py] at e
    cases e
  | .ref i, v, p, r, e => by
    simp only [D.py] at e
    cases e
theorem dpAll_of {K : PySem.W.Frag} : ∀ (ds : List D) (vs : List V) (ps : List PyData), Reps K m H ds vs → D.pyAll ds = some ps → DpAll K H vs ps
  | [], vs, ps, r, e => by
    unfold Reps at r
    subst r
    simp only [D.pyAll, Option.some.injEq] at e
    subst e
    exact .nil
  | d :: ds, vs, ps, r, e => by
    unfold Reps at r
    obtain ⟨v, ws, rfl, r1, r2⟩ := r
    simp only [D.pyAll] at e
    cases e1 : d.py with
    | none => rw [e1] at e; cases e
    | some a =>
      cases e2 : D.pyAll ds with
      | none => rw [e1, e2] at e; cases e
      | some b =>
        rw [e1, e2] at e
        simp only [Option.some.injEq] at e
        subst e
        exact .cons (dp_of d v a r1 e1) (dpAll_of ds ws b r2 e2)
end
theorem dpS_of (sr : SR g m S H) {d : D} {v : V} {p : PyData} (r : Rep g.K m H d v) (e : pyS S d = some p) : Dp g.K H v p := by
  cases d with
  | ref i =>
    simp only [pyS] at e
    cases e1 : S[i]? with
    | none => rw [e1] at e; cases e
    | some o =>
      rw [e1] at e
      cases o with
      | ins C fs => cases e
      | lst l =>
        simp only [Option.map_eq_some_iff] at e
        obtain ⟨ps, e2, rfl⟩ := e
        obtain ⟨a, vs, rfl, _, ha, rs⟩ := ref_lst sr r e1
        exact .lst (SqL.of ha) (dpAll_of l vs ps rs e2)
  | _ => exact dp_of _ v p r e
theorem opr_eqG (hK : X.K = g.K) (hu : X.A.units + 64 < cLine) (ne : Bool) : OpR X (compareOp (if ne then .NotEq else .Eq)) (rV g E (opEq ne)) := by
  intro pins s σ H x y v u Q I rx ry q
  obtain ⟨m, S, a, b, sr, ra, rb, q⟩ := q
  have deep : (match eqD S a b with | some c => Res.ok (.bl (if ne then !c else c)) S | none => .bad) = opEq ne a b S → wpAny (model X.prog X.w) X.A (compareOp (if ne then .NotEq else .Eq) v u) (EP X pins σ Q) X.xe s := fun e => by
    rw [← e] at q
    unfold eqD at q
    cases e1 : pyS S a with
    | none => rw [e1] at q; exact (show False from q).elim
    | some p1 =>
      cases e2 : pyS S b with
      | none => rw [e1, e2] at q; exact (show False from q).elim
      | some p2 =>
        rw [e1, e2] at q
        simp only at q
        by_cases hz : (SeqAt.shaped p1 && SeqAt.shaped p2) = true
        · rw [if_pos hz] at q
          obtain ⟨h1, h2⟩ := Bool.and_eq_true_iff.mp hz
          have d1 : Dp X.K H x p1 := by rw [hK]; exact dpS_of sr ra e1
          have d2 : Dp X.K H y p2 := by rw [hK]; exact dpS_of sr rb e2
          cases ne with
          | false => exact op_eqD hu pins s σ H x y v u Q I rx ry ⟨p1, p2, d1, d2, h1, h2, okVal sr (mk_bl _) q⟩
          | true => exact op_neD hu pins s σ H x y v u Q I rx ry ⟨p1, p2, d1, d2, h1, h2, okVal sr (mk_bl _) q⟩
        · rw [if_neg hz] at q
          exact (show False from q).elim
  cases a with
  | int i =>
    cases b with
    | int j =>
      obtain rfl := rep_int ra
      obtain rfl := rep_int rb
      cases ne with
      | false => exact op_eq pins s σ H _ _ v u Q I rx ry ⟨rfl, by rw [dec_int, Bool.beq_eq_decide_eq]; exact okVal sr (mk_bl _) q⟩
      | true => exact op_ne pins s σ H _ _ v u Q I rx ry ⟨rfl, by rw [dec_int, Bool.beq_eq_decide_eq]; exact okVal sr (mk_bl _) q⟩
    | _ => exact deep rfl
  | str i =>
    cases b with
    | str j =>
      obtain rfl := rep_str ra
      obtain rfl := rep_str rb
      cases ne with
      | false => exact op_eq pins s σ H _ _ v u Q I rx ry ⟨rfl, by rw [dec_str, Bool.beq_eq_decide_eq]; exact okVal sr (mk_bl _) q⟩
      | true => exact op_ne pins s σ H _ _ v u Q I rx ry ⟨rfl, by rw [dec_str, Bool.beq_eq_decide_eq]; exact okVal sr (mk_bl _) q⟩
    | _ => exact deep rfl
  | _ => exact deep rfl
theorem flat_of {K : PySem.W.Frag} {d : D} {v : V} (r : Rep K m H d v) (f : d.flat = true) : flatV v = true := by
  cases d <;> first | (unfold Rep at r; subst r; rfl) | (exact absurd f Bool.false_ne_true)
theorem flats_of {K : PySem.W.Frag} : ∀ {ds : List D} {vs : List V}, Reps K m H ds vs → ds.all D.flat = true → vs.all flatV = true
  | [], vs, r, _ => by unfold Reps at r; rw [r]; rfl
  | d :: ds, vs, r, f => by
    unfold Reps at r
    obtain ⟨v, ws, rfl, r1, r2⟩ := r
    rw [List.all_cons, Bool.and_eq_true] at f ⊢
    exact ⟨flat_of r1 f.1, flats_of r2 f.2⟩
theorem eqf_of {K : PySem.W.Frag} {a b : D} {v w : V} (ra : Rep K m H a v) (rb : Rep K m H b w) (fa : a.flat = true) (fb : b.flat = true) : eqV v w = D.eqf a b := by
  cases a <;> cases b <;> first | (unfold Rep at ra rb; subst ra; subst rb; rfl) | (exact absurd fa Bool.false_ne_true) | (exact absurd fb Bool.false_ne_true)
theorem in_of {K : PySem.W.Frag} {x : D} {v : V} (rx : Rep K m H x v) (fx : x.flat = true) : ∀ {ds : List D} {vs : List V}, Reps K m H ds vs → ds.all D.flat = true → inV v vs = inD x ds
  | [], vs, r, _ => by unfold Reps at r; rw [r]; rfl
  | d :: ds, vs, r, f => by
    unfold Reps at r
    obtain ⟨w, ws, rfl, r1, r2⟩ := r
    rw [List.all_cons, Bool.and_eq_true] at f
    have ih := in_of rx fx r2 f.2
    unfold inV inD at ih ⊢
    rw [List.any_cons, List.any_cons, ih, eqf_of r1 rx f.1 fx]
theorem opr_in (hK : X.K = g.K) (neg : Bool) : OpR X (compareOp (if neg then .NotIn else .In)) (rV g E (opIn neg)) := by
  intro pins s σ H x y v u Q I rx ry q
  obtain ⟨m, S, a, b, sr, ra, rb, q⟩ := q
  have seq : ∀ (p : Addr) (vs : List V) (ds : List D), y = .ref p → (SqL X.K H p vs ∨ SqT X.K H p vs) → Reps g.K m H ds vs → ResOk g E m H (if (a.flat && ds.all D.flat) = true then .ok (.bl (if neg then !inD a ds else inD a ds)) S else .bad) Q →
      wpAny (model X.prog X.w) X.A (compareOp (if neg then .NotIn else .In) v u) (EP X pins σ Q) X.xe s := fun p vs ds ey hs rs q => by
    by_cases hz : (a.flat && ds.all D.flat) = true
    · rw [if_pos hz] at q
      obtain ⟨h1, h2⟩ := Bool.and_eq_true_iff.mp hz
      subst ey
      cases neg with
      | false => exact op_in_seq pins s σ H _ _ v u Q I rx ry ⟨p, vs, rfl, hs, flat_of ra h1, flats_of rs h2, by rw [in_of ra h1 rs h2]; exact okVal sr (mk_bl _) q⟩
      | true => exact op_notIn_seq pins s σ H _ _ v u Q I rx ry ⟨p, vs, rfl, hs, flat_of ra h1, flats_of rs h2, by rw [in_of ra h1 rs h2]; exact okVal sr (mk_bl _) q⟩
    · rw [if_neg hz] at q
      exact (show False from q).elim
  cases b with
  | str j =>
    cases a with
    | str i =>
      obtain rfl := rep_str ra
      obtain rfl := rep_str rb
      cases neg with
      | false => exact op_in_str pins s σ H _ _ v u Q I rx ry ⟨i, j, rfl, rfl, okVal sr (mk_bl _) q⟩
      | true => exact op_notin_str pins s σ H _ _ v u Q I rx ry ⟨i, j, rfl, rfl, okVal sr (mk_bl _) q⟩
    | _ => exact (show False from q).elim
  | tup l =>
    obtain ⟨p, vs, ey, hp, rs⟩ := rep_tup rb
    exact seq p vs l ey (.inr (by rw [hK]; exact hp)) rs q
  | ref i =>
    simp only [opIn] at q
    cases e1 : S[i]? with
    | none => rw [e1] at q; exact (show False from q).elim
    | some o =>
      rw [e1] at q
      cases o with
      | ins C fs => exact (show False from q).elim
      | lst l =>
        obtain ⟨p, vs, ey, _, hp, rs⟩ := ref_lst sr rb e1
        exact seq p vs l ey (.inl (SqL.of hp)) rs q
  | _ => exact (show False from q).elim
theorem isnon_of {K : PySem.W.Frag} {d : D} {v : V} (r : Rep K m H d v) : decide (v = .non) = (match d with | .non => true | _ => false) := by
  cases d with
  | non => unfold Rep at r; subst r; rfl
  | bl _ => unfold Rep at r; subst r; rfl
  | int _ => unfold Rep at r; subst r; rfl
  | str _ => unfold Rep at r; subst r; rfl
  | tup _ => unfold Rep at r; obtain ⟨a, vs, rfl, _⟩ := r; rfl
  | fl _ => unfold Rep at r; obtain ⟨a, vs, rfl, _⟩ := r; rfl
  | tupx _ => unfold Rep at r; obtain ⟨a, o, rfl, _⟩ := r; rfl
  | ref _ => unfold Rep at r; obtain ⟨a, _, rfl⟩ := r; rfl
def copOf : Cop → CmpOp
  | .eq => .Eq
  | .ne => .NotEq
  | .lt => .Lt
  | .le => .LtE
  | .gt => .Gt
  | .ge => .GtE
  | .isN => .Is
  | .notN => .IsNot
  | .in_ => .In
  | .notIn => .NotIn
theorem opr_cmp (hK : X.K = g.K) (hu : X.A.units + 64 < cLine) (op : Cop) : OpR X (compareOp (copOf op)) (rV g E (opCmp op)) := by
  cases op with
  | eq =>
    have h := opr_eqG (E := E) hK hu false
    exact h
  | ne =>
    have h := opr_eqG (E := E) hK hu true
    exact h
  | in_ =>
    have h := opr_in (E := E) hK false
    exact h
  | notIn =>
    have h := opr_in (E := E) hK true
    exact h
  | lt =>
    refine opr_ints op_lt (fun m S H i j Q sr q => ⟨i, j, rfl, rfl, okVal sr (mk_bl _) q⟩) fun a b S h => ?_
    cases a <;> cases b <;> first | rfl | exact absurd ⟨rfl, rfl⟩ (h _ _)
  | le =>
    refine opr_ints op_le (fun m S H i j Q sr q => ⟨i, j, rfl, rfl, okVal sr (mk_bl _) q⟩) fun a b S h => ?_
    cases a <;> cases b <;> first | rfl | exact absurd ⟨rfl, rfl⟩ (h _ _)
  | gt =>
    refine opr_ints op_gt (fun m S H i j Q sr q => ⟨i, j, rfl, rfl, okVal sr (mk_bl _) q⟩) fun a b S h => ?_
    cases a <;> cases b <;> first | rfl | exact absurd ⟨rfl, rfl⟩ (h _ _)
  | ge =>
    refine opr_ints op_ge (fun m S H i j Q sr q => ⟨i, j, rfl, rfl, okVal sr (mk_bl _) q⟩) fun a b S h => ?_
    cases a <;> cases b <;> first | rfl | exact absurd ⟨rfl, rfl⟩ (h _ _)
  | isN =>
    intro pins s σ H x y v u Q I rx ry q
    obtain ⟨m, S, a, b, sr, ra, rb, q⟩ := q
    cases b with
    | non =>
      obtain rfl := rep_non rb
      refine op_isN pins s σ H x _ v u Q I rx ry ⟨rfl, ?_⟩
      rw [isnon_of ra]
      cases a <;> exact okVal sr (mk_bl _) q
    | _ => cases a <;> exact (show False from q).elim
  | notN =>
    intro pins s σ H x y v u Q I rx ry q
    obtain ⟨m, S, a, b, sr, ra, rb, q⟩ := q
    cases b with
    | non =>
      obtain rfl := rep_non rb
      refine op_notN pins s σ H x _ v u Q I rx ry ⟨rfl, ?_⟩
      rw [isnon_of ra]
      cases a <;> exact okVal sr (mk_bl _) q
    | _ => cases a <;> exact (show False from q).elim
end
end K76
set_option Elab.async false
set_option linter.all false
set_option maxRecDepth 100000
set_option maxHeartbeats 4000000
/-! K4c: subscripts, slices, built-in calls, methods of lists, stores, by values -/
namespace K76
open PySem PySem.Spec PyProof.Rows L2
section
variable {X : Cx} {g : G} {E : XK} {m : List Addr} {S : Store} {H : Hp}
theorem reps_atI {K : PySem.W.Frag} {ds : List D} {vs : List V} {i : Int} {d : D} (r : Reps K m H ds vs) (h : atI ds i = some d) : ∃ v, atI vs i = some v ∧ Rep K m H d v := by
  unfold atI at h ⊢
  rw [r.length]
  cases e : ixN ds.length i with
  | none => rw [e] at h; cases h
  | some j =>
    rw [e] at h
    obtain ⟨v, h1, h2⟩ := r.get h
    exact ⟨v, h1, h2⟩
theorem rep_fl {l : List D} {v : V} (r : Rep g.K m H (.fl l) v) : ∃ (a : Addr) (vs : List V), v = .ref a ∧ SqL g.K H a vs ∧ Reps g.K m H l vs := by
  unfold Rep at r
  obtain ⟨a, vs, rfl, q, rs⟩ := r
  refine ⟨a, vs, rfl, ?_, rs⟩
  rcases q with ⟨o, q⟩ | q
  · exact .inl (.inr ⟨o, q⟩)
  · exact .inr q
theorem ix_V (hK : X.K = g.K) : IxR X (rV g E opIdx) := by
  intro value slice pins s σ H x y v u Q I rx ry q hs
  obtain ⟨m, S, a, b, sr, ra, rb, q⟩ := q
  cases b with
  | int i =>
    obtain rfl := rep_int rb
    cases a with
    | tup l =>
      obtain ⟨p, vs, rfl, hp, rp⟩ := rep_tup ra
      simp only [opIdx] at q
      cases e : atI l i with
      | none => rw [e] at q; exact (show False from q).elim
      | some d =>
        rw [e] at q
        obtain ⟨w, h1, h2⟩ := reps_atI rp e
        exact ix_tup value slice pins s σ H _ _ v u Q I rx ry ⟨p, vs, i, w, rfl, rfl, by rw [hK]; exact hp, h1, okVal sr h2 q⟩ hs
    | fl l =>
      obtain ⟨p, vs, rfl, hp, rp⟩ := rep_fl ra
      simp only [opIdx] at q
      cases e : atI l i with
      | none => rw [e] at q; exact (show False from q).elim
      | some d =>
        rw [e] at q
        obtain ⟨w, h1, h2⟩ := reps_atI rp e
        exact ix_list value slice pins s σ H _ _ v u Q I rx ry ⟨p, vs, i, w, rfl, rfl, by rw [hK]; exact hp, h1, okVal sr h2 q⟩ hs
    | ref j =>
      simp only [opIdx] at q
      cases e1 : S[j]? with
      | none => rw [e1] at q; exact (show False from q).elim
      | some o =>
        rw [e1] at q
        cases o with
        | ins C fs => exact (show False from q).elim
        | lst l =>
          simp only at q
          obtain ⟨p, vs, rfl, _, hp, rp⟩ := ref_lst sr ra e1
          cases e : atI l i with
          | none => rw [e] at q; exact (show False from q).elim
          | some d =>
            rw [e] at q
            obtain ⟨w, h1, h2⟩ := reps_atI rp e
            exact ix_list value slice pins s σ H _ _ v u Q I rx ry ⟨p, vs, i, w, rfl, rfl, SqL.of hp, h1, okVal sr h2 q⟩ hs
    | str z =>
      obtain rfl := rep_str ra
      simp only [opIdx] at q
      split at q
      · rename_i hz
        cases e : atI z.cps.toList i with
        | none => rw [e] at q; exact (show False from q).elim
        | some c =>
          rw [e] at q
          exact ix_str value slice pins s σ H _ _ v u Q I rx ry ⟨z, i, c, rfl, rfl, hz, e, okVal sr (mk_str _) q⟩ hs
      · exact (show False from q).elim
    | _ => exact (show False from q).elim
  | _ => cases a <;> exact (show False from q).elim
/-! ### slices -/
def rSV (g : G) (E : XK) : V → Option Int → Option Int → Hp → VK → Prop := fun x lo hi H Q => ∃ m S a, SR g m S H ∧ Rep g.K m H a x ∧ ResOk g E m H (opSlc a lo hi S) Q
theorem cut_reps {K : PySem.W.Frag} {ds : List D} {vs : List V} (r : Reps K m H ds vs) (lo hi : Option Int) : Reps K m H (cutD ds lo hi) (cutV vs lo hi) := by
  unfold cutD cutV
  rw [r.length]
  exact Reps.take _ (Reps.drop _ r)
theorem cut_whole {ds : List D} {lo hi : Option Int} (h : HT.sIx ds.length 0 lo = 0 ∧ HT.sIx ds.length ds.length hi = ds.length) : cutD ds lo hi = ds := by
  unfold cutD
  rw [h.1, h.2]
  simp
theorem sl_V (hK : X.K = g.K) : SlR X (rSV g E) := by
  intro pins s σ H x v vl vu lo hi sl Q I rx hs pl pu q
  obtain ⟨m, S, a, sr, ra, q⟩ := q
  cases a with
  | tup l =>
    obtain ⟨p, vs, rfl, hp, rp⟩ := rep_tup ra
    refine sl_tupA pins s σ H _ v vl vu lo hi sl Q I rx hs pl pu ⟨p, vs, rfl, by rw [hK]; exact hp, fun h => ?_, fun h t ht => ?_⟩
    · rw [rp.length] at h
      simp only [opSlc] at q
      rw [cut_whole h] at q
      exact okVal sr ra q
    · exact okTup sr (cut_reps rp lo hi) q ht
  | ref j =>
    simp only [opSlc] at q
    cases e1 : S[j]? with
    | none => rw [e1] at q; exact (show False from q).elim
    | some o =>
      rw [e1] at q
      cases o with
      | ins C fs => exact (show False from q).elim
      | lst l =>
        obtain ⟨p, vs, rfl, _, hp, rp⟩ := ref_lst sr ra e1
        exact sl_list pins s σ H _ v vl vu lo hi sl Q I rx hs pl pu ⟨p, vs, rfl, SqL.of hp, fun t ht => okLst sr (cut_reps rp lo hi) q ht⟩
  | _ => exact (show False from q).elim
/-! ### built-in functions -/
def rCV (g : G) (E : XK) (f : List D → Store → Res D) : List V → Hp → VK → Prop := fun xs H Q => ∃ m S ds, SR g m S H ∧ Reps g.K m H ds xs ∧ ResOk g E m H (f ds S) Q
theorem reps_ints {K : PySem.W.Frag} : ∀ {ds : List D} {vs : List V} {ns : List Int}, Reps K m H ds vs → allInts ds = some ns → vs = ns.map V.int
  | [], vs, ns, r, h => by
    unfold Reps at r
    subst r
    simp only [allInts, Option.some.injEq] at h
    subst h
    rfl
  | d :: ds, vs, ns, r, h => by
    unfold Reps at r
    obtain ⟨v, ws, rfl, r1, r2⟩ := r
    cases d with
    | int i =>
      simp only [allInts, Option.map_eq_some_iff] at h
      obtain ⟨ms, h1, rfl⟩ := h
      unfold Rep at r1
      rw [r1, reps_ints r2 h1]
      rfl
    | _ => simp [allInts] at h
theorem reps_bls {K : PySem.W.Frag} : ∀ {ds : List D} {vs : List V} {ns : List Bool}, Reps K m H ds vs → allBls ds = some ns → vs = ns.map V.bl
  | [], vs, ns, r, h => by
    unfold Reps at r
    subst r
    simp only [allBls, Option.some.injEq] at h
    subst h
    rfl
  | d :: ds, vs, ns, r, h => by
    unfold Reps at r
    obtain ⟨v, ws, rfl, r1, r2⟩ := r
    cases d with
    | bl i =>
      simp only [allBls, Option.map_eq_some_iff] at h
      obtain ⟨ms, h1, rfl⟩ := h
      unfold Rep at r1
      rw [r1, reps_bls r2 h1]
      rfl
    | _ => simp [allBls] at h
theorem reps_strs {K : PySem.W.Frag} : ∀ {ds : List D} {vs : List V} {ns : List Str}, Reps K m H ds vs → allStrs ds = some ns → vs = ns.map V.str
  | [], vs, ns, r, h => by
    unfold Reps at r
    subst r
    simp only [allStrs, Option.some.injEq] at h
    subst h
    rfl
  | d :: ds, vs, ns, r, h => by
    unfold Reps at r
    obtain ⟨v, ws, rfl, r1, r2⟩ := r
    cases d with
    | str i =>
      simp only [allStrs, Option.map_eq_some_iff] at h
      obtain ⟨ms, h1, rfl⟩ := h
      unfold Rep at r1
      rw [r1, reps_strs r2 h1]
      rfl
    | _ => simp [allStrs] at h
theorem reps1 {K : PySem.W.Frag} {d : D} {vs : List V} (r : Reps K m H [d] vs) : ∃ v, vs = [v] ∧ Rep K m H d v := by
  unfold Reps at r
  obtain ⟨v, ws, rfl, r1, r2⟩ := r
  unfold Reps at r2
  subst r2
  exact ⟨v, rfl, r1⟩
theorem reps2 {K : PySem.W.Frag} {d e : D} {vs : List V} (r : Reps K m H [d, e] vs) : ∃ v w, vs = [v, w] ∧ Rep K m H d v ∧ Rep K m H e w := by
  unfold Reps at r
  obtain ⟨v, ws, rfl, r1, r2⟩ := r
  obtain ⟨w, rfl, r3⟩ := reps1 r2
  exact ⟨v, w, rfl, r1, r3⟩
theorem lst_of {i : Nat} {α : Type} {f : List D → Res α} {P : Res α → Prop} (hb : ¬ P .bad) (h : P (match S[i]? with | some (.lst l) => f l | _ => .bad)) : ∃ l, S[i]? = some (.lst l) ∧ P (f l) := by
  cases e : S[i]? with
  | none => rw [e] at h; exact absurd h hb
  | some o =>
    rw [e] at h
    cases o with
    | ins C fs => exact absurd h hb
    | lst l => exact ⟨l, rfl, h⟩
/-- the callee of a built-in -/
def biV : BI → Value
  | .len => .builtin "len"
  | .abs => .builtin "abs"
  | .max2 => .builtin "max"
  | .min2 => .builtin "min"
  | .int1 => .type "int"
  | .str1 => .type "str"
  | .tuple1 => .type "tuple"
  | .list1 => .type "list"
  | .sum1 => .builtin "sum"
  | .all1 => .builtin "all"
  | .any1 => .builtin "any"
  | _ => .builtin "isinstance"
def biN : BI → Str
  | .len => "len"
  | .abs => "abs"
  | .max2 => "max"
  | .min2 => "min"
  | .int1 => "int"
  | .str1 => "str"
  | .tuple1 => "tuple"
  | .list1 => "list"
  | .sum1 => "sum"
  | .all1 => "all"
  | .any1 => "any"
  | _ => "isinstance"
def biIs : BI → Bool
  | .isInt => true
  | .isBool => true
  | .isTup => true
  | .isStr => true
  | _ => false
theorem bad1 {f : BI} {E : XK} {Q : VK} (h : ResOk g E m H .bad Q) : False := h
theorem call_seqlike {T : Value} {r : List V → Hp → VK → Prop} (hr : CallR X T r) {f : List D → Store → Res D} (c : ∀ m S H ds xs Q, SR g m S H → Reps g.K m H ds xs → ResOk g E m H (f ds S) Q → r xs H Q) : CallR X T (rCV g E f) := by
  intro pins s σ H xs us Q I rx q
  obtain ⟨m, S, ds, sr, rs, q⟩ := q
  exact hr pins s σ H xs us Q I rx (c m S H ds xs Q sr rs q)
theorem ov_len (hK : X.K = g.K) : ∀ (m : List Addr) (S : Store) (H : Hp) (ds : List D) (xs : List V) (Q : VK), SR g m S H → Reps g.K m H ds xs → ResOk g E m H (opBI .len ds S) Q → ∃ x n, xs = [x] ∧ LenV X.K x H n ∧ Q (.int n) H := by
  intro m S H ds xs Q sr rs q
  match ds, rs, q with
  | [.str z], rs, q =>
    obtain ⟨v, rfl, r1⟩ := reps1 rs
    obtain rfl := rep_str r1
    simp only [opBI] at q
    split at q
    · rename_i hz
      exact ⟨_, z.length, rfl, ⟨hz, rfl⟩, okVal sr (mk_int _) q⟩
    · exact (show False from q).elim
  | [.tup l], rs, q =>
    obtain ⟨v, rfl, r1⟩ := reps1 rs
    obtain ⟨p, vs, rfl, hp, rp⟩ := rep_tup r1
    refine ⟨_, l.length, rfl, .inr ⟨vs, by rw [hK]; exact hp, rp.length.symm⟩, okVal sr (mk_int _) q⟩
  | [.fl l], rs, q =>
    obtain ⟨v, rfl, r1⟩ := reps1 rs
    obtain ⟨p, vs, rfl, hp, rp⟩ := rep_fl r1
    refine ⟨_, l.length, rfl, .inl ⟨vs, by rw [hK]; exact hp, rp.length.symm⟩, okVal sr (mk_int _) q⟩
  | [.ref i], rs, q =>
    obtain ⟨v, rfl, r1⟩ := reps1 rs
    simp only [opBI] at q
    cases e : S[i]? with
    | none => rw [e] at q; exact (show False from q).elim
    | some o =>
      rw [e] at q
      cases o with
      | ins C fs => exact (show False from q).elim
      | lst l =>
        obtain ⟨p, vs, rfl, _, hp, rp⟩ := ref_lst sr r1 e
        exact ⟨_, l.length, rfl, .inl ⟨vs, SqL.of hp, rp.length.symm⟩, okVal sr (mk_int _) q⟩
  | [], rs, q => exact (show False from q).elim
  | [.non], rs, q => exact (show False from q).elim
  | [.bl _], rs, q => exact (show False from q).elim
  | [.int _], rs, q => exact (show False from q).elim
  | [.tupx _], rs, q => exact (show False from q).elim
  | _ :: _ :: _, rs, q => exact (show False from by simpa [opBI, ResOk] using q).elim
end
end K76
set_option Elab.async false
set_option linter.all false
set_option maxRecDepth 100000
set_option maxHeartbeats 4000000
/-! K4d: built-in calls, methods of lists, stores, by values -/
namespace K76
open PySem PySem.Spec PyProof.Rows L2
section
variable {X : Cx} {g : G} {E : XK}
theorem cv_len (hK : X.K = g.K) : CallR X (biV .len) (rCV g E (opBI .len)) := call_seqlike call_len (ov_len hK)
theorem cv_abs : CallR X (biV .abs) (rCV g E (opBI .abs)) := call_seqlike call_abs fun m S H ds xs Q sr rs q => by
  rcases ds with _ | ⟨d, _ | ⟨e, l⟩⟩
  · exact (show False from q).elim
  · obtain ⟨v, rfl, r1⟩ := reps1 rs
    cases d with
    | int i =>
      obtain rfl := rep_int r1
      exact ⟨i, rfl, okVal sr (mk_int _) q⟩
    | _ => exact (show False from q).elim
  · exact (show False from by simpa [opBI, ResOk] using q).elim
theorem cv_max2 (hc : X.calm = true) : CallR X (biV .max2) (rCV g E (opBI .max2)) := call_seqlike (call_max2 hc) fun m S H ds xs Q sr rs q => by
  rcases ds with _ | ⟨d, _ | ⟨e, _ | ⟨f, l⟩⟩⟩
  · exact (show False from q).elim
  · exact (show False from by simpa [opBI, ResOk] using q).elim
  · obtain ⟨v, w, rfl, r1, r2⟩ := reps2 rs
    cases d with
    | int i =>
      cases e with
      | int j =>
        obtain rfl := rep_int r1
        obtain rfl := rep_int r2
        exact ⟨i, j, rfl, okVal sr (mk_int _) q⟩
      | _ => exact (show False from q).elim
    | _ => exact (show False from by simpa [opBI, ResOk] using q).elim
  · exact (show False from by simpa [opBI, ResOk] using q).elim
theorem cv_min2 (hc : X.calm = true) : CallR X (biV .min2) (rCV g E (opBI .min2)) := call_seqlike (call_min2 hc) fun m S H ds xs Q sr rs q => by
  rcases ds with _ | ⟨d, _ | ⟨e, _ | ⟨f, l⟩⟩⟩
  · exact (show False from q).elim
  · exact (show False from by simpa [opBI, ResOk] using q).elim
  · obtain ⟨v, w, rfl, r1, r2⟩ := reps2 rs
    cases d with
    | int i =>
      cases e with
      | int j =>
        obtain rfl := rep_int r1
        obtain rfl := rep_int r2
        exact ⟨i, j, rfl, okVal sr (mk_int _) q⟩
      | _ => exact (show False from q).elim
    | _ => exact (show False from by simpa [opBI, ResOk] using q).elim
  · exact (show False from by simpa [opBI, ResOk] using q).elim
theorem cv_int1 : CallR X (biV .int1) (rCV g E (opBI .int1)) := call_seqlike call_int1 fun m S H ds xs Q sr rs q => by
  rcases ds with _ | ⟨d, _ | ⟨e, l⟩⟩
  · exact (show False from q).elim
  · obtain ⟨v, rfl, r1⟩ := reps1 rs
    cases d with
    | int i =>
      obtain rfl := rep_int r1
      exact .inl ⟨i, rfl, okVal sr (mk_int _) q⟩
    | bl i =>
      obtain rfl := rep_bl r1
      exact .inr ⟨i, rfl, okVal sr (mk_int _) q⟩
    | _ => exact (show False from q).elim
  · exact (show False from by simpa [opBI, ResOk] using q).elim
theorem cv_str1 : CallR X (biV .str1) (rCV g E (opBI .str1)) := call_seqlike call_str_int fun m S H ds xs Q sr rs q => by
  rcases ds with _ | ⟨d, _ | ⟨e, l⟩⟩
  · exact (show False from q).elim
  · obtain ⟨v, rfl, r1⟩ := reps1 rs
    cases d with
    | int i =>
      obtain rfl := rep_int r1
      simp only [opBI] at q
      split at q
      · rename_i hz
        exact ⟨i, rfl, hz, okVal sr (mk_str _) q⟩
      · exact (show False from q).elim
    | _ => exact (show False from q).elim
  · exact (show False from by simpa [opBI, ResOk] using q).elim
theorem cv_tuple1 (hK : X.K = g.K) : CallR X (biV .tuple1) (rCV g E (opBI .tuple1)) := call_seqlike call_tuple_of fun m S H ds xs Q sr rs q => by
  rcases ds with _ | ⟨d, _ | ⟨e, l⟩⟩
  · exact (show False from q).elim
  · obtain ⟨v, rfl, r1⟩ := reps1 rs
    cases d with
    | tup l =>
      obtain ⟨p, vs, rfl, hp, rp⟩ := rep_tup r1
      exact ⟨p, vs, rfl, .inr ⟨by rw [hK]; exact hp, okVal sr r1 q⟩⟩
    | ref i =>
      simp only [opBI] at q
      cases e : S[i]? with
      | none => rw [e] at q; exact (show False from q).elim
      | some o =>
        rw [e] at q
        cases o with
        | ins C fs => exact (show False from q).elim
        | lst l =>
          obtain ⟨p, vs, rfl, _, hp, rp⟩ := ref_lst sr r1 e
          exact ⟨p, vs, rfl, .inl ⟨SqL.of hp, fun t ht => okTup sr rp q ht⟩⟩
    | _ => exact (show False from q).elim
  · exact (show False from by simpa [opBI, ResOk] using q).elim
theorem cv_list1 (hK : X.K = g.K) : CallR X (biV .list1) (rCV g E (opBI .list1)) := call_seqlike call_list_of fun m S H ds xs Q sr rs q => by
  rcases ds with _ | ⟨d, _ | ⟨e, l⟩⟩
  · exact (show False from q).elim
  · obtain ⟨v, rfl, r1⟩ := reps1 rs
    cases d with
    | tup l =>
      obtain ⟨p, vs, rfl, hp, rp⟩ := rep_tup r1
      exact ⟨p, vs, rfl, .inr (by rw [hK]; exact hp), fun t ht => okLst sr rp q ht⟩
    | ref i =>
      simp only [opBI] at q
      cases e : S[i]? with
      | none => rw [e] at q; exact (show False from q).elim
      | some o =>
        rw [e] at q
        cases o with
        | ins C fs => exact (show False from q).elim
        | lst l =>
          obtain ⟨p, vs, rfl, _, hp, rp⟩ := ref_lst sr r1 e
          exact ⟨p, vs, rfl, .inl (SqL.of hp), fun t ht => okLst sr rp q ht⟩
    | _ => exact (show False from q).elim
  · exact (show False from by simpa [opBI, ResOk] using q).elim
def on1 (f : List D → Store → Res D) (ds : List D) (S : Store) : Res D := match ds with | [.ref i] => (match S[i]? with | some (.lst l) => f l S | _ => .bad) | _ => .bad
/-- a list of the store handed to sum, all, any -/
theorem ref1 {f : List D → Store → Res D} {P : List V → Prop} {m : List Addr} {S : Store} {H : Hp} {ds : List D} {xs : List V} {Q : VK} (sr : SR g m S H) (rs : Reps g.K m H ds xs) (q : ResOk g E m H (on1 f ds S) Q)
    (c : ∀ p l vs, H p = some (.lst vs) → Reps g.K m H l vs → ResOk g E m H (f l S) Q → P [.ref p]) : P xs := by
  rcases ds with _ | ⟨d, _ | ⟨e, l⟩⟩
  · exact (show False from q).elim
  · obtain ⟨v, rfl, r1⟩ := reps1 rs
    cases d with
    | ref i =>
      simp only [on1] at q
      cases e : S[i]? with
      | none => rw [e] at q; exact (show False from q).elim
      | some o =>
        rw [e] at q
        cases o with
        | ins C fs => exact (show False from q).elim
        | lst l =>
          obtain ⟨p, vs, rfl, _, hp, rp⟩ := ref_lst sr r1 e
          exact c p l vs hp rp q
    | _ => exact (show False from q).elim
  · cases d <;> exact (show False from q).elim
theorem eq_sum1 (ds : List D) (S : Store) : opBI .sum1 ds S = on1 sumD ds S := by
  rcases ds with _ | ⟨d, _ | ⟨e, l⟩⟩
  · rfl
  · cases d <;> rfl
  · cases d <;> simp [opBI, on1]
theorem eq_all1 (ds : List D) (S : Store) : opBI .all1 ds S = on1 allD ds S := by
  rcases ds with _ | ⟨d, _ | ⟨e, l⟩⟩
  · rfl
  · cases d <;> rfl
  · cases d <;> simp [opBI, on1]
theorem eq_any1 (ds : List D) (S : Store) : opBI .any1 ds S = on1 anyD ds S := by
  rcases ds with _ | ⟨d, _ | ⟨e, l⟩⟩
  · rfl
  · cases d <;> rfl
  · cases d <;> simp [opBI, on1]
section
variable {m : List Addr} {S : Store} {H : Hp} {l : List D} {vs : List V} {Q : VK} {p : Addr}
/-- sum, all, any of a list at p -/
theorem lq_sum (sr : SR g m S H) (hs : SqL X.K H p vs) (r : Reps g.K m H l vs) (q : ResOk g E m H (sumD l S) Q) : rSum X.K [.ref p] H Q := by
  unfold sumD at q
  split at q
  · rename_i ns e
    exact ⟨p, ns, rfl, by rw [← reps_ints r e]; exact hs, okVal sr (mk_int _) q⟩
  · exact (show False from q).elim
theorem lq_all (sr : SR g m S H) (hs : SqL X.K H p vs) (r : Reps g.K m H l vs) (q : ResOk g E m H (allD l S) Q) : rAll X.K [.ref p] H Q := by
  unfold allD at q
  split at q
  · rename_i ns e
    exact ⟨p, ns, rfl, by rw [← reps_bls r e]; exact hs, okVal sr (mk_bl _) q⟩
  · exact (show False from q).elim
theorem lq_any (sr : SR g m S H) (hs : SqL X.K H p vs) (r : Reps g.K m H l vs) (q : ResOk g E m H (anyD l S) Q) : rAny X.K [.ref p] H Q := by
  unfold anyD at q
  split at q
  · rename_i ns e
    exact ⟨p, ns, rfl, by rw [← reps_bls r e]; exact hs, okVal sr (mk_bl _) q⟩
  · exact (show False from q).elim
end
theorem cv_sum1 (hc : X.calm = true) : CallR X (biV .sum1) (rCV g E (opBI .sum1)) := call_seqlike (cr_sum hc) fun m S H ds xs Q sr rs q => by
  rw [eq_sum1] at q
  exact ref1 (P := fun xs => rSum X.K xs H Q) sr rs q fun p l vs hp r q => lq_sum sr (SqL.of hp) r q
theorem cv_all1 (hc : X.calm = true) : CallR X (biV .all1) (rCV g E (opBI .all1)) := call_seqlike (cr_all hc) fun m S H ds xs Q sr rs q => by
  rw [eq_all1] at q
  exact ref1 (P := fun xs => rAll X.K xs H Q) sr rs q fun p l vs hp r q => lq_all sr (SqL.of hp) r q
theorem cv_any1 (hc : X.calm = true) : CallR X (biV .any1) (rCV g E (opBI .any1)) := call_seqlike (cr_any hc) fun m S H ds xs Q sr rs q => by
  rw [eq_any1] at q
  exact ref1 (P := fun xs => rAny X.K xs H Q) sr rs q fun p l vs hp r q => lq_any sr (SqL.of hp) r q
/-- isinstance -/
def isT : BI → String
  | .isInt => "int"
  | .isBool => "bool"
  | .isTup => "tuple"
  | _ => "str"
theorem opBI_is {t : BI} (ht : biIs t = true) (d : D) (S : Store) : opBI t [d] S = isD t d S := by
  cases t <;> first | rfl | exact absurd ht Bool.false_ne_true
theorem cv_is (hK : X.K = g.K) {t : BI} (ht : biIs t = true) : CallR X (.builtin "isinstance") (fun xs H Q => ∃ m S d x, SR g m S H ∧ Rep g.K m H d x ∧ xs = [x, .ty (isT t)] ∧ ResOk g E m H (isD t d S) Q) := by
  intro pins s σ H xs us Q I rx q
  obtain ⟨m, S, d, x, sr, r, rfl, q⟩ := q
  have go : ∀ (a : String) (b : Bool), TyX X.K H x (.type a) → PySem.W.kitOne X.K (.type a) (.type (isT t)) = some b → Q (.bl b) H → wpAny (model X.prog X.w) X.A (call (.builtin "isinstance") us) (EP X pins σ Q) X.xe s :=
    fun a b ty e q => call_isi pins s σ H _ us Q I rx ⟨x, _, _, _, b, rfl, .ty _, ty, e, q⟩
  cases d with
  | non =>
    obtain rfl := rep_non r
    refine go "NoneType" false (.base .non) (kit_ty ?_) (okVal sr (mk_bl _) q)
    cases t <;> first | (decide +kernel) | exact absurd ht Bool.false_ne_true
  | bl i =>
    obtain rfl := rep_bl r
    cases t <;> first | exact absurd ht Bool.false_ne_true | exact go "bool" _ (.base (.bl _)) (kit_ty (by decide +kernel)) (okVal sr (mk_bl _) q)
  | int i =>
    obtain rfl := rep_int r
    cases t <;> first | exact absurd ht Bool.false_ne_true | exact go "int" _ (.base (.int _)) (kit_ty (by decide +kernel)) (okVal sr (mk_bl _) q)
  | str i =>
    obtain rfl := rep_str r
    cases t <;> first | exact absurd ht Bool.false_ne_true | exact go "str" _ (.base (.str _)) (kit_ty (by decide +kernel)) (okVal sr (mk_bl _) q)
  | tup l =>
    obtain ⟨p, vs, rfl, hp, rp⟩ := rep_tup r
    have ty : TyX X.K H (.ref p) (.type "tuple") := by
      rcases hp with (hp | ⟨o, hp⟩) | ⟨o, its, n, h1, h2, _⟩
      · exact .base (.tup hp)
      · exact .fTuple hp
      · exact .kTuple (by rw [hK]; exact h1) h2
    cases t <;> first | exact absurd ht Bool.false_ne_true | exact go "tuple" _ ty (kit_ty (by decide +kernel)) (okVal sr (mk_bl _) q)
  | fl l => exact (show False from q).elim
  | tupx l => exact (show False from q).elim
  | ref l => exact (show False from q).elim
/-! ### methods of lists -/
def rMV (g : G) (E : XK) (f : D → D → Store → Res D) : V → List V → Hp → VK → Prop := fun x xs H Q => ∃ m S a d, SR g m S H ∧ Rep g.K m H a x ∧ Reps g.K m H [d] xs ∧ ResOk g E m H (f a d S) Q
theorem mv_app : MtR X "list.append" (rMV g E opApp) := by
  intro pins s σ H x xs v us Q I rx rs q
  obtain ⟨m, S, a, d, sr, ra, rd, q⟩ := q
  obtain ⟨y, rfl, r1⟩ := reps1 rd
  cases a with
  | ref i =>
    simp only [opApp] at q
    cases e : S[i]? with
    | none => rw [e] at q; exact (show False from q).elim
    | some o =>
      rw [e] at q
      cases o with
      | ins C fs => exact (show False from q).elim
      | lst l =>
        obtain ⟨p, vs, rfl, hi, hp, rp⟩ := ref_lst sr ra e
        simp only at q
        split at q
        · rename_i hz
          obtain ⟨h1, h2⟩ := okSet sr hi e (rp.append (Reps.one r1))
          exact mt_append pins s σ H _ _ v us Q I rx rs ⟨p, vs, y, rfl, rfl, hp, by rw [rp.length]; exact hz, q m _ _ h1 h2 mk_non⟩
        · exact (show False from q).elim
  | _ => exact (show False from q).elim
theorem mv_ext : MtR X "list.extend" (rMV g E opExt) := by
  intro pins s σ H x xs v us Q I rx rs q
  obtain ⟨m, S, a, d, sr, ra, rd, q⟩ := q
  obtain ⟨y, rfl, r1⟩ := reps1 rd
  cases a with
  | ref i =>
    cases d with
    | ref j =>
      simp only [opExt] at q
      cases e : S[i]? with
      | none => rw [e] at q; exact (show False from q).elim
      | some o =>
        cases e2 : S[j]? with
        | none => rw [e, e2] at q; cases o <;> exact (show False from q).elim
        | some o2 =>
          rw [e, e2] at q
          cases o with
          | ins C fs => exact (show False from q).elim
          | lst l =>
            cases o2 with
            | ins C fs => exact (show False from q).elim
            | lst l2 =>
              obtain ⟨p, vs, rfl, hi, hp, rp⟩ := ref_lst sr ra e
              obtain ⟨p2, vs2, rfl, hi2, hp2, rp2⟩ := ref_lst sr r1 e2
              simp only at q
              split at q
              · rename_i hz
                obtain ⟨h1, h2⟩ := okSet sr hi e (rp.append rp2)
                exact mt_extend pins s σ H _ _ v us Q I rx rs ⟨p, p2, vs, vs2, rfl, rfl, hp, hp2, by rw [rp.length, rp2.length]; exact hz, q m _ _ h1 h2 mk_non⟩
              · exact (show False from q).elim
    | _ => exact (show False from q).elim
  | _ => exact (show False from q).elim
theorem mv_pop : MtR X "list.pop" (rMV g E opPop) := by
  intro pins s σ H x xs v us Q I rx rs q
  obtain ⟨m, S, a, d, sr, ra, rd, q⟩ := q
  obtain ⟨y, rfl, r1⟩ := reps1 rd
  cases a with
  | ref i =>
    cases d with
    | int k =>
      simp only [opPop] at q
      cases e : S[i]? with
      | none => rw [e] at q; exact (show False from q).elim
      | some o =>
        rw [e] at q
        cases o with
        | ins C fs => exact (show False from q).elim
        | lst l =>
          obtain ⟨p, vs, rfl, hi, hp, rp⟩ := ref_lst sr ra e
          obtain rfl := rep_int r1
          simp only at q
          cases e1 : ixN l.length k with
          | none => rw [e1] at q; exact (show False from q).elim
          | some n =>
            rw [e1] at q
            cases e2 : l[n]? with
            | none => simp only [e2] at q; exact (show False from q).elim
            | some dd =>
              simp only [e2] at q
              obtain ⟨z, _⟩ := I.lstM hp
              have hl := line63
              obtain ⟨s1, s2, s3, s4⟩ := ixN_seq e1
              have hlen := rp.length
              obtain ⟨w, w1, w2⟩ := rp.get e2
              obtain ⟨h1, h2⟩ := okSet sr hi e (Reps.eraseIdx n rp)
              exact mt_popAt pins s σ H _ _ v us Q I rx rs ⟨p, vs, k, n, w, rfl, rfl, hp, by omega, by omega, by rw [hlen]; exact s1, w1, q m _ _ h1 h2 (w2.ext h1 sr)⟩
    | _ => exact (show False from q).elim
  | _ => exact (show False from q).elim
/-! ### stores -/
theorem sv_item : PSet X (fun o i v H Q => ∃ m S a k d, SR g m S H ∧ Rep g.K m H a o ∧ Rep g.K m H k i ∧ Rep g.K m H d v ∧ ∃ S', opSetItem a k d S = some S' ∧ ∀ H', Ext m H m H' → SR g m S' H' → Q H') := by
  intro pins s σ H o i v ov iv u Q I ro ri rv q
  obtain ⟨m, S, a, k, d, sr, ra, rk, rd, S', e, q⟩ := q
  cases a with
  | ref j =>
    cases k with
    | int c =>
      simp only [opSetItem] at e
      cases e1 : S[j]? with
      | none => rw [e1] at e; cases e
      | some ob =>
        rw [e1] at e
        cases ob with
        | ins C fs => cases e
        | lst l =>
          simp only at e
          obtain ⟨p, vs, rfl, hi, hp, rp⟩ := ref_lst sr ra e1
          obtain rfl := rep_int rk
          cases e2 : ixN l.length c with
          | none => rw [e2] at e; cases e
          | some n =>
            rw [e2] at e
            simp only [Option.some.injEq] at e
            subst e
            obtain ⟨h1, h2⟩ := okSet sr hi e1 (Reps.set rd n rp)
            exact set_list pins s σ H _ _ v ov iv u Q I ro ri rv ⟨p, vs, c, n, rfl, rfl, hp, by rw [rp.length]; exact e2, q _ h1 h2⟩
    | _ => cases e
  | _ => simp [opSetItem] at e
end
end K76
set_option Elab.async false
set_option linter.all false
set_option maxRecDepth 100000
set_option maxHeartbeats 4000000
/-! K5a: shapes of texts; attributes -/
namespace K76
open PySem PySem.Spec PyProof.Rows L2
/-! ### shapes -/
def nst : Expr → Bool
  | .Starred _ _ => false
  | _ => true
theorem starEach_nst {e : Expr} {es : List Expr} {env : Env} (h : nst e = true) : starEach (e :: es) env = (false, eval e env) :: starEach es env := by
  cases e <;> first | rfl | exact absurd h Bool.false_ne_true
theorem noStars {es : List Expr} {env : Env} {pos : Pos} (h : es.all nst = true) : (backTo pos (starEach es env)).any (·.1) = false := by
  induction es with
  | nil => rfl
  | cons e es ih =>
    rw [List.all_cons, Bool.and_eq_true] at h
    rw [starEach_nst h.1]
    show (false || (backTo pos (starEach es env)).any (·.1)) = false
    rw [ih h.2]
    rfl
theorem noStars2 {es : List Expr} {env : Env} {pos : Pos} (h : es.all nst = true) : (backTo pos (starEach es env)).all (fun x => !x.1) = true := by
  induction es with
  | nil => rfl
  | cons e es ih =>
    rw [List.all_cons, Bool.and_eq_true] at h
    rw [starEach_nst h.1]
    show (true && (backTo pos (starEach es env)).all (fun x => !x.1)) = true
    rw [ih h.2]
    rfl
/-- no bare call of a name -/
def noSup : Expr → Bool
  | .Call (.Name _ _) [] [] _ => false
  | _ => true
theorem attrBase {o : Expr} {f : Str} {env : Env} {t : Sem Value} (h : noSup o = true) : attributeBase o f env t = t := by
  unfold attributeBase
  split
  · exact absurd h Bool.false_ne_true
  · rfl
def fewB (es : List Expr) : Bool := es.all nst && decide (es.length < 30)
theorem few_ok {es : List Expr} {env : Env} {cpos : Pos} (h : fewB es = true) : ((backTo cpos (starEach es env)).all (fun x => !x.1) && (backToKw cpos (keywordEach [] env)).all (fun x => x.1.isSome)
      && decide (es.length + ([] : List Keyword).length + (if ([] : List Keyword).isEmpty then 0 else 1) < 30)) = true := by
  unfold fewB at h
  rw [Bool.and_eq_true, decide_eq_true_eq] at h
  rw [noStars2 h.1]
  show (true && decide (es.length + 0 + 0 < 30)) = true
  rw [decide_eq_true (by omega)]
  rfl
theorem meth_tree {o : Expr} {m : Str} {es : List Expr} {env : Env} {apos pos : Pos} (h1 : noSup o = true) (h2 : fewB es = true) (h3 : (apos.endLine == pos.line) = true) :
    eval (.Call (.Attribute o m apos) es [] pos) env = (do
      let ov ← eval o env
      standAt apos.atName
      let (f, first) ← holding [ov] (getMethod ov m (do return (← importBound o env).getD true))
      callWith pos f first (backTo pos (starEach es env)) (backToKw pos (keywordEach [] env))) := by
  rw [arm_eval_Call, attrBase h1]
  have hform : methodCallForm (es.length + ([] : List Keyword).length) (backTo pos (starEach es env)) (backToKw pos (keywordEach [] env)) = true := few_ok h2
  have hpos : methodCallPos true o env apos pos = pure pos := by unfold methodCallPos; simp [h3]
  unfold methodCall
  rw [hform, hpos]
  rfl
theorem swapsW {value : Expr} {o : Expr} {l : Nat} {env : Env} (h : ∀ id p, o ≠ .Name id p) : swapsWith value (some o) l env = pure false := by
  unfold swapsWith
  cases value <;> first | rfl | (cases o <;> first | rfl | exact absurd rfl (h _ _))
/-- no comprehension -/
def noLc : Expr → Bool
  | .ListComp _ _ _ _ => false
  | .SetComp _ _ _ _ => false
  | .DictComp _ _ _ _ _ => false
  | _ => true
theorem swapsN {value : Expr} {o : Option Expr} {l : Nat} {env : Env} (h : noLc value = true) : swapsWith value o l env = pure false := by
  unfold swapsWith
  cases value <;> first | rfl | exact absurd h Bool.false_ne_true
/-! ### fields -/
section
variable {K : PySem.W.Frag} {n : Nm} {m : List Addr} {H : Hp}
theorem frep_some : ∀ {fs : List (Nat × D)} {fv : List (Str × V)} {f : Nat} {d : D}, (∀ i j, n.at_ i = n.at_ j → i = j) → FRep K n m H fs fv → fs.lookup f = some d → ∃ v, fv.lookup (n.at_ f) = some v ∧ Rep K m H d v
  | [], _, _, _, _, _, h => by simp at h
  | (g, x) :: fs, fv, f, d, inj, r, h => by
    unfold FRep at r
    obtain ⟨v, ws, rfl, r1, r2⟩ := r
    rw [List.lookup_cons] at h ⊢
    by_cases e : f = g
    · subst e
      simp only [beq_self_eq_true, Option.some.injEq] at h ⊢
      subst h
      exact ⟨v, rfl, r1⟩
    · have e1 : (f == g) = false := by simp [e]
      have e2 : (n.at_ f == n.at_ g) = false := by
        rw [beq_eq_false_iff_ne]
        exact fun z => e (inj _ _ z)
      rw [e1] at h
      rw [e2]
      exact frep_some inj r2 h
theorem frep_none : ∀ {fs : List (Nat × D)} {fv : List (Str × V)} {f : Nat}, (∀ i j, n.at_ i = n.at_ j → i = j) → FRep K n m H fs fv → fs.lookup f = none → fv.lookup (n.at_ f) = none
  | [], fv, _, _, r, _ => by unfold FRep at r; rw [r]; rfl
  | (g, x) :: fs, fv, f, inj, r, h => by
    unfold FRep at r
    obtain ⟨v, ws, rfl, r1, r2⟩ := r
    rw [List.lookup_cons] at h ⊢
    by_cases e : f = g
    · subst e
      simp at h
    · have e1 : (f == g) = false := by simp [e]
      have e2 : (n.at_ f == n.at_ g) = false := by
        rw [beq_eq_false_iff_ne]
        exact fun z => e (inj _ _ z)
      rw [e1] at h
      rw [e2]
      exact frep_none inj r2 h
theorem frep_put {f : Nat} {d : D} {v : V} (inj : ∀ i j, n.at_ i = n.at_ j → i = j) (rd : Rep K m H d v) : ∀ {fs : List (Nat × D)} {fv : List (Str × V)}, FRep K n m H fs fv → FRep K n m H (putD f d fs) (putF (n.at_ f) v fv)
  | [], fv, r => by
    unfold FRep at r
    subst r
    exact ⟨v, [], rfl, rd, rfl⟩
  | (g, x) :: fs, fv, r => by
    unfold FRep at r
    obtain ⟨w, ws, rfl, r1, r2⟩ := r
    simp only [putD, putF]
    by_cases e : g = f
    · subst e
      rw [if_pos rfl, if_pos rfl]
      exact ⟨v, ws, rfl, rd, r2⟩
    · rw [if_neg e, if_neg (fun z => e (inj _ _ z))]
      exact ⟨w, _, rfl, r1, frep_put inj rd r2⟩
theorem frep_len : ∀ {fs : List (Nat × D)} {fv : List (Str × V)}, FRep K n m H fs fv → fv.length = fs.length
  | [], _, r => by unfold FRep at r; rw [r]; rfl
  | (g, x) :: fs, fv, r => by
    unfold FRep at r
    obtain ⟨w, ws, rfl, r1, r2⟩ := r
    rw [List.length_cons, List.length_cons, frep_len r2]
end
/-! ### what is known of the top -/
abbrev fAdr (K : PySem.W.Frag) (ct : Ct) (k : Nat) : Addr := He.fAd K (ct.fn k)
def exTail0 : List Value := [.type "Exception", .type "BaseException", .type "object"]
structure Sta (K : PySem.W.Frag) (mg : Str → Option Value) (n : Nm) (tb : Tb) (ct : Ct) : Prop where
  inj : ∀ i j, n.at_ i = n.at_ j → i = j
  glob : ∀ k x, ct.gnm k = some x → ∃ u v, mg x = some u ∧ RelV v u ∧ ∀ m H, Rep K m H (tb.glob k) v
  fng : ∀ k x, ct.fn k = (x, none) → k < ct.nf → mg x = some (.ref (fAdr K ct k))
  dat : ∀ C f, tb.dat C f = true → Cls K (He.ga K (n.cls C)) ∧ NoAttr K (He.ga K (n.cls C)) (n.at_ f)
  meth : ∀ C f k, tb.meth C f = some k → k < ct.nf ∧ Cls K (He.ga K (n.cls C)) ∧ Meth K (He.ga K (n.cls C)) (n.at_ f) (fAdr K ct k)
  mkc : ∀ c, ct.isC c = true → tb.init c < ct.nf ∧ mg (n.cls c) = some (.ref (He.ga K (n.cls c))) ∧ Mk K (He.ga K (n.cls c)) (fAdr K ct (tb.init c))
  blt : ∀ b : BI, mg (biN b) = none
  blr : mg "range" = none
  ble : mg "enumerate" = none
  blz : mg "zip" = none
  tInt : mg "bool" = none
section
variable {X : Cx} {g : G} {E : XK} {dat : Nat → Nat → Bool}
abbrev DatOk (X : Cx) (g : G) (dat : Nat → Nat → Bool) : Prop := ∀ C f, dat C f = true → Cls X.K (He.ga X.K (g.n.cls C)) ∧ NoAttr X.K (He.ga X.K (g.n.cls C)) (g.n.at_ f)
abbrev Inj (g : G) : Prop := ∀ i j, g.n.at_ i = g.n.at_ j → i = j
theorem attr_inv {d : D} {f : Nat} {S : Store} {m : List Addr} {H : Hp} {Q : VK} (q : ResOk g E m H (opAttr dat d f S) Q) : ∃ i C fs v, d = .ref i ∧ S[i]? = some (.ins C fs) ∧ dat C f = true ∧ fs.lookup f = some v ∧ opAttr dat d f S = .ok v S := by
  cases d with
  | ref i =>
    cases e : S[i]? with
    | none => simp only [opAttr, e] at q; exact (show False from q).elim
    | some o =>
      cases o with
      | lst l => simp only [opAttr, e] at q; exact (show False from q).elim
      | ins C fs =>
        cases h1 : dat C f with
        | false => simp only [opAttr, e, h1] at q; exact (show False from q).elim
        | true =>
          cases h2 : fs.lookup f with
          | none => simp only [opAttr, e, h1, h2] at q; exact (show False from q).elim
          | some v => exact ⟨i, C, fs, v, rfl, e, h1, h2, by simp only [opAttr, e, h1, h2]⟩
  | _ => exact (show False from q).elim
theorem pe_attrD (hK : X.K = g.K) (inj : Inj g) (hd : DatOk X g dat) {e : Expr} {f : Nat} {pos : Pos} {ea : Ev → Store → Res D} (he : PE X e (tD g E ea)) (hs : noSup e = true) :
    PE X (.Attribute e (g.n.at_ f) pos) (tD g E fun ρ S => (ea ρ S).bind fun x S1 => opAttr dat x f S1) := by
  refine PE.weak (pe_fld he (attrBase hs)) fun σ H Q ⟨m, ρ, S, sr, er, h⟩ => ?_
  refine seqD ⟨sr, er⟩ h fun m1 S1 H1 v d e1 s1 r h1 => ?_
  obtain ⟨i, C, fs, w, rfl, h2, h3, h4, h5⟩ := attr_inv h1
  obtain ⟨a, dx, fv, rfl, h6, h7, h8⟩ := ref_ins s1.sr r h2
  obtain ⟨c1, c2⟩ := hd C f h3
  obtain ⟨y, h9, h10⟩ := frep_some inj h8 h4
  rw [h5] at h1
  exact ⟨a, _, dx, fv, y, rfl, by rw [hK]; exact h7, c1, c2, h9, okVal s1.sr h10 h1⟩
/-- an instance changed -/
theorem okPut {m : List Addr} {S : Store} {H : Hp} {i C : Nat} {fs' : List (Nat × D)} {a dx : Addr} {fv : List (Str × V)} (sr : SR g m S H) (hi : m[i]? = some a) (r : FRep g.K g.n m H fs' fv) :
    Ext m H m (upd H a (.ins (He.ga g.K (g.n.cls C)) dx fv)) ∧ SR g m (S.set i (.ins C fs')) (upd H a (.ins (He.ga g.K (g.n.cls C)) dx fv)) := by
  have ha : a ∈ m := List.mem_of_getElem? hi
  have e : Ext m H m (upd H a (.ins (He.ga g.K (g.n.cls C)) dx fv)) := Ext.put ha fun ps z => by cases z
  exact ⟨e, sr.put hi ⟨dx, fv, rfl, FRep.kpt (e.kpt sr) _ _ r⟩⟩
theorem set_inv {d x : D} {f : Nat} {S S' : Store} (h : opSetAttr dat d f x S = some S') : ∃ i C fs, d = .ref i ∧ S[i]? = some (.ins C fs) ∧ dat C f = true ∧ fs.length < 1000 ∧ S' = S.set i (.ins C (putD f x fs)) := by
  cases d with
  | ref i =>
    cases e : S[i]? with
    | none => simp only [opSetAttr, e] at h; cases h
    | some o =>
      cases o with
      | lst l => simp only [opSetAttr, e] at h; cases h
      | ins C fs =>
        simp only [opSetAttr, e] at h
        split at h
        · rename_i hz
          exact ⟨i, C, fs, rfl, e, hz.1, hz.2, (Option.some.inj h).symm⟩
        · cases h
  | _ => cases h
/-- o.f = v as a target -/
def gAttr (K : PySem.W.Frag) (to : TE) (f : Str) : TG := fun v σ H Q => to σ H fun x H2 => ∃ a C dx fs, x = .ref a ∧ H2 a = some (.ins C dx fs) ∧ Cls K C ∧ NoAttr K C f ∧ fs.length < 1000 ∧ Q σ (upd H2 a (.ins C dx (putF f v fs)))
theorem pg_attr {o : Expr} {f : Str} {pos : Pos} {to : TE} (ho : PE X o to) : PG X (.Attribute o f pos) (gAttr X.K to f) := by
  refine ⟨fun pins s σ H v u Q I r h => ?_⟩
  show wpAny _ _ (do
    let ov ← holding [u] (eval o X.env)
    standAt pos.atName
    holding [u, ov] (setAttr ov f u)
    release [u, ov] []) _ _ _
  refine wpAny_bind (wpAny_holding (thn (ho.run pins s σ H _ I h) fun ov s1 ⟨x, H1, I1, r1, q⟩ => wpAny_bind (wpAny_standAt (wpAny_bind (wpAny_holding ?_)))))
  obtain ⟨a, C, dx, fs, rfl, ha, c, n, hl, q⟩ := q
  obtain rfl : ov = Value.ref a := r1
  exact setattr_ok I1 ha c n hl r fun s2 I2 => wpAny_release ⟨σ, _, I2, q⟩
theorem gAttr_of (hK : X.K = g.K) (inj : Inj g) (hd : DatOk X g dat) {f : Nat} {oe : Ev → Store → Res D} {m : List Addr} {ρ : Ev} {S : Store} {σ : L2.St} {H : Hp} {d : D} {v : V} {k : Store → Res (Fl × Ev)} {D : Ends} (s : Sit g m ρ S σ H) (rv : Rep g.K m H d v)
    (h : ResOkS g E m H ((oe ρ S).bind fun o S1 => match opSetAttr dat o f d S1 with | some S2 => k S2 | none => .bad) D) {Q : L2.St → Hp → Prop}
    (c : ∀ m1 S2 H2, Ext m H m1 H2 → Sit g m1 ρ S2 σ H2 → ResOkS g E m1 H2 (k S2) D → Q σ H2) : gAttr X.K (tD g E oe) (g.n.at_ f) v σ H Q := by
  refine seqDS (fa := oe) (k := fun o S1 => match opSetAttr dat o f d S1 with | some S2 => k S2 | none => .bad) s h fun m1 S1 H1 x o e1 s1 r h1 => ?_
  cases e2 : opSetAttr dat o f d S1 with
  | none => simp only [e2] at h1; exact (show False from h1).elim
  | some S2 =>
    simp only [e2] at h1
    obtain ⟨i, C, fs, rfl, h2, h3, h4, rfl⟩ := set_inv e2
    obtain ⟨a, dx, fv, rfl, h6, h7, h8⟩ := ref_ins s1.sr r h2
    obtain ⟨c1, c2⟩ := hd C f h3
    obtain ⟨x1, x2⟩ := okPut (C := C) (dx := dx) s1.sr h6 (frep_put inj (rv.ext e1 s.sr) h8)
    refine ⟨a, _, dx, fv, rfl, by rw [hK]; exact h7, c1, c2, by rw [frep_len h8]; exact h4, ?_⟩
    rw [hK]
    exact c m1 _ _ (e1.trans x1) (s1.ext x1 x2) (ResOkS.ext x1 h1)
end
end K76
set_option Elab.async false
set_option linter.all false
set_option maxRecDepth 100000
set_option maxHeartbeats 4000000
/-! K5b: rules of expressions by tD -/
namespace K76
open PySem PySem.Spec PyProof.Rows L2
def spD (g : G) (f : List D → Store → Res D) : Sp := fun vs H Q E => ∃ m S ds, SR g m S H ∧ Reps g.K m H ds vs ∧ ResOk g E m H (f ds S) Q
/-- the defs, promised at a level -/
def Fns (X : Cx) (g : G) (ct : Ct) (call : Nat → List D → Store → Res D) (L : Nat) : Prop := ∀ k, k < ct.nf → ∃ fd ps, FnOk X.prog X.w X.K X.mg X.base (L2.CX X.prog X.w) L (fAdr X.K ct k) fd ps (spD g (call k)) ∧ Binds X.K fd ps [] ∧ PySem.W.keepIn X.K (.ref (fAdr X.K ct k)) = true
section
variable {X : Cx} {g : G} {E : XK} {e a b c : Expr} {pos : Pos} {ea eb ec : Ev → Store → Res D}
/-! ### tests -/
theorem tB_of {f : Ev → Store → Res D} {σ : L2.St} {H : Hp} {Q : Bool → Hp → Prop} (h : tDB g E f σ H Q) : tB (tD g E f) σ H Q := by
  obtain ⟨m, ρ, S, sr, er, h⟩ := h
  refine ⟨m, ρ, S, sr, er, ?_⟩
  cases e : f ρ S with
  | ok d S1 =>
    rw [e] at h
    obtain ⟨b, rfl, h⟩ := h
    intro m1 H1 v e1 s1 r
    exact ⟨b, rep_bl r, h m1 H1 e1 s1⟩
  | exc c d S1 =>
    rw [e] at h
    exact h
  | bad =>
    rw [e] at h
    exact h
theorem pt_of (he : PE X e (tD g E ea)) (hw : ∀ whole, isTrue e X.env whole = (do let v ← whole; standAt e.pos; holding [v] (truthy v))) : PT X e (tDB g E ea) := PT.weak (pt_val he hw) fun _ _ _ h => tB_of h
theorem tTest_of {f : Ev → Store → Res D} {σ : L2.St} {H : Hp} {Q : Bool → Hp → Prop} (h : tDB g E f σ H Q) : tTest (tD g E f) σ H Q := tB_of h
/-- a value that is wanted as a truth value -/
def asK (Q : Bool → Hp → Prop) : VK := fun x H => ∃ k, x = .bl k ∧ Q k H
theorem okB_ok {m : List Addr} {H : Hp} {r : Res D} {Q : Bool → Hp → Prop} (h : ResOkB g E m H r Q) : ResOk g E m H r (asK Q) := by
  cases r with
  | ok d S =>
    obtain ⟨b, rfl, h⟩ := h
    intro m1 H1 v e1 s1 r
    exact ⟨b, rep_bl r, h m1 H1 e1 s1⟩
  | exc c d S => exact h
  | bad => exact h
/-! ### operators -/
theorem tOp_of {r : R2} {f : D → D → Store → Res D} {σ : L2.St} {H : Hp} {Q : VK} (h : tD g E (fun ρ S => (ea ρ S).bind fun x S1 => (eb ρ S1).bind fun y S2 => f x y S2) σ H Q)
    (c : ∀ x y H, rV g E f x y H Q → r x y H Q) : tOp r (tD g E ea) (tD g E eb) σ H Q := by
  obtain ⟨m, ρ, S, sr, er, h⟩ := h
  refine seqD (fa := ea) ⟨sr, er⟩ h fun m1 S1 H1 v d e1 s1 r1 h1 => ?_
  refine seqD (fa := eb) s1 h1 fun m2 S2 H2 u d2 e2 s2 r2 h2 => ?_
  exact c v u H2 ⟨m2, S2, d, d2, s2.sr, r1.ext e2 s1.sr, r2, h2⟩
theorem pe_opD {op : Operator} {f : D → D → Store → Res D} (ho : OpR X (binaryOp op) (rV g E f)) (ha : PE X a (tD g E ea)) (hb : PE X b (tD g E eb)) :
    PE X (.BinOp a op b pos) (tD g E fun ρ S => (ea ρ S).bind fun x S1 => (eb ρ S1).bind fun y S2 => f x y S2) :=
  PE.weak (pe_op ho ha hb) fun _ _ _ h => tOp_of h fun _ _ _ h => h
theorem pe_negD (ha : PE X a (tD g E ea)) : PE X (.UnaryOp .USub a pos) (tD g E fun ρ S => (ea ρ S).bind fun x S1 => match x with | .int i => .ok (.int (-i)) S1 | _ => .bad) := by
  refine PE.weak (pe_un un_neg ha) fun σ H Q h => ?_
  obtain ⟨m, ρ, S, sr, er, h⟩ := h
  refine seqD (fa := ea) ⟨sr, er⟩ h fun m1 S1 H1 v d e1 s1 r1 h1 => ?_
  cases d with
  | int i =>
    obtain rfl := rep_int r1
    exact ⟨i, rfl, okVal s1.sr (mk_int _) h1⟩
  | _ => exact (show False from h1).elim
theorem pe_cmpD {op : CmpOp} {f : D → D → Store → Res D} (ho : OpR X (compareOp op) (rV g E f)) (ha : PE X a (tD g E ea)) (hb : PE X b (tD g E eb)) (hm : behindInMarks op b = false) :
    PE X (.Compare a [op] [b] pos) (tD g E fun ρ S => (ea ρ S).bind fun x S1 => (eb ρ S1).bind fun y S2 => f x y S2) :=
  PE.weak (pe_cmpR ho ha hb hm) fun _ _ _ h => tOp_of h fun _ _ _ h => h
theorem pt_cmpD {op : CmpOp} {f : D → D → Store → Res D} (ho : OpR X (compareOp op) (rV g E f)) (ha : PE X a (tD g E ea)) (hb : PE X b (tD g E eb)) (hm : behindInMarks op b = false) :
    PT X (.Compare a [op] [b] pos) (tDB g E fun ρ S => (ea ρ S).bind fun x S1 => (eb ρ S1).bind fun y S2 => f x y S2) :=
  PT.weak (pt_cmpR ho ha hb hm) fun σ H Q h => tOp_of (tTest_of h) fun _ _ _ h => h
def chainD (ea eb ec : Ev → Store → Res D) (f f' : D → D → Store → Res D) : Ev → Store → Res D := fun ρ S => (ea ρ S).bind fun x S1 => (eb ρ S1).bind fun y S2 => (f x y S2).bind (asB fun t S3 => match t with
  | true => (ec ρ S3).bind fun z S4 => f' y z S4
  | false => .ok (.bl false) S3)
theorem tChain_of {f f' : D → D → Store → Res D} {σ : L2.St} {H : Hp} {Q : VK} (h : tD g E (chainD ea eb ec f f') σ H Q) : tChain (rV g E f) (rV g E f') (tD g E ea) (tD g E eb) (tD g E ec) σ H Q := by
  obtain ⟨m, ρ, S, sr, er, h⟩ := h
  refine seqD (fa := ea) ⟨sr, er⟩ h fun m1 S1 H1 v d e1 s1 r1 h1 => ?_
  refine seqD (fa := eb) s1 h1 fun m2 S2 H2 u d2 e2 s2 r2 h2 => ?_
  refine ⟨m2, S2, d, d2, s2.sr, r1.ext e2 s1.sr, r2, ?_⟩
  cases e3 : f d d2 S2 with
  | ok dd S3 =>
    rw [e3] at h2
    cases dd with
    | bl t =>
      intro m3 H3 z x3 s3 r3
      refine ⟨t, rep_bl r3, ?_⟩
      cases t with
      | true =>
        rw [if_pos rfl]
        have h3 := ResOk.ext x3 h2
        refine seqD (fa := ec) (s2.ext x3 s3) h3 fun m4 S4 H4 w d4 e4 s4 r4 h4 => ?_
        exact ⟨m4, S4, d2, d4, s4.sr, (r2.ext x3 s2.sr).ext e4 s3, r4, h4⟩
      | false =>
        rw [if_neg Bool.false_ne_true]
        exact okVal s3 (mk_bl _) (ResOk.ext x3 h2)
    | _ => exact (show False from h2).elim
  | exc cc dd S3 =>
    rw [e3] at h2
    exact h2
  | bad =>
    rw [e3] at h2
    exact h2
theorem pe_chainD {op op' : CmpOp} {f f' : D → D → Store → Res D} (ho : OpR X (compareOp op) (rV g E f)) (ho' : OpR X (compareOp op') (rV g E f')) (ha : PE X a (tD g E ea)) (hb : PE X b (tD g E eb)) (hc : PE X c (tD g E ec)) (hm : lastMarks [op, op'] [b, c] = false) :
    PE X (.Compare a [op, op'] [b, c] pos) (tD g E (chainD ea eb ec f f')) := PE.weak (pe_chain ho ho' ha hb hc hm) fun _ _ _ h => tChain_of h
theorem pt_chainD {op op' : CmpOp} {f f' : D → D → Store → Res D} (ho : OpR X (compareOp op) (rV g E f)) (ho' : OpR X (compareOp op') (rV g E f')) (ha : PE X a (tD g E ea)) (hb : PE X b (tD g E eb)) (hc : PE X c (tD g E ec)) (hm : lastMarks [op, op'] [b, c] = false) :
    PT X (.Compare a [op, op'] [b, c] pos) (tDB g E (chainD ea eb ec f f')) := PT.weak (pt_chain ho ho' ha hb hc hm) fun _ _ _ h => tChain_of (tTest_of h)
/-! ### and, or, not, if -/
section
variable {rest : List Expr} {er_ : Ev → Store → Res D}
def andD (ea er_ : Ev → Store → Res D) : Ev → Store → Res D := fun ρ S => (ea ρ S).bind (asB fun t S1 => match t with
  | true => er_ ρ S1
  | false => .ok (.bl false) S1)
def orD (ea er_ : Ev → Store → Res D) : Ev → Store → Res D := fun ρ S => (ea ρ S).bind (asB fun t S1 => match t with
  | true => .ok (.bl true) S1
  | false => er_ ρ S1)
theorem bl_ok {m : List Addr} {S : Store} {H : Hp} {t : Bool} {Q : Bool → Hp → Prop} (sr : SR g m S H) (h : ResOkB g E m H (.ok (.bl t) S) Q) : Q t H := by
  obtain ⟨b, e, h⟩ := h
  cases e
  exact h m H (Ext.refl m H) sr
/-- a test by PE -/
theorem seqV {fa : Ev → Store → Res D} {k : Bool → Store → Res D} {Q : VK} {m : List Addr} {ρ : Ev} {S : Store} {σ : L2.St} {H : Hp} (s : Sit g m ρ S σ H) (h : ResOk g E m H ((fa ρ S).bind (asB k)) Q) {R : Bool → Hp → Prop}
    (c : ∀ m1 S1 H1 b, Ext m H m1 H1 → Sit g m1 ρ S1 σ H1 → ResOk g E m1 H1 (k b S1) Q → R b H1) : tD g E fa σ H fun x H1 => ∃ c, x = .bl c ∧ R c H1 := by
  refine seqD (fa := fa) s h fun m1 S1 H1 v d e1 s1 r1 h1 => ?_
  cases d with
  | bl t => exact ⟨t, rep_bl r1, c m1 S1 H1 t e1 s1 h1⟩
  | _ => exact (show False from h1).elim
theorem pe_andD (ha : PE X a (tD g E ea)) (hb : PE X (.BoolOp .And (b :: rest) pos) (tD g E er_)) : PE X (.BoolOp .And (a :: b :: rest) pos) (tD g E (andD ea er_)) := by
  refine PE.weak (pe_and ha hb) fun σ H Q h => ?_
  obtain ⟨m, ρ, S, sr, er, h⟩ := h
  refine seqV (fa := ea) ⟨sr, er⟩ h fun m1 S1 H1 t e1 s1 h1 => ?_
  cases t with
  | true => exact ⟨m1, ρ, S1, s1.sr, s1.er, h1⟩
  | false => exact okVal s1.sr (mk_bl _) h1
theorem pe_orD (ha : PE X a (tD g E ea)) (hb : PE X (.BoolOp .Or (b :: rest) pos) (tD g E er_)) : PE X (.BoolOp .Or (a :: b :: rest) pos) (tD g E (orD ea er_)) := by
  refine PE.weak (pe_or ha hb) fun σ H Q h => ?_
  obtain ⟨m, ρ, S, sr, er, h⟩ := h
  refine seqV (fa := ea) ⟨sr, er⟩ h fun m1 S1 H1 t e1 s1 h1 => ?_
  cases t with
  | true => exact okVal s1.sr (mk_bl _) h1
  | false => exact ⟨m1, ρ, S1, s1.sr, s1.er, h1⟩
theorem pw_andD (ha : PT X a (tDB g E ea)) (hb : PW X (.BoolOp .And (b :: rest) pos) (tDB g E er_)) : PW X (.BoolOp .And (a :: b :: rest) pos) (tDB g E (andD ea er_)) := by
  refine PW.weak (pw_and ha hb) fun σ H Q h => ?_
  obtain ⟨m, ρ, S, sr, er, h⟩ := h
  refine seqBB (fa := ea) ⟨sr, er⟩ h fun m1 S1 H1 t e1 s1 h1 => ?_
  cases t with
  | true => exact ⟨m1, ρ, S1, s1.sr, s1.er, h1⟩
  | false => exact bl_ok s1.sr h1
theorem pw_orD (ha : PT X a (tDB g E ea)) (hb : PW X (.BoolOp .Or (b :: rest) pos) (tDB g E er_)) : PW X (.BoolOp .Or (a :: b :: rest) pos) (tDB g E (orD ea er_)) := by
  refine PW.weak (pw_or ha hb) fun σ H Q h => ?_
  obtain ⟨m, ρ, S, sr, er, h⟩ := h
  refine seqBB (fa := ea) ⟨sr, er⟩ h fun m1 S1 H1 t e1 s1 h1 => ?_
  cases t with
  | true => exact bl_ok s1.sr h1
  | false => exact ⟨m1, ρ, S1, s1.sr, s1.er, h1⟩
def notD (ea : Ev → Store → Res D) : Ev → Store → Res D := fun ρ S => (ea ρ S).bind (asB fun t S1 => .ok (.bl !t) S1)
theorem pe_notD (ha : PE X a (tD g E ea)) : PE X (.UnaryOp .Not a pos) (tD g E (notD ea)) := by
  refine PE.weak (pe_not ha) fun σ H Q h => ?_
  obtain ⟨m, ρ, S, sr, er, h⟩ := h
  exact seqV (fa := ea) ⟨sr, er⟩ h fun m1 S1 H1 t e1 s1 h1 => okVal s1.sr (mk_bl _) h1
theorem pt_notD (ha : PT X a (tDB g E ea)) : PT X (.UnaryOp .Not a pos) (tDB g E (notD ea)) := by
  refine PT.weak (pt_not ha) fun σ H Q h => ?_
  obtain ⟨m, ρ, S, sr, er, h⟩ := h
  exact seqBB (fa := ea) ⟨sr, er⟩ h fun m1 S1 H1 t e1 s1 h1 => bl_ok s1.sr h1
def iteD (ec ea eb : Ev → Store → Res D) : Ev → Store → Res D := fun ρ S => (ec ρ S).bind (asB fun t S1 => match t with
  | true => ea ρ S1
  | false => eb ρ S1)
theorem pe_iteD (hc : PT X c (tDB g E ec)) (ha : PE X a (tD g E ea)) (hb : PE X b (tD g E eb)) : PE X (.IfExp c a b pos) (tD g E (iteD ec ea eb)) := by
  refine PE.weak (pe_ifExp hc ha hb) fun σ H Q h => ?_
  obtain ⟨m, ρ, S, sr, er, h⟩ := h
  refine seqB (fa := ec) ⟨sr, er⟩ h fun m1 S1 H1 t e1 s1 h1 => ?_
  cases t with
  | true => rw [if_pos rfl]; exact ⟨m1, ρ, S1, s1.sr, s1.er, h1⟩
  | false => rw [if_neg Bool.false_ne_true]; exact ⟨m1, ρ, S1, s1.sr, s1.er, h1⟩
end
/-! ### arguments, displays -/
section
variable {es : List Expr} {ex : Ev → Store → Res (List D)}
theorem pa_nilD : PA X [] (tDA g E fun _ S => .ok [] S) := PA.weak pa_nil fun σ H Q h => by
  obtain ⟨m, ρ, S, sr, er, h⟩ := h
  exact h m H [] (Ext.refl m H) sr Reps.nil
theorem pa_consD (ha : PE X e (tD g E ea)) (hr : PA X es (tDA g E ex)) (hs : nst e = true) : PA X (e :: es) (tDA g E fun ρ S => (ea ρ S).bind fun x S1 => (ex ρ S1).bind fun xs S2 => .ok (x :: xs) S2) := by
  refine PA.weak (pa_cons ha hr (starEach_nst hs)) fun σ H Q h => ?_
  obtain ⟨m, ρ, S, sr, er, h⟩ := h
  refine seqDA (fa := ea) ⟨sr, er⟩ h fun m1 S1 H1 v d e1 s1 r1 h1 => ?_
  refine seqAA (fa := ex) s1 h1 fun m2 S2 H2 vs ds e2 s2 r2 h2 => ?_
  exact h2 m2 H2 _ (Ext.refl _ _) s2.sr (Reps.cons (r1.ext e2 s1.sr) r2)
theorem pe_tupD {x1 : Nat} (h : PA X es (tDA g E ex)) : PE X (.Tuple es x1 pos) (tD g E fun ρ S => (ex ρ S).bind fun xs S1 => if xs.length ≤ sizeLine then .ok (.tup xs) S1 else .bad) := by
  refine PE.weak (pe_tup h) fun σ H Q h => ?_
  obtain ⟨m, ρ, S, sr, er, h⟩ := h
  refine seqA (fa := ex) ⟨sr, er⟩ h fun m1 S1 H1 vs ds e1 s1 r1 h1 => ?_
  split at h1
  · rename_i hz
    exact ⟨by rw [r1.length]; exact hz, fun p hp => okTup s1.sr r1 h1 hp⟩
  · exact (show False from h1).elim
theorem pe_lstD (h : PA X es (tDA g E ex)) : PE X (.List es pos) (tD g E fun ρ S => (ex ρ S).bind fun xs S1 => if xs.length ≤ sizeLine then .ok (.ref S1.length) (S1 ++ [.lst xs]) else .bad) := by
  refine PE.weak (pe_lst h) fun σ H Q h => ?_
  obtain ⟨m, ρ, S, sr, er, h⟩ := h
  refine seqA (fa := ex) ⟨sr, er⟩ h fun m1 S1 H1 vs ds e1 s1 r1 h1 => ?_
  split at h1
  · rename_i hz
    exact ⟨by rw [r1.length]; exact hz, fun p hp => okLst s1.sr r1 h1 hp⟩
  · exact (show False from h1).elim
end
/-! ### subscripts -/
theorem plainIx {i : Expr} (h : ∀ lo hi p, i ≠ .Slice lo hi none p) : PlainIx i := fun o j => by
  unfold subscripted
  split
  · exact absurd rfl (h _ _ _)
  · rename_i q; cases q
  · rfl
theorem pe_ixD (hK : X.K = g.K) (ha : PE X a (tD g E ea)) (hb : PE X b (tD g E eb)) (hs : PlainIx b) : PE X (.Subscript a b pos) (tD g E fun ρ S => (ea ρ S).bind fun x S1 => (eb ρ S1).bind fun y S2 => opIdx x y S2) :=
  PE.weak (pe_ix (ix_V hK) ha hb hs) fun _ _ _ h => tOp_of h fun _ _ _ h => h
/-- a bound of a slice -/
def ResOkE {α : Type} (g : G) (E : XK) (m : List Addr) (H : Hp) (r : Res α) (Q : α → Hp → Prop) : Prop := match r with
  | .ok d S => ∀ (m' : List Addr) (H' : Hp), Ext m H m' H' → SR g m' S H' → Q d H'
  | .exc c d S => ∀ (m' : List Addr) (H' : Hp) (dx : Addr) (v : V), Ext m H m' H' → SR g m' S H' → H' dx = some (.xd [("what", v)]) → Rep g.K m' H' d v → E (.ref (He.ga g.K (g.n.cls c))) (some dx) H'
  | .bad => False
def tDO (g : G) (E : XK) (f : Ev → Store → Res (Option Int)) : TO := fun σ H Q => ∃ m ρ S, SR g m S H ∧ ER g m H ρ σ ∧ ResOkE g E m H (f ρ S) Q
theorem PO.weak {e : Option Expr} {t t' : TO} (h : PO X e t) (c : ∀ σ H Q, t' σ H Q → t σ H Q) : PO X e t' := ⟨fun pins s σ H Q I q => h.run pins s σ H Q I (c σ H Q q)⟩
theorem seqOO {m : List Addr} {ρ : Ev} {S : Store} {σ : L2.St} {H : Hp} {fa : Ev → Store → Res (Option Int)} {k : Option Int → Store → Res D} {Q : VK} (s : Sit g m ρ S σ H) (h : ResOk g E m H ((fa ρ S).bind k) Q) {R : Option Int → Hp → Prop}
    (c : ∀ m1 S1 H1 o, Ext m H m1 H1 → Sit g m1 ρ S1 σ H1 → ResOk g E m1 H1 (k o S1) Q → R o H1) : tDO g E fa σ H R := by
  refine ⟨m, ρ, S, s.sr, s.er, ?_⟩
  cases e : fa ρ S with
  | ok d S1 =>
    rw [e] at h
    exact fun m1 H1 e1 sr => c m1 S1 H1 d e1 (s.ext e1 sr) (ResOk.ext e1 h)
  | exc c d S1 =>
    rw [e] at h
    exact h
  | bad =>
    rw [e] at h
    exact h
theorem po_noneD : PO X none (tDO g E fun _ S => .ok none S) := PO.weak po_none fun σ H Q h => by
  obtain ⟨m, ρ, S, sr, er, h⟩ := h
  exact h m H (Ext.refl m H) sr
theorem po_someD (ha : PE X a (tD g E ea)) : PO X (some a) (tDO g E fun ρ S => (ea ρ S).bind fun x S1 => match x with | .int i => .ok (some i) S1 | _ => .bad) := PO.weak (po_some ha) fun σ H Q h => by
  obtain ⟨m, ρ, S, sr, er, h⟩ := h
  refine ⟨m, ρ, S, sr, er, ?_⟩
  cases e : ea ρ S with
  | ok d S1 =>
    simp only [e, Res.bind] at h
    cases d with
    | int i =>
      intro m1 H1 v e1 s1 r
      exact ⟨i, rep_int r, h m1 H1 e1 s1⟩
    | _ => exact (show False from h).elim
  | exc cc d S1 =>
    simp only [e, Res.bind] at h
    exact h
  | bad =>
    simp only [e, Res.bind] at h
    exact h
theorem pe_slcD (hK : X.K = g.K) {lo hi : Option Expr} {el eh : Ev → Store → Res (Option Int)} {p2 : Pos} (ha : PE X a (tD g E ea)) (hl : PO X lo (tDO g E el)) (hh : PO X hi (tDO g E eh)) :
    PE X (.Subscript a (.Slice lo hi none p2) pos) (tD g E fun ρ S => (ea ρ S).bind fun x S1 => (el ρ S1).bind fun l S2 => (eh ρ S2).bind fun h S3 => opSlc x l h S3) := by
  refine PE.weak (pe_slice (sl_V (E := E) hK) ha hl hh) fun σ H Q h => ?_
  obtain ⟨m, ρ, S, sr, er, h⟩ := h
  refine seqD (fa := ea) ⟨sr, er⟩ h fun m1 S1 H1 v d e1 s1 r1 h1 => ?_
  refine seqOO (fa := el) s1 h1 fun m2 S2 H2 o2 e2 s2 h2 => ?_
  refine seqOO (fa := eh) s2 h2 fun m3 S3 H3 o3 e3 s3 h3 => ?_
  exact ⟨m3, S3, d, s3.sr, (r1.ext e2 s1.sr).ext e3 s2.sr, h3⟩
/-! ### built-in functions -/
theorem pe_biD {b0 : BI} {x : Str} {p : Pos} {es : List Expr} {ex : Ev → Store → Res (List D)} (hc : CallR X (biV b0) (rCV g E (opBI b0))) (hg : Gl X (biN b0)) (hm : X.mg (biN b0) = none) (hi : biIs b0 = false)
    (ha : PA X (e :: es) (tDA g E ex)) (he : nst e = true) (hs : es.all nst = true) : PE X (.Call (.Name (biN b0) p) (e :: es) [] pos) (tD g E fun ρ S => (ex ρ S).bind fun xs S1 => opBI b0 xs S1) := by
  have w : ∀ σ H Q, tD g E (fun ρ S => (ex ρ S).bind fun xs S1 => opBI b0 xs S1) σ H Q → tCB (rCV g E (opBI b0)) (tDA g E ex) σ H Q := fun σ H Q h => by
    obtain ⟨m, ρ, S, sr, er, h⟩ := h
    exact seqA (fa := ex) ⟨sr, er⟩ h fun m1 S1 H1 vs ds e1 s1 r1 h1 => ⟨m1, S1, ds, s1.sr, r1, h1⟩
  have hp := noStars (env := X.env) (pos := pos) hs
  have he2 := starEach_nst (es := es) (env := X.env) he
  cases b0 <;> first
    | exact absurd hi.symm Bool.false_ne_true
    | exact PE.weak (pe_callB hc hg hm rfl ha (by decide) (by decide) he2 hp) w
    | exact PE.weak (pe_callTy hc hg hm rfl ha (by decide) (by decide) he2 hp) w
theorem pe_isD {b0 : BI} {p p2 : Pos} (hK : X.K = g.K) (hi : biIs b0 = true) (hg : Gl X "isinstance") (hm : X.mg "isinstance" = none) (hg2 : Gl X (isT b0)) (hm2 : X.mg (isT b0) = none) (ha : PE X a (tD g E ea)) (hs : nst a = true) :
    PE X (.Call (.Name "isinstance" p) [a, .Name (isT b0) p2] [] pos) (tD g E fun ρ S => (ea ρ S).bind fun x S1 => opBI b0 [x] S1) := by
  have hty : PE X (.Name (isT b0) p2) (tC (.ty (isT b0))) := by
    cases b0 <;> first
      | exact absurd hi Bool.false_ne_true
      | exact pe_bltn hg2 hm2 rfl rfl
  refine PE.weak (pe_callB (cv_is (E := E) hK hi) hg hm rfl (pa_cons ha (pa_cons hty pa_nil) (starEach_nst hs)) (by decide) (by decide) (starEach_nst hs)) fun σ H Q h => ?_
  obtain ⟨m, ρ, S, sr, er, h⟩ := h
  refine seqD (fa := ea) ⟨sr, er⟩ h fun m1 S1 H1 v d e1 s1 r1 h1 => ?_
  rw [opBI_is hi] at h1
  exact ⟨m1, S1, d, v, s1.sr, r1, rfl, h1⟩
end
end K76
set_option Elab.async false
set_option linter.all false
set_option maxRecDepth 100000
set_option maxHeartbeats 4000000
/-! K5c: calls of defs, classes, methods, methods of lists -/
namespace K76
open PySem PySem.Spec PyProof.Rows L2
section
variable {X : Cx} {g : G} {E : XK} {tb : Tb} {ct : Ct} {call : Nat → List D → Store → Res D} {L : Nat} {e a b c : Expr} {es : List Expr} {pos : Pos} {ea eb : Ev → Store → Res D} {ex : Ev → Store → Res (List D)}
abbrev NilOf (es : List Expr) (ex : Ev → Store → Res (List D)) : Prop := es = [] → ∀ ρ S, ex ρ S = .ok [] S
theorem pe_callD (F : Fns X g ct call L) (hr : Room L X.A) (hx : Passes (L2.CX X.prog X.w) X E) {k : Nat} {x : Str} {p : Pos} (hk : k < ct.nf) (hf : ct.fn k = (x, none)) (hg : Gl X x) (hm : X.mg x = some (.ref (fAdr X.K ct k))) (hd : (x == ("__debug__" : Str)) = false)
    (ha : PA X es (tDA g E ex)) (hz : NilOf es ex) (hs : es.all nst = true) : PE X (.Call (.Name x p) es [] pos) (tD g E fun ρ S => (ex ρ S).bind fun xs S1 => call k xs S1) := by
  obtain ⟨fd, ps, f1, f2, f3⟩ := F k hk
  cases es with
  | nil =>
    refine PE.weak (pe_call0 (dvs := []) f1 hr hg hm f3 f2 .nil hx hd) fun σ H Q h => ?_
    obtain ⟨m, ρ, S, sr, er, h⟩ := h
    simp only [hz rfl] at h
    exact ⟨m, S, [], sr, Reps.nil, h⟩
  | cons e es =>
    rw [List.all_cons, Bool.and_eq_true] at hs
    refine PE.weak (pe_call (dvs := []) f1 hr hg hm f3 f2 .nil hx ha hd (starEach_nst hs.1) (noStars hs.2)) fun σ H Q h => ?_
    obtain ⟨m, ρ, S, sr, er, h⟩ := h
    refine seqA (fa := ex) ⟨sr, er⟩ h fun m1 S1 H1 vs ds e1 s1 r1 h1 => ?_
    rw [List.append_nil]
    exact ⟨m1, S1, ds, s1.sr, r1, h1⟩
/-- a new instance is laid -/
theorem new_ins {m : List Addr} {S : Store} {H : Hp} {x dx C : Addr} {cc : Nat} (sr : SR g m S H) (hx : H x = none) (hdx : H dx = none) (ne : dx ≠ x) (hC : C = He.ga g.K (g.n.cls cc)) :
    Ext m H (m ++ [x]) (upd (upd H dx (.own x)) x (.ins C dx [])) ∧ SR g (m ++ [x]) (S ++ [.ins cc []]) (upd (upd H dx (.own x)) x (.ins C dx [])) := by
  have hx2 : upd H dx (.own x) x = none := by rw [upd_ne (Ne.symm ne)]; exact hx
  have e1 : Ext m H m (upd H dx (.own x)) := Ext.new hdx
  have s1 : SR g m S (upd H dx (.own x)) := sr.new hdx
  refine ⟨e1.trans (Ext.push hx2), s1.push hx2 ⟨dx, [], by rw [hC], by unfold FRep; rfl⟩⟩
theorem pe_makeD (hK : X.K = g.K) (F : Fns X g ct call L) (hr : Room (L + 1) X.A) (hx : Passes (L2.CX X.prog X.w) X E) {cc k : Nat} {x : Str} {p : Pos} (hk : k < ct.nf) (hc : g.n.cls cc = x) (hg : Gl X x) (hm : X.mg x = some (.ref (He.ga X.K x))) (M : Mk X.K (He.ga X.K x) (fAdr X.K ct k)) (hd : (x == ("__debug__" : Str)) = false)
    (ha : PA X es (tDA g E ex)) (hz : NilOf es ex) (hs : es.all nst = true) :
    PE X (.Call (.Name x p) es [] pos) (tD g E fun ρ S => (ex ρ S).bind fun xs S1 => (call k (.ref S1.length :: xs) (S1 ++ [.ins cc []])).bind fun r S2 => match r with | .non => .ok (.ref S1.length) S2 | _ => .bad) := by
  obtain ⟨fd, ps, f1, f2, f3⟩ := F k hk
  have go : ∀ (m : List Addr) (S : Store) (H : Hp) (vs : List V) (ds : List D) (Q : VK), SR g m S H → Reps g.K m H ds vs →
      ResOk g E m H ((call k (.ref S.length :: ds) (S ++ [.ins cc []])).bind fun r S2 => match r with | .non => .ok (.ref S.length) S2 | _ => .bad) Q →
      ∀ x1 dx, H x1 = none → H dx = none → dx ≠ x1 → spD g (call k) (.ref x1 :: (vs ++ [])) (upd (upd H dx (.own x1)) x1 (.ins (He.ga X.K x) dx [])) (fun v H2 => v = .non ∧ Q (.ref x1) H2) E := by
    intro m S H vs ds Q sr r h x1 dx h1 h2 ne
    obtain ⟨n1, n2⟩ := new_ins (cc := cc) sr h1 h2 ne (C := He.ga X.K x) (by rw [hK, hc])
    have hl : m.length = List.length S := sr.len
    have rself : Rep g.K (m ++ [x1]) (upd (upd H dx (.own x1)) x1 (.ins (He.ga X.K x) dx [])) (.ref S.length) (.ref x1) := mk_ref (by rw [← hl]; simp)
    refine ⟨m ++ [x1], S ++ [.ins cc []], .ref S.length :: ds, n2, Reps.cons rself ?_, ?_⟩
    · rw [List.append_nil]
      exact r.ext n1 sr
    · have h' := ResOk.ext n1 h
      cases e : call k (.ref S.length :: ds) (S ++ [.ins cc []]) with
      | ok d S2 =>
        simp only [e, Res.bind] at h'
        cases d with
        | non =>
          intro m2 H2 v e2 s2 r2
          exact ⟨rep_non r2, h' m2 H2 _ e2 s2 (rself.ext e2 n2)⟩
        | _ => exact (show False from h').elim
      | exc c0 d S2 =>
        simp only [e, Res.bind] at h'
        exact h'
      | bad =>
        simp only [e, Res.bind] at h'
        exact h'
  cases es with
  | nil =>
    refine PE.weak (pe_make0 (dvs := []) M f1 hr hg hm f2 .nil hx hd) fun σ H Q h => ?_
    obtain ⟨m, ρ, S, sr, er, h⟩ := h
    simp only [hz rfl] at h
    exact go m S H [] [] Q sr Reps.nil h
  | cons e es =>
    rw [List.all_cons, Bool.and_eq_true] at hs
    refine PE.weak (pe_make (dvs := []) M f1 hr hg hm f2 .nil hx ha hd (starEach_nst hs.1) (noStars hs.2)) fun σ H Q h => ?_
    obtain ⟨m, ρ, S, sr, er, h⟩ := h
    refine seqA (fa := ex) ⟨sr, er⟩ h fun m1 S1 H1 vs ds e1 s1 r1 h1 => ?_
    exact go m1 S1 H1 vs ds Q s1.sr r1 h1
/-! ### methods of instances -/
def methD (tb : Tb) (call : Nat → List D → Store → Res D) (ea : Ev → Store → Res D) (f : Nat) (ex : Ev → Store → Res (List D)) : Ev → Store → Res D := fun ρ S => (ea ρ S).bind fun x S1 => (match x with
    | .ref i => (match S1[i]? with
      | some (.ins C fs) => (match fs.lookup f, tb.meth C f with
        | none, some k => (ex ρ S1).bind fun xs S2 => call k (.ref i :: xs) S2
        | _, _ => .bad)
      | _ => .bad)
    | _ => .bad)
theorem pe_methD (hK : X.K = g.K) (st : Sta X.K X.mg g.n tb ct) (F : Fns X g ct call L) (hr : Room L X.A) (hx : Passes (L2.CX X.prog X.w) X E) {f : Nat} {apos : Pos} (he : PE X e (tD g E ea)) (h1 : noSup e = true) (h2 : fewB es = true) (h3 : (apos.endLine == pos.line) = true)
    (ha : PA X es (tDA g E ex)) (hz : NilOf es ex) : PE X (.Call (.Attribute e (g.n.at_ f) apos) es [] pos) (tD g E (methD tb call ea f ex)) := by
  have hs : es.all nst = true := by
    unfold fewB at h2
    exact (Bool.and_eq_true_iff.mp h2).1
  refine ⟨fun pins s σ H Q I h => ?_⟩
  obtain ⟨m, ρ, S, sr, er, h⟩ := h
  refine methcall_of he I (seqD (fa := ea) ⟨sr, er⟩ h fun m1 S1 H1 v d e1 s1 r1 q1 => ?_) (meth_tree h1 h2 h3)
  cases d with
  | ref i =>
    cases o1 : S1[i]? with
    | none => simp only [o1] at q1; exact (show False from q1).elim
    | some o =>
      cases o with
      | lst l => simp only [o1] at q1; exact (show False from q1).elim
      | ins C fs =>
        simp only [o1] at q1
        cases l1 : fs.lookup f with
        | some y => simp only [l1] at q1; exact (show False from q1).elim
        | none =>
          cases l2 : tb.meth C f with
          | none => simp only [l1, l2] at q1; exact (show False from q1).elim
          | some k =>
            simp only [l1, l2] at q1
            obtain ⟨p, dx, fv, rfl, hi, hp, rp⟩ := ref_ins s1.sr r1 o1
            obtain ⟨hk, c1, c2⟩ := st.meth C f k l2
            obtain ⟨fd, ps, f1, f2, f3⟩ := F k hk
            refine ⟨p, _, dx, fv, fAdr X.K ct k, rfl, by rw [hK]; exact hp, c1, c2, frep_none st.inj rp l1, fun s2 I2 => ?_⟩
            cases es with
            | nil =>
              rw [hz rfl] at q1
              exact PySem.W.callWith_K0 (first := [.ref p]) I2.kIn c2.kp (run_fn (us := [.ref p]) (vs := [.ref p]) (dvs := []) f1 hr f2 .nil hx I2 (.cons rfl .nil) ⟨m1, S1, [.ref i], s1.sr, Reps.one r1, q1⟩)
            | cons e2 es =>
              rw [List.all_cons, Bool.and_eq_true] at hs
              refine PySem.W.callWith_K (first := [.ref p]) (h₀ := X.base) I2.ok.mod.kin c2.kp (thn (ha.run pos pins s2 σ H1 _ I2 (seqA (fa := ex) (k := fun xs S2 => call k (.ref i :: xs) S2) s1 q1 (R := fun vs H2 => spD g (call k) (.ref p :: (vs ++ [])) H2 Q E) fun m2 S2 H2 vs ds e2 s2 r2 q2 => ?_)) fun us s3 ⟨vs, H2, I3, r, q2⟩ => ⟨I3.kIn, ?_⟩) (starEach_nst hs.1) (noStars hs.2)
              · rw [List.append_nil]
                exact ⟨m2, S2, .ref i :: ds, s2.sr, Reps.cons (r1.ext e2 s1.sr) r2, q2⟩
              · exact run_fn (us := .ref p :: us) (vs := .ref p :: vs) (dvs := []) f1 hr f2 .nil hx I3 (.cons rfl r) q2
  | _ => exact (show False from q1).elim
/-! ### methods of lists -/
def lmD (ea eb : Ev → Store → Res D) (op : D → D → Store → Res D) : Ev → Store → Res D := fun ρ S => (ea ρ S).bind fun y S1 => (match y with
    | .ref i => (match S1[i]? with
      | some (.lst _) => (eb ρ S1).bind fun z S2 => op (.ref i) z S2
      | _ => .bad)
    | _ => .bad)
theorem pe_lmD {op : D → D → Store → Res D} {nm id : String} {nmS : Str} {apos : Pos} (slot : Slot "list" nmS id) (hty : typeOf (.builtin id) = pure (.type "method_descriptor")) (hm : MtR X id (rMV g E op)) (ha : PE X a (tD g E ea)) (hb : PE X b (tD g E eb)) (h1 : noSup a = true) (h2 : nst b = true) (h3 : (apos.endLine == pos.line) = true) :
    PE X (.Call (.Attribute a nmS apos) [b] [] pos) (tD g E (lmD ea eb op)) := by
  have hf : fewB [b] = true := by
    unfold fewB
    simp [h2]
  refine PE.weak (pe_bm PySem.F.plainAttrs_list slot hty hm ha (pa_cons hb pa_nil (starEach_nst h2)) (attrBase h1) (few_ok hf) h3 (starEach_nst h2) rfl) fun σ H Q h => ?_
  obtain ⟨m, ρ, S, sr, er, h⟩ := h
  refine seqD (fa := ea) ⟨sr, er⟩ h fun m1 S1 H1 v d e1 s1 r1 q1 => ?_
  cases d with
  | ref i =>
    cases o1 : S1[i]? with
    | none => simp only [o1] at q1; exact (show False from q1).elim
    | some o =>
      cases o with
      | ins C fs => simp only [o1] at q1; exact (show False from q1).elim
      | lst l =>
        simp only [o1] at q1
        obtain ⟨p, vs, rfl, hi, hp, rp⟩ := ref_lst s1.sr r1 o1
        refine ⟨.inl ⟨rfl, vs, SqL.of hp⟩, ?_⟩
        refine seqD (fa := eb) s1 q1 fun m2 S2 H2 w d2 e2 s2 r2 q2 => ?_
        exact ⟨m2, S2, .ref i, d2, s2.sr, r1.ext e2 s1.sr, Reps.one r2, q2⟩
  | _ => exact (show False from q1).elim
theorem pe_appD {apos : Pos} (ha : PE X a (tD g E ea)) (hb : PE X b (tD g E eb)) (h1 : noSup a = true) (h2 : nst b = true) (h3 : (apos.endLine == pos.line) = true) : PE X (.Call (.Attribute a "append" apos) [b] [] pos) (tD g E (lmD ea eb opApp)) :=
  pe_lmD (nm := "append") PySem.F.slot_list_append PySem.F.type_list_append mv_app ha hb h1 h2 h3
theorem pe_extD {apos : Pos} (ha : PE X a (tD g E ea)) (hb : PE X b (tD g E eb)) (h1 : noSup a = true) (h2 : nst b = true) (h3 : (apos.endLine == pos.line) = true) : PE X (.Call (.Attribute a "extend" apos) [b] [] pos) (tD g E (lmD ea eb opExt)) :=
  pe_lmD (nm := "extend") PySem.F.slot_list_extend PySem.F.type_list_extend mv_ext ha hb h1 h2 h3
theorem pe_popD {apos : Pos} (ha : PE X a (tD g E ea)) (hb : PE X b (tD g E eb)) (h1 : noSup a = true) (h2 : nst b = true) (h3 : (apos.endLine == pos.line) = true) : PE X (.Call (.Attribute a "pop" apos) [b] [] pos) (tD g E (lmD ea eb opPop)) :=
  pe_lmD (nm := "pop") PySem.F.slot_list_pop PySem.F.type_list_pop mv_pop ha hb h1 h2 h3
end
end K76
set_option Elab.async false
set_option linter.all false
set_option maxRecDepth 100000
set_option autoImplicit false
set_option maxHeartbeats 4000000
/-! K5w: what is walked: tuples, lists, range, enumerate(tuple), zip of two, three tuples -/
namespace PySem
open Sem (wp)
theorem meets_enumerate_newB1 {v : Value} {o : Obj} {H : Heap → Prop} (B : Begins v o H) :
    Meets (Builtin.«enumerate.__new__» ⟨[.type "enumerate", v], []⟩) (fun _ R s => H s.heap ∧
      R (.ok (.ret (.ref (s.heap.push o).objs.size))) { s with heap := (s.heap.push o).push { cls := .type "enumerate", data := .fields #[.none, .bool false, .ref s.heap.objs.size, rawInt 0, .none, .none] } }) :=
  .of_wp fun prog w A R s h => by
    obtain ⟨hp, g, d, tk, os⟩ := s; obtain ⟨h1, h⟩ := h
    have hsub := sub_enumerate
    have q1 : ∀ {A' : Around} {E : Value → Shared → Prop} {Q : Value → Shared → Prop}, Q (.ref hp.objs.size) ⟨hp.push o, g, d, tk, os⟩ → wpAny (model prog w) A' (pyIter v) Q E ⟨hp, g, d, tk, os⟩ :=
      fun q => B.iter prog w _ _ ⟨hp, g, d, tk, os⟩ _ h1 q
    wp_walk using q1
    refine wpAny_stack_any fun st => wpAny_pure ?_
    split
    · rename_i c _ _ _ _ _
      cases (c == Value.type "enumerate")
      · wp_walk using q1
        exact ⟨_, rfl, h⟩
      · wp_walk using q1
        exact ⟨_, rfl, h⟩
    · wp_walk using q1
      exact ⟨_, rfl, h⟩
theorem enum_begins1 {prog : Program} {w : World} {A : Around} {E : Value → Shared → Prop} {s : Shared} {v : Value} {o : Obj} {H : Heap → Prop} {Q : Value → Shared → Prop} (B : Begins v o H) (h1 : H s.heap)
    (h : ∀ h', IsEnum h' (s.heap.objs.size + 1) s.heap.objs.size 0 .none → h'.get? s.heap.objs.size = some o → h'.objs.size = s.heap.objs.size + 2 →
      (∀ b o, s.heap.get? b = some o → h'.get? b = some o) → Q (.ref (s.heap.objs.size + 1)) { s with heap := h' }) :
    wpAny (model prog w) A (call (.type "enumerate") [v]) Q E s := by
  refine callType_new F.called_enumerate (by decide) (F.typeCall_enumerate_1 _) (F.newCall_enumerate_1 _) (fun obj => F.args_object_init_2 obj _) F.entry_enumerate_new
    (meets_enumerate_newB1 B) ⟨h1, ?_⟩
  have hz : (s.heap.push o).objs.size = s.heap.objs.size + 1 := Heap.size_push ..
  show _ ∧ _
  rw [hz]
  have he : IsEnum ((s.heap.push o).push { cls := .type "enumerate", data := .fields #[.none, .bool false, .ref s.heap.objs.size, rawInt 0, .none, .none] }) (s.heap.objs.size + 1) s.heap.objs.size 0 .none := by
    have := Heap.get?_push_size (s.heap.push o) (o := { cls := .type "enumerate", data := .fields #[.none, .bool false, .ref s.heap.objs.size, rawInt 0, .none, .none] }) rfl
    rw [hz] at this; exact this
  refine ⟨⟨_, he, rfl⟩, h _ he (Heap.get?_push_of_some _ (Heap.get?_push_size _ B.free)) (by rw [Heap.size_push, hz]) fun b o x => Heap.get?_push_of_some _ (Heap.get?_push_of_some _ x)⟩
end PySem
namespace K76
open PySem PySem.Spec PyProof.Rows L2
/-! ### enumerate(tuple) -/
def IteT (K : PySem.W.Frag) (a : Addr) : It :=
  ⟨fun i H => ∃ (xs : List V) (x : V), SqT K H a xs ∧ xs[i]? = some x, fun i H v H' => ∃ T x, v = .ref T ∧ H T = none ∧ H' = upd H T (.tup [.int (i : Nat), x]) ∧ ∀ xs, SqT K H a xs → xs[i]? = some x, fun i H => ∃ xs : List V, SqT K H a xs ∧ xs.length = i⟩
theorem turn_enumT {P : Program} {w : World} {K : PySem.W.Frag} {elts : List Expr} {kk : Nat} {tpos : Pos} (a e it : Addr) (hea : a ≠ e) (hia : a ≠ it) :
    Turn P w K (.Tuple elts kk tpos) (IteT K a) [e, it] e (fun i h => (∃ old, IsEnum h e it ((i : Nat) : Int) old) ∧ h.IsTupleIter it a i ∧ e ≠ it) where
  mem := by simp
  obj := fun i h st b hb => by
    obtain ⟨⟨old, he⟩, ⟨o, ho, hc, hd⟩, _⟩ := st
    have e' : b = e ∨ b = it := by simpa using hb
    rcases e' with z | z
    · rw [z]; exact ⟨_, he, fun v q => nomatch q⟩
    · rw [z]; exact ⟨o, ho, fun v q => by rw [hd] at q; cases q⟩
  keep := fun i h h' st k => let ⟨⟨old, he⟩, hi, hne⟩ := st; ⟨⟨old, k e (by simp) _ he⟩, hi.at fun o q => k it (by simp) o q, hne⟩
  item := by
    intro X hP hw hK hc i pins s σ H E I hf st hg
    subst hP hw hK
    obtain ⟨⟨old, he⟩, hit, hne⟩ := st
    obtain ⟨xs, x, hq, hx⟩ := hg
    obtain ⟨its, rv, p, hz⟩ := I.tuple hq
    obtain ⟨u, hu, ru⟩ := rv.get hx
    have hel : e < s.heap.objs.size := Heap.lt_size he
    have hil : it < s.heap.objs.size := by obtain ⟨_, q, _⟩ := hit; exact Heap.lt_size q
    have hT : s.heap.IsTuple a its.toArray := p
    have hlt : i < its.toArray.size := by
      have := (List.getElem?_eq_some_iff.mp hu).1
      simpa using this
    have hA : X.A.in1.handled = none := I.ok.hd hc
    refine wpAny_pyNext_enum_itemD (Draws.tuple hA it a hia its.toArray) he ⟨hit, hT⟩ hlt hne (by simp; exact ⟨hne, fun z => hea z.symm⟩) fun u' h' tk hP ho hst' hT' hsz hk => ?_
    have eu : u' = u := by
      have h1 : its.toArray[i]? = some u' := hP
      rw [List.getElem?_toArray, hu] at h1
      exact (Option.some.inj h1).symm
    subst eu
    refine ⟨_, rfl, wpAny_letOwnedTupleGo_enum (s := { s with heap := h', toks := tk + 1 }) ho fun h'' he' sb => ?_⟩
    have hT2 : h''.get? s.heap.objs.size = some { cls := .type "tuple", data := .seq #[.int i tk, u'] } := (sb.2 _ (Nat.ne_of_gt hel)).trans hT'
    have new : ObjOk X.prog X.w (upd H s.heap.objs.size (.tup [.int (i : Nat), x])) h'' s.heap.objs.size (.tup [.int (i : Nat), x]) :=
      ⟨by show 2 ≤ sizeLine; decide, [.int i tk, u'], .cons ⟨_, rfl⟩ (.cons ru .nil), ⟨_, hT2, rfl, _, rfl⟩⟩
    have I1 : Inv X pins σ (upd H s.heap.objs.size (.tup [.int (i : Nat), x])) { s with heap := h'', toks := tk + 1 } :=
      I.turnedNew (ch := [e, it]) (fun b ob hb q => (sb.2 b (fun z => hb (by simp [z]))).trans (hk b ob (fun z => hb (by simp [z])) (fun z => hb (by simp [z])) q)) hf (Nat.le_refl _) new
    refine ⟨.ref s.heap.objs.size, _, I1, rfl, ⟨_, x, rfl, I.hok.fresh (Nat.le_refl _), rfl, fun ys hy => by rw [I.tuple_inj hy hq]; exact hx⟩, ⟨⟨u', ?_⟩, hst'.1.at fun o q => (sb.2 it (Ne.symm hne)).trans q, hne⟩, fun b hb => ?_⟩
    · have e1 : ((i + 1 : Nat) : Int) = (i : Int) + 1 := by omega
      rw [e1]; exact he'
    · have hb' : b < s.heap.objs.size := by
        have e' : b = e ∨ b = it := by simpa using hb
        rcases e' with z | z
        · rw [z]; exact hel
        · rw [z]; exact hil
      rw [upd_ne (Nat.ne_of_lt hb')]
      exact (hf b hb).1
  done := by
    intro X hP hw hK hc i pins s σ H E I hf st hg
    subst hP hw hK
    obtain ⟨⟨old, he⟩, hit, hne⟩ := st
    obtain ⟨xs, hq, hx⟩ := hg
    obtain ⟨its, rv, p, hz⟩ := I.tuple hq
    obtain ⟨f0, f1, f2, f3, f4, f5⟩ := hf it (by simp)
    have hl := rv.length
    have hT : s.heap.IsTuple a its.toArray := p
    have en : i = its.toArray.size := by
      rw [List.size_toArray]
      omega
    subst en
    have hA : X.A.in1.handled = none := I.ok.hd hc
    exact wpAny_pyNext_enum_endD (Draws.tuple hA it a hia its.toArray) he ⟨hit, hT⟩ fun h' eb => ⟨rfl, I.turned (t' := s.toks) (fun b o hb q => eb b o hb q) f0 f1 f3 f4 f5⟩
  self := fun A i s Q E st h => let ⟨⟨_, he⟩, _⟩ := st; wpAny_pyIter_enum he h
def iEnumT (K : PySem.W.Frag) (ta : TA) : TI := fun σ H R => ta σ H fun vs H1 => ∃ a xs, vs = [.ref a] ∧ SqT K H1 a xs ∧ R (IteT K a) H1
theorem pi_enumT {X : Cx} {e : Expr} {ta : TA} {p pos tpos : Pos} {elts : List Expr} {kk : Nat} (hg : Gl X "enumerate") (hm : X.mg "enumerate" = none) (ha : PA X [e] ta) (hs : starEach [e] X.env = [(false, eval e X.env)]) :
    PI X (.Tuple elts kk tpos) (.Call (.Name "enumerate" p) [e] [] pos) (iEnumT X.K ta) := by
  refine ⟨fun pins s σ H R I h => ?_⟩
  refine Call_ (ld_blt I hg hm boot_enumerate (PyProof.Rows.callWith_type1 (thn (ha.run pos pins s σ H _ I h) fun us s1 ⟨vs, H1, I1, r1, q1⟩ => ?_) hs rfl))
  obtain ⟨a, xs, ex, hq, q⟩ := q1
  subst ex
  cases r1 with
  | cons r rr =>
    cases rr
    cases r
    obtain ⟨its, rv, p', hz⟩ := I1.tuple hq
    have hT : s1.heap.IsTuple a its.toArray := p'
    have hal : a < s1.heap.objs.size := by obtain ⟨_, e1, _⟩ := id p'; exact Heap.lt_size e1
    refine enum_begins1 (begins_tuple a its.toArray) hT fun h' he hit hsz hk => wpAny_pyIter_enum he ?_
    have I2 : Inv X pins σ H1 { s1 with heap := h' } := I1.kept (t' := s1.toks) hk
    refine ⟨s1.heap.objs.size + 1, [s1.heap.objs.size + 1, s1.heap.objs.size], _, _, H1, rfl, I2, turn_enumT a (s1.heap.objs.size + 1) s1.heap.objs.size (Nat.ne_of_lt (Nat.lt_succ_of_lt hal)) (Nat.ne_of_lt hal), ⟨⟨.none, he⟩, ⟨_, hit, rfl, rfl⟩, Nat.succ_ne_self _⟩, fun b hb => ?_, q⟩
    have e' : b = s1.heap.objs.size + 1 ∨ b = s1.heap.objs.size := by simpa using hb
    have hle : s1.heap.objs.size ≤ b := by
      rcases e' with z | z
      · rw [z]; exact Nat.le_add_right _ _
      · rw [z]; exact Nat.le_refl _
    exact I1.fpOk hle (I1.hok.fresh hle)
/-! ### zip of three tuples -/
def ItzT3 (K : PySem.W.Frag) (a b c : Addr) : It :=
  ⟨fun i H => ∃ (xs ys us : List V) (x y u : V), SqT K H a xs ∧ SqT K H b ys ∧ SqT K H c us ∧ xs[i]? = some x ∧ ys[i]? = some y ∧ us[i]? = some u,
    fun i H v H' => ∃ T x y u, v = .ref T ∧ H T = none ∧ H' = upd H T (.tup [x, y, u]) ∧ (∀ xs, SqT K H a xs → xs[i]? = some x) ∧ (∀ ys, SqT K H b ys → ys[i]? = some y) ∧ ∀ us, SqT K H c us → us[i]? = some u,
    fun i H => ∃ xs ys us : List V, SqT K H a xs ∧ SqT K H b ys ∧ SqT K H c us ∧ i = min (min xs.length ys.length) us.length⟩
theorem turn_zipT3 {P : Program} {w : World} {K : PySem.W.Frag} {elts : List Expr} {kk : Nat} {tpos : Pos} {a b c z TI TO i1 i2 i3 : Addr} (D : ZipSep3 z TI TO i1 i2 i3 [i1, a] [i2, b] [i3, c]) :
    Turn P w K (.Tuple elts kk tpos) (ItzT3 K a b c) [z, TI, TO, i1, i2, i3] z (fun i h => IsZip h z TI TO .none ∧ IsTupOf3 h TI (.ref i1) (.ref i2) (.ref i3) ∧ (∃ x y u, IsTupOf3 h TO x y u) ∧ h.IsTupleIter i1 a i ∧ h.IsTupleIter i2 b i ∧ h.IsTupleIter i3 c i) where
  mem := by simp
  obj := fun i h st d hd => by
    obtain ⟨hz, hTI, ⟨x, y, u, hTO⟩, ⟨o1, e1, _, d1⟩, ⟨o2, e2, _, d2⟩, ⟨o3, e3, _, d3⟩⟩ := st
    have e' : d = z ∨ d = TI ∨ d = TO ∨ d = i1 ∨ d = i2 ∨ d = i3 := by simpa using hd
    rcases e' with q | q | q | q | q | q
    · rw [q]; exact ⟨_, hz, fun v q => nomatch q⟩
    · rw [q]; exact ⟨_, hTI, fun v q => nomatch q⟩
    · rw [q]; exact ⟨_, hTO, fun v q => nomatch q⟩
    · rw [q]; exact ⟨o1, e1, fun v q => by rw [d1] at q; cases q⟩
    · rw [q]; exact ⟨o2, e2, fun v q => by rw [d2] at q; cases q⟩
    · rw [q]; exact ⟨o3, e3, fun v q => by rw [d3] at q; cases q⟩
  keep := fun i h h' st k => by
    obtain ⟨hz, hTI, ⟨x, y, u, hTO⟩, h1, h2, h3⟩ := st
    exact ⟨k z (by simp) _ hz, k TI (by simp) _ hTI, ⟨x, y, u, k TO (by simp) _ hTO⟩, h1.at fun o q => k i1 (by simp) o q, h2.at fun o q => k i2 (by simp) o q, h3.at fun o q => k i3 (by simp) o q⟩
  item := by
    intro X hP hw hK hc i pins s σ H E I hf st hg
    subst hP hw hK
    obtain ⟨hz, hTI, ⟨x0, y0, u0, hTO⟩, h1, h2, h3⟩ := st
    obtain ⟨xs, ys, us, x, y, u, hqx, hqy, hqu, hx, hy, hu⟩ := hg
    obtain ⟨its, rv, p, _⟩ := I.tuple hqx
    obtain ⟨its2, rv2, p2, _⟩ := I.tuple hqy
    obtain ⟨its3, rv3, p3, _⟩ := I.tuple hqu
    obtain ⟨w1, hw1, rw1⟩ := rv.get hx
    obtain ⟨w2, hw2, rw2⟩ := rv2.get hy
    obtain ⟨w3, hw3, rw3⟩ := rv3.get hu
    have hzl : z < s.heap.objs.size := Heap.lt_size hz
    have n1 : a ≠ i1 := fun z => by
      obtain ⟨o, e, c, _⟩ := h1
      obtain ⟨o', e', c', _⟩ := p
      rw [z, e] at e'
      cases e'
      rw [c] at c'
      exact absurd c' (by decide)
    have n2 : b ≠ i2 := fun z => by
      obtain ⟨o, e, c, _⟩ := h2
      obtain ⟨o', e', c', _⟩ := p2
      rw [z, e] at e'
      cases e'
      rw [c] at c'
      exact absurd c' (by decide)
    have n3 : c ≠ i3 := fun z => by
      obtain ⟨o, e, c, _⟩ := h3
      obtain ⟨o', e', c', _⟩ := p3
      rw [z, e] at e'
      cases e'
      rw [c] at c'
      exact absurd c' (by decide)
    have l1 : i < its.toArray.size := by have := (List.getElem?_eq_some_iff.mp hw1).1; simpa using this
    have l2 : i < its2.toArray.size := by have := (List.getElem?_eq_some_iff.mp hw2).1; simpa using this
    have l3 : i < its3.toArray.size := by have := (List.getElem?_eq_some_iff.mp hw3).1; simpa using this
    have hA : X.A.in1.handled = none := I.ok.hd hc
    refine wpAny_pyNext_zipD3_item D (Draws.tuple hA i1 a n1 its.toArray) (Draws.tuple hA i2 b n2 its2.toArray) (Draws.tuple hA i3 c n3 its3.toArray) hz hTI hTO ⟨h1, p⟩ ⟨h2, p2⟩ ⟨h3, p3⟩ l1 l2 l3 fun x1 x2 x3 h' tk y1 y2 y3 z' TO' g1 g2 g3 hT hsz hk => ?_
    have q1 : x1 = w1 := by
      have h : its.toArray[i]? = some x1 := y1
      rw [List.getElem?_toArray, hw1] at h
      exact (Option.some.inj h).symm
    have q2 : x2 = w2 := by
      have h : its2.toArray[i]? = some x2 := y2
      rw [List.getElem?_toArray, hw2] at h
      exact (Option.some.inj h).symm
    have q3 : x3 = w3 := by
      have h : its3.toArray[i]? = some x3 := y3
      rw [List.getElem?_toArray, hw3] at h
      exact (Option.some.inj h).symm
    subst q1 q2 q3
    refine ⟨_, rfl, wpAny_letOwnedTupleGo_zip (s := { s with heap := h', toks := tk }) z' fun h'' z'' sb => ?_⟩
    have hT2 : h''.get? s.heap.objs.size = some { cls := .type "tuple", data := .seq #[x1, x2, x3] } := (sb.2 _ (Nat.ne_of_gt hzl)).trans hT
    have new : ObjOk X.prog X.w (upd H s.heap.objs.size (.tup [x, y, u])) h'' s.heap.objs.size (.tup [x, y, u]) :=
      ⟨by show 3 ≤ sizeLine; decide, [x1, x2, x3], .cons rw1 (.cons rw2 (.cons rw3 .nil)), ⟨_, hT2, rfl, _, rfl⟩⟩
    have I1 : Inv X pins σ (upd H s.heap.objs.size (.tup [x, y, u])) { s with heap := h'', toks := tk } :=
      I.turnedNew (t' := tk) (ch := [z, TI, TO, i1, i2, i3]) (fun c o hb q => (sb.2 c (fun q' => hb (by simp [q']))).trans (hk c o (fun q' => hb (by simp [q'])) (fun q' => hb (by simp [q'])) (fun q' => hb (by simp [q'])) (fun q' => hb (by simp [q'])) (fun q' => hb (by simp [q'])) q)) hf (Nat.le_refl _) new
    refine ⟨.ref s.heap.objs.size, _, I1, rfl, ⟨_, x, y, u, rfl, I.hok.fresh (Nat.le_refl _), rfl, fun l hl => by rw [I.tuple_inj hl hqx]; exact hx, fun l hl => by rw [I.tuple_inj hl hqy]; exact hy, fun l hl => by rw [I.tuple_inj hl hqu]; exact hu⟩, ⟨z'', ?_, ⟨x1, x2, x3, ?_⟩, ?_, ?_, ?_⟩, fun d hdm => ?_⟩
    · exact (sb.2 _ D.TIz).trans (hk _ _ D.TIz D.TITO D.TIi1 D.TIi2 D.TIi3 hTI)
    · exact (sb.2 _ D.TOz).trans TO'
    · exact g1.1.at fun o q => (sb.2 _ D.zi1.symm).trans q
    · exact g2.1.at fun o q => (sb.2 _ D.zi2.symm).trans q
    · exact g3.1.at fun o q => (sb.2 _ D.zi3.symm).trans q
    · have hlt : d < s.heap.objs.size := by
        have e' : d = z ∨ d = TI ∨ d = TO ∨ d = i1 ∨ d = i2 ∨ d = i3 := by simpa using hdm
        rcases e' with q | q | q | q | q | q
        · rw [q]; exact hzl
        · rw [q]; exact Heap.lt_size hTI
        · rw [q]; exact Heap.lt_size hTO
        · rw [q]; obtain ⟨_, e1, _⟩ := h1; exact Heap.lt_size e1
        · rw [q]; obtain ⟨_, e2, _⟩ := h2; exact Heap.lt_size e2
        · rw [q]; obtain ⟨_, e3, _⟩ := h3; exact Heap.lt_size e3
      rw [upd_ne (Nat.ne_of_lt hlt)]
      exact (hf d hdm).1
  done := by
    intro X hP hw hK hc i pins s σ H E I hf st hg
    subst hP hw hK
    obtain ⟨hz, hTI, ⟨x0, y0, u0, hTO⟩, h1, h2, h3⟩ := st
    obtain ⟨xs, ys, us, hqx, hqy, hqu, hend⟩ := hg
    obtain ⟨its, rv, p, _⟩ := I.tuple hqx
    obtain ⟨its2, rv2, p2, _⟩ := I.tuple hqy
    obtain ⟨its3, rv3, p3, _⟩ := I.tuple hqu
    have l1 := rv.length
    have l2 := rv2.length
    have l3 := rv3.length
    have n1 : a ≠ i1 := fun z => by
      obtain ⟨o, e, c, _⟩ := h1
      obtain ⟨o', e', c', _⟩ := p
      rw [z, e] at e'
      cases e'
      rw [c] at c'
      exact absurd c' (by decide)
    have n2 : b ≠ i2 := fun z => by
      obtain ⟨o, e, c, _⟩ := h2
      obtain ⟨o', e', c', _⟩ := p2
      rw [z, e] at e'
      cases e'
      rw [c] at c'
      exact absurd c' (by decide)
    have n3 : c ≠ i3 := fun z => by
      obtain ⟨o, e, c, _⟩ := h3
      obtain ⟨o', e', c', _⟩ := p3
      rw [z, e] at e'
      cases e'
      rw [c] at c'
      exact absurd c' (by decide)
    have hA : X.A.in1.handled = none := I.ok.hd hc
    have m1 : i ≤ its.toArray.size := by rw [List.size_toArray]; omega
    have m2 : i ≤ its2.toArray.size := by rw [List.size_toArray]; omega
    have m3 : i ≤ its3.toArray.size := by rw [List.size_toArray]; omega
    exact wpAny_pyNext_zipD3_end D (Draws.tuple hA i1 a n1 its.toArray) (Draws.tuple hA i2 b n2 its2.toArray) (Draws.tuple hA i3 c n3 its3.toArray) hz hTI hTO ⟨h1, p⟩ ⟨h2, p2⟩ ⟨h3, p3⟩ m1 m2 m3 (by simp only [List.size_toArray]; omega) fun h' tk hk => ⟨rfl, I.turnedL (t' := tk) (ch := [z, TI, TO, i1, i2, i3]) (fun c o hb q =>
      hk c o (fun q' => hb (by simp [q'])) (fun q' => hb (by simp [q'])) (fun q' => hb (by simp [q'])) (fun q' => hb (by simp [q'])) (fun q' => hb (by simp [q'])) q) hf⟩
  self := fun A i s Q E st h => wpAny_pyIter_zip st.1 h
def iZip3 (K : PySem.W.Frag) (ta : TA) : TI := fun σ H R => ta σ H fun vs H1 => ∃ a b c xs ys us, vs = [.ref a, .ref b, .ref c] ∧ SqT K H1 a xs ∧ SqT K H1 b ys ∧ SqT K H1 c us ∧ R (ItzT3 K a b c) H1
theorem pi_zip3 {X : Cx} {e e2 e3 : Expr} {ta : TA} {p pos tpos : Pos} {elts : List Expr} {kk : Nat} (hg : Gl X "zip") (hm : X.mg "zip" = none) (ha : PA X [e, e2, e3] ta)
    (hs : starEach [e, e2, e3] X.env = (false, eval e X.env) :: starEach [e2, e3] X.env) (hpl : (backTo pos (starEach [e2, e3] X.env)).any (·.1) = false) :
    PI X (.Tuple elts kk tpos) (.Call (.Name "zip" p) [e, e2, e3] [] pos) (iZip3 X.K ta) := by
  refine ⟨fun pins s σ H R I h => ?_⟩
  refine Call_ (ld_blt I hg hm PyProof.Rows.boot_zip (PyProof.Rows.callWith_type1 (thn (ha.run pos pins s σ H _ I h) fun us s1 ⟨vs, H1, I1, r1, q1⟩ => ?_) hs hpl))
  obtain ⟨a, b, c, xs, ys, us, ex, hqx, hqy, hqu, q⟩ := q1
  subst ex
  cases r1 with
  | cons r rr =>
    cases rr with
    | cons r' rr =>
      cases rr with
      | cons r'' rr =>
        cases rr
        cases r
        cases r'
        cases r''
        obtain ⟨its, rv, p1, _⟩ := I1.tuple hqx
        obtain ⟨its2, rv2, p2, _⟩ := I1.tuple hqy
        obtain ⟨its3, rv3, p3, _⟩ := I1.tuple hqu
        refine zip_begins3 (begins_tuple a its.toArray) (begins_tuple b its2.toArray) (begins_tuple c its3.toArray) p1 p2 p3 fun h' hz hTI hTO h1 h2 h3 hsz hk => wpAny_pyIter_zip hz ?_
        have I2 : Inv X pins σ H1 { s1 with heap := h' } := I1.kept (t' := s1.toks) hk
        have k1 : a < s1.heap.objs.size := p1.lt
        have k2 : b < s1.heap.objs.size := p2.lt
        have k3 : c < s1.heap.objs.size := p3.lt
        have S := zip_sep3 (N := s1.heap.objs.size) (fp1 := [a]) (fp2 := [b]) (fp3 := [c]) (by simpa using k1) (by simpa using k2) (by simpa using k3)
        refine ⟨s1.heap.objs.size + 5, [s1.heap.objs.size + 5, s1.heap.objs.size + 3, s1.heap.objs.size + 4, s1.heap.objs.size, s1.heap.objs.size + 1, s1.heap.objs.size + 2], _, _, H1, rfl, I2, turn_zipT3 S, ⟨hz, hTI, ⟨_, _, _, hTO⟩, ⟨_, h1, rfl, rfl⟩, ⟨_, h2, rfl, rfl⟩, ⟨_, h3, rfl, rfl⟩⟩, fun d hdm => ?_, q⟩
        have e' : d = s1.heap.objs.size + 5 ∨ d = s1.heap.objs.size + 3 ∨ d = s1.heap.objs.size + 4 ∨ d = s1.heap.objs.size ∨ d = s1.heap.objs.size + 1 ∨ d = s1.heap.objs.size + 2 := by simpa using hdm
        have hle : s1.heap.objs.size ≤ d := by
          rcases e' with z | z | z | z | z | z
          · rw [z]; exact Nat.le_add_right _ _
          · rw [z]; exact Nat.le_add_right _ _
          · rw [z]; exact Nat.le_add_right _ _
          · rw [z]; exact Nat.le_refl _
          · rw [z]; exact Nat.le_add_right _ _
          · rw [z]; exact Nat.le_add_right _ _
        exact I1.fpOk hle (I1.hok.fresh hle)
end K76
set_option Elab.async false
set_option linter.all false
set_option maxRecDepth 100000
set_option autoImplicit false
set_option maxHeartbeats 4000000
/-! K5z: enumerate(zip(tuple, tuple)) -/
namespace PySem
open Sem (wp)
/-- a zip, whatever became of the tuple that it gave out -/
abbrev ZA (h : Heap) (z TI TO : Addr) (f0 : Value) (f1 : Bool) : Prop :=
  h.get? z = some { cls := .type "zip", dict := none, data := .fields #[f0, .bool f1, .bool false, .ref TI, .ref TO], slots := #[] }
def ZQ (h : Heap) (z TI TO : Addr) : Prop := ∃ (f0 : Value) (f1 : Bool), (f0 = .none ∨ ∃ T : Addr, f0 = rawInt T) ∧ ZA h z TI TO f0 f1
section
variable {prog : Program} {w : World} {A : Around} {E : Value → Shared → Prop} {s : Shared}
theorem za_alive {a : Addr} {Q : Option Obj → Shared → Prop} (h : Q (s.heap.get? a) s) : wpAny (model prog w) A (loadIfAlive a) Q E s := fun _ _ _ => h
theorem za_free {z TI TO : Addr} {Q : Bool → Shared → Prop} (hz : ZQ s.heap z TI TO) (h : ∀ b h', ZQ h' z TI TO → Heap.SameBut z s.heap h' → Q b { s with heap := h' }) :
    wpAny (model prog w) A (Builtin.SmallTypes.ownedTupleIsFree (.ref z)) Q E s := by
  obtain ⟨f0, f1, hf, hz⟩ := hz
  unfold Builtin.SmallTypes.ownedTupleIsFree
  rcases hf with rfl | ⟨T, rfl⟩
  · refine wpAny_bind (wpAny_field hz rfl (x := .none) rfl (wpAny_pure ?_))
    exact h true s.heap ⟨.none, f1, .inl rfl, hz⟩ (Heap.SameBut.refl _ _)
  · refine wpAny_bind (wpAny_field hz rfl (x := rawInt T) rfl ?_)
    show wpAny _ _ (loadIfAlive ((T : Int).toNat) >>= _) _ _ _
    rw [Int.toNat_natCast]
    refine wpAny_bind (za_alive ?_)
    cases hT : s.heap.get? T with
    | none =>
      simp only [Option.isNone_none, if_true]
      exact wpAny_pure (h true s.heap ⟨rawInt T, f1, .inr ⟨T, rfl⟩, hz⟩ (Heap.SameBut.refl _ _))
    | some oT =>
      simp only [Option.isNone_some, Bool.false_eq_true, if_false]
      refine wpAny_bind (wpAny_field hz rfl (x := .bool f1) rfl ?_)
      cases f1 with
      | true =>
        rw [if_neg (show ¬ ((Value.bool true != Value.bool true) = true) from Bool.false_ne_true)]
        exact wpAny_pure (h false s.heap ⟨rawInt T, true, .inr ⟨T, rfl⟩, hz⟩ (Heap.SameBut.refl _ _))
      | false =>
        rw [if_pos (show (Value.bool false != Value.bool true) = true from rfl)]
        exact wpAny_bind (wpAny_setField_rec hz (by simp) fun h₁ hz₁ hs₁ => wpAny_pure (h false h₁ ⟨rawInt T, true, .inr ⟨T, rfl⟩, hz₁⟩ hs₁))
theorem ZQ.there {h : Heap} {z TI TO : Addr} (hz : ZQ h z TI TO) : ∃ o, h.get? z = some o ∧ o.cls = .type "zip" ∧ ∀ v, o.data ≠ .cell v := by
  obtain ⟨f0, f1, _, hz⟩ := hz
  exact ⟨_, hz, rfl, fun v q => nomatch q⟩
theorem ZQ.at_ {h h' : Heap} {z TI TO : Addr} (hz : ZQ h z TI TO) (k : ∀ o, h.get? z = some o → h'.get? z = some o) : ZQ h' z TI TO := by
  obtain ⟨f0, f1, hf, hz⟩ := hz
  exact ⟨f0, f1, hf, k _ hz⟩
theorem za_next_item {z TI TO i1 i2 l1 l2 : Addr} {k1 k2 : Nat} {xs ys : Array Value} {x y a b : Value} {Q : Value → Shared → Prop} (D : ZipApart z TI TO i1 i2 l1 l2)
    (hz : ZQ s.heap z TI TO) (hTI : IsPair s.heap TI (.ref i1) (.ref i2)) (hTO : IsPair s.heap TO a b)
    (h1 : s.heap.IsTupleIter i1 l1 k1) (h2 : s.heap.IsTupleIter i2 l2 k2) (hl1 : s.heap.IsTuple l1 xs) (hl2 : s.heap.IsTuple l2 ys) (hx : xs[k1]? = some x) (hy : ys[k2]? = some y)
    (hQ : ∀ h', ZQ h' z TI TO → (∃ a b, IsPair h' TO a b) → h'.IsTupleIter i1 l1 (k1 + 1) → h'.IsTupleIter i2 l2 (k2 + 1) → IsPair h' s.heap.objs.size x y → h'.objs.size = s.heap.objs.size + 1 →
      (∀ c o, c ≠ z → c ≠ TO → c ≠ i1 → c ≠ i2 → s.heap.get? c = some o → h'.get? c = some o) → Q (.ref s.heap.objs.size) { s with heap := h' }) :
    wpAny (model prog w) A (Builtin.«zip.__next__» ⟨[.ref z], []⟩) (fun fin s' => ∃ v, fin = .done (.ret v) ∧ Q v s') E s := by
  obtain ⟨f0, f1, hf, hz0⟩ := id hz
  show wpAny _ _ (field (.ref z) 2 >>= _) _ _ _
  refine wpAny_bind (wpAny_field hz0 rfl (x := .bool false) rfl ?_)
  show wpAny _ _ (field (.ref z) 3 >>= _) _ _ _
  refine wpAny_bind (wpAny_field hz0 rfl (x := .ref TI) rfl ?_)
  refine wpAny_bind (wpAny_seqItems hTI rfl ?_)
  show wpAny _ _ (Builtin.SmallTypes.ownedTupleIsFree (.ref z) >>= _) _ _ _
  refine wpAny_bind (za_free hz fun fr h₀ hzq hs₀ => ?_)
  obtain ⟨g0, g1, hg, hz₀⟩ := hzq
  cases fr with
  | true =>
    simp only [if_true]
    refine wpAny_bind (wpAny_rule ?_)
    refine wpAny_bind (wpAny_field hz₀ rfl (x := .ref TO) rfl ?_)
    refine wpAny_bind (wpAny_setField_rec hz₀ (by simp) fun h₁ hz₁ hs₁' => ?_)
    have hs₁ : Heap.SameBut z s.heap h₁ := hs₀.trans hs₁'
    replace hz₁ : ZA h₁ z TI TO .ellipsis g1 := hz₁
    refine wpAny_bind ?_
    simp only [List.zipIdx_cons, List.zipIdx_nil, List.forIn_cons, List.forIn_nil]
    refine wpAny_bind (wpAny_bind (wpAny_onRaise ?_))
    show wpAny _ _ (Builtin.SmallTypes.nextOf (.ref i1) >>= _) _ _ _
    refine wpAny_bind (RZ.nextOf_tuple_item (h1.extBut hs₁.extBut D.i1z) (hl1.extBut hs₁.extBut D.l1z) hx fun h₂ h1₂ hs₂ => wpAny_pure ?_)
    have hTO₂ : IsPair h₂ TO a b := hs₂.extBut _ _ D.TOi1 (hs₁.extBut _ _ D.TOz hTO)
    refine wpAny_bind (wpAny_seqItems hTO₂ rfl ?_)
    refine wpAny_bind (wpAny_updateSeq_pair hTO₂ fun h₃ hTO₃ hs₃ => ?_)
    replace hTO₃ : IsPair h₃ TO x b := hTO₃
    refine wpAny_bind (wpAny_letGo (wpAny_pure ?_))
    refine wpAny_bind (wpAny_bind (wpAny_onRaise ?_))
    show wpAny _ _ (Builtin.SmallTypes.nextOf (.ref i2) >>= _) _ _ _
    refine wpAny_bind (RZ.nextOf_tuple_item (((h2.extBut hs₁.extBut D.i2z).extBut hs₂.extBut D.i12.symm).extBut hs₃.extBut D.TOi2.symm)
      (((hl2.extBut hs₁.extBut D.l2z).extBut hs₂.extBut D.l2i1).extBut hs₃.extBut D.l2TO) hy fun h₄ h2₄ hs₄ => wpAny_pure ?_)
    have hTO₄ : IsPair h₄ TO x b := hs₄.extBut _ _ D.TOi2 hTO₃
    refine wpAny_bind (wpAny_seqItems hTO₄ rfl ?_)
    refine wpAny_bind (wpAny_updateSeq_pair hTO₄ fun h₅ hTO₅ hs₅ => ?_)
    replace hTO₅ : IsPair h₅ TO x y := hTO₅
    refine wpAny_bind (wpAny_letGo (wpAny_pure (wpAny_pure ?_)))
    refine wpAny_bind (wpAny_seqItems hTO₅ rfl ?_)
    refine wpAny_bind (wpAny_newTuple ?_)
    have hsz : h₅.objs.size = s.heap.objs.size := by rw [hs₅.1, hs₄.1, hs₃.1, hs₂.1, hs₁.1]
    have hz₅ : ZA h₅ z TI TO .ellipsis g1 := hs₅.extBut _ _ D.TOz.symm (hs₄.extBut _ _ D.i2z.symm (hs₃.extBut _ _ D.TOz.symm (hs₂.extBut _ _ D.i1z.symm hz₁)))
    have hk₅ : ∀ c o, c ≠ z → c ≠ TO → c ≠ i1 → c ≠ i2 → s.heap.get? c = some o → h₅.get? c = some o := fun c o c1 c2 c3 c4 e =>
      hs₅.extBut _ _ c2 (hs₄.extBut _ _ c4 (hs₃.extBut _ _ c2 (hs₂.extBut _ _ c3 (hs₁.extBut _ _ c1 e))))
    have h1₅ : h₅.IsTupleIter i1 l1 (k1 + 1) := ((h1₂.extBut hs₃.extBut D.TOi1.symm).extBut hs₄.extBut D.i12).extBut hs₅.extBut D.TOi1.symm
    have h2₅ : h₅.IsTupleIter i2 l2 (k2 + 1) := h2₄.extBut hs₅.extBut D.TOi2.symm
    have hzlt : z < h₅.objs.size := Heap.lt_size hz₅
    show wpAny _ _ (Builtin.SmallTypes.ownedTupleHandOut (.ref z) (.ref h₅.objs.size) >>= _) _ _ _
    refine wpAny_bind ?_
    unfold Builtin.SmallTypes.ownedTupleHandOut
    have hz₆ : ZA (h₅.push { cls := .type "tuple", data := .seq #[x, y] }) z TI TO .ellipsis g1 := Heap.get?_push_of_some _ hz₅
    refine wpAny_bind (wpAny_setField_rec hz₆ (by simp) fun h₇ hz₇ hs₇ => ?_)
    replace hz₇ : ZA h₇ z TI TO (rawInt h₅.objs.size) g1 := hz₇
    refine wpAny_setField_rec hz₇ (by simp) fun h₈ hz₈ hs₈ => ?_
    replace hz₈ : ZA h₈ z TI TO (rawInt h₅.objs.size) false := hz₈
    have up : ∀ c o, c ≠ z → h₅.get? c = some o → h₈.get? c = some o := fun c o c1 e => hs₈.extBut _ _ c1 (hs₇.extBut _ _ c1 (Heap.get?_push_of_some _ e))
    have hT₈ : IsPair h₈ h₅.objs.size x y := hs₈.extBut _ _ (Nat.ne_of_gt hzlt) (hs₇.extBut _ _ (Nat.ne_of_gt hzlt) (Heap.get?_push_size _ rfl))
    have hz8 : h₈.objs.size = h₅.objs.size + 1 := by rw [hs₈.1, hs₇.1, Heap.size_push]
    rw [hsz] at hT₈ hz8
    refine wpAny_pure ⟨_, rfl, ?_⟩
    show Q (.ref h₅.objs.size) _
    rw [hsz]
    exact hQ h₈ ⟨_, _, .inr ⟨_, rfl⟩, hz₈⟩ ⟨x, y, up _ _ D.TOz hTO₅⟩ (h1₅.at fun o e => up _ o D.i1z e) (h2₅.at fun o e => up _ o D.i2z e) hT₈ hz8 fun c o c1 c2 c3 c4 e => up c o c1 (hk₅ c o c1 c2 c3 c4 e)
  | false =>
    simp only [Bool.false_eq_true, if_false]
    refine wpAny_bind ?_
    rw [← Array.forIn_toList]
    simp only [List.forIn_cons, List.forIn_nil]
    refine wpAny_bind (wpAny_bind (wpAny_holding ?_))
    show wpAny _ _ (Builtin.SmallTypes.nextOf (.ref i1) >>= _) _ _ _
    refine wpAny_bind (RZ.nextOf_tuple_item (s := { s with heap := h₀ }) (h1.extBut hs₀.extBut D.i1z) (hl1.extBut hs₀.extBut D.l1z) hx fun h₂ h1₂ hs₂ => wpAny_pure ?_)
    refine wpAny_pure ?_
    refine wpAny_bind (wpAny_bind (wpAny_holding ?_))
    show wpAny _ _ (Builtin.SmallTypes.nextOf (.ref i2) >>= _) _ _ _
    refine wpAny_bind (RZ.nextOf_tuple_item (s := { s with heap := h₂ }) ((h2.extBut hs₀.extBut D.i2z).extBut hs₂.extBut D.i12.symm) ((hl2.extBut hs₀.extBut D.l2z).extBut hs₂.extBut D.l2i1) hy fun h₃ h2₃ hs₃ => wpAny_pure ?_)
    refine wpAny_pure (wpAny_pure ?_)
    show wpAny _ _ (newTuple [x, y] >>= _) _ _ _
    refine wpAny_bind (wpAny_newTuple ?_)
    have hsz : h₃.objs.size = s.heap.objs.size := by rw [hs₃.1, hs₂.1, hs₀.1]
    have hz₃ : ZA h₃ z TI TO g0 g1 := hs₃.extBut _ _ D.i2z.symm (hs₂.extBut _ _ D.i1z.symm hz₀)
    have hk : ∀ c o, c ≠ z → c ≠ i1 → c ≠ i2 → s.heap.get? c = some o → h₃.get? c = some o := fun c o c1 c2 c3 e => hs₃.extBut _ _ c3 (hs₂.extBut _ _ c2 (hs₀.extBut _ _ c1 e))
    have h1₃ : h₃.IsTupleIter i1 l1 (k1 + 1) := h1₂.extBut hs₃.extBut D.i12
    refine wpAny_pure ⟨_, rfl, ?_⟩
    show Q (.ref h₃.objs.size) _
    have hp : IsPair (h₃.push { cls := .type "tuple", data := .seq #[x, y] }) h₃.objs.size x y := Heap.get?_push_size _ rfl
    have hz4 : (h₃.push { cls := .type "tuple", data := .seq #[x, y] }).objs.size = h₃.objs.size + 1 := Heap.size_push ..
    rw [hsz] at hp hz4 ⊢
    exact hQ _ ⟨g0, g1, hg, Heap.get?_push_of_some _ hz₃⟩ ⟨a, b, Heap.get?_push_of_some _ (hk _ _ D.TOz D.TOi1 D.TOi2 hTO)⟩ (h1₃.at fun o e => Heap.get?_push_of_some _ e) (h2₃.at fun o e => Heap.get?_push_of_some _ e) hp hz4 fun c o c1 _ c2 c3 e => Heap.get?_push_of_some _ (hk c o c1 c2 c3 e)
theorem za_next_end {z TI TO i1 i2 l1 l2 : Addr} {k1 k2 : Nat} {xs ys : Array Value} {a b : Value} {Q : Fin → Shared → Prop} (hh : A.handled = none) (D : ZipApart z TI TO i1 i2 l1 l2)
    (hz : ZQ s.heap z TI TO) (hTI : IsPair s.heap TI (.ref i1) (.ref i2)) (hTO : IsPair s.heap TO a b)
    (h1 : s.heap.IsTupleIter i1 l1 k1) (h2 : s.heap.IsTupleIter i2 l2 k2) (hl1 : s.heap.IsTuple l1 xs) (hl2 : s.heap.IsTuple l2 ys) (hend : xs[k1]? = none ∨ ys[k2]? = none)
    (hE : ∀ h' e, (∀ c o, c ≠ z → c ≠ TO → c ≠ i1 → c ≠ i2 → s.heap.get? c = some o → h'.get? c = some o) → (∃ o, h'.get? e = some o ∧ o.cls = .type "StopIteration") → E (.ref e) { s with heap := h' }) :
    wpAny (model prog w) A (Builtin.«zip.__next__» ⟨[.ref z], []⟩) Q E s := by
  obtain ⟨f0, f1, hf, hz0⟩ := id hz
  show wpAny _ _ (field (.ref z) 2 >>= _) _ _ _
  refine wpAny_bind (wpAny_field hz0 rfl (x := .bool false) rfl ?_)
  show wpAny _ _ (field (.ref z) 3 >>= _) _ _ _
  refine wpAny_bind (wpAny_field hz0 rfl (x := .ref TI) rfl ?_)
  refine wpAny_bind (wpAny_seqItems hTI rfl ?_)
  show wpAny _ _ (Builtin.SmallTypes.ownedTupleIsFree (.ref z) >>= _) _ _ _
  refine wpAny_bind (za_free hz fun fr h₀ hzq hs₀ => ?_)
  obtain ⟨g0, g1, hg, hz₀⟩ := hzq
  cases fr with
  | true =>
    simp only [if_true]
    refine wpAny_bind (wpAny_rule ?_)
    refine wpAny_bind (wpAny_field hz₀ rfl (x := .ref TO) rfl ?_)
    refine wpAny_bind (wpAny_setField_rec hz₀ (by simp) fun h₁ hz₁ hs₁' => ?_)
    have hs₁ : Heap.SameBut z s.heap h₁ := hs₀.trans hs₁'
    replace hz₁ : ZA h₁ z TI TO .ellipsis g1 := hz₁
    refine wpAny_bind ?_
    simp only [List.zipIdx_cons, List.zipIdx_nil, List.forIn_cons, List.forIn_nil]
    refine wpAny_bind (wpAny_bind (wpAny_onRaise ?_))
    show wpAny _ _ (Builtin.SmallTypes.nextOf (.ref i1) >>= _) _ _ _
    cases hx : xs[k1]? with
    | none =>
      refine wpAny_bind (RZ.nextOf_tuple_end hh (h1.extBut hs₁.extBut D.i1z) (hl1.extBut hs₁.extBut D.l1z) hx fun h₂ e hs₂ he => ?_)
      obtain ⟨oe, hoe, hce⟩ := he
      have hz₂ : ZA h₂ z TI TO .ellipsis g1 := hs₂ _ _ D.i1z.symm hz₁
      have hez : e ≠ z := fun x => by subst x; rw [hz₂] at hoe; cases hoe; simp at hce
      refine wpAny_setField_rec hz₂ (by simp) fun h₃ _ hs₃ => hE h₃ e (fun c o c1 _ c3 _ x => hs₃.extBut _ _ c1 (hs₂ _ _ c3 (hs₁.extBut _ _ c1 x))) ⟨oe, hs₃.extBut _ _ hez hoe, hce⟩
    | some x =>
      have hy : ys[k2]? = none := by rcases hend with h | h; rw [hx] at h; cases h; exact h
      refine wpAny_bind (RZ.nextOf_tuple_item (h1.extBut hs₁.extBut D.i1z) (hl1.extBut hs₁.extBut D.l1z) hx fun h₂ h1₂ hs₂ => wpAny_pure ?_)
      have hTO₂ : IsPair h₂ TO a b := hs₂.extBut _ _ D.TOi1 (hs₁.extBut _ _ D.TOz hTO)
      refine wpAny_bind (wpAny_seqItems hTO₂ rfl ?_)
      refine wpAny_bind (wpAny_updateSeq_pair hTO₂ fun h₃ hTO₃ hs₃ => ?_)
      refine wpAny_bind (wpAny_letGo (wpAny_pure ?_))
      refine wpAny_bind (wpAny_bind (wpAny_onRaise ?_))
      show wpAny _ _ (Builtin.SmallTypes.nextOf (.ref i2) >>= _) _ _ _
      refine wpAny_bind (RZ.nextOf_tuple_end hh (((h2.extBut hs₁.extBut D.i2z).extBut hs₂.extBut D.i12.symm).extBut hs₃.extBut D.TOi2.symm)
        (((hl2.extBut hs₁.extBut D.l2z).extBut hs₂.extBut D.l2i1).extBut hs₃.extBut D.l2TO) hy fun h₄ e hs₄ he => ?_)
      obtain ⟨oe, hoe, hce⟩ := he
      have hz₄ : ZA h₄ z TI TO .ellipsis g1 := hs₄ _ _ D.i2z.symm (hs₃.extBut _ _ D.TOz.symm (hs₂.extBut _ _ D.i1z.symm hz₁))
      have hez : e ≠ z := fun x => by subst x; rw [hz₄] at hoe; cases hoe; simp at hce
      refine wpAny_setField_rec hz₄ (by simp) fun h₅ _ hs₅ => hE h₅ e (fun c o c1 c2 c3 c4 x => hs₅.extBut _ _ c1 (hs₄ _ _ c4 (hs₃.extBut _ _ c2 (hs₂.extBut _ _ c3 (hs₁.extBut _ _ c1 x))))) ⟨oe, hs₅.extBut _ _ hez hoe, hce⟩
  | false =>
    simp only [Bool.false_eq_true, if_false]
    refine wpAny_bind ?_
    rw [← Array.forIn_toList]
    simp only [List.forIn_cons, List.forIn_nil]
    refine wpAny_bind (wpAny_bind (wpAny_holding ?_))
    show wpAny _ _ (Builtin.SmallTypes.nextOf (.ref i1) >>= _) _ _ _
    cases hx : xs[k1]? with
    | none =>
      refine wpAny_bind (RZ.nextOf_tuple_end (s := { s with heap := h₀ }) hh (h1.extBut hs₀.extBut D.i1z) (hl1.extBut hs₀.extBut D.l1z) hx fun h₂ e hs₂ he => ?_)
      exact hE h₂ e (fun c o c1 _ c2 _ x => hs₂ _ _ c2 (hs₀.extBut _ _ c1 x)) he
    | some x =>
      have hy : ys[k2]? = none := by rcases hend with h | h; rw [hx] at h; cases h; exact h
      refine wpAny_bind (RZ.nextOf_tuple_item (s := { s with heap := h₀ }) (h1.extBut hs₀.extBut D.i1z) (hl1.extBut hs₀.extBut D.l1z) hx fun h₂ h1₂ hs₂ => wpAny_pure ?_)
      refine wpAny_pure ?_
      refine wpAny_bind (wpAny_bind (wpAny_holding ?_))
      show wpAny _ _ (Builtin.SmallTypes.nextOf (.ref i2) >>= _) _ _ _
      refine wpAny_bind (RZ.nextOf_tuple_end (s := { s with heap := h₂ }) hh ((h2.extBut hs₀.extBut D.i2z).extBut hs₂.extBut D.i12.symm) ((hl2.extBut hs₀.extBut D.l2z).extBut hs₂.extBut D.l2i1) hy fun h₃ e hs₃ he => ?_)
      exact hE h₃ e (fun c o c1 _ c2 c3 x => hs₃ _ _ c3 (hs₂.extBut _ _ c2 (hs₀.extBut _ _ c1 x))) he
/-! ### nextOf, then enumerate -/
theorem za_nextOf_item {z TI TO i1 i2 l1 l2 : Addr} {k1 k2 : Nat} {xs ys : Array Value} {x y a b : Value} {Q : Value → Shared → Prop} (D : ZipApart z TI TO i1 i2 l1 l2)
    (hz : ZQ s.heap z TI TO) (hTI : IsPair s.heap TI (.ref i1) (.ref i2)) (hTO : IsPair s.heap TO a b)
    (h1 : s.heap.IsTupleIter i1 l1 k1) (h2 : s.heap.IsTupleIter i2 l2 k2) (hl1 : s.heap.IsTuple l1 xs) (hl2 : s.heap.IsTuple l2 ys) (hx : xs[k1]? = some x) (hy : ys[k2]? = some y)
    (hQ : ∀ h', ZQ h' z TI TO → (∃ a b, IsPair h' TO a b) → h'.IsTupleIter i1 l1 (k1 + 1) → h'.IsTupleIter i2 l2 (k2 + 1) → IsPair h' s.heap.objs.size x y → h'.objs.size = s.heap.objs.size + 1 →
      (∀ c o, c ≠ z → c ≠ TO → c ≠ i1 → c ≠ i2 → s.heap.get? c = some o → h'.get? c = some o) → Q (.ref s.heap.objs.size) { s with heap := h' }) :
    wpAny (model prog w) A (Builtin.SmallTypes.nextOf (.ref z)) Q E s := by
  obtain ⟨o, ho, hc, _⟩ := hz.there
  have hT : s.TypeIs (.ref z) "zip" := ⟨o, ho, hc⟩
  unfold Builtin.SmallTypes.nextOf
  exact wpAny_bind (wpAny_callSpecial?_slot (name := Str.ofString "__next__") hT F.slot_zip_next
    (wpAny_call_entry F.slot_zip_next hT F.entry_zip_next (za_next_item D hz hTI hTO h1 h2 hl1 hl2 hx hy fun h' b1 b2 b3 b4 b5 b6 b7 => wpAny_pure (hQ h' b1 b2 b3 b4 b5 b6 b7)) (F.args_zip_next_1 _)))
theorem za_nextOf_end {z TI TO i1 i2 l1 l2 : Addr} {k1 k2 : Nat} {xs ys : Array Value} {a b : Value} {Q : Value → Shared → Prop} (hh : A.in1.handled = none) (D : ZipApart z TI TO i1 i2 l1 l2)
    (hz : ZQ s.heap z TI TO) (hTI : IsPair s.heap TI (.ref i1) (.ref i2)) (hTO : IsPair s.heap TO a b)
    (h1 : s.heap.IsTupleIter i1 l1 k1) (h2 : s.heap.IsTupleIter i2 l2 k2) (hl1 : s.heap.IsTuple l1 xs) (hl2 : s.heap.IsTuple l2 ys) (hend : xs[k1]? = none ∨ ys[k2]? = none)
    (hE : ∀ h' e, (∀ c o, c ≠ z → c ≠ TO → c ≠ i1 → c ≠ i2 → s.heap.get? c = some o → h'.get? c = some o) → (∃ o, h'.get? e = some o ∧ o.cls = .type "StopIteration") → E (.ref e) { s with heap := h' }) :
    wpAny (model prog w) A (Builtin.SmallTypes.nextOf (.ref z)) Q E s := by
  obtain ⟨o, ho, hc, _⟩ := hz.there
  have hT : s.TypeIs (.ref z) "zip" := ⟨o, ho, hc⟩
  unfold Builtin.SmallTypes.nextOf
  exact wpAny_bind (wpAny_callSpecial?_slot (name := Str.ofString "__next__") hT F.slot_zip_next
    (wpAny_call_entry F.slot_zip_next hT F.entry_zip_next (za_next_end hh D hz hTI hTO h1 h2 hl1 hl2 hend hE) (F.args_zip_next_1 _)))
theorem ze_next_item {e z TI TO i1 i2 l1 l2 : Addr} {i : Int} {k1 k2 : Nat} {xs ys : Array Value} {x y a b old : Value} {Q : Value → Shared → Prop} (D : ZipApart z TI TO i1 i2 l1 l2) (hn : e ≠ z ∧ e ≠ TI ∧ e ≠ TO ∧ e ≠ i1 ∧ e ≠ i2)
    (he : IsEnum s.heap e z i old) (hz : ZQ s.heap z TI TO) (hTI : IsPair s.heap TI (.ref i1) (.ref i2)) (hTO : IsPair s.heap TO a b)
    (h1 : s.heap.IsTupleIter i1 l1 k1) (h2 : s.heap.IsTupleIter i2 l2 k2) (hl1 : s.heap.IsTuple l1 xs) (hl2 : s.heap.IsTuple l2 ys) (hx : xs[k1]? = some x) (hy : ys[k2]? = some y)
    (hQ : ∀ h₁ h' tk, ZQ h₁ z TI TO → (∃ a b, IsPair h₁ TO a b) → h₁.IsTupleIter i1 l1 (k1 + 1) → h₁.IsTupleIter i2 l2 (k2 + 1) → IsPair h₁ s.heap.objs.size x y → h₁.objs.size = s.heap.objs.size + 1 →
      (∀ c o, c ≠ z → c ≠ TO → c ≠ i1 → c ≠ i2 → s.heap.get? c = some o → h₁.get? c = some o) →
      IsEnumOut h' e z (i + 1) (.ref s.heap.objs.size) (s.heap.objs.size + 1) → h'.get? (s.heap.objs.size + 1) = some { cls := .type "tuple", data := .seq #[.int i tk, .ref s.heap.objs.size] } →
      (∀ c o, c ≠ e → h₁.get? c = some o → h'.get? c = some o) → Q (.ref (s.heap.objs.size + 1)) { s with heap := h', toks := tk + 1 }) :
    wpAny (model prog w) A (Builtin.«enumerate.__next__» ⟨[.ref e], []⟩) (fun fin s' => ∃ v, fin = .done (.ret v) ∧ Q v s') E s := by
  obtain ⟨hp, g, d, tk, os⟩ := s
  show wpAny _ _ (field (.ref e) 2 >>= _) _ _ _
  refine wpAny_bind (wpAny_field he rfl (x := .ref z) rfl ?_)
  refine wpAny_bind (za_nextOf_item D hz hTI hTO h1 h2 hl1 hl2 hx hy fun h₁ b1 b2 b3 b4 b5 b6 b7 => ?_)
  have he₁ : IsEnum h₁ e z i old := b7 e _ hn.1 hn.2.2.1 hn.2.2.2.1 hn.2.2.2.2 he
  show wpAny _ _ (field (.ref e) 3 >>= _) _ _ ⟨h₁, g, d, tk, os⟩
  refine wpAny_bind (wpAny_field he₁ rfl (x := rawInt i) rfl ?_)
  show wpAny _ _ (field (.ref e) 4 >>= _) _ _ ⟨h₁, g, d, tk, os⟩
  refine wpAny_bind (wpAny_field he₁ rfl (x := .none) rfl ?_)
  show wpAny _ _ (mkInt i >>= _) _ _ ⟨h₁, g, d, tk, os⟩
  refine wpAny_bind (wpAny_mkInt ?_)
  show wpAny _ _ (setField (.ref e) 3 (rawInt (i + 1)) >>= _) _ _ ⟨h₁, g, d, tk + 1, os⟩
  refine wpAny_bind (wpAny_setField_rec he₁ (by simp) fun h₂ he₂ hs₂ => ?_)
  replace hs₂ : Heap.SameBut e h₁ h₂ := hs₂
  replace he₂ : IsEnum h₂ e z (i + 1) old := he₂
  show wpAny _ _ (setField (.ref e) 4 .none >>= _) _ _ ⟨h₂, g, d, tk + 1, os⟩
  refine wpAny_bind (wpAny_setField_rec he₂ (by simp) fun h₃ he₃ hs₃ => ?_)
  replace hs₃ : Heap.SameBut e h₂ h₃ := hs₃
  replace he₃ : IsEnum h₃ e z (i + 1) old := he₃
  show wpAny _ _ (newTuple [.int i tk, .ref hp.objs.size] >>= _) _ _ ⟨h₃, g, d, tk + 1, os⟩
  refine wpAny_bind (wpAny_newTuple ?_)
  have he₄ : IsEnum (h₃.push { cls := .type "tuple", data := .seq #[.int i tk, .ref hp.objs.size] }) e z (i + 1) old := Heap.get?_push_of_some _ he₃
  generalize hh₄ : h₃.push { cls := .type "tuple", data := .seq #[.int i tk, .ref hp.objs.size] } = h₄ at he₄
  have hsz : h₃.objs.size = hp.objs.size + 1 := by rw [hs₃.1, hs₂.1]; exact b6
  have hel : e < hp.objs.size := Heap.lt_size he
  have ht₄ : h₄.get? (hp.objs.size + 1) = some { cls := .type "tuple", data := .seq #[.int i tk, .ref hp.objs.size] } := by rw [← hh₄, ← hsz]; exact Heap.get?_push_size _ rfl
  have hk₄ : ∀ c o, c ≠ e → h₁.get? c = some o → h₄.get? c = some o := fun c o hc q => by
    rw [← hh₄]; exact Heap.get?_push_of_some _ (hs₃.extBut c o hc (hs₂.extBut c o hc q))
  show wpAny _ _ (Builtin.SmallTypes.ownedTupleIsFree (.ref e) >>= _) _ _ ⟨h₄, g, d, tk + 1, os⟩
  rw [hsz]
  refine wpAny_bind ?_
  unfold Builtin.SmallTypes.ownedTupleIsFree
  refine wpAny_bind (wpAny_field he₄ rfl (x := .none) rfl (wpAny_pure ?_))
  simp only [if_true]
  refine wpAny_bind (wpAny_rule ?_)
  refine wpAny_bind (wpAny_field he₄ rfl (x := old) rfl ?_)
  refine wpAny_bind (wpAny_setField_rec he₄ (by simp) fun h₅ he₅ hs₅ => ?_)
  replace hs₅ : Heap.SameBut e h₄ h₅ := hs₅
  replace he₅ : IsEnum h₅ e z (i + 1) (.ref hp.objs.size) := he₅
  show wpAny _ _ (Builtin.SmallTypes.ownedTupleHandOut (.ref e) (.ref (hp.objs.size + 1)) >>= _) _ _ ⟨h₅, g, d, tk + 1, os⟩
  refine wpAny_bind ?_
  unfold Builtin.SmallTypes.ownedTupleHandOut
  refine wpAny_bind (wpAny_setField_rec he₅ (by simp) fun h₆ he₆ hs₆ => ?_)
  replace hs₆ : Heap.SameBut e h₅ h₆ := hs₆
  replace he₆ : IsEnumOut h₆ e z (i + 1) (.ref hp.objs.size) (hp.objs.size + 1) := he₆
  refine wpAny_setField_rec he₆ (by simp) fun h₇ he₇ hs₇ => ?_
  replace hs₇ : Heap.SameBut e h₆ h₇ := hs₇
  replace he₇ : IsEnumOut h₇ e z (i + 1) (.ref hp.objs.size) (hp.objs.size + 1) := he₇
  have hne : hp.objs.size + 1 ≠ e := Nat.ne_of_gt (Nat.lt_succ_of_lt hel)
  refine wpAny_bind (wpAny_letGo (wpAny_pure ⟨_, rfl, hQ h₁ h₇ tk b1 b2 b3 b4 b5 b6 b7 he₇ ?_ fun c o hc q => ?_⟩))
  · exact hs₇.extBut _ _ hne (hs₆.extBut _ _ hne (hs₅.extBut _ _ hne ht₄))
  · exact hs₇.extBut c o hc (hs₆.extBut c o hc (hs₅.extBut c o hc (hk₄ c o hc q)))
theorem ze_pyNext_item {e z TI TO i1 i2 l1 l2 : Addr} {i : Int} {k1 k2 : Nat} {xs ys : Array Value} {x y a b old : Value} {Q : Option Value → Shared → Prop} (D : ZipApart z TI TO i1 i2 l1 l2) (hn : e ≠ z ∧ e ≠ TI ∧ e ≠ TO ∧ e ≠ i1 ∧ e ≠ i2)
    (he : IsEnum s.heap e z i old) (hz : ZQ s.heap z TI TO) (hTI : IsPair s.heap TI (.ref i1) (.ref i2)) (hTO : IsPair s.heap TO a b)
    (h1 : s.heap.IsTupleIter i1 l1 k1) (h2 : s.heap.IsTupleIter i2 l2 k2) (hl1 : s.heap.IsTuple l1 xs) (hl2 : s.heap.IsTuple l2 ys) (hx : xs[k1]? = some x) (hy : ys[k2]? = some y)
    (hQ : ∀ h₁ h' tk, ZQ h₁ z TI TO → (∃ a b, IsPair h₁ TO a b) → h₁.IsTupleIter i1 l1 (k1 + 1) → h₁.IsTupleIter i2 l2 (k2 + 1) → IsPair h₁ s.heap.objs.size x y → h₁.objs.size = s.heap.objs.size + 1 →
      (∀ c o, c ≠ z → c ≠ TO → c ≠ i1 → c ≠ i2 → s.heap.get? c = some o → h₁.get? c = some o) →
      IsEnumOut h' e z (i + 1) (.ref s.heap.objs.size) (s.heap.objs.size + 1) → h'.get? (s.heap.objs.size + 1) = some { cls := .type "tuple", data := .seq #[.int i tk, .ref s.heap.objs.size] } →
      (∀ c o, c ≠ e → h₁.get? c = some o → h'.get? c = some o) → Q (some (.ref (s.heap.objs.size + 1))) { s with heap := h', toks := tk + 1 }) :
    wpAny (model prog w) A (pyNext (.ref e)) Q E s := by
  have hT : s.TypeIs (.ref e) "enumerate" := ⟨_, he, rfl⟩
  unfold pyNext
  exact wpAny_bind (wpAny_attempt (wpAny_callSpecial?_slot (name := Str.ofString "__next__") hT F.slot_enumerate_next
    (wpAny_call_entry F.slot_enumerate_next hT F.entry_enumerate_next
      (ze_next_item D hn he hz hTI hTO h1 h2 hl1 hl2 hx hy fun h₁ h' tk b1 b2 b3 b4 b5 b6 b7 b8 b9 b10 => wpAny_pure (hQ h₁ h' tk b1 b2 b3 b4 b5 b6 b7 b8 b9 b10)) (F.args_enumerate_next_1 _))))
theorem ze_pyNext_end {e z TI TO i1 i2 l1 l2 : Addr} {i : Int} {k1 k2 : Nat} {xs ys : Array Value} {a b old : Value} {Q : Option Value → Shared → Prop} (hh : A.handled = none) (D : ZipApart z TI TO i1 i2 l1 l2)
    (he : IsEnum s.heap e z i old) (hz : ZQ s.heap z TI TO) (hTI : IsPair s.heap TI (.ref i1) (.ref i2)) (hTO : IsPair s.heap TO a b)
    (h1 : s.heap.IsTupleIter i1 l1 k1) (h2 : s.heap.IsTupleIter i2 l2 k2) (hl1 : s.heap.IsTuple l1 xs) (hl2 : s.heap.IsTuple l2 ys) (hend : xs[k1]? = none ∨ ys[k2]? = none)
    (hQ : ∀ h', (∀ c o, c ≠ z → c ≠ TO → c ≠ i1 → c ≠ i2 → s.heap.get? c = some o → h'.get? c = some o) → Q none { s with heap := h' }) :
    wpAny (model prog w) A (pyNext (.ref e)) Q E s := by
  have hT : s.TypeIs (.ref e) "enumerate" := ⟨_, he, rfl⟩
  unfold pyNext
  refine wpAny_bind (wpAny_attempt (wpAny_callSpecial?_slot (name := Str.ofString "__next__") hT F.slot_enumerate_next
    (wpAny_call_entry F.slot_enumerate_next hT F.entry_enumerate_next ?_ (F.args_enumerate_next_1 _))))
  show wpAny _ _ (field (.ref e) 2 >>= _) _ _ _
  refine wpAny_bind (wpAny_field he rfl (x := .ref z) rfl ?_)
  refine wpAny_bind (za_nextOf_end hh D hz hTI hTO h1 h2 hl1 hl2 hend fun h' x he' hx' => ?_)
  obtain ⟨o, ho, hc⟩ := hx'
  refine wpAny_bind (wpAny_isInstance (T := "StopIteration") (b := true) ⟨o, ho, hc⟩ isSubtype_stop ?_)
  exact wpAny_pure (hQ _ he')
/-- enumerate of an iterator that is its own -/
theorem meets_enumerate_newS1 (v : Value) (H : Heap → Prop) (B : ∀ (prog : Program) (w : World) (A : Around) (E : Value → Shared → Prop) (s : Shared) (Q : Value → Shared → Prop), H s.heap → Q v s → wpAny (model prog w) A (pyIter v) Q E s) :
    Meets (Builtin.«enumerate.__new__» ⟨[.type "enumerate", v], []⟩) (fun _ R s => H s.heap ∧
      R (.ok (.ret (.ref s.heap.objs.size))) { s with heap := s.heap.push { cls := .type "enumerate", data := .fields #[.none, .bool false, v, rawInt 0, .none, .none] } }) :=
  .of_wp fun prog w A R s h => by
    obtain ⟨hp, g, d, tk, os⟩ := s; obtain ⟨h1, h⟩ := h
    have hsub := sub_enumerate
    have q1 : ∀ {A' : Around} {E : Value → Shared → Prop} {Q : Value → Shared → Prop}, Q v ⟨hp, g, d, tk, os⟩ → wpAny (model prog w) A' (pyIter v) Q E ⟨hp, g, d, tk, os⟩ :=
      fun q => B prog w _ _ ⟨hp, g, d, tk, os⟩ _ h1 q
    wp_walk using q1
    refine wpAny_stack_any fun st => wpAny_pure ?_
    split
    · rename_i c _ _ _ _ _
      cases (c == Value.type "enumerate")
      · wp_walk using q1
        exact ⟨_, rfl, h⟩
      · wp_walk using q1
        exact ⟨_, rfl, h⟩
    · wp_walk using q1
      exact ⟨_, rfl, h⟩
theorem enum_self1 {z TI TO : Addr} {f0 : Value} {Q : Value → Shared → Prop} (hz : IsZip s.heap z TI TO f0)
    (h : ∀ h', IsEnum h' s.heap.objs.size z 0 .none → (∀ b o, s.heap.get? b = some o → h'.get? b = some o) → Q (.ref s.heap.objs.size) { s with heap := h' }) :
    wpAny (model prog w) A (call (.type "enumerate") [.ref z]) Q E s := by
  refine callType_new F.called_enumerate (by decide) (F.typeCall_enumerate_1 _) (F.newCall_enumerate_1 _) (fun obj => F.args_object_init_2 obj _) F.entry_enumerate_new
    (meets_enumerate_newS1 (.ref z) (fun h => IsZip h z TI TO f0) fun prog w A E s Q h q => wpAny_pyIter_zip h q) ⟨hz, ?_⟩
  have he : IsEnum (s.heap.push { cls := .type "enumerate", data := .fields #[.none, .bool false, .ref z, rawInt 0, .none, .none] }) s.heap.objs.size z 0 .none := Heap.get?_push_size _ rfl
  exact ⟨⟨_, he, rfl⟩, h _ he fun b o x => Heap.get?_push_of_some _ x⟩
end
end PySem

namespace K76
open PySem PySem.Spec PyProof.Rows L2
def IteZ (K : PySem.W.Frag) (a b : Addr) : It :=
  ⟨fun i H => ∃ (xs ys : List V) (x y : V), SqT K H a xs ∧ SqT K H b ys ∧ xs[i]? = some x ∧ ys[i]? = some y,
    fun i H v H' => ∃ T T' x y, v = .ref T' ∧ H T = none ∧ H T' = none ∧ T' ≠ T ∧ H' = upd (upd H T (.tup [x, y])) T' (.tup [.int (i : Nat), .ref T]) ∧ (∀ xs, SqT K H a xs → xs[i]? = some x) ∧ ∀ ys, SqT K H b ys → ys[i]? = some y,
    fun i H => ∃ xs ys : List V, SqT K H a xs ∧ SqT K H b ys ∧ (xs.length ≤ i ∨ ys.length ≤ i)⟩
theorem turn_enumZ {P : Program} {w : World} {K : PySem.W.Frag} {elts : List Expr} {kk : Nat} {tpos : Pos} {a b e z TI TO i1 i2 : Addr} (D : ZipApart z TI TO i1 i2 a b) (hn : e ≠ z ∧ e ≠ TI ∧ e ≠ TO ∧ e ≠ i1 ∧ e ≠ i2) :
    Turn P w K (.Tuple elts kk tpos) (IteZ K a b) [e, z, TI, TO, i1, i2] e (fun i h => (∃ old, IsEnum h e z ((i : Nat) : Int) old) ∧ ZQ h z TI TO ∧ IsPair h TI (.ref i1) (.ref i2) ∧ (∃ x y, IsPair h TO x y) ∧ h.IsTupleIter i1 a i ∧ h.IsTupleIter i2 b i) where
  mem := by simp
  obj := fun i h st c hc => by
    obtain ⟨⟨old, he⟩, hz, hTI, ⟨x, y, hTO⟩, ⟨o1, e1, _, d1⟩, ⟨o2, e2, _, d2⟩⟩ := st
    have e' : c = e ∨ c = z ∨ c = TI ∨ c = TO ∨ c = i1 ∨ c = i2 := by simpa using hc
    rcases e' with q | q | q | q | q | q
    · rw [q]; exact ⟨_, he, fun v q => nomatch q⟩
    · rw [q]; obtain ⟨o, e, _, d⟩ := hz.there; exact ⟨o, e, d⟩
    · rw [q]; exact ⟨_, hTI, fun v q => nomatch q⟩
    · rw [q]; exact ⟨_, hTO, fun v q => nomatch q⟩
    · rw [q]; exact ⟨o1, e1, fun v q => by rw [d1] at q; cases q⟩
    · rw [q]; exact ⟨o2, e2, fun v q => by rw [d2] at q; cases q⟩
  keep := fun i h h' st k => by
    obtain ⟨⟨old, he⟩, hz, hTI, ⟨x, y, hTO⟩, h1, h2⟩ := st
    exact ⟨⟨old, k e (by simp) _ he⟩, hz.at_ fun o q => k z (by simp) o q, k TI (by simp) _ hTI, ⟨x, y, k TO (by simp) _ hTO⟩, h1.at fun o q => k i1 (by simp) o q, h2.at fun o q => k i2 (by simp) o q⟩
  item := by
    intro X hP hw hK hc i pins s σ H E I hf st hg
    subst hP hw hK
    obtain ⟨⟨old, he⟩, hz, hTI, ⟨x0, y0, hTO⟩, h1, h2⟩ := st
    obtain ⟨xs, ys, x, y, hqx, hqy, hx, hy⟩ := hg
    obtain ⟨its, rv, p, _⟩ := I.tuple hqx
    obtain ⟨its2, rv2, p2, _⟩ := I.tuple hqy
    obtain ⟨u, hu, ru⟩ := rv.get hx
    obtain ⟨u2, hu2, ru2⟩ := rv2.get hy
    have hel : e < s.heap.objs.size := Heap.lt_size he
    refine ze_pyNext_item D hn he hz hTI hTO h1 h2 p p2 (x := u) (y := u2) (by simpa using hu) (by simpa using hu2) fun h₁ h' tk b1 b2 b3 b4 b5 b6 b7 b8 b9 b10 => ?_
    refine ⟨_, rfl, wpAny_letOwnedTupleGo_enum (s := { s with heap := h', toks := tk + 1 }) b8 fun h'' he'' sb => ?_⟩
    have nT : H s.heap.objs.size = none := I.hok.fresh (Nat.le_refl _)
    have nT' : H (s.heap.objs.size + 1) = none := I.hok.fresh (Nat.le_succ _)
    have new1 : ObjOk X.prog X.w (upd H s.heap.objs.size (.tup [x, y])) h₁ s.heap.objs.size (.tup [x, y]) :=
      ⟨by show 2 ≤ sizeLine; decide, [u, u2], .cons ru (.cons ru2 .nil), ⟨_, b5, rfl, _, rfl⟩⟩
    have I1 : Inv X pins σ (upd H s.heap.objs.size (.tup [x, y])) { s with heap := h₁ } :=
      I.turnedNew (t' := s.toks) (ch := [e, z, TI, TO, i1, i2]) (fun c o hb q => b7 c o (fun q' => hb (by simp [q'])) (fun q' => hb (by simp [q'])) (fun q' => hb (by simp [q'])) (fun q' => hb (by simp [q'])) q) hf (Nat.le_refl _) new1
    have hlt : ∀ c ∈ [e, z, TI, TO, i1, i2], c < s.heap.objs.size := fun c hcm => by
      have e' : c = e ∨ c = z ∨ c = TI ∨ c = TO ∨ c = i1 ∨ c = i2 := by simpa using hcm
      rcases e' with q | q | q | q | q | q
      · rw [q]; exact hel
      · rw [q]; obtain ⟨_, e1, _⟩ := hz.there; exact Heap.lt_size e1
      · rw [q]; exact Heap.lt_size hTI
      · rw [q]; exact Heap.lt_size hTO
      · rw [q]; obtain ⟨_, e1, _⟩ := h1; exact Heap.lt_size e1
      · rw [q]; obtain ⟨_, e2, _⟩ := h2; exact Heap.lt_size e2
    have ne1 : s.heap.objs.size + 1 ≠ e := Nat.ne_of_gt (Nat.lt_succ_of_lt hel)
    have hT2 : h''.get? (s.heap.objs.size + 1) = some { cls := .type "tuple", data := .seq #[.int i tk, .ref s.heap.objs.size] } := (sb.2 _ ne1).trans b9
    have new2 : ObjOk X.prog X.w (upd (upd H s.heap.objs.size (.tup [x, y])) (s.heap.objs.size + 1) (.tup [.int (i : Nat), .ref s.heap.objs.size])) h'' (s.heap.objs.size + 1) (.tup [.int (i : Nat), .ref s.heap.objs.size]) :=
      ⟨by show 2 ≤ sizeLine; decide, [.int i tk, .ref s.heap.objs.size], .cons ⟨_, rfl⟩ (.cons rfl .nil), ⟨_, hT2, rfl, _, rfl⟩⟩
    have hfe : FpOk X pins (upd H s.heap.objs.size (.tup [x, y])) e := by
      obtain ⟨f0, f1, f2, f3, f4, f5⟩ := hf e (by simp)
      exact ⟨by rw [upd_ne (Nat.ne_of_lt hel)]; exact f0, f1, f2, f3, f4, f5⟩
    have I2 : Inv X pins σ (upd (upd H s.heap.objs.size (.tup [x, y])) (s.heap.objs.size + 1) (.tup [.int (i : Nat), .ref s.heap.objs.size])) { s with heap := h'', toks := tk + 1 } :=
      I1.turnedNew (t' := tk + 1) (ch := [e]) (h' := h'') (fun c o hb q => (sb.2 c (fun q' => hb (by simp [q']))).trans (b10 c o (fun q' => hb (by simp [q'])) q)) (fun c hc => by
        have e' : c = e := by simpa using hc
        rw [e']
        exact hfe) (by show h₁.objs.size ≤ _; rw [b6]; exact Nat.le_refl _) new2
    have up : ∀ c o, c ≠ e → h₁.get? c = some o → h''.get? c = some o := fun c o hc q => (sb.2 c hc).trans (b10 c o hc q)
    refine ⟨.ref (s.heap.objs.size + 1), _, I2, rfl, ⟨_, _, x, y, rfl, nT, nT', Nat.succ_ne_self _, rfl, fun l hl => by rw [I.tuple_inj hl hqx]; exact hx, fun l hl => by rw [I.tuple_inj hl hqy]; exact hy⟩, ⟨⟨.ref s.heap.objs.size, ?_⟩, ?_, ?_, ?_, ?_, ?_⟩, fun c hcm => ?_⟩
    · have e1 : ((i + 1 : Nat) : Int) = (i : Int) + 1 := by omega
      rw [e1]; exact he''
    · exact b1.at_ fun o q => up z o hn.1.symm q
    · exact up _ _ hn.2.1.symm (b7 _ _ D.TIz D.TITO D.TIi1 D.TIi2 hTI)
    · obtain ⟨q1, q2, q3⟩ := b2
      exact ⟨q1, q2, up _ _ hn.2.2.1.symm q3⟩
    · exact b3.at fun o q => up _ o hn.2.2.2.1.symm q
    · exact b4.at fun o q => up _ o hn.2.2.2.2.symm q
    · rw [upd_ne (Nat.ne_of_lt (Nat.lt_succ_of_lt (hlt c hcm))), upd_ne (Nat.ne_of_lt (hlt c hcm))]
      exact (hf c hcm).1
  done := by
    intro X hP hw hK hc i pins s σ H E I hf st hg
    subst hP hw hK
    obtain ⟨⟨old, he⟩, hz, hTI, ⟨x0, y0, hTO⟩, h1, h2⟩ := st
    obtain ⟨xs, ys, hqx, hqy, hend⟩ := hg
    obtain ⟨its, rv, p, _⟩ := I.tuple hqx
    obtain ⟨its2, rv2, p2, _⟩ := I.tuple hqy
    have l1 := rv.length
    have l2 := rv2.length
    have he' : its.toArray[i]? = none ∨ its2.toArray[i]? = none := by
      rcases hend with q | q
      · exact .inl (by simp; omega)
      · exact .inr (by simp; omega)
    exact ze_pyNext_end (I.ok.hd hc) D he hz hTI hTO h1 h2 p p2 he' fun h' hk => ⟨rfl, I.turnedL (t' := s.toks) (ch := [e, z, TI, TO, i1, i2]) (fun c o hb q =>
      hk c o (fun q' => hb (by simp [q'])) (fun q' => hb (by simp [q'])) (fun q' => hb (by simp [q'])) (fun q' => hb (by simp [q'])) q) hf⟩
  self := fun A i s Q E st h => let ⟨⟨_, he⟩, _⟩ := st; wpAny_pyIter_enum he h
def iEnumZ (K : PySem.W.Frag) (ta : TA) : TI := fun σ H R => ta σ H fun vs H1 => ∃ a b xs ys, vs = [.ref a, .ref b] ∧ SqT K H1 a xs ∧ SqT K H1 b ys ∧ R (IteZ K a b) H1
theorem pi_enumZ {X : Cx} {e e2 : Expr} {ta : TA} {p p2 pos pos2 tpos : Pos} {elts : List Expr} {kk : Nat} (hg : Gl X "zip") (hm : X.mg "zip" = none) (hg2 : Gl X "enumerate") (hm2 : X.mg "enumerate" = none) (ha : PA X [e, e2] ta)
    (hs : starEach [e, e2] X.env = (false, eval e X.env) :: starEach [e2] X.env) (hpl : (backTo pos (starEach [e2] X.env)).any (·.1) = false) :
    PI X (.Tuple elts kk tpos) (.Call (.Name "enumerate" p2) [.Call (.Name "zip" p) [e, e2] [] pos] [] pos2) (iEnumZ X.K ta) := by
  refine ⟨fun pins s σ H R I h => ?_⟩
  refine Call_ (ld_blt I hg2 hm2 boot_enumerate ?_)
  have key : wpAny (model X.prog X.w) X.A (eval (.Call (.Name "zip" p) [e, e2] [] pos) X.env) (fun u s1 => wpAny (model X.prog X.w) X.A (call (.type "enumerate") [u]) (fun v s2 => wpAny (model X.prog X.w) X.A (pyIter v) (PIE X pins σ (.Tuple elts kk tpos) R) X.xe s2) X.xe s1) X.xe s := by
    refine Call_ (ld_blt I hg hm PyProof.Rows.boot_zip (PyProof.Rows.callWith_type1 (thn (ha.run pos pins s σ H _ I h) fun us s1 ⟨vs, H1, I1, r1, q1⟩ => ?_) hs hpl))
    obtain ⟨a, b, xs, ys, ex, hqx, hqy, q⟩ := q1
    subst ex
    cases r1 with
    | cons r rr =>
      cases rr with
      | cons r' rr =>
        cases rr
        cases r
        cases r'
        obtain ⟨its, rv, p1, _⟩ := I1.tuple hqx
        obtain ⟨its2, rv2, p2, _⟩ := I1.tuple hqy
        obtain ⟨o1, ho1, _⟩ := id p1
        obtain ⟨o2, ho2, _⟩ := id p2
        refine RZ.call_zipT (show s1.heap.IsTuple a its.toArray from p1) (show s1.heap.IsTuple b its2.toArray from p2) fun h' hz hTI hTO h1 h2 hsz hk => ?_
        refine enum_self1 hz fun h'' he hk2 => wpAny_pyIter_enum he ?_
        have I2 : Inv X pins σ H1 { s1 with heap := h'' } := I1.kept (t' := s1.toks) fun c o q => hk2 c o (hk c o q)
        have hz' : IsZip h'' (s1.heap.objs.size + 4) (s1.heap.objs.size + 2) (s1.heap.objs.size + 3) .none := hk2 _ _ hz
        show PIE X pins σ (.Tuple elts kk tpos) R (.ref h'.objs.size) { s1 with heap := h'' }
        have he : IsEnum h'' h'.objs.size (s1.heap.objs.size + 4) 0 .none := he
        rw [hsz] at he ⊢
        refine ⟨s1.heap.objs.size + 5, [s1.heap.objs.size + 5, s1.heap.objs.size + 4, s1.heap.objs.size + 2, s1.heap.objs.size + 3, s1.heap.objs.size, s1.heap.objs.size + 1], _, _, H1, rfl, I2,
          turn_enumZ (PySem.W.ktu_apart s1.heap.objs.size a b (Heap.lt_size ho1) (Heap.lt_size ho2)) ⟨Nat.ne_of_gt (Nat.lt_succ_self _), Nat.ne_of_gt (by show s1.heap.objs.size + 2 < s1.heap.objs.size + 5; omega), Nat.ne_of_gt (by show s1.heap.objs.size + 3 < s1.heap.objs.size + 5; omega), Nat.ne_of_gt (by show s1.heap.objs.size < s1.heap.objs.size + 5; omega), Nat.ne_of_gt (by show s1.heap.objs.size + 1 < s1.heap.objs.size + 5; omega)⟩,
          ⟨⟨.none, he⟩, ⟨.none, false, .inl rfl, hz'⟩, hk2 _ _ hTI, ⟨_, _, hk2 _ _ hTO⟩, h1.at fun o q => hk2 _ o q, h2.at fun o q => hk2 _ o q⟩, fun c hcm => ?_, q⟩
        have e' : c = s1.heap.objs.size + 5 ∨ c = s1.heap.objs.size + 4 ∨ c = s1.heap.objs.size + 2 ∨ c = s1.heap.objs.size + 3 ∨ c = s1.heap.objs.size ∨ c = s1.heap.objs.size + 1 := by simpa using hcm
        have hle : s1.heap.objs.size ≤ c := by
          rcases e' with z | z | z | z | z | z
          · rw [z]; exact Nat.le_add_right _ _
          · rw [z]; exact Nat.le_add_right _ _
          · rw [z]; exact Nat.le_add_right _ _
          · rw [z]; exact Nat.le_add_right _ _
          · rw [z]; exact Nat.le_refl _
          · rw [z]; exact Nat.le_add_right _ _
        exact I1.fpOk hle (I1.hok.fresh hle)
  refine PyProof.Rows.callWith_type1 (e := .Call (.Name "zip" p) [e, e2] [] pos) (Calls.spliced_cons (thn key fun u s1 q => Calls.spliced_nil q)) rfl rfl
end K76
set_option Elab.async false
set_option linter.all false
set_option maxRecDepth 100000
set_option autoImplicit false
set_option maxHeartbeats 4000000
/-! K5x: targets, walks, loops, comprehensions by tD -/
namespace K76
open PySem PySem.Spec PyProof.Rows L2
section
variable {g : G} {m m1 : List Addr} {S : Store} {H H1 : Hp}
/-- J walks src (from the heap H1 on) -/
structure JW (g : G) (m1 : List Addr) (H1 : Hp) (J : It) (src : Src) : Prop where
  go : ∀ (m : List Addr) (S : Store) (H : Hp) (i : Nat) (d : D), Ext m1 H1 m H → SR g m S H → src.item S i = some d → J.go i H
  yld : ∀ (m : List Addr) (S : Store) (H : Hp) (i : Nat) (d : D) (x : V) (H' : Hp), Ext m1 H1 m H → SR g m S H → src.item S i = some d → J.yld i H x H' → Ext m H m H' ∧ SR g m S H' ∧ Rep g.K m H' d x ∧ ∀ a o, H a = some o → H' a = some o
  stop : ∀ (m : List Addr) (S : Store) (H : Hp), Ext m1 H1 m H → SR g m S H → src.fine S = true → J.stop src.len H
theorem jw_tup {a : Addr} {vs : List V} {l : List D} (sr : SR g m S H) (hq : SqT g.K H a vs) (r : Reps g.K m H l vs) : JW g m H (Itt g.K a) (.fix l) where
  go := fun m1 S1 H1 i d e s h => by
    obtain ⟨v, h1, _⟩ := r.get (show l[i]? = some d from h)
    exact ⟨vs, v, (e.kpt sr).sqt hq, h1⟩
  yld := fun m1 S1 H1 i d x H' e s h hy => by
    obtain ⟨rfl, h2⟩ := hy
    obtain ⟨v, h1, h3⟩ := (r.ext e sr).get (show l[i]? = some d from h)
    have h4 := h2 vs ((e.kpt sr).sqt hq)
    rw [h1] at h4
    rw [← Option.some.inj h4]
    exact ⟨Ext.refl _ _, s, h3, fun _ _ z => z⟩
  stop := fun m1 S1 H1 e s _ => ⟨vs, (e.kpt sr).sqt hq, by rw [r.length]; exact Nat.le_refl _⟩
theorem jw_lst {i : Nat} {a : Addr} {n : Nat} (hi : m[i]? = some a) : JW g m H (Itl g.K a) (.ls i n) where
  go := fun m1 S1 H1 k d e s h => by
    have h' : (match S1[i]? with | some (.lst xs) => if xs.length = n then xs[k]? else none | _ => none) = some d := h
    cases e1 : S1[i]? with
    | none => rw [e1] at h'; cases h'
    | some o =>
      rw [e1] at h'
      cases o with
      | ins C fs => cases h'
      | lst xs =>
        simp only at h'
        split at h'
        · obtain ⟨vs, h2, h3⟩ := s.at_ i a _ (e.get hi) e1
          obtain ⟨v, h4, _⟩ := h3.get h'
          exact ⟨vs, v, SqL.of h2, h4⟩
        · cases h'
  yld := fun m1 S1 H1 k d x H' e s h hy => by
    obtain ⟨rfl, h5⟩ := hy
    have h' : (match S1[i]? with | some (.lst xs) => if xs.length = n then xs[k]? else none | _ => none) = some d := h
    cases e1 : S1[i]? with
    | none => rw [e1] at h'; cases h'
    | some o =>
      rw [e1] at h'
      cases o with
      | ins C fs => cases h'
      | lst xs =>
        simp only at h'
        split at h'
        · obtain ⟨vs, h2, h3⟩ := s.at_ i a _ (e.get hi) e1
          obtain ⟨v, h4, h6⟩ := h3.get h'
          have h7 := h5 vs (SqL.of h2)
          rw [h4] at h7
          rw [← Option.some.inj h7]
          exact ⟨Ext.refl _ _, s, h6, fun _ _ z => z⟩
        · cases h'
  stop := fun m1 S1 H1 e s h => by
    have h' : (match S1[i]? with | some (.lst xs) => decide (xs.length = n) | _ => false) = true := h
    cases e1 : S1[i]? with
    | none => rw [e1] at h'; cases h'
    | some o =>
      rw [e1] at h'
      cases o with
      | ins C fs => cases h'
      | lst xs =>
        simp only [decide_eq_true_eq] at h'
        obtain ⟨vs, h2, h3⟩ := s.at_ i a _ (e.get hi) e1
        refine ⟨vs, SqL.of h2, ?_⟩
        rw [h3.length, h']
        exact Nat.le_refl _
theorem jw_str {z : Str} : JW g m H (Its z) (.fix (z.cps.toList.map fun c => D.str ⟨#[c]⟩)) where
  go := fun m1 S1 H1 i d e s h => by
    have h' : (z.cps.toList.map fun c => D.str ⟨#[c]⟩)[i]? = some d := h
    have hlt : i < z.cps.size := by simpa using (List.getElem?_eq_some_iff.mp h').1
    exact hlt
  yld := fun m1 S1 H1 i d x H' e s h hy => by
    obtain ⟨rfl, c, ec, rfl⟩ := hy
    have h' : (z.cps.toList.map fun c => D.str ⟨#[c]⟩)[i]? = some d := h
    rw [List.getElem?_map, Array.getElem?_toList, ec] at h'
    have e1 : D.str ⟨#[c]⟩ = d := by simpa using h'
    subst e1
    refine ⟨Ext.refl _ _, s, ?_, fun _ _ z => z⟩
    unfold Rep
    rfl
  stop := fun m1 S1 H1 e s _ => by
    show z.cps.size ≤ (z.cps.toList.map fun c => D.str ⟨#[c]⟩).length
    simp
theorem jw_range {n : Nat} : JW g m H (Itr 0 n) (.fix ((List.range n).map fun (k : Nat) => .int (k : Int))) where
  go := fun m1 S1 H1 i d e s h => by
    have h' : ((List.range n).map fun (k : Nat) => D.int (k : Int))[i]? = some d := h
    have hlt : i < n := by simpa using (List.getElem?_eq_some_iff.mp h').1
    exact hlt
  yld := fun m1 S1 H1 i d x H' e s h hy => by
    obtain ⟨rfl, rfl⟩ := hy
    have h' : ((List.range n).map fun (k : Nat) => D.int (k : Int))[i]? = some d := h
    have hlt : i < n := by simpa using (List.getElem?_eq_some_iff.mp h').1
    rw [List.getElem?_map, List.getElem?_range hlt] at h'
    have e1 : D.int (i : Int) = d := by simpa using h'
    subst e1
    refine ⟨Ext.refl _ _, s, ?_, fun _ _ z => z⟩
    rw [show (0 : Int) + (i : Int) = (i : Int) by omega]
    exact mk_int _
  stop := fun m1 S1 H1 e s _ => by
    show n ≤ _
    simp [Src.len]
theorem enumL_get : ∀ (l : List D) (k i : Nat), (enumL k l)[i]? = l[i]?.map fun d => .tup [.int ((k + i : Nat) : Int), d]
  | [], _, _ => by simp [enumL]
  | d :: r, k, 0 => by simp [enumL]
  | d :: r, k, i + 1 => by
    rw [enumL, List.getElem?_cons_succ, enumL_get r (k + 1) i, List.getElem?_cons_succ, show k + 1 + i = k + (i + 1) by omega]
theorem enumL_len : ∀ (l : List D) (k : Nat), (enumL k l).length = l.length
  | [], _ => rfl
  | d :: r, k => by rw [enumL, List.length_cons, List.length_cons, enumL_len r]
theorem zip2L_get : ∀ (l k : List D) (i : Nat) (d : D), (zip2L l k)[i]? = some d → ∃ a b, l[i]? = some a ∧ k[i]? = some b ∧ d = .tup [a, b]
  | a :: r, b :: s, 0, d, h => by
    simp only [zip2L, List.getElem?_cons_zero, Option.some.injEq] at h
    exact ⟨a, b, rfl, rfl, h.symm⟩
  | a :: r, b :: s, i + 1, d, h => by
    simp only [zip2L, List.getElem?_cons_succ] at h
    obtain ⟨x, y, h1, h2, h3⟩ := zip2L_get r s i d h
    exact ⟨x, y, by simpa using h1, by simpa using h2, h3⟩
  | [], _, _, _, h => by simp [zip2L] at h
  | _ :: _, [], _, _, h => by simp [zip2L] at h
theorem zip2L_len : ∀ (l k : List D), (zip2L l k).length = min l.length k.length
  | a :: r, b :: s => by
    rw [zip2L, List.length_cons, List.length_cons, List.length_cons, zip2L_len r s]
    omega
  | [], _ => by simp [zip2L]
  | _ :: _, [] => by simp [zip2L]
theorem zip3L_get : ∀ (l k j : List D) (i : Nat) (d : D), (zip3L l k j)[i]? = some d → ∃ a b c, l[i]? = some a ∧ k[i]? = some b ∧ j[i]? = some c ∧ d = .tup [a, b, c]
  | a :: r, b :: s, c :: t, 0, d, h => by
    simp only [zip3L, List.getElem?_cons_zero, Option.some.injEq] at h
    exact ⟨a, b, c, rfl, rfl, rfl, h.symm⟩
  | a :: r, b :: s, c :: t, i + 1, d, h => by
    simp only [zip3L, List.getElem?_cons_succ] at h
    obtain ⟨x, y, z, h1, h2, h3, h4⟩ := zip3L_get r s t i d h
    exact ⟨x, y, z, by simpa using h1, by simpa using h2, by simpa using h3, h4⟩
  | [], _, _, _, _, h => by simp [zip3L] at h
  | _ :: _, [], _, _, _, h => by simp [zip3L] at h
  | _ :: _, _ :: _, [], _, _, h => by simp [zip3L] at h
theorem zip3L_len : ∀ (l k j : List D), (zip3L l k j).length = min (min l.length k.length) j.length
  | a :: r, b :: s, c :: t => by
    rw [zip3L, List.length_cons, List.length_cons, List.length_cons, List.length_cons, zip3L_len r s t]
    omega
  | [], _, _ => by simp [zip3L]
  | _ :: _, [], _ => by simp [zip3L]
  | _ :: _, _ :: _, [] => by simp [zip3L]
/-- a new tuple of an iterator -/
theorem new_tup {l : List D} {vs : List V} {T : Addr} (s : SR g m S H) (hT : H T = none) (r : Reps g.K m H l vs) : Ext m H m (upd H T (.tup vs)) ∧ SR g m S (upd H T (.tup vs)) ∧ Rep g.K m (upd H T (.tup vs)) (.tup l) (.ref T) ∧ ∀ a o, H a = some o → upd H T (.tup vs) a = some o :=
  ⟨Ext.new hT, s.new hT, mk_tup (SqT.of upd_same) (r.ext (Ext.new hT) s), fun a o h => by rw [upd_ne (ne_of_none h hT)]; exact h⟩
theorem jw_enum {a : Addr} {vs : List V} {l : List D} (sr : SR g m S H) (hq : SqT g.K H a vs) (r : Reps g.K m H l vs) : JW g m H (IteT g.K a) (.fix (enumL 0 l)) where
  go := fun m1 S1 H1 i d e s h => by
    have h' : (enumL 0 l)[i]? = some d := h
    rw [enumL_get] at h'
    obtain ⟨y, h1, _⟩ := Option.map_eq_some_iff.mp h'
    obtain ⟨v, h2, _⟩ := r.get h1
    exact ⟨vs, v, (e.kpt sr).sqt hq, h2⟩
  yld := fun m1 S1 H1 i d x H' e s h hy => by
    obtain ⟨T, x, rfl, hT, rfl, h2⟩ := hy
    have h' : (enumL 0 l)[i]? = some d := h
    rw [enumL_get] at h'
    obtain ⟨y, h1, rfl⟩ := Option.map_eq_some_iff.mp h'
    obtain ⟨v, h4, h3⟩ := (r.ext e sr).get h1
    have h5 := h2 vs ((e.kpt sr).sqt hq)
    rw [h4] at h5
    have e5 := Option.some.inj h5
    subst e5
    rw [Nat.zero_add]
    exact new_tup s hT (Reps.cons (mk_int _) (Reps.one h3))
  stop := fun m1 S1 H1 e s _ => ⟨vs, (e.kpt sr).sqt hq, by rw [r.length]; exact (enumL_len l 0).symm⟩
theorem jw_zip2 {a b : Addr} {vs ws : List V} {l k : List D} (sr : SR g m S H) (hq : SqT g.K H a vs) (r : Reps g.K m H l vs) (hq2 : SqT g.K H b ws) (r2 : Reps g.K m H k ws) : JW g m H (RZ.ItzT g.K a b) (.fix (zip2L l k)) where
  go := fun m1 S1 H1 i d e s h => by
    obtain ⟨x, y, h1, h2, _⟩ := zip2L_get l k i d h
    obtain ⟨v, h3, _⟩ := r.get h1
    obtain ⟨w, h4, _⟩ := r2.get h2
    exact ⟨vs, ws, v, w, (e.kpt sr).sqt hq, (e.kpt sr).sqt hq2, h3, h4⟩
  yld := fun m1 S1 H1 i d x H' e s h hy => by
    obtain ⟨T, x, y, rfl, hT, rfl, h2, h3⟩ := hy
    obtain ⟨p, q, h4, h5, rfl⟩ := zip2L_get l k i d h
    obtain ⟨v, h6, h7⟩ := (r.ext e sr).get h4
    obtain ⟨w, h8, h9⟩ := (r2.ext e sr).get h5
    have e1 := h2 vs ((e.kpt sr).sqt hq)
    have e2 := h3 ws ((e.kpt sr).sqt hq2)
    rw [h6] at e1
    rw [h8] at e2
    have e3 := Option.some.inj e1
    have e4 := Option.some.inj e2
    subst e3 e4
    exact new_tup s hT (Reps.cons h7 (Reps.one h9))
  stop := fun m1 S1 H1 e s _ => by
    refine ⟨vs, ws, (e.kpt sr).sqt hq, (e.kpt sr).sqt hq2, ?_⟩
    rw [r.length, r2.length]
    show _ ≤ (zip2L l k).length ∨ _ ≤ (zip2L l k).length
    rw [zip2L_len]
    omega
theorem jw_zip3 {a b c : Addr} {vs ws us : List V} {l k j : List D} (sr : SR g m S H) (hq : SqT g.K H a vs) (r : Reps g.K m H l vs) (hq2 : SqT g.K H b ws) (r2 : Reps g.K m H k ws) (hq3 : SqT g.K H c us) (r3 : Reps g.K m H j us) :
    JW g m H (ItzT3 g.K a b c) (.fix (zip3L l k j)) where
  go := fun m1 S1 H1 i d e s h => by
    obtain ⟨x, y, z, h1, h2, h0, _⟩ := zip3L_get l k j i d h
    obtain ⟨v, h3, _⟩ := r.get h1
    obtain ⟨w, h4, _⟩ := r2.get h2
    obtain ⟨u, h5, _⟩ := r3.get h0
    exact ⟨vs, ws, us, v, w, u, (e.kpt sr).sqt hq, (e.kpt sr).sqt hq2, (e.kpt sr).sqt hq3, h3, h4, h5⟩
  yld := fun m1 S1 H1 i d x H' e s h hy => by
    obtain ⟨T, x, y, z, rfl, hT, rfl, h2, h3, h0⟩ := hy
    obtain ⟨p, q, o, h4, h5, h11, rfl⟩ := zip3L_get l k j i d h
    obtain ⟨v, h6, h7⟩ := (r.ext e sr).get h4
    obtain ⟨w, h8, h9⟩ := (r2.ext e sr).get h5
    obtain ⟨u, h12, h13⟩ := (r3.ext e sr).get h11
    have e1 := h2 vs ((e.kpt sr).sqt hq)
    have e2 := h3 ws ((e.kpt sr).sqt hq2)
    have e5 := h0 us ((e.kpt sr).sqt hq3)
    rw [h6] at e1
    rw [h8] at e2
    rw [h12] at e5
    have e3 := Option.some.inj e1
    have e4 := Option.some.inj e2
    have e6 := Option.some.inj e5
    subst e3 e4 e6
    exact new_tup s hT (Reps.cons h7 (Reps.cons h9 (Reps.one h13)))
  stop := fun m1 S1 H1 e s _ => by
    refine ⟨vs, ws, us, (e.kpt sr).sqt hq, (e.kpt sr).sqt hq2, (e.kpt sr).sqt hq3, ?_⟩
    rw [r.length, r2.length, r3.length]
    show (zip3L l k j).length = _
    exact zip3L_len l k j
theorem jw_enumZ {a b : Addr} {vs ws : List V} {l k : List D} (sr : SR g m S H) (hq : SqT g.K H a vs) (r : Reps g.K m H l vs) (hq2 : SqT g.K H b ws) (r2 : Reps g.K m H k ws) : JW g m H (IteZ g.K a b) (.fix (enumL 0 (zip2L l k))) where
  go := fun m1 S1 H1 i d e s h => by
    have h' : (enumL 0 (zip2L l k))[i]? = some d := h
    rw [enumL_get] at h'
    obtain ⟨dd, h0, _⟩ := Option.map_eq_some_iff.mp h'
    obtain ⟨x, y, h1, h2, _⟩ := zip2L_get l k i dd h0
    obtain ⟨v, h3, _⟩ := r.get h1
    obtain ⟨w, h4, _⟩ := r2.get h2
    exact ⟨vs, ws, v, w, (e.kpt sr).sqt hq, (e.kpt sr).sqt hq2, h3, h4⟩
  yld := fun m1 S1 H1 i d x H' e s h hy => by
    obtain ⟨T, T', x, y, rfl, hT, hT', ne, rfl, h2, h3⟩ := hy
    have h' : (enumL 0 (zip2L l k))[i]? = some d := h
    rw [enumL_get] at h'
    obtain ⟨dd, h0, rfl⟩ := Option.map_eq_some_iff.mp h'
    obtain ⟨p, q, h4, h5, rfl⟩ := zip2L_get l k i dd h0
    obtain ⟨v, h6, h7⟩ := (r.ext e sr).get h4
    obtain ⟨w, h8, h9⟩ := (r2.ext e sr).get h5
    have e1 := h2 vs ((e.kpt sr).sqt hq)
    have e2 := h3 ws ((e.kpt sr).sqt hq2)
    rw [h6] at e1
    rw [h8] at e2
    have e3 := Option.some.inj e1
    have e4 := Option.some.inj e2
    subst e3 e4
    obtain ⟨a1, a2, a3, a4⟩ := new_tup s hT (Reps.cons h7 (Reps.one h9))
    have hT2 : upd H1 T (.tup [v, w]) T' = none := by rw [upd_ne ne]; exact hT'
    obtain ⟨b1, b2, b3, b4⟩ := new_tup a2 hT2 (Reps.cons (mk_int (i : Int)) (Reps.one a3))
    rw [Nat.zero_add]
    exact ⟨a1.trans b1, b2, b3, fun a o z => b4 a o (a4 a o z)⟩
  stop := fun m1 S1 H1 e s _ => by
    refine ⟨vs, ws, (e.kpt sr).sqt hq, (e.kpt sr).sqt hq2, ?_⟩
    rw [r.length, r2.length]
    show _ ≤ (enumL 0 (zip2L l k)).length ∨ _ ≤ (enumL 0 (zip2L l k)).length
    rw [enumL_len, zip2L_len]
    omega
end
/-! ### PI by tI -/
def ResOkI (g : G) (E : XK) (m : List Addr) (H : Hp) (r : Res Src) (R : It → Hp → Prop) : Prop := match r with
  | .ok src S => ∀ (m' : List Addr) (H' : Hp) (J : It), Ext m H m' H' → SR g m' S H' → JW g m' H' J src → R J H'
  | .exc c d S => ∀ (m' : List Addr) (H' : Hp) (dx : Addr) (v : V), Ext m H m' H' → SR g m' S H' → H' dx = some (.xd [("what", v)]) → Rep g.K m' H' d v → E (.ref (He.ga g.K (g.n.cls c))) (some dx) H'
  | .bad => False
def tI (g : G) (E : XK) (f : Ev → Store → Res Src) : TI := fun σ H R => ∃ m ρ S, SR g m S H ∧ ER g m H ρ σ ∧ ResOkI g E m H (f ρ S) R
section
variable {X : Cx} {g : G} {E : XK} {m m1 : List Addr} {H H1 : Hp}
theorem PI.weak {tg e : Expr} {t t' : TI} (h : PI X tg e t) (c : ∀ σ H R, t' σ H R → t σ H R) : PI X tg e t' := ⟨fun pins s σ H R I q => h.run pins s σ H R I (c σ H R q)⟩
theorem ResOkI.ext {r : Res Src} {R : It → Hp → Prop} (e : Ext m H m1 H1) (h : ResOkI g E m H r R) : ResOkI g E m1 H1 r R := by
  cases r with
  | ok d S => exact fun m' H' v e' => h m' H' v (e.trans e')
  | exc c d S => exact fun m' H' dx v e' => h m' H' dx v (e.trans e')
  | bad => exact h
theorem seqDI {fa : Ev → Store → Res D} {k : D → Store → Res Src} {Q : It → Hp → Prop} {ρ : Ev} {S : Store} {σ : L2.St} (s : Sit g m ρ S σ H) (h : ResOkI g E m H ((fa ρ S).bind k) Q) {R : V → Hp → Prop}
    (c : ∀ m1 S1 H1 v d, Ext m H m1 H1 → Sit g m1 ρ S1 σ H1 → Rep g.K m1 H1 d v → ResOkI g E m1 H1 (k d S1) Q → R v H1) : tD g E fa σ H R := by
  refine ⟨m, ρ, S, s.sr, s.er, ?_⟩
  cases e : fa ρ S with
  | ok d S1 =>
    rw [e] at h
    exact fun m1 H1 v e1 sr r => c m1 S1 H1 v d e1 (s.ext e1 sr) r (ResOkI.ext e1 h)
  | exc c d S1 =>
    rw [e] at h
    exact h
  | bad =>
    rw [e] at h
    exact h
/-- a list or a tuple -/
theorem pi_any {tg l : Expr} {tl : TE} (hl : PE X l tl) : PI X tg l (fun σ H R => tl σ H fun x H1 => (∃ z, x = .str z ∧ R (Its z) H1) ∨ ∃ a, x = .ref a ∧ ((∃ xs, SqL X.K H1 a xs ∧ R (Itl X.K a) H1) ∨ ∃ xs, SqT X.K H1 a xs ∧ R (Itt X.K a) H1)) := by
  refine ⟨fun pins s σ H R I h => ?_⟩
  refine thn (hl.run pins s σ H _ I h) fun v s1 ⟨x, H1, I1, r1, q1⟩ => ?_
  rcases q1 with ⟨z, ez, q⟩ | q1
  · subst ez
    obtain ⟨t, rfl⟩ := r1
    cases ha : z.cps.all (· < 128)
    · exact wpAny_pyIter_wide ha (pi_one (tk := s1.toks) I1 _ (turn_str _ z t "str_iterator" (.inr rfl)) ⟨_, Heap.get?_push_size _ rfl, rfl, rfl⟩ q)
    · exact wpAny_pyIter_ascii ha (pi_one (tk := s1.toks) I1 _ (turn_str _ z t "str_ascii_iterator" (.inl rfl)) ⟨_, Heap.get?_push_size _ rfl, rfl, rfl⟩ q)
  obtain ⟨a, e, q1⟩ := q1
  subst e
  cases r1
  rcases q1 with ⟨xs, hq, q⟩ | ⟨xs, hq, q⟩
  · obtain ⟨its, rv, p, hz⟩ := I1.list hq
    refine wpAny_pyIter_list p.isList ?_
    refine ⟨s1.heap.objs.size, [s1.heap.objs.size], _, _, H1, rfl, I1.kept (t' := s1.toks) fun b o e => Heap.get?_push_of_some _ e, turn_list a _, ⟨_, Heap.get?_push_size _ rfl, rfl, rfl⟩, fun b hb => ?_, q⟩
    have e : b = s1.heap.objs.size := by simpa using hb
    subst e
    exact I1.fpOk (Nat.le_refl _) (I1.hok.fresh (Nat.le_refl _))
  · obtain ⟨its, rv, p, hz⟩ := I1.tuple hq
    refine wpAny_pyIter_tuple (show s1.heap.IsTuple a its.toArray from p) ?_
    refine ⟨s1.heap.objs.size, [s1.heap.objs.size], _, _, H1, rfl, I1.kept (t' := s1.toks) fun b o e => Heap.get?_push_of_some _ e, turn_tuple a _, ⟨_, Heap.get?_push_size _ rfl, rfl, rfl⟩, fun b hb => ?_, q⟩
    have e : b = s1.heap.objs.size := by simpa using hb
    subst e
    exact I1.fpOk (Nat.le_refl _) (I1.hok.fresh (Nat.le_refl _))
def ofD (ea : Ev → Store → Res D) : Ev → Store → Res Src := fun ρ S => (ea ρ S).bind fun x S1 => match x with
    | .tup l => .ok (.fix l) S1
    | .str z => .ok (.fix (z.cps.toList.map fun c => .str ⟨#[c]⟩)) S1
    | .ref i => (match S1[i]? with
      | some (.lst l) => .ok (.ls i l.length) S1
      | _ => .bad)
    | _ => .bad
variable {tg a b c : Expr} {ea eb ec : Ev → Store → Res D} {pos tpos : Pos} {elts : List Expr} {kk : Nat}
theorem okI {src : Src} {J : It} {S : Store} {R : It → Hp → Prop} (sr : SR g m S H) (h : ResOkI g E m H (.ok src S) R) (j : JW g m H J src) : R J H := h m H J (Ext.refl m H) sr j
theorem pi_ofD (hK : X.K = g.K) (ha : PE X a (tD g E ea)) : PI X tg a (tI g E (ofD ea)) := by
  refine PI.weak (pi_any ha) fun σ H R h => ?_
  obtain ⟨m, ρ, S, sr, er, h⟩ := h
  refine seqDI (fa := ea) ⟨sr, er⟩ h fun m1 S1 H1 v d e1 s1 r1 h1 => ?_
  cases d with
  | tup l =>
    obtain ⟨p, vs, rfl, hp, rp⟩ := rep_tup r1
    refine .inr ⟨p, rfl, .inr ⟨vs, by rw [hK]; exact hp, ?_⟩⟩
    rw [hK]
    exact okI s1.sr h1 (jw_tup s1.sr hp rp)
  | str z =>
    have e : v = .str z := by
      unfold Rep at r1
      exact r1
    exact .inl ⟨z, e, okI s1.sr h1 jw_str⟩
  | ref i =>
    cases e : S1[i]? with
    | none => simp only [e] at h1; exact (show False from h1).elim
    | some o =>
      cases o with
      | ins C fs => simp only [e] at h1; exact (show False from h1).elim
      | lst l =>
        simp only [e] at h1
        obtain ⟨p, vs, rfl, hi, hp, rp⟩ := ref_lst s1.sr r1 e
        refine .inr ⟨p, rfl, .inl ⟨vs, SqL.of hp, ?_⟩⟩
        rw [hK]
        exact okI s1.sr h1 (jw_lst hi)
  | _ => exact (show False from h1).elim
def rangeD (ea : Ev → Store → Res D) : Ev → Store → Res Src := fun ρ S => (ea ρ S).bind fun x S1 => match x with
    | .int n => if -(2 ^ 62) ≤ n ∧ n < 2 ^ 62 then .ok (.fix ((List.range n.toNat).map fun (k : Nat) => .int (k : Int))) S1 else .bad
    | _ => .bad
theorem pi_rangeD {p : Pos} (hg : Gl X "range") (hm : X.mg "range" = none) (ha : PE X a (tD g E ea)) (hs : nst a = true) : PI X tg (.Call (.Name "range" p) [a] [] pos) (tI g E (rangeD ea)) := by
  refine PI.weak (pi_range1 hg hm (pa_cons ha pa_nil (starEach_nst hs)) (starEach_nst hs)) fun σ H R h => ?_
  obtain ⟨m, ρ, S, sr, er, h⟩ := h
  refine seqDI (fa := ea) ⟨sr, er⟩ h fun m1 S1 H1 v d e1 s1 r1 h1 => ?_
  cases d with
  | int n =>
    obtain rfl := rep_int r1
    simp only at h1
    split at h1
    · rename_i hz
      exact ⟨n, rfl, hz.1, hz.2, okI s1.sr h1 jw_range⟩
    · exact (show False from h1).elim
  | _ => exact (show False from h1).elim
def enumD (ea : Ev → Store → Res D) : Ev → Store → Res Src := fun ρ S => (ea ρ S).bind fun x S1 => match x with
    | .tup l => .ok (.fix (enumL 0 l)) S1
    | _ => .bad
theorem pi_enumD {p : Pos} (hK : X.K = g.K) (hg : Gl X "enumerate") (hm : X.mg "enumerate" = none) (ha : PE X a (tD g E ea)) (hs : nst a = true) : PI X (.Tuple elts kk tpos) (.Call (.Name "enumerate" p) [a] [] pos) (tI g E (enumD ea)) := by
  refine PI.weak (pi_enumT hg hm (pa_cons ha pa_nil (starEach_nst hs)) (starEach_nst hs)) fun σ H R h => ?_
  obtain ⟨m, ρ, S, sr, er, h⟩ := h
  refine seqDI (fa := ea) ⟨sr, er⟩ h fun m1 S1 H1 v d e1 s1 r1 h1 => ?_
  cases d with
  | tup l =>
    obtain ⟨q, vs, rfl, hp, rp⟩ := rep_tup r1
    refine ⟨q, vs, rfl, by rw [hK]; exact hp, ?_⟩
    rw [hK]
    exact okI s1.sr h1 (jw_enum s1.sr hp rp)
  | _ => exact (show False from h1).elim
def two (f : List D → List D → List D) (ea eb : Ev → Store → Res D) : Ev → Store → Res Src := fun ρ S => (ea ρ S).bind fun x S1 => (eb ρ S1).bind fun y S2 => (match x, y with
    | .tup l, .tup k => .ok (.fix (f l k)) S2
    | _, _ => .bad)
theorem two_of {f : List D → List D → List D} {σ : L2.St} {H : Hp} {R : It → Hp → Prop} (h : tI g E (two f ea eb) σ H R) {P : List V → Hp → Prop}
    (c : ∀ (m : List Addr) (S : Store) (H : Hp) (p q : Addr) (vs ws : List V) (l k : List D), SR g m S H → SqT g.K H p vs → SqT g.K H q ws → Reps g.K m H l vs → Reps g.K m H k ws → ResOkI g E m H (.ok (.fix (f l k)) S) R → P [.ref p, .ref q] H) :
    tCons (tD g E ea) (tCons (tD g E eb) tNil) σ H P := by
  obtain ⟨m, ρ, S, sr, er, h⟩ := h
  refine seqDI (fa := ea) ⟨sr, er⟩ h fun m1 S1 H1 v d e1 s1 r1 h1 => ?_
  refine seqDI (fa := eb) s1 h1 fun m2 S2 H2 u d2 e2 s2 r2 h2 => ?_
  cases d with
  | tup l =>
    cases d2 with
    | tup k =>
      obtain ⟨p, vs, rfl, hp, rp⟩ := rep_tup (r1.ext e2 s1.sr)
      obtain ⟨q, ws, rfl, hq, rq⟩ := rep_tup r2
      exact c m2 S2 H2 p q vs ws l k s2.sr hp hq rp rq h2
    | _ => exact (show False from h2).elim
  | _ => exact (show False from h2).elim
theorem pi_zip2D {p : Pos} (hK : X.K = g.K) (hg : Gl X "zip") (hm : X.mg "zip" = none) (ha : PE X a (tD g E ea)) (hb : PE X b (tD g E eb)) (h1 : nst a = true) (h2 : nst b = true) :
    PI X (.Tuple elts kk tpos) (.Call (.Name "zip" p) [a, b] [] pos) (tI g E (two zip2L ea eb)) := by
  refine PI.weak (RZ.pi_zipA hg hm (pa_cons ha (pa_cons hb pa_nil (starEach_nst h2)) (starEach_nst h1)) (starEach_nst h1) (noStars (by simp [h2]))) fun σ H R h => two_of h fun m S H p q vs ws l k sr hp hq rp rq h3 => ?_
  refine ⟨p, q, vs, ws, rfl, .inr ⟨by rw [hK]; exact hp, by rw [hK]; exact hq, ?_⟩⟩
  rw [hK]
  exact okI sr h3 (jw_zip2 sr hp rp hq rq)
theorem pi_enumZD {p p2 pos2 : Pos} (hK : X.K = g.K) (hg : Gl X "zip") (hm : X.mg "zip" = none) (hg2 : Gl X "enumerate") (hm2 : X.mg "enumerate" = none) (ha : PE X a (tD g E ea)) (hb : PE X b (tD g E eb)) (h1 : nst a = true) (h2 : nst b = true) :
    PI X (.Tuple elts kk tpos) (.Call (.Name "enumerate" p2) [.Call (.Name "zip" p) [a, b] [] pos] [] pos2) (tI g E (two (fun l k => enumL 0 (zip2L l k)) ea eb)) := by
  refine PI.weak (pi_enumZ hg hm hg2 hm2 (pa_cons ha (pa_cons hb pa_nil (starEach_nst h2)) (starEach_nst h1)) (starEach_nst h1) (noStars (by simp [h2]))) fun σ H R h => two_of h fun m S H p q vs ws l k sr hp hq rp rq h3 => ?_
  refine ⟨p, q, vs, ws, rfl, by rw [hK]; exact hp, by rw [hK]; exact hq, ?_⟩
  rw [hK]
  exact okI sr h3 (jw_enumZ sr hp rp hq rq)
def zip3D (ea eb ec : Ev → Store → Res D) : Ev → Store → Res Src := fun ρ S => (ea ρ S).bind fun x S1 => (eb ρ S1).bind fun y S2 => (ec ρ S2).bind fun z S3 => (match x, y, z with
    | .tup l, .tup k, .tup j => .ok (.fix (zip3L l k j)) S3
    | _, _, _ => .bad)
theorem pi_zip3D {p : Pos} (hK : X.K = g.K) (hg : Gl X "zip") (hm : X.mg "zip" = none) (ha : PE X a (tD g E ea)) (hb : PE X b (tD g E eb)) (hc : PE X c (tD g E ec)) (h1 : nst a = true) (h2 : nst b = true) (h3 : nst c = true) :
    PI X (.Tuple elts kk tpos) (.Call (.Name "zip" p) [a, b, c] [] pos) (tI g E (zip3D ea eb ec)) := by
  refine PI.weak (pi_zip3 hg hm (pa_cons ha (pa_cons hb (pa_cons hc pa_nil (starEach_nst h3)) (starEach_nst h2)) (starEach_nst h1)) (starEach_nst h1) (noStars (by simp [h2, h3]))) fun σ H R h => ?_
  obtain ⟨m, ρ, S, sr, er, h⟩ := h
  refine seqDI (fa := ea) ⟨sr, er⟩ h fun m1 S1 H1 v d e1 s1 r1 q1 => ?_
  refine seqDI (fa := eb) s1 q1 fun m2 S2 H2 u d2 e2 s2 r2 q2 => ?_
  refine seqDI (fa := ec) s2 q2 fun m3 S3 H3 w d3 e3 s3 r3 q3 => ?_
  cases d with
  | tup l =>
    cases d2 with
    | tup k =>
      cases d3 with
      | tup j =>
        obtain ⟨p, vs, rfl, hp, rp⟩ := rep_tup ((r1.ext e2 s1.sr).ext e3 s2.sr)
        obtain ⟨q, ws, rfl, hq, rq⟩ := rep_tup (r2.ext e3 s2.sr)
        obtain ⟨o, us, rfl, ho, ro⟩ := rep_tup r3
        refine ⟨p, q, o, vs, ws, us, rfl, by rw [hK]; exact hp, by rw [hK]; exact hq, by rw [hK]; exact ho, ?_⟩
        rw [hK]
        exact okI s3.sr q3 (jw_zip3 s3.sr hp rp hq rq ho ro)
      | _ => exact (show False from q3).elim
    | _ => exact (show False from q3).elim
  | _ => exact (show False from q3).elim
end
end K76
set_option Elab.async false
set_option linter.all false
set_option maxRecDepth 100000
set_option autoImplicit false
set_option maxHeartbeats 4000000
/-! K5y: targets, loops, comprehensions -/
namespace K76
open PySem PySem.Spec PyProof.Rows L2
/-! ### targets -/
mutual
def CT.ns : CT → List Nat
  | .nm i => [i]
  | .tp l => CT.nsL l
def CT.nsL : List CT → List Nat
  | [] => []
  | t :: r => CT.ns t ++ CT.nsL r
end
def gT (g : G) (t : CT) : TG := fun v σ H Q => ∃ m S ρ d ρ', SR g m S H ∧ ER g m H ρ σ ∧ Rep g.K m H d v ∧ bindT t d ρ = some ρ' ∧ ∀ σ', ER g m H ρ' σ' → (∀ vs, (∀ i ∈ t.ns, i ∈ vs) → wipe σ' vs = wipe σ vs) → Q σ' H
def gTs (g : G) (t : List CT) : TGs := fun v σ H Q => ∃ m S ρ d ρ', SR g m S H ∧ ER g m H ρ σ ∧ Reps g.K m H d v ∧ bindTs t d ρ = some ρ' ∧ ∀ σ', ER g m H ρ' σ' → (∀ vs, (∀ i ∈ CT.nsL t, i ∈ vs) → wipe σ' vs = wipe σ vs) → Q σ' H
theorem PG.weak {X : Cx} {e : Expr} {t t' : TG} (h : PG X e t) (c : ∀ v σ H Q, t' v σ H Q → t v σ H Q) : PG X e t' := ⟨fun pins s σ H v u Q I r q => h.run pins s σ H v u Q I r (c v σ H Q q)⟩
theorem PGs.weak {X : Cx} {e : List Expr} {t t' : TGs} (h : PGs X e t) (c : ∀ v σ H Q, t' v σ H Q → t v σ H Q) : PGs X e t' := ⟨fun pins s σ H v u Q I r q => h.run pins s σ H v u Q I r (c v σ H Q q)⟩
theorem wipe_set_mem {σ : L2.St} {i : Nat} {v : Option V} : ∀ {vs : List Nat}, i ∈ vs → wipe (σ.set i v) vs = wipe σ vs := by
  have comm : ∀ (vs : List Nat) (σ : L2.St), i ∉ vs → wipe (σ.set i v) vs = (wipe σ vs).set i v := by
    intro vs
    induction vs with
    | nil => intro σ _; rfl
    | cons j vs ih =>
      intro σ h
      have h1 : i ≠ j := fun z => h (by simp [z])
      have h2 : i ∉ vs := fun z => h (by simp [z])
      show (wipe (σ.set i v) vs).set j none = ((wipe σ vs).set j none).set i v
      rw [ih σ h2, List.set_comm _ _ h1]
  intro vs
  induction vs with
  | nil => intro h; simp at h
  | cons j vs ih =>
    intro h
    show (wipe (σ.set i v) vs).set j none = (wipe σ vs).set j none
    by_cases hm : i ∈ vs
    · rw [ih hm]
    · have e : i = j := by
        rcases List.mem_cons.mp h with z | z
        · exact z
        · exact absurd z hm
      subst e
      rw [comm vs σ hm, List.set_set]
theorem er_set {g : G} {m : List Addr} {H : Hp} {ρ : Ev} {σ : L2.St} {i : Nat} {d : D} {v : V} (h : ER g m H ρ σ) (r : Rep g.K m H d v) : ER g m H (ρ.set i (some d)) (σ.set i (some v)) := by
  refine ⟨by simp [h.1], fun j e he => ?_⟩
  by_cases hj : j = i
  · subst hj
    have hl : j < ρ.length := by
      have := (List.getElem?_eq_some_iff.mp he).1
      simpa using this
    rw [List.getElem?_set_self hl] at he
    have e1 : d = e := by simpa using he
    subst e1
    exact ⟨v, by rw [List.getElem?_set_self (by rw [← h.1]; exact hl)], r⟩
  · rw [List.getElem?_set_ne (Ne.symm hj)] at he ⊢
    exact h.2 j e he
theorem er_wipe {g : G} {m : List Addr} {H : Hp} {ρ : Ev} {σ : L2.St} (h : ER g m H ρ σ) : ∀ vs : List Nat, ER g m H (wipeD ρ vs) (wipe σ vs)
  | [] => h
  | v :: vs => by
    have ih := er_wipe h vs
    refine ⟨by show ((wipeD ρ vs).set v none).length = ((wipe σ vs).set v none).length; simp [ih.1], fun j e he => ?_⟩
    have he' : ((wipeD ρ vs).set v none)[j]? = some (some e) := he
    show ∃ w, ((wipe σ vs).set v none)[j]? = some (some w) ∧ _
    by_cases hj : j = v
    · subst hj
      by_cases hl : j < (wipeD ρ vs).length
      · rw [List.getElem?_set_self hl] at he'
        simp at he'
      · rw [List.getElem?_eq_none (by simp; omega)] at he'
        cases he'
    · rw [List.getElem?_set_ne (Ne.symm hj)] at he' ⊢
      exact ih.2 j e he'
/-- the check of a target: names known, local (or, in a def's own block, a cell) -/
def nmB (fl : Bool) (sc : Scope) (x : Str) : Bool := match sc.names.lookup x with
  | some .local => true
  | some .cell => fl
  | _ => false
mutual
def chkT (N : List Str) (fl : Bool) (sc : Scope) : CT → Expr → Bool
  | .nm i, e => (match e with
    | .Name x _ => decide (N[i]? = some x) && nmB fl sc x
    | _ => false)
  | .tp ts, e => (match e with
    | .Tuple es _ _ => chkTs N fl sc ts es
    | _ => false)
def chkTs (N : List Str) (fl : Bool) (sc : Scope) : List CT → List Expr → Bool
  | [], [] => true
  | t :: ts, e :: es => chkT N fl sc t e && chkTs N fl sc ts es
  | _, _ => false
end
section
variable {X : Cx} {g : G} {N : List Str} {fl : Bool} {sc : Scope}
theorem assignEach_nst {e : Expr} {es : List Expr} {env : Env} (h : nst e = true) : assignEach (e :: es) env = (false, assign e env) :: assignEach es env := by
  cases e <;> first | rfl | exact absurd h Bool.false_ne_true
theorem chkT_nst {t : CT} {e : Expr} (h : chkT N fl sc t e = true) : nst e = true := by
  cases t <;> cases e <;> first | rfl | (simp [chkT] at h)
mutual
theorem pg_T (hN : X.N = N) (nd : N.Nodup) (hc : X.calm = true) (hsc : X.env.scope = sc) (hfl : fl = true → ∀ x, X.fn x = true) (hK : X.K = g.K) : ∀ (t : CT) (e : Expr), chkT N fl sc t e = true → PG X e (gT g t)
  | .nm i, e, h => by
    cases e <;> try (exact absurd h Bool.false_ne_true)
    rename_i x p
    have h1 : (decide (N[i]? = some x) && nmB fl sc x) = true := h
    rw [Bool.and_eq_true, decide_eq_true_eq] at h1
    obtain ⟨hi, hx⟩ := h1
    have hL : Loc X.env.scope x ∧ (X.fn x = true ∨ X.env.scope.names.lookup x = some .local) := by
      unfold nmB at hx
      rw [hsc]
      cases q : sc.names.lookup x with
      | none => rw [q] at hx; cases hx
      | some k =>
        rw [q] at hx
        cases k with
        | «local» => exact ⟨.inl q, .inr rfl⟩
        | cell => exact ⟨.inr q, .inl (hfl hx x)⟩
        | _ => cases hx
    refine PG.weak (pg_name (pos := p) (by rw [hN]; exact nd) (by rw [hN]; exact hi) hL.1 hL.2) fun v σ H Q q => ?_
    obtain ⟨m, S, ρ, d, ρ', sr, er, rd, hb, q⟩ := q
    simp only [bindT] at hb
    split at hb
    · have e1 := Option.some.inj hb
      subst e1
      exact q _ (er_set er rd) fun vs hv => wipe_set_mem (hv i (by simp [CT.ns]))
    · cases hb
  | .tp ts, e, h => by
    cases e <;> try (exact absurd h Bool.false_ne_true)
    rename_i es k p
    have h1 : chkTs N fl sc ts es = true := h
    have ih := pgs_T hN nd hc hsc hfl hK ts es h1
    have hn : (assignEach es X.env).length = es.length ∧ (assignEach es X.env).findIdx? (·.1) = none := by
      clear ih h
      induction es generalizing ts with
      | nil => exact ⟨rfl, rfl⟩
      | cons e es ihe =>
        cases ts with
        | nil => exact absurd h1 Bool.false_ne_true
        | cons t ts =>
          have h2 : (chkT N fl sc t e && chkTs N fl sc ts es) = true := h1
          rw [Bool.and_eq_true] at h2
          obtain ⟨i1, i2⟩ := ihe ts h2.2
          rw [assignEach_nst (chkT_nst h2.1)]
          refine ⟨by rw [List.length_cons, List.length_cons, i1], ?_⟩
          rw [List.findIdx?_cons]
          simp [i2]
    refine PG.weak (pg_tup hc ih hn.1 hn.2) fun v σ H Q q => ?_
    obtain ⟨m, S, ρ, d, ρ', sr, er, rd, hb, q⟩ := q
    cases d with
    | tup l =>
      simp only [bindT] at hb
      obtain ⟨a, vs, rfl, hq, rs⟩ := rep_tup rd
      have hlen : l.length = es.length := by
        have key : ∀ (ts : List CT) (l : List D) (ρ ρ' : Ev) (es : List Expr), bindTs ts l ρ = some ρ' → chkTs N fl sc ts es = true → l.length = es.length := by
          intro ts
          induction ts with
          | nil =>
            intro l ρ ρ' es hb hk
            cases l with
            | nil => cases es with
              | nil => rfl
              | cons e es => exact absurd hk Bool.false_ne_true
            | cons d l => simp [bindTs] at hb
          | cons t ts ih2 =>
            intro l ρ ρ' es hb hk
            cases l with
            | nil => simp [bindTs] at hb
            | cons d l => cases es with
              | nil => exact absurd hk Bool.false_ne_true
              | cons e es =>
                have h2 : (chkT N fl sc t e && chkTs N fl sc ts es) = true := hk
                rw [Bool.and_eq_true] at h2
                simp only [bindTs] at hb
                split at hb
                · rename_i ρ2 hb2
                  rw [List.length_cons, List.length_cons, ih2 l ρ2 ρ' es hb h2.2]
                · cases hb
        exact key ts l ρ ρ' es hb h1
      exact ⟨a, vs, rfl, by rw [hK]; exact hq, by rw [rs.length]; exact hlen, m, S, ρ, l, ρ', sr, er, rs, hb, fun σ' e1 w1 => q σ' e1 fun ws hw => w1 ws fun i hi => hw i (by simpa [CT.ns] using hi)⟩
    | _ => simp [bindT] at hb
theorem pgs_T (hN : X.N = N) (nd : N.Nodup) (hc : X.calm = true) (hsc : X.env.scope = sc) (hfl : fl = true → ∀ x, X.fn x = true) (hK : X.K = g.K) : ∀ (ts : List CT) (es : List Expr), chkTs N fl sc ts es = true → PGs X es (gTs g ts)
  | [], es, h => by
    cases es with
    | cons e es => exact absurd h Bool.false_ne_true
    | nil =>
      refine PGs.weak pgs_nil fun v σ H Q q => ?_
      obtain ⟨m, S, ρ, d, ρ', sr, er, rd, hb, q⟩ := q
      cases d with
      | cons d l => simp [bindTs] at hb
      | nil =>
        simp only [bindTs, Option.some.injEq] at hb
        subst hb
        unfold Reps at rd
        exact ⟨rd, q σ er fun _ _ => rfl⟩
  | t :: ts, es, h => by
    cases es with
    | nil => exact absurd h Bool.false_ne_true
    | cons e es =>
      have h2 : (chkT N fl sc t e && chkTs N fl sc ts es) = true := h
      rw [Bool.and_eq_true] at h2
      have i1 := pg_T hN nd hc hsc hfl hK t e h2.1
      have i2 := pgs_T hN nd hc hsc hfl hK ts es h2.2
      have hs : (assignEach (e :: es) X.env).map (·.2) = assign e X.env :: (assignEach es X.env).map (·.2) := by rw [assignEach_nst (chkT_nst h2.1)]; rfl
      refine PGs.weak (pgs_cons i1 i2 hs) fun v σ H Q q => ?_
      obtain ⟨m, S, ρ, d, ρ', sr, er, rd, hb, q⟩ := q
      cases d with
      | nil => simp [bindTs] at hb
      | cons d l =>
        simp only [bindTs] at hb
        split at hb
        · rename_i ρ2 hb2
          unfold Reps at rd
          obtain ⟨w, r, rfl, r1, r2⟩ := rd
          refine ⟨w, r, rfl, m, S, ρ, d, ρ2, sr, er, r1, hb2, fun σ1 e1 w1 => ⟨m, S, ρ2, l, ρ', sr, e1, r2, hb, fun σ2 e2 w2 => q σ2 e2 fun vs hv => ?_⟩⟩
          rw [w2 vs (fun i hi => hv i (by simp [CT.nsL, hi])), w1 vs (fun i hi => hv i (by simp [CT.nsL, hi]))]
        · cases hb
end
end
/-! ### for, while -/
section
variable {X : Cx} {g : G} {E : XK} {m m1 : List Addr} {H H1 : Hp} {pos : Pos}
theorem seqIS {fa : Ev → Store → Res Src} {k : Src → Store → Res (Fl × Ev)} {Q : Ends} {ρ : Ev} {S : Store} {σ : L2.St} (s : Sit g m ρ S σ H) (h : ResOkS g E m H ((fa ρ S).bind k) Q) {R : It → Hp → Prop}
    (c : ∀ m1 S1 H1 J src, Ext m H m1 H1 → Sit g m1 ρ S1 σ H1 → JW g m1 H1 J src → ResOkS g E m1 H1 (k src S1) Q → R J H1) : tI g E fa σ H R := by
  refine ⟨m, ρ, S, s.sr, s.er, ?_⟩
  cases e : fa ρ S with
  | ok d S1 =>
    rw [e] at h
    exact fun m1 H1 J e1 sr j => c m1 S1 H1 J d e1 (s.ext e1 sr) j (ResOkS.ext e1 h)
  | exc c d S1 =>
    rw [e] at h
    exact h
  | bad =>
    rw [e] at h
    exact h
/-- a statement, then what follows -/
theorem bindS {r : Res (Fl × Ev)} {k : Ev → Store → Res (Fl × Ev)} {D : Ends} (h : ResOkS g E m H (r.bind fun x S' => match x with | (.nx, ρ') => k ρ' S' | (.rt d, ρ') => .ok (.rt d, ρ') S') D) {D' : Ends} (hrt : ∀ v H, D.rt v H → D'.rt v H)
    (hn : ∀ m' H' σ' ρ' S', Ext m H m' H' → Sit g m' ρ' S' σ' H' → ResOkS g E m' H' (k ρ' S') D → D'.nx σ' H') : ResOkS g E m H r D' := by
  cases r with
  | exc c d S => exact h
  | bad => exact h
  | ok x S' =>
    obtain ⟨fl, ρ'⟩ := x
    cases fl with
    | rt d => exact fun m' H' v e s r => hrt v H' (h m' H' v e s r)
    | nx => exact fun m' H' σ' e s er => hn m' H' σ' ρ' S' e ⟨s, er⟩ (ResOkS.ext e h)
def stepD (t : CT) (eb : Ev → Store → Res (Fl × Ev)) : D → Ev → Store → Res (Fl × Ev) := fun d ρ1 S2 => match bindT t d ρ1 with
    | some ρ' => eb ρ' S2
    | none => .bad
theorem ps_forD {tg iter : Expr} {body : List Stmt} {t : CT} {fi : Ev → Store → Res Src} {eb : Ev → Store → Res (Fl × Ev)} (hp : PassesOwn (model X.prog X.w) X.A X.env X.xe) (hc : X.calm = true) (hi : PI X tg iter (tI g E fi)) (hg : PG X tg (gT g t)) (hb : PSs X body (tDS g E eb))
    (hs : ∀ x, foldedSetIterable iter X.env x = pure x) : PS X (.For tg iter body [] pos) (tDS g E fun ρ S => (fi ρ S).bind fun src S1 => forL src (stepD t eb) src.len 0 ρ S1) := by
  refine PS.weak (ps_for hp hc hi hg hb hs) fun D σ H h => ?_
  obtain ⟨m, ρ, S, sr, er, h⟩ := h
  refine seqIS (fa := fi) ⟨sr, er⟩ h fun m1 S1 H1 J src e1 s1 j h1 => ?_
  refine ⟨fun i k σ H => ∃ m ρ S, Ext m1 H1 m H ∧ SR g m S H ∧ ER g m H ρ σ ∧ i + k = src.len ∧ ResOkS g E m H (forL src (stepD t eb) k i ρ S) D, ⟨src.len, m1, ρ, S1, Ext.refl _ _, s1.sr, s1.er, by omega, h1⟩, fun i k σ H hw => ?_⟩
  obtain ⟨m, ρ, S, ex, sr, er, hik, h⟩ := hw
  cases k with
  | zero =>
    left
    simp only [forL] at h
    split at h
    · rename_i hf
      have e2 : i = src.len := by omega
      subst e2
      exact ⟨j.stop m S H ex sr hf, h m H σ (Ext.refl _ _) sr er⟩
    · exact (show False from h).elim
  | succ k =>
    right
    simp only [forL] at h
    cases e2 : src.item S i with
    | none => rw [e2] at h; exact (show False from h).elim
    | some d =>
      rw [e2] at h
      simp only at h
      refine ⟨j.go m S H i d ex sr e2, fun σ' H' => ∃ m ρ S, Ext m1 H1 m H' ∧ SR g m S H' ∧ ER g m H' ρ σ' ∧ i + 1 + k = src.len ∧ ResOkS g E m H' (forL src (stepD t eb) k (i + 1) ρ S) D, fun σ' H' hn => ⟨k, Nat.lt_succ_self k, hn⟩, fun x H' hy => ?_⟩
      obtain ⟨x1, x2, x3, _⟩ := j.yld m S H i d x H' ex sr e2 hy
      have h' := ResOkS.ext x1 h
      have er' := er.ext x1 sr
      cases e3 : bindT t d ρ with
      | none => simp only [stepD, e3, Res.bind] at h'; exact (show False from h').elim
      | some ρ' =>
        simp only [stepD, e3] at h'
        refine ⟨m, S, ρ, d, ρ', x2, er', x3, e3, fun σ2 er2 _ => ⟨m, ρ', S, x2, er2, ?_⟩⟩
        exact bindS h' (fun _ _ q => q) fun m3 H3 σ3 ρ3 S3 e3 s3 h3 => ⟨m3, ρ3, S3, (ex.trans x1).trans e3, s3.sr, s3.er, by omega, h3⟩
theorem ps_whileD {c : Expr} {body : List Stmt} {n : Nat} {fc : Ev → Store → Res D} {eb : Ev → Store → Res (Fl × Ev)} (hp : PassesOwn (model X.prog X.w) X.A X.env X.xe) (hc : PT X c (tDB g E fc)) (hb : PSs X body (tDS g E eb)) :
    PS X (.While c body [] pos) (tDS g E (whileL fc eb n)) := by
  refine PS.weak (ps_while hp hc hb) fun D σ H h => ?_
  refine ⟨fun k σ H => tDS g E (whileL fc eb k) D σ H, ⟨n, h⟩, fun k σ H hw => ?_⟩
  obtain ⟨m, ρ, S, sr, er, h⟩ := hw
  cases k with
  | zero => exact (show False from h).elim
  | succ k =>
    simp only [whileL] at h
    refine seqBS (fa := fc) ⟨sr, er⟩ h fun m1 S1 H1 b e1 s1 h1 => ?_
    cases b with
    | false =>
      rw [if_neg Bool.false_ne_true]
      exact h1 m1 H1 σ (Ext.refl _ _) s1.sr s1.er
    | true =>
      rw [if_pos rfl]
      refine ⟨fun σ' H' => tDS g E (whileL fc eb k) D σ' H', fun σ' H' hn => ⟨k, Nat.lt_succ_self k, hn⟩, m1, ρ, S1, s1.sr, s1.er, ?_⟩
      exact bindS h1 (fun _ _ q => q) fun m3 H3 σ3 ρ3 S3 e3 s3 h3 => ⟨m3, ρ3, S3, s3.sr, s3.er, h3⟩
/-! ### other statements -/
variable {e : Expr} {ea : Ev → Store → Res D}
theorem pss_nilD : PSs X [] (tDS g E fun ρ S => .ok (.nx, ρ) S) := PSs.weak pss_nil fun D σ H h => by
  obtain ⟨m, ρ, S, sr, er, h⟩ := h
  exact h m H σ (Ext.refl _ _) sr er
theorem pss_consD {st : Stmt} {rest : List Stmt} {f k : Ev → Store → Res (Fl × Ev)} (h1 : PS X st (tDS g E f)) (h2 : PSs X rest (tDS g E k)) : PSs X (st :: rest) (tDS g E fun ρ S => (f ρ S).bind fun x S1 => match x with
    | (.nx, ρ') => k ρ' S1
    | (.rt d, ρ') => .ok (.rt d, ρ') S1) := by
  refine PSs.weak (pss_cons h1 h2) fun D σ H h => ?_
  obtain ⟨m, ρ, S, sr, er, h⟩ := h
  exact ⟨m, ρ, S, sr, er, bindS h (fun _ _ q => q) fun m3 H3 σ3 ρ3 S3 e3 s3 h3 => ⟨m3, ρ3, S3, s3.sr, s3.er, h3⟩⟩
theorem okS {D : Ends} {ρ : Ev} {S : Store} {σ : L2.St} (s : Sit g m ρ S σ H) (h : ResOkS g E m H (.ok (.nx, ρ) S) D) : D.nx σ H := h m H σ (Ext.refl _ _) s.sr s.er
theorem ps_exprD (he : PE X e (tD g E ea)) (hs : noLc e = true) : PS X (.Expr e pos) (tDS g E fun ρ S => (ea ρ S).bind fun _ S1 => .ok (.nx, ρ) S1) := by
  refine PS.weak (ps_expr he (swapsN hs)) fun D σ H h => ?_
  obtain ⟨m, ρ, S, sr, er, h⟩ := h
  exact seqDS (fa := ea) ⟨sr, er⟩ h fun m1 S1 H1 v d e1 s1 r1 h1 => okS s1 h1
theorem ps_retD (he : PE X e (tD g E ea)) : PS X (.Return (some e) pos) (tDS g E fun ρ S => (ea ρ S).bind fun x S1 => .ok (.rt x, ρ) S1) := by
  refine PS.weak (ps_ret he) fun D σ H h => ?_
  obtain ⟨m, ρ, S, sr, er, h⟩ := h
  exact seqDS (fa := ea) ⟨sr, er⟩ h fun m1 S1 H1 v d e1 s1 r1 h1 => h1 m1 H1 v (Ext.refl _ _) s1.sr r1
theorem ps_iteD {c : Expr} {a b : List Stmt} {fc : Ev → Store → Res D} {fa fb : Ev → Store → Res (Fl × Ev)} (hc : PT X c (tDB g E fc)) (ha : PSs X a (tDS g E fa)) (hb : PSs X b (tDS g E fb)) :
    PS X (.If c a b pos) (tDS g E fun ρ S => (fc ρ S).bind (asB fun t S1 => match t with
    | true => fa ρ S1
    | false => fb ρ S1)) := by
  refine PS.weak (ps_if hc ha hb) fun D σ H h => ?_
  obtain ⟨m, ρ, S, sr, er, h⟩ := h
  refine seqBS (fa := fc) ⟨sr, er⟩ h fun m1 S1 H1 t e1 s1 h1 => ?_
  cases t with
  | true => rw [if_pos rfl]; exact ⟨m1, ρ, S1, s1.sr, s1.er, h1⟩
  | false => rw [if_neg Bool.false_ne_true]; exact ⟨m1, ρ, S1, s1.sr, s1.er, h1⟩
theorem ps_asgD {i : Nat} {x : Str} {p : Pos} (hN : X.N.Nodup) (hi : X.N[i]? = some x) (hx : Loc X.env.scope x) (hf : X.fn x = true ∨ X.env.scope.names.lookup x = some .local) (he : PE X e (tD g E ea)) (hs : noLc e = true) :
    PS X (.Assign [.Name x p] e pos) (tDS g E fun ρ S => (ea ρ S).bind fun x S1 => if i < ρ.length then .ok (.nx, ρ.set i (some x)) S1 else .bad) := by
  refine PS.weak (ps_set hN hi hx he (swapsN hs) hf) fun D σ H h => ?_
  obtain ⟨m, ρ, S, sr, er, h⟩ := h
  refine seqDS (fa := ea) ⟨sr, er⟩ h fun m1 S1 H1 v d e1 s1 r1 h1 => ?_
  split at h1
  · exact okS ⟨s1.sr, er_set s1.er r1⟩ h1
  · exact (show False from h1).elim
theorem ps_asgTD {tg : Expr} {t : CT} (he : PE X e (tD g E ea)) (hg : PG X tg (gT g t)) (hs : swapsWithSole [tg] e pos.line X.env = pure false) (hw : swappedStores [tg] e X.env = pure none) (h1 : (assignEach [tg] X.env).map (·.2) = [assign tg X.env]) :
    PS X (.Assign [tg] e pos) (tDS g E fun ρ S => (ea ρ S).bind fun x S1 => match bindT t x ρ with
    | some ρ' => .ok (.nx, ρ') S1
    | none => .bad) := by
  refine PS.weak (ps_asg he hg hs hw h1) fun D σ H h => ?_
  obtain ⟨m, ρ, S, sr, er, h⟩ := h
  refine seqDS (fa := ea) ⟨sr, er⟩ h fun m1 S1 H1 v d e1 s1 r1 h1 => ?_
  cases e2 : bindT t d ρ with
  | none => simp only [e2] at h1; exact (show False from h1).elim
  | some ρ' =>
    simp only [e2] at h1
    exact ⟨m1, S1, ρ, d, ρ', s1.sr, s1.er, r1, e2, fun σ' er' _ => okS ⟨s1.sr, er'⟩ h1⟩
theorem ps_attrD {dat : Nat → Nat → Bool} (hK : X.K = g.K) (inj : Inj g) (hd : DatOk X g dat) {o : Expr} {f : Nat} {p : Pos} {oe : Ev → Store → Res D} (ho : PE X o (tD g E oe)) (he : PE X e (tD g E ea)) :
    PS X (.Assign [.Attribute o (g.n.at_ f) p] e pos) (tDS g E fun ρ S => (ea ρ S).bind fun x S1 => (oe ρ S1).bind fun o S2 => (match opSetAttr dat o f x S2 with
    | some S3 => .ok (.nx, ρ) S3
    | none => .bad)) := by
  refine PS.weak (ps_fld ho he (swapsW (fun _ _ h => nomatch h))) fun D σ H h => ?_
  obtain ⟨m, ρ, S, sr, er, h⟩ := h
  refine seqDS (fa := ea) ⟨sr, er⟩ h fun m1 S1 H1 v d e1 s1 r1 h1 => ?_
  exact gAttr_of (Q := D.nx) hK inj hd s1 r1 h1 fun m2 S2 H2 e2 s2 h2 => okS s2 h2
end
end K76
set_option Elab.async false
set_option linter.all false
set_option maxRecDepth 100000
set_option autoImplicit false
set_option maxHeartbeats 4000000
/-! K5v: comprehensions; stores -/
namespace K76
open PySem PySem.Spec PyProof.Rows L2
abbrev E0 : XK := fun _ _ _ => False
section
variable {X : Cx} {g : G} {E : XK} {m m1 : List Addr} {H H1 : Hp} {pos : Pos}
/-! ### a list that is not of the store -/
theorem kpt_other {D : Addr} {vs : List V} {o : HO} (hD : H D = some (.lst vs)) : Kpt m H m (upd H D o) :=
  kpt_upd (fun _ _ h => h) (fun xs z => by rw [hD] at z; cases z) fun ob u z => by rw [hD] at z; cases z
theorem SR.other {S : Store} {D : Addr} {vs : List V} {o : HO} (sr : SR g m S H) (hD : H D = some (.lst vs)) (hn : D ∉ m) : SR g m S (upd H D o) := by
  refine ⟨sr.len, sr.nd, fun i c mo h1 h2 => ?_, fun q hq => ?_⟩
  · have hc : c ∈ m := List.mem_of_getElem? h1
    rw [upd_ne (fun z => hn (by rw [← z]; exact hc))]
    exact MRep.kpt (kpt_other hD) mo _ (sr.at_ i c mo h1 h2)
  · obtain ⟨ps, e1, e2, e3⟩ := sr.tabs q hq
    refine ⟨ps, ?_, e2, fun pos cv hcv => ?_⟩
    · rw [upd_ne (fun z => by rw [z, hD] at e1; cases e1)]
      exact e1
    · obtain ⟨c, q1, q2⟩ := e3 pos cv hcv
      refine ⟨c, q1, ?_⟩
      rw [upd_ne (fun z => by rw [z, hD] at q2; unfold LamX.CodeO at q2; cases q2)]
      exact q2
theorem Ext.other {D : Addr} {o : HO} (e : Ext m1 H1 m H) (hD : H1 D = none) : Ext m1 H1 m (upd H D o) :=
  ⟨e.pre, fun a ob h hm ht => by rw [upd_ne (ne_of_none h hD)]; exact e.kp a ob h hm ht, fun a h ob hob => e.st a (fun o' h' => by
    have hne : a ≠ D := ne_of_none hob hD
    exact h o' (by rw [upd_ne hne]; exact h')) ob hob⟩
theorem Ext.notin {D : Addr} {o : HO} (e : Ext m H m1 H1) (hD : H D = some o) (hn : D ∉ m) (ho : ∀ ps, o ≠ .tbl ps) : D ∉ m1 := by
  obtain ⟨ex, e1, e2⟩ := e.pre
  rw [e1]
  intro z
  rcases List.mem_append.mp z with z | z
  · exact hn z
  · obtain ⟨ps, q⟩ := e2 D z o hD
    exact absurd q (ho ps)
theorem ER.kpt {m' : List Addr} {H' : Hp} {ρ : Ev} {σ : L2.St} (k : Kpt m H m' H') (h : ER g m H ρ σ) : ER g m' H' ρ σ :=
  ⟨h.1, fun i d hd => by
    obtain ⟨v, h1, h2⟩ := h.2 i d hd
    exact ⟨v, h1, Rep.kpt k d v h2⟩⟩
def ResOkL (g : G) (E : XK) (m : List Addr) (H : Hp) (r : Res (List D)) (Q : VK) : Prop := match r with
  | .ok xs S => ∀ (m' : List Addr) (H' : Hp) (p : Addr) (vs : List V), Ext m H m' H' → SR g m' S H' → H' p = some (.lst vs) → p ∉ m' → NT H p → Reps g.K m' H' xs vs → Q (.ref p) H'
  | .exc c d S => ∀ (m' : List Addr) (H' : Hp) (dx : Addr) (v : V), Ext m H m' H' → SR g m' S H' → H' dx = some (.xd [("what", v)]) → Rep g.K m' H' d v → E (.ref (He.ga g.K (g.n.cls c))) (some dx) H'
  | .bad => False
def tL (g : G) (E : XK) (f : Ev → Store → Res (List D)) : TE := fun σ H Q => ∃ m ρ S, SR g m S H ∧ ER g m H ρ σ ∧ ResOkL g E m H (f ρ S) Q
theorem ResOkL.ext {r : Res (List D)} {Q : VK} (e : Ext m H m1 H1) (h : ResOkL g E m H r Q) : ResOkL g E m1 H1 r Q := by
  cases r with
  | ok d S => exact fun m' H' p vs e' s h1 h2 h3 => h m' H' p vs (e.trans e') s h1 h2 (e.fresh h3)
  | exc c d S => exact fun m' H' dx v e' => h m' H' dx v (e.trans e')
  | bad => exact h
theorem seqIL {fa : Ev → Store → Res Src} {k : Src → Store → Res (List D)} {Q : VK} {ρ : Ev} {S : Store} {σ : L2.St} (s : Sit g m ρ S σ H) (h : ResOkL g E m H ((fa ρ S).bind k) Q) {R : It → Hp → Prop}
    (c : ∀ m1 S1 H1 J src, Ext m H m1 H1 → Sit g m1 ρ S1 σ H1 → JW g m1 H1 J src → ResOkL g E m1 H1 (k src S1) Q → R J H1) : tI g E fa σ H R := by
  refine ⟨m, ρ, S, s.sr, s.er, ?_⟩
  cases e : fa ρ S with
  | ok d S1 =>
    rw [e] at h
    exact fun m1 H1 J e1 sr j => c m1 S1 H1 J d e1 (s.ext e1 sr) j (ResOkL.ext e1 h)
  | exc c d S1 =>
    rw [e] at h
    exact h
  | bad =>
    rw [e] at h
    exact h
theorem wipe_none {σ : L2.St} {w : Nat} : ∀ {vs : List Nat}, w ∈ vs → (wipe σ vs).set w none = wipe σ vs
  | [], h => by simp at h
  | v :: vs, h => by
    show ((wipe σ vs).set v none).set w none = (wipe σ vs).set v none
    by_cases e : w = v
    · rw [e, List.set_set]
    · have h2 : w ∈ vs := by
        rcases List.mem_cons.mp h with z | z
        · exact absurd z e
        · exact z
      rw [List.set_comm _ _ (Ne.symm e), wipe_none h2]
theorem wipe_wipe {σ : L2.St} {vs : List Nat} : ∀ {ws : List Nat}, (∀ w ∈ ws, w ∈ vs) → wipe (wipe σ vs) ws = wipe σ vs
  | [], _ => rfl
  | w :: ws, h => by
    show (wipe (wipe σ vs) ws).set w none = wipe σ vs
    rw [wipe_wipe (fun x hx => h x (List.mem_cons_of_mem _ hx)), wipe_none (h w (List.mem_cons_self ..))]
/-! ### comprehensions -/
def tC (g : G) (E : XK) (fc : Ev → Store → Res Bool) : TT := fun σ H Q => ∃ m ρ S, SR g m S H ∧ ER g m H ρ σ ∧ ResOkE g E m H (fc ρ S) Q
theorem PTs.weak {X : Cx} {e : List Expr} {t t' : TT} (h : PTs X e t) (c : ∀ σ H Q, t' σ H Q → t σ H Q) : PTs X e t' := ⟨fun pins s σ H Q I q => h.run pins s σ H Q I (c σ H Q q)⟩
theorem pts_nilD : PTs X [] (tC g E fun _ S => .ok true S) := PTs.weak pts_nil fun σ H Q h => by
  obtain ⟨m, ρ, S, sr, er, h⟩ := h
  exact h m H (Ext.refl _ _) sr
theorem pts_oneD {c : Expr} {fc : Ev → Store → Res D} (hc : PT X c (tDB g E fc)) : PTs X [c] (tC g E fun ρ S => (fc ρ S).bind (asB fun t S1 => .ok t S1)) := PTs.weak (pts_one hc) fun σ H Q h => by
  obtain ⟨m, ρ, S, sr, er, h⟩ := h
  refine ⟨m, ρ, S, sr, er, ?_⟩
  cases e : fc ρ S with
  | ok d S1 =>
    simp only [e, Res.bind] at h
    cases d with
    | bl b => exact ⟨b, rfl, fun m1 H1 e1 s1 => h m1 H1 e1 s1⟩
    | _ => exact (show False from h).elim
  | exc cc d S1 =>
    simp only [e, Res.bind] at h
    exact h
  | bad =>
    simp only [e, Res.bind] at h
    exact h
def turnD (t : CT) (fc : Ev → Store → Res Bool) (fe : Ev → Store → Res D) (own : List Nat) (ρ : Ev) : D → Store → Res (Option D) := fun d S2 => match bindT t d (wipeD ρ own) with
    | some ρ' => (fc ρ' S2).bind fun b S3 => (match b with
      | true => (fe ρ' S3).bind fun y S4 => .ok (some y) S4
      | false => .ok none S3)
    | none => .bad
def lcD (fi : Ev → Store → Res Src) (t : CT) (fc : Ev → Store → Res Bool) (fe : Ev → Store → Res D) (own : List Nat) : Ev → Store → Res (List D) := fun ρ S => (fi ρ S).bind fun src S1 => lcL src (turnD t fc fe own ρ) src.len 0 [] S1
theorem tLc_of {fi : Ev → Store → Res Src} {t : CT} {fc : Ev → Store → Res Bool} {fe : Ev → Store → Res D} {own : List Nat} {σ : L2.St} {H : Hp} {Q : VK} (ho : ∀ i ∈ t.ns, i ∈ own) (h : tL g E (lcD fi t fc fe own) σ H Q) :
    tLc (tI g E fi) (gT g t) (tC g E0 fc) (tD g E0 fe) own σ H Q := by
  obtain ⟨m, ρ, S, sr, er, h⟩ := h
  refine seqIL (fa := fi) ⟨sr, er⟩ h fun m1 S1 H1 J src e1 s1 j h1 => ?_
  intro D hD
  refine ⟨fun i k Hc => ∃ m S xs vs, Ext m1 H1 m Hc ∧ SR g m S Hc ∧ Hc D = some (.lst vs) ∧ D ∉ m ∧ Reps g.K m Hc xs vs ∧ ER g m Hc (wipeD ρ own) (wipe σ own) ∧ i + k = src.len ∧ ResOkL g E m1 H1 (lcL src (turnD t fc fe own ρ) k i xs S) Q,
    ⟨src.len, m1, S1, [], [], ?_, s1.sr.new hD, upd_same, fun z => s1.sr.there z hD, Reps.nil, ?_, by omega, h1⟩, fun i k Hc hw => ?_⟩
  · exact Ext.new hD
  · exact (er_wipe s1.er own).ext (Ext.new hD) s1.sr
  · obtain ⟨m, S, xs, vs, ex, sr, hDv, nD, rx, er, hik, h⟩ := hw
    cases k with
    | zero =>
      left
      simp only [lcL] at h
      split at h
      · rename_i hf
        have e2 : i = src.len := by omega
        subst e2
        exact ⟨j.stop m S Hc ex sr hf, h m Hc D vs ex sr hDv nD (NT.of hD) rx⟩
      · exact (show False from h).elim
    | succ k =>
      right
      simp only [lcL] at h
      cases e2 : src.item S i with
      | none => rw [e2] at h; exact (show False from h).elim
      | some d =>
        rw [e2] at h
        simp only at h
        refine ⟨j.go m S Hc i d ex sr e2, fun H' => ∃ m S xs vs, Ext m1 H1 m H' ∧ SR g m S H' ∧ H' D = some (.lst vs) ∧ D ∉ m ∧ Reps g.K m H' xs vs ∧ ER g m H' (wipeD ρ own) (wipe σ own) ∧ i + 1 + k = src.len ∧ ResOkL g E m1 H1 (lcL src (turnD t fc fe own ρ) k (i + 1) xs S) Q, fun H' hn => ⟨k, Nat.lt_succ_self k, hn⟩, fun x H' hy => ?_⟩
        obtain ⟨x1, x2, x3, x4⟩ := j.yld m S Hc i d x H' ex sr e2 hy
        have hD1 := x4 D _ hDv
        have er1 := er.ext x1 sr
        have rx1 := rx.ext x1 sr
        cases e3 : bindT t d (wipeD ρ own) with
        | none => simp only [turnD, e3] at h; exact (show False from h).elim
        | some ρ' =>
          refine ⟨m, S, wipeD ρ own, d, ρ', x2, er1, x3, e3, fun σ2 er2 hw2 => ⟨(hw2 own ho).trans (wipe_wipe fun _ z => z), m, ρ', S, x2, er2, ?_⟩⟩
          cases e4 : fc ρ' S with
          | exc cc dd S3 => simp only [turnD, e3, e4, Res.bind] at h; exact (show False from h).elim
          | bad => simp only [turnD, e3, e4, Res.bind] at h; exact (show False from h).elim
          | ok b S3 =>
            intro m3 H3 e5 s3
            have hD3 : H3 D = some (.lst vs) := e5.kp D _ hD1 nD fun ps z => by cases z
            have nD3 := e5.notin hD1 nD (fun ps z => by cases z)
            cases b with
            | false =>
              rw [if_neg Bool.false_ne_true]
              simp only [turnD, e3, e4, Res.bind] at h
              exact ⟨m3, S3, xs, vs, (ex.trans x1).trans e5, s3, hD3, nD3, rx1.ext e5 x2, er1.ext e5 x2, by omega, h⟩
            | true =>
              rw [if_pos rfl]
              refine ⟨m3, ρ', S3, s3, er2.ext e5 x2, ?_⟩
              cases e6 : fe ρ' S3 with
              | exc cc dd S4 => simp only [turnD, e3, e4, e6, Res.bind] at h; exact (show False from h).elim
              | bad => simp only [turnD, e3, e4, e6, Res.bind] at h; exact (show False from h).elim
              | ok y S4 =>
                simp only [turnD, e3, e4, e6, Res.bind] at h
                split at h
                · rename_i hz
                  intro m4 H4 v e7 s4 rv
                  have hD4 : H4 D = some (.lst vs) := e7.kp D _ hD3 nD3 fun ps z => by cases z
                  have nD4 := e7.notin hD3 nD3 (fun ps z => by cases z)
                  have rx4 := (rx1.ext e5 x2).ext e7 s3
                  have er4 := (er1.ext e5 x2).ext e7 s3
                  have kp : Kpt m4 H4 m4 (upd H4 D (.lst (vs ++ [v]))) := kpt_other hD4
                  refine ⟨vs, hD4, by rw [rx4.length]; exact hz, m4, S4, xs ++ [y], vs ++ [v], (((ex.trans x1).trans e5).trans e7).other hD, s4.other hD4 nD4, upd_same, nD4, Reps.append (rx4.kpt kp) (Reps.one (Rep.kpt kp y v rv)), er4.kpt kp, by omega, h⟩
                · exact (show False from h).elim
section
variable {elt tg iter : Expr} {ifs : List Expr} {scope : Scope} {own : List Nat} {fi : Ev → Store → Res Src} {t : CT} {fc : Ev → Store → Res Bool} {fe : Ev → Store → Res D} {N : List Str}
/-- the slots with their names -/
def ownP (N : List Str) (own : List Nat) : List (Str × Nat) := own.map fun i => ((N[i]?).getD Str.empty, i)
theorem ownP_map : (ownP N own).map (·.2) = own := by
  unfold ownP
  rw [List.map_map]
  exact List.map_id' own
structure LcOk (X : Cx) (g : G) (elt tg : Expr) (ifs : List Expr) (scope : Scope) (t : CT) (fc : Ev → Store → Res Bool) (fe : Ev → Store → Res D) : Prop where
  hg : ∀ (s : Shared) (H : Hp) (C : Addr) (cl : List (Str × Addr)) (fp : List Addr), PG (X.blk s H scope (compEnvC scope cl C X.env) fp) tg (gT g t)
  ht : ∀ (s : Shared) (H : Hp) (C : Addr) (cl : List (Str × Addr)) (fp : List Addr), PTs (X.blk s H scope (compEnvC scope cl C X.env) fp) ifs (tC g E0 fc)
  he : ∀ (s : Shared) (H : Hp) (C : Addr) (cl : List (Str × Addr)) (fp : List Addr), PE (X.blk s H scope (compEnvC scope cl C X.env) fp) elt (tD g E0 fe)
theorem pe_lcD (hc : X.calm = true) (hN : X.N.Nodup) (hi : PI X tg iter (tI g E fi)) (ok : BlkOk X.N X.env.scope scope (ownP X.N own)) (L : LcOk X g elt tg ifs scope t fc fe) (ho : ∀ i ∈ t.ns, i ∈ own) (hs : ∀ x, foldedSetIterable iter X.env x = pure x) :
    PE X (.ListComp elt [⟨tg, iter, ifs, 0⟩] scope pos) (tL g E (lcD fi t fc fe own)) := by
  refine PE.weak (pe_lc hc hN hi ok L.hg L.ht L.he hs) fun σ H Q h => ?_
  rw [ownP_map]
  exact tLc_of ho h
/-- what is left of the list: an object of the store -/
theorem adopt {S : Store} {p : Addr} {vs : List V} {xs : List D} (sr : SR g m S H) (h : H p = some (.lst vs)) (hn : p ∉ m) (r : Reps g.K m H xs vs) : SR g (m ++ [p]) (S ++ [.lst xs]) H ∧ Rep g.K (m ++ [p]) H (.ref S.length) (.ref p) := by
  have kp : Kpt m H (m ++ [p]) H := ⟨Kpt.refl', fun _ _ z => z, fun _ _ _ z => z⟩
  refine ⟨⟨by simp [sr.len], ?_, fun i c mo h1 h2 => ?_, sr.tabs⟩, mk_ref (by rw [← sr.len]; simp)⟩
  · rw [List.nodup_append]
    refine ⟨sr.nd, by simp, fun x hx y hy => ?_⟩
    have e : y = p := by simpa using hy
    rw [e]
    exact fun z => hn (by rw [← z]; exact hx)
  · by_cases hi : i < m.length
    · rw [List.getElem?_append_left hi] at h1
      rw [List.getElem?_append_left (by rw [← sr.len]; exact hi)] at h2
      exact MRep.kpt kp mo _ (sr.at_ i c mo h1 h2)
    · rw [List.getElem?_append_right (by omega)] at h1
      rw [List.getElem?_append_right (by rw [← sr.len]; omega), ← sr.len] at h2
      cases k : i - m.length with
      | zero =>
        rw [k] at h1 h2
        have e1 : p = c := by simpa using h1
        have e2 : .lst xs = mo := by simpa using h2
        rw [← e1, ← e2]
        exact ⟨vs, h, r.kpt kp⟩
      | succ j =>
        rw [k] at h1
        simp at h1
/-- the list kept: a new object of the store -/
theorem tL_ref {f : Ev → Store → Res (List D)} {σ : L2.St} {H : Hp} {Q : VK} (h : tD g E (fun ρ S => (f ρ S).bind fun xs S5 => .ok (.ref S5.length) (S5 ++ [.lst xs])) σ H Q) : tL g E f σ H Q := by
  obtain ⟨m, ρ, S, sr, er, h⟩ := h
  refine ⟨m, ρ, S, sr, er, ?_⟩
  cases e : f ρ S with
  | ok xs S1 =>
    simp only [e, Res.bind] at h
    intro m1 H1 p vs e1 s1 hp hn h0 r
    obtain ⟨a1, a2⟩ := adopt s1 hp hn r
    have x : Ext m H (m1 ++ [p]) H1 := by
      obtain ⟨ex, q1, q2⟩ := e1.pre
      refine ⟨⟨ex ++ [p], by rw [q1, List.append_assoc], fun a ha => ?_⟩, e1.kp, e1.st⟩
      rcases List.mem_append.mp ha with z | z
      · exact q2 a z
      · have e2 : a = p := by simpa using z
        rw [e2]
        exact h0
    exact h (m1 ++ [p]) H1 _ x a1 a2
  | exc c d S1 =>
    simp only [e, Res.bind] at h
    exact h
  | bad =>
    simp only [e, Res.bind] at h
    exact h
theorem pe_lcR (h : PE X (.ListComp elt [⟨tg, iter, ifs, 0⟩] scope pos) (tL g E (lcD fi t fc fe own))) :
    PE X (.ListComp elt [⟨tg, iter, ifs, 0⟩] scope pos) (tD g E fun ρ S => (lcD fi t fc fe own ρ S).bind fun xs S5 => .ok (.ref S5.length) (S5 ++ [.lst xs])) := PE.weak h fun _ _ _ h => tL_ref h
/-- x = [..] -/
theorem ps_asgLcD {i : Nat} {y : Str} {py spos : Pos} (hc : X.calm = true) (hN : X.N.Nodup) (hy : X.N[i]? = some y) (hyl : X.env.scope.names.lookup y = some .local) (hk : X.env.scope.kind = .function) (hl : (py.line == pos.line) = true)
    (ha : (scope.names.any fun (n, k) => n == y && (k == .local || k == .cell)) = false) (hi : PI X tg iter (tI g E fi)) (ok : BlkOk X.N X.env.scope scope (ownP X.N own)) (L : LcOk X g elt tg ifs scope t fc fe) (ho : ∀ i ∈ t.ns, i ∈ own) (hs : ∀ x, foldedSetIterable iter X.env x = pure x) :
    PS X (.Assign [.Name y py] (.ListComp elt [⟨tg, iter, ifs, 0⟩] scope pos) spos) (tDS g E fun ρ S => ((lcD fi t fc fe own ρ S).bind fun xs S5 => (.ok (.ref S5.length) (S5 ++ [.lst xs]) : Res D)).bind fun x S1 => if i < ρ.length then .ok (.nx, ρ.set i (some x)) S1 else .bad) := by
  refine PS.weak (ps_setLc hc hN hy hyl (sw_true hk hyl hl ha) hi ok L.hg L.ht L.he hs) fun DD σ H h => ?_
  obtain ⟨m, ρ, S, sr, er, h⟩ := h
  rw [ownP_map]
  refine tLc_of ho (tL_ref (seqDS (fa := fun ρ S => (lcD fi t fc fe own ρ S).bind fun xs S5 => (.ok (.ref S5.length) (S5 ++ [.lst xs]) : Res D)) ⟨sr, er⟩ h fun m1 S1 H1 v d e1 s1 r1 h1 => ?_))
  split at h1
  · exact okS ⟨s1.sr, er_set s1.er r1⟩ h1
  · exact (show False from h1).elim
end
/-! ### what is made of a comprehension's list at once -/
theorem lfL {f : Ev → Store → Res (List D)} {op : List D → Store → Res D} {σ : L2.St} {Q : VK} {R : V → Hp → Prop} (h : tD g E (fun ρ S => (f ρ S).bind fun xs S5 => op xs S5) σ H Q)
    (c : ∀ m S H p xs vs, SR g m S H → H p = some (.lst vs) → p ∉ m → Reps g.K m H xs vs → ResOk g E m H (op xs S) Q → R (.ref p) H) : tL g E f σ H R := by
  obtain ⟨m, ρ, S, sr, er, h⟩ := h
  refine ⟨m, ρ, S, sr, er, ?_⟩
  cases e : f ρ S with
  | ok xs S1 =>
    simp only [e, Res.bind] at h
    exact fun m1 H1 p vs e1 s1 hp hn _ r => c m1 S1 H1 p xs vs s1 hp hn r (ResOk.ext e1 h)
  | exc c d S1 =>
    simp only [e, Res.bind] at h
    exact h
  | bad =>
    simp only [e, Res.bind] at h
    exact h
variable {e : Expr} {f : Ev → Store → Res (List D)} {p2 : Pos}
theorem pe_lfTuple (hg : Gl X "tuple") (hm : X.mg "tuple" = none) (he : PE X e (tL g E f)) (hs : nst e = true) : PE X (.Call (.Name "tuple" p2) [e] [] pos) (tD g E fun ρ S => (f ρ S).bind fun xs S5 => opLF .tuple xs S5) :=
  PE.weak (pe_callTy call_tuple_of hg hm rfl (pa_cons he pa_nil (starEach_nst hs)) (by decide) (by decide) (starEach_nst hs)) fun σ H Q h =>
    lfL h fun m S H p xs vs sr hp hn r q => ⟨p, vs, rfl, .inl ⟨SqL.of hp, fun t ht => okTup sr r q ht⟩⟩
theorem pe_lfAll (hc : X.calm = true) (hg : Gl X "all") (hm : X.mg "all" = none) (he : PE X e (tL g E f)) (hs : nst e = true) : PE X (.Call (.Name "all" p2) [e] [] pos) (tD g E fun ρ S => (f ρ S).bind fun xs S5 => opLF .all xs S5) :=
  PE.weak (pe_callB (cr_all hc) hg hm rfl (pa_cons he pa_nil (starEach_nst hs)) (by decide) (by decide) (starEach_nst hs)) fun σ H Q h =>
    lfL h fun m S H p xs vs sr hp hn r q => lq_all sr (SqL.of hp) r q
theorem pe_lfAny (hc : X.calm = true) (hg : Gl X "any") (hm : X.mg "any" = none) (he : PE X e (tL g E f)) (hs : nst e = true) : PE X (.Call (.Name "any" p2) [e] [] pos) (tD g E fun ρ S => (f ρ S).bind fun xs S5 => opLF .any xs S5) :=
  PE.weak (pe_callB (cr_any hc) hg hm rfl (pa_cons he pa_nil (starEach_nst hs)) (by decide) (by decide) (starEach_nst hs)) fun σ H Q h =>
    lfL h fun m S H p xs vs sr hp hn r q => lq_any sr (SqL.of hp) r q
theorem pe_lfSum (hc : X.calm = true) (hg : Gl X "sum") (hm : X.mg "sum" = none) (he : PE X e (tL g E f)) (hs : nst e = true) : PE X (.Call (.Name "sum" p2) [e] [] pos) (tD g E fun ρ S => (f ρ S).bind fun xs S5 => opLF .sum xs S5) :=
  PE.weak (pe_callB (cr_sum hc) hg hm rfl (pa_cons he pa_nil (starEach_nst hs)) (by decide) (by decide) (starEach_nst hs)) fun σ H Q h =>
    lfL h fun m S H p xs vs sr hp hn r q => lq_sum sr (SqL.of hp) r q
/-! ### compared with [] -/
def rNil (g : G) (E : XK) (f : D → Store → Res D) : V → Hp → VK → Prop := fun x H Q => ∃ m S a, SR g m S H ∧ Rep g.K m H a x ∧ ResOk g E m H (f a S) Q
theorem eqv_nil (ps : List PyData) : PyData.eqv (.list ps) (.list []) = ps.isEmpty := by
  cases ps <;> rfl
theorem eqv_tupnil (ps : List PyData) : PyData.eqv (.tuple ps) (.list []) = false := by
  cases ps <;> rfl
theorem pyAll_empty : ∀ {l : List D} {ps : List PyData}, D.pyAll l = some ps → ps.isEmpty = l.isEmpty
  | [], ps, h => by
    simp only [D.pyAll, Option.some.injEq] at h
    subst h
    rfl
  | d :: l, ps, h => by
    simp only [D.pyAll] at h
    split at h
    · rw [← Option.some.inj h]
      rfl
    · cases h
/-- a list compared with a new [] -/
theorem op_nil (hK : X.K = g.K) (hu : X.A.units + 64 < cLine) (ne : Bool) {m : List Addr} {S : Store} {H : Hp} {x : V} {p : Addr} {a : PyData} {k : Bool} {Q : VK} (sr : SR g m S H) (hp : H p = none) (da : Dp g.K H x a) (sa : SeqAt.shaped a = true) (hk : PyData.eqv a (.list []) = k)
    (q : ResOk g E m H (.ok (.bl (if ne then !k else k)) S) Q) : (if ne then rNeD X.K else rEqD X.K) x (.ref p) (upd H p (.lst [])) Q := by
  have kp : ∀ b o, H b = some o → upd H p (.lst []) b = some o := fun b o e => by rw [upd_ne (ne_of_none e hp)]; exact e
  have da' : Dp X.K (upd H p (.lst [])) x a := by
    rw [hK]
    have sq : ∀ (c : Addr) (vs : List V), SqL g.K H c vs → SqL g.K (upd H p (.lst [])) c vs := fun c vs h => by
      rcases h with (h | ⟨o, h⟩) | h
      · exact .inl (.inl (kp _ _ h))
      · exact .inl (.inr ⟨o, kp _ _ h⟩)
      · exact .inr h
    have sqt : ∀ (c : Addr) (vs : List V), SqT g.K H c vs → SqT g.K (upd H p (.lst [])) c vs := fun c vs h => by
      rcases h with (h | ⟨o, h⟩) | h
      · exact .inl (.inl (kp _ _ h))
      · exact .inl (.inr ⟨o, kp _ _ h⟩)
      · exact .inr h
    exact Dp.rec (motive_1 := fun v d _ => Dp g.K (upd H p (.lst [])) v d) (motive_2 := fun vs ds _ => DpAll g.K (upd H p (.lst [])) vs ds) .non .bl .int .str (fun h _ ih => .lst (sq _ _ h) ih) (fun h _ ih => .tup (sqt _ _ h) ih) .nil (fun _ _ i1 i2 => .cons i1 i2) da
  have dn : Dp X.K (upd H p (.lst [])) (.ref p) (.list []) := .lst (SqL.of upd_same) .nil
  have e1 : Ext m H m (upd H p (.lst [])) := Ext.new hp
  have s1 : SR g m S (upd H p (.lst [])) := sr.new hp
  cases ne with
  | false => exact ⟨a, _, da', dn, sa, rfl, by rw [hk]; exact q m _ _ e1 s1 (mk_bl _)⟩
  | true => exact ⟨a, _, da', dn, sa, rfl, by rw [hk]; exact q m _ _ e1 s1 (mk_bl _)⟩
theorem or_nil (hu : X.A.units + 64 < cLine) (ne : Bool) : OpR X (compareOp (if ne then .NotEq else .Eq)) (if ne then rNeD X.K else rEqD X.K) := by
  cases ne with
  | false => exact op_eqD hu
  | true => exact op_neD hu
theorem nil_of (hK : X.K = g.K) (hu : X.A.units + 64 < cLine) (ne : Bool) {m : List Addr} {S : Store} {H : Hp} {x : V} {p : Addr} {l : List D} {vs : List V} {Q : VK} (sr : SR g m S H) (hx : ∃ c, x = .ref c ∧ SqL g.K H c vs) (r : Reps g.K m H l vs) (q : ResOk g E m H (opLF (if ne then .neNil else .eqNil) l S) Q) (hp : H p = none) :
    (if ne then rNeD X.K else rEqD X.K) x (.ref p) (upd H p (.lst [])) Q := by
  obtain ⟨c, rfl, hc⟩ := hx
  have h1 : opLF (if ne then .neNil else .eqNil) l S = (match D.pyAll l with | some ps => if SeqAt.shaped (.list ps) then .ok (.bl (if ne then !l.isEmpty else l.isEmpty)) S else .bad | none => .bad) := by cases ne <;> rfl
  rw [h1] at q
  cases e : D.pyAll l with
  | none => rw [e] at q; exact (show False from q).elim
  | some ps =>
    rw [e] at q
    simp only at q
    split at q
    · rename_i hz
      exact op_nil hK hu ne sr hp (.lst hc (dpAll_of l vs ps r e)) hz (by rw [eqv_nil, pyAll_empty e]) q
    · exact (show False from q).elim
theorem pe_eqNilL (hK : X.K = g.K) (hu : X.A.units + 64 < cLine) (ne : Bool) (he : PE X e (tL g E f)) : PE X (.Compare e [if ne then .NotEq else .Eq] [.List [] p2] pos) (tD g E fun ρ S => (f ρ S).bind fun xs S5 => opLF (if ne then .neNil else .eqNil) xs S5) := by
  refine PE.weak (pe_cmpR (or_nil hu ne) he (pe_lst pa_nil) (by cases ne <;> rfl)) fun σ H Q h => ?_
  refine lfL h fun m S H p xs vs sr hp hn r q => ?_
  exact ⟨Nat.zero_le _, fun t ht => nil_of hK hu ne sr ⟨p, rfl, SqL.of hp⟩ r q ht⟩
theorem pt_eqNilL (hK : X.K = g.K) (hu : X.A.units + 64 < cLine) (ne : Bool) (he : PE X e (tL g E f)) : PT X (.Compare e [if ne then .NotEq else .Eq] [.List [] p2] pos) (tDB g E fun ρ S => (f ρ S).bind fun xs S5 => opLF (if ne then .neNil else .eqNil) xs S5) := by
  refine PT.weak (pt_cmpR (or_nil hu ne) he (pe_lst pa_nil) (by cases ne <;> rfl)) fun σ H Q h => ?_
  refine lfL (tTest_of h) fun m S H p xs vs sr hp hn r q => ?_
  exact ⟨Nat.zero_le _, fun t ht => nil_of hK hu ne sr ⟨p, rfl, SqL.of hp⟩ r q ht⟩
variable {ea : Ev → Store → Res D}
theorem eqNil_of (hK : X.K = g.K) (hu : X.A.units + 64 < cLine) (ne : Bool) {σ : L2.St} {H : Hp} {Q : VK} (h : tD g E (fun ρ S => (ea ρ S).bind fun x S1 => opEqNil ne x S1) σ H Q) : tOp (if ne then rNeD X.K else rEqD X.K) (tD g E ea) (tLst tNil) σ H Q := by
  obtain ⟨m, ρ, S, sr, er, h⟩ := h
  refine seqD (fa := ea) ⟨sr, er⟩ h fun m1 S1 H1 v d e1 s1 r1 h1 => ⟨Nat.zero_le _, fun t ht => ?_⟩
  cases d with
  | fl l =>
    obtain ⟨p, vs, rfl, hp, rp⟩ := rep_fl r1
    exact nil_of hK hu ne s1.sr ⟨p, rfl, hp⟩ rp h1 ht
  | ref i =>
    cases o1 : S1[i]? with
    | none => simp only [opEqNil, o1] at h1; exact (show False from h1).elim
    | some o =>
      cases o with
      | ins C fs => simp only [opEqNil, o1] at h1; exact (show False from h1).elim
      | lst l =>
        simp only [opEqNil, o1] at h1
        obtain ⟨p, vs, rfl, hi, hp, rp⟩ := ref_lst s1.sr r1 o1
        exact nil_of hK hu ne s1.sr ⟨p, rfl, SqL.of hp⟩ rp h1 ht
  | tup l =>
    obtain ⟨p, vs, rfl, hp, rp⟩ := rep_tup r1
    simp only [opEqNil] at h1
    cases e : D.pyAll l with
    | none => rw [e] at h1; exact (show False from h1).elim
    | some ps =>
      rw [e] at h1
      simp only at h1
      split at h1
      · rename_i hz
        refine op_nil (E := E) hK hu ne s1.sr ht (.tup hp (dpAll_of l vs ps rp e)) hz (eqv_tupnil ps) ?_
        cases ne <;> exact h1
      · exact (show False from h1).elim
  | _ => exact (show False from h1).elim
theorem pe_eqNilD (hK : X.K = g.K) (hu : X.A.units + 64 < cLine) (ne : Bool) (he : PE X e (tD g E ea)) : PE X (.Compare e [if ne then .NotEq else .Eq] [.List [] p2] pos) (tD g E fun ρ S => (ea ρ S).bind fun x S1 => opEqNil ne x S1) :=
  PE.weak (pe_cmpR (or_nil hu ne) he (pe_lst pa_nil) (by cases ne <;> rfl)) fun σ H Q h => eqNil_of hK hu ne h
theorem pt_eqNilD (hK : X.K = g.K) (hu : X.A.units + 64 < cLine) (ne : Bool) (he : PE X e (tD g E ea)) : PT X (.Compare e [if ne then .NotEq else .Eq] [.List [] p2] pos) (tDB g E fun ρ S => (ea ρ S).bind fun x S1 => opEqNil ne x S1) :=
  PT.weak (pt_cmpR (or_nil hu ne) he (pe_lst pa_nil) (by cases ne <;> rfl)) fun σ H Q h => eqNil_of hK hu ne (tTest_of h)
end
end K76
set_option Elab.async false
set_option linter.all false
set_option maxRecDepth 100000
set_option autoImplicit false
set_option maxHeartbeats 4000000
/-! K5u: stores of several, of items; raise -/
namespace K76
open PySem PySem.Spec PyProof.Rows L2
/-! ### swapped stores -/
def isLocN (sc : Scope) : Expr → Bool
  | .Name x _ => decide (sc.names.lookup x = some .local)
  | _ => false
def noSwapB (sc : Scope) (ts : List Expr) (e : Expr) : Bool := (match e with
  | .Tuple _ _ _ => false
  | _ => true) || ts.any fun t => !isLocN sc t
theorem fm_lt {α β : Type} {f : α → Option β} : ∀ {l : List α}, (∃ a ∈ l, f a = none) → (l.filterMap f).length < l.length
  | [], h => by obtain ⟨a, h, _⟩ := h; cases h
  | a :: l, h => by
    cases e : f a with
    | none =>
      rw [List.filterMap_cons_none e, List.length_cons]
      have := List.length_filterMap_le f l
      omega
    | some b =>
      rw [List.filterMap_cons_some e, List.length_cons, List.length_cons]
      have : (l.filterMap f).length < l.length := fm_lt (by
        obtain ⟨c, h1, h2⟩ := h
        rcases List.mem_cons.mp h1 with z | z
        · rw [z, e] at h2
          cases h2
        · exact ⟨c, z, h2⟩)
      omega
def nmF (env : Env) (line : Nat) (e : Expr) : Option Str := match e with
  | .Name id pos => if (env.kindOf id == some .local && pos.line == line) = true then some id else none
  | _ => none
theorem nmF_name (env : Env) (l : Nat) (x : Str) (p : Pos) : nmF env l (.Name x p) = if (env.kindOf x == some .local && p.line == l) = true then some x else none := rfl
def isStar (e : Expr) : Bool := match e with
  | .Starred .. => true
  | _ => false
def lineOf (ts : List Expr) : Nat := (ts.head?.map (·.pos.line)).getD 0
theorem swp_eq {ts vs : List Expr} {k k2 : Nat} {p p2 : Pos} {env : Env} : swappedStores [.Tuple ts k p] (.Tuple vs k2 p2) env =
    if (!(ts.length == 2 || ts.length == 3) || vs.length != ts.length || env.blockKind != .function) = true then pure none
    else if vs.any isStar = true then pure none
    else if ((ts.filterMap (nmF env (lineOf ts))).length != ts.length || (ts.filterMap (nmF env (lineOf ts))).eraseDups.length != (ts.filterMap (nmF env (lineOf ts))).length) = true then pure none
    else if vs.all (foldedForSure 8) = true then pure none
    else if vs.all (constantsAlone 8) = true then (do let _ ← (unsupported "assign.tuple-of-constant-expressions:order-of-the-stores" : Sem Unit); pure (some (ts.filterMap (nmF env (lineOf ts)))))
    else pure (some (ts.filterMap (nmF env (lineOf ts)))) := by rfl
theorem isStar_nst {e : Expr} (h : nst e = true) : isStar e = false := by
  cases e <;> first | rfl | exact absurd h Bool.false_ne_true
theorem swap_none {sc : Scope} {ts : List Expr} {k : Nat} {p : Pos} {e : Expr} {env : Env} (hs : env.scope = sc) (h : noSwapB sc ts e = true) : swappedStores [.Tuple ts k p] e env = pure none := by
  unfold noSwapB at h
  cases e with
  | Tuple vs k2 p2 =>
    have h1 : (ts.any fun t => !isLocN sc t) = true := by simpa using h
    rw [swp_eq]
    have hlt : (ts.filterMap (nmF env (lineOf ts))).length < ts.length := by
      refine fm_lt ?_
      obtain ⟨t, ht, hn⟩ := List.any_eq_true.mp h1
      refine ⟨t, ht, ?_⟩
      cases t <;> try rfl
      rename_i x q
      have h2 : decide (sc.names.lookup x = some .local) = false := by simpa [isLocN] using hn
      have h3 : (env.kindOf x == some NameKind.local) = false := by
        have h4 : env.kindOf x = sc.names.lookup x := by rw [← hs]; rfl
        rw [h4]
        rw [decide_eq_false_iff_not] at h2
        exact beq_eq_false_iff_ne.mpr h2
      rw [nmF_name, h3]
      rfl
    have hne : ((ts.filterMap (nmF env (lineOf ts))).length != ts.length) = true := by
      rw [bne_iff_ne]
      omega
    split
    · rfl
    · split
      · rfl
      · rw [hne, Bool.true_or, if_pos rfl]
  | _ => rfl
/-- two or three names, all local, of one line, not all constants -/
def swapB (sc : Scope) (ts : List (Str × Pos)) (vs : List Expr) : Bool :=
  (decide (ts.length = 2) || decide (ts.length = 3)) && (decide (vs.length = ts.length) && (vs.all nst && ((ts.all fun t => decide (sc.names.lookup t.1 = some .local) && (t.2.line == (ts.head?.map (·.2.line)).getD 0))
    && (decide (ts.map (·.1)).Nodup && (!vs.all (foldedForSure 8) && !vs.all (constantsAlone 8))))))
section
variable {X : Cx} {g : G} {E : XK} {m m1 : List Addr} {H H1 : Hp} {pos : Pos}
theorem swap2 {sc : Scope} {x y : Str} {px py p p2 : Pos} {k k2 : Nat} {a b : Expr} {env : Env} (hs : env.scope = sc) (hk : sc.kind = .function) (h : swapB sc [(x, px), (y, py)] [a, b] = true) :
    swappedStores [.Tuple [.Name x px, .Name y py] k p] (.Tuple [a, b] k2 p2) env = pure (some [x, y]) ∧ sc.names.lookup x = some .local ∧ sc.names.lookup y = some .local ∧ x ≠ y := by
  unfold swapB at h
  simp only [Bool.and_eq_true, List.all_cons, List.all_nil, decide_eq_true_eq, Bool.not_eq_true', List.head?_cons, Option.map_some, Option.getD_some, Bool.and_true, List.map_cons, List.map_nil] at h
  obtain ⟨_, _, ⟨n1, n2⟩, ⟨⟨l1, _⟩, ⟨l2, ln⟩⟩, nd, c1, c2⟩ := h
  have hne : x ≠ y := by
    intro z
    rw [z] at nd
    simp at nd
  refine ⟨?_, l1, l2, hne⟩
  have kx : env.kindOf x = some .local := by show env.scope.names.lookup x = _; rw [hs]; exact l1
  have ky : env.kindOf y = some .local := by show env.scope.names.lookup y = _; rw [hs]; exact l2
  have hb : env.blockKind = .function := by unfold Env.blockKind; rw [hs, hk]; rfl
  have hst : ([a, b].any isStar) = false := by
    simp [isStar_nst n1, isStar_nst n2]
  have hnames : ([Expr.Name x px, Expr.Name y py].filterMap (nmF env (lineOf [Expr.Name x px, Expr.Name y py]))) = [x, y] := by
    have e1 : lineOf [Expr.Name x px, Expr.Name y py] = px.line := rfl
    have ln' : (py.line == px.line) = true := ln
    have f1 : nmF env px.line (.Name x px) = some x := by rw [nmF_name, kx]; simp
    have f2 : nmF env px.line (.Name y py) = some y := by rw [nmF_name, ky]; simp [ln']
    rw [e1, List.filterMap_cons_some f1, List.filterMap_cons_some f2]
    rfl
  have hd : ([x, y] : List Str).eraseDups.length = 2 := by
    have : (y == x) = false := beq_eq_false_iff_ne.mpr (Ne.symm hne)
    simp [List.eraseDups_cons, this]
  have c1' : ([a, b].all (foldedForSure 8)) = false := by simpa [List.all_cons] using c1
  have c2' : ([a, b].all (constantsAlone 8)) = false := by simpa [List.all_cons] using c2
  rw [swp_eq, hb, hst, hnames, hd, c1', c2']
  rfl
theorem swap3 {sc : Scope} {x y z : Str} {px py pz p p2 : Pos} {k k2 : Nat} {a b c : Expr} {env : Env} (hs : env.scope = sc) (hk : sc.kind = .function) (h : swapB sc [(x, px), (y, py), (z, pz)] [a, b, c] = true) :
    swappedStores [.Tuple [.Name x px, .Name y py, .Name z pz] k p] (.Tuple [a, b, c] k2 p2) env = pure (some [x, y, z]) ∧ sc.names.lookup x = some .local ∧ sc.names.lookup y = some .local ∧ sc.names.lookup z = some .local ∧ x ≠ y ∧ x ≠ z ∧ y ≠ z := by
  unfold swapB at h
  simp only [Bool.and_eq_true, List.all_cons, List.all_nil, decide_eq_true_eq, Bool.not_eq_true', List.head?_cons, Option.map_some, Option.getD_some, Bool.and_true, List.map_cons, List.map_nil] at h
  obtain ⟨_, _, ⟨n1, n2, n3⟩, ⟨⟨l1, _⟩, ⟨l2, ln⟩, ⟨l3, ln3⟩⟩, nd, c1, c2⟩ := h
  have hne : x ≠ y ∧ x ≠ z ∧ y ≠ z := by
    simp only [List.nodup_cons, List.mem_cons, List.not_mem_nil, or_false, not_or] at nd
    exact ⟨nd.1.1, nd.1.2, nd.2.1⟩
  refine ⟨?_, l1, l2, l3, hne⟩
  have kx : env.kindOf x = some .local := by show env.scope.names.lookup x = _; rw [hs]; exact l1
  have ky : env.kindOf y = some .local := by show env.scope.names.lookup y = _; rw [hs]; exact l2
  have kz : env.kindOf z = some .local := by show env.scope.names.lookup z = _; rw [hs]; exact l3
  have hb : env.blockKind = .function := by unfold Env.blockKind; rw [hs, hk]; rfl
  have hst : ([a, b, c].any isStar) = false := by
    simp [isStar_nst n1, isStar_nst n2, isStar_nst n3]
  have hnames : ([Expr.Name x px, Expr.Name y py, Expr.Name z pz].filterMap (nmF env (lineOf [Expr.Name x px, Expr.Name y py, Expr.Name z pz]))) = [x, y, z] := by
    have e1 : lineOf [Expr.Name x px, Expr.Name y py, Expr.Name z pz] = px.line := rfl
    have ln' : (py.line == px.line) = true := ln
    have ln2 : (pz.line == px.line) = true := ln3
    have f1 : nmF env px.line (.Name x px) = some x := by rw [nmF_name, kx]; simp
    have f2 : nmF env px.line (.Name y py) = some y := by rw [nmF_name, ky]; simp [ln']
    have f3 : nmF env px.line (.Name z pz) = some z := by rw [nmF_name, kz]; simp [ln2]
    rw [e1, List.filterMap_cons_some f1, List.filterMap_cons_some f2, List.filterMap_cons_some f3]
    rfl
  have hd : ([x, y, z] : List Str).eraseDups.length = 3 := by
    have q1 : (y == x) = false := beq_eq_false_iff_ne.mpr (Ne.symm hne.1)
    have q2 : (z == x) = false := beq_eq_false_iff_ne.mpr (Ne.symm hne.2.1)
    have q3 : (z == y) = false := beq_eq_false_iff_ne.mpr (Ne.symm hne.2.2)
    simp [List.eraseDups_cons, q1, q2, q3]
  have c1' : ([a, b, c].all (foldedForSure 8)) = false := by simpa [List.all_cons] using c1
  have c2' : ([a, b, c].all (constantsAlone 8)) = false := by simpa [List.all_cons] using c2
  rw [swp_eq, hb, hst, hnames, hd, c1', c2']
  rfl
theorem swapsS {t e : Expr} {l : Nat} {env : Env} (h : ∀ id p, t ≠ .Name id p) : swapsWithSole [t] e l env = pure false := swapsW h
/-! ### x, y = a, b -/
variable {e a b c : Expr} {ea eb ec : Ev → Store → Res D} {ex : Ev → Store → Res (List D)}
def parD (is : List Nat) (ex : Ev → Store → Res (List D)) : Ev → Store → Res (Fl × Ev) := fun ρ S => (ex ρ S).bind fun xs S1 => if xs.length = is.length ∧ is.all (fun i => decide (i < ρ.length)) then .ok (.nx, setAll ρ is xs) S1 else .bad
theorem ps_par2D {i j : Nat} {x y : Str} {px py pt pt2 : Pos} {kt k2 : Nat} {sc : Scope} (hc : X.calm = true) (hN : X.N.Nodup) (hi : X.N[i]? = some x) (hj : X.N[j]? = some y) (hs : X.env.scope = sc) (hk : sc.kind = .function) (h : swapB sc [(x, px), (y, py)] [a, b] = true)
    (ha : PA X [a, b] (tDA g E ex)) : PS X (.Assign [.Tuple [.Name x px, .Name y py] kt pt] (.Tuple [a, b] k2 pt2) pos) (tDS g E (parD [i, j] ex)) := by
  obtain ⟨h1, h2, h3, h4⟩ := swap2 (p := pt) (p2 := pt2) (k := kt) (k2 := k2) hs hk h
  have hij : i ≠ j := fun z => by
    rw [z, hj] at hi
    exact h4 (Option.some.inj hi).symm
  refine PS.weak (ps_par hc hN hi hj hij (by rw [hs]; exact h2) (by rw [hs]; exact h3) ha h1) fun D σ H h => ?_
  obtain ⟨m, ρ, S, sr, er, h⟩ := h
  refine seqAS (fa := ex) ⟨sr, er⟩ h fun m1 S1 H1 vs ds e1 s1 r1 q1 => ?_
  split at q1
  · rename_i hz
    rcases ds with _ | ⟨d1, _ | ⟨d2, _ | ⟨d3, l⟩⟩⟩
    · exact absurd hz.1 (by simp)
    · exact absurd hz.1 (by simp)
    · obtain ⟨v, w, rfl, r2, r3⟩ := reps2 r1
      exact ⟨v, w, rfl, okS ⟨s1.sr, er_set (er_set s1.er r2) r3⟩ q1⟩
    · exact absurd hz.1 (by simp)
  · exact (show False from q1).elim
theorem reps3 {K : PySem.W.Frag} {d e f : D} {vs : List V} (r : Reps K m H [d, e, f] vs) : ∃ v w u, vs = [v, w, u] ∧ Rep K m H d v ∧ Rep K m H e w ∧ Rep K m H f u := by
  unfold Reps at r
  obtain ⟨v, ws, rfl, r1, r2⟩ := r
  obtain ⟨w, u, rfl, r3, r4⟩ := reps2 r2
  exact ⟨v, w, u, rfl, r1, r3, r4⟩
theorem ps_par3D {i j l : Nat} {x y z : Str} {px py pz pt pt2 : Pos} {kt k2 : Nat} {sc : Scope} (hc : X.calm = true) (hN : X.N.Nodup) (hi : X.N[i]? = some x) (hj : X.N[j]? = some y) (hl : X.N[l]? = some z) (hs : X.env.scope = sc) (hk : sc.kind = .function) (h : swapB sc [(x, px), (y, py), (z, pz)] [a, b, c] = true)
    (ha : PA X [a, b, c] (tDA g E ex)) : PS X (.Assign [.Tuple [.Name x px, .Name y py, .Name z pz] kt pt] (.Tuple [a, b, c] k2 pt2) pos) (tDS g E (parD [i, j, l] ex)) := by
  obtain ⟨h1, h2, h3, h5, h4, h6, h7⟩ := swap3 (p := pt) (p2 := pt2) (k := kt) (k2 := k2) hs hk h
  have hij : i ≠ j := fun q => by
    rw [q, hj] at hi
    exact h4 (Option.some.inj hi).symm
  have hil : i ≠ l := fun q => by
    rw [q, hl] at hi
    exact h6 (Option.some.inj hi).symm
  have hjl : j ≠ l := fun q => by
    rw [q, hl] at hj
    exact h7 (Option.some.inj hj).symm
  refine PS.weak (ps_par3 hc hN hi hj hl hij hil hjl (by rw [hs]; exact h2) (by rw [hs]; exact h3) (by rw [hs]; exact h5) ha h1) fun D σ H h => ?_
  obtain ⟨m, ρ, S, sr, er, h⟩ := h
  refine seqAS (fa := ex) ⟨sr, er⟩ h fun m1 S1 H1 vs ds e1 s1 r1 q1 => ?_
  split at q1
  · rename_i hz
    rcases ds with _ | ⟨d1, _ | ⟨d2, _ | ⟨d3, _ | ⟨d4, l⟩⟩⟩⟩
    · exact absurd hz.1 (by simp)
    · exact absurd hz.1 (by simp)
    · exact absurd hz.1 (by simp)
    · obtain ⟨v, w, u, rfl, r2, r3, r4⟩ := reps3 r1
      exact ⟨v, w, u, rfl, okS ⟨s1.sr, er_set (er_set (er_set s1.er r2) r3) r4⟩ q1⟩
    · exact absurd hz.1 (by simp)
  · exact (show False from q1).elim
/-! ### o.f, o.h = e -/
theorem ps_attr2D {dat : Nat → Nat → Bool} (hc : X.calm = true) (hK : X.K = g.K) (inj : Inj g) (hd : DatOk X g dat) {f h : Nat} {p1 p2 pt : Pos} {kt : Nat} {sc : Scope} (hs : X.env.scope = sc) (ha : PE X a (tD g E ea)) (hb : PE X b (tD g E ea)) (he : PE X e (tD g E eb)) :
    PS X (.Assign [.Tuple [.Attribute a (g.n.at_ f) p1, .Attribute b (g.n.at_ h) p2] kt pt] e pos) (tDS g E fun ρ S => (eb ρ S).bind fun x S1 => (match x with
    | .tup [u, v] => (ea ρ S1).bind fun o S2 => (match opSetAttr dat o f u S2 with
      | some S3 => (ea ρ S3).bind fun o2 S4 => (match opSetAttr dat o2 h v S4 with
        | some S5 => .ok (.nx, ρ) S5
        | none => .bad)
      | none => .bad)
    | _ => .bad)) := by
  refine PS.weak (ps_asg he (pg_tup hc (pgs_cons (pg_attr ha) (pgs_cons (pg_attr hb) pgs_nil rfl) rfl) rfl rfl) (swapsS (fun _ _ h => by cases h)) (swap_none (sc := sc) hs (by unfold noSwapB; simp [isLocN])) rfl) fun D σ H q => ?_
  obtain ⟨m, ρ, S, sr, er, q⟩ := q
  refine seqDS (fa := eb) ⟨sr, er⟩ q fun m1 S1 H1 v d e1 s1 r1 q1 => ?_
  cases d with
  | tup l =>
    rcases l with _ | ⟨d1, _ | ⟨d2, _ | ⟨d3, l⟩⟩⟩
    · exact (show False from q1).elim
    · exact (show False from q1).elim
    · obtain ⟨p, vs, rfl, hp, rp⟩ := rep_tup r1
      obtain ⟨v1, v2, rfl, r2, r3⟩ := reps2 rp
      refine ⟨p, _, rfl, by rw [hK]; exact hp, rfl, v1, _, rfl, ?_⟩
      refine gAttr_of (D := D) hK inj hd (oe := ea) (k := fun S3 => (ea ρ S3).bind fun o2 S4 => (match opSetAttr dat o2 h d2 S4 with
        | some S5 => .ok (.nx, ρ) S5
        | none => .bad)) s1 r2 q1 fun m2 S2 H2 e2 s2 q2 => ?_
      refine ⟨v2, _, rfl, ?_⟩
      exact gAttr_of (D := D) hK inj hd (oe := ea) (k := fun S5 => .ok (.nx, ρ) S5) s2 (r3.ext e2 s1.sr) q2 fun m3 S3 H3 e3 s3 q3 => ⟨rfl, okS s3 q3⟩
    · exact (show False from q1).elim
  | _ => exact (show False from q1).elim
/-! ### o[i] = e, o[i] += e -/
theorem sub_plain {o i : Expr} {pos : Pos} {env : Env} (h : ∀ lo hi p, i ≠ .Slice lo hi none p) : ∀ v, assign (.Subscript o i pos) env v = (do
    let ov ← holding [v] (eval o env)
    let iv ← holding [v, ov] (eval i env)
    standAt pos
    holding [v, ov, iv] (setItem ov iv v)
    release [v, ov, iv] []) := fun v => by
  cases i <;> try rfl
  rename_i lo hi st p
  cases st with
  | none => exact absurd rfl (h _ _ _)
  | some s => rfl
theorem aug_plain {i : Expr} (h : ∀ lo hi p, i ≠ .Slice lo hi none p) : ∀ ov iv new, augStore i ov iv new = (do holding [new, ov, iv] (setItem ov iv new); release [new, ov, iv] []; pure .next) := fun ov iv new => by
  cases i <;> try rfl
  rename_i lo hi st p
  cases st with
  | none => exact absurd rfl (h _ _ _)
  | some s => rfl
/-- the store of an item, by values -/
def sItem (g : G) : TSet := fun o i v H Q => ∃ m S a k d, SR g m S H ∧ Rep g.K m H a o ∧ Rep g.K m H k i ∧ Rep g.K m H d v ∧ ∃ S', opSetItem a k d S = some S' ∧ ∀ H', Ext m H m H' → SR g m S' H' → Q H'
theorem ps_itemD {o i : Expr} {oe ie : Ev → Store → Res D} {p : Pos} (ho : PE X o (tD g E oe)) (hi : PE X i (tD g E ie)) (he : PE X e (tD g E ea)) (hp : ∀ lo hi p, i ≠ .Slice lo hi none p) :
    PS X (.Assign [.Subscript o i p] e pos) (tDS g E fun ρ S => (ea ρ S).bind fun x S1 => (oe ρ S1).bind fun o S2 => (ie ρ S2).bind fun k S3 => (match opSetItem o k x S3 with
    | some S4 => .ok (.nx, ρ) S4
    | none => .bad)) := by
  refine PS.weak (ps_asg he (pg_sub ho hi (sv_item (g := g)) (sub_plain hp)) (swapsS (fun _ _ h => by cases h)) (by rfl) rfl) fun D σ H h => ?_
  obtain ⟨m, ρ, S, sr, er, h⟩ := h
  refine seqDS (fa := ea) ⟨sr, er⟩ h fun m1 S1 H1 v d e1 s1 r1 h1 => ?_
  refine seqDS (fa := oe) s1 h1 fun m2 S2 H2 w d2 e2 s2 r2 h2 => ?_
  refine seqDS (fa := ie) s2 h2 fun m3 S3 H3 u d3 e3 s3 r3 h3 => ?_
  cases e4 : opSetItem d2 d3 d S3 with
  | none => simp only [e4] at h3; exact (show False from h3).elim
  | some S4 =>
    simp only [e4] at h3
    exact ⟨m3, S3, d2, d3, d, s3.sr, r2.ext e3 s2.sr, r3, (r1.ext e2 s1.sr).ext e3 s2.sr, S4, e4, fun H' x1 x2 => okS (s3.ext x1 x2) (ResOkS.ext x1 h3)⟩
theorem get_list : PGet X (fun o i H Q => ∃ p xs k z, o = .ref p ∧ i = .int k ∧ SqL X.K H p xs ∧ atI xs k = some z ∧ Q z H) := by
  intro pins s σ H o i ov iv Q I ro ri h
  obtain ⟨p, xs, i, z, rfl, rfl, hq, he, q⟩ := h
  cases ro
  obtain ⟨t, rfl⟩ := ri
  obtain ⟨its, r, pl, hz⟩ := I.list hq
  obtain ⟨j, h1, h2, h3, h4, h5⟩ := atI_get he
  obtain ⟨w, ew, rw'⟩ := r.get h2
  have hl := r.length
  have hn := line63
  have fin : EP X pins σ Q w s := ⟨z, H, I, rw', q⟩
  by_cases h0 : 0 ≤ i
  · have hj : i.toNat = j := by
      rw [seqIndex_of h0 h5] at h1
      exact Option.some.inj h1
    exact wpAny_getItem_list pl.isList h0 (by omega) (by rw [hj]; simpa using ew) fin
  · have hj : (i + (its.toArray.size : Int)).toNat = j := by
      rw [seqIndex_neg (by omega) h4] at h1
      rw [List.size_toArray, ← hl]
      exact Option.some.inj h1
    exact wpAny_getItem_list_neg pl.isList (by omega) (by rw [List.size_toArray] <;> omega) (by omega) (by rw [hj]; simpa using ew) fin
theorem ps_augItemD {o i : Expr} {oe ie : Ev → Store → Res D} {p : Pos} (ho : PE X o (tD g E oe)) (hi : PE X i (tD g E ie)) (he : PE X e (tD g E ea)) (hp : ∀ lo hi p, i ≠ .Slice lo hi none p) :
    PS X (.AugAssign (.Subscript o i p) .Add e pos) (tDS g E fun ρ S => (oe ρ S).bind fun o S1 => (ie ρ S1).bind fun k S2 => (opIdxL o k S2).bind fun x S3 => (match x with
    | .int p => (ea ρ S3).bind fun y S4 => (match y with
      | .int q => (match opSetItem o k (.int (p + q)) S4 with
        | some S5 => .ok (.nx, ρ) S5
        | none => .bad)
      | _ => .bad)
    | _ => .bad)) := by
  refine PS.weak (ps_augS ho hi get_list he ip_add (sv_item (g := g)) (aug_plain hp)) fun D σ H h => ?_
  obtain ⟨m, ρ, S, sr, er, h⟩ := h
  refine seqDS (fa := oe) ⟨sr, er⟩ h fun m1 S1 H1 v d e1 s1 r1 h1 => ?_
  refine seqDS (fa := ie) s1 h1 fun m2 S2 H2 u d2 e2 s2 r2 h2 => ?_
  cases d with
  | ref j =>
    cases d2 with
    | int k =>
      obtain rfl := rep_int r2
      simp only [opIdxL, opIdx] at h2
      cases o1 : S2[j]? with
      | none => rw [o1] at h2; exact (show False from h2).elim
      | some ob =>
        rw [o1] at h2
        cases ob with
        | ins C fs => exact (show False from h2).elim
        | lst l =>
          simp only at h2
          obtain ⟨q, vs, rfl, hq, hp, rp⟩ := ref_lst s2.sr (r1.ext e2 s1.sr) o1
          cases o2 : atI l k with
          | none => rw [o2] at h2; exact (show False from h2).elim
          | some dd =>
            rw [o2] at h2
            obtain ⟨w, w1, w2⟩ := reps_atI rp o2
            refine ⟨q, vs, k, w, rfl, rfl, SqL.of hp, w1, ?_⟩
            cases dd with
            | int c0 =>
              obtain rfl := rep_int w2
              simp only [Res.bind] at h2
              refine seqDS (fa := ea) (k := fun y S4 => (match y with
                | .int q => (match opSetItem (.ref j) (.int k) (.int (c0 + q)) S4 with
                  | some S5 => .ok (.nx, ρ) S5
                  | none => .bad)
                | _ => .bad)) s2 h2 fun m3 S3 H3 y d3 e3 s3 r3 h3 => ?_
              cases d3 with
              | int c1 =>
                obtain rfl := rep_int r3
                simp only at h3
                refine ⟨c0, c1, rfl, rfl, ?_⟩
                cases e4 : opSetItem (.ref j) (.int k) (.int (c0 + c1)) S3 with
                | none => simp only [e4] at h3; exact (show False from h3).elim
                | some S4 =>
                  simp only [e4] at h3
                  exact ⟨m3, S3, .ref j, .int k, .int (c0 + c1), s3.sr, (r1.ext e2 s1.sr).ext e3 s2.sr, mk_int _, mk_int _, S4, e4, fun H' x1 x2 => okS (s3.ext x1 x2) (ResOkS.ext x1 h3)⟩
              | _ => exact (show False from h3).elim
            | _ => exact (show False from h2).elim
    | _ => exact (show False from h2).elim
  | _ => exact (show False from h2).elim
/-! ### o.f += e -/
theorem ps_augAttrD {dat : Nat → Nat → Bool} (hK : X.K = g.K) (inj : Inj g) (hd : DatOk X g dat) {o : Expr} {f : Nat} {p : Pos} {oe : Ev → Store → Res D} (ho : PE X o (tD g E oe)) (he : PE X e (tD g E ea)) :
    PS X (.AugAssign (.Attribute o (g.n.at_ f) p) .Add e pos) (tDS g E fun ρ S => (oe ρ S).bind fun o S1 => (opAttr dat o f S1).bind fun x S2 => (match x with
    | .int p => (ea ρ S2).bind fun y S3 => (match y with
      | .int q => (match decide (clsAt o S1 = clsAt o S3), opSetAttr dat o f (.int (p + q)) S3 with
        | true, some S4 => .ok (.nx, ρ) S4
        | _, _ => .bad)
      | _ => .bad)
    | _ => .bad)) := by
  refine PS.weak (ps_fldaug ho he in_add) fun D σ H h => ?_
  obtain ⟨m, ρ, S, sr, er, h⟩ := h
  refine seqDS (fa := oe) ⟨sr, er⟩ h fun m1 S1 H1 v d e1 s1 r1 h1 => ?_
  have h1' : ResOkS g E m1 H1 ((opAttr dat d f S1).bind fun x S2 => (match x with
    | .int p => (ea ρ S2).bind fun y S3 => (match y with
      | .int q => (match decide (clsAt d S1 = clsAt d S3), opSetAttr dat d f (.int (p + q)) S3 with
        | true, some S4 => .ok (.nx, ρ) S4
        | _, _ => .bad)
      | _ => .bad)
    | _ => .bad)) D := h1
  cases d with
  | ref i =>
    cases o1 : S1[i]? with
    | none => simp only [opAttr, o1] at h1; exact (show False from h1).elim
    | some o =>
      cases o with
      | lst l => simp only [opAttr, o1] at h1; exact (show False from h1).elim
      | ins C fs =>
        cases l1 : dat C f with
        | false => simp only [opAttr, o1, l1] at h1; exact (show False from h1).elim
        | true =>
          cases l2 : fs.lookup f with
          | none => simp only [opAttr, o1, l1, l2] at h1; exact (show False from h1).elim
          | some w =>
            simp only [opAttr, o1, l1, l2, Res.bind] at h1
            obtain ⟨a, dx, fv, rfl, h6, h7, h8⟩ := ref_ins s1.sr r1 o1
            obtain ⟨c1, c2⟩ := hd C f l1
            obtain ⟨y, h9, h10⟩ := frep_some inj h8 l2
            cases w with
            | int c0 =>
              obtain rfl := rep_int h10
              refine ⟨a, _, dx, fv, _, rfl, by rw [hK]; exact h7, c1, c2, h9, ?_⟩
              refine seqDS (fa := ea) (k := fun y S3 => (match y with
                | .int q => (match decide (clsAt (.ref i) S1 = clsAt (.ref i) S3), opSetAttr dat (.ref i) f (.int (c0 + q)) S3 with
                  | true, some S4 => .ok (.nx, ρ) S4
                  | _, _ => .bad)
                | _ => .bad)) s1 h1 fun m3 S3 H3 y d3 e3 s3 r3 h3 => ?_
              cases d3 with
              | int c1' =>
                obtain rfl := rep_int r3
                simp only at h3
                refine ⟨c0, c1', rfl, rfl, ?_⟩
                cases q1 : decide (clsAt (.ref i) S1 = clsAt (.ref i) S3) with
                | false => rw [q1] at h3; exact (show False from h3).elim
                | true =>
                  rw [q1] at h3
                  cases q2 : opSetAttr dat (.ref i) f (.int (c0 + c1')) S3 with
                  | none => rw [q2] at h3; exact (show False from h3).elim
                  | some S4 =>
                    rw [q2] at h3
                    obtain ⟨i', C', fs', e5, h2', h3', h4', rfl⟩ := set_inv q2
                    cases e5
                    have hcl : C' = C := by
                      have := of_decide_eq_true q1
                      simp only [clsAt, o1, h2'] at this
                      exact (Option.some.inj this).symm
                    subst hcl
                    obtain ⟨a', dx', fv', ea', h6', h7', h8'⟩ := ref_ins s3.sr (r1.ext e3 s1.sr) h2'
                    cases ea'
                    obtain ⟨x1, x2⟩ := okPut (C := C') (dx := dx') s3.sr h6' (frep_put inj (mk_int (c0 + c1')) h8')
                    refine ⟨dx', fv', by rw [hK]; exact h7', by rw [frep_len h8']; exact h4', ?_⟩
                    rw [hK]
                    exact okS (s3.ext x1 x2) (ResOkS.ext x1 h3)
              | _ => exact (show False from h3).elim
            | _ => exact (show False from h1).elim
  | _ => exact (show False from h1).elim
end
end K76
set_option Elab.async false
set_option linter.all false
set_option maxRecDepth 100000
set_option autoImplicit false
set_option maxHeartbeats 4000000
/-! K5r: raise -/
namespace K76
open PySem PySem.Spec PyProof.Rows L2
def spInit (K : PySem.W.Frag) (n : Nm) (isE : Nat → Bool) : Sp := fun vs H Q _ => ∃ (a : Addr) (c : Nat) (y : V), vs = [.ref a, y] ∧ isE c = true ∧ H a = some (exo a (He.ga K (n.cls c)) none) ∧
  ∀ dx, H dx = none → dx ≠ a → Q .non (upd (upd H dx (exd dx [("what", y)])) a (exo a (He.ga K (n.cls c)) (some dx)))
def Raisable (X : Cx) (g : G) (ct : Ct) (L : Nat) : Prop := ∀ c, ct.isE c = true → X.mg (g.n.cls c) = some (.ref (He.ga X.K (g.n.cls c))) ∧ OexC X.K (He.ga X.K (g.n.cls c)) ∧ ∃ (fI : Addr) (fd : FuncData) (ps : List Str),
  PySem.W.findIn X.K (.ref (He.ga X.K (g.n.cls c))) "__init__" = some (some (.ref fI)) ∧ PySem.W.typeIn X.K (.ref fI) = some (.type "function") ∧ FnOk X.prog X.w X.K X.mg X.base (L2.CX X.prog X.w) L fI fd ps (spInit X.K g.n ct.isE) ∧ Binds X.K fd ps []
section
variable {X : Cx} {g : G} {E : XK} {ct : Ct} {L : Nat} {e : Expr} {ea : Ev → Store → Res D}
theorem passes0 : Passes (L2.CX X.prog X.w) X (fun _ _ _ => False) := fun _ _ _ _ _ _ _ h => by
  obtain ⟨_, _, _, _, _, _, _, _, _, _, _, _, z⟩ := h
  exact z.elim
theorem ps_raiseD (hK : X.K = g.K) (hc : X.calm = true) (tk : Takes X (fun cls d _ H => E cls d H)) (R : Raisable X g ct L) (hr : Room (L + 1) X.A) {c : Nat} {p pos pos2 : Pos} (hE : ct.isE c = true) (hg : Gl X (g.n.cls c)) (hd : ((g.n.cls c) == ("__debug__" : Str)) = false)
    (he : PE X e (tD g E ea)) (hs : nst e = true) : PS X (.Raise (some (.Call (.Name (g.n.cls c) p) [e] [] pos)) none pos2) (tDS g E fun ρ S => (ea ρ S).bind fun x S1 => .exc c x S1) := by
  obtain ⟨r1, r2, fI, fd, ps, r3, r4, r5, r6⟩ := R c hE
  refine PS.weak (ps_raise hc tk (pmk_oex (dvs := []) r2 r3 r4 r5 hr r6 .nil passes0 hg r1 (pa_cons he pa_nil (starEach_nst hs)) hd (starEach_nst hs))) fun D σ H h => ?_
  obtain ⟨m, ρ, S, sr, er, h⟩ := h
  refine seqDS (fa := ea) ⟨sr, er⟩ h fun m1 S1 H1 v d e1 s1 q1 h1 => ⟨by simp, fun a ha => ?_⟩
  refine ⟨a, c, v, rfl, hE, upd_same, fun dx hdx ne => ⟨rfl, dx, _, upd_same, by rw [upd_ne ne]; exact upd_same, by rw [upd_ne ne] at hdx; exact hdx, ?_⟩⟩
  have hdx1 : H1 dx = none := by rw [upd_ne ne] at hdx; exact hdx
  have eH : upd (del (upd (upd (upd H1 a (exo a (He.ga X.K (g.n.cls c)) none)) dx (exd dx [("what", v)])) a (exo a (He.ga X.K (g.n.cls c)) (some dx))) a) dx (.xd [("what", v)]) = upd H1 dx (.xd [("what", v)]) := by
    funext b
    by_cases hb : b = dx
    · rw [hb, upd_same, upd_same]
    · rw [upd_ne hb, upd_ne hb]
      by_cases hb2 : b = a
      · rw [hb2, del_same, ha]
      · rw [del_ne hb2, upd_ne hb2, upd_ne hb, upd_ne hb2]
  show E (.ref (He.ga X.K (g.n.cls c))) (some dx) _
  rw [eH, hK]
  have x1 : Ext m1 H1 m1 (upd H1 dx (.xd [("what", v)])) := Ext.new hdx1
  exact h1 m1 _ dx v x1 (s1.sr.new hdx1) upd_same (q1.ext x1 s1.sr)
end
end K76
set_option Elab.async false
set_option linter.all false
set_option maxRecDepth 100000
set_option autoImplicit false
set_option maxHeartbeats 4000000
/-! K5t: tuples of names: made, asked for an index -/
namespace K76
open PySem PySem.Spec PyProof.Rows L2
section
variable {X : Cx} {g : G} {E : XK} {e a b : Expr} {pos p2 : Pos} {ea eb : Ev → Store → Res D}
theorem call_tupX : CallR X (.type "tuple") (fun xs H Q => ∃ p ys, xs = [.ref p] ∧ SqL X.K H p ys ∧ ∀ l o, H l = none → o.dict = none → Q (.ref l) (upd H l (.frz o (.tup ys)))) := by
  intro pins s σ H xs us Q I r h
  obtain ⟨p, ys, rfl, hq, q⟩ := h
  obtain ⟨u, rfl, rx⟩ := vals1 r
  cases rx
  obtain ⟨its, r', pl, hz⟩ := I.list hq
  have hlen := r'.length
  refine call_tuple_list pl.isList (fun h' kp => ?_) (by simp only [List.size_toArray] <;> omega)
  have I1 : Inv X pins σ H { s with heap := h' } := I.kept (t' := s.toks) kp
  have I2 : Inv X pins σ (upd H h'.objs.size (.frz { cls := .type "tuple", data := .seq its.toArray } (.tup ys))) { s with heap := h'.push { cls := .type "tuple", data := .seq its.toArray } } :=
    I1.laid (t' := s.toks) (fun b o e => Heap.get?_push_of_some _ e) (Nat.le_refl _) (show ObjOk X.prog X.w _ _ _ (.frz _ (.tup ys)) from ⟨Heap.get?_push_size _ rfl, hz, its, r', IsTup.new _ _⟩)
  exact ⟨.ref h'.objs.size, _, I2, rfl, q _ _ (I1.hok.fresh (Nat.le_refl _)) rfl⟩
theorem rep_tupx {m : List Addr} {H : Hp} {l : List Str} {v : V} (r : Rep g.K m H (.tupx l) v) : ∃ (p : Addr) (o : Obj), v = .ref p ∧ H p = some (.frz o (.tup (l.map V.str))) ∧ o.dict = none := by
  unfold Rep at r
  exact r
theorem pe_lfTupX {f : Ev → Store → Res (List D)} (hg : Gl X "tuple") (hm : X.mg "tuple" = none) (he : PE X e (tL g E f)) (hs : nst e = true) : PE X (.Call (.Name "tuple" p2) [e] [] pos) (tD g E fun ρ S => (f ρ S).bind fun xs S5 => opLF .tupleX xs S5) :=
  PE.weak (pe_callTy call_tupX hg hm rfl (pa_cons he pa_nil (starEach_nst hs)) (by decide) (by decide) (starEach_nst hs)) fun σ H Q h =>
    lfL h fun m S H p xs vs sr hp hn r q => by
      simp only [opLF] at q
      cases e1 : allStrs xs with
      | none => rw [e1] at q; exact (show False from q).elim
      | some ys =>
        rw [e1] at q
        refine ⟨p, vs, rfl, SqL.of hp, fun t o ht ho => ?_⟩
        have x1 : Ext m H m (upd H t (.frz o (.tup vs))) := Ext.new ht
        refine q m _ _ x1 (sr.new ht) ?_
        unfold Rep
        exact ⟨t, o, rfl, by rw [upd_same, reps_strs r e1], ho⟩
theorem findS_ok {z : Str} : ∀ {ys : List Str} {k j : Nat}, findS z ys k = some j → ∃ i, j = k + i ∧ ys[i]? = some z ∧ ∀ m, m < i → ys[m]? ≠ some z
  | [], _, _, h => by simp [findS] at h
  | y :: r, k, j, h => by
    simp only [findS] at h
    split at h
    · rename_i e
      refine ⟨0, by simpa using (Option.some.inj h).symm, by simp [e], fun m hm => absurd hm (Nat.not_lt_zero _)⟩
    · rename_i e
      obtain ⟨i, h1, h2, h3⟩ := findS_ok h
      refine ⟨i + 1, by omega, by simpa using h2, fun m hm => ?_⟩
      cases m with
      | zero =>
        intro q
        exact e (by simpa using q)
      | succ m =>
        intro q
        exact h3 m (by omega) (by simpa using q)
def ixD (ea eb : Ev → Store → Res D) : Ev → Store → Res D := fun ρ S => (ea ρ S).bind fun y S1 => (match y with
    | .tupx l => (eb ρ S1).bind fun z S2 => opIndex (.tupx l) z S2
    | _ => .bad)
theorem pe_indexD (hK : X.K = g.K) {apos : Pos} (ha : PE X a (tD g E ea)) (hb : PE X b (tD g E eb)) (h1 : noSup a = true) (h2 : nst b = true) (h3 : (apos.endLine == pos.line) = true) :
    PE X (.Call (.Attribute a "index" apos) [b] [] pos) (tD g E (ixD ea eb)) := by
  have hf : fewB [b] = true := by
    unfold fewB
    simp [h2]
  refine ⟨fun pins s σ H Q I h => ?_⟩
  obtain ⟨m, ρ, S, sr, er, h⟩ := h
  have hA : tD g E ea σ H fun x H1 => ∃ p o l, x = .ref p ∧ H1 p = some (.frz o (.tup (List.map V.str l))) ∧ o.dict = none ∧ tCons (tD g E eb) tNil σ H1 fun xs H2 => ∃ z j, xs = [.str z] ∧ H2 p = some (.frz o (.tup (List.map V.str l))) ∧ l[j]? = some z ∧ (∀ m, m < j → l[m]? ≠ some z) ∧ Q (.int (j : Nat)) H2 := by
    refine seqD (fa := ea) ⟨sr, er⟩ h fun m1 S1 H1 v d e1 s1 r1 q1 => ?_
    cases d with
    | tupx l =>
      obtain ⟨p, o, rfl, hp, ho⟩ := rep_tupx r1
      refine ⟨p, o, l, rfl, hp, ho, ?_⟩
      refine seqD (fa := eb) s1 q1 fun m2 S2 H2 w d2 e2 s2 r2 q2 => ?_
      cases d2 with
      | str z =>
        obtain rfl := rep_str r2
        simp only [opIndex] at q2
        cases e3 : findS z l 0 with
        | none => rw [e3] at q2; exact (show False from q2).elim
        | some j =>
          rw [e3] at q2
          obtain ⟨i, f1, f2, f3⟩ := findS_ok e3
          have f4 : j = i := by omega
          subst f4
          refine ⟨z, j, rfl, (e2.kpt s1.sr).frz _ _ _ hp, f2, f3, okVal s2.sr (mk_int _) q2⟩
      | _ => exact (show False from q2).elim
    | _ => exact (show False from q1).elim
  refine wpAny_Call_method_late (attrBase h1) (few_ok hf) h3 rfl (thn (ha.run pins s σ H _ I hA) fun v s1 ⟨x, H1, I1, r1, p, o, l, ex, hp, ho, q1⟩ => ?_)
  subst ex
  cases r1
  obtain ⟨ho1, _, its, rv, hT⟩ := I1.hok p _ hp
  refine ⟨"tuple", _, PySem.F.plainAttrs_tuple, PySem.F.slot_tuple_index, PySem.F.type_tuple_index, hT.typeIs, fun a ea => ?_, ?_⟩
  · cases ea
    exact ⟨o, ho1, ho⟩
  · have hA2 := (pa_cons (X := X) hb pa_nil (starEach_nst h2)).run pos pins s1 σ H1 _ I1 q1
    rw [starEach_nst h2] at hA2 ⊢
    refine Calls.callWith_builtin (by rfl) (Calls.evalArgs_plain ?_)
    exact thn hA2 fun us s2 ⟨vs, H2, I2, r2, z, j, ev, hp2, f2, f3, q2⟩ => mt_tup_index pins s2 σ H2 (.ref p) vs (.ref p) us Q I2 rfl r2 ⟨p, l, z, j, rfl, ev, .inl (.inr ⟨o, hp2⟩), f2, f3, q2⟩
end
end K76
set_option Elab.async false
set_option linter.all false
set_option maxRecDepth 100000
set_option autoImplicit false
set_option maxHeartbeats 4000000
/-! K6a: the check of the little language's texts against the program's -/
namespace K76
open PySem PySem.Spec PyProof.Rows L2
def noSl : Expr → Bool
  | .Slice _ _ _ _ => false
  | _ => true
def noSt : Expr → Bool
  | .Set _ _ _ => false
  | _ => true
def okF (e : Expr) : Bool := nst e && (noSl e && noSt e)
def gB (sc : Scope) (x : Str) : Bool := decide (sc.names.lookup x = some .globalImplicit) && !(x == ("__debug__" : Str))
def visB (sc : Scope) (x : Str) : Bool := (match sc.names.lookup x with
  | some .local => true
  | some .cell => true
  | some .free => true
  | _ => false) && (!(x == ("__debug__" : Str)) && !(x == ("__classdict__" : Str)))
def noArgs (p : Arguments) : Bool := match p with
  | ⟨[], [], none, [], [], none, []⟩ => true
  | _ => false
def lfN : LF → Str
  | .tuple => "tuple"
  | .all => "all"
  | .any => "any"
  | .sum => "sum"
  | _ => "tuple"
def lfC : LF → Bool
  | .eqNil => false
  | .neNil => false
  | _ => true
def subB (a b : List Nat) : Bool := a.all fun i => b.contains i
/-- the name of the def that hears; whether the block may make lambdas -/
structure Hn where
  nm : Str
  ok : Bool
def Hn.off (h : Hn) : Hn := ⟨h.nm, false⟩
section
variable (n : Nm) (tb : Tb) (ct : Ct) (N : List Str)
mutual
def chkE (hn : Hn) (sc : Scope) : CE → Expr → Bool
  | .var i, e => okF e && (match e with
    | .Name x _ => decide (N[i]? = some x) && visB sc x
    | _ => false)
  | .int i, e => okF e && (match e with
    | .Constant (.int j) _ _ => decide (i = j)
    | _ => false)
  | .str w, e => okF e && (match e with
    | .Constant (.str x) _ _ => decide (tb.w w = x)
    | _ => false)
  | .bl b, e => okF e && (match e with
    | .Constant (.bool c) _ _ => b == c
    | _ => false)
  | .non, e => okF e && (match e with
    | .Constant .none _ _ => true
    | _ => false)
  | .glob k, e => okF e && (match e with
    | .Name x _ => decide (ct.gnm k = some x) && gB sc x
    | _ => false)
  | .bin op a b, e => okF e && (match e with
    | .BinOp l o r _ => decide (opOf op = o) && (chkE hn sc a l && chkE hn sc b r)
    | _ => false)
  | .neg a, e => okF e && (match e with
    | .UnaryOp .USub x _ => chkE hn sc a x
    | _ => false)
  | .cmp op a b, e => okF e && (match e with
    | .Compare l [o] [r] _ => decide (copOf op = o) && (!behindInMarks o r && (chkE hn sc a l && chkE hn sc b r))
    | _ => false)
  | .chain o1 o2 a b c, e => okF e && (match e with
    | .Compare l [p1, p2] [r, q] _ => decide (copOf o1 = p1) && (decide (copOf o2 = p2) && (!lastMarks [p1, p2] [r, q] && (chkE hn sc a l && (chkE hn sc b r && chkE hn sc c q))))
    | _ => false)
  | .eqNil ne a, e => okF e && (match e with
    | .Compare l [o] [.List [] _] _ => decide ((if ne then CmpOp.NotEq else CmpOp.Eq) = o) && chkE hn sc a l
    | _ => false)
  | .and l, e => okF e && (match e with
    | .BoolOp .And (x :: es) _ => chkEs hn sc l (x :: es)
    | _ => false)
  | .or l, e => okF e && (match e with
    | .BoolOp .Or (x :: es) _ => chkEs hn sc l (x :: es)
    | _ => false)
  | .not a, e => okF e && (match e with
    | .UnaryOp .Not x _ => chkE hn sc a x
    | _ => false)
  | .ite c a b, e => okF e && (match e with
    | .IfExp x y z _ => chkE hn sc c x && (chkE hn sc a y && chkE hn sc b z)
    | _ => false)
  | .tup l, e => okF e && (match e with
    | .Tuple es _ _ => chkEs hn sc l es
    | _ => false)
  | .lst l, e => okF e && (match e with
    | .List es _ => chkEs hn sc l es
    | _ => false)
  | .idx a i, e => okF e && (match e with
    | .Subscript l r _ => chkE hn sc a l && chkE hn sc i r
    | _ => false)
  | .slc a lo hi, e => okF e && (match e with
    | .Subscript l (.Slice x y none _) _ => chkE hn sc a l && (chkO hn sc lo x && chkO hn sc hi y)
    | _ => false)
  | .attr a f, e => okF e && (match e with
    | .Attribute l x _ => decide (n.at_ f = x) && (noSup l && chkE hn sc a l)
    | _ => false)
  | .call k l, e => okF e && (match e with
    | .Call (.Name x _) es [] _ => decide (ct.fn k = (x, none)) && (decide (k < ct.nf) && (gB sc x && chkEs hn sc l es))
    | _ => false)
  | .make c l, e => okF e && (match e with
    | .Call (.Name x _) es [] _ => decide (n.cls c = x) && (ct.isC c && (gB sc x && chkEs hn sc l es))
    | _ => false)
  | .meth a f l, e => okF e && (match e with
    | .Call (.Attribute o x apos) es [] pos => decide (n.at_ f = x) && (noSup o && (fewB es && ((apos.endLine == pos.line) && (chkE hn sc a o && chkEs hn sc l es))))
    | _ => false)
  | .bi b l, e => okF e && (match e with
    | .Call (.Name x _) es [] _ => gB sc x && (match biIs b with
      | true => (match es with
        | [y, .Name t _] => decide (x = "isinstance") && (decide (t = isT b) && (gB sc t && chkEs hn sc l [y]))
        | _ => false)
      | false => decide (biN b = x) && (match es with
        | y :: ys => chkEs hn sc l (y :: ys)
        | [] => false))
    | _ => false)
  | .app a y, e => okF e && (match e with
    | .Call (.Attribute o x apos) [z] [] pos => decide (x = "append") && (noSup o && ((apos.endLine == pos.line) && (chkE hn sc a o && chkE hn sc y z)))
    | _ => false)
  | .ext a y, e => okF e && (match e with
    | .Call (.Attribute o x apos) [z] [] pos => decide (x = "extend") && (noSup o && ((apos.endLine == pos.line) && (chkE hn sc a o && chkE hn sc y z)))
    | _ => false)
  | .pop a y, e => okF e && (match e with
    | .Call (.Attribute o x apos) [z] [] pos => decide (x = "pop") && (noSup o && ((apos.endLine == pos.line) && (chkE hn sc a o && chkE hn sc y z)))
    | _ => false)
  | .index a y, e => okF e && (match e with
    | .Call (.Attribute o x apos) [z] [] pos => decide (x = "index") && (noSup o && ((apos.endLine == pos.line) && (chkE hn sc a o && chkE hn sc y z)))
    | _ => false)
  | .lc elt t it cond own, e => okF e && (match e with
    | .ListComp x [⟨tg, iter, ifs, 0⟩] scope _ => chkI hn sc it tg iter && (blkC N sc scope (ownP N own) && (chkT N false (relS scope sc) t tg && (subB t.ns own && (noSt iter && (chkC hn.off (relS scope sc) cond ifs && chkE hn.off (relS scope sc) elt x)))))
    | _ => false)
  | .lcf k elt t it cond own, e => okF e && (match lfC k, e with
    | true, .Call (.Name nm _) [.ListComp x [⟨tg, iter, ifs, 0⟩] scope _] [] _ => decide (nm = lfN k) && (gB sc nm && (chkI hn sc it tg iter && (blkC N sc scope (ownP N own) && (chkT N false (relS scope sc) t tg && (subB t.ns own && (noSt iter && (chkC hn.off (relS scope sc) cond ifs && chkE hn.off (relS scope sc) elt x)))))))
    | false, .Compare (.ListComp x [⟨tg, iter, ifs, 0⟩] scope _) [o] [.List [] _] _ => decide ((match k with | .neNil => CmpOp.NotEq | _ => CmpOp.Eq) = o) && (chkI hn sc it tg iter && (blkC N sc scope (ownP N own) && (chkT N false (relS scope sc) t tg && (subB t.ns own && (noSt iter && (chkC hn.off (relS scope sc) cond ifs && chkE hn.off (relS scope sc) elt x))))))
    | _, _ => false)
  | .heard a, e => okF e && (match e with
    | .Call (.Name nm _) [.Lambda params body scope _] [] _ => hn.ok && (decide (nm = hn.nm) && (gB sc nm && (noArgs params && (LamX.lamSB sc scope && chkE hn.off scope a body))))
    | _ => false)
def chkEs (hn : Hn) (sc : Scope) : CEs → List Expr → Bool
  | .nil, es => (match es with
    | [] => true
    | _ => false)
  | .cons c r, es => (match es with
    | e :: es => chkE hn sc c e && chkEs hn sc r es
    | [] => false)
def chkO (hn : Hn) (sc : Scope) : CO → Option Expr → Bool
  | .no, e => (match e with
    | none => true
    | some _ => false)
  | .yes c, e => (match e with
    | some e => chkE hn sc c e
    | none => false)
def chkC (hn : Hn) (sc : Scope) : CO → List Expr → Bool
  | .no, es => (match es with
    | [] => true
    | _ => false)
  | .yes c, es => (match es with
    | [e] => chkE hn sc c e
    | _ => false)
def chkI (hn : Hn) (sc : Scope) : CI → Expr → Expr → Bool
  | .of c, _, e => chkE hn sc c e
  | .range c, _, e => (match e with
    | .Call (.Name x _) [a] [] _ => decide (x = "range") && (gB sc x && chkE hn sc c a)
    | _ => false)
  | .enum c, tg, e => (match tg, e with
    | .Tuple _ _ _, .Call (.Name x _) [a] [] _ => decide (x = "enumerate") && (gB sc x && chkE hn sc c a)
    | _, _ => false)
  | .zip2 c d, tg, e => (match tg, e with
    | .Tuple _ _ _, .Call (.Name x _) [a, b] [] _ => decide (x = "zip") && (gB sc x && (chkE hn sc c a && chkE hn sc d b))
    | _, _ => false)
  | .zip3 c d f, tg, e => (match tg, e with
    | .Tuple _ _ _, .Call (.Name x _) [a, b, z] [] _ => decide (x = "zip") && (gB sc x && (chkE hn sc c a && (chkE hn sc d b && chkE hn sc f z)))
    | _, _ => false)
  | .enumZip c d, tg, e => (match tg, e with
    | .Tuple _ _ _, .Call (.Name y _) [.Call (.Name x _) [a, b] [] _] [] _ => decide (y = "enumerate") && (gB sc y && (decide (x = "zip") && (gB sc x && (chkE hn sc c a && chkE hn sc d b))))
    | _, _ => false)
end
end
end K76
set_option Elab.async false
set_option linter.all false
set_option maxRecDepth 100000
set_option autoImplicit false
set_option maxHeartbeats 4000000
/-! K6b: what is checked is so: expressions -/
namespace K76
open PySem PySem.Spec PyProof.Rows L2
/-- what is known of a context -/
structure Good (X : Cx) (g : G) (tb : Tb) (ct : Ct) (call : Nat → List D → Store → Res D) (L : Nat) (N : List Str) (E : XK) (fl : Bool) (hn : Hn) (sc : Scope) : Prop where
  hK : X.K = g.K
  hN : X.N = N
  nd : N.Nodup
  calm : X.calm = true
  hsc : X.env.scope = sc
  kind : sc.kind = .function
  hfl : fl = true → ∀ x, X.fn x = true
  sta : Sta X.K X.mg g.n tb ct
  fns : Fns X g ct call L
  room : Room (L + 1) X.A
  pass : Passes (L2.CX X.prog X.w) X E
  heard : hn.ok = true → ∀ (params : Arguments) (body : Expr) (scope : Scope) (p lpos pos : Pos) (f : Ev → Store → Res D), noArgs params = true → LamX.lamSB sc scope = true → gB sc hn.nm = true →
    (∀ (A : Around) (outer : List Env) (s : Shared) (H : Hp) (E : XK) (fa c' : Addr), Room (L + 1) (A.deeper (LamX.lamEnv X scope s.heap.objs.size fa c')) → PE (LamX.lamCx X A outer s H E scope fa c') body (tD g E f)) →
    PE X (.Call (.Name hn.nm p) [.Lambda params body scope lpos] [] pos) (tD g E fun ρ S => heardD tb (f ρ S))
section
variable {g : G} {tb : Tb} {ct : Ct} {call : Nat → List D → Store → Res D} {L : Nat} {N : List Str}
theorem Good.blk {X : Cx} {E : XK} {fl : Bool} {hn : Hn} {sc : Scope} (G : Good X g tb ct call L N E fl hn sc) (s : Shared) (H : Hp) (scope : Scope) (C : Addr) (cl : List (Str × Addr)) (fp : List Addr) (hk : scope.kind = .function) :
    Good (X.blk s H scope (compEnvC scope cl C X.env) fp) g tb ct call L N E0 false hn.off (relS scope sc) where
  hK := G.hK
  hN := G.hN
  nd := G.nd
  calm := G.calm
  hsc := by
    show relabel scope X.env = relS scope sc
    rw [← G.hsc]
    rfl
  kind := hk
  hfl := fun h => absurd h Bool.false_ne_true
  sta := G.sta
  fns := G.fns
  room := G.room
  pass := passes0
  heard := fun h => absurd h Bool.false_ne_true
theorem Good.units {X : Cx} {E : XK} {fl : Bool} {hn : Hn} {sc : Scope} (G : Good X g tb ct call L N E fl hn sc) : X.A.units + 64 < cLine := G.room.units
theorem Good.gl {X : Cx} {E : XK} {fl : Bool} {hn : Hn} {sc : Scope} (G : Good X g tb ct call L N E fl hn sc) {x : Str} (h : gB sc x = true) : Gl X x ∧ (x == ("__debug__" : Str)) = false := by
  unfold gB at h
  rw [Bool.and_eq_true, decide_eq_true_eq, Bool.not_eq_true'] at h
  refine ⟨?_, h.2⟩
  show X.env.scope.names.lookup x = _
  rw [G.hsc]
  exact h.1
theorem Good.vis {X : Cx} {E : XK} {fl : Bool} {hn : Hn} {sc : Scope} (G : Good X g tb ct call L N E fl hn sc) {x : Str} (h : visB sc x = true) : Vis X.env.scope x ∧ (x == ("__debug__" : Str)) = false ∧ (x == ("__classdict__" : Str)) = false := by
  unfold visB at h
  rw [Bool.and_eq_true, Bool.and_eq_true, Bool.not_eq_true', Bool.not_eq_true'] at h
  refine ⟨?_, h.2⟩
  have h1 := h.1
  rw [G.hsc]
  unfold Vis
  split at h1
  · exact .inl (by assumption)
  · exact .inr (.inl (by assumption))
  · exact .inr (.inr (by assumption))
  · cases h1
theorem okF_ok {e : Expr} (h : okF e = true) : nst e = true ∧ (∀ lo hi p, e ≠ .Slice lo hi none p) ∧ noSt e = true := by
  unfold okF at h
  rw [Bool.and_eq_true, Bool.and_eq_true] at h
  refine ⟨h.1, fun lo hi p z => ?_, h.2.2⟩
  rw [z] at h
  exact absurd h.2.1 Bool.false_ne_true
theorem noSet_ok {e : Expr} {env : Env} (h : noSt e = true) : ∀ x, foldedSetIterable e env x = pure x := fun x => by
  cases e <;> first | rfl | exact absurd h Bool.false_ne_true
theorem chkE_okF {n : Nm} {hn : Hn} {sc : Scope} {c : CE} {e : Expr} (h : chkE n tb ct N hn sc c e = true) : okF e = true := by
  cases c <;> exact (Bool.and_eq_true_iff.mp (show (okF e && _) = true from h)).1
theorem chkEs_nst {n : Nm} {hn : Hn} {sc : Scope} : ∀ {c : CEs} {es : List Expr}, chkEs n tb ct N hn sc c es = true → es.all nst = true
  | .nil, es, h => by
    cases es with
    | nil => rfl
    | cons e es => exact absurd h Bool.false_ne_true
  | .cons c r, es, h => by
    cases es with
    | nil => exact absurd h Bool.false_ne_true
    | cons e es =>
      simp only [chkEs, Bool.and_eq_true] at h
      rw [List.all_cons, (okF_ok (chkE_okF h.1)).1, chkEs_nst h.2]
      rfl
theorem chkEs_nil {n : Nm} {hn : Hn} {sc : Scope} {c : CEs} {es : List Expr} (h : chkEs n tb ct N hn sc c es = true) : NilOf es (evs tb call c) := fun e => by
  subst e
  cases c with
  | nil => intro ρ S; rfl
  | cons c r => exact absurd h Bool.false_ne_true
theorem pt_ite {X : Cx} {c a b : Expr} {fc fa fb : Ev → Store → Res D} {E : XK} {pos : Pos} (hc : PT X c (tDB g E fc)) (ha : PT X a (tDB g E fa)) (hb : PT X b (tDB g E fb)) : PT X (.IfExp c a b pos) (tDB g E (iteD fc fa fb)) := by
  refine ⟨fun pins s σ H Q I h => ?_⟩
  obtain ⟨m, ρ, S, sr, er, h⟩ := h
  show wpAny _ _ (isTrue c X.env (eval c X.env) >>= fun t => if t = true then isTrue a X.env (eval a X.env) else isTrue b X.env (eval b X.env)) _ _ _
  refine wpAny_bind (thn (hc.run pins s σ H (fun t H1 => if t = true then tDB g E fa σ H1 Q else tDB g E fb σ H1 Q) I (seqBB (fa := fc) (k := fun t S1 => match t with | true => fa ρ S1 | false => fb ρ S1) ⟨sr, er⟩ h fun m1 S1 H1 t e1 s1 h1 => ?_)) fun t s1 ⟨H1, I1, q⟩ => ?_)
  · cases t with
    | true => rw [if_pos rfl]; exact ⟨m1, ρ, S1, s1.sr, s1.er, h1⟩
    | false => rw [if_neg Bool.false_ne_true]; exact ⟨m1, ρ, S1, s1.sr, s1.er, h1⟩
  · cases t with
    | true =>
      rw [if_pos rfl] at q ⊢
      exact ha.run pins s1 σ H1 Q I1 q
    | false =>
      rw [if_neg Bool.false_ne_true] at q ⊢
      exact hb.run pins s1 σ H1 Q I1 q
theorem blt_of {X : Cx} {E : XK} {fl : Bool} {hn : Hn} {sc : Scope} (G : Good X g tb ct call L N E fl hn sc) : ∀ x : Str, (x = "tuple" ∨ x = "all" ∨ x = "any" ∨ x = "sum" ∨ x = "int" ∨ x = "str" ∨ x = "isinstance" ∨ x = "bool") → X.mg x = none := fun x h => by
  have b := G.sta.blt
  rcases h with rfl | rfl | rfl | rfl | rfl | rfl | rfl | rfl
  · exact b .tuple1
  · exact b .all1
  · exact b .any1
  · exact b .sum1
  · exact b .int1
  · exact b .str1
  · exact b .isInt
  · exact G.sta.tInt
theorem cv_any {X : Cx} {E E' : XK} {fl : Bool} {hn : Hn} {sc : Scope} (G : Good X g tb ct call L N E fl hn sc) {b : BI} (hb : biIs b = false) : CallR X (biV b) (rCV g E' (opBI b)) := by
  cases b <;> first
    | exact absurd hb.symm Bool.false_ne_true
    | exact cv_len G.hK
    | exact cv_abs
    | exact cv_max2 G.calm
    | exact cv_min2 G.calm
    | exact cv_int1
    | exact cv_str1
    | exact cv_tuple1 G.hK
    | exact cv_list1 G.hK
    | exact cv_sum1 G.calm
    | exact cv_all1 G.calm
    | exact cv_any1 G.calm
theorem Good.lam {X : Cx} {E : XK} {fl : Bool} {hn : Hn} {sc : Scope} (G : Good X g tb ct call L N E fl hn sc) {A : Around} {outer : List Env} {s : Shared} {H : Hp} {E' : XK} {scope : Scope} {fa c' : Addr} (hs : LamX.lamSB sc scope = true) (hr : Room (L + 1) (A.deeper (LamX.lamEnv X scope s.heap.objs.size fa c'))) :
    Good (LamX.lamCx X A outer s H E' scope fa c') g tb ct call L N E' false hn.off scope where
  hK := G.hK
  hN := G.hN
  nd := G.nd
  calm := rfl
  hsc := rfl
  kind := (LamX.lamS_by hs).kind
  hfl := fun h => absurd h Bool.false_ne_true
  sta := G.sta
  fns := G.fns
  room := hr
  pass := passes_call (takes_of rfl rfl rfl rfl) fun _ _ _ _ h => h
  heard := fun h => absurd h Bool.false_ne_true
end
end K76
set_option Elab.async false
set_option linter.all false
set_option maxRecDepth 100000
set_option autoImplicit false
set_option maxHeartbeats 8000000
/-! K6c: soundness of expressions -/
namespace K76
open PySem PySem.Spec PyProof.Rows L2
section
variable {g : G} {tb : Tb} {ct : Ct} {call : Nat → List D → Store → Res D} {L : Nat} {N : List Str}
theorem subB_ok {a b : List Nat} (h : subB a b = true) : ∀ i ∈ a, i ∈ b := fun i hi => by
  have := List.all_eq_true.mp h i hi
  simpa using this
/-- the parts of a comprehension -/
theorem lcOk_of {X : Cx} {E : XK} {fl : Bool} {hn : Hn} {sc : Scope} (G : Good X g tb ct call L N E fl hn sc) {elt : CE} {x tg : Expr} {ifs : List Expr} {scope : Scope} {t : CT} {cond : CO} (hk : scope.kind = .function) (h1 : chkT N false (relS scope sc) t tg = true)
    (hC : ∀ (X' : Cx) (E' : XK), Good X' g tb ct call L N E' false hn.off (relS scope sc) → PTs X' ifs (tC g E' (evC tb call cond))) (hE : ∀ (X' : Cx) (E' : XK), Good X' g tb ct call L N E' false hn.off (relS scope sc) → PE X' x (tD g E' (ev tb call elt))) :
    LcOk X g x tg ifs scope t (evC tb call cond) (ev tb call elt) where
  hg := fun s H C cl fp => by
    have G' := G.blk s H scope C cl fp hk
    exact pg_T G'.hN G'.nd G'.calm G'.hsc G'.hfl G'.hK t tg h1
  ht := fun s H C cl fp => hC _ _ (G.blk s H scope C cl fp hk)
  he := fun s H C cl fp => hE _ _ (G.blk s H scope C cl fp hk)
theorem blkC_kind {N : List Str} {sc scope : Scope} {own : List (Str × Nat)} (h : blkC N sc scope own = true) : scope.kind = .function := (blkOk_by h).kind
mutual
theorem soundE : ∀ (c : CE) (e : Expr) (X : Cx) (E : XK) (fl : Bool) (hn : Hn) (sc : Scope), Good X g tb ct call L N E fl hn sc → chkE g.n tb ct N hn sc c e = true → PE X e (tD g E (ev tb call c)) ∧ PT X e (tDB g E (ev tb call c))
  | .var i, e, X, E, fl, hn, sc, G, h => by
    have h2 := (Bool.and_eq_true_iff.mp (show (okF e && _) = true from h)).2
    split at h2
    · rename_i x p
      simp only [Bool.and_eq_true, decide_eq_true_eq] at h2
      obtain ⟨v1, v2, v3⟩ := G.vis h2.2
      have he : PE X (.Name x p) (tD g E (ev tb call (.var i))) := by
        refine PE.weak (pe_var (by rw [G.hN]; exact h2.1) v1 v2 v3) fun σ H Q q => ?_
        obtain ⟨m, ρ, S, sr, er, q⟩ := q
        simp only [ev] at q
        split at q
        · rename_i d hd
          obtain ⟨v, e1, e2⟩ := er.2 i d hd
          exact ⟨v, e1, okVal sr e2 q⟩
        · exact (show False from q).elim
      exact ⟨he, pt_of he fun _ => rfl⟩
    · cases h2
  | .int i, e, X, E, fl, hn, sc, G, h => by
    have h2 := (Bool.and_eq_true_iff.mp (show (okF e && _) = true from h)).2
    split at h2
    · rename_i j k p
      have e1 := of_decide_eq_true h2
      subst e1
      have he : PE X (.Constant (.int i) k p) (tD g E (ev tb call (.int i))) := PE.weak pe_int fun σ H Q q => by
        obtain ⟨m, ρ, S, sr, er, q⟩ := q
        exact okVal sr (mk_int _) q
      exact ⟨he, pt_of he fun _ => rfl⟩
    · cases h2
  | .str w, e, X, E, fl, hn, sc, G, h => by
    have h2 := (Bool.and_eq_true_iff.mp (show (okF e && _) = true from h)).2
    split at h2
    · rename_i x k p
      have e1 := of_decide_eq_true h2
      have he : PE X (.Constant (.str x) k p) (tD g E (ev tb call (.str w))) := PE.weak pe_str fun σ H Q q => by
        obtain ⟨m, ρ, S, sr, er, q⟩ := q
        simp only [ev, e1] at q
        exact okVal sr (mk_str _) q
      exact ⟨he, pt_of he fun _ => rfl⟩
    · cases h2
  | .bl b, e, X, E, fl, hn, sc, G, h => by
    have h2 := (Bool.and_eq_true_iff.mp (show (okF e && _) = true from h)).2
    split at h2
    · rename_i x k p
      have e1 := eq_of_beq h2
      subst e1
      have he : PE X (.Constant (.bool b) k p) (tD g E (ev tb call (.bl b))) := PE.weak pe_bl fun σ H Q q => by
        obtain ⟨m, ρ, S, sr, er, q⟩ := q
        exact okVal sr (mk_bl _) q
      exact ⟨he, pt_of he fun _ => rfl⟩
    · cases h2
  | .non, e, X, E, fl, hn, sc, G, h => by
    have h2 := (Bool.and_eq_true_iff.mp (show (okF e && _) = true from h)).2
    split at h2
    · rename_i k p
      have he : PE X (.Constant .none k p) (tD g E (ev tb call .non)) := PE.weak pe_non fun σ H Q q => by
        obtain ⟨m, ρ, S, sr, er, q⟩ := q
        exact okVal sr mk_non q
      exact ⟨he, pt_of he fun _ => rfl⟩
    · cases h2
  | .glob k, e, X, E, fl, hn, sc, G, h => by
    have h2 := (Bool.and_eq_true_iff.mp (show (okF e && _) = true from h)).2
    split at h2
    · rename_i x p
      simp only [Bool.and_eq_true, decide_eq_true_eq] at h2
      obtain ⟨g1, g2⟩ := G.gl h2.2
      obtain ⟨u, v, m1, m2, m3⟩ := G.sta.glob k x h2.1
      have he : PE X (.Name x p) (tD g E (ev tb call (.glob k))) := PE.weak (pe_glob g1 m1 m2 g2) fun σ H Q q => by
        obtain ⟨m, ρ, S, sr, er, q⟩ := q
        exact okVal sr (by rw [← G.hK]; exact m3 m H) q
      exact ⟨he, pt_of he fun _ => rfl⟩
    · cases h2
  | .bin op a b, e, X, E, fl, hn, sc, G, h => by
    have h2 := (Bool.and_eq_true_iff.mp (show (okF e && _) = true from h)).2
    split at h2
    · rename_i l o r p
      simp only [Bool.and_eq_true, decide_eq_true_eq] at h2
      obtain ⟨rfl, h3, h4⟩ := h2
      have he : PE X (.BinOp l (opOf op) r p) (tD g E (ev tb call (.bin op a b))) := pe_opD (opr_bin G.hK op) (soundE a l X E fl hn sc G h3).1 (soundE b r X E fl hn sc G h4).1
      exact ⟨he, pt_of he fun _ => rfl⟩
    · cases h2
  | .neg a, e, X, E, fl, hn, sc, G, h => by
    have h2 := (Bool.and_eq_true_iff.mp (show (okF e && _) = true from h)).2
    split at h2
    · rename_i x p
      have he : PE X (.UnaryOp .USub x p) (tD g E (ev tb call (.neg a))) := pe_negD (soundE a x X E fl hn sc G h2).1
      exact ⟨he, pt_of he fun _ => rfl⟩
    · cases h2
  | .cmp op a b, e, X, E, fl, hn, sc, G, h => by
    have h2 := (Bool.and_eq_true_iff.mp (show (okF e && _) = true from h)).2
    split at h2
    · rename_i l o r p
      simp only [Bool.and_eq_true, decide_eq_true_eq, Bool.not_eq_true'] at h2
      obtain ⟨rfl, h5, h3, h4⟩ := h2
      have ha := (soundE a l X E fl hn sc G h3).1
      have hb := (soundE b r X E fl hn sc G h4).1
      exact ⟨pe_cmpD (opr_cmp G.hK G.units op) ha hb h5, pt_cmpD (opr_cmp G.hK G.units op) ha hb h5⟩
    · cases h2
  | .chain o1 o2 a b c, e, X, E, fl, hn, sc, G, h => by
    have h2 := (Bool.and_eq_true_iff.mp (show (okF e && _) = true from h)).2
    split at h2
    · rename_i l p1 p2 r q p
      simp only [Bool.and_eq_true, decide_eq_true_eq, Bool.not_eq_true'] at h2
      obtain ⟨rfl, rfl, h5, h3, h4, h6⟩ := h2
      have ha := (soundE a l X E fl hn sc G h3).1
      have hb := (soundE b r X E fl hn sc G h4).1
      have hc := (soundE c q X E fl hn sc G h6).1
      exact ⟨pe_chainD (opr_cmp G.hK G.units o1) (opr_cmp G.hK G.units o2) ha hb hc h5, pt_chainD (opr_cmp G.hK G.units o1) (opr_cmp G.hK G.units o2) ha hb hc h5⟩
    · cases h2
  | .eqNil ne a, e, X, E, fl, hn, sc, G, h => by
    have h2 := (Bool.and_eq_true_iff.mp (show (okF e && _) = true from h)).2
    split at h2
    · rename_i l o p2 p
      simp only [Bool.and_eq_true, decide_eq_true_eq] at h2
      obtain ⟨rfl, h3⟩ := h2
      have ha := (soundE a l X E fl hn sc G h3).1
      exact ⟨pe_eqNilD G.hK G.units ne ha, pt_eqNilD G.hK G.units ne ha⟩
    · cases h2
  | .and l, e, X, E, fl, hn, sc, G, h => by
    have h2 := (Bool.and_eq_true_iff.mp (show (okF e && _) = true from h)).2
    split at h2
    · rename_i x es p
      obtain ⟨q1, q2⟩ := soundAnd l (x :: es) p X E fl hn sc G h2 (by simp)
      exact ⟨q1, q2.pt⟩
    · cases h2
  | .or l, e, X, E, fl, hn, sc, G, h => by
    have h2 := (Bool.and_eq_true_iff.mp (show (okF e && _) = true from h)).2
    split at h2
    · rename_i x es p
      obtain ⟨q1, q2⟩ := soundOr l (x :: es) p X E fl hn sc G h2 (by simp)
      exact ⟨q1, q2.pt⟩
    · cases h2
  | .not a, e, X, E, fl, hn, sc, G, h => by
    have h2 := (Bool.and_eq_true_iff.mp (show (okF e && _) = true from h)).2
    split at h2
    · rename_i x p
      obtain ⟨q1, q2⟩ := soundE a x X E fl hn sc G h2
      exact ⟨pe_notD q1, pt_notD q2⟩
    · cases h2
  | .ite c a b, e, X, E, fl, hn, sc, G, h => by
    have h2 := (Bool.and_eq_true_iff.mp (show (okF e && _) = true from h)).2
    split at h2
    · rename_i x y z p
      simp only [Bool.and_eq_true] at h2
      obtain ⟨a1, a2⟩ := soundE c x X E fl hn sc G h2.1
      obtain ⟨b1, b2⟩ := soundE a y X E fl hn sc G h2.2.1
      obtain ⟨c1, c2⟩ := soundE b z X E fl hn sc G h2.2.2
      exact ⟨pe_iteD a2 b1 c1, pt_ite a2 b2 c2⟩
    · cases h2
  | .tup l, e, X, E, fl, hn, sc, G, h => by
    have h2 := (Bool.and_eq_true_iff.mp (show (okF e && _) = true from h)).2
    split at h2
    · rename_i es k p
      have he : PE X (.Tuple es k p) (tD g E (ev tb call (.tup l))) := pe_tupD (soundEs l es X E fl hn sc G h2)
      exact ⟨he, pt_of he fun _ => rfl⟩
    · cases h2
  | .lst l, e, X, E, fl, hn, sc, G, h => by
    have h2 := (Bool.and_eq_true_iff.mp (show (okF e && _) = true from h)).2
    split at h2
    · rename_i es p
      have he : PE X (.List es p) (tD g E (ev tb call (.lst l))) := pe_lstD (soundEs l es X E fl hn sc G h2)
      exact ⟨he, pt_of he fun _ => rfl⟩
    · cases h2
  | .idx a i, e, X, E, fl, hn, sc, G, h => by
    have h2 := (Bool.and_eq_true_iff.mp (show (okF e && _) = true from h)).2
    split at h2
    · rename_i l r p
      simp only [Bool.and_eq_true] at h2
      have he : PE X (.Subscript l r p) (tD g E (ev tb call (.idx a i))) := pe_ixD G.hK (soundE a l X E fl hn sc G h2.1).1 (soundE i r X E fl hn sc G h2.2).1 (plainIx (okF_ok (chkE_okF h2.2)).2.1)
      exact ⟨he, pt_of he fun _ => rfl⟩
    · cases h2
  | .slc a lo hi, e, X, E, fl, hn, sc, G, h => by
    have h2 := (Bool.and_eq_true_iff.mp (show (okF e && _) = true from h)).2
    split at h2
    · rename_i l x y p2 p
      simp only [Bool.and_eq_true] at h2
      have he : PE X (.Subscript l (.Slice x y none p2) p) (tD g E (ev tb call (.slc a lo hi))) := pe_slcD G.hK (soundE a l X E fl hn sc G h2.1).1 (soundO lo x X E fl hn sc G h2.2.1) (soundO hi y X E fl hn sc G h2.2.2)
      exact ⟨he, pt_of he fun _ => rfl⟩
    · cases h2
  | .attr a f, e, X, E, fl, hn, sc, G, h => by
    have h2 := (Bool.and_eq_true_iff.mp (show (okF e && _) = true from h)).2
    split at h2
    · rename_i l x p
      simp only [Bool.and_eq_true, decide_eq_true_eq] at h2
      obtain ⟨rfl, h3, h4⟩ := h2
      have he : PE X (.Attribute l (g.n.at_ f) p) (tD g E (ev tb call (.attr a f))) := pe_attrD G.hK G.sta.inj G.sta.dat (soundE a l X E fl hn sc G h4).1 h3
      exact ⟨he, pt_of he fun _ => rfl⟩
    · cases h2
  | .call k l, e, X, E, fl, hn, sc, G, h => by
    have h2 := (Bool.and_eq_true_iff.mp (show (okF e && _) = true from h)).2
    split at h2
    · rename_i x p2 es p
      simp only [Bool.and_eq_true, decide_eq_true_eq] at h2
      obtain ⟨h3, h4, h5, h6⟩ := h2
      obtain ⟨g1, g2⟩ := G.gl h5
      have he : PE X (.Call (.Name x p2) es [] p) (tD g E (ev tb call (.call k l))) := pe_callD G.fns (G.room.mono (Nat.le_succ _)) G.pass h4 h3 g1 (G.sta.fng k x h3 h4) g2 (soundEs l es X E fl hn sc G h6) (chkEs_nil h6) (chkEs_nst h6)
      exact ⟨he, pt_of he fun _ => rfl⟩
    · cases h2
  | .make c l, e, X, E, fl, hn, sc, G, h => by
    have h2 := (Bool.and_eq_true_iff.mp (show (okF e && _) = true from h)).2
    split at h2
    · rename_i x p2 es p
      simp only [Bool.and_eq_true, decide_eq_true_eq] at h2
      obtain ⟨rfl, h4, h5, h6⟩ := h2
      obtain ⟨g1, g2⟩ := G.gl h5
      obtain ⟨m1, m2, m3⟩ := G.sta.mkc c h4
      have he : PE X (.Call (.Name (g.n.cls c) p2) es [] p) (tD g E (ev tb call (.make c l))) := pe_makeD G.hK G.fns G.room G.pass m1 rfl g1 m2 m3 g2 (soundEs l es X E fl hn sc G h6) (chkEs_nil h6) (chkEs_nst h6)
      exact ⟨he, pt_of he fun _ => rfl⟩
    · cases h2
  | .meth a f l, e, X, E, fl, hn, sc, G, h => by
    have h2 := (Bool.and_eq_true_iff.mp (show (okF e && _) = true from h)).2
    split at h2
    · rename_i o x apos es p
      simp only [Bool.and_eq_true, decide_eq_true_eq] at h2
      obtain ⟨rfl, h4, h5, h6, h7, h8⟩ := h2
      have he : PE X (.Call (.Attribute o (g.n.at_ f) apos) es [] p) (tD g E (ev tb call (.meth a f l))) := pe_methD G.hK G.sta G.fns (G.room.mono (Nat.le_succ _)) G.pass (soundE a o X E fl hn sc G h7).1 h4 h5 h6 (soundEs l es X E fl hn sc G h8) (chkEs_nil h8)
      exact ⟨he, pt_of he fun _ => rfl⟩
    · cases h2
  | .bi b l, e, X, E, fl, hn, sc, G, h => by
    have h2 := (Bool.and_eq_true_iff.mp (show (okF e && _) = true from h)).2
    split at h2
    · rename_i x p2 es p
      rw [Bool.and_eq_true] at h2
      obtain ⟨h3, h2⟩ := h2
      obtain ⟨g1, g2⟩ := G.gl h3
      cases hb : biIs b with
      | true =>
        rw [hb] at h2
        simp only at h2
        split at h2
        · rename_i y t p3
          simp only [Bool.and_eq_true, decide_eq_true_eq] at h2
          obtain ⟨rfl, rfl, h5, h6⟩ := h2
          obtain ⟨g3, _⟩ := G.gl h5
          have hbl := blt_of G
          have hm2 : X.mg (isT b) = none := by
            cases b <;> first
              | exact absurd hb Bool.false_ne_true
              | exact hbl "int" (by simp)
              | exact hbl "bool" (by simp)
              | exact hbl "tuple" (by simp)
              | exact hbl "str" (by simp)
          cases l with
          | nil => exact absurd h6 Bool.false_ne_true
          | cons c r =>
            have h7 : (chkE g.n tb ct N hn sc c y && chkEs g.n tb ct N hn sc r []) = true := h6
            rw [Bool.and_eq_true] at h7
            cases r with
            | cons c2 r2 => exact absurd h7.2 Bool.false_ne_true
            | nil =>
              have hy := (soundE c y X E fl hn sc G h7.1).1
              have hq := pe_isD (pos := p) (p := p2) (p2 := p3) G.hK hb g1 (hbl "isinstance" (by simp)) g3 hm2 hy (okF_ok (chkE_okF h7.1)).1
              have he : PE X (.Call (.Name "isinstance" p2) [y, .Name (isT b) p3] [] p) (tD g E (ev tb call (.bi b (.cons c .nil)))) := by
                refine PE.weak hq fun σ H Q q => ?_
                obtain ⟨m, ρ, S, sr, er, q⟩ := q
                refine ⟨m, ρ, S, sr, er, ?_⟩
                have e1 : ev tb call (.bi b (.cons c .nil)) ρ S = (ev tb call c ρ S).bind fun x S1 => opBI b [x] S1 := by
                  show ((ev tb call c ρ S).bind fun x S1 => (evs tb call .nil ρ S1).bind fun xs S2 => Res.ok (x :: xs) S2).bind _ = _
                  cases ev tb call c ρ S <;> rfl
                rw [e1] at q
                exact q
              exact ⟨he, pt_of he fun _ => rfl⟩
        · cases h2
      | false =>
        rw [hb] at h2
        simp only [Bool.and_eq_true, decide_eq_true_eq] at h2
        obtain ⟨rfl, h2⟩ := h2
        cases es with
        | nil => exact absurd h2 Bool.false_ne_true
        | cons y ys =>
          have hst := chkEs_nst h2
          rw [List.all_cons, Bool.and_eq_true] at hst
          have he : PE X (.Call (.Name (biN b) p2) (y :: ys) [] p) (tD g E (ev tb call (.bi b l))) := pe_biD (x := biN b) (es := ys) (cv_any G hb) g1 (G.sta.blt b) hb (soundEs l (y :: ys) X E fl hn sc G h2) hst.1 hst.2
          exact ⟨he, pt_of he fun _ => rfl⟩
    · cases h2
  | .app a y, e, X, E, fl, hn, sc, G, h => by
    have h2 := (Bool.and_eq_true_iff.mp (show (okF e && _) = true from h)).2
    split at h2
    · rename_i o x apos z p
      simp only [Bool.and_eq_true, decide_eq_true_eq] at h2
      obtain ⟨rfl, h3, h4, h5, h6⟩ := h2
      have he : PE X (.Call (.Attribute o "append" apos) [z] [] p) (tD g E (ev tb call (.app a y))) := pe_appD (soundE a o X E fl hn sc G h5).1 (soundE y z X E fl hn sc G h6).1 h3 (okF_ok (chkE_okF h6)).1 h4
      exact ⟨he, pt_of he fun _ => rfl⟩
    · cases h2
  | .ext a y, e, X, E, fl, hn, sc, G, h => by
    have h2 := (Bool.and_eq_true_iff.mp (show (okF e && _) = true from h)).2
    split at h2
    · rename_i o x apos z p
      simp only [Bool.and_eq_true, decide_eq_true_eq] at h2
      obtain ⟨rfl, h3, h4, h5, h6⟩ := h2
      have he : PE X (.Call (.Attribute o "extend" apos) [z] [] p) (tD g E (ev tb call (.ext a y))) := pe_extD (soundE a o X E fl hn sc G h5).1 (soundE y z X E fl hn sc G h6).1 h3 (okF_ok (chkE_okF h6)).1 h4
      exact ⟨he, pt_of he fun _ => rfl⟩
    · cases h2
  | .pop a y, e, X, E, fl, hn, sc, G, h => by
    have h2 := (Bool.and_eq_true_iff.mp (show (okF e && _) = true from h)).2
    split at h2
    · rename_i o x apos z p
      simp only [Bool.and_eq_true, decide_eq_true_eq] at h2
      obtain ⟨rfl, h3, h4, h5, h6⟩ := h2
      have he : PE X (.Call (.Attribute o "pop" apos) [z] [] p) (tD g E (ev tb call (.pop a y))) := pe_popD (soundE a o X E fl hn sc G h5).1 (soundE y z X E fl hn sc G h6).1 h3 (okF_ok (chkE_okF h6)).1 h4
      exact ⟨he, pt_of he fun _ => rfl⟩
    · cases h2
  | .index a y, e, X, E, fl, hn, sc, G, h => by
    have h2 := (Bool.and_eq_true_iff.mp (show (okF e && _) = true from h)).2
    split at h2
    · rename_i o x apos z p
      simp only [Bool.and_eq_true, decide_eq_true_eq] at h2
      obtain ⟨rfl, h3, h4, h5, h6⟩ := h2
      have he : PE X (.Call (.Attribute o "index" apos) [z] [] p) (tD g E (ev tb call (.index a y))) := pe_indexD G.hK (soundE a o X E fl hn sc G h5).1 (soundE y z X E fl hn sc G h6).1 h3 (okF_ok (chkE_okF h6)).1 h4
      exact ⟨he, pt_of he fun _ => rfl⟩
    · cases h2
  | .lc elt t it cond own, e, X, E, fl, hn, sc, G, h => by
    have h2 := (Bool.and_eq_true_iff.mp (show (okF e && _) = true from h)).2
    split at h2
    · rename_i x tg iter ifs scope p
      simp only [Bool.and_eq_true] at h2
      obtain ⟨h3, h4, h5, h6, h7, h8, h9⟩ := h2
      have hL := lcOk_of G (blkC_kind h4) h5 (fun X' E' G' => soundC cond ifs X' E' false hn.off _ G' h8) (fun X' E' G' => (soundE elt x X' E' false hn.off _ G' h9).1)
      have he : PE X (.ListComp x [⟨tg, iter, ifs, 0⟩] scope p) (tD g E (ev tb call (.lc elt t it cond own))) :=
        pe_lcR (pe_lcD G.calm (by rw [G.hN]; exact G.nd) (soundI it tg iter X E fl hn sc G h3) (by rw [G.hN, G.hsc]; exact blkOk_by h4) hL (subB_ok h6) (noSet_ok h7))
      exact ⟨he, pt_of he fun _ => rfl⟩
    · cases h2
  | .lcf k elt t it cond own, e, X, E, fl, hn, sc, G, h => by
    have h2 := (Bool.and_eq_true_iff.mp (show (okF e && _) = true from h)).2
    split at h2
    · rename_i nm p2 x tg iter ifs scope p3 p hk
      simp only [Bool.and_eq_true, decide_eq_true_eq] at h2
      obtain ⟨rfl, hgB, h3, h4, h5, h6, h7, h8, h9⟩ := h2
      obtain ⟨g1, g2⟩ := G.gl hgB
      have hL := lcOk_of G (blkC_kind h4) h5 (fun X' E' G' => soundC cond ifs X' E' false hn.off _ G' h8) (fun X' E' G' => (soundE elt x X' E' false hn.off _ G' h9).1)
      have hl := pe_lcD (pos := p3) G.calm (by rw [G.hN]; exact G.nd) (soundI it tg iter X E fl hn sc G h3) (by rw [G.hN, G.hsc]; exact blkOk_by h4) hL (subB_ok h6) (noSet_ok h7)
      have hbl := blt_of G
      have he : PE X (.Call (.Name (lfN k) p2) [.ListComp x [⟨tg, iter, ifs, 0⟩] scope p3] [] p) (tD g E (ev tb call (.lcf k elt t it cond own))) := by
        cases k with
        | tuple => exact pe_lfTuple g1 (hbl "tuple" (by simp)) hl rfl
        | all => exact pe_lfAll G.calm g1 (hbl "all" (by simp)) hl rfl
        | any => exact pe_lfAny G.calm g1 (hbl "any" (by simp)) hl rfl
        | sum => exact pe_lfSum G.calm g1 (hbl "sum" (by simp)) hl rfl
        | tupleX => exact pe_lfTupX g1 (hbl "tuple" (by simp)) hl rfl
        | eqNil => exact absurd hk (by decide)
        | neNil => exact absurd hk (by decide)
      exact ⟨he, pt_of he fun _ => rfl⟩
    · rename_i x tg iter ifs scope p3 o p2 p hk
      simp only [Bool.and_eq_true, decide_eq_true_eq] at h2
      obtain ⟨rfl, h3, h4, h5, h6, h7, h8, h9⟩ := h2
      have hL := lcOk_of G (blkC_kind h4) h5 (fun X' E' G' => soundC cond ifs X' E' false hn.off _ G' h8) (fun X' E' G' => (soundE elt x X' E' false hn.off _ G' h9).1)
      have hl := pe_lcD (pos := p3) G.calm (by rw [G.hN]; exact G.nd) (soundI it tg iter X E fl hn sc G h3) (by rw [G.hN, G.hsc]; exact blkOk_by h4) hL (subB_ok h6) (noSet_ok h7)
      cases k with
      | eqNil => exact ⟨pe_eqNilL G.hK G.units false hl, pt_eqNilL G.hK G.units false hl⟩
      | neNil => exact ⟨pe_eqNilL G.hK G.units true hl, pt_eqNilL G.hK G.units true hl⟩
      | tuple => exact absurd hk (by decide)
      | all => exact absurd hk (by decide)
      | any => exact absurd hk (by decide)
      | sum => exact absurd hk (by decide)
      | tupleX => exact absurd hk (by decide)
    · cases h2
  | .heard a, e, X, E, fl, hn, sc, G, h => by
    have h2 := (Bool.and_eq_true_iff.mp (show (okF e && _) = true from h)).2
    split at h2
    · rename_i nm p2 params body scope lpos p
      simp only [Bool.and_eq_true, decide_eq_true_eq] at h2
      obtain ⟨h3, rfl, h4, h5, h6, h7⟩ := h2
      have he : PE X (.Call (.Name hn.nm p2) [.Lambda params body scope lpos] [] p) (tD g E (ev tb call (.heard a))) := by
        refine G.heard h3 params body scope p2 lpos p (ev tb call a) h5 h6 h4 fun A outer s H E' fa c' hr => ?_
        exact (soundE a body _ E' false hn.off scope (G.lam h6 hr) h7).1
      exact ⟨he, pt_of he fun _ => rfl⟩
    · cases h2
theorem soundEs : ∀ (c : CEs) (es : List Expr) (X : Cx) (E : XK) (fl : Bool) (hn : Hn) (sc : Scope), Good X g tb ct call L N E fl hn sc → chkEs g.n tb ct N hn sc c es = true → PA X es (tDA g E (evs tb call c))
  | .nil, es, X, E, fl, hn, sc, G, h => by
    cases es with
    | nil => exact pa_nilD
    | cons e es => exact absurd h Bool.false_ne_true
  | .cons c r, es, X, E, fl, hn, sc, G, h => by
    cases es with
    | nil => exact absurd h Bool.false_ne_true
    | cons e es =>
      have h2 : (chkE g.n tb ct N hn sc c e && chkEs g.n tb ct N hn sc r es) = true := h
      rw [Bool.and_eq_true] at h2
      exact pa_consD (soundE c e X E fl hn sc G h2.1).1 (soundEs r es X E fl hn sc G h2.2) (okF_ok (chkE_okF h2.1)).1
theorem soundAnd : ∀ (c : CEs) (es : List Expr) (p : Pos) (X : Cx) (E : XK) (fl : Bool) (hn : Hn) (sc : Scope), Good X g tb ct call L N E fl hn sc → chkEs g.n tb ct N hn sc c es = true → es ≠ [] → PE X (.BoolOp .And es p) (tD g E (evAnd tb call c)) ∧ PW X (.BoolOp .And es p) (tDB g E (evAnd tb call c))
  | .nil, es, p, X, E, fl, hn, sc, G, h, hz => by
    cases es with
    | nil => exact absurd rfl hz
    | cons e es => exact absurd h Bool.false_ne_true
  | .cons c r, es, p, X, E, fl, hn, sc, G, h, hz => by
    cases es with
    | nil => exact absurd h Bool.false_ne_true
    | cons e es =>
      have h2 : (chkE g.n tb ct N hn sc c e && chkEs g.n tb ct N hn sc r es) = true := h
      rw [Bool.and_eq_true] at h2
      obtain ⟨q1, q2⟩ := soundE c e X E fl hn sc G h2.1
      have h3 := h2.2
      cases es with
      | nil =>
        cases r with
        | nil => exact ⟨pe_one q1, pw_and1 q2⟩
        | cons c2 r2 => exact absurd h3 Bool.false_ne_true
      | cons e2 es2 =>
        obtain ⟨r1, r2⟩ := soundAnd r (e2 :: es2) p X E fl hn sc G h3 (by simp)
        cases r with
        | nil => exact absurd h3 Bool.false_ne_true
        | cons c2 r' => exact ⟨pe_andD q1 r1, pw_andD q2 r2⟩
theorem soundOr : ∀ (c : CEs) (es : List Expr) (p : Pos) (X : Cx) (E : XK) (fl : Bool) (hn : Hn) (sc : Scope), Good X g tb ct call L N E fl hn sc → chkEs g.n tb ct N hn sc c es = true → es ≠ [] → PE X (.BoolOp .Or es p) (tD g E (evOr tb call c)) ∧ PW X (.BoolOp .Or es p) (tDB g E (evOr tb call c))
  | .nil, es, p, X, E, fl, hn, sc, G, h, hz => by
    cases es with
    | nil => exact absurd rfl hz
    | cons e es => exact absurd h Bool.false_ne_true
  | .cons c r, es, p, X, E, fl, hn, sc, G, h, hz => by
    cases es with
    | nil => exact absurd h Bool.false_ne_true
    | cons e es =>
      have h2 : (chkE g.n tb ct N hn sc c e && chkEs g.n tb ct N hn sc r es) = true := h
      rw [Bool.and_eq_true] at h2
      obtain ⟨q1, q2⟩ := soundE c e X E fl hn sc G h2.1
      have h3 := h2.2
      cases es with
      | nil =>
        cases r with
        | nil => exact ⟨pe_one q1, pw_or1 q2⟩
        | cons c2 r2 => exact absurd h3 Bool.false_ne_true
      | cons e2 es2 =>
        obtain ⟨r1, r2⟩ := soundOr r (e2 :: es2) p X E fl hn sc G h3 (by simp)
        cases r with
        | nil => exact absurd h3 Bool.false_ne_true
        | cons c2 r' => exact ⟨pe_orD q1 r1, pw_orD q2 r2⟩
theorem soundO : ∀ (c : CO) (e : Option Expr) (X : Cx) (E : XK) (fl : Bool) (hn : Hn) (sc : Scope), Good X g tb ct call L N E fl hn sc → chkO g.n tb ct N hn sc c e = true → PO X e (tDO g E (evO tb call c))
  | .no, e, X, E, fl, hn, sc, G, h => by
    cases e with
    | none => exact po_noneD
    | some e => exact absurd h Bool.false_ne_true
  | .yes c, e, X, E, fl, hn, sc, G, h => by
    cases e with
    | none => exact absurd h Bool.false_ne_true
    | some e => exact po_someD (soundE c e X E fl hn sc G h).1
theorem soundC : ∀ (c : CO) (es : List Expr) (X : Cx) (E : XK) (fl : Bool) (hn : Hn) (sc : Scope), Good X g tb ct call L N E fl hn sc → chkC g.n tb ct N hn sc c es = true → PTs X es (tC g E (evC tb call c))
  | .no, es, X, E, fl, hn, sc, G, h => by
    cases es with
    | nil => exact pts_nilD
    | cons e es => exact absurd h Bool.false_ne_true
  | .yes c, es, X, E, fl, hn, sc, G, h => by
    cases es with
    | nil => exact absurd h Bool.false_ne_true
    | cons e es =>
      cases es with
      | nil => exact pts_oneD (soundE c e X E fl hn sc G h).2
      | cons e2 es2 => exact absurd h Bool.false_ne_true
theorem soundI : ∀ (c : CI) (tg e : Expr) (X : Cx) (E : XK) (fl : Bool) (hn : Hn) (sc : Scope), Good X g tb ct call L N E fl hn sc → chkI g.n tb ct N hn sc c tg e = true → PI X tg e (tI g E (evI tb call c))
  | .of c, tg, e, X, E, fl, hn, sc, G, h => pi_ofD G.hK (soundE c e X E fl hn sc G h).1
  | .range c, tg, e, X, E, fl, hn, sc, G, h => by
    have h2 := h
    simp only [chkI] at h2
    split at h2
    · rename_i x p2 a p
      simp only [Bool.and_eq_true, decide_eq_true_eq] at h2
      obtain ⟨rfl, h3, h4⟩ := h2
      exact pi_rangeD (G.gl h3).1 G.sta.blr (soundE c a X E fl hn sc G h4).1 (okF_ok (chkE_okF h4)).1
    · cases h2
  | .enum c, tg, e, X, E, fl, hn, sc, G, h => by
    have h2 := h
    simp only [chkI] at h2
    split at h2
    · rename_i k1 k2 k3 x p2 a p
      simp only [Bool.and_eq_true, decide_eq_true_eq] at h2
      obtain ⟨rfl, h3, h4⟩ := h2
      exact pi_enumD G.hK (G.gl h3).1 G.sta.ble (soundE c a X E fl hn sc G h4).1 (okF_ok (chkE_okF h4)).1
    · cases h2
  | .zip2 c d, tg, e, X, E, fl, hn, sc, G, h => by
    have h2 := h
    simp only [chkI] at h2
    split at h2
    · rename_i k1 k2 k3 x p2 a b p
      simp only [Bool.and_eq_true, decide_eq_true_eq] at h2
      obtain ⟨rfl, h3, h4, h5⟩ := h2
      exact pi_zip2D G.hK (G.gl h3).1 G.sta.blz (soundE c a X E fl hn sc G h4).1 (soundE d b X E fl hn sc G h5).1 (okF_ok (chkE_okF h4)).1 (okF_ok (chkE_okF h5)).1
    · cases h2
  | .zip3 c d f, tg, e, X, E, fl, hn, sc, G, h => by
    have h2 := h
    simp only [chkI] at h2
    split at h2
    · rename_i k1 k2 k3 x p2 a b z p
      simp only [Bool.and_eq_true, decide_eq_true_eq] at h2
      obtain ⟨rfl, h3, h4, h5, h6⟩ := h2
      exact pi_zip3D G.hK (G.gl h3).1 G.sta.blz (soundE c a X E fl hn sc G h4).1 (soundE d b X E fl hn sc G h5).1 (soundE f z X E fl hn sc G h6).1 (okF_ok (chkE_okF h4)).1 (okF_ok (chkE_okF h5)).1 (okF_ok (chkE_okF h6)).1
    · cases h2
  | .enumZip c d, tg, e, X, E, fl, hn, sc, G, h => by
    have h2 := h
    simp only [chkI] at h2
    split at h2
    · rename_i k1 k2 k3 y p4 x p2 a b p3 p
      simp only [Bool.and_eq_true, decide_eq_true_eq] at h2
      obtain ⟨rfl, h7, rfl, h3, h4, h5⟩ := h2
      exact pi_enumZD G.hK (G.gl h3).1 G.sta.blz (G.gl h7).1 G.sta.ble (soundE c a X E fl hn sc G h4).1 (soundE d b X E fl hn sc G h5).1 (okF_ok (chkE_okF h4)).1 (okF_ok (chkE_okF h5)).1
    · cases h2
end
end
end K76
set_option Elab.async false
set_option linter.all false
set_option maxRecDepth 100000
set_option autoImplicit false
set_option maxHeartbeats 8000000
/-! K6d: statements: the check, soundness -/
namespace K76
open PySem PySem.Spec PyProof.Rows L2
section
variable (n : Nm) (tb : Tb) (ct : Ct) (N : List Str)
mutual
def chkS (hn : Hn) (sc : Scope) : CS → Stmt → Bool
  | .asg i e, st => (match st with
    | .Assign [.Name x _] v _ => decide (N[i]? = some x) && (nmB true sc x && (noLc v && chkE n tb ct N hn sc e v))
    | _ => false)
  | .asgLc i elt t it cond own, st => (match st with
    | .Assign [.Name y py] (.ListComp x [⟨tg, iter, ifs, 0⟩] scope pos) _ => decide (N[i]? = some y) && (decide (sc.names.lookup y = some .local) && ((py.line == pos.line) && (!(scope.names.any fun (n, k) => n == y && (k == .local || k == .cell)) &&
        (chkI n tb ct N hn sc it tg iter && (blkC N sc scope (ownP N own) && (chkT N false (relS scope sc) t tg && (subB t.ns own && (noSt iter && (chkC n tb ct N hn.off (relS scope sc) cond ifs && chkE n tb ct N hn.off (relS scope sc) elt x)))))))))
    | _ => false)
  | .asgT t e, st => (match st with
    | .Assign [.Tuple es k p] v _ => chkT N true sc t (.Tuple es k p) && (noSwapB sc es v && chkE n tb ct N hn sc e v)
    | _ => false)
  | .par is l, st => (match is, st with
    | [i, j], .Assign [.Tuple [.Name x px, .Name y py] _ _] (.Tuple [a, b] _ _) _ => decide (N[i]? = some x) && (decide (N[j]? = some y) && (swapB sc [(x, px), (y, py)] [a, b] && chkEs n tb ct N hn sc l [a, b]))
    | [i, j, k], .Assign [.Tuple [.Name x px, .Name y py, .Name z pz] _ _] (.Tuple [a, b, c] _ _) _ => decide (N[i]? = some x) && (decide (N[j]? = some y) && (decide (N[k]? = some z) && (swapB sc [(x, px), (y, py), (z, pz)] [a, b, c] && chkEs n tb ct N hn sc l [a, b, c])))
    | _, _ => false)
  | .attr a f e, st => (match st with
    | .Assign [.Attribute o x _] v _ => decide (n.at_ f = x) && (chkE n tb ct N hn sc a o && chkE n tb ct N hn sc e v)
    | _ => false)
  | .attr2 a f h e, st => (match st with
    | .Assign [.Tuple [.Attribute o x _, .Attribute o2 x2 _] _ _] v _ => decide (n.at_ f = x) && (decide (n.at_ h = x2) && (chkE n tb ct N hn sc a o && (chkE n tb ct N hn sc a o2 && chkE n tb ct N hn sc e v)))
    | _ => false)
  | .item a i e, st => (match st with
    | .Assign [.Subscript o j _] v _ => chkE n tb ct N hn sc a o && (chkE n tb ct N hn sc i j && chkE n tb ct N hn sc e v)
    | _ => false)
  | .augItem a i e, st => (match st with
    | .AugAssign (.Subscript o j _) .Add v _ => chkE n tb ct N hn sc a o && (chkE n tb ct N hn sc i j && chkE n tb ct N hn sc e v)
    | _ => false)
  | .augAttr a f e, st => (match st with
    | .AugAssign (.Attribute o x _) .Add v _ => decide (n.at_ f = x) && (chkE n tb ct N hn sc a o && chkE n tb ct N hn sc e v)
    | _ => false)
  | .expr e, st => (match st with
    | .Expr v _ => noLc v && chkE n tb ct N hn sc e v
    | _ => false)
  | .ret e, st => (match st with
    | .Return (some v) _ => chkE n tb ct N hn sc e v
    | _ => false)
  | .ite c a b, st => (match st with
    | .If x p q _ => chkE n tb ct N hn sc c x && (chkB hn sc a p && chkB hn sc b q)
    | _ => false)
  | .for_ t it b, st => (match st with
    | .For tg iter body [] _ => chkI n tb ct N hn sc it tg iter && (chkT N true sc t tg && (noSt iter && chkB hn sc b body))
    | _ => false)
  | .while_ _ c b, st => (match st with
    | .While x body [] _ => chkE n tb ct N hn sc c x && chkB hn sc b body
    | _ => false)
  | .raise c e, st => (match st with
    | .Raise (some (.Call (.Name x _) [v] [] _)) none _ => decide (n.cls c = x) && (ct.isE c && (gB sc x && chkE n tb ct N hn sc e v))
    | _ => false)
def chkB (hn : Hn) (sc : Scope) : CB → List Stmt → Bool
  | .nil, sts => (match sts with
    | [] => true
    | _ => false)
  | .cons s r, sts => (match sts with
    | st :: sts => chkS hn sc s st && chkB hn sc r sts
    | [] => false)
end
end
structure GoodS (X : Cx) (g : G) (tb : Tb) (ct : Ct) (call : Nat → List D → Store → Res D) (L : Nat) (N : List Str) (E : XK) (hn : Hn) (sc : Scope) : Prop where
  gd : Good X g tb ct call L N E true hn sc
  own : PassesOwn (model X.prog X.w) X.A X.env X.xe
  tk : Takes X (fun cls d _ H => E cls d H)
  rs : Raisable X g ct L
section
variable {g : G} {tb : Tb} {ct : Ct} {call : Nat → List D → Store → Res D} {L : Nat} {N : List Str} {X : Cx} {E : XK} {hn : Hn} {sc : Scope}
theorem nmB_loc (hs : X.env.scope = sc) (hfl : ∀ x, X.fn x = true) {x : Str} (h : nmB true sc x = true) : Loc X.env.scope x ∧ (X.fn x = true ∨ X.env.scope.names.lookup x = some .local) := by
  unfold nmB at h
  rw [hs]
  split at h
  · exact ⟨.inl (by assumption), .inl (hfl x)⟩
  · exact ⟨.inr (by assumption), .inl (hfl x)⟩
  · cases h
mutual
theorem soundS (G : GoodS X g tb ct call L N E hn sc) : ∀ (s : CS) (st : Stmt), chkS g.n tb ct N hn sc s st = true → PS X st (tDS g E (ex tb call s))
  | .asg i e, st, h => by
    simp only [chkS] at h
    split at h
    · rename_i x p v pos
      simp only [Bool.and_eq_true, decide_eq_true_eq] at h
      obtain ⟨h1, h2, h3, h4⟩ := h
      obtain ⟨q1, q2⟩ := nmB_loc G.gd.hsc (G.gd.hfl rfl) h2
      exact ps_asgD (by rw [G.gd.hN]; exact G.gd.nd) (by rw [G.gd.hN]; exact h1) q1 q2 (soundE e v X E true hn sc G.gd h4).1 h3
    · cases h
  | .asgLc i elt t it cond own, st, h => by
    simp only [chkS] at h
    split at h
    · rename_i y py x tg iter ifs scope pos spos
      simp only [Bool.and_eq_true, decide_eq_true_eq, Bool.not_eq_true'] at h
      obtain ⟨h1, h2, hl, ha, h3, h4, h5, h6, h7, h8, h9⟩ := h
      have hL := lcOk_of G.gd (blkC_kind h4) h5 (fun X' E' G' => soundC cond ifs X' E' false hn.off _ G' h8) (fun X' E' G' => (soundE elt x X' E' false hn.off _ G' h9).1)
      exact ps_asgLcD G.gd.calm (by rw [G.gd.hN]; exact G.gd.nd) (by rw [G.gd.hN]; exact h1) (by rw [G.gd.hsc]; exact h2) (by rw [G.gd.hsc]; exact G.gd.kind) hl ha (soundI it tg iter X E true hn sc G.gd h3) (by rw [G.gd.hN, G.gd.hsc]; exact blkOk_by h4) hL (subB_ok h6) (noSet_ok h7)
    · cases h
  | .asgT t e, st, h => by
    simp only [chkS] at h
    split at h
    · rename_i es k p v pos
      simp only [Bool.and_eq_true] at h
      obtain ⟨h1, h2, h3⟩ := h
      exact ps_asgTD (soundE e v X E true hn sc G.gd h3).1 (pg_T G.gd.hN G.gd.nd G.gd.calm G.gd.hsc G.gd.hfl G.gd.hK t _ h1) (swapsS (fun _ _ h => by cases h)) (swap_none G.gd.hsc h2) rfl
    · cases h
  | .par is l, st, h => by
    simp only [chkS] at h
    split at h
    · rename_i i j x px y py k p a b k2 p2 pos
      simp only [Bool.and_eq_true, decide_eq_true_eq] at h
      obtain ⟨h1, h2, h3, h4⟩ := h
      exact ps_par2D G.gd.calm (by rw [G.gd.hN]; exact G.gd.nd) (by rw [G.gd.hN]; exact h1) (by rw [G.gd.hN]; exact h2) G.gd.hsc G.gd.kind h3 (soundEs l [a, b] X E true hn sc G.gd h4)
    · rename_i i j k x px y py z pz k1 p a b c k2 p2 pos
      simp only [Bool.and_eq_true, decide_eq_true_eq] at h
      obtain ⟨h1, h2, h5, h3, h4⟩ := h
      exact ps_par3D G.gd.calm (by rw [G.gd.hN]; exact G.gd.nd) (by rw [G.gd.hN]; exact h1) (by rw [G.gd.hN]; exact h2) (by rw [G.gd.hN]; exact h5) G.gd.hsc G.gd.kind h3 (soundEs l [a, b, c] X E true hn sc G.gd h4)
    · cases h
  | .attr a f e, st, h => by
    simp only [chkS] at h
    split at h
    · rename_i o x p v pos
      simp only [Bool.and_eq_true, decide_eq_true_eq] at h
      obtain ⟨rfl, h1, h2⟩ := h
      exact ps_attrD G.gd.hK G.gd.sta.inj G.gd.sta.dat (soundE a o X E true hn sc G.gd h1).1 (soundE e v X E true hn sc G.gd h2).1
    · cases h
  | .attr2 a f h0 e, st, h => by
    simp only [chkS] at h
    split at h
    · rename_i o x p o2 x2 p2 k p3 v pos
      simp only [Bool.and_eq_true, decide_eq_true_eq] at h
      obtain ⟨rfl, rfl, h1, h2, h3⟩ := h
      exact ps_attr2D G.gd.calm G.gd.hK G.gd.sta.inj G.gd.sta.dat G.gd.hsc (soundE a o X E true hn sc G.gd h1).1 (soundE a o2 X E true hn sc G.gd h2).1 (soundE e v X E true hn sc G.gd h3).1
    · cases h
  | .item a i e, st, h => by
    simp only [chkS] at h
    split at h
    · rename_i o j p v pos
      simp only [Bool.and_eq_true] at h
      obtain ⟨h1, h2, h3⟩ := h
      exact ps_itemD (soundE a o X E true hn sc G.gd h1).1 (soundE i j X E true hn sc G.gd h2).1 (soundE e v X E true hn sc G.gd h3).1 (okF_ok (chkE_okF h2)).2.1
    · cases h
  | .augItem a i e, st, h => by
    simp only [chkS] at h
    split at h
    · rename_i o j p v pos
      simp only [Bool.and_eq_true] at h
      obtain ⟨h1, h2, h3⟩ := h
      exact ps_augItemD (soundE a o X E true hn sc G.gd h1).1 (soundE i j X E true hn sc G.gd h2).1 (soundE e v X E true hn sc G.gd h3).1 (okF_ok (chkE_okF h2)).2.1
    · cases h
  | .augAttr a f e, st, h => by
    simp only [chkS] at h
    split at h
    · rename_i o x p v pos
      simp only [Bool.and_eq_true, decide_eq_true_eq] at h
      obtain ⟨rfl, h1, h2⟩ := h
      exact ps_augAttrD G.gd.hK G.gd.sta.inj G.gd.sta.dat (soundE a o X E true hn sc G.gd h1).1 (soundE e v X E true hn sc G.gd h2).1
    · cases h
  | .expr e, st, h => by
    simp only [chkS] at h
    split at h
    · rename_i v pos
      simp only [Bool.and_eq_true] at h
      exact ps_exprD (soundE e v X E true hn sc G.gd h.2).1 h.1
    · cases h
  | .ret e, st, h => by
    simp only [chkS] at h
    split at h
    · rename_i v pos
      exact ps_retD (soundE e v X E true hn sc G.gd h).1
    · cases h
  | .ite c a b, st, h => by
    simp only [chkS] at h
    split at h
    · rename_i x p q pos
      simp only [Bool.and_eq_true] at h
      exact ps_iteD (soundE c x X E true hn sc G.gd h.1).2 (soundB G a p h.2.1) (soundB G b q h.2.2)
    · cases h
  | .for_ t it b, st, h => by
    simp only [chkS] at h
    split at h
    · rename_i tg iter body pos
      simp only [Bool.and_eq_true] at h
      obtain ⟨h1, h2, h3, h4⟩ := h
      exact ps_forD G.own G.gd.calm (soundI it tg iter X E true hn sc G.gd h1) (pg_T G.gd.hN G.gd.nd G.gd.calm G.gd.hsc G.gd.hfl G.gd.hK t tg h2) (soundB G b body h4) (noSet_ok h3)
    · cases h
  | .while_ k c b, st, h => by
    simp only [chkS] at h
    split at h
    · rename_i x body pos
      simp only [Bool.and_eq_true] at h
      exact ps_whileD G.own (soundE c x X E true hn sc G.gd h.1).2 (soundB G b body h.2)
    · cases h
  | .raise c e, st, h => by
    simp only [chkS] at h
    split at h
    · rename_i x p v p2 pos
      simp only [Bool.and_eq_true, decide_eq_true_eq] at h
      obtain ⟨rfl, h1, h2, h3⟩ := h
      obtain ⟨g1, g2⟩ := G.gd.gl h2
      exact ps_raiseD G.gd.hK G.gd.calm G.tk G.rs G.gd.room h1 g1 g2 (soundE e v X E true hn sc G.gd h3).1 (okF_ok (chkE_okF h3)).1
    · cases h
theorem soundB (G : GoodS X g tb ct call L N E hn sc) : ∀ (b : CB) (sts : List Stmt), chkB g.n tb ct N hn sc b sts = true → PSs X sts (tDS g E (exs tb call b))
  | .nil, sts, h => by
    cases sts with
    | nil => exact pss_nilD
    | cons st sts => exact absurd h Bool.false_ne_true
  | .cons s r, sts, h => by
    cases sts with
    | nil => exact absurd h Bool.false_ne_true
    | cons st sts =>
      have h2 : (chkS g.n tb ct N hn sc s st && chkB g.n tb ct N hn sc r sts) = true := h
      rw [Bool.and_eq_true] at h2
      exact pss_consD (soundS G s st h2.1) (soundB G r sts h2.2)
end
end
end K76
set_option Elab.async false
set_option linter.all false
set_option maxRecDepth 100000
set_option autoImplicit false
set_option maxHeartbeats 8000000
/-! K7a: the defs, level by level -/
namespace K76
open PySem PySem.Spec PyProof.Rows L2
/-- one def of the table: its datum, its slots (parameters first), its parameters, its text in the little language -/
structure FD where
  d : He.DefD
  N : List Str
  ps : List Str
  b : CB
  hn : Hn
def callN (tb : Tb) (fl : List FD) : Nat → Nat → List D → Store → Res D
  | 0 => fun _ _ _ => .bad
  | n + 1 => fun k ds S => match fl[k]? with
    | some f => if ds.length = f.ps.length then runF tb (callN tb fl n) f.N.length f.b ds S else .bad
    | none => .bad
def scopeB (N P : List Str) (sc : Scope) : Bool :=
  decide (sc.kind = .function) && (!sc.isCoroutine && (!sc.isGenerator && (decide N.Nodup && (decide (N.take P.length = P) && ((P.all fun x => decide (sc.names.lookup x = some .local) || decide (sc.names.lookup x = some .cell)) && (sc.names.all fun y => !decide (y.2 = .free)))))))
theorem scope_ok {N P : List Str} {sc : Scope} (h : scopeB N P sc = true) : FnScope N P sc := by
  unfold scopeB at h
  simp only [Bool.and_eq_true, Bool.or_eq_true, Bool.not_eq_true', decide_eq_true_eq, decide_eq_false_iff_not, List.all_eq_true] at h
  obtain ⟨h1, h2, h3, h4, h5, h6, h7⟩ := h
  exact ⟨h1, h2, h3, h4, h5, h6, h7⟩
def fdB (n : Nm) (tb : Tb) (ct : Ct) (f : FD) : Bool := scopeB f.N f.ps f.d.scope && chkB n tb ct f.N f.hn f.d.scope f.b f.d.body
/-! ### binding -/
def argNm (p : Arguments) : List Str := p.args.map (·.arg)
theorem zip_some : ∀ {ps : List Str} {us : List Value}, us.length = ps.length → ∀ x ∈ ps, ((ps.zip us).lookup x).isNone = false
  | [], _, _, x, h => by cases h
  | p :: ps, [], hl, x, h => by simp at hl
  | p :: ps, u :: us, hl, x, h => by
    rw [List.zip_cons_cons, List.lookup_cons]
    by_cases e : x = p
    · subst e; simp
    · have e1 : (x == p) = false := beq_eq_false_iff_ne.mpr e
      rw [e1]
      have h2 : x ∈ ps := by
        rcases List.mem_cons.mp h with z | z
        · exact absurd z e
        · exact z
      exact zip_some (by simpa using hl) x h2
theorem fm_congr {α β : Type} {f g : α → Option β} : ∀ {l : List α}, (∀ x ∈ l, f x = g x) → l.filterMap f = l.filterMap g
  | [], _ => rfl
  | a :: l, h => by
    rw [List.filterMap_cons, List.filterMap_cons, h a (List.mem_cons_self ..), fm_congr (fun x hx => h x (List.mem_cons_of_mem _ hx))]
theorem fm_zip : ∀ {ps : List Str} {us : List Value}, us.length = ps.length → ps.Nodup → (ps.filterMap fun n => ((ps.zip us).lookup n).map fun x => (n, x)) = ps.zip us
  | [], us, hl, _ => by simp
  | p :: ps, [], hl, _ => by simp at hl
  | p :: ps, u :: us, hl, nd => by
    rw [List.nodup_cons] at nd
    rw [List.zip_cons_cons, List.filterMap_cons, List.lookup_cons]
    simp only [beq_self_eq_true, Option.map_some]
    congr 1
    refine Eq.trans (fm_congr fun x hx => ?_) (fm_zip (by simpa using hl) nd.2)
    rw [List.lookup_cons]
    have e1 : (x == p) = false := beq_eq_false_iff_ne.mpr fun z => nd.1 (by rw [← z]; exact hx)
    rw [e1]
theorem bind_any {x qual : Str} {as : List Arg} {body : List Stmt} {scope : Scope} (kV doc pm : Value) (an : Option Addr) (cdv ct : Value) (us : List Value) (hl : us.length = (as.map (·.arg)).length) (nd : (as.map (·.arg)).Nodup) :
    bindArgs (PySem.W.fnOf x qual ⟨[], as, none, [], [], none, []⟩ body scope .none kV doc pm an cdv ct) ⟨us, []⟩ = pure ((as.map (·.arg)).zip us) := by
  unfold bindArgs
  have h1 : ((as.map (·.arg)).filter fun n => (((as.map (·.arg)).zip us).lookup n).isNone) = [] := by
    rw [List.filter_eq_nil_iff]
    intro n hn
    rw [zip_some hl n hn]
    exact Bool.false_ne_true
  have h2 : decide (us.length > (as.map (·.arg)).length) = false := by rw [decide_eq_false_iff_not]; omega
  have hs : seqItems? Value.none = pure none := rfl
  simp only [PySem.W.fnOf, List.map_nil, List.nil_append, List.append_nil, List.forIn_nil, pure_bind, hs, Option.getD_none, List.toList_toArray, List.length_nil, List.drop_nil, Nat.sub_zero, List.take_length, h1, h2, List.zip_nil_right, List.isEmpty_nil, Bool.not_true, Bool.false_and, Bool.false_eq_true, if_false, fm_zip hl nd]
theorem bind_plain {x qual : Str} {params : Arguments} {body : List Stmt} {scope : Scope} {ps : List Str} (h : plainP params ps = true) (kV doc pm : Value) (an : Option Addr) (cdv ct : Value) (us : List Value) (hl : us.length = ps.length) :
    bindArgs (PySem.W.fnOf x qual params body scope .none kV doc pm an cdv ct) ⟨us, []⟩ = pure (ps.zip us) := by
  unfold plainP at h
  split at h
  · rename_i as
    simp only [Bool.and_eq_true, decide_eq_true_eq] at h
    obtain ⟨rfl, h2⟩ := h
    exact bind_any kV doc pm an cdv ct us hl h2
  · cases h
/-! ### levels -/
def HeardOk (X : Cx) (g : G) (tb : Tb) (L : Nat) (E : XK) (nm : Str) (sc : Scope) : Prop := ∀ (params : Arguments) (body : Expr) (scope : Scope) (p lpos pos : Pos) (f : Ev → Store → Res D), noArgs params = true → LamX.lamSB sc scope = true → gB sc nm = true →
    (∀ (A : Around) (outer : List Env) (s : Shared) (H : Hp) (E : XK) (fa c' : Addr), Room (L + 1) (A.deeper (LamX.lamEnv X scope s.heap.objs.size fa c')) → PE (LamX.lamCx X A outer s H E scope fa c') body (tD g E f)) →
    PE X (.Call (.Name nm p) [.Lambda params body scope lpos] [] pos) (tD g E fun ρ S => heardD tb (f ρ S))
def RaisableK (P : Program) (w : World) (K : PySem.W.Frag) (mg : Str → Option Value) (base : Heap) (n : Nm) (ct : Ct) (L : Nat) : Prop := ∀ c, ct.isE c = true → mg (n.cls c) = some (.ref (He.ga K (n.cls c))) ∧ OexC K (He.ga K (n.cls c)) ∧ ∃ (fI : Addr) (fd : FuncData) (ps : List Str),
  PySem.W.findIn K (.ref (He.ga K (n.cls c))) "__init__" = some (some (.ref fI)) ∧ PySem.W.typeIn K (.ref fI) = some (.type "function") ∧ FnOk P w K mg base (L2.CX P w) L fI fd ps (spInit K n ct.isE) ∧ Binds K fd ps []
structure Facts (P : Program) (w : World) (K : PySem.W.Frag) (mg : Str → Option Value) (base : Heap) (n : Nm) (T : List (Addr × Str)) (tb : Tb) (ct : Ct) (fl : List FD) : Prop where
  sta : Sta K mg n tb ct
  nf : ct.nf = fl.length
  fn : ∀ (k : Nat) (f : FD), fl[k]? = some f → ct.fn k = f.d.at_
  fd : ∀ (k : Nat) (f : FD), fl[k]? = some f → ∃ fd, FunD K f.d.name f.d.qual f.d.params f.d.body f.d.scope (f.d.dvs K) (f.d.kws K) (He.fAd K f.d.at_) fd ∧ Binds K fd f.ps []
  ok : ∀ (k : Nat) (f : FD), fl[k]? = some f → fdB n tb ct f = true
  rs : RaisableK P w K mg base n ct 2
  hh : ∀ (k : Nat) (f : FD), fl[k]? = some f → f.hn.ok = true → ∀ (A : Around) (outer : List Env) (s : Shared) (H : Hp) (E : XK) (L : Nat) (cdv : Value), cdv = .ref (He.codeOf K f.d.at_) →
    Room (L + 3) (A.deeper (envOfC f.d.qual f.d.scope s.heap.objs.size (He.fAd K f.d.at_) cdv)) →
    HeardOk (cxOf (L2.CX P w) P w K mg base f.N f.d.qual f.d.scope (He.fAd K f.d.at_) cdv A outer s H E) ⟨K, n, T⟩ tb L E f.hn.nm f.d.scope
def FnsK (P : Program) (w : World) (K : PySem.W.Frag) (mg : Str → Option Value) (base : Heap) (g : G) (ct : Ct) (call : Nat → List D → Store → Res D) (L : Nat) : Prop := ∀ k, k < ct.nf → ∃ fd ps, FnOk P w K mg base (L2.CX P w) L (fAdr K ct k) fd ps (spD g (call k)) ∧ Binds K fd ps [] ∧ PySem.W.keepIn K (.ref (fAdr K ct k)) = true
section
variable {P : Program} {w : World} {K : PySem.W.Frag} {mg : Str → Option Value} {base : Heap} {n : Nm} {T : List (Addr × Str)} {tb : Tb} {ct : Ct} {fl : List FD}
theorem RaisableK.mono {j k : Nat} (R : RaisableK P w K mg base n ct j) (h : j ≤ k) : RaisableK P w K mg base n ct k := fun c hc => by
  obtain ⟨r1, r2, fI, fd, ps, r3, r4, r5, r6⟩ := R c hc
  exact ⟨r1, r2, fI, fd, ps, r3, r4, r5.mono h, r6⟩
theorem start_er {g : G} {m : List Addr} {H : Hp} {N : List Str} {ds : List D} {vs : List V} (r : Reps g.K m H ds vs) : ER g m H (ds.map some ++ List.replicate (N.length - ds.length) none) (L2.start N vs) := by
  have hl := r.length
  refine ⟨by unfold L2.start; simp [hl], fun i d h => ?_⟩
  unfold L2.start
  by_cases hi : i < ds.length
  · rw [List.getElem?_append_left (by simpa using hi), List.getElem?_map] at h
    obtain ⟨e, h1, h2⟩ := Option.map_eq_some_iff.mp h
    have e1 : e = d := by simpa using h2
    subst e1
    obtain ⟨v, q1, q2⟩ := r.get h1
    exact ⟨v, by rw [List.getElem?_append_left (by simp; omega), List.getElem?_map, q1]; rfl, q2⟩
  · rw [List.getElem?_append_right (by simp; omega)] at h
    obtain ⟨_, h2⟩ := List.getElem?_eq_some_iff.mp h
    simp at h2
theorem level_f (F : Facts P w K mg base n T tb ct fl) {j : Nat} (ih : FnsK P w K mg base ⟨K, n, T⟩ ct (callN tb fl j) (4 * j + 2)) {k : Nat} {f : FD} (hf : fl[k]? = some f) :
    ∃ fd, FunD K f.d.name f.d.qual f.d.params f.d.body f.d.scope (f.d.dvs K) (f.d.kws K) (He.fAd K f.d.at_) fd ∧ FnOk P w K mg base (L2.CX P w) (4 * (j + 1) + 2) (fAdr K ct k) fd f.ps (spD ⟨K, n, T⟩ (callN tb fl (j + 1) k)) ∧ Binds K fd f.ps [] ∧ PySem.W.keepIn K (.ref (fAdr K ct k)) = true := by
    obtain ⟨fd, F1, F2⟩ := F.fd k f hf
    refine ⟨fd, F1, ?_⟩
    have ef : ct.fn k = f.d.at_ := F.fn k f hf
    have hb := F.ok k f hf
    unfold fdB at hb
    rw [Bool.and_eq_true] at hb
    have Sc := scope_ok hb.1
    have ha : fAdr K ct k = He.fAd K f.d.at_ := by unfold fAdr; rw [ef]
    have hcall : ∀ ds S, callN tb fl (j + 1) k ds S = if ds.length = f.ps.length then runF tb (callN tb fl j) f.N.length f.b ds S else .bad := fun ds S => by
      show (match fl[k]? with | some f => if ds.length = f.ps.length then runF tb (callN tb fl j) f.N.length f.b ds S else .bad | none => .bad) = _
      rw [hf]
    refine ⟨?_, F2, by rw [ha]; exact F1.kp⟩
    rw [ha]
    obtain ⟨oc, od, dV, kV, doc, pm, an, cdv, ctv, osl, rfl, lk, hcd, _, _⟩ := F1.ex
    have ecd : cdv = .ref (He.codeOf K f.d.at_) := by
      obtain ⟨c, e⟩ := He.codeIn_ref hcd
      rw [e, He.codeOf_eq lk e]
    refine fn_of (k := 4 * j + 5) lk hcd Sc (fun vs H Q E h => ?_) fun A outer s H vs Q E hr h => ?_
    · obtain ⟨m, S, ds, sr, r, h⟩ := h
      rw [hcall] at h
      split at h
      · rename_i hz
        rw [r.length, hz]
      · exact (show False from h).elim
    · obtain ⟨m, S, ds, sr, r, h⟩ := h
      rw [hcall] at h
      split at h
      · rename_i hz
        have gd : Good (cxOf (L2.CX P w) P w K mg base f.N f.d.qual f.d.scope (He.fAd K f.d.at_) cdv A outer s H E) ⟨K, n, T⟩ tb ct (callN tb fl j) (4 * j + 2) f.N E true f.hn f.d.scope :=
          { hK := rfl, hN := rfl, nd := Sc.nd, calm := rfl, hsc := rfl, kind := Sc.kind, hfl := fun _ _ => rfl, sta := F.sta, fns := ih, room := hr.mono (by omega),
            pass := passes_call (takes_of rfl rfl rfl rfl) fun _ _ _ _ h => h
            heard := fun ho => F.hh k f hf ho A outer s H E (4 * j + 2) cdv ecd hr }
        have gs : GoodS (cxOf (L2.CX P w) P w K mg base f.N f.d.qual f.d.scope (He.fAd K f.d.at_) cdv A outer s H E) ⟨K, n, T⟩ tb ct (callN tb fl j) (4 * j + 2) f.N E f.hn f.d.scope :=
          { gd := gd, own := passes_of rfl, tk := takes_of rfl rfl rfl rfl, rs := F.rs.mono (by omega) }
        refine ⟨_, soundB gs f.b f.d.body hb.2, m, ds.map some ++ List.replicate (f.N.length - ds.length) none, S, sr, start_er r, ?_⟩
        have h' : ResOk ⟨K, n, T⟩ E m H ((exs tb (callN tb fl j) f.b (ds.map some ++ List.replicate (f.N.length - ds.length) none) S).bind fun x S1 => match x with
          | (.nx, _) => .ok .non S1
          | (.rt d, _) => .ok d S1) Q := h
        cases e : exs tb (callN tb fl j) f.b (ds.map some ++ List.replicate (f.N.length - ds.length) none) S with
        | exc c d S1 => rw [e] at h'; exact h'
        | bad => rw [e] at h'; exact h'
        | ok x S1 =>
          rw [e] at h'
          obtain ⟨fl', ρ'⟩ := x
          cases fl' with
          | nx => exact fun m' H' σ e1 s1 _ => h' m' H' _ e1 s1 mk_non
          | rt d => exact fun m' H' v e1 s1 r1 => h' m' H' v e1 s1 r1
      · exact (show False from h).elim
theorem levels (F : Facts P w K mg base n T tb ct fl) : ∀ j : Nat, FnsK P w K mg base ⟨K, n, T⟩ ct (callN tb fl j) (4 * j + 2)
  | 0, k, hk => by
    rw [F.nf] at hk
    obtain ⟨fd, F1, F2⟩ := F.fd k _ (List.getElem?_eq_getElem hk)
    have ef : ct.fn k = fl[k].d.at_ := F.fn k _ (List.getElem?_eq_getElem hk)
    refine ⟨fd, fl[k].ps, ⟨fun vs H Q E h => ?_, fun A outer s H args us vs Q E _ _ _ _ h => ?_⟩, F2, ?_⟩
    · obtain ⟨m, S, ds, _, _, h⟩ := h
      exact (show False from h).elim
    · obtain ⟨m, S, ds, _, _, h⟩ := h
      exact (show False from h).elim
    · unfold fAdr
      rw [ef]
      exact F1.kp
  | j + 1, k, hk => by
    rw [F.nf] at hk
    obtain ⟨fd, _, h⟩ := level_f F (levels F j) (List.getElem?_eq_getElem hk)
    exact ⟨fd, fl[k].ps, h⟩
end
end K76
set_option Elab.async false
set_option linter.all false
set_option maxRecDepth 100000
set_option autoImplicit false
set_option maxHeartbeats 8000000
/-! K7b: the exceptions' own __init__ (super().__init__(what); self.what = what) -/
namespace K76
open PySem PySem.Spec PyProof.Rows L2
/-- the text of __init__ -/
structure IniT (params : Arguments) (body : List Stmt) (sc : Scope) : Prop where
  par : plainP params ["self", "what"] = true
  bod : ∃ p0 p1 p2 p3 p4 p5 p6 p7 p8 p9, body = [.Expr (.Call (.Attribute (.Call (.Name "super" p0) [] [] p1) "__init__" p2) [.Name "what" p3] [] p4) p5, .Assign [.Attribute (.Name "self" p6) "what" p7] (.Name "what" p8) p9] ∧ (p2.endLine == p4.line) = true
  kind : sc.kind = .function
  co : sc.isCoroutine = false
  gen : sc.isGenerator = false
  l1 : sc.names.lookup ("self" : Str) = some .local
  l2 : sc.names.lookup ("what" : Str) = some .local
  l3 : sc.names.lookup ("super" : Str) = some .globalImplicit
  l4 : sc.names.lookup ("__class__" : Str) = some .free
  al : ∀ y ∈ sc.names, y.2 ≠ .cell ∧ (y.2 = .free → y.1 = "__class__")
theorem IniT.head {params : Arguments} {body : List Stmt} {sc : Scope} (T : IniT params body sc) : ∃ ar : Arg, (params.posonlyargs ++ params.args).head? = some ar ∧ ar.arg = "self" := by
  have h := T.par
  unfold plainP at h
  split at h
  · rename_i as
    simp only [Bool.and_eq_true, decide_eq_true_eq] at h
    cases as with
    | nil => cases h.1
    | cons a r =>
      refine ⟨a, rfl, ?_⟩
      have := h.1
      simp only [List.map_cons, List.cons.injEq] at this
      exact this.1
  · cases h
theorem sup_tree {o : Expr} {m : Str} {x : Str} {env : Env} {apos pos p : Pos} (h3 : (apos.endLine == pos.line) = true) :
    eval (.Call (.Attribute o m apos) [.Name x p] [] pos) env = (do
      let ov ← attributeBase o m env (eval o env)
      standAt apos.atName
      let (f, first) ← holding [ov] (getMethod ov m (do return (← importBound o env).getD true))
      callWith pos f first (backTo pos (starEach [.Name x p] env)) []) := by
  rw [arm_eval_Call]
  have hform : methodCallForm (([.Name x p] : List Expr).length + ([] : List Keyword).length) (backTo pos (starEach [.Name x p] env)) (backToKw pos (keywordEach [] env)) = true := few_ok rfl
  have hpos : methodCallPos true o env apos pos = pure pos := by unfold methodCallPos; simp [h3]
  unfold methodCall
  rw [hform, hpos]
  rfl
theorem iniT_by {params : Arguments} {body : List Stmt} {sc : Scope} (h : iniTB params body sc = true) : IniT params body sc := by
  unfold iniTB at h
  split at h
  · simp only [Bool.and_eq_true, Bool.or_eq_true, Bool.not_eq_true', decide_eq_true_eq, decide_eq_false_iff_not, List.all_eq_true] at h
    obtain ⟨h0, h1, h2, h3, h4, h5, h6, h7, h8, h9, h10, h11, h12, h13, h14, h15⟩ := h
    subst h1 h2 h3 h4 h5 h6
    refine ⟨h7, ⟨_, _, _, _, _, _, _, _, _, _, rfl, h0⟩, h8, h9, h10, h11, h12, h13, h14, fun y hy => ⟨(h15 y hy).1, fun e => ?_⟩⟩
    rcases (h15 y hy).2 with z | z
    · exact absurd e z
    · exact z
  · cases h
/-- what the written part says of __init__ at fI and the class D that owns it -/
structure IniK (P : Program) (K : PySem.W.Frag) (mg : Str → Option Value) (fI D cc : Addr) (qual : Str) (params : Arguments) (body : List Stmt) (sc : Scope) (fd : FuncData) : Prop where
  ex : ∃ (oc : Value) (od : Option Addr) (x : Str) (kV doc pm cdv ct : Value) (an : Option Addr) (osl : Array (Option Value)), fd = PySem.W.fnX x qual params body sc [("__class__", cc)] .none kV doc pm an cdv ct ∧ K.lookup fI = some ⟨oc, od, .func fd, osl⟩ ∧ PySem.W.codeIn K cdv qual = true ∧
    ∃ (co : Addr) (oo : Obj) (vs : Array Value) (file : Str) (tf : Tok), cdv = .ref co ∧ K.lookup co = some oo ∧ oo.data = .fields vs ∧ vs[2]? = some (.str file tf) ∧ ((P.main.file : Str) == file) = true
  top : (P.main.scope.names.lookup ("super" : Str)).isSome = false
  cel : ∃ o, K.lookup cc = some o ∧ o.data = .cell (some (.ref D))
  own : ∃ o cd, K.lookup D = some o ∧ o.data = .cls cd
  opq : PySem.W.nsIn K cStatics "thirdparty.any" = some none
  sup : mg "super" = none
/-- .. of each class -/
structure IniC (K : PySem.W.Frag) (D C : Addr) : Prop where
  oex : OexC K C
  sup : PySem.W.ks_superIn K C D "__init__" = some (some (.builtin "ValueError.__init__"))
  sub : PySem.W.subIn K (.ref C) (.type "ValueError") = some true
  what : PySem.W.findIn K (.ref C) "what" = some none
  mro : PySem.W.mroIn K C (.ref D) = some true
abbrev iniEnv (qual : Str) (sc : Scope) (L f cc : Addr) (cdv : Value) : Env := PySem.W.envX qual sc L f cdv [("__class__", cc)]
def iniCx (CX : CXT) (P : Program) (w : World) (K : PySem.W.Frag) (mg : Str → Option Value) (base : Heap) (qual : Str) (sc : Scope) (f cc : Addr) (cdv : Value) (A : Around) (outer : List Env) (s : Shared) (H : Hp) (E : XK) : Cx where
  prog := P
  w := w
  K := K
  mg := mg
  base := base
  A := A.deeper (iniEnv qual sc s.heap.objs.size f cc cdv)
  N := ["self", "what"]
  s_0 := s
  H_0 := H
  env := iniEnv qual sc s.heap.objs.size f cc cdv
  outer := outer
  stack := iniEnv qual sc s.heap.objs.size f cc cdv :: outer
  ex := []
  calm := true
  fn := fun _ => false
  pn := []
  xe := fun e s' => wpAny (model P w) (A.deeper (iniEnv qual sc s.heap.objs.size f cc cdv)) (leaving (iniEnv qual sc s.heap.objs.size f cc cdv) e) (fun _ s'' => CX outer H s E e s'') (fun e' s'' => CX outer H s E e' s'') s'
section
variable {P : Program} {w : World} {K : PySem.W.Frag} {mg : Str → Option Value} {base : Heap} {fI D cc : Addr} {qual : Str} {params : Arguments} {body : List Stmt} {sc : Scope} {fd : FuncData}
theorem bindX_any {x qual : Str} {as : List Arg} {body : List Stmt} {scope : Scope} (cl : List (Str × Addr)) (kV doc pm : Value) (an : Option Addr) (cdv ct : Value) (us : List Value) (hl : us.length = (as.map (·.arg)).length) (nd : (as.map (·.arg)).Nodup) :
    bindArgs (PySem.W.fnX x qual ⟨[], as, none, [], [], none, []⟩ body scope cl .none kV doc pm an cdv ct) ⟨us, []⟩ = pure ((as.map (·.arg)).zip us) := by
  unfold bindArgs
  have h1 : ((as.map (·.arg)).filter fun n => (((as.map (·.arg)).zip us).lookup n).isNone) = [] := by
    rw [List.filter_eq_nil_iff]
    intro n hn
    rw [zip_some hl n hn]
    exact Bool.false_ne_true
  have h2 : decide (us.length > (as.map (·.arg)).length) = false := by rw [decide_eq_false_iff_not]; omega
  have hs : seqItems? Value.none = pure none := rfl
  simp only [PySem.W.fnX, List.map_nil, List.nil_append, List.append_nil, List.forIn_nil, pure_bind, hs, Option.getD_none, List.toList_toArray, List.length_nil, List.drop_nil, Nat.sub_zero, List.take_length, h1, h2, List.zip_nil_right, List.isEmpty_nil, Bool.not_true, Bool.false_and, Bool.false_eq_true, if_false, fm_zip hl nd]
theorem ini_binds {K : PySem.W.Frag} {fI D cc : Addr} {qual : Str} {params : Arguments} {body : List Stmt} {sc : Scope} {fd : FuncData} (T : IniT params body sc) (IK : IniK P K mg fI D cc qual params body sc fd) : Binds K fd ["self", "what"] [] := by
  obtain ⟨oc, od, xn, kV, doc, pm, cdv, ctv, an, osl, rfl, _⟩ := IK.ex
  refine .all fun us hl => ?_
  have h := T.par
  unfold plainP at h
  split at h
  · rename_i as
    simp only [Bool.and_eq_true, decide_eq_true_eq] at h
    rw [← h.1]
    exact bindX_any _ kV doc pm an cdv ctv us (by rw [h.1]; exact hl) (by rw [h.1]; exact h.2)
  · cases h
theorem ini_start {CX : CXT} {A : Around} {outer : List Env} {s : Shared} {H : Hp} {E : XK} {h₀ : Heap} {tk : Nat} {cdv : Value} {a : Addr} {y : V} {uy : Value} (T : IniT params body sc) (hcc : ∃ o, K.lookup cc = some o ∧ o.data = .cell (some (.ref D))) (hd : A.handled = none) (e0 : Env0 P w K mg base A outer s H) (r : RelV y uy)
    (hns : h₀.Ns s.heap.objs.size (fun x => [(("self" : Str), Value.ref a), ("what", uy)].reverse.lookup x)) (kp : ∀ b o, s.heap.get? b = some o → h₀.get? b = some o) :
    Inv (iniCx CX P w K mg base qual sc fI cc cdv A outer s H E) [] [some (.ref a), some y] H { s with heap := h₀, toks := tk } := by
  have noA : ∀ b : Addr, b ∉ (iniCx CX P w K mg base qual sc fI cc cdv A outer s H E).ex := fun b z => absurd (show b ∈ ([] : List Addr) from z) (by simp)
  obtain ⟨oc, kc, dc⟩ := hcc
  have bc : base.get? cc = some oc := e0.mod.kin _ _ kc
  have cl : ∀ {x : Str} {c : Addr}, ([(("__class__" : Str), cc)]).lookup x = some c → c = cc ∧ x = "__class__" := fun {x c} e => by
    rw [List.lookup_cons] at e
    split at e
    · rename_i q
      exact ⟨(Option.some.inj e).symm, by simpa using q⟩
    · cases e
  refine ⟨⟨e0.mod, T.kind, rfl, rfl, Nat.le_refl _, fun y z c h1 h2 => ?_, fun y hy => ?_, fun y c z _ => ?_, fun _ => hd, Around.frames_deeper e0.frames, .inr ⟨rfl, rfl⟩, fun b z => absurd z (noA b), e0.bs, e0.bsz, fun b _ _ => noA b, fun b z => absurd z (noA b), e0.funs, e0.frf⟩,
    rfl, e0.bare, Un.kept kp, ⟨_, hns, fun i x v h1 h2 h3 => ?_⟩, fun x c h => ?_, e0.hok.fresh (Nat.le_refl _), fun x c h => ?_, fun p hp => absurd (show p ∈ ([] : List (Addr × Obj)) from hp) (by simp), e0.hok.kept kp, rfl⟩
  · rw [(cl h1).2, (cl h2).2]
  · have hy : sc.names.lookup y = some .cell ∨ sc.names.lookup y = some .free := hy
    rcases hy with hy | hy
    · exact absurd rfl (T.al _ (PySem.mem_of_lookup hy)).1
    · have e : y = "__class__" := (T.al _ (PySem.mem_of_lookup hy)).2 rfl
      subst e
      exact ⟨cc, rfl⟩
  · have z : false = true := z
    cases z
  · match i with
    | 0 =>
      have h1 : some ("self" : Str) = some x := h1
      have h2 : some (some (V.ref a)) = some (some v) := h2
      cases h1
      cases h2
      exact ⟨.ref a, rfl, .inl ⟨T.l1, rfl⟩⟩
    | 1 =>
      have h1 : some ("what" : Str) = some x := h1
      have h2 : some (some y) = some (some v) := h2
      cases h1
      cases h2
      exact ⟨uy, r, .inl ⟨T.l2, rfl⟩⟩
    | j + 2 =>
      have h1 : (none : Option Str) = some x := h1
      cases h1
  · obtain ⟨rfl, _⟩ := cl h
    exact ⟨_, oc, kp _ _ (e0.bs _ _ bc).1, dc⟩
  · obtain ⟨rfl, _⟩ := cl h
    exact (e0.bs _ _ bc).2
theorem ini_call {X : Cx} {pins : List (Addr × Obj)} {σ : L2.St} {H : Hp} {s : Shared} {E : Value → Shared → Prop} {A : Around} {Q : Value → Shared → Prop} {a C u : Addr} {us : List Value} (T : OexC X.K C) (I : Inv X pins σ H s) (e : H a = some (exo a C none)) (hu : s.heap.get? u = some (PySem.W.kxs_mw "ValueError.__init__" a))
    (hl : us.length ≤ sizeLine) (h : ∀ s', Inv X pins σ H s' → Q .none s') : wpAny (model X.prog X.w) A (call (.ref u) us) Q E s := by
  obtain ⟨nm, q, N, bs, bm, sn, sub, ab, col, dd, k0, k1, k2, k3, k5, hC, hbm⟩ := T.cls
  obtain ⟨t1, ho⟩ := exo_at I.hok e
  have hCC := I.kIn _ _ hC
  obtain ⟨hp, g, d, t, os⟩ := s
  refine wpAny_call (codeAny_of_tree ?_)
  show wpAny _ A.in1 (callAny (.ref u) ⟨us, []⟩) _ _ _
  simp only [callAny]
  refine wpAny_bind (wpAny_load hu ?_)
  simp only [PySem.W.kxs_mw, show (Value.type "method-wrapper" == Value.type "method" || Value.type "method-wrapper" == Value.type "builtin_function_or_method" || Value.type "method-wrapper" == Value.type "method-wrapper") = true by decide, if_true]
  refine PySem.W.KFB.if_so (by decide) ?_
  refine wpAny_bind (PySem.W.check_bound_init PySem.F.excBase_ValueError.toExcCallFacts hCC ho rfl ?_)
  refine wpAny_bind (wpAny_pure (wpAny_pure ?_))
  refine ⟨plainId_quiet PySem.F.excBase_ValueError.init.plain _, codeAny_builtin PySem.F.excBase_ValueError.initEntry ?_⟩
  rw [Around.under_plainId PySem.F.excBase_ValueError.init.plain _]
  have fin : ∀ (h' : Heap) (t2 : Addr), (∀ b o, b ≠ a → hp.get? b = some o → h'.get? b = some o) → h'.get? a = some ({ cls := .ref C, dict := none, data := .fields #[.ref t2, .none, .none, .none, .bool false, .none] } : Obj) → Q .none ⟨h', g, d, t, os⟩ := fun h' t2 k hx => by
    have J := I.write (t' := t) (x := a) (e := a) (o := exo a C none) (by rw [e]; exact True.intro) (.inl rfl) k ⟨_, hx⟩ (exo_ok hx)
    have eu : upd H a (exo a C none) = H := by
      funext b
      by_cases hb : b = a
      · rw [hb, upd_same, e]
      · rw [upd_ne hb]
    rw [eu] at J
    exact h _ J
  wp_walk
  refine fin _ hp.objs.size (fun b o hb ho => ?_) ?_
  · rw [Heap.get?_update_other _ _ (Ne.symm hb)]
    exact Heap.get?_push_of_some _ ho
  · rw [Heap.get?_update_self _ (Heap.get?_push_of_some _ ho) rfl]
    rfl
theorem ini_ok {n : Nm} {ct : Ct} (T : IniT params body sc) (IK : IniK P K mg fI D cc qual params body sc fd) (IC : ∀ c, ct.isE c = true → IniC K D (He.ga K (n.cls c))) :
    FnOk P w K mg base (L2.CX P w) 1 fI fd ["self", "what"] (spInit K n ct.isE) := by
  obtain ⟨oc, od, xn, kV, doc, pm, cdv, ctv, an, osl, rfl, lk, hcd, co, oo, vs0, file, tf, rfl, lco, doo, hvs, hfile⟩ := IK.ex
  refine ⟨fun vs H Q E h => by obtain ⟨a, c, y, rfl, _⟩ := h; rfl, fun A outer s H args us vs Q E hr e0 hb r h => ?_⟩
  obtain ⟨a, c, y, rfl, hE, ha, hq⟩ := h
  have C := IC c hE
  obtain ⟨p0, p1, p2, p3, p4, p5, p6, p7, p8, p9, rfl, hln⟩ := T.bod
  cases r with
  | @cons _ u0 _ ur ra r2 =>
    cases r2 with
    | @cons _ uy _ _ ry r3 =>
      cases r3
      obtain rfl : u0 = Value.ref a := ra
      have KX : K.In s.heap := e0.mod.kin.keeps fun b o e => (e0.bs b o e).1
      have lim : s.heap.NoLimit := e0.mod.nolimit.keeps fun b o e => (e0.bs b o e).1
      refine ks_codeAny_call_defAt (binds := [("self", .ref a), ("what", uy)]) hr.depth (KX _ _ lk) rfl lim (PySem.W.codeRec_of KX hcd) rfl hb (fun x hx => (T.al x hx).1) (fun x hx => ?_) (fun h₀ hns kp => ?_) T.co T.gen T.kind
      · rcases List.mem_cons.mp hx with z | hx
        · rw [z]; exact T.l1
        · rcases List.mem_cons.mp hx with z | hx
          · rw [z]; exact T.l2
          · cases hx
      have I := ini_start (CX := L2.CX P w) (fI := fI) (qual := qual) (cdv := .ref co) (E := E) (tk := s.toks + [(("self" : Str), Value.ref a), ("what", uy)].length) T IK.cel hr.hd e0 ry hns kp
      obtain ⟨ar, har, ean⟩ := T.head
      have hX : ∀ {pins : List (Addr × Obj)} {σ : L2.St} {H' : Hp} {s' : Shared}, Inv (iniCx (L2.CX P w) P w K mg base qual sc fI cc (.ref co) A outer s H E) pins σ H' s' → K.In s'.heap := fun J => J.kIn
      obtain ⟨oD, cdD, kD, hDt⟩ := IK.own
      obtain ⟨oc2, kc, dc⟩ := IK.cel
      obtain ⟨t1, hax⟩ := exo_at I.hok ha
      refine ks_wpAt_execs_cons (ks_wpAt_Expr_any (hi := by unfold interactive; rw [show (callEnv (PySem.W.fnX xn qual params _ sc [("__class__", cc)] .none kV doc pm an (.ref co) ctv) s.heap.objs.size fI).scope.kind = _ from T.kind]; rfl) (ks_wpAt_MethodCall (he := sup_tree hln) (ks_wpAt_super_base (f := fI) (cc := co) (ar := ar) T.l3 T.l4 (by decide) rfl (hX I _ _ lk) rfl har rfl (hX I _ _ lco) doo hvs hfile IK.top ?_)))
      obtain ⟨mb, hb1, hb2⟩ := e0.mod.blt
      refine PySem.W.ks_loadName_global T.kind T.l3 (Calls.loadGlobal_builtin (I.mod.glob.keeps I.bk) IK.sup (hb1.keeps I.bk) ((hb2 "super" (by decide)).trans (by decide +kernel : bootBuiltins "super" = some (.type "super"))) ⟨rfl, ?_⟩)
      refine wpAny_loadName_free (c := cc) (v := .ref D) T.kind T.l4 rfl ⟨oc2, hX I _ _ kc, dc⟩ ?_
      rw [ean]
      refine wpAny_loadName_local (v := .ref a) T.kind T.l1 hns rfl ?_
      refine ks_wpAny_isType_cls (hX I _ _ kD) hDt ⟨rfl, ?_⟩
      refine ks_wpAny_call_super (hX I _ _ kD) hDt hax rfl (fun c z => by cases z) (PySem.W.looks_mroIn (hX I) C.mro) fun h1 hso k1 => ?_
      have I1 := I.kept (t' := s.toks + [(("self" : Str), Value.ref a), ("what", uy)].length) k1
      cases hcd2 : PySem.W.clsIn K (He.ga K (n.cls c)) with
      | none =>
        have q := C.sup
        unfold PySem.W.ks_superIn at q
        rw [hcd2] at q
        cases q
      | some cdC =>
      have hsup := C.sup
      unfold PySem.W.ks_superIn at hsup
      rw [hcd2] at hsup
      have IA : PySem.W.InstAt h1 a _ (He.ga K (n.cls c)) none := ⟨k1 _ _ hax, rfl, rfl, True.intro⟩
      refine PySem.W.kxs_getMethod PySem.W.kxs_ValueError hso (PySem.W.looks_opaque (hX I1) IK.opq) (l₀ := cdC.mro) ?_ rfl (hX I1) hsup (IA.type.andThen (PySem.W.looks_subIn (hX I1) C.sub)) (PySem.W.ks_ne (hX I1) IA hcd2) (by decide) ?_
      · exact fun A Q E s k q => wpAny_bind ((PySem.W.looks_clsIn (hX I1) hcd2) A _ E s k (wpAny_pure q))
      have I2 := I1.kept (t' := s.toks + [(("self" : Str), Value.ref a), ("what", uy)].length + 1) (h' := h1.push (PySem.W.kxs_mw "ValueError.__init__" a)) fun b o e => Heap.get?_push_of_some _ e
      have hu2 : (h1.push (PySem.W.kxs_mw "ValueError.__init__" a)).get? h1.objs.size = some (PySem.W.kxs_mw "ValueError.__init__" a) := Heap.get?_push_at rfl rfl
      have I3 := I2.pins_of (pins' := [(h1.objs.size, PySem.W.kxs_mw "ValueError.__init__" a)]) fun p hp => by
        have e : p = (h1.objs.size, PySem.W.kxs_mw "ValueError.__init__" a) := by simpa using hp
        subst e
        exact ⟨hu2, I1.hok.fresh (Nat.le_refl _), Nat.ne_of_gt I1.lt, I1.nofs (Nat.le_refl _), fun v z => by cases z⟩
      refine PySem.W.kxs_callWith (i := "ValueError.__init__") (x := a) (by rw [starEach_nst rfl]; rfl) ?_
      rw [starEach_nst rfl]
      refine Calls.evalArgs_plain ?_
      have pav := pa_cons (X := iniCx (L2.CX P w) P w K mg base qual sc fI cc (.ref co) A outer s H E) (pe_var (i := 1) (x := "what") (pos := p3) rfl (.inl T.l2)) pa_nil (starEach_nst rfl)
      refine thn (pav.run p4 _ _ _ H (fun vs H1 => vs = [y] ∧ H1 = H) I3 ⟨y, rfl, rfl, rfl⟩) fun us1 s1 ⟨vs1, H1, J, rv, ev, eH⟩ => ?_
      subst ev
      rw [eH] at J
      refine ⟨(J.pin _ (List.mem_append_right _ (List.mem_singleton.mpr rfl))).1, ini_call C.oex J ha (J.pin _ (List.mem_append_right _ (List.mem_singleton.mpr rfl))).1 (by show us1.length ≤ sizeLine; rw [← rv.length, sizeLine_eq]; show 1 ≤ 16777216; omega) fun s2 J2 => ?_⟩
      refine ks_wpAt_execs_cons (wpAt_of_wpAny (thn ((ps_ost (X := iniCx (L2.CX P w) P w K mg base qual sc fI cc (.ref co) A outer s H E) (f := "what") (p' := p7) (pos := p9) (pe_var (i := 0) (x := "self") (pos := p6) rfl (.inl T.l1)) (pe_var (i := 1) (x := "what") (pos := p8) rfl (.inl T.l2)) (swapsN rfl)).run _ s2 _ H { nx := fun _ H' => Q .non H', rt := fun _ _ => False } J2
        ⟨y, rfl, .ref a, rfl, a, _, rfl, C.oex, C.what, .inl ⟨ha, fun dx h1 h2 => hq dx h1 h2⟩⟩) fun fl s3 hs => ?_))
      cases fl with
      | next =>
        obtain ⟨σ', H', J3, q⟩ := hs
        refine wpAt_of_wpAny ?_
        rw [execs_nil]
        exact wpAny_pure ⟨.non, H', J3.os, J3.bare, J3.base, J3.hok, rfl, q⟩
      | ret u =>
        obtain ⟨_, _, _, _, _, q⟩ := hs
        exact q.elim
      | brk =>
        obtain ⟨_, _, _, q⟩ := hs
        exact q.elim
      | cont =>
        obtain ⟨_, _, _, q⟩ := hs
        exact q.elim
end
end K76
set_option Elab.async false
set_option linter.all false
set_option maxRecDepth 100000
set_option autoImplicit false
set_option maxHeartbeats 8000000
/-! K7c: try with clauses 'except C as n', and the rule of the def that hears a lambda -/
namespace K76
open PySem PySem.Spec PyProof.Rows L2
/-- what the clauses wish, one after the other; slot i is the name's -/
def wAsL (K : PySem.W.Frag) (i : Nat) (Wout : WX) (D : Ends) : List (Value × (Addr → Value → Option Addr → TS)) → WX
  | [] => Wout
  | (c, ts) :: r => fun cls d σ H => ∃ b, PySem.W.exmOne K cls c = some b ∧ (b = true → ∀ a, H a = none → i < σ.length → ts a cls d { nx := fun σ' H' => D.nx (σ'.set i none) H', rt := D.rt, bk := fun σ' H' => D.bk (σ'.set i none) H', ct := fun σ' H' => D.ct (σ'.set i none) H' } (σ.set i (some (.ref a))) H) ∧
      (b = false → wAsL K i Wout D r cls d σ H)
inductive HdsAs (X : Cx) (n : Str) : List ExceptHandler → List (Value × (Addr → Value → Option Addr → TS)) → Prop
  | nil : HdsAs X n [] []
  | cons {x : Str} {c : Value} {ts : Addr → Value → Option Addr → TS} {b₀ : Stmt} {suite : List Stmt} {np pos' : Pos} {hds : List ExceptHandler} {l : List (Value × (Addr → Value → Option Addr → TS))} (hc : Names X x c)
      (hsu : ∀ (a : Addr) (oe : Obj) (cls : Value) (d : Option Addr) (pn : List (Addr × Obj)), Zc cls d oe → (∃ vs, oe.data = .fields vs) → PSs (X.suite a ((a, oe) :: pn)) (b₀ :: suite) (ts a cls d)) (r : HdsAs X n hds l) :
      HdsAs X n (.ExceptHandler (some (.Name x np)) (some n) (b₀ :: suite) pos' :: hds) ((c, ts) :: l)
section
variable {X : Cx} {n : Str} {i : Nat} {body : List Stmt} {h₀ : ExceptHandler} {hds : List ExceptHandler} {l : List (Value × (Addr → Value → Option Addr → TS))} {pos : Pos} {tb : WX → TS} {Wout : WX}
theorem ps_try_asl (hs : X.stack = X.env :: X.outer) (hf : X.env.frame = some X.env.locals) (hN : X.N.Nodup) (hi : X.N[i]? = some n) (hln : X.env.kindOf n = some .local) (tk : Takes X Wout)
    (hb : ∀ (W : WX) (pn : List (Addr × Obj)) (xe : Value → Shared → Prop), Takes (X.tr pn xe) W → PassesOwn (model X.prog X.w) X.A X.env xe → PSs (X.tr pn xe) body (tb W))
    (hh : HdsAs X n (h₀ :: hds) l) : PS X (.Try body (h₀ :: hds) [] [] pos) (fun D σ H => tb (wAsL X.K i Wout D l) D σ H) := by
  refine ⟨fun pins s σ H D I h => ?_⟩
  have ok := I.ok
  have hfr : X.A.frames = some (X.env :: X.outer) := by rw [ok.frames, hs]
  have hloc : Loc X.env.scope n := .inl hln
  refine wpAny_Try_except ?_
  refine wpAny_mono ((hb (wAsL X.K i Wout D l) (X.pn ++ pins) (fun e s₁ => wpAny (model X.prog X.w) X.A (noteFrame e X.env) (fun _ s₂ => wpAny (model X.prog X.w) X.A (setFlight e none) (fun _ s₃ =>
    wpAny (model X.prog X.w) X.A (handleBy e X.env (h₀ :: hds)) (SP X pins D) X.xe s₃) X.xe s₂) X.xe s₁) (fun u s' xx => ?_) PassesOwn.looking).run [] s σ H D (I.toTry _) h) (fun f s1 hsp => ?_) (fun e s1 he => he)
  · obtain ⟨a, B, sI, pins', σ', H', cls, d, rfl, J', nb, up, sky, na, os, ag, w⟩ := xx
    have J : Inv X pins σ' H' sI := J'.ofTry ok
    have sky' : Sky B (X.env :: X.outer) a (Zc cls d) X.env.locals s'.heap := by rw [← hs]; exact sky
    show wpAny (model X.prog X.w) X.A (noteFrame (.ref a) X.env) _ _ _
    refine Sky.land Zc.steady hfr hf sky' fun h3 fl3 up3 => ?_
    have J3 : Inv X pins σ' H' { s' with heap := h3 } := J.landed nb fl3.1 (up.trans up3) os ag
    obtain ⟨oe3, vs3, he3, hz3, hd3⟩ := fl3.there
    have notFr : ∀ {h : Heap} {o : Obj} {vs : Array Value}, h.FunFrames B (X.env :: X.outer) → h.get? a = some o → o.data = .fields vs → a ∉ frs (X.env :: X.outer) := fun {h o vs} ff e dd hm => by
      obtain ⟨_, o', e', hnf⟩ := ff.mem hm
      rw [e] at e'; cases e'
      exact hnf _ dd
    have nfr := notFr fl3.2.2.1 he3 hd3
    have nL : a ≠ X.env.locals := fun z => nfr (List.mem_filterMap.mpr ⟨X.env, List.mem_cons_self, by rw [hf, z]⟩)
    have nF : a ∉ X.fs := fun hm => by
      obtain ⟨e, he, q⟩ := List.mem_filterMap.mp hm
      exact nfr (List.mem_filterMap.mpr ⟨e, List.mem_cons_of_mem _ he, q⟩)
    have S3 := J3.suite he3 hd3 na nL nF
    have go : ∀ {hds' : List ExceptHandler} {l' : List (Value × (Addr → Value → Option Addr → TS))}, HdsAs X n hds' l' → wAsL X.K i Wout D l' cls d σ' H' →
        wpAny (model X.prog X.w) X.A (handleBy (.ref a) X.env hds') (SP X pins D) X.xe { s' with heap := h3 } := by
      intro hds' l' hk
      induction hk with
      | nil =>
        intro w
        refine wpAny_handleBy_nil ?_
        obtain ⟨k1, k2, k3, oe, vs, T, oT, ts', he, hz, hd, h1, hr⟩ := id fl3
        unfold PySem.passOn
        refine wpAny_bind (wpAny_field he hd h1 ?_)
        rw [if_neg (show ¬ ((Value.ref T == Value.none) = true) from by simp)]
        have fin : wpAny (model X.prog X.w) X.A (setFlight (.ref a) X.env.frame) (fun _ s4 => wpAny (model X.prog X.w) X.A (throw (.ref a) : Sem Flow) (SP X pins D) X.xe s4) X.xe { s' with heap := h3 } := by
          rw [hf]
          refine HandSPX.setFlight_upZ fl3 fun h4 hh4 up4 => wpAny_throw (tk _ _ ?_)
          exact ⟨a, B, sI, pins, σ', H', cls, d, rfl, J, nb, (up.trans up3).trans up4, .inr (.inr (by rw [hs]; exact hh4)), na, os, ag, w⟩
        first
          | exact wpAny_bind (wpAny_pure (wpAny_bind fin))
          | exact wpAny_bind fin
      | @cons x c ts b₀ suite np pos' hds2 l2 hc hsu r ih =>
        intro w
        obtain ⟨b, hb1, hyes, hno⟩ := w
        refine wpAny_handleBy_cons (codeAny_handlers_test ?_) (by intro q; cases q)
        have LT : PySem.W.Looks (model X.prog X.w) h3 (typeOf (.ref a)) cls := fun A Q E s k q => wpAny_typeOf_ref (k _ _ he3) (by rw [hz3.1]; exact q)
        have LM := PySem.W.exm_one (M := model X.prog X.w) (J3.kIn) LT hb1
        have test : ∀ {Q : Value → Shared → Prop} {E : Value → Shared → Prop}, Q c { s' with heap := h3 } → wpAny (model X.prog X.w) (X.A.mark (some (.ref a))) (eval (.Name x np) X.env) Q E { s' with heap := h3 } := fun {Q E} q => by
          obtain ⟨hg, hdbg, hm | ⟨hm, hv, hnn⟩⟩ := hc
          · exact ld_glob (X := X.suite a ((a, oe3) :: (X.pn ++ pins))) S3 hg hm q hdbg
          · exact ld_blt (X := X.suite a ((a, oe3) :: (X.pn ++ pins))) S3 hg hm hv q hnn hdbg
        refine test (LM.here ?_)
        cases b with
        | true =>
          refine codeAny_handlers_suite_as ?_
          refine HandSPX.lands_againZ fl3 fun h4 fl4 up4 => ?_
          have J4 : Inv X pins σ' H' { s' with heap := h4 } := J.landed nb fl4.1 ((up.trans up3).trans up4) os ag
          obtain ⟨oe4, vs4, he4, hz4, hd4⟩ := fl4.there
          have S4 := J4.suite he4 hd4 na nL nF
          refine store_ok (X := X.suite a ((a, oe4) :: (X.pn ++ pins))) (v := .ref a) S4 hN hi hloc rfl (fun s5 S5 => ?_) (.inr hln)
          refine wpAny_mono ((hsu a oe4 cls d (X.pn ++ pins) hz4 ⟨_, hd4⟩).run [] s5 _ H' _ S5 (hyes rfl a na (by rw [J.len]; exact (List.getElem?_eq_some_iff.mp hi).1))) (fun f s6 hsp => ?_) (fun _ _ z => False.elim z)
          have end_ : ∀ {σ6 : L2.St} {H6 : Hp} {Q : Shared → Prop}, Inv (X.suite a ((a, oe4) :: (X.pn ++ pins))) [] σ6 H6 s6 → (∀ s7, Inv X pins (σ6.set i none) H6 s7 → Q s7) →
              wpAny (model X.prog X.w) X.A (do bindName X.env n .none; unbindBehindTheSuite X.env n pos') (fun _ s7 => Q s7) X.xe s6 := fun {σ6 H6 Q} S6 hq => gone_ok (S6.unsuite ok) hN hi hln hq
          cases f with
          | next =>
            obtain ⟨σ6, H6, S6, q6⟩ := hsp
            exact end_ S6 fun s7 J7 => ⟨_, _, J7, q6⟩
          | brk =>
            obtain ⟨σ6, H6, S6, q6⟩ := hsp
            exact end_ S6 fun s7 J7 => ⟨_, _, J7, q6⟩
          | cont =>
            obtain ⟨σ6, H6, S6, q6⟩ := hsp
            exact end_ S6 fun s7 J7 => ⟨_, _, J7, q6⟩
          | ret u =>
            obtain ⟨v6, σ6, H6, S6, r6, q6⟩ := hsp
            exact end_ S6 fun s7 J7 => ⟨_, _, _, J7, r6, q6⟩
        | false =>
          show wpAny _ X.A (handleBy (.ref a) X.env hds2) _ _ _
          exact ih (hno rfl)
    exact go hh w
  · cases f with
    | next =>
      obtain ⟨σ', H', J', q⟩ := hsp
      exact wpAny_execs_nil ⟨σ', H', J'.ofTry ok, q⟩
    | brk =>
      obtain ⟨σ', H', J', q⟩ := hsp
      exact ⟨σ', H', J'.ofTry ok, q⟩
    | cont =>
      obtain ⟨σ', H', J', q⟩ := hsp
      exact ⟨σ', H', J'.ofTry ok, q⟩
    | ret u =>
      obtain ⟨v, σ', H', J', r, q⟩ := hsp
      exact ⟨v, σ', H', J'.ofTry ok, r, q⟩
end
/-! ### the hearing def -/
/-- the clauses' text: the class's name and the text that they tell -/
def hd1B (n y t : Str) : ExceptHandler → Bool
  | .ExceptHandler (some (.Name x _)) (some n1) [.Return (some (.Tuple [.Constant (.str t1) _ _, .Attribute (.Name n2 _) f _] _ _)) _] _ => decide (x = y) && (decide (n1 = n) && (decide (t1 = t) && (decide (n2 = n) && decide (f = "what"))))
  | _ => false
def hdsB (n : Str) : List ExceptHandler → List (Str × Str) → Bool
  | [], [] => true
  | h :: r, p :: l => hd1B n p.1 p.2 h && hdsB n r l
  | _, _ => false
def hearBodyB (a n : Str) (hs : List (Str × Str)) : List Stmt → Bool
  | [.Try [.Return (some (.Call (.Name a1 _) [] [] _)) _] (h :: hds) [] [] _] => decide (a1 = a) && hdsB n (h :: hds) hs
  | _ => false
def EHear (K : PySem.W.Frag) (hs : List (Addr × Str)) (Q : VK) : XK := fun cls d H' => ∃ (t : Str) (C dx : Addr) (v : V), cls = .ref C ∧ XfC K C ∧ PySem.W.findIn K (.ref C) "what" = some none ∧ hdTag K cls hs = some t ∧ d = some dx ∧ H' dx = some (.xd [("what", v)]) ∧ ∀ a, H' a = none → Q (.ref a) (upd H' a (.tup [.str t, v]))
def TTh (K : PySem.W.Frag) (hs : List (Addr × Str)) : (XK → Hp → VK → Prop) → Hp → VK → Prop := fun tl H Q => tl (EHear K hs Q) H Q
/-- one clause's suite -/
def tsHear (K : PySem.W.Frag) (i : Nat) (t : Str) : Addr → Value → Option Addr → TS := fun a cls d D σ H => ∃ C, cls = .ref C ∧ XfC K C ∧ PySem.W.findIn K (.ref C) "what" = some none ∧ tRet (tTup (tCons (L2.tC (V.str t)) (tCons (tXf a cls d C "what" (tVar i)) tNil))) D σ H
theorem suite_hear {X : Cx} {n2 : Str} {i : Nat} {a : Addr} {oe : Obj} {cls : Value} {d : Option Addr} {pn : List (Addr × Obj)} {q3 q4 q5 q6 q7 : Pos} {C : Addr} {t : Str} {jj : Nat} {kk : Nat} (T : XfC X.K C) (hno : PySem.W.findIn X.K (.ref C) "what" = some none)
    (hz : Zc cls d oe) (hf : ∃ vs, oe.data = .fields vs) (pv : PE (X.suite a ((a, oe) :: pn)) (.Name n2 q3) (tVar i)) : PSs (X.suite a ((a, oe) :: pn)) [.Return (some (.Tuple [.Constant (.str t) jj q6, .Attribute (.Name n2 q3) "what" q4] kk q5)) q7] (tRet (tTup (tCons (L2.tC (V.str t)) (tCons (tXf a cls d C "what" (tVar i)) tNil)))) := by
  have h1 := pe_xf (pos := q4) T hno hz hf pv (attrBase rfl)
  have h2 := pa_cons h1 pa_nil (starEach_nst rfl)
  have h3 := pa_cons (pe_str (x := t) (j := jj) (pos := q6)) h2 (starEach_nst rfl)
  have h4 := pe_tup (x1 := kk) (pos := q5) h3
  exact pss_one (ps_ret h4)
theorem suite_hear2 {X : Cx} {n2 : Str} {i : Nat} {a : Addr} {oe : Obj} {cls : Value} {d : Option Addr} {pn : List (Addr × Obj)} {q3 q4 q5 q6 q7 : Pos} {t : Str} {jj : Nat} {kk : Nat}
    (hz : Zc cls d oe) (hf : ∃ vs, oe.data = .fields vs) (pv : PE (X.suite a ((a, oe) :: pn)) (.Name n2 q3) (tVar i)) : PSs (X.suite a ((a, oe) :: pn)) [.Return (some (.Tuple [.Constant (.str t) jj q6, .Attribute (.Name n2 q3) "what" q4] kk q5)) q7] (tsHear X.K i t a cls d) := by
  refine ⟨fun pins s σ H D I h => ?_⟩
  obtain ⟨C, e, T, hno, h⟩ := h
  subst e
  exact (suite_hear T hno hz hf pv).run pins s σ H D I h
theorem hds_as {X : Cx} {n : Str} {i : Nat} (hN : X.N[i]? = some n) (hv : Vis X.env.scope n) (hd : (n == ("__debug__" : Str)) = false) (hcd : (n == ("__classdict__" : Str)) = false) (cd : Str → Addr) :
    ∀ {hds : List ExceptHandler} {hs : List (Str × Str)}, hdsB n hds hs = true → (∀ p ∈ hs, Names X p.1 (.ref (cd p.1))) → HdsAs X n hds (hs.map fun p => (.ref (cd p.1), tsHear X.K i p.2))
  | [], [], _, _ => .nil
  | [], _ :: _, h, _ => by cases h
  | _ :: _, [], h, _ => by cases h
  | h0 :: hds, p :: hs, h, hn => by
    unfold hdsB at h
    rw [Bool.and_eq_true] at h
    obtain ⟨h1, h6⟩ := h
    unfold hd1B at h1
    split at h1
    · rename_i x q1 n1 t1 j q2 n2 q3 f q4 k q5 q6
      simp only [Bool.and_eq_true, decide_eq_true_eq] at h1
      obtain ⟨e1, e2, e3, e4, e5⟩ := h1
      subst e1 e2 e3 e4 e5
      exact .cons (hn _ (List.mem_cons_self ..)) (fun a oe cls d pn hz hf => suite_hear2 hz hf (pe_var (X := X.suite a ((a, oe) :: pn)) hN hv hd hcd)) (hds_as hN hv hd hcd cd h6 fun p hp => hn p (List.mem_cons_of_mem _ hp))
    · cases h1
theorem ehear_w {K : PySem.W.Frag} (cd : Str → Addr) {Q : VK} {cls : Value} {d : Option Addr} {σ : L2.St} {H : Hp} {nx : L2.St → Hp → Prop} : ∀ {hs : List (Str × Str)}, EHear K (hs.map fun p => (cd p.1, p.2)) Q cls d H →
    wAsL K 1 (fun _ _ _ _ => False) { nx := nx, rt := Q } (hs.map fun p => (.ref (cd p.1), tsHear K 1 p.2)) cls d σ H
  | [], h => by
    obtain ⟨t, C, dx, v, _, _, _, h4, _⟩ := h
    cases h4
  | p :: hs, h => by
    obtain ⟨t, C, dx, v, h1, h2, h3, h4, h5, h6, h7⟩ := h
    rw [List.map_cons] at h4
    unfold hdTag at h4
    rw [List.map_cons]
    unfold wAsL
    cases e : PySem.W.exmOne K cls (.ref (cd p.1)) with
    | none => rw [e] at h4; cases h4
    | some b =>
      refine ⟨b, rfl, fun hb a ha hl => ?_, fun hb => ?_⟩
      · subst hb
        rw [e] at h4
        have h4 : some p.2 = some t := h4
        cases h4
        refine ⟨C, h1, h2, h3, .ref a, by rw [List.getElem?_set_self hl], rfl, h1, dx, _, v, h5, h6, by rw [lookup_put, if_pos rfl], ?_, fun q hq => h7 q hq⟩
        show 2 ≤ sizeLine
        rw [sizeLine_eq]
        omega
      · subst hb
        rw [e] at h4
        exact ehear_w cd ⟨t, C, dx, v, h1, h2, h3, h4, h5, h6, h7⟩
section
variable {X : Cx}
theorem hear_gives {Ng : List Str} {x a n q : Str} {sg : Scope} {g : Addr} {cdg : Value} {bg : List Stmt} {hs : List (Str × Str)} {cd : Str → Addr} (hb : hearBodyB a n hs bg = true) (hNg : Ng = [a, n]) (nd : Ng.Nodup) (hln : sg.names.lookup n = some .local) (hd : (n == ("__debug__" : Str)) = false) (hcd : (n == ("__classdict__" : Str)) = false)
    (hc : ∀ p ∈ hs, sg.names.lookup p.1 = some .globalImplicit ∧ (p.1 == ("__debug__" : Str)) = false ∧ X.mg p.1 = some (.ref (cd p.1))) : LamX.GivesTo X Ng x sg g cdg bg a q (TTh X.K (hs.map fun p => (cd p.1, p.2))) := by
  intro f c' s H Q tl act hco h
  unfold hearBodyB at hb
  split at hb
  · rename_i a1 p1 p2 p3 h0 hds p8
    rw [Bool.and_eq_true, decide_eq_true_eq] at hb
    obtain ⟨rfl, hb⟩ := hb
    subst hNg
    have HA := hds_as (X := (cxOf C8.CX0 X.prog X.w X.K X.mg X.base [a1, n] x sg g cdg X.A X.stack s H C8.E0).nox) (i := 1) (n := n) rfl (.inl hln) hd hcd cd hb fun p hp => ⟨(hc p hp).1, (hc p hp).2.1, .inl (hc p hp).2.2⟩
    refine ⟨_, pss_one (ps_try_asl (X := (cxOf C8.CX0 X.prog X.w X.K X.mg X.base [a1, n] x sg g cdg X.A X.stack s H C8.E0).nox) (i := 1) (n := n)
      (tb := fun W D σ H => ∃ Ech : XK, (∀ cls d σ' H', Ech cls d H' → W cls d σ' H') ∧ σ[0]? = some (some (.ref f)) ∧ H c' = some (LamX.CodeO c' q) ∧ tl Ech H D.rt)
      rfl rfl nd rfl hln LamX.takes0 (fun W pn xe tk _ => ?_) HA), ?_⟩
    · refine ⟨fun pins s' σ H' D I h' => ?_⟩
      obtain ⟨Ech, hW, h1, h2, h3⟩ := h'
      have hp := act W pn xe Ech p1 p2 tk hW
      have hq := pss_one (ps_ret (pos := p3) hp)
      exact hq.run pins s' σ H' D I ⟨h1, h2, h3⟩
    · exact ⟨EHear X.K (hs.map fun p : Str × Str => (cd p.1, p.2)) Q, fun cls d σ' H' hh => ehear_w (K := X.K) cd hh, rfl, hco, h⟩
  · cases hb
end
theorem extN_ext {g : G} {m : List Addr} {S : Store} {H H1 : Hp} (sr : SR g m S H) (e : LamX.ExtN H H1) (t : LamX.Tabs g.T H1) : Ext m H m H1 ∧ SR g m S H1 := by
  have x : Ext m H m H1 := ⟨⟨[], by simp, by simp⟩, fun a o h _ ht => e a o h ht, fun a h o ho => by
    by_cases q : ∃ ps, o = HO.tbl ps
    · exact q
    · exact h o (e a o ho fun ps z => q ⟨ps, z⟩)⟩
  refine ⟨x, sr.len, sr.nd, fun i a mo h1 h2 => ?_, t⟩
  have r := MRep.kpt (x.kpt sr) mo _ (sr.at_ i a mo h1 h2)
  cases q : H a with
  | none => exact absurd q (sr.there (List.mem_of_getElem? h1))
  | some o =>
    rw [q] at r
    have k : H1 a = some o := e a o q fun ps z => by
      rcases sr.kind (List.mem_of_getElem? h1) q with ⟨_, z'⟩ | ⟨_, _, _, z'⟩ <;> rw [z] at z' <;> cases z'
    rw [k]
    exact r
theorem heard_res {g : G} {tb : Tb} {E : XK} {m : List Addr} {H : Hp} {r : Res D} {Q : VK} {hs : List (Addr × Str)} (hz : ∀ c t, tb.hw c = some t → hdTag g.K (.ref (He.ga g.K (g.n.cls c))) hs = some t ∧ XfC g.K (He.ga g.K (g.n.cls c)) ∧ PySem.W.findIn g.K (.ref (He.ga g.K (g.n.cls c))) "what" = some none)
    (h : ResOk g E m H (heardD tb r) Q) : ResOk g (EHear g.K hs Q) m H r Q := by
  cases r with
  | ok d S => exact h
  | bad => exact h
  | exc c d S =>
    unfold heardD at h
    dsimp only at h
    cases e : tb.hw c with
    | none => rw [e] at h; exact h.elim
    | some t =>
      rw [e] at h
      obtain ⟨h1, h2, h3⟩ := hz c t e
      intro m' H' dx v x sr hx rv
      exact ⟨t, _, dx, v, rfl, h2, h3, h1, rfl, hx, fun a ha => h m' _ _ (x.trans (Ext.new ha)) (sr.new ha) (mk_tup (SqT.of upd_same) (Reps.cons (mk_str _) (Reps.one (rv.ext (Ext.new ha) sr))))⟩
section
variable {P : Program} {w : World} {K : PySem.W.Frag} {mg : Str → Option Value} {base : Heap} {n : Nm} {T : List (Addr × Str)} {tb : Tb}
theorem heard_ok {nm a nn : Str} {gH Pt c : Addr} {pg : Arguments} {bg : List Stmt} {sg : Scope} {dvs : List V} {kws : List (Str × V)} {fd : FuncData} {hs : List (Str × Str)} {cd : Str → Addr} {N : List Str} {qual : Str} {scope : Scope} {fa : Addr} {A : Around} {outer : List Env} {s : Shared} {H : Hp} {E : XK} {L : Nat}
    (hm : mg nm = some (.ref gH)) (FD : FunD K nm nm pg bg sg dvs kws gH fd) (hb : Binds K fd [a] []) (Sg : FnScope [a, nn] [a] sg) (hbody : hearBodyB a nn hs bg = true) (hla : sg.names.lookup a = some .local) (hln : sg.names.lookup nn = some .local)
    (hn1 : (nn == ("__debug__" : Str)) = false) (hn2 : (nn == ("__classdict__" : Str)) = false) (ha1 : (a == ("__debug__" : Str)) = false) (ha2 : (a == ("__classdict__" : Str)) = false) (hnm : (nm == ("__debug__" : Str)) = false)
    (hc : ∀ p ∈ hs, sg.names.lookup p.1 = some .globalImplicit ∧ (p.1 == ("__debug__" : Str)) = false ∧ mg p.1 = some (.ref (cd p.1)))
    (hz : ∀ c t, tb.hw c = some t → hdTag K (.ref (He.ga K (n.cls c))) (hs.map fun p => (cd p.1, p.2)) = some t ∧ XfC K (He.ga K (n.cls c)) ∧ PySem.W.findIn K (.ref (He.ga K (n.cls c))) "what" = some none)
    (TB : LamX.TabB base mg c Pt) (hT : T = [(Pt, (qual ++ ".<locals>.") ++ "<lambda>")]) (hr : Room (L + 3) (A.deeper (envOfC qual scope s.heap.objs.size fa (.ref c)))) :
    HeardOk (cxOf (L2.CX P w) P w K mg base N qual scope fa (.ref c) A outer s H E) ⟨K, n, T⟩ tb L E nm scope := by
  intro params body sc p lpos pos f hna hlm hg hbd
  obtain ⟨oc, od, dV, kV, doc, pm, an, cdv, ct, osl, rfl, lk, hcd, _, _⟩ := FD.ex
  have LS := LamX.lamS_by hlm
  refine PE.weak (LamX.pe_lamcall (T := T) (k := L + 1) (t := fun E' => tD ⟨K, n, T⟩ E' f) (P := Pt) (c := c) ?_ hm FD.kp lk hcd hb Sg rfl (.inl hla) (hear_gives (X := cxOf (L2.CX P w) P w K mg base N qual scope fa (.ref c) A outer s H E) (cd := cd) hbody rfl Sg.nd hln hn1 hn2 hc) TB rfl ?_ ?_ hr LS ?_ ?_ (fun A outer s H E' f' c' hr => hbd A outer s H E' f' c' hr) hnm ha1 ha2) fun σ H1 Q h => ?_
  · unfold gB at hg
    rw [Bool.and_eq_true, decide_eq_true_eq] at hg
    exact hg.1
  · rw [hT]
    exact List.mem_singleton.mpr rfl
  · intro p hp _
    rw [hT] at hp
    rw [List.mem_singleton.mp hp]
    rfl
  · unfold noArgs at hna
    split at hna
    · rfl
    · cases hna
  · intro q cl pm cv ctv
    unfold noArgs at hna
    split at hna
    · rfl
    · cases hna
  · obtain ⟨m, ρ, S, sr, er, h⟩ := h
    refine ⟨sr.tabs, fun H2 e2 t2 => ?_⟩
    obtain ⟨x, sr2⟩ := extN_ext sr e2 t2
    exact ⟨m, ρ, S, sr2, er.ext x sr, heard_res hz (h.ext x)⟩
end
end K76
set_option Elab.async false
set_option linter.all false
set_option maxRecDepth 100000
set_option autoImplicit false
set_option maxHeartbeats 8000000
/-! K8: the program's texts in the little language (printed by gen.py), the tables, the checks -/
namespace K76P
open PySem PySem.Spec PyProof.Rows L2 K76

/-! ### the texts -/
def b_is_whole : CB := (.cons (.ret (.and (.cons (.bi .isInt (.cons (.var 0) .nil)) (.cons (.not (.bi .isBool (.cons (.var 0) .nil))) .nil)))) .nil)
def N_is_whole : List Str := (["thing"] : List Str)
def b_is_between : CB := (.cons (.ret (.and (.cons (.call 0 (.cons (.var 0) .nil)) (.cons (.chain .le .le (.var 1) (.var 0) (.var 2)) .nil)))) .nil)
def N_is_between : List Str := (["thing", "least", "most"] : List Str)
def b_is_below : CB := (.cons (.ret (.call 1 (.cons (.var 0) (.cons (.int 0) (.cons (.bin .sub (.var 1) (.int 1)) .nil))))) .nil)
def N_is_below : List Str := (["thing", "bound"] : List Str)
def b_is_links : CB := (.cons (.ite (.or (.cons (.not (.bi .isTup (.cons (.var 0) .nil))) (.cons (.not (.lcf .all (.call 2 (.cons (.var 3) (.cons (.var 2) .nil))) (.nm 3) (.of (.var 0)) .no [3])) .nil))) (.cons (.ret (.bl false)) .nil) .nil) (.cons (.ret (.and (.cons (.cmp .in_ (.var 1) (.var 0)) (.cons (.lcf .all (.cmp .lt (.idx (.var 0) (.var 4)) (.idx (.var 0) (.bin .add (.var 4) (.int 1)))) (.nm 4) (.range (.bin .sub (.bi .len (.cons (.var 0) .nil)) (.int 1))) .no [4]) .nil)))) .nil))
def N_is_links : List Str := (["thing", "part", "many", "one", "at"] : List Str)
def b_has_size : CB := (.cons (.ite (.or (.cons (.not (.bi .isTup (.cons (.var 0) .nil))) (.cons (.cmp .ne (.bi .len (.cons (.var 0) .nil)) (.int 2)) (.cons (.not (.lcf .all (.bi .isTup (.cons (.var 1) .nil)) (.nm 1) (.of (.var 0)) .no [1])) .nil)))) (.cons (.ret (.bl false)) .nil) .nil) (.cons (.ret (.and (.cons (.cmp .eq (.bi .len (.cons (.idx (.var 0) (.int 0)) .nil)) (.bi .len (.cons (.idx (.var 0) (.int 1)) .nil))) (.cons (.chain .le .le (.int 1) (.bi .len (.cons (.idx (.var 0) (.int 0)) .nil)) (.glob 0)) .nil)))) .nil))
def N_has_size : List Str := (["thing", "half"] : List Str)
def b_wrong_entry : CB := (.cons (.asgT (.tp [(.nm 1), (.nm 2)]) (.var 0)) (.cons (.for_ (.tp [(.nm 3), (.nm 4)]) (.enum (.var 1)) (.cons (.ite (.not (.call 1 (.cons (.var 4) (.cons (.int 1) (.cons (.glob 1) .nil))))) (.cons (.ret (.tup (.cons (.int 0) (.cons (.var 3) .nil)))) .nil) .nil) .nil)) (.cons (.for_ (.tp [(.nm 3), (.nm 5)]) (.enum (.var 2)) (.cons (.ite (.not (.call 3 (.cons (.var 5) (.cons (.var 3) (.cons (.bi .len (.cons (.var 1) .nil)) .nil))))) (.cons (.ret (.tup (.cons (.int 1) (.cons (.var 3) .nil)))) .nil) .nil) .nil)) (.cons (.ret .non) .nil))))
def N_wrong_entry : List Str := (["thing", "steps", "links", "part", "many", "others"] : List Str)
def b_made_book : CB := (.cons (.ite (.not (.call 4 (.cons (.var 0) .nil))) (.cons (.raise 1 (.neg (.int 1))) .nil) .nil) (.cons (.asg 1 (.call 5 (.cons (.var 0) .nil))) (.cons (.ite (.cmp .notN (.var 1) .non) (.cons (.raise 1 (.var 1)) .nil) .nil) (.cons (.ret (.var 0)) .nil))))
def N_made_book : List Str := (["thing", "where"] : List Str)
def b_many_parts : CB := (.cons (.ret (.bi .len (.cons (.idx (.var 0) (.int 0)) .nil))) .nil)
def N_many_parts : List Str := (["book"] : List Str)
def b_is_part_books : CB := (.cons (.ret (.call 2 (.cons (.var 1) (.cons (.call 7 (.cons (.var 0) .nil)) .nil)))) .nil)
def N_is_part_books : List Str := (["book", "thing"] : List Str)
def b_wrong_weight : CB := (.cons (.ite (.or (.cons (.not (.bi .isTup (.cons (.var 1) .nil))) (.cons (.cmp .ne (.bi .len (.cons (.var 1) .nil)) (.call 7 (.cons (.var 0) .nil))) .nil))) (.cons (.ret (.neg (.int 1))) .nil) .nil) (.cons (.for_ (.tp [(.nm 2), (.nm 3)]) (.enum (.var 1)) (.cons (.ite (.not (.call 1 (.cons (.var 3) (.cons (.neg (.glob 2)) (.cons (.glob 2) .nil))))) (.cons (.ret (.var 2)) .nil) .nil) .nil)) (.cons (.ret (.ite (.lcf .any (.cmp .ne (.var 3) (.int 0)) (.nm 3) (.of (.var 1)) .no [3]) .non (.int 0))) .nil)))
def N_wrong_weight : List Str := (["book", "thing", "part", "weight"] : List Str)
def b_divisor : CB := (.cons (.while_ 200 (.cmp .gt (.var 1) (.int 0)) (.cons (.par [0, 1] (.cons (.var 1) (.cons (.bin .mod (.var 0) (.var 1)) .nil))) .nil)) (.cons (.ret (.var 0)) .nil))
def N_divisor : List Str := (["a", "b"] : List Str)
def b_is_move : CB := (.cons (.ite (.or (.cons (.not (.bi .isTup (.cons (.var 1) .nil))) (.cons (.cmp .ne (.bi .len (.cons (.var 1) .nil)) (.int 2)) (.cons (.not (.call 8 (.cons (.var 0) (.cons (.idx (.var 1) (.int 0)) .nil)))) .nil)))) (.cons (.ret (.bl false)) .nil) .nil) (.cons (.ret (.and (.cons (.call 0 (.cons (.idx (.var 1) (.int 1)) .nil)) (.cons (.cmp .in_ (.idx (.var 1) (.int 1)) (.tup (.cons (.glob 4) (.cons (.glob 3) .nil)))) .nil)))) .nil))
def N_is_move : List Str := (["book", "thing"] : List Str)
def b_want_history : CB := (.cons (.ite (.not (.bi .isTup (.cons (.var 1) .nil))) (.cons (.raise 3 (.neg (.int 1))) .nil) .nil) (.cons (.for_ (.tp [(.nm 2), (.nm 3)]) (.enum (.var 1)) (.cons (.ite (.not (.call 11 (.cons (.var 0) (.cons (.var 3) .nil)))) (.cons (.raise 3 (.var 2)) .nil) .nil) .nil)) .nil))
def N_want_history : List Str := (["book", "thing", "index", "move"] : List Str)
def b_is_change : CB := (.cons (.ite (.or (.cons (.not (.bi .isTup (.cons (.var 1) .nil))) (.cons (.cmp .ne (.bi .len (.cons (.var 1) .nil)) (.int 2)) .nil))) (.cons (.ret (.bl false)) .nil) .nil) (.cons (.ret (.and (.cons (.call 8 (.cons (.var 0) (.cons (.idx (.var 1) (.int 0)) .nil))) (.cons (.call 0 (.cons (.idx (.var 1) (.int 1)) .nil)) (.cons (.cmp .ne (.idx (.var 1) (.int 1)) (.int 0)) .nil))))) .nil))
def N_is_change : List Str := (["book", "thing"] : List Str)
def b_is_changes : CB := (.cons (.ite (.or (.cons (.not (.bi .isTup (.cons (.var 1) .nil))) (.cons (.not (.lcf .all (.call 13 (.cons (.var 0) (.cons (.var 2) .nil))) (.nm 2) (.of (.var 1)) .no [2])) .nil))) (.cons (.ret (.bl false)) .nil) .nil) (.cons (.ret (.lcf .all (.cmp .lt (.idx (.idx (.var 1) (.var 3)) (.int 0)) (.idx (.idx (.var 1) (.bin .add (.var 3) (.int 1))) (.int 0))) (.nm 3) (.range (.bin .sub (.bi .len (.cons (.var 1) .nil)) (.int 1))) .no [3])) .nil))
def N_is_changes : List Str := (["book", "thing", "change", "at"] : List Str)
def b_first_outside : CB := (.cons (.for_ (.tp [(.nm 3), (.nm 4)]) (.of (.var 2)) (.cons (.ite (.cmp .notIn (.var 3) (.idx (.idx (.var 0) (.int 1)) (.var 1))) (.cons (.ret (.var 3)) .nil) .nil) .nil)) (.cons (.ret .non) .nil))
def N_first_outside : List Str := (["book", "part", "changes", "other", "_"] : List Str)
def b_at_first : CB := (.cons (.ret (.tup (.cons (.bin .mul (.tup (.cons (.int 0) .nil)) (.call 7 (.cons (.var 0) .nil))) (.cons (.bin .mul (.tup (.cons (.int 0) .nil)) (.call 7 (.cons (.var 0) .nil))) .nil)))) .nil)
def N_at_first : List Str := (["book"] : List Str)
def b_put_to : CB := (.cons (.ret (.bin .add (.bin .add (.slc (.var 0) .no (.yes (.var 1))) (.tup (.cons (.bin .add (.idx (.var 0) (.var 1)) (.var 2)) .nil))) (.slc (.var 0) (.yes (.bin .add (.var 1) (.int 1))) .no))) .nil)
def N_put_to : List Str := (["numbers", "part", "by"] : List Str)
def b_state_behind : CB := (.cons (.asgT (.tp [(.nm 3), (.nm 4)]) (.var 0)) (.cons (.for_ (.tp [(.nm 5), (.nm 6)]) (.of (.var 2)) (.cons (.asg 4 (.call 17 (.cons (.var 4) (.cons (.var 5) (.cons (.var 6) .nil))))) .nil)) (.cons (.ret (.tup (.cons (.call 17 (.cons (.var 3) (.cons (.idx (.var 1) (.int 0)) (.cons (.idx (.var 1) (.int 1)) .nil)))) (.cons (.var 4) .nil)))) .nil)))
def N_state_behind : List Str := (["state", "move", "changes", "truths", "shown", "part", "by"] : List Str)
def b_Standing_init : CB := (.cons (.attr (.var 0) 2 (.var 1)) (.cons (.attr (.var 0) 1 (.var 2)) (.cons (.attr (.var 0) 0 (.var 3)) .nil)))
def N_Standing_init : List Str := (["self", "book", "player", "state"] : List Str)
def b_Standing_branch : CB := (.cons (.ret (.make 14 (.cons (.attr (.var 0) 2) (.cons (.meth (.attr (.var 0) 1) 3 .nil) (.cons (.attr (.var 0) 0) .nil))))) .nil)
def N_Standing_branch : List Str := (["self"] : List Str)
def b_Standing_step : CB := (.cons (.asg 2 (.meth (.attr (.var 0) 1) 4 (.cons (.idx (.var 1) (.int 0)) (.cons (.idx (.var 1) (.int 1)) .nil)))) (.cons (.ite (.or (.cons (.not (.call 14 (.cons (.attr (.var 0) 2) (.cons (.var 2) .nil)))) (.cons (.cmp .notN (.call 15 (.cons (.attr (.var 0) 2) (.cons (.idx (.var 1) (.int 0)) (.cons (.var 2) .nil)))) .non) .nil))) (.cons (.ret .non) .nil) .nil) (.cons (.attr (.var 0) 0 (.call 18 (.cons (.attr (.var 0) 0) (.cons (.var 1) (.cons (.var 2) .nil))))) (.cons (.ret (.var 2)) .nil))))
def N_Standing_step : List Str := (["self", "move", "changes"] : List Str)
def b_standing_at_first : CB := (.cons (.ret (.make 14 (.cons (.var 0) (.cons (.meth (.var 1) 3 .nil) (.cons (.call 16 (.cons (.var 0) .nil)) .nil))))) .nil)
def N_standing_at_first : List Str := (["book", "player"] : List Str)
def b_strays_of : CB := (.cons (.asgT (.tp [(.nm 2), (.nm 3)]) (.var 1)) (.cons (.ret (.lcf .tuple (.bin .sub (.bin .mul (.var 5) (.var 6)) (.var 4)) (.tp [(.nm 4), (.nm 5), (.nm 6)]) (.zip3 (.var 2) (.var 3) (.idx (.var 0) (.int 0))) .no [4, 5, 6])) .nil))
def N_strays_of : List Str := (["book", "state", "truths", "shown", "truth", "number", "steps"] : List Str)
def b_stray_of : CB := (.cons (.ret (.lcf .sum (.bin .mul (.var 3) (.var 4)) (.tp [(.nm 3), (.nm 4)]) (.zip2 (.var 1) (.call 23 (.cons (.var 0) (.cons (.var 2) .nil)))) .no [3, 4])) .nil)
def N_stray_of : List Str := (["book", "line", "state", "weight", "stray"] : List Str)
def b_want_lines : CB := (.cons (.ite (.not (.bi .isTup (.cons (.var 1) .nil))) (.cons (.raise 2 (.neg (.int 1))) .nil) .nil) (.cons (.for_ (.tp [(.nm 2), (.nm 3)]) (.enum (.var 1)) (.cons (.asg 4 (.call 9 (.cons (.var 0) (.cons (.var 3) .nil)))) (.cons (.ite (.cmp .notN (.var 4) .non) (.cons (.raise 2 (.tup (.cons (.var 2) (.cons (.var 4) .nil)))) .nil) .nil) .nil))) .nil))
def N_want_lines : List Str := (["book", "lines", "number", "line", "wrong"] : List Str)
def b_is_name : CB := (.cons (.ite (.or (.cons (.not (.bi .isStr (.cons (.var 0) .nil))) (.cons (.cmp .in_ (.var 0) (.glob 8)) (.cons (.not (.chain .le .le (.int 1) (.bi .len (.cons (.var 0) .nil)) (.glob 7))) .nil)))) (.cons (.ret (.bl false)) .nil) .nil) (.cons (.ret (.and (.cons (.cmp .in_ (.idx (.var 0) (.int 0)) (.glob 5)) (.cons (.lcf .all (.cmp .in_ (.var 1) (.bin .add (.glob 5) (.glob 6))) (.nm 1) (.of (.var 0)) .no [1]) .nil)))) .nil))
def N_is_name : List Str := (["thing", "sign"] : List Str)
def b_Scope_init : CB := (.cons (.attr (.var 0) 7 (.var 1)) (.cons (.attr (.var 0) 6 (.var 2)) (.cons (.attr (.var 0) 5 (.var 3)) .nil)))
def N_Scope_init : List Str := (["self", "many", "cells", "rows"] : List Str)
def b_want_names : CB := (.cons (.ite (.or (.cons (.not (.bi .isTup (.cons (.var 1) .nil))) (.cons (.cmp .ne (.bi .len (.cons (.var 1) .nil)) (.bi .len (.cons (.idx (.var 0) (.int 0)) .nil))) .nil))) (.cons (.raise 8 (.neg (.int 1))) .nil) .nil) (.cons (.for_ (.tp [(.nm 2), (.nm 3)]) (.enum (.var 1)) (.cons (.ite (.or (.cons (.not (.call 26 (.cons (.var 3) .nil))) (.cons (.cmp .in_ (.var 3) (.slc (.var 1) .no (.yes (.var 2)))) .nil))) (.cons (.raise 8 (.var 2)) .nil) .nil) .nil)) .nil))
def N_want_names : List Str := (["book", "names", "index", "name"] : List Str)
def b_is_short : CB := (.cons (.ret (.and (.cons (.bi .isTup (.cons (.var 0) .nil)) (.cons (.cmp .le (.bi .len (.cons (.var 0) .nil)) (.var 1)) .nil)))) .nil)
def N_is_short : List Str := (["thing", "most"] : List Str)
def b_is_worded : CB := (.cons (.ret (.and (.cons (.bi .isTup (.cons (.var 0) .nil)) (.cons (.cmp .eq (.bi .len (.cons (.var 0) .nil)) (.var 1)) (.cons (.bi .isStr (.cons (.idx (.var 0) (.int 0)) .nil)) .nil))))) .nil)
def N_is_worded : List Str := (["thing", "many"] : List Str)
def b_is_one_of : CB := (.cons (.ret (.and (.cons (.bi .isStr (.cons (.var 0) .nil)) (.cons (.cmp .in_ (.var 0) (.var 1)) .nil)))) .nil)
def N_is_one_of : List Str := (["thing", "names"] : List Str)
def b_is_part_publishers : CB := (.cons (.ite (.call 30 (.cons (.var 1) (.cons (.int 1) .nil))) (.cons (.ret (.or (.cons (.cmp .eq (.idx (.var 1) (.int 0)) (.str 2)) (.cons (.and (.cons (.var 2) (.cons (.cmp .eq (.idx (.var 1) (.int 0)) (.str 1)) .nil))) .nil)))) .nil) .nil) (.cons (.ret (.and (.cons (.call 30 (.cons (.var 1) (.cons (.int 2) .nil))) (.cons (.cmp .eq (.idx (.var 1) (.int 0)) (.str 0)) (.cons (.call 1 (.cons (.idx (.var 1) (.int 1)) (.cons (.int 0) (.cons (.bin .sub (.attr (.var 0) 7) (.int 1)) .nil)))) .nil))))) .nil))
def N_is_part_publishers : List Str := (["scope", "thing", "is_each"] : List Str)
def b_is_leaf : CB := (.cons (.ite (.call 30 (.cons (.var 1) (.cons (.int 1) .nil))) (.cons (.ret (.cmp .eq (.idx (.var 1) (.int 0)) (.str 6))) .nil) .nil) (.cons (.ite (.call 30 (.cons (.var 1) (.cons (.int 3) .nil))) (.cons (.ret (.and (.cons (.cmp .eq (.idx (.var 1) (.int 0)) (.str 5)) (.cons (.call 31 (.cons (.idx (.var 1) (.int 1)) (.cons (.attr (.var 0) 5) .nil))) (.cons (.call 32 (.cons (.var 0) (.cons (.idx (.var 1) (.int 2)) (.cons (.var 2) .nil)))) .nil))))) .nil) .nil) (.cons (.ite (.not (.call 30 (.cons (.var 1) (.cons (.int 2) .nil)))) (.cons (.ret (.bl false)) .nil) .nil) (.cons (.ite (.cmp .eq (.idx (.var 1) (.int 0)) (.str 4)) (.cons (.ret (.call 1 (.cons (.idx (.var 1) (.int 1)) (.cons (.int 0) (.cons (.glob 10) .nil))))) .nil) .nil) (.cons (.ite (.cmp .eq (.idx (.var 1) (.int 0)) (.str 3)) (.cons (.ret (.call 31 (.cons (.idx (.var 1) (.int 1)) (.cons (.attr (.var 0) 6) .nil)))) .nil) .nil) (.cons (.ret (.and (.cons (.cmp .in_ (.idx (.var 1) (.int 0)) (.glob 9)) (.cons (.call 32 (.cons (.var 0) (.cons (.idx (.var 1) (.int 1)) (.cons (.var 2) .nil)))) .nil)))) .nil))))))
def N_is_leaf : List Str := (["scope", "thing", "is_each"] : List Str)
def b_is_number : CB := (.cons (.ite (.cmp .eq (.var 3) (.int 0)) (.cons (.ret (.bl false)) .nil) .nil) (.cons (.ite (.call 33 (.cons (.var 0) (.cons (.var 1) (.cons (.var 2) .nil)))) (.cons (.ret (.bl true)) .nil) .nil) (.cons (.ite (.or (.cons (.not (.call 30 (.cons (.var 1) (.cons (.int 3) .nil)))) (.cons (.cmp .notIn (.idx (.var 1) (.int 0)) (.glob 11)) .nil))) (.cons (.ret (.bl false)) .nil) .nil) (.cons (.ret (.and (.cons (.call 34 (.cons (.var 0) (.cons (.idx (.var 1) (.int 1)) (.cons (.var 2) (.cons (.bin .sub (.var 3) (.int 1)) .nil))))) (.cons (.call 34 (.cons (.var 0) (.cons (.idx (.var 1) (.int 2)) (.cons (.var 2) (.cons (.bin .sub (.var 3) (.int 1)) .nil))))) .nil)))) .nil))))
def N_is_number : List Str := (["scope", "thing", "is_each", "left"] : List Str)
def b_is_test_leaf : CB := (.cons (.ite (.call 30 (.cons (.var 1) (.cons (.int 2) .nil))) (.cons (.ret (.and (.cons (.cmp .eq (.idx (.var 1) (.int 0)) (.str 10)) (.cons (.call 32 (.cons (.var 0) (.cons (.idx (.var 1) (.int 1)) (.cons (.var 2) .nil)))) .nil)))) .nil) .nil) (.cons (.ite (.not (.call 30 (.cons (.var 1) (.cons (.int 3) .nil)))) (.cons (.ret (.bl false)) .nil) .nil) (.cons (.ite (.cmp .eq (.idx (.var 1) (.int 0)) (.str 9)) (.cons (.ret (.and (.cons (.call 32 (.cons (.var 0) (.cons (.idx (.var 1) (.int 1)) (.cons (.var 2) .nil)))) (.cons (.call 32 (.cons (.var 0) (.cons (.idx (.var 1) (.int 2)) (.cons (.var 2) .nil)))) .nil)))) .nil) .nil) (.cons (.ite (.cmp .notIn (.idx (.var 1) (.int 0)) (.tup (.cons (.str 8) (.cons (.str 7) .nil)))) (.cons (.ret (.bl false)) .nil) .nil) (.cons (.ret (.and (.cons (.call 34 (.cons (.var 0) (.cons (.idx (.var 1) (.int 1)) (.cons (.var 2) (.cons (.glob 12) .nil))))) (.cons (.call 34 (.cons (.var 0) (.cons (.idx (.var 1) (.int 2)) (.cons (.var 2) (.cons (.glob 12) .nil))))) .nil)))) .nil)))))
def N_is_test_leaf : List Str := (["scope", "thing", "is_each"] : List Str)
def b_is_test : CB := (.cons (.ite (.cmp .eq (.var 3) (.int 0)) (.cons (.ret (.bl false)) .nil) .nil) (.cons (.ite (.call 35 (.cons (.var 0) (.cons (.var 1) (.cons (.var 2) .nil)))) (.cons (.ret (.bl true)) .nil) .nil) (.cons (.ite (.call 30 (.cons (.var 1) (.cons (.int 2) .nil))) (.cons (.ret (.and (.cons (.cmp .eq (.idx (.var 1) (.int 0)) (.str 13)) (.cons (.call 36 (.cons (.var 0) (.cons (.idx (.var 1) (.int 1)) (.cons (.var 2) (.cons (.bin .sub (.var 3) (.int 1)) .nil))))) .nil)))) .nil) .nil) (.cons (.ite (.or (.cons (.not (.call 30 (.cons (.var 1) (.cons (.int 3) .nil)))) (.cons (.cmp .notIn (.idx (.var 1) (.int 0)) (.tup (.cons (.str 12) (.cons (.str 11) .nil)))) .nil))) (.cons (.ret (.bl false)) .nil) .nil) (.cons (.ret (.and (.cons (.call 36 (.cons (.var 0) (.cons (.idx (.var 1) (.int 1)) (.cons (.var 2) (.cons (.bin .sub (.var 3) (.int 1)) .nil))))) (.cons (.call 36 (.cons (.var 0) (.cons (.idx (.var 1) (.int 2)) (.cons (.var 2) (.cons (.bin .sub (.var 3) (.int 1)) .nil))))) .nil)))) .nil)))))
def N_is_test : List Str := (["scope", "thing", "is_each", "left"] : List Str)
def b_is_plain : CB := (.cons (.ite (.call 30 (.cons (.var 1) (.cons (.int 4) .nil))) (.cons (.asg 3 (.and (.cons (.cmp .eq (.idx (.var 1) (.int 0)) (.str 16)) (.cons (.call 31 (.cons (.idx (.var 1) (.int 1)) (.cons (.attr (.var 0) 5) .nil))) (.cons (.call 32 (.cons (.var 0) (.cons (.idx (.var 1) (.int 2)) (.cons (.var 2) .nil)))) .nil))))) (.cons (.ret (.and (.cons (.var 3) (.cons (.call 34 (.cons (.var 0) (.cons (.idx (.var 1) (.int 3)) (.cons (.var 2) (.cons (.glob 12) .nil))))) .nil)))) .nil)) .nil) (.cons (.ite (.not (.call 30 (.cons (.var 1) (.cons (.int 3) .nil)))) (.cons (.ret (.bl false)) .nil) .nil) (.cons (.asg 3 (.and (.cons (.cmp .eq (.idx (.var 1) (.int 0)) (.str 15)) (.cons (.call 31 (.cons (.idx (.var 1) (.int 1)) (.cons (.attr (.var 0) 6) .nil))) .nil)))) (.cons (.asg 3 (.or (.cons (.var 3) (.cons (.and (.cons (.cmp .eq (.idx (.var 1) (.int 0)) (.str 14)) (.cons (.call 32 (.cons (.var 0) (.cons (.idx (.var 1) (.int 1)) (.cons (.var 2) .nil)))) .nil))) .nil)))) (.cons (.ret (.and (.cons (.var 3) (.cons (.call 34 (.cons (.var 0) (.cons (.idx (.var 1) (.int 2)) (.cons (.var 2) (.cons (.glob 12) .nil))))) .nil)))) .nil)))))
def N_is_plain : List Str := (["scope", "thing", "is_each", "is_place"] : List Str)
def b_is_choice : CB := (.cons (.ite (.or (.cons (.not (.call 30 (.cons (.var 1) (.cons (.int 4) .nil)))) (.cons (.cmp .ne (.idx (.var 1) (.int 0)) (.str 17)) (.cons (.not (.call 36 (.cons (.var 0) (.cons (.idx (.var 1) (.int 1)) (.cons (.var 2) (.cons (.glob 12) .nil)))))) .nil)))) (.cons (.ret (.bl false)) .nil) .nil) (.cons (.ret (.and (.cons (.call 29 (.cons (.idx (.var 1) (.int 2)) (.cons (.glob 13) .nil))) (.cons (.call 29 (.cons (.idx (.var 1) (.int 3)) (.cons (.glob 13) .nil))) .nil)))) .nil))
def N_is_choice : List Str := (["scope", "thing", "is_each"] : List Str)
def b_is_each_form : CB := (.cons (.ret (.and (.cons (.call 30 (.cons (.var 0) (.cons (.int 2) .nil))) (.cons (.cmp .eq (.idx (.var 0) (.int 0)) (.str 18)) (.cons (.call 29 (.cons (.idx (.var 0) (.int 1)) (.cons (.glob 13) .nil))) .nil))))) .nil)
def N_is_each_form : List Str := (["thing"] : List Str)
def b_Reading_init : CB := (.cons (.attr (.var 0) 9 (.var 1)) (.cons (.attr (.var 0) 8 (.int 0)) .nil))
def N_Reading_init : List Str := (["self", "scope"] : List Str)
def b_Reading_body : CB := (.cons (.for_ (.tp [(.nm 5), (.nm 6)]) (.enum (.var 1)) (.cons (.ite (.cmp .eq (.attr (.var 0) 8) (.glob 14)) (.cons (.raise 10 (.bin .add (.glob 14) (.int 1))) .nil) .nil) (.cons (.augAttr (.var 0) 8 (.int 1)) (.cons (.expr (.meth (.var 0) 10 (.cons (.var 6) (.cons (.bin .add (.var 2) (.tup (.cons (.var 5) .nil))) (.cons (.var 3) (.cons (.var 4) .nil)))))) .nil)))) .nil)
def N_Reading_body : List Str := (["self", "body", "place", "deep", "is_each", "index", "statement"] : List Str)
def b_Reading_statement : CB := (.cons (.ite (.and (.cons (.call 38 (.cons (.attr (.var 0) 9) (.cons (.var 1) (.cons (.var 4) .nil)))) (.cons (.cmp .lt (.var 3) (.glob 15)) .nil))) (.cons (.expr (.meth (.var 0) 11 (.cons (.idx (.var 1) (.int 2)) (.cons (.bin .add (.var 2) (.tup (.cons (.int 0) .nil))) (.cons (.bin .add (.var 3) (.int 1)) (.cons (.var 4) .nil)))))) (.cons (.expr (.meth (.var 0) 11 (.cons (.idx (.var 1) (.int 3)) (.cons (.bin .add (.var 2) (.tup (.cons (.int 1) .nil))) (.cons (.bin .add (.var 3) (.int 1)) (.cons (.var 4) .nil)))))) .nil)) (.cons (.ite (.and (.cons (.call 39 (.cons (.var 1) .nil)) (.cons (.not (.var 4)) (.cons (.cmp .lt (.var 3) (.glob 15)) .nil)))) (.cons (.expr (.meth (.var 0) 11 (.cons (.idx (.var 1) (.int 1)) (.cons (.bin .add (.var 2) (.tup (.cons (.int 0) .nil))) (.cons (.bin .add (.var 3) (.int 1)) (.cons (.bl true) .nil)))))) .nil) (.cons (.ite (.not (.call 37 (.cons (.attr (.var 0) 9) (.cons (.var 1) (.cons (.var 4) .nil))))) (.cons (.raise 9 (.tup (.cons (.int 2) (.cons (.var 2) .nil)))) .nil) .nil) .nil)) .nil)) .nil)
def N_Reading_statement : List Str := (["self", "statement", "place", "deep", "is_each"] : List Str)
def b_is_kept : CB := (.cons (.ite (.or (.cons (.not (.bi .isTup (.cons (.var 0) .nil))) (.cons (.cmp .ne (.bi .len (.cons (.var 0) .nil)) (.int 2)) (.cons (.not (.call 26 (.cons (.idx (.var 0) (.int 0)) .nil))) (.cons (.cmp .in_ (.idx (.var 0) (.int 0)) (.var 1)) .nil))))) (.cons (.ret (.bl false)) .nil) .nil) (.cons (.ret (.call 1 (.cons (.idx (.var 0) (.int 1)) (.cons (.neg (.glob 10)) (.cons (.glob 10) .nil))))) .nil))
def N_is_kept : List Str := (["thing", "had"] : List Str)
def b_kept_names : CB := (.cons (.ite (.not (.call 29 (.cons (.var 0) (.cons (.var 2) .nil)))) (.cons (.raise 9 (.tup (.cons (.var 1) (.cons (.neg (.int 1)) .nil)))) .nil) .nil) (.cons (.asg 4 (.tup .nil)) (.cons (.for_ (.tp [(.nm 5), (.nm 6)]) (.enum (.var 0)) (.cons (.ite (.not (.call 43 (.cons (.var 6) (.cons (.bin .add (.var 3) (.var 4)) .nil)))) (.cons (.raise 9 (.tup (.cons (.var 1) (.cons (.var 5) .nil)))) .nil) .nil) (.cons (.asg 4 (.bin .add (.var 4) (.tup (.cons (.idx (.var 6) (.int 0)) .nil)))) .nil))) (.cons (.ret (.var 4)) .nil))))
def N_kept_names : List Str := (["thing", "part", "most", "had", "names", "index", "pair"] : List Str)
def b_want_publisher : CB := (.cons (.ite (.or (.cons (.not (.bi .isTup (.cons (.var 1) .nil))) (.cons (.cmp .ne (.bi .len (.cons (.var 1) .nil)) (.int 3)) .nil))) (.cons (.raise 9 (.tup (.cons (.neg (.int 1)) .nil))) .nil) .nil) (.cons (.asg 2 (.call 44 (.cons (.idx (.var 1) (.int 0)) (.cons (.int 0) (.cons (.glob 17) (.cons (.var 0) .nil)))))) (.cons (.asg 3 (.call 44 (.cons (.idx (.var 1) (.int 1)) (.cons (.int 1) (.cons (.glob 16) (.cons (.bin .add (.var 0) (.var 2)) .nil)))))) (.cons (.ite (.not (.call 29 (.cons (.idx (.var 1) (.int 2)) (.cons (.glob 13) .nil)))) (.cons (.raise 9 (.tup (.cons (.int 2) (.cons (.tup (.cons (.neg (.int 1)) .nil)) .nil)))) .nil) .nil) (.cons (.expr (.meth (.make 16 (.cons (.make 15 (.cons (.bi .len (.cons (.var 0) .nil)) (.cons (.var 2) (.cons (.var 3) .nil)))) .nil)) 11 (.cons (.idx (.var 1) (.int 2)) (.cons (.tup .nil) (.cons (.int 1) (.cons (.bl false) .nil)))))) .nil)))))
def N_want_publisher : List Str := (["names", "thing", "cells", "rows"] : List Str)
def b_made_publisher : CB := (.cons (.asg 0 (.call 6 (.cons (.var 0) .nil))) (.cons (.expr (.call 28 (.cons (.var 0) (.cons (.var 1) .nil)))) (.cons (.expr (.call 45 (.cons (.var 1) (.cons (.var 2) .nil)))) (.cons (.ret (.var 2)) .nil))))
def N_made_publisher : List Str := (["book", "names", "thing"] : List Str)
def b_number_text : CB := (.cons (.asg 2 (.call 10 (.cons (.bi .abs (.cons (.var 0) .nil)) (.cons (.var 1) .nil)))) (.cons (.par [0, 1] (.cons (.bin .fdiv (.var 0) (.var 2)) (.cons (.bin .fdiv (.var 1) (.var 2)) .nil))) (.cons (.ret (.ite (.cmp .eq (.var 1) (.int 1)) (.bi .str1 (.cons (.var 0) .nil)) (.bin .add (.bin .add (.bi .str1 (.cons (.var 0) .nil)) (.str 19)) (.bi .str1 (.cons (.var 1) .nil))))) .nil)))
def N_number_text : List Str := (["upper", "lower", "common"] : List Str)
def b_figure_text : CB := (.cons (.asg 4 (.call 47 (.cons (.var 2) (.cons (.var 3) .nil)))) (.cons (.ret (.bin .add (.bin .add (.bin .add (.bin .add (.bin .add (.bin .add (.var 0) (.str 20)) (.bi .str1 (.cons (.var 1) .nil))) (.str 21)) (.var 4)) (.str 22)) (.call 47 (.cons (.bin .sub (.bin .mul (.var 1) (.var 3)) (.var 2)) (.cons (.var 3) .nil))))) .nil))
def N_figure_text : List Str := (["name", "shown", "truth", "steps", "true"] : List Str)
def b_are_numbers : CB := (.cons (.ret (.and (.cons (.bi .isTup (.cons (.var 0) .nil)) (.cons (.cmp .eq (.bi .len (.cons (.var 0) .nil)) (.var 1)) (.cons (.lcf .all (.call 0 (.cons (.var 2) .nil)) (.nm 2) (.of (.var 0)) .no [2]) .nil))))) .nil)
def N_are_numbers : List Str := (["thing", "many", "number"] : List Str)
def b_is_state : CB := (.cons (.ite (.or (.cons (.not (.bi .isTup (.cons (.var 1) .nil))) (.cons (.cmp .ne (.bi .len (.cons (.var 1) .nil)) (.int 2)) .nil))) (.cons (.ret (.bl false)) .nil) .nil) (.cons (.ret (.lcf .all (.call 49 (.cons (.var 2) (.cons (.call 7 (.cons (.var 0) .nil)) .nil))) (.nm 2) (.of (.var 1)) .no [2])) .nil))
def N_is_state : List Str := (["book", "thing", "half"] : List Str)
def b_weighted : CB := (.cons (.ret (.lcf .sum (.bin .mul (.var 2) (.var 3)) (.tp [(.nm 2), (.nm 3)]) (.zip2 (.var 0) (.var 1)) .no [2, 3])) .nil)
def N_weighted : List Str := (["line", "numbers", "weight", "number"] : List Str)
def b_line_text : CB := (.cons (.asg 4 (.bin .add (.bin .add (.str 24) (.bi .str1 (.cons (.var 1) .nil))) (.str 25))) (.cons (.asg 5 (.idx (.var 0) (.int 0))) (.cons (.ite (.lcf .any (.cmp .ne (.var 6) (.idx (.var 5) (.int 0))) (.nm 6) (.of (.var 5)) .no [6]) (.cons (.ret (.bin .add (.bin .add (.bin .add (.var 4) (.str 22)) (.bi .str1 (.cons (.call 24 (.cons (.var 0) (.cons (.var 2) (.cons (.var 3) .nil)))) .nil))) (.str 23))) .nil) .nil) (.cons (.asgT (.tp [(.nm 7), (.nm 8)]) (.var 3)) (.cons (.ret (.call 48 (.cons (.var 4) (.cons (.call 51 (.cons (.var 2) (.cons (.var 8) .nil))) (.cons (.call 51 (.cons (.var 2) (.cons (.var 7) .nil))) (.cons (.idx (.var 5) (.int 0)) .nil)))))) .nil)))))
def N_line_text : List Str := (["book", "number", "line", "state", "name", "steps", "many", "truths", "shown"] : List Str)
def b_report : CB := (.cons (.asg 0 (.call 6 (.cons (.var 0) .nil))) (.cons (.expr (.call 28 (.cons (.var 0) (.cons (.var 1) .nil)))) (.cons (.expr (.call 25 (.cons (.var 0) (.cons (.var 2) .nil)))) (.cons (.ite (.not (.call 50 (.cons (.var 0) (.cons (.var 3) .nil)))) (.cons (.raise 6 (.int 0)) .nil) .nil) (.cons (.asgT (.tp [(.nm 4), (.nm 5)]) (.var 3)) (.cons (.asgLc 6 (.call 48 (.cons (.var 8) (.cons (.idx (.var 5) (.var 7)) (.cons (.idx (.var 4) (.var 7)) (.cons (.idx (.idx (.var 0) (.int 0)) (.var 7)) .nil))))) (.tp [(.nm 7), (.nm 8)]) (.enum (.var 1)) .no [7, 8]) (.cons (.ret (.bi .tuple1 (.cons (.bin .add (.var 6) (.lc (.call 52 (.cons (.var 0) (.cons (.var 9) (.cons (.var 10) (.cons (.var 3) .nil))))) (.tp [(.nm 9), (.nm 10)]) (.enum (.var 2)) .no [9, 10])) .nil))) .nil)))))))
def N_report : List Str := (["book", "names", "lines", "state", "truths", "shown", "parts", "at", "name", "number", "line"] : List Str)
def b_want_few : CB := (.cons (.ite (.cmp .gt (.var 0) (.glob 18)) (.cons (.raise 10 (.bin .add (.glob 18) (.int 1))) .nil) .nil) .nil)
def N_want_few : List Str := (["many"] : List Str)
def b_Edition_init : CB := (.cons (.attr (.var 0) 14 (.var 1)) (.cons (.attr (.var 0) 13 (.var 2)) (.cons (.attr (.var 0) 12 (.var 3)) .nil)))
def N_Edition_init : List Str := (["self", "standing", "history", "shown"] : List Str)
def b_Edition_branch : CB := (.cons (.ret (.make 17 (.cons (.meth (.attr (.var 0) 14) 15 .nil) (.cons (.attr (.var 0) 13) (.cons (.attr (.var 0) 12) .nil))))) .nil)
def N_Edition_branch : List Str := (["self"] : List Str)
def b_Edition_put : CB := (.cons (.asg 2 (.lst .nil)) (.cons (.for_ (.nm 3) (.of (.var 1)) (.cons (.asg 4 (.meth (.attr (.var 0) 14) 16 (.cons (.var 3) .nil))) (.cons (.ite (.cmp .isN (.var 4) .non) (.cons (.raise 7 (.bin .add (.bi .len (.cons (.attr (.var 0) 13) .nil)) (.bi .len (.cons (.var 2) .nil)))) .nil) .nil) (.cons (.expr (.app (.var 2) (.var 4))) .nil)))) (.cons (.attr (.var 0) 13 (.bin .add (.attr (.var 0) 13) (.var 1))) (.cons (.attr (.var 0) 12 (.bin .add (.attr (.var 0) 12) (.bi .tuple1 (.cons (.var 2) .nil)))) .nil))))
def N_Edition_put : List Str := (["self", "moves", "shown", "move", "changes"] : List Str)
def b_Feed_init : CB := (.cons (.attr (.var 0) 2 (.call 6 (.cons (.var 1) .nil))) (.cons (.attr (.var 0) 1 (.meth (.var 2) 3 .nil)) (.cons (.attr (.var 0) 5 (.lst (.cons (.meth (.var 0) 17 .nil) .nil))) .nil)))
def N_Feed_init : List Str := (["self", "book", "player"] : List Str)
def b_Feed_fresh : CB := (.cons (.ret (.make 17 (.cons (.call 22 (.cons (.attr (.var 0) 2) (.cons (.attr (.var 0) 1) .nil))) (.cons (.tup .nil) (.cons (.tup .nil) .nil))))) .nil)
def N_Feed_fresh : List Str := (["self"] : List Str)
def b_Feed_last : CB := (.cons (.ret (.idx (.attr (.var 0) 5) (.neg (.int 1)))) .nil)
def N_Feed_last : List Str := (["self"] : List Str)
def b_Feed_move : CB := (.cons (.ite (.not (.call 8 (.cons (.attr (.var 0) 2) (.cons (.var 1) .nil)))) (.cons (.raise 5 (.var 1)) .nil) .nil) (.cons (.ite (.not (.call 11 (.cons (.attr (.var 0) 2) (.cons (.tup (.cons (.var 1) (.cons (.var 2) .nil))) .nil)))) (.cons (.raise 3 (.int 0)) .nil) .nil) (.cons (.ite (.not (.call 1 (.cons (.var 3) (.cons (.int 1) (.cons (.glob 19) .nil))))) (.cons (.raise 11 (.var 3)) .nil) .nil) (.cons (.expr (.call 54 (.cons (.bin .add (.bi .len (.cons (.attr (.meth (.var 0) 19 .nil) 13) .nil)) (.var 3)) .nil))) (.cons (.asg 4 (.meth (.meth (.var 0) 19 .nil) 15 .nil)) (.cons (.expr (.meth (.var 4) 18 (.cons (.bin .mul (.tup (.cons (.tup (.cons (.var 1) (.cons (.var 2) .nil))) .nil)) (.var 3)) .nil))) (.cons (.item (.attr (.var 0) 5) (.neg (.int 1)) (.var 4)) .nil)))))))
def N_Feed_move : List Str := (["self", "part", "way", "many", "grown"] : List Str)
def b_Feed_correct : CB := (.cons (.asg 3 (.attr (.meth (.var 0) 19 .nil) 13)) (.cons (.ite (.not (.call 2 (.cons (.var 1) (.cons (.bin .add (.bi .len (.cons (.var 3) .nil)) (.int 1)) .nil)))) (.cons (.raise 12 (.var 1)) .nil) .nil) (.cons (.expr (.call 12 (.cons (.attr (.var 0) 2) (.cons (.var 2) .nil)))) (.cons (.ite (.cmp .eq (.bi .len (.cons (.attr (.var 0) 5) .nil)) (.glob 20)) (.cons (.raise 10 (.bin .add (.glob 20) (.int 1))) .nil) .nil) (.cons (.asg 4 (.bin .add (.bin .add (.slc (.var 3) .no (.yes (.var 1))) (.var 2)) (.slc (.var 3) (.yes (.bin .add (.var 1) (.int 1))) .no))) (.cons (.expr (.call 54 (.cons (.bi .len (.cons (.var 4) .nil)) .nil))) (.cons (.asg 5 (.meth (.var 0) 17 .nil)) (.cons (.expr (.meth (.var 5) 18 (.cons (.var 4) .nil))) (.cons (.expr (.app (.attr (.var 0) 5) (.var 5))) .nil)))))))))
def N_Feed_correct : List Str := (["self", "index", "moves", "old", "history", "told"] : List Str)
def b_Feed_edition : CB := (.cons (.ite (.not (.call 1 (.cons (.var 1) (.cons (.int 1) (.cons (.bi .len (.cons (.attr (.var 0) 5) .nil)) .nil))))) (.cons (.raise 13 (.var 1)) .nil) .nil) (.cons (.ret (.idx (.attr (.var 0) 5) (.bin .sub (.var 1) (.int 1)))) .nil))
def N_Feed_edition : List Str := (["self", "number"] : List Str)
def b_Feed_asked : CB := (.cons (.ret (.ite (.cmp .isN (.var 1) .non) (.meth (.var 0) 19 .nil) (.meth (.var 0) 20 (.cons (.var 1) .nil)))) .nil)
def N_Feed_asked : List Str := (["self", "edition"] : List Str)
def b_Feed_state : CB := (.cons (.ret (.attr (.attr (.meth (.var 0) 21 (.cons (.var 1) .nil)) 14) 0)) .nil)
def N_Feed_state : List Str := (["self", "edition"] : List Str)
def b_want_ties : CB := (.cons (.ite (.or (.cons (.not (.bi .isTup (.cons (.var 1) .nil))) (.cons (.cmp .ne (.bi .len (.cons (.var 1) .nil)) (.call 7 (.cons (.var 0) .nil))) .nil))) (.cons (.raise 4 (.neg (.int 1))) .nil) .nil) (.cons (.for_ (.tp [(.nm 2), (.nm 3)]) (.enum (.var 1)) (.cons (.ite (.not (.call 1 (.cons (.var 3) (.cons (.int 0) (.cons (.int 1) .nil))))) (.cons (.raise 4 (.var 2)) .nil) .nil) .nil)) .nil))
def N_want_ties : List Str := (["book", "ties", "part", "tie"] : List Str)
def b_nearest : CB := (.cons (.ret (.bin .fdiv (.bin .add (.var 0) (.bin .fdiv (.bin .add (.bin .sub (.var 1) (.int 1)) (.var 2)) (.int 2))) (.var 1))) .nil)
def N_nearest : List Str := (["truth", "steps", "tie"] : List Str)
def b_HalvesPlayer_init : CB := (.cons (.attr (.var 0) 2 (.var 1)) (.cons (.attr (.var 0) 23 (.var 2)) (.cons (.attr (.var 0) 22 (.var 3)) .nil)))
def N_HalvesPlayer_init : List Str := (["self", "book", "ties", "truths"] : List Str)
def b_HalvesPlayer_copy : CB := (.cons (.ret (.make 19 (.cons (.attr (.var 0) 2) (.cons (.attr (.var 0) 23) (.cons (.attr (.var 0) 22) .nil))))) .nil)
def N_HalvesPlayer_copy : List Str := (["self"] : List Str)
def b_HalvesPlayer_number : CB := (.cons (.ret (.call 67 (.cons (.idx (.attr (.var 0) 22) (.var 1)) (.cons (.idx (.idx (.attr (.var 0) 2) (.int 0)) (.var 1)) (.cons (.idx (.attr (.var 0) 23) (.var 1)) .nil))))) .nil)
def N_HalvesPlayer_number : List Str := (["self", "part"] : List Str)
def b_HalvesPlayer_moved : CB := (.cons (.asg 3 (.meth (.var 0) 24 (.cons (.var 1) .nil))) (.cons (.attr (.var 0) 22 (.call 17 (.cons (.attr (.var 0) 22) (.cons (.var 1) (.cons (.var 2) .nil))))) (.cons (.asg 4 (.bin .sub (.meth (.var 0) 24 (.cons (.var 1) .nil)) (.var 3))) (.cons (.ret (.ite (.cmp .ne (.var 4) (.int 0)) (.tup (.cons (.tup (.cons (.var 1) (.cons (.var 4) .nil))) .nil)) (.tup .nil))) .nil))))
def N_HalvesPlayer_moved : List Str := (["self", "part", "way", "before", "by"] : List Str)
def b_halves : CB := (.cons (.asg 0 (.call 6 (.cons (.var 0) .nil))) (.cons (.expr (.call 66 (.cons (.var 0) (.cons (.var 1) .nil)))) (.cons (.ret (.make 19 (.cons (.var 0) (.cons (.var 1) (.cons (.bin .mul (.tup (.cons (.int 0) .nil)) (.call 7 (.cons (.var 0) .nil))) .nil))))) .nil)))
def N_halves : List Str := (["book", "ties"] : List Str)
def b_bounded : CB := (.cons (.ret (.ite (.chain .le .le (.neg (.glob 21)) (.var 0) (.glob 21)) (.var 0) .non)) .nil)
def N_bounded : List Str := (["number"] : List Str)
def b_summed : CB := (.cons (.ite (.cmp .eq (.var 0) (.str 29)) (.cons (.ret (.call 73 (.cons (.bin .add (.var 1) (.var 2)) .nil))) .nil) .nil) (.cons (.ite (.cmp .eq (.var 0) (.str 28)) (.cons (.ret (.call 73 (.cons (.bin .sub (.var 1) (.var 2)) .nil))) .nil) .nil) (.cons (.ite (.cmp .eq (.var 0) (.str 27)) (.cons (.ret (.call 73 (.cons (.bin .mul (.var 1) (.var 2)) .nil))) .nil) .nil) (.cons (.ite (.cmp .le (.var 2) (.int 0)) (.cons (.ret .non) .nil) .nil) (.cons (.ret (.call 73 (.cons (.ite (.cmp .eq (.var 0) (.str 26)) (.bin .fdiv (.var 1) (.var 2)) (.bin .mod (.var 1) (.var 2))) .nil))) .nil)))))
def N_summed : List Str := (["word", "one", "two"] : List Str)
def b_Run_init : CB := (.cons (.attr2 (.var 0) 30 31 (.var 1)) (.cons (.attr (.var 0) 29 (.lcf .tupleX (.var 6) (.tp [(.nm 6), (.nm 7)]) (.of (.idx (.var 2) (.int 0))) .no [6, 7])) (.cons (.attr (.var 0) 28 (.lcf .tupleX (.var 6) (.tp [(.nm 6), (.nm 7)]) (.of (.idx (.var 2) (.int 1))) .no [6, 7])) (.cons (.attr (.var 0) 22 (.bi .list1 (.cons (.idx (.var 3) (.int 0)) .nil))) (.cons (.augItem (.attr (.var 0) 22) (.var 4) (.var 5)) (.cons (.attr (.var 0) 12 (.bi .list1 (.cons (.idx (.var 3) (.int 1)) .nil))) (.cons (.attr (.var 0) 6 (.bi .list1 (.cons (.idx (.var 3) (.int 2)) .nil))) (.cons (.attr (.var 0) 5 (.lc (.bi .list1 (.cons (.var 8) .nil)) (.nm 8) (.of (.idx (.var 3) (.int 3))) .no [8])) (.cons (.attr (.var 0) 27 (.var 4)) (.cons (.attr (.var 0) 26 (.var 5)) (.cons (.attr (.var 0) 25 (.var 4)) .nil)))))))))))
def N_Run_init : List Str := (["self", "book", "publisher", "state", "part", "way", "name", "_", "row"] : List Str)
def b_Run_state : CB := (.cons (.asg 1 (.lcf .tuple (.bi .tuple1 (.cons (.var 2) .nil)) (.nm 2) (.of (.attr (.var 0) 5)) .no [2])) (.cons (.ret (.tup (.cons (.bi .tuple1 (.cons (.attr (.var 0) 22) .nil)) (.cons (.bi .tuple1 (.cons (.attr (.var 0) 12) .nil)) (.cons (.bi .tuple1 (.cons (.attr (.var 0) 6) .nil)) (.cons (.var 1) .nil)))))) .nil))
def N_Run_state : List Str := (["self", "rows", "row"] : List Str)
def b_Run_part_of : CB := (.cons (.asg 2 (.idx (.var 1) (.int 0))) (.cons (.ite (.cmp .eq (.var 2) (.str 0)) (.cons (.ret (.idx (.var 1) (.int 1))) .nil) .nil) (.cons (.ret (.ite (.cmp .eq (.var 2) (.str 2)) (.attr (.var 0) 27) (.attr (.var 0) 25))) .nil)))
def N_Run_part_of : List Str := (["self", "thing", "word"] : List Str)
def b_Run_leaf : CB := (.cons (.asg 2 (.idx (.var 1) (.int 0))) (.cons (.ite (.cmp .eq (.var 2) (.str 4)) (.cons (.ret (.idx (.var 1) (.int 1))) .nil) .nil) (.cons (.ite (.cmp .eq (.var 2) (.str 6)) (.cons (.ret (.attr (.var 0) 26)) .nil) .nil) (.cons (.ite (.cmp .eq (.var 2) (.str 3)) (.cons (.ret (.idx (.attr (.var 0) 6) (.index (.attr (.var 0) 29) (.idx (.var 1) (.int 1))))) .nil) .nil) (.cons (.ite (.cmp .eq (.var 2) (.str 5)) (.cons (.asg 3 (.idx (.attr (.var 0) 5) (.index (.attr (.var 0) 28) (.idx (.var 1) (.int 1))))) (.cons (.ret (.idx (.var 3) (.meth (.var 0) 32 (.cons (.idx (.var 1) (.int 2)) .nil)))) .nil)) .nil) (.cons (.asg 4 (.meth (.var 0) 32 (.cons (.idx (.var 1) (.int 1)) .nil))) (.cons (.ite (.cmp .eq (.var 2) (.str 31)) (.cons (.ret (.idx (.attr (.var 0) 22) (.var 4))) .nil) .nil) (.cons (.ret (.ite (.cmp .eq (.var 2) (.str 30)) (.idx (.attr (.var 0) 12) (.var 4)) (.idx (.attr (.var 0) 30) (.var 4)))) .nil))))))))
def N_Run_leaf : List Str := (["self", "thing", "word", "row", "part"] : List Str)
def b_Run_worth : CB := (.cons (.ite (.cmp .notIn (.idx (.var 1) (.int 0)) (.tup (.cons (.str 29) (.cons (.str 28) (.cons (.str 27) (.cons (.str 26) (.cons (.str 32) .nil))))))) (.cons (.ret (.call 73 (.cons (.meth (.var 0) 34 (.cons (.var 1) .nil)) .nil))) .nil) .nil) (.cons (.par [2, 3] (.cons (.meth (.var 0) 33 (.cons (.idx (.var 1) (.int 1)) .nil)) (.cons (.meth (.var 0) 33 (.cons (.idx (.var 1) (.int 2)) .nil)) .nil))) (.cons (.ret (.ite (.or (.cons (.cmp .isN (.var 2) .non) (.cons (.cmp .isN (.var 3) .non) .nil))) .non (.call 74 (.cons (.idx (.var 1) (.int 0)) (.cons (.var 2) (.cons (.var 3) .nil)))))) .nil)))
def N_Run_worth : List Str := (["self", "thing", "one", "two"] : List Str)
def b_Run_holds : CB := (.cons (.asg 2 (.idx (.var 1) (.int 0))) (.cons (.ite (.cmp .eq (.var 2) (.str 9)) (.cons (.ret (.cmp .eq (.meth (.var 0) 32 (.cons (.idx (.var 1) (.int 1)) .nil)) (.meth (.var 0) 32 (.cons (.idx (.var 1) (.int 2)) .nil)))) .nil) .nil) (.cons (.ite (.cmp .eq (.var 2) (.str 10)) (.cons (.ret (.cmp .in_ (.meth (.var 0) 32 (.cons (.idx (.var 1) (.int 1)) .nil)) (.idx (.attr (.var 0) 31) (.attr (.var 0) 27)))) .nil) .nil) (.cons (.ite (.cmp .in_ (.var 2) (.tup (.cons (.str 8) (.cons (.str 7) .nil)))) (.cons (.par [3, 4] (.cons (.meth (.var 0) 33 (.cons (.idx (.var 1) (.int 1)) .nil)) (.cons (.meth (.var 0) 33 (.cons (.idx (.var 1) (.int 2)) .nil)) .nil))) (.cons (.ite (.or (.cons (.cmp .isN (.var 3) .non) (.cons (.cmp .isN (.var 4) .non) .nil))) (.cons (.ret .non) .nil) .nil) (.cons (.ret (.ite (.cmp .eq (.var 2) (.str 8)) (.cmp .eq (.var 3) (.var 4)) (.cmp .lt (.var 3) (.var 4)))) .nil))) .nil) (.cons (.asgLc 5 (.meth (.var 0) 35 (.cons (.var 6) .nil)) (.nm 6) (.of (.slc (.var 1) (.yes (.int 1)) .no)) .no [6]) (.cons (.ite (.cmp .in_ .non (.var 5)) (.cons (.ret .non) .nil) .nil) (.cons (.ite (.cmp .eq (.var 2) (.str 13)) (.cons (.ret (.not (.idx (.var 5) (.int 0)))) .nil) .nil) (.cons (.ret (.ite (.cmp .eq (.var 2) (.str 12)) (.bi .all1 (.cons (.var 5) .nil)) (.bi .any1 (.cons (.var 5) .nil)))) .nil))))))))
def N_Run_holds : List Str := (["self", "test", "word", "one", "two", "parts", "part"] : List Str)
def b_Run_body : CB := (.cons (.for_ (.tp [(.nm 3), (.nm 4)]) (.enum (.var 1)) (.cons (.asg 5 (.meth (.var 0) 10 (.cons (.var 4) (.cons (.bin .add (.var 2) (.tup (.cons (.var 3) .nil))) .nil)))) (.cons (.ite (.cmp .notN (.var 5) .non) (.cons (.ret (.var 5)) .nil) .nil) .nil))) (.cons (.ret .non) .nil))
def N_Run_body : List Str := (["self", "body", "place", "index", "statement", "fault"] : List Str)
def b_Run_statement : CB := (.cons (.ite (.cmp .eq (.idx (.var 1) (.int 0)) (.str 17)) (.cons (.ret (.meth (.var 0) 38 (.cons (.var 1) (.cons (.var 2) .nil)))) .nil) .nil) (.cons (.ite (.cmp .eq (.idx (.var 1) (.int 0)) (.str 18)) (.cons (.ret (.meth (.var 0) 37 (.cons (.var 1) (.cons (.var 2) .nil)))) .nil) .nil) (.cons (.asg 3 (.meth (.var 0) 33 (.cons (.idx (.var 1) (.neg (.int 1))) .nil))) (.cons (.ite (.cmp .isN (.var 3) .non) (.cons (.ret (.var 2)) .nil) .nil) (.cons (.expr (.meth (.var 0) 36 (.cons (.var 1) (.cons (.var 3) .nil)))) (.cons (.ret .non) .nil))))))
def N_Run_statement : List Str := (["self", "statement", "place", "number"] : List Str)
def b_Run_store : CB := (.cons (.par [3, 4] (.cons (.idx (.var 1) (.int 0)) (.cons (.idx (.var 1) (.int 1)) .nil))) (.cons (.ite (.cmp .eq (.var 3) (.str 15)) (.cons (.item (.attr (.var 0) 6) (.index (.attr (.var 0) 29) (.var 4)) (.var 2)) .nil) (.cons (.ite (.cmp .eq (.var 3) (.str 16)) (.cons (.asg 5 (.idx (.attr (.var 0) 5) (.index (.attr (.var 0) 28) (.var 4)))) (.cons (.item (.var 5) (.meth (.var 0) 32 (.cons (.idx (.var 1) (.int 2)) .nil)) (.var 2)) .nil)) (.cons (.item (.attr (.var 0) 12) (.meth (.var 0) 32 (.cons (.var 4) .nil)) (.var 2)) .nil)) .nil)) .nil))
def N_Run_store : List Str := (["self", "statement", "number", "word", "name", "row"] : List Str)
def b_Run_choice : CB := (.cons (.asg 3 (.meth (.var 0) 35 (.cons (.idx (.var 1) (.int 1)) .nil))) (.cons (.ite (.cmp .isN (.var 3) .non) (.cons (.ret (.var 2)) .nil) .nil) (.cons (.ret (.ite (.var 3) (.meth (.var 0) 11 (.cons (.idx (.var 1) (.int 2)) (.cons (.bin .add (.var 2) (.tup (.cons (.int 0) .nil))) .nil))) (.meth (.var 0) 11 (.cons (.idx (.var 1) (.int 3)) (.cons (.bin .add (.var 2) (.tup (.cons (.int 1) .nil))) .nil))))) .nil)))
def N_Run_choice : List Str := (["self", "statement", "place", "is_so"] : List Str)
def b_Run_each : CB := (.cons (.for_ (.nm 3) (.range (.bi .len (.cons (.attr (.var 0) 30) .nil))) (.cons (.attr (.var 0) 25 (.var 3)) (.cons (.asg 4 (.meth (.var 0) 11 (.cons (.idx (.var 1) (.int 1)) (.cons (.bin .add (.var 2) (.tup (.cons (.int 0) .nil))) .nil)))) (.cons (.ite (.cmp .notN (.var 4) .non) (.cons (.ret (.var 4)) .nil) .nil) .nil)))) (.cons (.ret .non) .nil))
def N_Run_each : List Str := (["self", "statement", "place", "part", "fault"] : List Str)
def b_told_of : CB := (.cons (.asg 5 (.make 20 (.cons (.var 0) (.cons (.var 1) (.cons (.var 2) (.cons (.var 3) (.cons (.var 4) .nil))))))) (.cons (.asg 6 (.meth (.var 5) 11 (.cons (.idx (.var 1) (.int 2)) (.cons (.tup .nil) .nil)))) (.cons (.ret (.ite (.cmp .isN (.var 6) .non) (.tup (.cons (.meth (.var 5) 0 .nil) (.cons .non .nil))) (.tup (.cons (.var 2) (.cons (.var 6) .nil))))) .nil)))
def N_told_of : List Str := (["book", "publisher", "state", "part", "way", "run", "fault"] : List Str)
def b_Program_init : CB := (.cons (.attr (.var 0) 2 (.var 1)) (.cons (.attr (.var 0) 40 (.var 2)) (.cons (.attr (.var 0) 39 (.var 3)) .nil)))
def N_Program_init : List Str := (["self", "book", "publisher", "state"] : List Str)
def b_Program_copy : CB := (.cons (.ret (.make 21 (.cons (.attr (.var 0) 2) (.cons (.attr (.var 0) 40) (.cons (.attr (.var 0) 39) .nil))))) .nil)
def N_Program_copy : List Str := (["self"] : List Str)
def b_Program_state : CB := (.cons (.ret (.attr (.var 0) 39)) .nil)
def N_Program_state : List Str := (["self"] : List Str)
def b_Program_moved : CB := (.cons (.asg 3 (.attr (.var 0) 39)) (.cons (.asgT (.tp [(.nm 4), (.nm 5)]) (.call 86 (.cons (.attr (.var 0) 2) (.cons (.attr (.var 0) 40) (.cons (.var 3) (.cons (.var 1) (.cons (.var 2) .nil))))))) (.cons (.ite (.cmp .notN (.var 5) .non) (.cons (.ret .non) .nil) .nil) (.cons (.attr (.var 0) 39 (.var 4)) (.cons (.asgLc 6 (.tup (.cons (.var 7) (.cons (.bin .sub (.var 9) (.var 8)) .nil))) (.tp [(.nm 7), (.tp [(.nm 8), (.nm 9)])]) (.enumZip (.idx (.var 3) (.int 1)) (.idx (.var 4) (.int 1))) .no [7, 8, 9]) (.cons (.ret (.lcf .tuple (.var 10) (.nm 10) (.of (.var 6)) (.yes (.cmp .ne (.idx (.var 10) (.int 1)) (.int 0))) [10])) .nil))))))
def N_Program_moved : List Str := (["self", "part", "way", "ahead", "behind", "fault", "pairs", "number", "old", "new", "pair"] : List Str)
def b_first_state : CB := (.cons (.asg 2 (.bin .mul (.tup (.cons (.int 0) .nil)) (.bi .len (.cons (.idx (.var 0) (.int 0)) .nil)))) (.cons (.asg 3 (.lcf .tuple (.bin .mul (.tup (.cons (.var 5) .nil)) (.bi .len (.cons (.var 2) .nil))) (.tp [(.nm 4), (.nm 5)]) (.of (.idx (.var 1) (.int 1))) .no [4, 5])) (.cons (.ret (.tup (.cons (.var 2) (.cons (.var 2) (.cons (.lcf .tuple (.var 5) (.tp [(.nm 4), (.nm 5)]) (.of (.idx (.var 1) (.int 0))) .no [4, 5]) (.cons (.var 3) .nil)))))) .nil)))
def N_first_state : List Str := (["book", "publisher", "noughts", "rows", "_", "start"] : List Str)
def b_program : CB := (.cons (.asg 0 (.call 6 (.cons (.var 0) .nil))) (.cons (.asg 2 (.call 46 (.cons (.var 0) (.cons (.var 1) (.cons (.var 2) .nil))))) (.cons (.ret (.make 21 (.cons (.var 0) (.cons (.var 2) (.cons (.call 91 (.cons (.var 0) (.cons (.var 2) .nil))) .nil))))) .nil)))
def N_program : List Str := (["book", "names", "publisher"] : List Str)
def b__law_pool : CB := (.cons (.asg 2 (.int 0)) (.cons (.ite (.cmp .lt (.var 1) (.bi .len (.cons (.var 0) .nil))) (.cons (.asg 2 (.idx (.var 0) (.var 1))) .nil) (.cons (.ite (.eqNil true (.var 0)) (.cons (.asg 2 (.idx (.var 0) (.int 0))) .nil) .nil) .nil)) (.cons (.asg 3 (.bi .max2 (.cons (.bi .int1 (.cons (.var 2) .nil)) (.cons (.bi .int1 (.cons (.bin .sub (.neg (.int 1)) (.var 2)) .nil)) .nil)))) (.cons (.asg 4 (.bin .mod (.bi .int1 (.cons (.bin .mul (.bin .add (.bin .add (.bin .add (.bin .mod (.bi .int1 (.cons (.var 3) .nil)) (.int 2147483629)) (.bin .mul (.bin .mul (.int 7919) (.var 1)) (.var 1))) (.bin .mul (.int 31) (.var 1))) (.int 17)) (.int 48271)) .nil)) (.int 2147483647))) (.cons (.ret (.lst (.cons (.bin .mul (.var 3) (.bi .int1 (.cons (.and (.cons (.cmp .ge (.var 3) (.bin .pow (.int 10) (.int 18))) (.cons (.cmp .lt (.var 1) (.bi .len (.cons (.var 0) .nil))) .nil))) .nil))) (.cons (.var 4) .nil)))) .nil)))))
def N__law_pool : List Str := (["_law_script", "_law_k", "_law_cell", "_law_big", "_law_mixed_here"] : List Str)
def b__law_take : CB := (.cons (.ite (.cmp .gt (.idx (.var 0) (.int 0)) (.int 0)) (.cons (.asg 2 (.bin .mod (.bi .int1 (.cons (.idx (.var 0) (.int 0)) .nil)) (.var 1))) (.cons (.item (.var 0) (.int 0) (.bin .fdiv (.idx (.var 0) (.int 0)) (.var 1))) (.cons (.ret (.var 2)) .nil))) .nil) (.cons (.item (.var 0) (.int 1) (.bin .mod (.bi .int1 (.cons (.bin .add (.bin .mul (.idx (.var 0) (.int 1)) (.int 39373)) (.int 7)) .nil)) (.int 2147483647))) (.cons (.ret (.bin .mod (.bi .int1 (.cons (.bin .fdiv (.bin .mod (.bi .int1 (.cons (.bin .mul (.idx (.var 0) (.int 1)) (.idx (.var 0) (.int 1))) .nil)) (.int 2147483629)) (.int 32)) .nil)) (.var 1))) .nil)))
def N__law_take : List Str := (["_law_source", "_law_top", "_law_drawn"] : List Str)
def b__law_one : CB := (.cons (.ret (.idx (.var 1) (.call 94 (.cons (.var 0) (.cons (.bi .len (.cons (.var 1) .nil)) .nil))))) .nil)
def N__law_one : List Str := (["_law_source", "_law_things"] : List Str)
def b__law_mixed : CB := (.cons (.par [2, 3] (.cons (.bi .list1 (.cons (.var 1) .nil)) (.cons (.lst .nil) .nil))) (.cons (.for_ (.nm 4) (.range (.bi .len (.cons (.var 1) .nil))) (.cons (.expr (.app (.var 3) (.pop (.var 2) (.call 94 (.cons (.var 0) (.cons (.bi .len (.cons (.var 2) .nil)) .nil)))))) .nil)) (.cons (.ret (.var 3)) .nil)))
def N__law_mixed : List Str := (["_law_source", "_law_things", "_law_rest", "_law_found", "_law_turn"] : List Str)
def b__law_pub_moved_worth : CB := (.cons (.ret (.tup (.cons (.var 0) (.cons (.tup (.cons (.str 2) .nil)) .nil)))) .nil)
def N__law_pub_moved_worth : List Str := (["_law_word"] : List Str)
def b__law_pub_halves : CB := (.cons (.asg 1 (.tup (.cons (.str 27) (.cons (.tup (.cons (.str 4) (.cons (.int 2) .nil))) (.cons (.call 97 (.cons (.str 33) .nil)) .nil))))) (.cons (.asg 2 (.ite (.var 0) (.call 97 (.cons (.str 33) .nil)) (.tup (.cons (.str 28) (.cons (.call 97 (.cons (.str 33) .nil)) (.cons (.tup (.cons (.str 4) (.cons (.int 1) .nil))) .nil)))))) (.cons (.asg 3 (.tup (.cons (.str 29) (.cons (.tup (.cons (.str 27) (.cons (.tup (.cons (.str 4) (.cons (.int 2) .nil))) (.cons (.call 97 (.cons (.str 31) .nil)) .nil)))) (.cons (.var 2) .nil))))) (.cons (.ret (.tup (.cons (.tup .nil) (.cons (.tup .nil) (.cons (.tup (.cons (.tup (.cons (.str 14) (.cons (.tup (.cons (.str 2) .nil)) (.cons (.tup (.cons (.str 26) (.cons (.var 3) (.cons (.var 1) .nil)))) .nil)))) .nil)) .nil))))) .nil))))
def N__law_pub_halves : List Str := (["_law_is_up", "_law_twice", "_law_rest", "_law_doubled"] : List Str)
def b__law_pub_floor : CB := (.cons (.ret (.tup (.cons (.tup .nil) (.cons (.tup .nil) (.cons (.tup (.cons (.tup (.cons (.str 14) (.cons (.tup (.cons (.str 2) .nil)) (.cons (.tup (.cons (.str 26) (.cons (.call 97 (.cons (.str 31) .nil)) (.cons (.call 97 (.cons (.str 33) .nil)) .nil)))) .nil)))) .nil)) .nil))))) .nil)
def N__law_pub_floor : List Str := ([] : List Str)
def b__law_pub_nudge : CB := (.cons (.ret (.tup (.cons (.str 17) (.cons (.var 0) (.cons (.tup (.cons (.tup (.cons (.str 14) (.cons (.tup (.cons (.str 2) .nil)) (.cons (.tup (.cons (.var 1) (.cons (.call 97 (.cons (.str 30) .nil)) (.cons (.tup (.cons (.str 4) (.cons (.int 1) .nil))) .nil)))) .nil)))) .nil)) (.cons (.tup .nil) .nil)))))) .nil)
def N__law_pub_nudge : List Str := (["_law_test", "_law_by"] : List Str)
def b__law_pub_off : CB := (.cons (.ret (.tup (.cons (.str 28) (.cons (.tup (.cons (.str 27) (.cons (.tup (.cons (.str 30) (.cons (.var 0) .nil))) (.cons (.tup (.cons (.str 33) (.cons (.var 0) .nil))) .nil)))) (.cons (.tup (.cons (.str 31) (.cons (.var 0) .nil))) .nil))))) .nil)
def N__law_pub_off : List Str := (["_law_part"] : List Str)
def b__law_pub_lagging : CB := (.cons (.asg 1 (.call 101 (.cons (.tup (.cons (.str 2) .nil)) .nil))) (.cons (.asg 2 (.call 100 (.cons (.tup (.cons (.str 7) (.cons (.tup (.cons (.str 29) (.cons (.var 1) (.cons (.tup (.cons (.str 4) (.cons (.var 0) .nil))) .nil)))) (.cons (.tup (.cons (.str 4) (.cons (.int 0) .nil))) .nil)))) (.cons (.str 29) .nil)))) (.cons (.ret (.tup (.cons (.tup .nil) (.cons (.tup .nil) (.cons (.tup (.cons (.var 2) (.cons (.call 100 (.cons (.tup (.cons (.str 7) (.cons (.tup (.cons (.str 4) (.cons (.var 0) .nil))) (.cons (.var 1) .nil)))) (.cons (.str 28) .nil))) .nil))) .nil))))) .nil)))
def N__law_pub_lagging : List Str := (["_law_far", "_law_apart", "_law_low"] : List Str)
def b__law_pub_mender : CB := (.cons (.asg 1 (.tup (.cons (.str 15) (.cons (.str 34) (.cons (.tup (.cons (.str 29) (.cons (.tup (.cons (.str 3) (.cons (.str 34) .nil))) (.cons (.call 101 (.cons (.tup (.cons (.str 1) .nil)) .nil)) .nil)))) .nil))))) (.cons (.asg 2 (.tup (.cons (.tup (.cons (.str 15) (.cons (.str 34) (.cons (.tup (.cons (.str 4) (.cons (.int 0) .nil))) .nil)))) (.cons (.tup (.cons (.str 18) (.cons (.tup (.cons (.var 1) .nil)) .nil))) .nil)))) (.cons (.asg 3 (.tup (.cons (.str 27) (.cons (.tup (.cons (.str 4) (.cons (.int 2) .nil))) (.cons (.tup (.cons (.str 3) (.cons (.str 34) .nil))) .nil))))) (.cons (.asg 4 (.tup (.cons (.str 7) (.cons (.tup (.cons (.str 29) (.cons (.var 3) (.cons (.call 97 (.cons (.str 33) .nil)) .nil)))) (.cons (.tup (.cons (.str 4) (.cons (.int 0) .nil))) .nil))))) (.cons (.asg 5 (.tup (.cons (.str 7) (.cons (.call 97 (.cons (.str 33) .nil)) (.cons (.var 3) .nil))))) (.cons (.asg 2 (.bin .add (.var 2) (.tup (.cons (.call 100 (.cons (.var 4) (.cons (.str 29) .nil))) (.cons (.call 100 (.cons (.var 5) (.cons (.str 28) .nil))) .nil))))) (.cons (.ite (.var 0) (.cons (.asg 6 (.tup (.cons (.str 7) (.cons (.tup (.cons (.str 33) (.cons (.tup (.cons (.str 1) .nil)) .nil))) (.cons (.call 101 (.cons (.tup (.cons (.str 1) .nil)) .nil)) .nil))))) (.cons (.asg 7 (.tup (.cons (.str 14) (.cons (.tup (.cons (.str 1) .nil)) (.cons (.tup (.cons (.str 28) (.cons (.tup (.cons (.str 30) (.cons (.tup (.cons (.str 1) .nil)) .nil))) (.cons (.tup (.cons (.str 4) (.cons (.int 1) .nil))) .nil)))) .nil))))) (.cons (.asg 2 (.bin .add (.var 2) (.tup (.cons (.tup (.cons (.str 18) (.cons (.tup (.cons (.tup (.cons (.str 17) (.cons (.tup (.cons (.str 12) (.cons (.tup (.cons (.str 10) (.cons (.tup (.cons (.str 1) .nil)) .nil))) (.cons (.var 6) .nil)))) (.cons (.tup (.cons (.var 7) .nil)) (.cons (.tup .nil) .nil))))) .nil)) .nil))) .nil)))) .nil))) .nil) (.cons (.ret (.tup (.cons (.tup (.cons (.tup (.cons (.str 34) (.cons (.int 0) .nil))) .nil)) (.cons (.tup .nil) (.cons (.var 2) .nil))))) .nil))))))))
def N__law_pub_mender : List Str := (["_law_is_linked", "_law_summed", "_law_body", "_law_twice", "_law_low", "_law_high", "_law_far", "_law_back"] : List Str)
def b__law_pub_counter : CB := (.cons (.asg 1 (.tup (.cons (.str 29) (.cons (.tup (.cons (.str 5) (.cons (.str 35) (.cons (.tup (.cons (.str 2) .nil)) .nil)))) (.cons (.tup (.cons (.str 4) (.cons (.int 1) .nil))) .nil))))) (.cons (.asg 2 (.tup (.cons (.str 8) (.cons (.tup (.cons (.str 32) (.cons (.tup (.cons (.str 5) (.cons (.str 35) (.cons (.tup (.cons (.str 2) .nil)) .nil)))) (.cons (.tup (.cons (.str 4) (.cons (.var 0) .nil))) .nil)))) (.cons (.tup (.cons (.str 4) (.cons (.int 0) .nil))) .nil))))) (.cons (.asg 3 (.idx (.call 98 (.cons (.bl true) .nil)) (.int 2))) (.cons (.ret (.tup (.cons (.tup (.cons (.tup (.cons (.str 36) (.cons (.int 3) .nil))) .nil)) (.cons (.tup (.cons (.tup (.cons (.str 35) (.cons (.int 0) .nil))) .nil)) (.cons (.tup (.cons (.tup (.cons (.str 16) (.cons (.str 35) (.cons (.tup (.cons (.str 2) .nil)) (.cons (.var 1) .nil))))) (.cons (.tup (.cons (.str 17) (.cons (.var 2) (.cons (.var 3) (.cons (.tup .nil) .nil))))) .nil))) .nil))))) .nil))))
def N__law_pub_counter : List Str := (["_law_often", "_law_count", "_law_test", "_law_show"] : List Str)
def b__law_plain_links : CB := (.cons (.ret (.lcf .tuple (.tup (.cons (.var 1) .nil)) (.nm 1) (.range (.var 0)) .no [1])) .nil)
def N__law_plain_links : List Str := (["_law_many", "_law_i"] : List Str)
def b__law_drawn_links : CB := (.cons (.par [2, 3] (.cons (.lst .nil) (.cons (.call 94 (.cons (.var 0) (.cons (.var 1) .nil))) .nil))) (.cons (.asg 4 (.cmp .eq (.call 94 (.cons (.var 0) (.cons (.int 4) .nil))) (.int 0))) (.cons (.for_ (.nm 5) (.range (.var 1)) (.cons (.asg 6 (.ite (.var 4) (.lst (.cons (.var 3) .nil)) (.lc (.var 7) (.nm 7) (.range (.var 1)) (.yes (.cmp .eq (.call 94 (.cons (.var 0) (.cons (.int 3) .nil))) (.int 0))) [7]))) (.cons (.expr (.app (.var 2) (.lcf .tuple (.var 7) (.nm 7) (.range (.var 1)) (.yes (.or (.cons (.cmp .eq (.var 7) (.var 5)) (.cons (.cmp .in_ (.var 7) (.var 6)) .nil)))) [7]))) .nil))) (.cons (.ret (.bi .tuple1 (.cons (.var 2) .nil))) .nil))))
def N__law_drawn_links : List Str := (["_law_source", "_law_many", "_law_found", "_law_common", "_law_is_common", "_law_i", "_law_more", "_law_j"] : List Str)
def b__law_drawn_steps : CB := (.cons (.ite (.cmp .gt (.call 94 (.cons (.var 0) (.cons (.int 3) .nil))) (.int 0)) (.cons (.ret (.bin .mul (.tup (.cons (.bin .add (.int 1) (.call 94 (.cons (.var 0) (.cons (.var 2) .nil)))) .nil)) (.var 1))) .nil) .nil) (.cons (.ret (.lcf .tuple (.bin .add (.int 1) (.call 94 (.cons (.var 0) (.cons (.var 2) .nil)))) (.nm 3) (.range (.var 1)) .no [3])) .nil))
def N__law_drawn_steps : List Str := (["_law_source", "_law_many", "_law_most", "_law_i"] : List Str)
def b__law_plain_book : CB := (.cons (.asg 3 (.bin .add (.int 1) (.call 94 (.cons (.var 0) (.cons (.var 1) .nil))))) (.cons (.ret (.tup (.cons (.call 107 (.cons (.var 0) (.cons (.var 3) (.cons (.var 2) .nil)))) (.cons (.call 105 (.cons (.var 3) .nil)) .nil)))) .nil))
def N__law_plain_book : List Str := (["_law_source", "_law_parts", "_law_most", "_law_many"] : List Str)
def b__law_linked_book : CB := (.cons (.asg 3 (.bin .add (.int 1) (.call 94 (.cons (.var 0) (.cons (.var 1) .nil))))) (.cons (.ret (.tup (.cons (.call 107 (.cons (.var 0) (.cons (.var 3) (.cons (.var 2) .nil)))) (.cons (.call 106 (.cons (.var 0) (.cons (.var 3) .nil))) .nil)))) .nil))
def N__law_linked_book : List Str := (["_law_source", "_law_parts", "_law_most", "_law_many"] : List Str)
def b__law_some_book : CB := (.cons (.ret (.ite (.cmp .eq (.call 94 (.cons (.var 0) (.cons (.int 2) .nil))) (.int 0)) (.call 108 (.cons (.var 0) (.cons (.var 1) (.cons (.var 2) .nil)))) (.call 109 (.cons (.var 0) (.cons (.var 1) (.cons (.var 2) .nil)))))) .nil)
def N__law_some_book : List Str := (["_law_source", "_law_parts", "_law_most"] : List Str)
def b__law_drawn_line : CB := (.cons (.asg 2 (.call 94 (.cons (.var 0) (.cons (.int 3) .nil)))) (.cons (.ite (.cmp .eq (.var 2) (.int 0)) (.cons (.ret (.bin .mul (.tup (.cons (.int 1) .nil)) (.var 1))) .nil) .nil) (.cons (.ite (.cmp .eq (.var 2) (.int 1)) (.cons (.ret (.lcf .tuple (.bin .sub (.int 1) (.bin .mul (.int 2) (.call 94 (.cons (.var 0) (.cons (.int 2) .nil))))) (.nm 3) (.range (.var 1)) .no [3])) .nil) .nil) (.cons (.asg 4 (.lcf .tuple (.bin .sub (.call 94 (.cons (.var 0) (.cons (.int 7) .nil))) (.int 3)) (.nm 3) (.range (.var 1)) .no [3])) (.cons (.ret (.ite (.lcf .neNil (.var 5) (.nm 5) (.of (.var 4)) (.yes (.cmp .ne (.var 5) (.int 0))) [5]) (.var 4) (.bin .add (.tup (.cons (.int 1) .nil)) (.slc (.var 4) (.yes (.int 1)) .no)))) .nil)))))
def N__law_drawn_line : List Str := (["_law_source", "_law_many", "_law_drawn", "_law_i", "_law_found", "_law_c"] : List Str)
def b__law_drawn_history : CB := (.cons (.asg 3 (.lst .nil)) (.cons (.for_ (.nm 4) (.range (.var 2)) (.cons (.ite (.and (.cons (.cmp .lt (.bi .len (.cons (.var 3) .nil)) (.var 2)) (.cons (.cmp .gt (.call 94 (.cons (.var 0) (.cons (.int 6) .nil))) (.int 0)) .nil))) (.cons (.par [5, 6] (.cons (.tup (.cons (.call 94 (.cons (.var 0) (.cons (.var 1) .nil))) (.cons (.bin .sub (.int 1) (.bin .mul (.int 2) (.call 94 (.cons (.var 0) (.cons (.int 2) .nil))))) .nil))) (.cons (.int 1) .nil))) (.cons (.ite (.cmp .eq (.call 94 (.cons (.var 0) (.cons (.int 3) .nil))) (.int 0)) (.cons (.asg 6 (.bin .add (.int 1) (.call 94 (.cons (.var 0) (.cons (.int 6) .nil))))) .nil) .nil) (.cons (.expr (.ext (.var 3) (.bin .mul (.lst (.cons (.var 5) .nil)) (.bi .min2 (.cons (.var 6) (.cons (.bin .sub (.var 2) (.bi .len (.cons (.var 3) .nil))) .nil)))))) .nil))) .nil) .nil)) (.cons (.ret (.bi .tuple1 (.cons (.var 3) .nil))) .nil)))
def N__law_drawn_history : List Str := (["_law_source", "_law_many", "_law_length", "_law_found", "_law_turn", "_law_move", "_law_times"] : List Str)
def b__law_noughts : CB := (.cons (.ret (.tup (.cons (.bin .mul (.tup (.cons (.int 0) .nil)) (.bi .len (.cons (.idx (.var 0) (.int 0)) .nil))) (.cons (.bin .mul (.tup (.cons (.int 0) .nil)) (.bi .len (.cons (.idx (.var 0) (.int 0)) .nil))) .nil)))) .nil)
def N__law_noughts : List Str := (["_law_book"] : List Str)
def b__law_stepped : CB := (.cons (.par [3, 4] (.cons (.bi .list1 (.cons (.idx (.var 0) (.int 0)) .nil)) (.cons (.bi .list1 (.cons (.idx (.var 0) (.int 1)) .nil)) .nil))) (.cons (.item (.var 3) (.idx (.var 1) (.int 0)) (.bin .add (.idx (.var 3) (.idx (.var 1) (.int 0))) (.idx (.var 1) (.int 1)))) (.cons (.for_ (.tp [(.nm 5), (.nm 6)]) (.of (.var 2)) (.cons (.item (.var 4) (.var 5) (.bin .add (.idx (.var 4) (.var 5)) (.var 6))) .nil)) (.cons (.ret (.tup (.cons (.bi .tuple1 (.cons (.var 3) .nil)) (.cons (.bi .tuple1 (.cons (.var 4) .nil)) .nil)))) .nil))))
def N__law_stepped : List Str := (["_law_state", "_law_move", "_law_changes", "_law_truths", "_law_shown", "_law_j", "_law_by"] : List Str)
def b__law_strays_of : CB := (.cons (.ret (.lcf .tuple (.bin .sub (.bin .mul (.idx (.idx (.var 1) (.int 1)) (.var 2)) (.idx (.idx (.var 0) (.int 0)) (.var 2))) (.idx (.idx (.var 1) (.int 0)) (.var 2))) (.nm 2) (.range (.bi .len (.cons (.idx (.var 0) (.int 0)) .nil))) .no [2])) .nil)
def N__law_strays_of : List Str := (["_law_book", "_law_state", "_law_i"] : List Str)
def b__law_weighed : CB := (.cons (.ret (.lcf .sum (.bin .mul (.idx (.var 0) (.var 2)) (.idx (.var 1) (.var 2))) (.nm 2) (.range (.bi .len (.cons (.var 0) .nil))) .no [2])) .nil)
def N__law_weighed : List Str := (["_law_line", "_law_strays_now", "_law_i"] : List Str)
def b__law_is_formed : CB := (.cons (.ite (.not (.bi .isTup (.cons (.var 1) .nil))) (.cons (.ret (.bl false)) .nil) .nil) (.cons (.asg 2 (.neg (.int 1))) (.cons (.for_ (.nm 3) (.of (.var 1)) (.cons (.ite (.or (.cons (.not (.bi .isTup (.cons (.var 3) .nil))) (.cons (.cmp .ne (.bi .len (.cons (.var 3) .nil)) (.int 2)) .nil))) (.cons (.ret (.bl false)) .nil) .nil) (.cons (.for_ (.nm 4) (.of (.var 3)) (.cons (.ite (.or (.cons (.not (.bi .isInt (.cons (.var 4) .nil))) (.cons (.bi .isBool (.cons (.var 4) .nil)) .nil))) (.cons (.ret (.bl false)) .nil) .nil) .nil)) (.cons (.ite (.or (.cons (.not (.chain .lt .lt (.var 2) (.idx (.var 3) (.int 0)) (.bi .len (.cons (.idx (.var 0) (.int 0)) .nil)))) (.cons (.cmp .eq (.idx (.var 3) (.int 1)) (.int 0)) .nil))) (.cons (.ret (.bl false)) .nil) .nil) (.cons (.asg 2 (.idx (.var 3) (.int 0))) .nil))))) (.cons (.ret (.bl true)) .nil))))
def N__law_is_formed : List Str := (["_law_book", "_law_changes", "_law_ahead", "_law_pair", "_law_number"] : List Str)
def b__law_is_let : CB := (.cons (.ret (.and (.cons (.call 117 (.cons (.var 0) (.cons (.var 2) .nil))) (.cons (.lcf .eqNil (.var 3) (.tp [(.nm 3), (.nm 4)]) (.of (.var 2)) (.yes (.cmp .notIn (.var 3) (.idx (.idx (.var 0) (.int 1)) (.var 1)))) [3, 4]) .nil)))) .nil)
def N__law_is_let : List Str := (["_law_book", "_law_part", "_law_changes", "_law_j", "_law_by"] : List Str)
def b__law_played : CB := (.cons (.par [3, 4, 5] (.cons (.meth (.var 1) 3 .nil) (.cons (.call 113 (.cons (.var 0) .nil)) (.cons (.lst .nil) .nil)))) (.cons (.for_ (.nm 6) (.range (.bi .len (.cons (.var 2) .nil))) (.cons (.asg 7 (.meth (.var 3) 4 (.cons (.idx (.idx (.var 2) (.var 6)) (.int 0)) (.cons (.idx (.idx (.var 2) (.var 6)) (.int 1)) .nil)))) (.cons (.ite (.not (.call 118 (.cons (.var 0) (.cons (.idx (.idx (.var 2) (.var 6)) (.int 0)) (.cons (.var 7) .nil))))) (.cons (.ret (.tup (.cons (.var 5) (.cons (.var 6) .nil)))) .nil) .nil) (.cons (.asg 4 (.call 114 (.cons (.var 4) (.cons (.idx (.var 2) (.var 6)) (.cons (.var 7) .nil))))) (.cons (.expr (.app (.var 5) (.var 4))) .nil))))) (.cons (.ret (.tup (.cons (.var 5) (.cons .non .nil)))) .nil)))
def N__law_played : List Str := (["_law_book", "_law_player", "_law_history", "_law_here", "_law_state", "_law_found", "_law_at", "_law_changes"] : List Str)
def b__law_last_of : CB := (.cons (.ret (.ite (.eqNil true (.var 1)) (.idx (.var 1) (.bin .sub (.bi .len (.cons (.var 1) .nil)) (.int 1))) (.call 113 (.cons (.var 0) .nil)))) .nil)
def N__law_last_of : List Str := (["_law_book", "_law_states"] : List Str)
def b__law_divisor : CB := (.cons (.while_ 200 (.cmp .gt (.var 1) (.int 0)) (.cons (.par [0, 1] (.cons (.var 1) (.cons (.bin .mod (.bi .int1 (.cons (.var 0) .nil)) (.var 1)) .nil))) .nil)) (.cons (.ret (.var 0)) .nil))
def N__law_divisor : List Str := (["_law_a", "_law_b"] : List Str)
def b__law_told_names : CB := (.cons (.ret (.bi .tuple1 (.cons (.slc (.call 96 (.cons (.var 0) (.cons (.lst (.cons (.str 42) (.cons (.str 41) (.cons (.str 40) (.cons (.str 39) (.cons (.str 38) (.cons (.str 37) .nil))))))) .nil))) .no (.yes (.var 1))) .nil))) .nil)
def N__law_told_names : List Str := (["_law_source", "_law_many"] : List Str)
def b__law_fraction : CB := (.cons (.asg 2 (.call 121 (.cons (.bi .abs (.cons (.var 0) .nil)) (.cons (.var 1) .nil)))) (.cons (.par [3, 4] (.cons (.bin .fdiv (.var 0) (.var 2)) (.cons (.bin .fdiv (.var 1) (.var 2)) .nil))) (.cons (.ret (.ite (.cmp .eq (.var 4) (.int 1)) (.bi .str1 (.cons (.var 3) .nil)) (.bin .add (.bin .add (.bi .str1 (.cons (.var 3) .nil)) (.str 19)) (.bi .str1 (.cons (.var 4) .nil))))) .nil)))
def N__law_fraction : List Str := (["_law_number", "_law_steps", "_law_common", "_law_upper", "_law_lower"] : List Str)
def b__law_report_due : CB := (.cons (.asgT (.tp [(.nm 4), (.nm 5)]) (.tup (.cons (.lst .nil) (.cons (.idx (.idx (.var 0) (.int 0)) (.int 0)) .nil)))) (.cons (.for_ (.nm 6) (.range (.bi .len (.cons (.idx (.var 0) (.int 0)) .nil))) (.cons (.asg 7 (.call 123 (.cons (.bin .sub (.bin .mul (.idx (.idx (.var 3) (.int 1)) (.var 6)) (.idx (.idx (.var 0) (.int 0)) (.var 6))) (.idx (.idx (.var 3) (.int 0)) (.var 6))) (.cons (.idx (.idx (.var 0) (.int 0)) (.var 6)) .nil)))) (.cons (.asg 8 (.bin .add (.bin .add (.bin .add (.bin .add (.idx (.var 1) (.var 6)) (.str 20)) (.bi .str1 (.cons (.idx (.idx (.var 3) (.int 1)) (.var 6)) .nil))) (.str 21)) (.call 123 (.cons (.idx (.idx (.var 3) (.int 0)) (.var 6)) (.cons (.idx (.idx (.var 0) (.int 0)) (.var 6)) .nil))))) (.cons (.expr (.app (.var 4) (.bin .add (.bin .add (.var 8) (.str 22)) (.var 7)))) .nil)))) (.cons (.asg 9 (.lcf .eqNil (.var 10) (.nm 10) (.of (.idx (.var 0) (.int 0))) (.yes (.cmp .ne (.var 10) (.var 5))) [10])) (.cons (.for_ (.nm 11) (.range (.bi .len (.cons (.var 2) .nil))) (.cons (.par [12, 13] (.cons (.call 116 (.cons (.idx (.var 2) (.var 11)) (.cons (.call 115 (.cons (.var 0) (.cons (.var 3) .nil))) .nil))) (.cons (.bin .add (.bin .add (.str 24) (.bi .str1 (.cons (.var 11) .nil))) (.str 45)) .nil))) (.cons (.ite (.var 9) (.cons (.asg 14 (.lcf .sum (.bin .mul (.idx (.idx (.var 2) (.var 11)) (.var 6)) (.idx (.idx (.var 3) (.int 1)) (.var 6))) (.nm 6) (.range (.bi .len (.cons (.idx (.var 0) (.int 0)) .nil))) .no [6])) (.cons (.asg 15 (.lcf .sum (.bin .mul (.idx (.idx (.var 2) (.var 11)) (.var 6)) (.idx (.idx (.var 3) (.int 0)) (.var 6))) (.nm 6) (.range (.bi .len (.cons (.idx (.var 0) (.int 0)) .nil))) .no [6])) (.cons (.asg 13 (.bin .add (.bin .add (.bin .add (.bin .add (.var 13) (.str 43)) (.bi .str1 (.cons (.var 14) .nil))) (.str 21)) (.call 123 (.cons (.var 15) (.cons (.var 5) .nil))))) (.cons (.expr (.app (.var 4) (.bin .add (.bin .add (.var 13) (.str 22)) (.call 123 (.cons (.var 12) (.cons (.var 5) .nil)))))) .nil)))) (.cons (.expr (.app (.var 4) (.bin .add (.bin .add (.bin .add (.var 13) (.str 44)) (.bi .str1 (.cons (.var 12) .nil))) (.str 23)))) .nil)) .nil))) (.cons (.ret (.bi .tuple1 (.cons (.var 4) .nil))) .nil)))))
def N__law_report_due : List Str := (["_law_book", "_law_names", "_law_lines", "_law_state", "_law_found", "_law_m", "_law_i", "_law_off", "_law_text", "_law_is_alike", "_law_steps", "_law_k", "_law_size", "_law_head", "_law_shown", "_law_truth"] : List Str)
def b__law_report_player : CB := (.cons (.asg 2 (.bi .len (.cons (.idx (.var 1) (.int 0)) .nil))) (.cons (.ite (.cmp .eq (.call 94 (.cons (.var 0) (.cons (.int 2) .nil))) (.int 0)) (.cons (.ret (.call 72 (.cons (.var 1) (.cons (.lcf .tuple (.call 94 (.cons (.var 0) (.cons (.int 2) .nil))) (.nm 3) (.range (.var 2)) .no [3]) .nil)))) .nil) .nil) (.cons (.asg 4 (.lst (.cons (.call 99 .nil) (.cons (.call 102 (.cons (.int 3) .nil)) (.cons (.call 103 (.cons (.bl false) .nil)) (.cons (.call 104 (.cons (.int 2) .nil)) .nil)))))) (.cons (.ret (.call 92 (.cons (.var 1) (.cons (.slc (.tup (.cons (.str 42) (.cons (.str 48) (.cons (.str 47) (.cons (.str 46) .nil))))) .no (.yes (.var 2))) (.cons (.call 95 (.cons (.var 0) (.cons (.var 4) .nil))) .nil))))) .nil))))
def N__law_report_player : List Str := (["_law_source", "_law_book", "_law_many", "_law_i", "_law_some"] : List Str)
def b__law_report_refused : CB := (.cons (.asgT (.tp [(.nm 5), (.nm 6)]) (.tup (.cons (.bi .len (.cons (.var 2) .nil)) (.cons (.call 94 (.cons (.var 0) (.cons (.bi .len (.cons (.var 2) .nil)) .nil))) .nil)))) (.cons (.asg 7 (.call 95 (.cons (.var 0) (.cons (.lst (.cons (.str 57) (.cons (.str 56) (.cons (.str 55) (.cons (.bin .mul (.str 54) (.int 13)) (.cons (.str 50) (.cons .non (.cons (.int 7) (.cons (.str 53) .nil))))))))) .nil)))) (.cons (.ite (.cmp .ne (.heard (.call 53 (.cons (.var 1) (.cons (.bin .add (.bin .add (.slc (.var 2) .no (.yes (.var 6))) (.tup (.cons (.var 7) .nil))) (.slc (.var 2) (.yes (.bin .add (.var 6) (.int 1))) .no)) (.cons .non (.cons .non .nil)))))) (.tup (.cons (.str 52) (.cons (.var 6) .nil)))) (.cons (.ret (.bl false)) .nil) .nil) (.cons (.ite (.cmp .ne (.heard (.call 53 (.cons (.var 1) (.cons (.bin .add (.var 2) (.tup (.cons (.str 51) .nil))) (.cons .non (.cons .non .nil)))))) (.tup (.cons (.str 52) (.cons (.neg (.int 1)) .nil)))) (.cons (.ret (.bl false)) .nil) .nil) (.cons (.for_ (.tp [(.nm 8), (.nm 9)]) (.of (.lst (.cons (.tup (.cons (.bin .mul (.tup (.cons (.int 1) .nil)) (.bin .add (.var 5) (.int 1))) (.cons (.neg (.int 1)) .nil))) (.cons (.tup (.cons .non (.cons (.neg (.int 1)) .nil))) (.cons (.tup (.cons (.bin .mul (.tup (.cons (.int 0) .nil)) (.var 5)) (.cons (.int 0) .nil))) (.cons (.tup (.cons (.bin .add (.tup (.cons (.int 21) .nil)) (.bin .mul (.tup (.cons (.int 0) .nil)) (.bin .sub (.var 5) (.int 1)))) (.cons (.int 0) .nil))) .nil)))))) (.cons (.ite (.cmp .ne (.heard (.call 53 (.cons (.var 1) (.cons (.var 2) (.cons (.bin .add (.var 3) (.tup (.cons (.var 8) (.cons .non .nil)))) (.cons .non .nil)))))) (.tup (.cons (.str 50) (.cons (.tup (.cons (.bi .len (.cons (.var 3) .nil)) (.cons (.var 9) .nil))) .nil)))) (.cons (.ret (.bl false)) .nil) .nil) .nil)) (.cons (.ite (.cmp .ne (.heard (.call 53 (.cons (.var 1) (.cons (.var 2) (.cons .non (.cons .non .nil)))))) (.tup (.cons (.str 50) (.cons (.neg (.int 1)) .nil)))) (.cons (.ret (.bl false)) .nil) .nil) (.cons (.asg 10 (.lst (.cons .non (.cons (.tup (.cons (.idx (.var 4) (.int 0)) .nil)) (.cons (.tup (.cons (.idx (.var 4) (.int 0)) (.cons (.slc (.idx (.var 4) (.int 1)) (.yes (.int 1)) .no) .nil))) (.cons (.tup (.cons (.idx (.var 4) (.int 0)) (.cons (.idx (.var 4) (.int 1)) (.cons (.tup .nil) .nil)))) (.cons (.str 49) (.cons (.tup (.cons (.idx (.var 4) (.int 0)) (.cons (.bin .mul (.tup (.cons .non .nil)) (.var 5)) .nil))) .nil)))))))) (.cons (.ret (.cmp .eq (.heard (.call 53 (.cons (.var 1) (.cons (.var 2) (.cons (.var 3) (.cons (.call 95 (.cons (.var 0) (.cons (.var 10) .nil))) .nil)))))) (.tup (.cons (.str 49) (.cons (.int 0) .nil))))) .nil))))))))
def N__law_report_refused : List Str := (["_law_source", "_law_book", "_law_names", "_law_lines", "_law_state", "_law_many", "_law_at", "_law_odd", "_law_bad", "_law_what", "_law_some"] : List Str)
def b__law_far_state : CB := (.cons (.asg 2 (.bi .len (.cons (.idx (.var 1) (.int 0)) .nil))) (.cons (.asg 3 (.lcf .tuple (.bin .sub (.call 94 (.cons (.var 0) (.cons (.int 2000) .nil))) (.int 1000)) (.nm 4) (.range (.var 2)) .no [4])) (.cons (.ret (.tup (.cons (.var 3) (.cons (.lcf .tuple (.bin .sub (.call 94 (.cons (.var 0) (.cons (.int 300) .nil))) (.int 150)) (.nm 4) (.range (.var 2)) .no [4]) .nil)))) .nil)))
def N__law_far_state : List Str := (["_law_source", "_law_book", "_law_many", "_law_truths", "_law_i"] : List Str)
def b_law : CB := (.cons (.asg 1 (.call 93 (.cons (.var 0) (.cons (.int 0) .nil)))) (.cons (.asg 2 (.call 110 (.cons (.var 1) (.cons (.int 4) (.cons (.int 12) .nil))))) (.cons (.asg 3 (.bi .len (.cons (.idx (.var 2) (.int 0)) .nil))) (.cons (.asgT (.tp [(.nm 4), (.nm 5)]) (.tup (.cons (.call 122 (.cons (.var 1) (.cons (.var 3) .nil))) (.cons (.call 125 (.cons (.var 1) (.cons (.var 2) .nil))) .nil)))) (.cons (.asg 6 (.lcf .tuple (.call 111 (.cons (.var 1) (.cons (.var 3) .nil))) (.nm 7) (.range (.call 94 (.cons (.var 1) (.cons (.int 4) .nil)))) .no [7])) (.cons (.par [8, 9] (.cons (.make 18 (.cons (.var 2) (.cons (.var 5) .nil))) (.cons (.lst (.cons (.tup .nil) .nil)) .nil))) (.cons (.for_ (.nm 7) (.range (.bin .add (.int 1) (.call 94 (.cons (.var 1) (.cons (.int 5) .nil))))) (.cons (.par [10, 11, 12] (.cons (.call 94 (.cons (.var 1) (.cons (.var 3) .nil))) (.cons (.bin .sub (.int 1) (.bin .mul (.int 2) (.call 94 (.cons (.var 1) (.cons (.int 2) .nil))))) (.cons (.bin .add (.int 1) (.call 94 (.cons (.var 1) (.cons (.int 9) .nil)))) .nil)))) (.cons (.expr (.meth (.var 8) 42 (.cons (.var 10) (.cons (.var 11) (.cons (.var 12) .nil))))) (.cons (.item (.var 9) (.bin .sub (.bi .len (.cons (.var 9) .nil)) (.int 1)) (.bin .add (.idx (.var 9) (.bin .sub (.bi .len (.cons (.var 9) .nil)) (.int 1))) (.bin .mul (.tup (.cons (.tup (.cons (.var 10) (.cons (.var 11) .nil))) .nil)) (.var 12)))) (.cons (.ite (.cmp .in_ (.var 7) (.tup (.cons (.int 1) (.cons (.int 3) .nil)))) (.cons (.par [13, 14] (.cons (.idx (.var 9) (.bin .sub (.bi .len (.cons (.var 9) .nil)) (.int 1))) (.cons (.call 112 (.cons (.var 1) (.cons (.var 3) (.cons (.int 4) .nil)))) .nil))) (.cons (.asg 15 (.call 94 (.cons (.var 1) (.cons (.bin .add (.bi .len (.cons (.var 13) .nil)) (.int 1)) .nil)))) (.cons (.expr (.meth (.var 8) 41 (.cons (.var 15) (.cons (.var 14) .nil)))) (.cons (.expr (.app (.var 9) (.bin .add (.bin .add (.slc (.var 13) .no (.yes (.var 15))) (.var 14)) (.slc (.var 13) (.yes (.bin .add (.var 15) (.int 1))) .no)))) .nil)))) .nil) .nil))))) (.cons (.asgLc 16 (.call 120 (.cons (.var 2) (.cons (.idx (.call 119 (.cons (.var 2) (.cons (.var 5) (.cons (.var 17) .nil)))) (.int 0)) .nil))) (.nm 17) (.of (.var 9)) .no [17]) (.cons (.for_ (.nm 15) (.range (.bi .len (.cons (.var 16) .nil))) (.cons (.asg 18 (.meth (.var 8) 0 (.cons (.bin .add (.var 15) (.int 1)) .nil))) (.cons (.ite (.or (.cons (.cmp .ne (.var 18) (.idx (.var 16) (.var 15))) (.cons (.cmp .ne (.call 53 (.cons (.var 2) (.cons (.var 4) (.cons (.var 6) (.cons (.var 18) .nil))))) (.call 124 (.cons (.var 2) (.cons (.var 4) (.cons (.var 6) (.cons (.idx (.var 16) (.var 15)) .nil)))))) .nil))) (.cons (.ret (.bl false)) .nil) .nil) .nil))) (.cons (.for_ (.nm 7) (.range (.int 2)) (.cons (.asg 19 (.call 127 (.cons (.var 1) (.cons (.var 2) .nil)))) (.cons (.ite (.cmp .ne (.call 53 (.cons (.var 2) (.cons (.var 4) (.cons (.var 6) (.cons (.var 19) .nil))))) (.call 124 (.cons (.var 2) (.cons (.var 4) (.cons (.var 6) (.cons (.var 19) .nil)))))) (.cons (.ret (.bl false)) .nil) .nil) .nil))) (.cons (.ret (.call 126 (.cons (.var 1) (.cons (.var 2) (.cons (.var 4) (.cons (.var 6) (.cons (.idx (.var 16) (.int 0)) .nil))))))) .nil)))))))))))
def N_law : List Str := (["_law_script", "_law_source", "_law_book", "_law_many", "_law_names", "_law_player", "_law_lines", "_law_turn", "_law_feed", "_law_histories", "_law_part", "_law_way", "_law_times", "_law_last", "_law_moves", "_law_at", "_law_states", "_law_history", "_law_told", "_law_state"] : List Str)
/-! ### numbers -/
abbrev k_is_whole : Nat := 0
abbrev k_is_between : Nat := 1
abbrev k_is_below : Nat := 2
abbrev k_is_links : Nat := 3
abbrev k_has_size : Nat := 4
abbrev k_wrong_entry : Nat := 5
abbrev k_made_book : Nat := 6
abbrev k_many_parts : Nat := 7
abbrev k_is_part_books : Nat := 8
abbrev k_wrong_weight : Nat := 9
abbrev k_divisor : Nat := 10
abbrev k_is_move : Nat := 11
abbrev k_want_history : Nat := 12
abbrev k_is_change : Nat := 13
abbrev k_is_changes : Nat := 14
abbrev k_first_outside : Nat := 15
abbrev k_at_first : Nat := 16
abbrev k_put_to : Nat := 17
abbrev k_state_behind : Nat := 18
abbrev k_Standing_init : Nat := 19
abbrev k_Standing_branch : Nat := 20
abbrev k_Standing_step : Nat := 21
abbrev k_standing_at_first : Nat := 22
abbrev k_strays_of : Nat := 23
abbrev k_stray_of : Nat := 24
abbrev k_want_lines : Nat := 25
abbrev k_is_name : Nat := 26
abbrev k_Scope_init : Nat := 27
abbrev k_want_names : Nat := 28
abbrev k_is_short : Nat := 29
abbrev k_is_worded : Nat := 30
abbrev k_is_one_of : Nat := 31
abbrev k_is_part_publishers : Nat := 32
abbrev k_is_leaf : Nat := 33
abbrev k_is_number : Nat := 34
abbrev k_is_test_leaf : Nat := 35
abbrev k_is_test : Nat := 36
abbrev k_is_plain : Nat := 37
abbrev k_is_choice : Nat := 38
abbrev k_is_each_form : Nat := 39
abbrev k_Reading_init : Nat := 40
abbrev k_Reading_body : Nat := 41
abbrev k_Reading_statement : Nat := 42
abbrev k_is_kept : Nat := 43
abbrev k_kept_names : Nat := 44
abbrev k_want_publisher : Nat := 45
abbrev k_made_publisher : Nat := 46
abbrev k_number_text : Nat := 47
abbrev k_figure_text : Nat := 48
abbrev k_are_numbers : Nat := 49
abbrev k_is_state : Nat := 50
abbrev k_weighted : Nat := 51
abbrev k_line_text : Nat := 52
abbrev k_report : Nat := 53
abbrev k_want_few : Nat := 54
abbrev k_Edition_init : Nat := 55
abbrev k_Edition_branch : Nat := 56
abbrev k_Edition_put : Nat := 57
abbrev k_Feed_init : Nat := 58
abbrev k_Feed_fresh : Nat := 59
abbrev k_Feed_last : Nat := 60
abbrev k_Feed_move : Nat := 61
abbrev k_Feed_correct : Nat := 62
abbrev k_Feed_edition : Nat := 63
abbrev k_Feed_asked : Nat := 64
abbrev k_Feed_state : Nat := 65
abbrev k_want_ties : Nat := 66
abbrev k_nearest : Nat := 67
abbrev k_HalvesPlayer_init : Nat := 68
abbrev k_HalvesPlayer_copy : Nat := 69
abbrev k_HalvesPlayer_number : Nat := 70
abbrev k_HalvesPlayer_moved : Nat := 71
abbrev k_halves : Nat := 72
abbrev k_bounded : Nat := 73
abbrev k_summed : Nat := 74
abbrev k_Run_init : Nat := 75
abbrev k_Run_state : Nat := 76
abbrev k_Run_part_of : Nat := 77
abbrev k_Run_leaf : Nat := 78
abbrev k_Run_worth : Nat := 79
abbrev k_Run_holds : Nat := 80
abbrev k_Run_body : Nat := 81
abbrev k_Run_statement : Nat := 82
abbrev k_Run_store : Nat := 83
abbrev k_Run_choice : Nat := 84
abbrev k_Run_each : Nat := 85
abbrev k_told_of : Nat := 86
abbrev k_Program_init : Nat := 87
abbrev k_Program_copy : Nat := 88
abbrev k_Program_state : Nat := 89
abbrev k_Program_moved : Nat := 90
abbrev k_first_state : Nat := 91
abbrev k_program : Nat := 92
abbrev k__law_pool : Nat := 93
abbrev k__law_take : Nat := 94
abbrev k__law_one : Nat := 95
abbrev k__law_mixed : Nat := 96
abbrev k__law_pub_moved_worth : Nat := 97
abbrev k__law_pub_halves : Nat := 98
abbrev k__law_pub_floor : Nat := 99
abbrev k__law_pub_nudge : Nat := 100
abbrev k__law_pub_off : Nat := 101
abbrev k__law_pub_lagging : Nat := 102
abbrev k__law_pub_mender : Nat := 103
abbrev k__law_pub_counter : Nat := 104
abbrev k__law_plain_links : Nat := 105
abbrev k__law_drawn_links : Nat := 106
abbrev k__law_drawn_steps : Nat := 107
abbrev k__law_plain_book : Nat := 108
abbrev k__law_linked_book : Nat := 109
abbrev k__law_some_book : Nat := 110
abbrev k__law_drawn_line : Nat := 111
abbrev k__law_drawn_history : Nat := 112
abbrev k__law_noughts : Nat := 113
abbrev k__law_stepped : Nat := 114
abbrev k__law_strays_of : Nat := 115
abbrev k__law_weighed : Nat := 116
abbrev k__law_is_formed : Nat := 117
abbrev k__law_is_let : Nat := 118
abbrev k__law_played : Nat := 119
abbrev k__law_last_of : Nat := 120
abbrev k__law_divisor : Nat := 121
abbrev k__law_told_names : Nat := 122
abbrev k__law_fraction : Nat := 123
abbrev k__law_report_due : Nat := 124
abbrev k__law_report_player : Nat := 125
abbrev k__law_report_refused : Nat := 126
abbrev k__law_far_state : Nat := 127
abbrev k_law : Nat := 128
abbrev c_Refused : Nat := 0
abbrev c_BadBook : Nat := 1
abbrev c_BadLine : Nat := 2
abbrev c_BadHistory : Nat := 3
abbrev c_BadTies : Nat := 4
abbrev c_BadPart : Nat := 5
abbrev c_BadState : Nat := 6
abbrev c_Broken : Nat := 7
abbrev c_BadNames : Nat := 8
abbrev c_BadPublisher : Nat := 9
abbrev c_TooMany : Nat := 10
abbrev c_BadMany : Nat := 11
abbrev c_BadIndex : Nat := 12
abbrev c_BadEdition : Nat := 13
abbrev c_Standing : Nat := 14
abbrev c_Scope : Nat := 15
abbrev c_Reading : Nat := 16
abbrev c_Edition : Nat := 17
abbrev c_Feed : Nat := 18
abbrev c_HalvesPlayer : Nat := 19
abbrev c_Run : Nat := 20
abbrev c_Program : Nat := 21
abbrev a_state : Nat := 0
abbrev a_player : Nat := 1
abbrev a_book : Nat := 2
abbrev a_copy : Nat := 3
abbrev a_moved : Nat := 4
abbrev a_rows : Nat := 5
abbrev a_cells : Nat := 6
abbrev a_many : Nat := 7
abbrev a_met : Nat := 8
abbrev a_scope : Nat := 9
abbrev a_statement : Nat := 10
abbrev a_body : Nat := 11
abbrev a_shown : Nat := 12
abbrev a_history : Nat := 13
abbrev a_standing : Nat := 14
abbrev a_branch : Nat := 15
abbrev a_step : Nat := 16
abbrev a_fresh : Nat := 17
abbrev a_put : Nat := 18
abbrev a_last : Nat := 19
abbrev a_edition : Nat := 20
abbrev a_asked : Nat := 21
abbrev a_truths : Nat := 22
abbrev a_ties : Nat := 23
abbrev a_number : Nat := 24
abbrev a_turn : Nat := 25
abbrev a_way : Nat := 26
abbrev a_part : Nat := 27
abbrev a_row_names : Nat := 28
abbrev a_cell_names : Nat := 29
abbrev a_steps : Nat := 30
abbrev a_links : Nat := 31
abbrev a_part_of : Nat := 32
abbrev a_worth : Nat := 33
abbrev a_leaf : Nat := 34
abbrev a_holds : Nat := 35
abbrev a_store : Nat := 36
abbrev a_each : Nat := 37
abbrev a_choice : Nat := 38
abbrev a_here : Nat := 39
abbrev a_publisher : Nat := 40
abbrev a_correct : Nat := 41
abbrev a_move : Nat := 42
/-! ### the program text -/
def f_is_whole : FD := ⟨d_is_whole, N_is_whole, (["thing"] : List Str), b_is_whole, ⟨"_law_report_heard", false⟩⟩
def f_is_between : FD := ⟨d_is_between, N_is_between, (["thing", "least", "most"] : List Str), b_is_between, ⟨"_law_report_heard", false⟩⟩
def f_is_below : FD := ⟨d_is_below, N_is_below, (["thing", "bound"] : List Str), b_is_below, ⟨"_law_report_heard", false⟩⟩
def f_is_links : FD := ⟨d_is_links, N_is_links, (["thing", "part", "many"] : List Str), b_is_links, ⟨"_law_report_heard", false⟩⟩
def f_has_size : FD := ⟨d_has_size, N_has_size, (["thing"] : List Str), b_has_size, ⟨"_law_report_heard", false⟩⟩
def f_wrong_entry : FD := ⟨d_wrong_entry, N_wrong_entry, (["thing"] : List Str), b_wrong_entry, ⟨"_law_report_heard", false⟩⟩
def f_made_book : FD := ⟨d_made_book, N_made_book, (["thing"] : List Str), b_made_book, ⟨"_law_report_heard", false⟩⟩
def f_many_parts : FD := ⟨d_many_parts, N_many_parts, (["book"] : List Str), b_many_parts, ⟨"_law_report_heard", false⟩⟩
def f_is_part_books : FD := ⟨d_is_part_books, N_is_part_books, (["book", "thing"] : List Str), b_is_part_books, ⟨"_law_report_heard", false⟩⟩
def f_wrong_weight : FD := ⟨d_wrong_weight, N_wrong_weight, (["book", "thing"] : List Str), b_wrong_weight, ⟨"_law_report_heard", false⟩⟩
def f_divisor : FD := ⟨d_divisor, N_divisor, (["a", "b"] : List Str), b_divisor, ⟨"_law_report_heard", false⟩⟩
def f_is_move : FD := ⟨d_is_move, N_is_move, (["book", "thing"] : List Str), b_is_move, ⟨"_law_report_heard", false⟩⟩
def f_want_history : FD := ⟨d_want_history, N_want_history, (["book", "thing"] : List Str), b_want_history, ⟨"_law_report_heard", false⟩⟩
def f_is_change : FD := ⟨d_is_change, N_is_change, (["book", "thing"] : List Str), b_is_change, ⟨"_law_report_heard", false⟩⟩
def f_is_changes : FD := ⟨d_is_changes, N_is_changes, (["book", "thing"] : List Str), b_is_changes, ⟨"_law_report_heard", false⟩⟩
def f_first_outside : FD := ⟨d_first_outside, N_first_outside, (["book", "part", "changes"] : List Str), b_first_outside, ⟨"_law_report_heard", false⟩⟩
def f_at_first : FD := ⟨d_at_first, N_at_first, (["book"] : List Str), b_at_first, ⟨"_law_report_heard", false⟩⟩
def f_put_to : FD := ⟨d_put_to, N_put_to, (["numbers", "part", "by"] : List Str), b_put_to, ⟨"_law_report_heard", false⟩⟩
def f_state_behind : FD := ⟨d_state_behind, N_state_behind, (["state", "move", "changes"] : List Str), b_state_behind, ⟨"_law_report_heard", false⟩⟩
def f_Standing_init : FD := ⟨d_Standing_init, N_Standing_init, (["self", "book", "player", "state"] : List Str), b_Standing_init, ⟨"_law_report_heard", false⟩⟩
def f_Standing_branch : FD := ⟨d_Standing_branch, N_Standing_branch, (["self"] : List Str), b_Standing_branch, ⟨"_law_report_heard", false⟩⟩
def f_Standing_step : FD := ⟨d_Standing_step, N_Standing_step, (["self", "move"] : List Str), b_Standing_step, ⟨"_law_report_heard", false⟩⟩
def f_standing_at_first : FD := ⟨d_standing_at_first, N_standing_at_first, (["book", "player"] : List Str), b_standing_at_first, ⟨"_law_report_heard", false⟩⟩
def f_strays_of : FD := ⟨d_strays_of, N_strays_of, (["book", "state"] : List Str), b_strays_of, ⟨"_law_report_heard", false⟩⟩
def f_stray_of : FD := ⟨d_stray_of, N_stray_of, (["book", "line", "state"] : List Str), b_stray_of, ⟨"_law_report_heard", false⟩⟩
def f_want_lines : FD := ⟨d_want_lines, N_want_lines, (["book", "lines"] : List Str), b_want_lines, ⟨"_law_report_heard", false⟩⟩
def f_is_name : FD := ⟨d_is_name, N_is_name, (["thing"] : List Str), b_is_name, ⟨"_law_report_heard", false⟩⟩
def f_Scope_init : FD := ⟨d_Scope_init, N_Scope_init, (["self", "many", "cells", "rows"] : List Str), b_Scope_init, ⟨"_law_report_heard", false⟩⟩
def f_want_names : FD := ⟨d_want_names, N_want_names, (["book", "names"] : List Str), b_want_names, ⟨"_law_report_heard", false⟩⟩
def f_is_short : FD := ⟨d_is_short, N_is_short, (["thing", "most"] : List Str), b_is_short, ⟨"_law_report_heard", false⟩⟩
def f_is_worded : FD := ⟨d_is_worded, N_is_worded, (["thing", "many"] : List Str), b_is_worded, ⟨"_law_report_heard", false⟩⟩
def f_is_one_of : FD := ⟨d_is_one_of, N_is_one_of, (["thing", "names"] : List Str), b_is_one_of, ⟨"_law_report_heard", false⟩⟩
def f_is_part_publishers : FD := ⟨d_is_part_publishers, N_is_part_publishers, (["scope", "thing", "is_each"] : List Str), b_is_part_publishers, ⟨"_law_report_heard", false⟩⟩
def f_is_leaf : FD := ⟨d_is_leaf, N_is_leaf, (["scope", "thing", "is_each"] : List Str), b_is_leaf, ⟨"_law_report_heard", false⟩⟩
def f_is_number : FD := ⟨d_is_number, N_is_number, (["scope", "thing", "is_each", "left"] : List Str), b_is_number, ⟨"_law_report_heard", false⟩⟩
def f_is_test_leaf : FD := ⟨d_is_test_leaf, N_is_test_leaf, (["scope", "thing", "is_each"] : List Str), b_is_test_leaf, ⟨"_law_report_heard", false⟩⟩
def f_is_test : FD := ⟨d_is_test, N_is_test, (["scope", "thing", "is_each", "left"] : List Str), b_is_test, ⟨"_law_report_heard", false⟩⟩
def f_is_plain : FD := ⟨d_is_plain, N_is_plain, (["scope", "thing", "is_each"] : List Str), b_is_plain, ⟨"_law_report_heard", false⟩⟩
def f_is_choice : FD := ⟨d_is_choice, N_is_choice, (["scope", "thing", "is_each"] : List Str), b_is_choice, ⟨"_law_report_heard", false⟩⟩
def f_is_each_form : FD := ⟨d_is_each_form, N_is_each_form, (["thing"] : List Str), b_is_each_form, ⟨"_law_report_heard", false⟩⟩
def f_Reading_init : FD := ⟨d_Reading_init, N_Reading_init, (["self", "scope"] : List Str), b_Reading_init, ⟨"_law_report_heard", false⟩⟩
def f_Reading_body : FD := ⟨d_Reading_body, N_Reading_body, (["self", "body", "place", "deep", "is_each"] : List Str), b_Reading_body, ⟨"_law_report_heard", false⟩⟩
def f_Reading_statement : FD := ⟨d_Reading_statement, N_Reading_statement, (["self", "statement", "place", "deep", "is_each"] : List Str), b_Reading_statement, ⟨"_law_report_heard", false⟩⟩
def f_is_kept : FD := ⟨d_is_kept, N_is_kept, (["thing", "had"] : List Str), b_is_kept, ⟨"_law_report_heard", false⟩⟩
def f_kept_names : FD := ⟨d_kept_names, N_kept_names, (["thing", "part", "most", "had"] : List Str), b_kept_names, ⟨"_law_report_heard", false⟩⟩
def f_want_publisher : FD := ⟨d_want_publisher, N_want_publisher, (["names", "thing"] : List Str), b_want_publisher, ⟨"_law_report_heard", false⟩⟩
def f_made_publisher : FD := ⟨d_made_publisher, N_made_publisher, (["book", "names", "thing"] : List Str), b_made_publisher, ⟨"_law_report_heard", false⟩⟩
def f_number_text : FD := ⟨d_number_text, N_number_text, (["upper", "lower"] : List Str), b_number_text, ⟨"_law_report_heard", false⟩⟩
def f_figure_text : FD := ⟨d_figure_text, N_figure_text, (["name", "shown", "truth", "steps"] : List Str), b_figure_text, ⟨"_law_report_heard", false⟩⟩
def f_are_numbers : FD := ⟨d_are_numbers, N_are_numbers, (["thing", "many"] : List Str), b_are_numbers, ⟨"_law_report_heard", false⟩⟩
def f_is_state : FD := ⟨d_is_state, N_is_state, (["book", "thing"] : List Str), b_is_state, ⟨"_law_report_heard", false⟩⟩
def f_weighted : FD := ⟨d_weighted, N_weighted, (["line", "numbers"] : List Str), b_weighted, ⟨"_law_report_heard", false⟩⟩
def f_line_text : FD := ⟨d_line_text, N_line_text, (["book", "number", "line", "state"] : List Str), b_line_text, ⟨"_law_report_heard", false⟩⟩
def f_report : FD := ⟨d_report, N_report, (["book", "names", "lines", "state"] : List Str), b_report, ⟨"_law_report_heard", false⟩⟩
def f_want_few : FD := ⟨d_want_few, N_want_few, (["many"] : List Str), b_want_few, ⟨"_law_report_heard", false⟩⟩
def f_Edition_init : FD := ⟨d_Edition_init, N_Edition_init, (["self", "standing", "history", "shown"] : List Str), b_Edition_init, ⟨"_law_report_heard", false⟩⟩
def f_Edition_branch : FD := ⟨d_Edition_branch, N_Edition_branch, (["self"] : List Str), b_Edition_branch, ⟨"_law_report_heard", false⟩⟩
def f_Edition_put : FD := ⟨d_Edition_put, N_Edition_put, (["self", "moves"] : List Str), b_Edition_put, ⟨"_law_report_heard", false⟩⟩
def f_Feed_init : FD := ⟨d_Feed_init, N_Feed_init, (["self", "book", "player"] : List Str), b_Feed_init, ⟨"_law_report_heard", false⟩⟩
def f_Feed_fresh : FD := ⟨d_Feed_fresh, N_Feed_fresh, (["self"] : List Str), b_Feed_fresh, ⟨"_law_report_heard", false⟩⟩
def f_Feed_last : FD := ⟨d_Feed_last, N_Feed_last, (["self"] : List Str), b_Feed_last, ⟨"_law_report_heard", false⟩⟩
def f_Feed_move : FD := ⟨d_Feed_move, N_Feed_move, (["self", "part", "way", "many"] : List Str), b_Feed_move, ⟨"_law_report_heard", false⟩⟩
def f_Feed_correct : FD := ⟨d_Feed_correct, N_Feed_correct, (["self", "index", "moves"] : List Str), b_Feed_correct, ⟨"_law_report_heard", false⟩⟩
def f_Feed_edition : FD := ⟨d_Feed_edition, N_Feed_edition, (["self", "number"] : List Str), b_Feed_edition, ⟨"_law_report_heard", false⟩⟩
def f_Feed_asked : FD := ⟨d_Feed_asked, N_Feed_asked, (["self", "edition"] : List Str), b_Feed_asked, ⟨"_law_report_heard", false⟩⟩
def f_Feed_state : FD := ⟨d_Feed_state, N_Feed_state, (["self", "edition"] : List Str), b_Feed_state, ⟨"_law_report_heard", false⟩⟩
def f_want_ties : FD := ⟨d_want_ties, N_want_ties, (["book", "ties"] : List Str), b_want_ties, ⟨"_law_report_heard", false⟩⟩
def f_nearest : FD := ⟨d_nearest, N_nearest, (["truth", "steps", "tie"] : List Str), b_nearest, ⟨"_law_report_heard", false⟩⟩
def f_HalvesPlayer_init : FD := ⟨d_HalvesPlayer_init, N_HalvesPlayer_init, (["self", "book", "ties", "truths"] : List Str), b_HalvesPlayer_init, ⟨"_law_report_heard", false⟩⟩
def f_HalvesPlayer_copy : FD := ⟨d_HalvesPlayer_copy, N_HalvesPlayer_copy, (["self"] : List Str), b_HalvesPlayer_copy, ⟨"_law_report_heard", false⟩⟩
def f_HalvesPlayer_number : FD := ⟨d_HalvesPlayer_number, N_HalvesPlayer_number, (["self", "part"] : List Str), b_HalvesPlayer_number, ⟨"_law_report_heard", false⟩⟩
def f_HalvesPlayer_moved : FD := ⟨d_HalvesPlayer_moved, N_HalvesPlayer_moved, (["self", "part", "way"] : List Str), b_HalvesPlayer_moved, ⟨"_law_report_heard", false⟩⟩
def f_halves : FD := ⟨d_halves, N_halves, (["book", "ties"] : List Str), b_halves, ⟨"_law_report_heard", false⟩⟩
def f_bounded : FD := ⟨d_bounded, N_bounded, (["number"] : List Str), b_bounded, ⟨"_law_report_heard", false⟩⟩
def f_summed : FD := ⟨d_summed, N_summed, (["word", "one", "two"] : List Str), b_summed, ⟨"_law_report_heard", false⟩⟩
def f_Run_init : FD := ⟨d_Run_init, N_Run_init, (["self", "book", "publisher", "state", "part", "way"] : List Str), b_Run_init, ⟨"_law_report_heard", false⟩⟩
def f_Run_state : FD := ⟨d_Run_state, N_Run_state, (["self"] : List Str), b_Run_state, ⟨"_law_report_heard", false⟩⟩
def f_Run_part_of : FD := ⟨d_Run_part_of, N_Run_part_of, (["self", "thing"] : List Str), b_Run_part_of, ⟨"_law_report_heard", false⟩⟩
def f_Run_leaf : FD := ⟨d_Run_leaf, N_Run_leaf, (["self", "thing"] : List Str), b_Run_leaf, ⟨"_law_report_heard", false⟩⟩
def f_Run_worth : FD := ⟨d_Run_worth, N_Run_worth, (["self", "thing"] : List Str), b_Run_worth, ⟨"_law_report_heard", false⟩⟩
def f_Run_holds : FD := ⟨d_Run_holds, N_Run_holds, (["self", "test"] : List Str), b_Run_holds, ⟨"_law_report_heard", false⟩⟩
def f_Run_body : FD := ⟨d_Run_body, N_Run_body, (["self", "body", "place"] : List Str), b_Run_body, ⟨"_law_report_heard", false⟩⟩
def f_Run_statement : FD := ⟨d_Run_statement, N_Run_statement, (["self", "statement", "place"] : List Str), b_Run_statement, ⟨"_law_report_heard", false⟩⟩
def f_Run_store : FD := ⟨d_Run_store, N_Run_store, (["self", "statement", "number"] : List Str), b_Run_store, ⟨"_law_report_heard", false⟩⟩
def f_Run_choice : FD := ⟨d_Run_choice, N_Run_choice, (["self", "statement", "place"] : List Str), b_Run_choice, ⟨"_law_report_heard", false⟩⟩
def f_Run_each : FD := ⟨d_Run_each, N_Run_each, (["self", "statement", "place"] : List Str), b_Run_each, ⟨"_law_report_heard", false⟩⟩
def f_told_of : FD := ⟨d_told_of, N_told_of, (["book", "publisher", "state", "part", "way"] : List Str), b_told_of, ⟨"_law_report_heard", false⟩⟩
def f_Program_init : FD := ⟨d_Program_init, N_Program_init, (["self", "book", "publisher", "state"] : List Str), b_Program_init, ⟨"_law_report_heard", false⟩⟩
def f_Program_copy : FD := ⟨d_Program_copy, N_Program_copy, (["self"] : List Str), b_Program_copy, ⟨"_law_report_heard", false⟩⟩
def f_Program_state : FD := ⟨d_Program_state, N_Program_state, (["self"] : List Str), b_Program_state, ⟨"_law_report_heard", false⟩⟩
def f_Program_moved : FD := ⟨d_Program_moved, N_Program_moved, (["self", "part", "way"] : List Str), b_Program_moved, ⟨"_law_report_heard", false⟩⟩
def f_first_state : FD := ⟨d_first_state, N_first_state, (["book", "publisher"] : List Str), b_first_state, ⟨"_law_report_heard", false⟩⟩
def f_program : FD := ⟨d_program, N_program, (["book", "names", "publisher"] : List Str), b_program, ⟨"_law_report_heard", false⟩⟩
def f__law_pool : FD := ⟨d__law_pool, N__law_pool, (["_law_script", "_law_k"] : List Str), b__law_pool, ⟨"_law_report_heard", false⟩⟩
def f__law_take : FD := ⟨d__law_take, N__law_take, (["_law_source", "_law_top"] : List Str), b__law_take, ⟨"_law_report_heard", false⟩⟩
def f__law_one : FD := ⟨d__law_one, N__law_one, (["_law_source", "_law_things"] : List Str), b__law_one, ⟨"_law_report_heard", false⟩⟩
def f__law_mixed : FD := ⟨d__law_mixed, N__law_mixed, (["_law_source", "_law_things"] : List Str), b__law_mixed, ⟨"_law_report_heard", false⟩⟩
def f__law_pub_moved_worth : FD := ⟨d__law_pub_moved_worth, N__law_pub_moved_worth, (["_law_word"] : List Str), b__law_pub_moved_worth, ⟨"_law_report_heard", false⟩⟩
def f__law_pub_halves : FD := ⟨d__law_pub_halves, N__law_pub_halves, (["_law_is_up"] : List Str), b__law_pub_halves, ⟨"_law_report_heard", false⟩⟩
def f__law_pub_floor : FD := ⟨d__law_pub_floor, N__law_pub_floor, ([] : List Str), b__law_pub_floor, ⟨"_law_report_heard", false⟩⟩
def f__law_pub_nudge : FD := ⟨d__law_pub_nudge, N__law_pub_nudge, (["_law_test", "_law_by"] : List Str), b__law_pub_nudge, ⟨"_law_report_heard", false⟩⟩
def f__law_pub_off : FD := ⟨d__law_pub_off, N__law_pub_off, (["_law_part"] : List Str), b__law_pub_off, ⟨"_law_report_heard", false⟩⟩
def f__law_pub_lagging : FD := ⟨d__law_pub_lagging, N__law_pub_lagging, (["_law_far"] : List Str), b__law_pub_lagging, ⟨"_law_report_heard", false⟩⟩
def f__law_pub_mender : FD := ⟨d__law_pub_mender, N__law_pub_mender, (["_law_is_linked"] : List Str), b__law_pub_mender, ⟨"_law_report_heard", false⟩⟩
def f__law_pub_counter : FD := ⟨d__law_pub_counter, N__law_pub_counter, (["_law_often"] : List Str), b__law_pub_counter, ⟨"_law_report_heard", false⟩⟩
def f__law_plain_links : FD := ⟨d__law_plain_links, N__law_plain_links, (["_law_many"] : List Str), b__law_plain_links, ⟨"_law_report_heard", false⟩⟩
def f__law_drawn_links : FD := ⟨d__law_drawn_links, N__law_drawn_links, (["_law_source", "_law_many"] : List Str), b__law_drawn_links, ⟨"_law_report_heard", false⟩⟩
def f__law_drawn_steps : FD := ⟨d__law_drawn_steps, N__law_drawn_steps, (["_law_source", "_law_many", "_law_most"] : List Str), b__law_drawn_steps, ⟨"_law_report_heard", false⟩⟩
def f__law_plain_book : FD := ⟨d__law_plain_book, N__law_plain_book, (["_law_source", "_law_parts", "_law_most"] : List Str), b__law_plain_book, ⟨"_law_report_heard", false⟩⟩
def f__law_linked_book : FD := ⟨d__law_linked_book, N__law_linked_book, (["_law_source", "_law_parts", "_law_most"] : List Str), b__law_linked_book, ⟨"_law_report_heard", false⟩⟩
def f__law_some_book : FD := ⟨d__law_some_book, N__law_some_book, (["_law_source", "_law_parts", "_law_most"] : List Str), b__law_some_book, ⟨"_law_report_heard", false⟩⟩
def f__law_drawn_line : FD := ⟨d__law_drawn_line, N__law_drawn_line, (["_law_source", "_law_many"] : List Str), b__law_drawn_line, ⟨"_law_report_heard", false⟩⟩
def f__law_drawn_history : FD := ⟨d__law_drawn_history, N__law_drawn_history, (["_law_source", "_law_many", "_law_length"] : List Str), b__law_drawn_history, ⟨"_law_report_heard", false⟩⟩
def f__law_noughts : FD := ⟨d__law_noughts, N__law_noughts, (["_law_book"] : List Str), b__law_noughts, ⟨"_law_report_heard", false⟩⟩
def f__law_stepped : FD := ⟨d__law_stepped, N__law_stepped, (["_law_state", "_law_move", "_law_changes"] : List Str), b__law_stepped, ⟨"_law_report_heard", false⟩⟩
def f__law_strays_of : FD := ⟨d__law_strays_of, N__law_strays_of, (["_law_book", "_law_state"] : List Str), b__law_strays_of, ⟨"_law_report_heard", false⟩⟩
def f__law_weighed : FD := ⟨d__law_weighed, N__law_weighed, (["_law_line", "_law_strays_now"] : List Str), b__law_weighed, ⟨"_law_report_heard", false⟩⟩
def f__law_is_formed : FD := ⟨d__law_is_formed, N__law_is_formed, (["_law_book", "_law_changes"] : List Str), b__law_is_formed, ⟨"_law_report_heard", false⟩⟩
def f__law_is_let : FD := ⟨d__law_is_let, N__law_is_let, (["_law_book", "_law_part", "_law_changes"] : List Str), b__law_is_let, ⟨"_law_report_heard", false⟩⟩
def f__law_played : FD := ⟨d__law_played, N__law_played, (["_law_book", "_law_player", "_law_history"] : List Str), b__law_played, ⟨"_law_report_heard", false⟩⟩
def f__law_last_of : FD := ⟨d__law_last_of, N__law_last_of, (["_law_book", "_law_states"] : List Str), b__law_last_of, ⟨"_law_report_heard", false⟩⟩
def f__law_divisor : FD := ⟨d__law_divisor, N__law_divisor, (["_law_a", "_law_b"] : List Str), b__law_divisor, ⟨"_law_report_heard", false⟩⟩
def f__law_told_names : FD := ⟨d__law_told_names, N__law_told_names, (["_law_source", "_law_many"] : List Str), b__law_told_names, ⟨"_law_report_heard", false⟩⟩
def f__law_fraction : FD := ⟨d__law_fraction, N__law_fraction, (["_law_number", "_law_steps"] : List Str), b__law_fraction, ⟨"_law_report_heard", false⟩⟩
def f__law_report_due : FD := ⟨d__law_report_due, N__law_report_due, (["_law_book", "_law_names", "_law_lines", "_law_state"] : List Str), b__law_report_due, ⟨"_law_report_heard", false⟩⟩
def f__law_report_player : FD := ⟨d__law_report_player, N__law_report_player, (["_law_source", "_law_book"] : List Str), b__law_report_player, ⟨"_law_report_heard", false⟩⟩
def f__law_report_refused : FD := ⟨d__law_report_refused, N__law_report_refused, (["_law_source", "_law_book", "_law_names", "_law_lines", "_law_state"] : List Str), b__law_report_refused, ⟨"_law_report_heard", true⟩⟩
def f__law_far_state : FD := ⟨d__law_far_state, N__law_far_state, (["_law_source", "_law_book"] : List Str), b__law_far_state, ⟨"_law_report_heard", false⟩⟩
def f_law : FD := ⟨d_law, N_law, (["_law_script"] : List Str), b_law, ⟨"_law_report_heard", false⟩⟩
def fl : List FD := [f_is_whole, f_is_between, f_is_below, f_is_links, f_has_size, f_wrong_entry, f_made_book, f_many_parts, f_is_part_books, f_wrong_weight, f_divisor, f_is_move, f_want_history, f_is_change, f_is_changes, f_first_outside, f_at_first, f_put_to, f_state_behind, f_Standing_init, f_Standing_branch, f_Standing_step, f_standing_at_first, f_strays_of, f_stray_of, f_want_lines, f_is_name, f_Scope_init, f_want_names, f_is_short, f_is_worded, f_is_one_of, f_is_part_publishers, f_is_leaf, f_is_number, f_is_test_leaf, f_is_test, f_is_plain, f_is_choice, f_is_each_form, f_Reading_init, f_Reading_body, f_Reading_statement, f_is_kept, f_kept_names, f_want_publisher, f_made_publisher, f_number_text, f_figure_text, f_are_numbers, f_is_state, f_weighted, f_line_text, f_report, f_want_few, f_Edition_init, f_Edition_branch, f_Edition_put, f_Feed_init, f_Feed_fresh, f_Feed_last, f_Feed_move, f_Feed_correct, f_Feed_edition, f_Feed_asked, f_Feed_state, f_want_ties, f_nearest, f_HalvesPlayer_init, f_HalvesPlayer_copy, f_HalvesPlayer_number, f_HalvesPlayer_moved, f_halves, f_bounded, f_summed, f_Run_init, f_Run_state, f_Run_part_of, f_Run_leaf, f_Run_worth, f_Run_holds, f_Run_body, f_Run_statement, f_Run_store, f_Run_choice, f_Run_each, f_told_of, f_Program_init, f_Program_copy, f_Program_state, f_Program_moved, f_first_state, f_program, f__law_pool, f__law_take, f__law_one, f__law_mixed, f__law_pub_moved_worth, f__law_pub_halves, f__law_pub_floor, f__law_pub_nudge, f__law_pub_off, f__law_pub_lagging, f__law_pub_mender, f__law_pub_counter, f__law_plain_links, f__law_drawn_links, f__law_drawn_steps, f__law_plain_book, f__law_linked_book, f__law_some_book, f__law_drawn_line, f__law_drawn_history, f__law_noughts, f__law_stepped, f__law_strays_of, f__law_weighed, f__law_is_formed, f__law_is_let, f__law_played, f__law_last_of, f__law_divisor, f__law_told_names, f__law_fraction, f__law_report_due, f__law_report_player, f__law_report_refused, f__law_far_state, f_law]
def words : List Str := (List.append (["part", "it", "moved", "cell", "num", "row", "way", "less", "eq", "same", "linked", "or", "and", "not", "show", "set", "put", "if", "each", "/"] : List Str) (List.append ([" shown ", " true ", " off ", " steps", "line ", ":", "div", "mul", "sub", "add", "shown", "truth", "mod", "steps", "sum", "seen", "n", "f", "east9", "d"] : List Str) (["cat", "b2", "ann", "shown ", "off ", ": ", "dot", "cid", "bob", "state", "line", "z", "names", "a_b", "a", "9a", "Ann", ""] : List Str)))

/-! ### the tables -/
def tb : Tb where
  dat := fun C f => dats.contains (C, f)
  w := fun k => words.getD k ""
  glob := fun k => gvals.getD k .non
  init := fun c => (inits.lookup c).getD 100000
  meth := fun C f => meths.lookup (C, f)
  hw := hwK
theorem ds_eq : ds = fl.map (·.d) := rfl
theorem fl_ok : fl.all (fdB nm tb ct) = true := by kernel_rfl
end K76P
set_option Elab.async false
set_option linter.all false
set_option maxRecDepth 100000
set_option autoImplicit false
set_option maxHeartbeats 8000000
/-! K9: what the head must tell, and that it is enough -/
namespace K76P
open PySem PySem.Spec PyProof.Rows L2 K76
/-! ### the Hook -/
abbrev AlK : Type := He.AlD × Bool
def obsK (ex : PySem.W.Frag → Bool) (g : Addr → Option Obj) : AlK := (He.obsD [] fnK (frK g), ex (frK g) && He.tabsB g tfK (frK g))
structure SaysK (ex : PySem.W.Frag → Bool) (h : Heap) (K : PySem.W.Frag) : Prop where
  d : He.SaysD [] fnK K
  more : ex K = true
  hd : ∀ p ∈ tfK, PySem.W.codeHdIn K (He.cT K p).1 (He.cT K p).2 = true
  out : ∀ p ∈ tfK, K.lookup (He.cT K p).2 = none
  empty : ∀ p ∈ tfK, h.get? (He.cT K p).2 = some { cls := .none, data := .fields #[] }
theorem saysK_of {ex : PySem.W.Frag → Bool} {h : Heap} (e : obsK ex h.get? = (He.valD fnK, true)) : SaysK ex h (frK h.get?) := by
  have e1 : He.obsD [] fnK (frK h.get?) = He.valD fnK := congrArg (fun z : AlK => z.1) e
  have e2 : (ex (frK h.get?) && He.tabsB h.get? tfK (frK h.get?)) = true := congrArg (fun z : AlK => z.2) e
  obtain ⟨h1, h2⟩ := He.ba e2
  have key : ∀ p ∈ tfK, PySem.W.codeHdIn (frK h.get?) (He.cT (frK h.get?) p).1 (He.cT (frK h.get?) p).2 = true ∧ ∃ o, h.get? (He.cT (frK h.get?) p).2 = some o ∧ He.emptyTab o = true := fun p hp => by
    obtain ⟨h3, h4⟩ := He.ba (List.all_eq_true.mp h2 p hp)
    refine ⟨h3, ?_⟩
    cases q : h.get? (He.cT (frK h.get?) p).2 with
    | none =>
      rw [q] at h4
      cases h4
    | some o =>
      rw [q] at h4
      exact ⟨o, rfl, h4⟩
  exact ⟨e1, h1, fun p hp => (key p hp).1, fun p hp => by
    obtain ⟨_, o, q, z⟩ := key p hp
    exact He.frT_none q z, fun p hp => by
    obtain ⟨_, o, q, z⟩ := key p hp
    rw [q, He.emptyTab_eq z]⟩
def hookK (ex : PySem.W.Frag → Bool) : PySem.W.Hook where
  α := AlK
  obs := fun s => obsK ex s.heap.get?
  val := fun _ => (He.valD fnK, true)
  says := fun _ h => ∃ K : PySem.W.Frag, K.In h ∧ SaysK ex h K
  of := fun _ _ e => ⟨_, He.frT_in, saysK_of e⟩
  keeps := fun _ _ _ ⟨K, hK, c⟩ k => ⟨K, PySem.W.Frag.In.keeps hK k, ⟨c.d, c.more, c.hd, c.out, fun p hp => k _ _ (c.empty p hp)⟩⟩
theorem obsK_eq {ex : PySem.W.Frag → Bool} {g : Addr → Option Obj} {s : Shared} (h : ∀ a, g a = s.heap.get? a) : obsK ex g = (hookK ex).obs s := by
  have e : g = s.heap.get? := funext h
  rw [e] <;> rfl
end K76P
set_option Elab.async false
set_option linter.all false
set_option maxRecDepth 100000
set_option autoImplicit false
set_option maxHeartbeats 8000000
/-! K9b: the static facts from what the head tells -/
namespace K76P
open PySem PySem.Spec PyProof.Rows L2 K76
theorem lookup_memG {α β : Type} [BEq α] [LawfulBEq α] {a : α} {b : β} : ∀ {l : List (α × β)}, l.lookup a = some b → (a, b) ∈ l
  | [], h => by cases h
  | (x, y) :: r, h => by
    rw [List.lookup_cons] at h
    split at h
    · rename_i q
      rw [beq_iff_eq.mp q, Option.some.inj h]
      exact List.mem_cons_self
    · exact List.mem_cons_of_mem _ (lookup_memG h)
theorem attrs_nodup : attrs.Nodup := by decide +kernel
theorem attrs_small : (attrs.all fun x => decide (x.cps.size < 100)) = true := by decide +kernel
theorem inj_at : ∀ i j, nm.at_ i = nm.at_ j → i = j := fun i j h => by
  have hs : ∀ (k : Nat) (x : Str), attrs[k]? = some x → x.cps.size < 100 := fun k x e => of_decide_eq_true (List.all_eq_true.mp attrs_small x (List.mem_of_getElem? e))
  unfold nm at h
  dsimp only at h
  cases e1 : attrs[i]? with
  | some x =>
    cases e2 : attrs[j]? with
    | some y =>
      rw [e1, e2] at h
      have h : x = y := h
      subst h
      exact nodup_ix attrs_nodup e1 e2
    | none =>
      rw [e1, e2] at h
      have h : x = ⟨Array.replicate (j + 100) 0⟩ := h
      have := hs i x e1
      rw [h] at this
      simp at this
      omega
  | none =>
    cases e2 : attrs[j]? with
    | some y =>
      rw [e1, e2] at h
      have h : ⟨Array.replicate (i + 100) 0⟩ = y := h
      have := hs j y e2
      rw [← h] at this
      simp at this
      omega
    | none =>
      rw [e1, e2] at h
      have h : (⟨Array.replicate (i + 100) 0⟩ : Str) = ⟨Array.replicate (j + 100) 0⟩ := h
      have h2 := congrArg (fun z : Str => z.cps.size) h
      simp at h2
      exact h2
section
variable {K : PySem.W.Frag} {mg : Str → Option Value} {h : Heap}
structure ExK (K : PySem.W.Frag) : Prop where
  glo : ∀ p ∈ glos.zip gvals, gloB K p = true
  fng : ∀ p ∈ ats, fngB K p = true
  dat : ∀ p ∈ dats, datB K p = true
  meth : ∀ q ∈ meths, methB K q = true
  init : ∀ q ∈ inits, initB K q = true
  free : ∀ x ∈ frees, (He.Fa.free x).ok K = true
  exc : ∀ c ∈ List.range nE, excB K c = true
  ini : iniB K = true
  hear : (He.Fa.glo "_law_report_heard").ok K = true
theorem exK_ok (e : exK K = true) : ExK K := by
  unfold exK at e
  obtain ⟨h1, e⟩ := He.ba e
  obtain ⟨h2, e⟩ := He.ba e
  obtain ⟨h3, e⟩ := He.ba e
  obtain ⟨h4, e⟩ := He.ba e
  obtain ⟨h5, e⟩ := He.ba e
  obtain ⟨h6, e⟩ := He.ba e
  obtain ⟨h7, e⟩ := He.ba e
  obtain ⟨h8, h9⟩ := He.ba e
  exact ⟨List.all_eq_true.mp h1, List.all_eq_true.mp h2, List.all_eq_true.mp h3, List.all_eq_true.mp h4, List.all_eq_true.mp h5, List.all_eq_true.mp h6, List.all_eq_true.mp h7, h8, h9⟩
theorem reps_flat (m : List Addr) (H : Hp) : ∀ {l : List D}, l.all flatB = true → Reps K m H l ((l.map dvOf).map (He.Dv.v K))
  | [], _ => Reps.nil
  | d :: r, e => by
    rw [List.all_cons, Bool.and_eq_true] at e
    refine Reps.cons ?_ (reps_flat m H e.2)
    have e1 := e.1
    cases d with
    | int i => unfold Rep; rfl
    | str i => unfold Rep; rfl
    | _ => cases e1
theorem glo_val (X : K.In h) (G : h.Ns mainGlobals mg) {p : Str × D} (e : gloB K p = true) : ∃ u v, mg p.1 = some u ∧ RelV v u ∧ ∀ m H, Rep K m H p.2 v := by
  obtain ⟨x, d⟩ := p
  unfold gloB at e
  dsimp only at e
  cases d with
  | int i =>
    obtain ⟨t, q⟩ := He.int_ok X G e
    exact ⟨_, .int i, q, ⟨t, rfl⟩, fun m H => by unfold Rep; rfl⟩
  | str z =>
    obtain ⟨t, q⟩ := He.str_ok X G e
    exact ⟨_, .str z, q, ⟨t, rfl⟩, fun m H => by unfold Rep; rfl⟩
  | tup l =>
    obtain ⟨e1, e⟩ := He.ba e
    obtain ⟨e2, e3⟩ := He.ba e
    exact ⟨_, .ref (He.ga K x), He.glo_ok X G e1, rfl, fun m H => by
      unfold Rep
      exact ⟨_, _, rfl, He.tupB_ok e3 H, reps_flat m H e2⟩⟩
  | _ => cases e
theorem zip_get {α β : Type} {a : List α} {b : List β} {k : Nat} {x : α} {y : β} (hl : a.length = b.length) (h : a[k]? = some x) : (x, b.getD k y) ∈ a.zip b := by
  obtain ⟨hk, e⟩ := List.getElem?_eq_some_iff.mp h
  have hk2 : k < b.length := by omega
  refine List.mem_iff_getElem.mpr ⟨k, by rw [List.length_zip]; omega, ?_⟩
  rw [List.getElem_zip, e]
  simp [List.getD, hk2]
theorem sta_of (X : K.In h) (G : h.Ns mainGlobals mg) (e : ExK K) : Sta K mg nm tb ct := by
  have fr : ∀ x ∈ frees, mg x = none := fun x hx => He.free_ok X G (e.free x hx)
  refine ⟨inj_at, fun k x hk => ?_, fun k x hk hlt => ?_, fun C f hd => ?_, fun C f k hm => ?_, fun c hc => ?_, fun b => ?_, fr _ (by decide +kernel), fr _ (by decide +kernel), fr _ (by decide +kernel), fr _ (by decide +kernel)⟩
  · have hk : glos[k]? = some x := hk
    exact glo_val X G (e.glo _ (zip_get (y := .non) (by decide +kernel) hk))
  · have hk : ats.getD k ("", none) = (x, none) := hk
    have hlt : k < fl.length := hlt
    have hl : ats.length = fl.length := by unfold ats; rw [ds_eq, List.length_map, List.length_map]
    have hm : (x, none) ∈ ats := by
      rw [← hk]
      refine List.mem_iff_getElem.mpr ⟨k, by rw [hl]; exact hlt, ?_⟩
      rw [List.getD_eq_getElem?_getD, List.getElem?_eq_getElem (by rw [hl]; exact hlt)]
      rfl
    have q := He.glo_ok X G (x := x) (e.fng _ hm)
    rw [q]
    show _ = some (Value.ref (He.fAd K (ats.getD k ("", none))))
    rw [hk]
    rfl
  · have hm : (C, f) ∈ dats := by
      have hd : dats.contains (C, f) = true := hd
      simpa using hd
    obtain ⟨q1, q2⟩ := He.ba (e.dat _ hm)
    exact ⟨He.cls_ok q1, He.noat_ok q2⟩
  · have hm : meths.lookup (C, f) = some k := hm
    obtain ⟨q1, q⟩ := He.ba (e.meth _ (lookup_memG hm))
    obtain ⟨q2, q⟩ := He.ba q
    obtain ⟨q3, q4⟩ := He.ba q
    have q2 : ct.fn k = (nm.cls C, some (nm.at_ f)) := of_decide_eq_true q2
    refine ⟨of_decide_eq_true q1, He.cls_ok q3, ?_⟩
    unfold fAdr
    rw [q2]
    exact He.meth_ok q4
  · have hc : (inits.lookup c).isSome = true := hc
    obtain ⟨k, hk⟩ := Option.isSome_iff_exists.mp hc
    obtain ⟨q1, q⟩ := He.ba (e.init _ (lookup_memG hk))
    obtain ⟨q2, q⟩ := He.ba q
    obtain ⟨q3, q4⟩ := He.ba q
    have q2 : ct.fn k = (nm.cls c, some ("__init__" : Str)) := of_decide_eq_true q2
    have ei : tb.init c = k := by
      show (inits.lookup c).getD 100000 = k
      rw [hk]
      rfl
    rw [ei]
    refine ⟨of_decide_eq_true q1, He.glo_ok X G q3, ?_⟩
    unfold fAdr
    rw [q2]
    exact He.mkr_ok q4
  · cases b <;> exact fr _ (by decide +kernel)
/-! ### the exceptions -/
theorem oexB_ok {C : Addr} (e : oexB K C = true) : OexC K C := by
  unfold oexB at e
  obtain ⟨e0, e⟩ := He.ba e
  obtain ⟨e1, e⟩ := He.ba e
  obtain ⟨e2, e⟩ := He.ba e
  obtain ⟨e3, e4⟩ := He.ba e
  refine ⟨?_, He.eqO_ok e1, of_decide_eq_true e2, of_decide_eq_true e3, e4⟩
  split at e0
  · rename_i t dd n1 n2 C' bm n3 n4 n5 n6 n7 n8 sl ho
    obtain ⟨e5, g1⟩ := He.ba e0
    obtain ⟨e6, g2⟩ := He.ba g1
    obtain ⟨e7, g3⟩ := He.ba g2
    have e5 := of_decide_eq_true e5
    have e6 := of_decide_eq_true e6
    subst e5 e6
    clear e0 g1 g2
    split at g3
    · rename_i k0 k1 k2 k3 b k5 hs
      have g4 := of_decide_eq_true g3
      subst g4
      have hsl : sl = #[k0, k1, k2, k3, some (.builtin "ValueError.__new__"), k5] := by
        obtain ⟨l⟩ := sl
        simp only at hs
        rw [hs]
      subst hsl
      exact ⟨_, _, _, _, _, _, _, _, _, _, _, _, _, _, _, ho, e7⟩
    · cases g3
  · cases e0
theorem ini_of (X : K.In h) (G : h.Ns mainGlobals mg) (e : ExK K) : ∃ (cc : Addr) (q : Str) (ps : Arguments) (b : List Stmt) (sc : Scope) (fd : FuncData), IniT ps b sc ∧ IniK prog K mg (refI K) (refD K) cc q ps b sc fd := by
  have e0 := e.ini
  unfold iniB at e0
  obtain ⟨_, e0⟩ := He.ba e0
  obtain ⟨e1, e0⟩ := He.ba e0
  obtain ⟨e2, e3⟩ := He.ba e0
  split at e1
  · rename_i oc od fnm q ps b sc gl x cc kV doc pm an co ctv bl osl lk
    obtain ⟨f1, g1⟩ := He.ba e1
    obtain ⟨f2, g2⟩ := He.ba g1
    obtain ⟨f3, g3⟩ := He.ba g2
    obtain ⟨f4, g4⟩ := He.ba g3
    obtain ⟨f5, g5⟩ := He.ba g4
    obtain ⟨f6, f7⟩ := He.ba g5
    clear e1 g1 g2 g3 g4 g5
    have f1 := of_decide_eq_true f1
    have f2 := of_decide_eq_true f2
    have f3 := of_decide_eq_true f3
    subst f1 f2 f3
    split at f6
    · rename_i u1 u2 vs u3 hco
      split at f6
      · rename_i file tf hv
        split at f7
        · rename_i v1 v2 D v3 hcc
          have f7 := of_decide_eq_true f7
          subst f7
          split at e2
          · rename_i w1 w2 cd w3 hD
            exact ⟨cc, q, ps, b, sc, _, iniT_by f4, ⟨_, _, _, _, _, _, _, _, _, _, rfl, lk, f5, co, _, vs, file, tf, rfl, hco, rfl, hv, f6⟩, by decide +kernel, ⟨_, hcc, rfl⟩, ⟨_, _, hD, rfl⟩, of_decide_eq_true e3, He.free_ok X G (e.free "super" (by decide +kernel))⟩
          · cases e2
        · cases f7
      · cases f6
    · cases f6
  · cases e1
theorem raise_of (w : World) (base : Heap) (X : K.In h) (G : h.Ns mainGlobals mg) (e : ExK K) : RaisableK prog w K mg base nm ct 2 := by
  obtain ⟨cc, q, ps, b, sc, fd, IT, IK⟩ := ini_of X G e
  have ex := fun (c : Nat) (hc : ct.isE c = true) => e.exc c (List.mem_range.mpr (of_decide_eq_true hc))
  have ic : ∀ c, ct.isE c = true → IniC K (refD K) (He.ga K (nm.cls c)) := fun c hc => by
    obtain ⟨_, z⟩ := He.ba (ex c hc)
    obtain ⟨z1, z⟩ := He.ba z
    obtain ⟨z2, z⟩ := He.ba z
    obtain ⟨z3, z⟩ := He.ba z
    obtain ⟨z4, z⟩ := He.ba z
    obtain ⟨z5, z⟩ := He.ba z
    exact ⟨oexB_ok z1, of_decide_eq_true z2, of_decide_eq_true z3, He.eqO_ok z4, of_decide_eq_true z5⟩
  intro c hc
  obtain ⟨z0, z⟩ := He.ba (ex c hc)
  obtain ⟨z1, z⟩ := He.ba z
  obtain ⟨z2, z⟩ := He.ba z
  obtain ⟨z3, z⟩ := He.ba z
  obtain ⟨z4, z⟩ := He.ba z
  obtain ⟨z5, z⟩ := He.ba z
  obtain ⟨z6, z⟩ := He.ba z
  have e0 := e.ini
  unfold iniB at e0
  obtain ⟨ty, _⟩ := He.ba e0
  refine ⟨He.glo_ok X G z0, oexB_ok z1, refI K, fd, ["self", "what"], He.eqO_ok z6, of_decide_eq_true ty, (ini_ok IT IK ic).mono (by decide), ini_binds IT IK⟩
end
end K76P
set_option Elab.async false
set_option linter.all false
set_option maxRecDepth 100000
set_option autoImplicit false
set_option maxHeartbeats 8000000
/-! K9c: Facts, the law's promise -/
namespace K76P
open PySem PySem.Spec PyProof.Rows L2 K76
def cP : Str × Option Str := ("_law_report_refused", none)
def qLam : Str := (("_law_report_refused" : Str) ++ ".<locals>.") ++ "<lambda>"
def tT (K : PySem.W.Frag) : List (Addr × Str) := [((He.cT K cP).2, qLam)]
def dfP (f : FD) : Bool := f.d.dfl.isEmpty && (f.d.kwd.isEmpty && plainP f.d.params f.ps)
def dfB (k : Nat) : Bool := decide (k = k_Feed_move) || (decide (k = k_Feed_state) || (match fl[k]? with
  | some f => dfP f
  | none => true))
theorem df_ok : (List.range fl.length).all dfB = true := by kernel_rfl
def hnB (f : FD) : Bool := !f.hn.ok || (decide (f.d.at_ = cP) && (decide (f.d.qual = "_law_report_refused") && decide (f.hn.nm = "_law_report_heard")))
theorem hn_ok : fl.all hnB = true := by kernel_rfl
theorem sc_heard : FnScope ["_law_asked", "fault"] ["_law_asked"] (defScope (top iHeard)) := scope_ok (by kernel_rfl)
theorem body_heard : hearBodyB "_law_asked" "fault" hearHs (defBody (top iHeard)) = true := by kernel_rfl
theorem par_heard : plainP (defArgs (top iHeard)) ["_law_asked"] = true := by kernel_rfl
theorem hs_heard : (hearHs.all fun p => decide ((defScope (top iHeard)).names.lookup p.1 = some .globalImplicit) && (!(p.1 == ("__debug__" : Str)) && decide (p.1 ∈ clss.take nE))) = true := by kernel_rfl
theorem b_move {K : PySem.W.Frag} {fd : FuncData} (F : FunD K d_Feed_move.name d_Feed_move.qual d_Feed_move.params d_Feed_move.body d_Feed_move.scope (d_Feed_move.dvs K) (d_Feed_move.kws K) (He.fAd K d_Feed_move.at_) fd) : Binds K fd f_Feed_move.ps [] := by
  obtain ⟨ds, r, b⟩ := FunD.binds1 (ps := f_Feed_move.ps) F 4 1 (fun z => by cases z) rfl (fun T kV doc pm an cdv ct us its hl hl2 => by
    match us, its, hl, hl2 with
    | [u1, u2, u3, u4], [i1], _, _ => exact ⟨_, rfl, rfl⟩)
  cases r
  exact b
theorem b_state {K : PySem.W.Frag} {fd : FuncData} (F : FunD K d_Feed_state.name d_Feed_state.qual d_Feed_state.params d_Feed_state.body d_Feed_state.scope (d_Feed_state.dvs K) (d_Feed_state.kws K) (He.fAd K d_Feed_state.at_) fd) : Binds K fd f_Feed_state.ps [] := by
  obtain ⟨ds, r, b⟩ := FunD.binds1 (ps := f_Feed_state.ps) F 2 1 (fun z => by cases z) rfl (fun T kV doc pm an cdv ct us its hl hl2 => by
    match us, its, hl, hl2 with
    | [u1, u2], [i1], _, _ => exact ⟨_, rfl, rfl⟩)
  cases r
  exact b
section
variable {K : PySem.W.Frag} {mg : Str → Option Value} {h base : Heap} {w : World}
theorem binds_plain {x qual : Str} {params : Arguments} {body : List Stmt} {scope : Scope} {kws : List (Str × V)} {f : Addr} {fd : FuncData} {ps : List Str} (F : FunD K x qual params body scope [] kws f fd) (hp : plainP params ps = true) : Binds K fd ps [] := by
  obtain ⟨oc, od, dV, kV, doc, pm, an, cdv, ct, osl, rfl, lk, hcd, hD, hK⟩ := F.ex
  rcases hD with ⟨_, rfl⟩ | ⟨e, _⟩
  · exact .all fun us hl => bind_plain hp kV doc pm an cdv ct us hl
  · exact absurd rfl e
theorem exc_glo (X : K.In h) (G : h.Ns mainGlobals mg) (e : ExK K) {x : Str} (hx : x ∈ clss.take nE) : mg x = some (.ref (He.ga K x)) := by
  obtain ⟨c, hc, e1⟩ := List.mem_iff_getElem.mp hx
  have hc2 : c < nE := by rw [List.length_take] at hc; omega
  have z := (He.ba (e.exc c (List.mem_range.mpr hc2))).1
  have e2 : nm.cls c = x := by
    show clss.getD c "" = x
    rw [← e1, List.getElem_take, List.getD_eq_getElem?_getD, List.getElem?_eq_getElem (by rw [List.length_take] at hc; omega)]
    rfl
  rw [e2] at z
  exact He.glo_ok X G z
theorem facts_of (X : K.In h) (G : h.Ns mainGlobals mg) (c : SaysK exK h K) (TB : LamX.TabB base mg (He.cT K cP).1 (He.cT K cP).2) : Facts prog w K mg base nm (tT K) tb ct fl := by
  have e := exK_ok c.more
  have mem : ∀ (k : Nat) (f : FD), fl[k]? = some f → f ∈ fl := fun k f hf => List.mem_of_getElem? hf
  refine ⟨sta_of X G e, rfl, fun k f hf => ?_, fun k f hf => ?_, fun k f hf => List.all_eq_true.mp fl_ok f (mem k f hf), raise_of w base X G e, fun k f hf hok A outer s H E L cdv hcdv hr => ?_⟩
  · show (fl.map fun f : FD => f.d.at_).getD k (("" : Str), none) = _
    rw [List.getD_eq_getElem?_getD, List.getElem?_map, hf]
    rfl
  · obtain ⟨fd, F⟩ := c.d.defs (d := f.d) (by unfold fnK; exact List.mem_append_left _ (List.mem_map.mpr ⟨f, mem k f hf, rfl⟩))
    refine ⟨fd, F, ?_⟩
    have hk : k < fl.length := (List.getElem?_eq_some_iff.mp hf).1
    have q := List.all_eq_true.mp df_ok k (List.mem_range.mpr hk)
    unfold dfB at q
    rw [Bool.or_eq_true, Bool.or_eq_true, decide_eq_true_eq, decide_eq_true_eq] at q
    rcases q with q | q | q
    · subst q
      obtain rfl : f = f_Feed_move := (Option.some.inj ((show fl[k_Feed_move]? = some f_Feed_move by rfl).symm.trans hf)).symm
      exact b_move F
    · subst q
      obtain rfl : f = f_Feed_state := (Option.some.inj ((show fl[k_Feed_state]? = some f_Feed_state by rfl).symm.trans hf)).symm
      exact b_state F
    · rw [hf] at q
      have q : dfP f = true := q
      unfold dfP at q
      obtain ⟨q1, q⟩ := He.ba q
      obtain ⟨q2, q3⟩ := He.ba q
      have e1 : f.d.dvs K = [] := by
        unfold He.DefD.dvs
        rw [List.isEmpty_iff.mp q1]
        rfl
      rw [e1] at F
      exact binds_plain F q3
  · have q := List.all_eq_true.mp hn_ok f (mem k f hf)
    unfold hnB at q
    rw [hok, Bool.not_true, Bool.false_or] at q
    obtain ⟨q1, q⟩ := He.ba q
    obtain ⟨q2, q3⟩ := He.ba q
    have q1 := of_decide_eq_true q1
    have q2 := of_decide_eq_true q2
    have q3 := of_decide_eq_true q3
    obtain ⟨fd, F⟩ := c.d.defs (d := dHeard) (by unfold fnK; exact List.mem_append_right _ (List.mem_singleton.mpr rfl))
    have hcd : cdv = .ref (He.cT K cP).1 := by rw [hcdv, q1]; rfl
    rw [hcd] at hr ⊢
    rw [q3]
    have hs := fun (p : Str × Str) (hp : p ∈ hearHs) => List.all_eq_true.mp hs_heard p hp
    refine heard_ok (gH := He.ga K "_law_report_heard") (a := "_law_asked") (nn := "fault") (hs := hearHs) (cd := He.ga K) (He.glo_ok X G e.hear) F (binds_plain F par_heard) sc_heard body_heard (by kernel_rfl) (by kernel_rfl) (by decide +kernel) (by decide +kernel) (by decide +kernel) (by decide +kernel) (by decide +kernel) (fun p hp => ?_) (fun x t ht => ?_) TB ?_ hr
    · obtain ⟨z1, z⟩ := He.ba (hs p hp)
      obtain ⟨z2, z3⟩ := He.ba z
      exact ⟨of_decide_eq_true z1, by simpa using z2, exc_glo X G e (of_decide_eq_true z3)⟩
    · have ht : (if x < nE then hws.getD x none else none) = some t := ht
      have hx : x < nE := by
        by_cases hx : x < nE
        · exact hx
        · rw [if_neg hx] at ht
          cases ht
      have z := e.exc x (List.mem_range.mpr hx)
      obtain ⟨_, z⟩ := He.ba z
      obtain ⟨_, z⟩ := He.ba z
      obtain ⟨_, z⟩ := He.ba z
      obtain ⟨_, z⟩ := He.ba z
      obtain ⟨z4, z⟩ := He.ba z
      obtain ⟨_, z⟩ := He.ba z
      obtain ⟨_, z⟩ := He.ba z
      obtain ⟨z7, z8⟩ := He.ba z
      exact ⟨(of_decide_eq_true z8).trans ht, xfB_ok z7, He.eqO_ok z4⟩
    · rw [q2]
      rfl
end
end K76P
set_option Elab.async false
set_option linter.all false
set_option maxRecDepth 100000
set_option autoImplicit false
set_option maxHeartbeats 8000000
/-! K9d: the law's promise from its value in the little language -/
namespace K76P
open PySem PySem.Spec PyProof.Rows L2 K76
abbrev LawIs (j : Nat) : Prop := ∀ ns : List Int, (∃ S', callN tb fl j k_law [.fl (ns.map .int)] [] = .ok (.bl true) S') ∧ ∃ S', callN tb fl j k_law [.ref 0] [.lst (ns.map .int)] = .ok (.bl true) S'
section
variable {K : PySem.W.Frag} {mg : Str → Option Value} {h : Heap} {w : World}
theorem reps_ints (m : List Addr) (H : Hp) : ∀ ns : List Int, Reps K m H (ns.map .int) (ns.map V.int)
  | [] => Reps.nil
  | i :: r => Reps.cons (by unfold Rep; rfl) (reps_ints m H r)
theorem law_sp {j : Nat} (hl : LawIs j) {H : Hp} {a : Addr} {ns : List Int} (ht : LamX.Tabs (tT K) H) (hs : SqL K H a (ns.map V.int)) :
    spD ⟨K, nm, tT K⟩ (callN tb fl j k_law) [.ref a] H (fun v _ => v = .bl true) fun _ _ _ => False := by
  have fin : ∀ {m : List Addr} {r : Res D}, (∃ S', r = .ok (.bl true) S') → ResOk ⟨K, nm, tT K⟩ (fun _ _ _ => False) m H r (fun v _ => v = .bl true) := fun {m r} e => by
    obtain ⟨S', rfl⟩ := e
    intro m' H' v _ _ rv
    unfold Rep at rv
    exact rv
  have sr0 : SR ⟨K, nm, tT K⟩ [] [] H := ⟨rfl, List.nodup_nil, fun i a o e => by simp at e, ht⟩
  rcases hs with (hs | ⟨o, hs⟩) | hs
  · refine ⟨[a], [.lst (ns.map .int)], [.ref 0], ⟨rfl, by simp, fun i b mo h1 h2 => ?_, ht⟩, Reps.one ?_, fin (hl ns).2⟩
    · match i with
      | 0 =>
        have h1 : some a = some b := h1
        have h2 : some (MO.lst (ns.map .int)) = some mo := h2
        cases h1
        cases h2
        exact ⟨_, hs, reps_ints _ _ ns⟩
      | i + 1 => simp at h1
    · unfold Rep
      exact ⟨a, rfl, rfl⟩
  · refine ⟨[], [], [.fl (ns.map .int)], sr0, Reps.one ?_, fin (hl ns).1⟩
    unfold Rep
    exact ⟨a, _, rfl, .inl ⟨o, hs⟩, reps_ints _ _ ns⟩
  · refine ⟨[], [], [.fl (ns.map .int)], sr0, Reps.one ?_, fin (hl ns).1⟩
    unfold Rep
    exact ⟨a, _, rfl, .inr hs, reps_ints _ _ ns⟩
theorem fund_uniq {x qual : Str} {params : Arguments} {body : List Stmt} {scope : Scope} {dvs : List V} {kws : List (Str × V)} {f : Addr} {fd fd' : FuncData} (F : FunD K x qual params body scope dvs kws f fd) (F' : FunD K x qual params body scope dvs kws f fd') : fd = fd' := by
  obtain ⟨_, _, _, _, _, _, _, _, _, _, _, l1, _⟩ := F.ex
  obtain ⟨_, _, _, _, _, _, _, _, _, _, _, l2, _⟩ := F'.ex
  rw [l1] at l2
  have e := Option.some.inj l2
  injection e with e1 e2 e3 e4
  injection e3
theorem law_at {j : Nat} (hl : LawIs (j + 1)) (X : K.In h) (G : h.Ns mainGlobals mg) (c : SaysK exK h K) {fa : Addr} (hfa : mg ("law" : Str) = some (.ref fa)) {n : Nat} :
    LamX.LawAtS PySem.Challenge.rw_byhalves_k76_whole_reports_behind_correc w K (L2.CX prog w) (4 * (j + 1) + 2) n "_law_script" mg fa h := by
  have e := exK_ok c.more
  have hf : fl[k_law]? = some f_law := rfl
  obtain ⟨fd, F⟩ := c.d.defs (d := f_law.d) (by unfold fnK; exact List.mem_append_left _ (List.mem_map.mpr ⟨f_law, List.mem_of_getElem? hf, rfl⟩))
  have ea : fa = fAdr K ct k_law := by
    have q := (sta_of X G e).fng k_law "law" (by kernel_rfl) (by decide +kernel)
    rw [hfa] at q
    have q2 := Option.some.inj q
    injection q2
  refine ⟨fd, [He.cT K cP], spD ⟨K, nm, tT K⟩ (callN tb fl (j + 1) k_law), fun p hp => ?_, fun p hp => ?_, fun p hp => ?_, fun s u => ?_, fun H a ns _ _ hT hS => law_sp hl (fun p hp => ?_) hS, fun base hK hG hB => ?_⟩
  · rw [List.mem_singleton.mp hp]
    exact c.empty cP (List.mem_singleton.mpr rfl)
  · rw [List.mem_singleton.mp hp]
    exact c.out cP (List.mem_singleton.mpr rfl)
  · rw [List.mem_singleton.mp hp]
    exact PySem.W.codeHd_of_K X (c.hd cP (List.mem_singleton.mpr rfl))
  · obtain ⟨oc, od, dV, kV, doc, pm, an, cdv, ct, osl, rfl, lk, hcd, hD, hK⟩ := F.ex
    rcases hD with ⟨_, rfl⟩ | ⟨q, _⟩
    · exact .of_eq (bind_plain (ps := ["_law_script"]) (by kernel_rfl) kV doc pm an cdv ct [u] rfl)
    · exact absurd rfl q
  · have q : p = ((He.cT K cP).2, qLam) := List.mem_singleton.mp hp
    rw [q]
    exact LamX.TabS.nil (hT _ (List.mem_singleton.mpr rfl))
  · have Fx : Facts prog w K mg base nm (tT K) tb ct fl := facts_of X G c (hB _ (List.mem_singleton.mpr rfl))
    obtain ⟨fd', F', ok, _⟩ := level_f Fx (levels Fx j) hf
    rw [fund_uniq F F', ea]
    exact ok
end
end K76P
set_option Elab.async false
set_option linter.all false
set_option maxRecDepth 100000
set_option autoImplicit false
set_option maxHeartbeats 2000000
/-! K11: each def's call unfolded (printed by mkk11.py), the language's rules for simp -/
namespace K76P
open PySem K76
abbrev cl (n : Nat) : Nat → List D → Store → Res D := callN tb fl n
theorem u_is_whole (n : Nat) (x0 : D) (S : Store) : callN tb fl (n + 1) k_is_whole [x0] S = runF tb (callN tb fl n) 1 b_is_whole [x0] S := rfl
theorem u_is_between (n : Nat) (x0 x1 x2 : D) (S : Store) : callN tb fl (n + 1) k_is_between [x0, x1, x2] S = runF tb (callN tb fl n) 3 b_is_between [x0, x1, x2] S := rfl
theorem u_is_below (n : Nat) (x0 x1 : D) (S : Store) : callN tb fl (n + 1) k_is_below [x0, x1] S = runF tb (callN tb fl n) 2 b_is_below [x0, x1] S := rfl
theorem u_is_links (n : Nat) (x0 x1 x2 : D) (S : Store) : callN tb fl (n + 1) k_is_links [x0, x1, x2] S = runF tb (callN tb fl n) 5 b_is_links [x0, x1, x2] S := rfl
theorem u_has_size (n : Nat) (x0 : D) (S : Store) : callN tb fl (n + 1) k_has_size [x0] S = runF tb (callN tb fl n) 2 b_has_size [x0] S := rfl
theorem u_wrong_entry (n : Nat) (x0 : D) (S : Store) : callN tb fl (n + 1) k_wrong_entry [x0] S = runF tb (callN tb fl n) 6 b_wrong_entry [x0] S := rfl
theorem u_made_book (n : Nat) (x0 : D) (S : Store) : callN tb fl (n + 1) k_made_book [x0] S = runF tb (callN tb fl n) 2 b_made_book [x0] S := rfl
theorem u_many_parts (n : Nat) (x0 : D) (S : Store) : callN tb fl (n + 1) k_many_parts [x0] S = runF tb (callN tb fl n) 1 b_many_parts [x0] S := rfl
theorem u_is_part_books (n : Nat) (x0 x1 : D) (S : Store) : callN tb fl (n + 1) k_is_part_books [x0, x1] S = runF tb (callN tb fl n) 2 b_is_part_books [x0, x1] S := rfl
theorem u_wrong_weight (n : Nat) (x0 x1 : D) (S : Store) : callN tb fl (n + 1) k_wrong_weight [x0, x1] S = runF tb (callN tb fl n) 4 b_wrong_weight [x0, x1] S := rfl
theorem u_divisor (n : Nat) (x0 x1 : D) (S : Store) : callN tb fl (n + 1) k_divisor [x0, x1] S = runF tb (callN tb fl n) 2 b_divisor [x0, x1] S := rfl
theorem u_is_move (n : Nat) (x0 x1 : D) (S : Store) : callN tb fl (n + 1) k_is_move [x0, x1] S = runF tb (callN tb fl n) 2 b_is_move [x0, x1] S := rfl
theorem u_want_history (n : Nat) (x0 x1 : D) (S : Store) : callN tb fl (n + 1) k_want_history [x0, x1] S = runF tb (callN tb fl n) 4 b_want_history [x0, x1] S := rfl
theorem u_is_change (n : Nat) (x0 x1 : D) (S : Store) : callN tb fl (n + 1) k_is_change [x0, x1] S = runF tb (callN tb fl n) 2 b_is_change [x0, x1] S := rfl
theorem u_is_changes (n : Nat) (x0 x1 : D) (S : Store) : callN tb fl (n + 1) k_is_changes [x0, x1] S = runF tb (callN tb fl n) 4 b_is_changes [x0, x1] S := rfl
theorem u_first_outside (n : Nat) (x0 x1 x2 : D) (S : Store) : callN tb fl (n + 1) k_first_outside [x0, x1, x2] S = runF tb (callN tb fl n) 5 b_first_outside [x0, x1, x2] S := rfl
theorem u_at_first (n : Nat) (x0 : D) (S : Store) : callN tb fl (n + 1) k_at_first [x0] S = runF tb (callN tb fl n) 1 b_at_first [x0] S := rfl
theorem u_put_to (n : Nat) (x0 x1 x2 : D) (S : Store) : callN tb fl (n + 1) k_put_to [x0, x1, x2] S = runF tb (callN tb fl n) 3 b_put_to [x0, x1, x2] S := rfl
theorem u_state_behind (n : Nat) (x0 x1 x2 : D) (S : Store) : callN tb fl (n + 1) k_state_behind [x0, x1, x2] S = runF tb (callN tb fl n) 7 b_state_behind [x0, x1, x2] S := rfl
theorem u_Standing_init (n : Nat) (x0 x1 x2 x3 : D) (S : Store) : callN tb fl (n + 1) k_Standing_init [x0, x1, x2, x3] S = runF tb (callN tb fl n) 4 b_Standing_init [x0, x1, x2, x3] S := rfl
theorem u_Standing_branch (n : Nat) (x0 : D) (S : Store) : callN tb fl (n + 1) k_Standing_branch [x0] S = runF tb (callN tb fl n) 1 b_Standing_branch [x0] S := rfl
theorem u_Standing_step (n : Nat) (x0 x1 : D) (S : Store) : callN tb fl (n + 1) k_Standing_step [x0, x1] S = runF tb (callN tb fl n) 3 b_Standing_step [x0, x1] S := rfl
theorem u_standing_at_first (n : Nat) (x0 x1 : D) (S : Store) : callN tb fl (n + 1) k_standing_at_first [x0, x1] S = runF tb (callN tb fl n) 2 b_standing_at_first [x0, x1] S := rfl
theorem u_strays_of (n : Nat) (x0 x1 : D) (S : Store) : callN tb fl (n + 1) k_strays_of [x0, x1] S = runF tb (callN tb fl n) 7 b_strays_of [x0, x1] S := rfl
theorem u_stray_of (n : Nat) (x0 x1 x2 : D) (S : Store) : callN tb fl (n + 1) k_stray_of [x0, x1, x2] S = runF tb (callN tb fl n) 5 b_stray_of [x0, x1, x2] S := rfl
theorem u_want_lines (n : Nat) (x0 x1 : D) (S : Store) : callN tb fl (n + 1) k_want_lines [x0, x1] S = runF tb (callN tb fl n) 5 b_want_lines [x0, x1] S := rfl
theorem u_is_name (n : Nat) (x0 : D) (S : Store) : callN tb fl (n + 1) k_is_name [x0] S = runF tb (callN tb fl n) 2 b_is_name [x0] S := rfl
theorem u_Scope_init (n : Nat) (x0 x1 x2 x3 : D) (S : Store) : callN tb fl (n + 1) k_Scope_init [x0, x1, x2, x3] S = runF tb (callN tb fl n) 4 b_Scope_init [x0, x1, x2, x3] S := rfl
theorem u_want_names (n : Nat) (x0 x1 : D) (S : Store) : callN tb fl (n + 1) k_want_names [x0, x1] S = runF tb (callN tb fl n) 4 b_want_names [x0, x1] S := rfl
theorem u_is_short (n : Nat) (x0 x1 : D) (S : Store) : callN tb fl (n + 1) k_is_short [x0, x1] S = runF tb (callN tb fl n) 2 b_is_short [x0, x1] S := rfl
theorem u_is_worded (n : Nat) (x0 x1 : D) (S : Store) : callN tb fl (n + 1) k_is_worded [x0, x1] S = runF tb (callN tb fl n) 2 b_is_worded [x0, x1] S := rfl
theorem u_is_one_of (n : Nat) (x0 x1 : D) (S : Store) : callN tb fl (n + 1) k_is_one_of [x0, x1] S = runF tb (callN tb fl n) 2 b_is_one_of [x0, x1] S := rfl
theorem u_is_part_publishers (n : Nat) (x0 x1 x2 : D) (S : Store) : callN tb fl (n + 1) k_is_part_publishers [x0, x1, x2] S = runF tb (callN tb fl n) 3 b_is_part_publishers [x0, x1, x2] S := rfl
theorem u_is_leaf (n : Nat) (x0 x1 x2 : D) (S : Store) : callN tb fl (n + 1) k_is_leaf [x0, x1, x2] S = runF tb (callN tb fl n) 3 b_is_leaf [x0, x1, x2] S := rfl
theorem u_is_number (n : Nat) (x0 x1 x2 x3 : D) (S : Store) : callN tb fl (n + 1) k_is_number [x0, x1, x2, x3] S = runF tb (callN tb fl n) 4 b_is_number [x0, x1, x2, x3] S := rfl
theorem u_is_test_leaf (n : Nat) (x0 x1 x2 : D) (S : Store) : callN tb fl (n + 1) k_is_test_leaf [x0, x1, x2] S = runF tb (callN tb fl n) 3 b_is_test_leaf [x0, x1, x2] S := rfl
theorem u_is_test (n : Nat) (x0 x1 x2 x3 : D) (S : Store) : callN tb fl (n + 1) k_is_test [x0, x1, x2, x3] S = runF tb (callN tb fl n) 4 b_is_test [x0, x1, x2, x3] S := rfl
theorem u_is_plain (n : Nat) (x0 x1 x2 : D) (S : Store) : callN tb fl (n + 1) k_is_plain [x0, x1, x2] S = runF tb (callN tb fl n) 4 b_is_plain [x0, x1, x2] S := rfl
theorem u_is_choice (n : Nat) (x0 x1 x2 : D) (S : Store) : callN tb fl (n + 1) k_is_choice [x0, x1, x2] S = runF tb (callN tb fl n) 3 b_is_choice [x0, x1, x2] S := rfl
theorem u_is_each_form (n : Nat) (x0 : D) (S : Store) : callN tb fl (n + 1) k_is_each_form [x0] S = runF tb (callN tb fl n) 1 b_is_each_form [x0] S := rfl
theorem u_Reading_init (n : Nat) (x0 x1 : D) (S : Store) : callN tb fl (n + 1) k_Reading_init [x0, x1] S = runF tb (callN tb fl n) 2 b_Reading_init [x0, x1] S := rfl
theorem u_Reading_body (n : Nat) (x0 x1 x2 x3 x4 : D) (S : Store) : callN tb fl (n + 1) k_Reading_body [x0, x1, x2, x3, x4] S = runF tb (callN tb fl n) 7 b_Reading_body [x0, x1, x2, x3, x4] S := rfl
theorem u_Reading_statement (n : Nat) (x0 x1 x2 x3 x4 : D) (S : Store) : callN tb fl (n + 1) k_Reading_statement [x0, x1, x2, x3, x4] S = runF tb (callN tb fl n) 5 b_Reading_statement [x0, x1, x2, x3, x4] S := rfl
theorem u_is_kept (n : Nat) (x0 x1 : D) (S : Store) : callN tb fl (n + 1) k_is_kept [x0, x1] S = runF tb (callN tb fl n) 2 b_is_kept [x0, x1] S := rfl
theorem u_kept_names (n : Nat) (x0 x1 x2 x3 : D) (S : Store) : callN tb fl (n + 1) k_kept_names [x0, x1, x2, x3] S = runF tb (callN tb fl n) 7 b_kept_names [x0, x1, x2, x3] S := rfl
theorem u_want_publisher (n : Nat) (x0 x1 : D) (S : Store) : callN tb fl (n + 1) k_want_publisher [x0, x1] S = runF tb (callN tb fl n) 4 b_want_publisher [x0, x1] S := rfl
theorem u_made_publisher (n : Nat) (x0 x1 x2 : D) (S : Store) : callN tb fl (n + 1) k_made_publisher [x0, x1, x2] S = runF tb (callN tb fl n) 3 b_made_publisher [x0, x1, x2] S := rfl
theorem u_number_text (n : Nat) (x0 x1 : D) (S : Store) : callN tb fl (n + 1) k_number_text [x0, x1] S = runF tb (callN tb fl n) 3 b_number_text [x0, x1] S := rfl
theorem u_figure_text (n : Nat) (x0 x1 x2 x3 : D) (S : Store) : callN tb fl (n + 1) k_figure_text [x0, x1, x2, x3] S = runF tb (callN tb fl n) 5 b_figure_text [x0, x1, x2, x3] S := rfl
theorem u_are_numbers (n : Nat) (x0 x1 : D) (S : Store) : callN tb fl (n + 1) k_are_numbers [x0, x1] S = runF tb (callN tb fl n) 3 b_are_numbers [x0, x1] S := rfl
theorem u_is_state (n : Nat) (x0 x1 : D) (S : Store) : callN tb fl (n + 1) k_is_state [x0, x1] S = runF tb (callN tb fl n) 3 b_is_state [x0, x1] S := rfl
theorem u_weighted (n : Nat) (x0 x1 : D) (S : Store) : callN tb fl (n + 1) k_weighted [x0, x1] S = runF tb (callN tb fl n) 4 b_weighted [x0, x1] S := rfl
theorem u_line_text (n : Nat) (x0 x1 x2 x3 : D) (S : Store) : callN tb fl (n + 1) k_line_text [x0, x1, x2, x3] S = runF tb (callN tb fl n) 9 b_line_text [x0, x1, x2, x3] S := rfl
theorem u_report (n : Nat) (x0 x1 x2 x3 : D) (S : Store) : callN tb fl (n + 1) k_report [x0, x1, x2, x3] S = runF tb (callN tb fl n) 11 b_report [x0, x1, x2, x3] S := rfl
theorem u_want_few (n : Nat) (x0 : D) (S : Store) : callN tb fl (n + 1) k_want_few [x0] S = runF tb (callN tb fl n) 1 b_want_few [x0] S := rfl
theorem u_Edition_init (n : Nat) (x0 x1 x2 x3 : D) (S : Store) : callN tb fl (n + 1) k_Edition_init [x0, x1, x2, x3] S = runF tb (callN tb fl n) 4 b_Edition_init [x0, x1, x2, x3] S := rfl
theorem u_Edition_branch (n : Nat) (x0 : D) (S : Store) : callN tb fl (n + 1) k_Edition_branch [x0] S = runF tb (callN tb fl n) 1 b_Edition_branch [x0] S := rfl
theorem u_Edition_put (n : Nat) (x0 x1 : D) (S : Store) : callN tb fl (n + 1) k_Edition_put [x0, x1] S = runF tb (callN tb fl n) 5 b_Edition_put [x0, x1] S := rfl
theorem u_Feed_init (n : Nat) (x0 x1 x2 : D) (S : Store) : callN tb fl (n + 1) k_Feed_init [x0, x1, x2] S = runF tb (callN tb fl n) 3 b_Feed_init [x0, x1, x2] S := rfl
theorem u_Feed_fresh (n : Nat) (x0 : D) (S : Store) : callN tb fl (n + 1) k_Feed_fresh [x0] S = runF tb (callN tb fl n) 1 b_Feed_fresh [x0] S := rfl
theorem u_Feed_last (n : Nat) (x0 : D) (S : Store) : callN tb fl (n + 1) k_Feed_last [x0] S = runF tb (callN tb fl n) 1 b_Feed_last [x0] S := rfl
theorem u_Feed_move (n : Nat) (x0 x1 x2 x3 : D) (S : Store) : callN tb fl (n + 1) k_Feed_move [x0, x1, x2, x3] S = runF tb (callN tb fl n) 5 b_Feed_move [x0, x1, x2, x3] S := rfl
theorem u_Feed_correct (n : Nat) (x0 x1 x2 : D) (S : Store) : callN tb fl (n + 1) k_Feed_correct [x0, x1, x2] S = runF tb (callN tb fl n) 6 b_Feed_correct [x0, x1, x2] S := rfl
theorem u_Feed_edition (n : Nat) (x0 x1 : D) (S : Store) : callN tb fl (n + 1) k_Feed_edition [x0, x1] S = runF tb (callN tb fl n) 2 b_Feed_edition [x0, x1] S := rfl
theorem u_Feed_asked (n : Nat) (x0 x1 : D) (S : Store) : callN tb fl (n + 1) k_Feed_asked [x0, x1] S = runF tb (callN tb fl n) 2 b_Feed_asked [x0, x1] S := rfl
theorem u_Feed_state (n : Nat) (x0 x1 : D) (S : Store) : callN tb fl (n + 1) k_Feed_state [x0, x1] S = runF tb (callN tb fl n) 2 b_Feed_state [x0, x1] S := rfl
theorem u_want_ties (n : Nat) (x0 x1 : D) (S : Store) : callN tb fl (n + 1) k_want_ties [x0, x1] S = runF tb (callN tb fl n) 4 b_want_ties [x0, x1] S := rfl
theorem u_nearest (n : Nat) (x0 x1 x2 : D) (S : Store) : callN tb fl (n + 1) k_nearest [x0, x1, x2] S = runF tb (callN tb fl n) 3 b_nearest [x0, x1, x2] S := rfl
theorem u_HalvesPlayer_init (n : Nat) (x0 x1 x2 x3 : D) (S : Store) : callN tb fl (n + 1) k_HalvesPlayer_init [x0, x1, x2, x3] S = runF tb (callN tb fl n) 4 b_HalvesPlayer_init [x0, x1, x2, x3] S := rfl
theorem u_HalvesPlayer_copy (n : Nat) (x0 : D) (S : Store) : callN tb fl (n + 1) k_HalvesPlayer_copy [x0] S = runF tb (callN tb fl n) 1 b_HalvesPlayer_copy [x0] S := rfl
theorem u_HalvesPlayer_number (n : Nat) (x0 x1 : D) (S : Store) : callN tb fl (n + 1) k_HalvesPlayer_number [x0, x1] S = runF tb (callN tb fl n) 2 b_HalvesPlayer_number [x0, x1] S := rfl
theorem u_HalvesPlayer_moved (n : Nat) (x0 x1 x2 : D) (S : Store) : callN tb fl (n + 1) k_HalvesPlayer_moved [x0, x1, x2] S = runF tb (callN tb fl n) 5 b_HalvesPlayer_moved [x0, x1, x2] S := rfl
theorem u_halves (n : Nat) (x0 x1 : D) (S : Store) : callN tb fl (n + 1) k_halves [x0, x1] S = runF tb (callN tb fl n) 2 b_halves [x0, x1] S := rfl
theorem u_bounded (n : Nat) (x0 : D) (S : Store) : callN tb fl (n + 1) k_bounded [x0] S = runF tb (callN tb fl n) 1 b_bounded [x0] S := rfl
theorem u_summed (n : Nat) (x0 x1 x2 : D) (S : Store) : callN tb fl (n + 1) k_summed [x0, x1, x2] S = runF tb (callN tb fl n) 3 b_summed [x0, x1, x2] S := rfl
theorem u_Run_init (n : Nat) (x0 x1 x2 x3 x4 x5 : D) (S : Store) : callN tb fl (n + 1) k_Run_init [x0, x1, x2, x3, x4, x5] S = runF tb (callN tb fl n) 9 b_Run_init [x0, x1, x2, x3, x4, x5] S := rfl
theorem u_Run_state (n : Nat) (x0 : D) (S : Store) : callN tb fl (n + 1) k_Run_state [x0] S = runF tb (callN tb fl n) 3 b_Run_state [x0] S := rfl
theorem u_Run_part_of (n : Nat) (x0 x1 : D) (S : Store) : callN tb fl (n + 1) k_Run_part_of [x0, x1] S = runF tb (callN tb fl n) 3 b_Run_part_of [x0, x1] S := rfl
theorem u_Run_leaf (n : Nat) (x0 x1 : D) (S : Store) : callN tb fl (n + 1) k_Run_leaf [x0, x1] S = runF tb (callN tb fl n) 5 b_Run_leaf [x0, x1] S := rfl
theorem u_Run_worth (n : Nat) (x0 x1 : D) (S : Store) : callN tb fl (n + 1) k_Run_worth [x0, x1] S = runF tb (callN tb fl n) 4 b_Run_worth [x0, x1] S := rfl
theorem u_Run_holds (n : Nat) (x0 x1 : D) (S : Store) : callN tb fl (n + 1) k_Run_holds [x0, x1] S = runF tb (callN tb fl n) 7 b_Run_holds [x0, x1] S := rfl
theorem u_Run_body (n : Nat) (x0 x1 x2 : D) (S : Store) : callN tb fl (n + 1) k_Run_body [x0, x1, x2] S = runF tb (callN tb fl n) 6 b_Run_body [x0, x1, x2] S := rfl
theorem u_Run_statement (n : Nat) (x0 x1 x2 : D) (S : Store) : callN tb fl (n + 1) k_Run_statement [x0, x1, x2] S = runF tb (callN tb fl n) 4 b_Run_statement [x0, x1, x2] S := rfl
theorem u_Run_store (n : Nat) (x0 x1 x2 : D) (S : Store) : callN tb fl (n + 1) k_Run_store [x0, x1, x2] S = runF tb (callN tb fl n) 6 b_Run_store [x0, x1, x2] S := rfl
theorem u_Run_choice (n : Nat) (x0 x1 x2 : D) (S : Store) : callN tb fl (n + 1) k_Run_choice [x0, x1, x2] S = runF tb (callN tb fl n) 4 b_Run_choice [x0, x1, x2] S := rfl
theorem u_Run_each (n : Nat) (x0 x1 x2 : D) (S : Store) : callN tb fl (n + 1) k_Run_each [x0, x1, x2] S = runF tb (callN tb fl n) 5 b_Run_each [x0, x1, x2] S := rfl
theorem u_told_of (n : Nat) (x0 x1 x2 x3 x4 : D) (S : Store) : callN tb fl (n + 1) k_told_of [x0, x1, x2, x3, x4] S = runF tb (callN tb fl n) 7 b_told_of [x0, x1, x2, x3, x4] S := rfl
theorem u_Program_init (n : Nat) (x0 x1 x2 x3 : D) (S : Store) : callN tb fl (n + 1) k_Program_init [x0, x1, x2, x3] S = runF tb (callN tb fl n) 4 b_Program_init [x0, x1, x2, x3] S := rfl
theorem u_Program_copy (n : Nat) (x0 : D) (S : Store) : callN tb fl (n + 1) k_Program_copy [x0] S = runF tb (callN tb fl n) 1 b_Program_copy [x0] S := rfl
theorem u_Program_state (n : Nat) (x0 : D) (S : Store) : callN tb fl (n + 1) k_Program_state [x0] S = runF tb (callN tb fl n) 1 b_Program_state [x0] S := rfl
theorem u_Program_moved (n : Nat) (x0 x1 x2 : D) (S : Store) : callN tb fl (n + 1) k_Program_moved [x0, x1, x2] S = runF tb (callN tb fl n) 11 b_Program_moved [x0, x1, x2] S := rfl
theorem u_first_state (n : Nat) (x0 x1 : D) (S : Store) : callN tb fl (n + 1) k_first_state [x0, x1] S = runF tb (callN tb fl n) 6 b_first_state [x0, x1] S := rfl
theorem u_program (n : Nat) (x0 x1 x2 : D) (S : Store) : callN tb fl (n + 1) k_program [x0, x1, x2] S = runF tb (callN tb fl n) 3 b_program [x0, x1, x2] S := rfl
theorem u__law_pool (n : Nat) (x0 x1 : D) (S : Store) : callN tb fl (n + 1) k__law_pool [x0, x1] S = runF tb (callN tb fl n) 5 b__law_pool [x0, x1] S := rfl
theorem u__law_take (n : Nat) (x0 x1 : D) (S : Store) : callN tb fl (n + 1) k__law_take [x0, x1] S = runF tb (callN tb fl n) 3 b__law_take [x0, x1] S := rfl
theorem u__law_one (n : Nat) (x0 x1 : D) (S : Store) : callN tb fl (n + 1) k__law_one [x0, x1] S = runF tb (callN tb fl n) 2 b__law_one [x0, x1] S := rfl
theorem u__law_mixed (n : Nat) (x0 x1 : D) (S : Store) : callN tb fl (n + 1) k__law_mixed [x0, x1] S = runF tb (callN tb fl n) 5 b__law_mixed [x0, x1] S := rfl
theorem u__law_pub_moved_worth (n : Nat) (x0 : D) (S : Store) : callN tb fl (n + 1) k__law_pub_moved_worth [x0] S = runF tb (callN tb fl n) 1 b__law_pub_moved_worth [x0] S := rfl
theorem u__law_pub_halves (n : Nat) (x0 : D) (S : Store) : callN tb fl (n + 1) k__law_pub_halves [x0] S = runF tb (callN tb fl n) 4 b__law_pub_halves [x0] S := rfl
theorem u__law_pub_floor (n : Nat) (S : Store) : callN tb fl (n + 1) k__law_pub_floor [] S = runF tb (callN tb fl n) 0 b__law_pub_floor [] S := rfl
theorem u__law_pub_nudge (n : Nat) (x0 x1 : D) (S : Store) : callN tb fl (n + 1) k__law_pub_nudge [x0, x1] S = runF tb (callN tb fl n) 2 b__law_pub_nudge [x0, x1] S := rfl
theorem u__law_pub_off (n : Nat) (x0 : D) (S : Store) : callN tb fl (n + 1) k__law_pub_off [x0] S = runF tb (callN tb fl n) 1 b__law_pub_off [x0] S := rfl
theorem u__law_pub_lagging (n : Nat) (x0 : D) (S : Store) : callN tb fl (n + 1) k__law_pub_lagging [x0] S = runF tb (callN tb fl n) 3 b__law_pub_lagging [x0] S := rfl
theorem u__law_pub_mender (n : Nat) (x0 : D) (S : Store) : callN tb fl (n + 1) k__law_pub_mender [x0] S = runF tb (callN tb fl n) 8 b__law_pub_mender [x0] S := rfl
theorem u__law_pub_counter (n : Nat) (x0 : D) (S : Store) : callN tb fl (n + 1) k__law_pub_counter [x0] S = runF tb (callN tb fl n) 4 b__law_pub_counter [x0] S := rfl
theorem u__law_plain_links (n : Nat) (x0 : D) (S : Store) : callN tb fl (n + 1) k__law_plain_links [x0] S = runF tb (callN tb fl n) 2 b__law_plain_links [x0] S := rfl
theorem u__law_drawn_links (n : Nat) (x0 x1 : D) (S : Store) : callN tb fl (n + 1) k__law_drawn_links [x0, x1] S = runF tb (callN tb fl n) 8 b__law_drawn_links [x0, x1] S := rfl
theorem u__law_drawn_steps (n : Nat) (x0 x1 x2 : D) (S : Store) : callN tb fl (n + 1) k__law_drawn_steps [x0, x1, x2] S = runF tb (callN tb fl n) 4 b__law_drawn_steps [x0, x1, x2] S := rfl
theorem u__law_plain_book (n : Nat) (x0 x1 x2 : D) (S : Store) : callN tb fl (n + 1) k__law_plain_book [x0, x1, x2] S = runF tb (callN tb fl n) 4 b__law_plain_book [x0, x1, x2] S := rfl
theorem u__law_linked_book (n : Nat) (x0 x1 x2 : D) (S : Store) : callN tb fl (n + 1) k__law_linked_book [x0, x1, x2] S = runF tb (callN tb fl n) 4 b__law_linked_book [x0, x1, x2] S := rfl
theorem u__law_some_book (n : Nat) (x0 x1 x2 : D) (S : Store) : callN tb fl (n + 1) k__law_some_book [x0, x1, x2] S = runF tb (callN tb fl n) 3 b__law_some_book [x0, x1, x2] S := rfl
theorem u__law_drawn_line (n : Nat) (x0 x1 : D) (S : Store) : callN tb fl (n + 1) k__law_drawn_line [x0, x1] S = runF tb (callN tb fl n) 6 b__law_drawn_line [x0, x1] S := rfl
theorem u__law_drawn_history (n : Nat) (x0 x1 x2 : D) (S : Store) : callN tb fl (n + 1) k__law_drawn_history [x0, x1, x2] S = runF tb (callN tb fl n) 7 b__law_drawn_history [x0, x1, x2] S := rfl
theorem u__law_noughts (n : Nat) (x0 : D) (S : Store) : callN tb fl (n + 1) k__law_noughts [x0] S = runF tb (callN tb fl n) 1 b__law_noughts [x0] S := rfl
theorem u__law_stepped (n : Nat) (x0 x1 x2 : D) (S : Store) : callN tb fl (n + 1) k__law_stepped [x0, x1, x2] S = runF tb (callN tb fl n) 7 b__law_stepped [x0, x1, x2] S := rfl
theorem u__law_strays_of (n : Nat) (x0 x1 : D) (S : Store) : callN tb fl (n + 1) k__law_strays_of [x0, x1] S = runF tb (callN tb fl n) 3 b__law_strays_of [x0, x1] S := rfl
theorem u__law_weighed (n : Nat) (x0 x1 : D) (S : Store) : callN tb fl (n + 1) k__law_weighed [x0, x1] S = runF tb (callN tb fl n) 3 b__law_weighed [x0, x1] S := rfl
theorem u__law_is_formed (n : Nat) (x0 x1 : D) (S : Store) : callN tb fl (n + 1) k__law_is_formed [x0, x1] S = runF tb (callN tb fl n) 5 b__law_is_formed [x0, x1] S := rfl
theorem u__law_is_let (n : Nat) (x0 x1 x2 : D) (S : Store) : callN tb fl (n + 1) k__law_is_let [x0, x1, x2] S = runF tb (callN tb fl n) 5 b__law_is_let [x0, x1, x2] S := rfl
theorem u__law_played (n : Nat) (x0 x1 x2 : D) (S : Store) : callN tb fl (n + 1) k__law_played [x0, x1, x2] S = runF tb (callN tb fl n) 8 b__law_played [x0, x1, x2] S := rfl
theorem u__law_last_of (n : Nat) (x0 x1 : D) (S : Store) : callN tb fl (n + 1) k__law_last_of [x0, x1] S = runF tb (callN tb fl n) 2 b__law_last_of [x0, x1] S := rfl
theorem u__law_divisor (n : Nat) (x0 x1 : D) (S : Store) : callN tb fl (n + 1) k__law_divisor [x0, x1] S = runF tb (callN tb fl n) 2 b__law_divisor [x0, x1] S := rfl
theorem u__law_told_names (n : Nat) (x0 x1 : D) (S : Store) : callN tb fl (n + 1) k__law_told_names [x0, x1] S = runF tb (callN tb fl n) 2 b__law_told_names [x0, x1] S := rfl
theorem u__law_fraction (n : Nat) (x0 x1 : D) (S : Store) : callN tb fl (n + 1) k__law_fraction [x0, x1] S = runF tb (callN tb fl n) 5 b__law_fraction [x0, x1] S := rfl
theorem u__law_report_due (n : Nat) (x0 x1 x2 x3 : D) (S : Store) : callN tb fl (n + 1) k__law_report_due [x0, x1, x2, x3] S = runF tb (callN tb fl n) 16 b__law_report_due [x0, x1, x2, x3] S := rfl
theorem u__law_report_player (n : Nat) (x0 x1 : D) (S : Store) : callN tb fl (n + 1) k__law_report_player [x0, x1] S = runF tb (callN tb fl n) 5 b__law_report_player [x0, x1] S := rfl
theorem u__law_report_refused (n : Nat) (x0 x1 x2 x3 x4 : D) (S : Store) : callN tb fl (n + 1) k__law_report_refused [x0, x1, x2, x3, x4] S = runF tb (callN tb fl n) 11 b__law_report_refused [x0, x1, x2, x3, x4] S := rfl
theorem u__law_far_state (n : Nat) (x0 x1 : D) (S : Store) : callN tb fl (n + 1) k__law_far_state [x0, x1] S = runF tb (callN tb fl n) 5 b__law_far_state [x0, x1] S := rfl
theorem u_law (n : Nat) (x0 : D) (S : Store) : callN tb fl (n + 1) k_law [x0] S = runF tb (callN tb fl n) 20 b_law [x0] S := rfl
@[simp] theorem w_0 : tb.w 0 = ("part" : Str) := rfl
@[simp] theorem w_1 : tb.w 1 = ("it" : Str) := rfl
@[simp] theorem w_2 : tb.w 2 = ("moved" : Str) := rfl
@[simp] theorem w_3 : tb.w 3 = ("cell" : Str) := rfl
@[simp] theorem w_4 : tb.w 4 = ("num" : Str) := rfl
@[simp] theorem w_5 : tb.w 5 = ("row" : Str) := rfl
@[simp] theorem w_6 : tb.w 6 = ("way" : Str) := rfl
@[simp] theorem w_7 : tb.w 7 = ("less" : Str) := rfl
@[simp] theorem w_8 : tb.w 8 = ("eq" : Str) := rfl
@[simp] theorem w_9 : tb.w 9 = ("same" : Str) := rfl
@[simp] theorem w_10 : tb.w 10 = ("linked" : Str) := rfl
@[simp] theorem w_11 : tb.w 11 = ("or" : Str) := rfl
@[simp] theorem w_12 : tb.w 12 = ("and" : Str) := rfl
@[simp] theorem w_13 : tb.w 13 = ("not" : Str) := rfl
@[simp] theorem w_14 : tb.w 14 = ("show" : Str) := rfl
@[simp] theorem w_15 : tb.w 15 = ("set" : Str) := rfl
@[simp] theorem w_16 : tb.w 16 = ("put" : Str) := rfl
@[simp] theorem w_17 : tb.w 17 = ("if" : Str) := rfl
@[simp] theorem w_18 : tb.w 18 = ("each" : Str) := rfl
@[simp] theorem w_19 : tb.w 19 = ("/" : Str) := rfl
@[simp] theorem w_20 : tb.w 20 = (" shown " : Str) := rfl
@[simp] theorem w_21 : tb.w 21 = (" true " : Str) := rfl
@[simp] theorem w_22 : tb.w 22 = (" off " : Str) := rfl
@[simp] theorem w_23 : tb.w 23 = (" steps" : Str) := rfl
@[simp] theorem w_24 : tb.w 24 = ("line " : Str) := rfl
@[simp] theorem w_25 : tb.w 25 = (":" : Str) := rfl
@[simp] theorem w_26 : tb.w 26 = ("div" : Str) := rfl
@[simp] theorem w_27 : tb.w 27 = ("mul" : Str) := rfl
@[simp] theorem w_28 : tb.w 28 = ("sub" : Str) := rfl
@[simp] theorem w_29 : tb.w 29 = ("add" : Str) := rfl
@[simp] theorem w_30 : tb.w 30 = ("shown" : Str) := rfl
@[simp] theorem w_31 : tb.w 31 = ("truth" : Str) := rfl
@[simp] theorem w_32 : tb.w 32 = ("mod" : Str) := rfl
@[simp] theorem w_33 : tb.w 33 = ("steps" : Str) := rfl
@[simp] theorem w_34 : tb.w 34 = ("sum" : Str) := rfl
@[simp] theorem w_35 : tb.w 35 = ("seen" : Str) := rfl
@[simp] theorem w_36 : tb.w 36 = ("n" : Str) := rfl
@[simp] theorem w_37 : tb.w 37 = ("f" : Str) := rfl
@[simp] theorem w_38 : tb.w 38 = ("east9" : Str) := rfl
@[simp] theorem w_39 : tb.w 39 = ("d" : Str) := rfl
@[simp] theorem w_40 : tb.w 40 = ("cat" : Str) := rfl
@[simp] theorem w_41 : tb.w 41 = ("b2" : Str) := rfl
@[simp] theorem w_42 : tb.w 42 = ("ann" : Str) := rfl
@[simp] theorem w_43 : tb.w 43 = ("shown " : Str) := rfl
@[simp] theorem w_44 : tb.w 44 = ("off " : Str) := rfl
@[simp] theorem w_45 : tb.w 45 = (": " : Str) := rfl
@[simp] theorem w_46 : tb.w 46 = ("dot" : Str) := rfl
@[simp] theorem w_47 : tb.w 47 = ("cid" : Str) := rfl
@[simp] theorem w_48 : tb.w 48 = ("bob" : Str) := rfl
@[simp] theorem w_49 : tb.w 49 = ("state" : Str) := rfl
@[simp] theorem w_50 : tb.w 50 = ("line" : Str) := rfl
@[simp] theorem w_51 : tb.w 51 = ("z" : Str) := rfl
@[simp] theorem w_52 : tb.w 52 = ("names" : Str) := rfl
@[simp] theorem w_53 : tb.w 53 = ("a_b" : Str) := rfl
@[simp] theorem w_54 : tb.w 54 = ("a" : Str) := rfl
@[simp] theorem w_55 : tb.w 55 = ("9a" : Str) := rfl
@[simp] theorem w_56 : tb.w 56 = ("Ann" : Str) := rfl
@[simp] theorem w_57 : tb.w 57 = ("" : Str) := rfl
@[simp] theorem g_0 : tb.glob 0 = .int 6 := rfl
@[simp] theorem g_1 : tb.glob 1 = .int 60 := rfl
@[simp] theorem g_2 : tb.glob 2 = .int 20 := rfl
@[simp] theorem g_3 : tb.glob 3 = .int (-1) := rfl
@[simp] theorem g_4 : tb.glob 4 = .int 1 := rfl
@[simp] theorem g_5 : tb.glob 5 = .str "abcdefghijklmnopqrstuvwxyz" := rfl
@[simp] theorem g_6 : tb.glob 6 = .str "0123456789" := rfl
@[simp] theorem g_7 : tb.glob 7 = .int 12 := rfl
@[simp] theorem g_8 : tb.glob 8 = .tup [.str "parts", .str "links", .str "cells", .str "rows", .str "show", .str "if", .str "else", .str "each", .str "moved", .str "it", .str "truth", .str "shown", .str "steps", .str "way", .str "mod", .str "not", .str "and", .str "or", .str "same", .str "linked", .str "line", .str "up", .str "down", .str "by", .str "spread", .str "bound", .str "rule"] := rfl
@[simp] theorem g_9 : tb.glob 9 = .tup [.str "truth", .str "shown", .str "steps"] := rfl
@[simp] theorem g_10 : tb.glob 10 = .int 1000000 := rfl
@[simp] theorem g_11 : tb.glob 11 = .tup [.str "add", .str "sub", .str "mul", .str "div", .str "mod"] := rfl
@[simp] theorem g_12 : tb.glob 12 = .int 6 := rfl
@[simp] theorem g_13 : tb.glob 13 = .int 30 := rfl
@[simp] theorem g_14 : tb.glob 14 = .int 100 := rfl
@[simp] theorem g_15 : tb.glob 15 = .int 6 := rfl
@[simp] theorem g_16 : tb.glob 16 = .int 4 := rfl
@[simp] theorem g_17 : tb.glob 17 = .int 8 := rfl
@[simp] theorem g_18 : tb.glob 18 = .int 5000 := rfl
@[simp] theorem g_19 : tb.glob 19 = .int 1000 := rfl
@[simp] theorem g_20 : tb.glob 20 = .int 50 := rfl
@[simp] theorem g_21 : tb.glob 21 = .int 1000000000000 := rfl
@[simp] theorem dat_14_2 : tb.dat 14 2 = true := rfl
@[simp] theorem dat_14_1 : tb.dat 14 1 = true := rfl
@[simp] theorem dat_14_0 : tb.dat 14 0 = true := rfl
@[simp] theorem dat_15_7 : tb.dat 15 7 = true := rfl
@[simp] theorem dat_15_6 : tb.dat 15 6 = true := rfl
@[simp] theorem dat_15_5 : tb.dat 15 5 = true := rfl
@[simp] theorem dat_16_9 : tb.dat 16 9 = true := rfl
@[simp] theorem dat_16_8 : tb.dat 16 8 = true := rfl
@[simp] theorem dat_17_14 : tb.dat 17 14 = true := rfl
@[simp] theorem dat_17_13 : tb.dat 17 13 = true := rfl
@[simp] theorem dat_17_12 : tb.dat 17 12 = true := rfl
@[simp] theorem dat_18_2 : tb.dat 18 2 = true := rfl
@[simp] theorem dat_18_1 : tb.dat 18 1 = true := rfl
@[simp] theorem dat_18_5 : tb.dat 18 5 = true := rfl
@[simp] theorem dat_19_2 : tb.dat 19 2 = true := rfl
@[simp] theorem dat_19_23 : tb.dat 19 23 = true := rfl
@[simp] theorem dat_19_22 : tb.dat 19 22 = true := rfl
@[simp] theorem dat_20_29 : tb.dat 20 29 = true := rfl
@[simp] theorem dat_20_28 : tb.dat 20 28 = true := rfl
@[simp] theorem dat_20_22 : tb.dat 20 22 = true := rfl
@[simp] theorem dat_20_12 : tb.dat 20 12 = true := rfl
@[simp] theorem dat_20_6 : tb.dat 20 6 = true := rfl
@[simp] theorem dat_20_5 : tb.dat 20 5 = true := rfl
@[simp] theorem dat_20_27 : tb.dat 20 27 = true := rfl
@[simp] theorem dat_20_26 : tb.dat 20 26 = true := rfl
@[simp] theorem dat_20_25 : tb.dat 20 25 = true := rfl
@[simp] theorem dat_20_30 : tb.dat 20 30 = true := rfl
@[simp] theorem dat_20_31 : tb.dat 20 31 = true := rfl
@[simp] theorem dat_21_2 : tb.dat 21 2 = true := rfl
@[simp] theorem dat_21_40 : tb.dat 21 40 = true := rfl
@[simp] theorem dat_21_39 : tb.dat 21 39 = true := rfl
@[simp] theorem init_14 : tb.init 14 = 19 := rfl
@[simp] theorem init_15 : tb.init 15 = 27 := rfl
@[simp] theorem init_16 : tb.init 16 = 40 := rfl
@[simp] theorem init_17 : tb.init 17 = 55 := rfl
@[simp] theorem init_18 : tb.init 18 = 58 := rfl
@[simp] theorem init_19 : tb.init 19 = 68 := rfl
@[simp] theorem init_20 : tb.init 20 = 75 := rfl
@[simp] theorem init_21 : tb.init 21 = 87 := rfl
@[simp] theorem meth_14_15 : tb.meth 14 15 = some 20 := rfl
@[simp] theorem meth_14_16 : tb.meth 14 16 = some 21 := rfl
@[simp] theorem meth_16_11 : tb.meth 16 11 = some 41 := rfl
@[simp] theorem meth_16_10 : tb.meth 16 10 = some 42 := rfl
@[simp] theorem meth_17_15 : tb.meth 17 15 = some 56 := rfl
@[simp] theorem meth_17_18 : tb.meth 17 18 = some 57 := rfl
@[simp] theorem meth_18_17 : tb.meth 18 17 = some 59 := rfl
@[simp] theorem meth_18_19 : tb.meth 18 19 = some 60 := rfl
@[simp] theorem meth_18_42 : tb.meth 18 42 = some 61 := rfl
@[simp] theorem meth_18_41 : tb.meth 18 41 = some 62 := rfl
@[simp] theorem meth_18_20 : tb.meth 18 20 = some 63 := rfl
@[simp] theorem meth_18_21 : tb.meth 18 21 = some 64 := rfl
@[simp] theorem meth_18_0 : tb.meth 18 0 = some 65 := rfl
@[simp] theorem meth_19_3 : tb.meth 19 3 = some 69 := rfl
@[simp] theorem meth_19_24 : tb.meth 19 24 = some 70 := rfl
@[simp] theorem meth_19_4 : tb.meth 19 4 = some 71 := rfl
@[simp] theorem meth_20_0 : tb.meth 20 0 = some 76 := rfl
@[simp] theorem meth_20_32 : tb.meth 20 32 = some 77 := rfl
@[simp] theorem meth_20_34 : tb.meth 20 34 = some 78 := rfl
@[simp] theorem meth_20_33 : tb.meth 20 33 = some 79 := rfl
@[simp] theorem meth_20_35 : tb.meth 20 35 = some 80 := rfl
@[simp] theorem meth_20_11 : tb.meth 20 11 = some 81 := rfl
@[simp] theorem meth_20_10 : tb.meth 20 10 = some 82 := rfl
@[simp] theorem meth_20_36 : tb.meth 20 36 = some 83 := rfl
@[simp] theorem meth_20_38 : tb.meth 20 38 = some 84 := rfl
@[simp] theorem meth_20_37 : tb.meth 20 37 = some 85 := rfl
@[simp] theorem meth_21_3 : tb.meth 21 3 = some 88 := rfl
@[simp] theorem meth_21_0 : tb.meth 21 0 = some 89 := rfl
@[simp] theorem meth_21_4 : tb.meth 21 4 = some 90 := rfl
end K76P
set_option Elab.async false
set_option linter.all false
set_option maxRecDepth 100000
set_option autoImplicit false
set_option maxHeartbeats 2000000
/-! K12: rules for simp, walks by lists, small defs -/
namespace K76P
open PySem K76
@[simp] theorem bind_ok {α β : Type} (a : α) (S : Store) (k : α → Store → Res β) : (Res.ok a S).bind k = k a S := rfl
@[simp] theorem asB_t {α : Type} (k : Bool → Store → Res α) (b : Bool) (S : Store) : asB k (.bl b) S = k b S := rfl
/-- the numbers of a range -/
def rngD0 (x : D) (S : Store) : Res Src := match x with
  | .int n => if -(2 ^ 62) ≤ n ∧ n < 2 ^ 62 then .ok (.fix ((List.range n.toNat).map fun (k : Nat) => .int (k : Int))) S else .bad
  | _ => .bad
theorem rngD0_ok (n : Int) (k : Nat) (S : Store) (h : n.toNat = k) (h0 : -1000000 ≤ n) (h1 : k ≤ 1000000) : rngD0 (.int n) S = .ok (.fix ((List.range k).map fun (k : Nat) => .int (k : Int))) S := by
  subst h
  have q : -(2 ^ 62 : Int) ≤ n ∧ n < 2 ^ 62 := by omega
  unfold rngD0
  dsimp only
  rw [if_pos q]
/-- none looks into it: the kernel would count to 2 ^ 62 -/
theorem rng_ex : ∃ f : D → Store → Res Src, (∀ tb call a ρ S, evI tb call (.range a) ρ S = (ev tb call a ρ S).bind f) ∧ ∀ (n : Int) (k : Nat) (S : Store), n.toNat = k → -1000000 ≤ n → k ≤ 1000000 → f (.int n) S = .ok (.fix ((List.range k).map fun (k : Nat) => .int (k : Int))) S :=
  ⟨rngD0, fun _ _ _ _ _ => rfl, rngD0_ok⟩
noncomputable def rngD : D → Store → Res Src := Classical.choose rng_ex
theorem rngD_ok (n : Int) (k : Nat) (S : Store) (h : n = (k : Int)) (h1 : k ≤ 1000000) : rngD (.int n) S = .ok (.fix ((List.range k).map fun (k : Nat) => .int (k : Int))) S := (Classical.choose_spec rng_ex).2 n k S (by omega) (by omega) h1
theorem rngD_neg (n : Int) (S : Store) (h : n ≤ 0) (h1 : -1000000 ≤ n) : rngD (.int n) S = .ok (.fix []) S := (Classical.choose_spec rng_ex).2 n 0 S (by omega) h1 (by omega)
section
variable (tb : Tb) (call : Nat → List D → Store → Res D) (a b c : CE) (ρ : Ev) (S : Store)
theorem evI_of : evI tb call (.of a) ρ S = (ev tb call a ρ S).bind fun x S1 => (match x with
    | .tup l => .ok (.fix l) S1
    | .str z => .ok (.fix (z.cps.toList.map fun c => .str ⟨#[c]⟩)) S1
    | .ref i => (match S1[i]? with
      | some (.lst l) => .ok (.ls i l.length) S1
      | _ => .bad)
    | _ => .bad) := rfl
theorem evI_range : evI tb call (.range a) ρ S = (ev tb call a ρ S).bind rngD := (Classical.choose_spec rng_ex).1 tb call a ρ S
theorem evI_enum : evI tb call (.enum a) ρ S = (ev tb call a ρ S).bind fun x S1 => (match x with
    | .tup l => .ok (.fix (enumL 0 l)) S1
    | _ => .bad) := rfl
theorem evI_zip2 : evI tb call (.zip2 a b) ρ S = (ev tb call a ρ S).bind fun x S1 => (ev tb call b ρ S1).bind fun y S2 => (match x, y with
    | .tup l, .tup k => .ok (.fix (zip2L l k)) S2
    | _, _ => .bad) := rfl
theorem evI_zip3 : evI tb call (.zip3 a b c) ρ S = (ev tb call a ρ S).bind fun x S1 => (ev tb call b ρ S1).bind fun y S2 => (ev tb call c ρ S2).bind fun z S3 => (match x, y, z with
    | .tup l, .tup k, .tup j => .ok (.fix (zip3L l k j)) S3
    | _, _, _ => .bad) := rfl
theorem evI_enumZip : evI tb call (.enumZip a b) ρ S = (ev tb call a ρ S).bind fun x S1 => (ev tb call b ρ S1).bind fun y S2 => (match x, y with
    | .tup l, .tup k => .ok (.fix (enumL 0 (zip2L l k))) S2
    | _, _ => .bad) := rfl
end
/-! ### walks by lists -/
def foldF (step : D → Ev → Store → Res (Fl × Ev)) : List D → Ev → Store → Res (Fl × Ev)
  | [], ρ, S => .ok (.nx, ρ) S
  | d :: r, ρ, S => (step d ρ S).bind fun x S' => match x with
    | (.nx, ρ') => foldF step r ρ' S'
    | (.rt d, ρ') => .ok (.rt d, ρ') S'
theorem forL_from (step : D → Ev → Store → Res (Fl × Ev)) (l : List D) : ∀ (r k : Nat) (ρ : Ev) (S : Store), k + r = l.length → forL (.fix l) step r k ρ S = foldF step (l.drop k) ρ S
  | 0, k, ρ, S, h => by
    have e : l.drop k = [] := List.drop_eq_nil_of_le (by omega)
    rw [e]
    rfl
  | r + 1, k, ρ, S, h => by
    have hk : k < l.length := by omega
    rw [List.drop_eq_getElem_cons hk]
    unfold forL foldF
    simp only [Src.item, List.getElem?_eq_getElem hk]
    congr 1
    funext x S'
    obtain ⟨fl, ρ'⟩ := x
    cases fl with
    | nx => exact forL_from step l r (k + 1) ρ' S' (by omega)
    | rt d => rfl
theorem forL_fix (step : D → Ev → Store → Res (Fl × Ev)) (l : List D) (ρ : Ev) (S : Store) : forL (.fix l) step l.length 0 ρ S = foldF step l ρ S := forL_from step l l.length 0 ρ S (by omega)
def mapF (step : D → Store → Res (Option D)) : List D → List D → Store → Res (List D)
  | [], acc, S => .ok acc S
  | d :: r, acc, S => match step d S with
    | .ok (some y) S' => if acc.length < sizeLine then mapF step r (acc ++ [y]) S' else .bad
    | .ok none S' => mapF step r acc S'
    | _ => .bad
theorem lcL_from (step : D → Store → Res (Option D)) (l : List D) : ∀ (r k : Nat) (acc : List D) (S : Store), k + r = l.length → lcL (.fix l) step r k acc S = mapF step (l.drop k) acc S
  | 0, k, acc, S, h => by
    have e : l.drop k = [] := List.drop_eq_nil_of_le (by omega)
    rw [e]
    rfl
  | r + 1, k, acc, S, h => by
    have hk : k < l.length := by omega
    rw [List.drop_eq_getElem_cons hk]
    unfold lcL mapF
    simp only [Src.item, List.getElem?_eq_getElem hk]
    cases e : step l[k] S with
    | ok y S' =>
      cases y with
      | none => exact lcL_from step l r (k + 1) acc S' (by omega)
      | some y =>
        dsimp only
        rw [lcL_from step l r (k + 1) (acc ++ [y]) S' (by omega)]
    | exc c d S' => rfl
    | bad => rfl
theorem lcL_fix (step : D → Store → Res (Option D)) (l : List D) (S : Store) : lcL (.fix l) step l.length 0 [] S = mapF step l [] S := lcL_from step l l.length 0 [] S (by omega)
/-- every turn keeps the store -/
theorem mapF_pure (step : D → Store → Res (Option D)) (f : D → Option D) (S : Store) : ∀ (l acc : List D), (∀ d ∈ l, step d S = .ok (f d) S) → acc.length + l.length ≤ sizeLine → mapF step l acc S = .ok (acc ++ l.filterMap f) S
  | [], acc, _, _ => by simp [runF, exs, ex, ev, evs, evAnd, evOr, evO, evC, evI_of, evI_range, evI_enum, evI_zip2, evI_zip3, evI_enumZip, mapF]
  | d :: r, acc, h, hl => by
    unfold mapF
    rw [h d (List.mem_cons_self ..)]
    have h2 : ∀ d ∈ r, step d S = .ok (f d) S := fun x hx => h x (List.mem_cons_of_mem _ hx)
    rw [List.length_cons] at hl
    cases e : f d with
    | none =>
      dsimp only
      rw [mapF_pure step f S r acc h2 (by omega), List.filterMap_cons_none e]
    | some y =>
      dsimp only
      rw [if_pos (by omega), mapF_pure step f S r (acc ++ [y]) h2 (by rw [List.length_append]; simp [runF, exs, ex, ev, evs, evAnd, evOr, evO, evC, evI_of, evI_range, evI_enum, evI_zip2, evI_zip3, evI_enumZip]; omega), List.filterMap_cons_some e]
      simp [runF, exs, ex, ev, evs, evAnd, evOr, evO, evC, evI_of, evI_range, evI_enum, evI_zip2, evI_zip3, evI_enumZip]
@[simp] theorem src_len (l : List D) : (Src.fix l).len = l.length := rfl
@[simp] theorem lcL_fix2 (step : D → Store → Res (Option D)) (l : List D) (k : Nat) (S : Store) (h : k = l.length) : lcL (.fix l) step k 0 [] S = mapF step l [] S := by
  subst h
  exact lcL_fix step l S
@[simp] theorem forL_fix2 (step : D → Ev → Store → Res (Fl × Ev)) (l : List D) (k : Nat) (ρ : Ev) (S : Store) (h : k = l.length) : forL (.fix l) step k 0 ρ S = foldF step l ρ S := by
  subst h
  exact forL_fix step l ρ S
section
variable (i : Nat) (d : D) (ρ : Ev) (t : CT) (ts : List CT) (ds : List D)
@[simp] theorem bT_nm : bindT (.nm i) d ρ = if i < ρ.length then some (ρ.set i (some d)) else none := rfl
@[simp] theorem bT_tp : bindT (.tp ts) (.tup ds) ρ = bindTs ts ds ρ := rfl
@[simp] theorem bTs_nil : bindTs [] [] ρ = some ρ := rfl
theorem bTs_cons {ρ' : Ev} (h : bindT t d ρ = some ρ') : bindTs (t :: ts) (d :: ds) ρ = bindTs ts ds ρ' := by
  show (match bindT t d ρ with | some ρ' => bindTs ts ds ρ' | none => none) = _
  rw [h]
@[simp] theorem bTs_nm (h : i < ρ.length) : bindTs (.nm i :: ts) (d :: ds) ρ = bindTs ts ds (ρ.set i (some d)) := bTs_cons _ _ _ _ _ (by rw [bT_nm, if_pos h])
@[simp] theorem bTs_tp (us : List CT) (es : List D) : bindTs (.tp us :: ts) (.tup es :: ds) ρ = (match bindTs us es ρ with | some ρ' => bindTs ts ds ρ' | none => none) := rfl
@[simp] theorem wD_nil : wipeD ρ [] = ρ := rfl
@[simp] theorem wD_cons (v : Nat) (vs : List Nat) : wipeD ρ (v :: vs) = (wipeD ρ vs).set v none := rfl
end
/-! ### operators at values -/
section
variable (a b : Int) (x y : D) (l k : List D) (S : Store)
@[simp] theorem o_lt : opCmp .lt (.int a) (.int b) S = .ok (.bl (decide (a < b))) S := rfl
@[simp] theorem o_le : opCmp .le (.int a) (.int b) S = .ok (.bl (decide (a ≤ b))) S := rfl
@[simp] theorem o_gt : opCmp .gt (.int a) (.int b) S = .ok (.bl (decide (b < a))) S := rfl
@[simp] theorem o_ge : opCmp .ge (.int a) (.int b) S = .ok (.bl (decide (b ≤ a))) S := rfl
@[simp] theorem o_eq : opCmp .eq (.int a) (.int b) S = .ok (.bl (decide (a = b))) S := rfl
@[simp] theorem o_ne : opCmp .ne (.int a) (.int b) S = .ok (.bl (!decide (a = b))) S := rfl
@[simp] theorem o_eqs (u v : Str) : opCmp .eq (.str u) (.str v) S = .ok (.bl (decide (u = v))) S := rfl
@[simp] theorem o_nes (u v : Str) : opCmp .ne (.str u) (.str v) S = .ok (.bl (!decide (u = v))) S := rfl
@[simp] theorem o_isn (h : x ≠ .non) : opCmp .isN x .non S = .ok (.bl false) S := by
  cases x <;> first | rfl | exact absurd rfl h
@[simp] theorem o_isnn : opCmp .isN .non .non S = .ok (.bl true) S := rfl
@[simp] theorem o_notn (h : x ≠ .non) : opCmp .notN x .non S = .ok (.bl true) S := by
  cases x <;> first | rfl | exact absurd rfl h
@[simp] theorem o_notnn : opCmp .notN .non .non S = .ok (.bl false) S := rfl
@[simp] theorem o_in : opCmp .in_ x y S = opIn false x y S := rfl
@[simp] theorem o_notin : opCmp .notIn x y S = opIn true x y S := rfl
@[simp] theorem o_addi : opBin .add (.int a) (.int b) S = .ok (.int (a + b)) S := rfl
@[simp] theorem o_sub : opBin .sub (.int a) (.int b) S = .ok (.int (a - b)) S := rfl
theorem o_mul (h : -(2 ^ 64) < a ∧ a < 2 ^ 64) : opBin .mul (.int a) (.int b) S = .ok (.int (a * b)) S := if_pos (.inl h)
theorem o_mul2 (h : -(2 ^ 64) < b ∧ b < 2 ^ 64) : opBin .mul (.int a) (.int b) S = .ok (.int (a * b)) S := if_pos (.inr h)
theorem o_fdiv (h : 0 < b ∧ b < 1073741824) : opBin .fdiv (.int a) (.int b) S = .ok (.int (a / b)) S := if_pos h
theorem o_mod (h : 0 < b) : opBin .mod (.int a) (.int b) S = .ok (.int (a % b)) S := if_pos h
theorem o_addt (h : l.length + k.length ≤ sizeLine) : opBin .add (.tup l) (.tup k) S = .ok (.tup (l ++ k)) S := if_pos h
theorem o_adds (u v : Str) (h : u.length + v.length ≤ sizeLine) : opBin .add (.str u) (.str v) S = .ok (.str (u ++ v)) S := if_pos h
@[simp] theorem o_lent : opBI .len [.tup l] S = .ok (.int l.length) S := rfl
@[simp] theorem o_abs : opBI .abs [.int a] S = .ok (.int (if a < 0 then -a else a)) S := rfl
@[simp] theorem o_int1 : opBI .int1 [.int a] S = .ok (.int a) S := rfl
@[simp] theorem o_min : opBI .min2 [.int a, .int b] S = .ok (.int (if b < a then b else a)) S := rfl
@[simp] theorem o_max : opBI .max2 [.int a, .int b] S = .ok (.int (if b > a then b else a)) S := rfl
@[simp] theorem o_isInt : opBI .isInt [x] S = isD .isInt x S := rfl
@[simp] theorem o_isBool : opBI .isBool [x] S = isD .isBool x S := rfl
@[simp] theorem o_isTup : opBI .isTup [x] S = isD .isTup x S := rfl
@[simp] theorem o_isStr : opBI .isStr [x] S = isD .isStr x S := rfl
section
variable (t : BI) (z : Str) (b : Bool) (a : Int) (l : List D) (S : Store)
@[simp] theorem isD_non : isD t .non S = .ok (.bl false) S := rfl
@[simp] theorem isD_bl : isD t (.bl b) S = .ok (.bl (match t with | .isInt => true | .isBool => true | _ => false)) S := rfl
@[simp] theorem isD_int : isD t (.int a) S = .ok (.bl (match t with | .isInt => true | _ => false)) S := rfl
@[simp] theorem isD_str : isD t (.str z) S = .ok (.bl (match t with | .isStr => true | _ => false)) S := rfl
@[simp] theorem isD_tup : isD t (.tup l) S = .ok (.bl (match t with | .isTup => true | _ => false)) S := rfl
end
theorem atI_nat {α : Type} (l : List α) (i : Nat) : L2.atI l (i : Int) = l[i]? := by
  unfold L2.atI L2.ixN
  by_cases h : i < l.length
  · rw [if_pos (by omega), if_pos (by exact_mod_cast h)]
    simp [runF, exs, ex, ev, evs, evAnd, evOr, evO, evC, evI_of, evI_range, evI_enum, evI_zip2, evI_zip3, evI_enumZip]
  · rw [if_pos (by omega), if_neg (by omega)]
    simp only [Option.bind_none]
    rw [List.getElem?_eq_none (by omega)]
@[simp] theorem o_i0 : opIdx (.tup (x :: l)) (.int 0) S = .ok x S := by
  show (match L2.atI (x :: l) ((0 : Nat) : Int) with | some d => Res.ok d S | none => .bad) = _
  rw [atI_nat]
  rfl
@[simp] theorem o_i1 : opIdx (.tup (x :: y :: l)) (.int 1) S = .ok y S := by
  show (match L2.atI (x :: y :: l) ((1 : Nat) : Int) with | some d => Res.ok d S | none => .bad) = _
  rw [atI_nat]
  rfl
@[simp] theorem o_i2 (z : D) : opIdx (.tup (x :: y :: z :: l)) (.int 2) S = .ok z S := by
  show (match L2.atI (x :: y :: z :: l) ((2 : Nat) : Int) with | some d => Res.ok d S | none => .bad) = _
  rw [atI_nat]
  rfl
@[simp] theorem o_i3 (z u : D) : opIdx (.tup (x :: y :: z :: u :: l)) (.int 3) S = .ok u S := by
  show (match L2.atI (x :: y :: z :: u :: l) ((3 : Nat) : Int) with | some d => Res.ok d S | none => .bad) = _
  rw [atI_nat]
  rfl
theorem o_idx {i : Nat} {d : D} (h : l[i]? = some d) : opIdx (.tup l) (.int (i : Int)) S = .ok d S := by
  show (match L2.atI l (i : Int) with | some d => Res.ok d S | none => .bad) = _
  rw [atI_nat, h]
end
abbrev tI (l : List Int) : D := .tup (l.map .int)
theorem range_map (n : Nat) : (List.range n).map (fun (k : Nat) => D.int (k : Int)) = ((List.range n).map fun (k : Nat) => (k : Int)).map .int := by simp [runF, exs, ex, ev, evs, evAnd, evOr, evO, evC, evI_of, evI_range, evI_enum, evI_zip2, evI_zip3, evI_enumZip]
/-! ### books -/
theorem s_is_whole_int (n : Nat) (i : Int) (S : Store) : callN tb fl (n + 1) k_is_whole [.int i] S = .ok (.bl true) S := by
  rw [u_is_whole]
  simp [runF, exs, ex, ev, evs, evAnd, evOr, evO, evC, evI_of, evI_range, evI_enum, evI_zip2, evI_zip3, evI_enumZip, b_is_whole, opBI, isD]
theorem s_is_between (n : Nat) (a b c : Int) (S : Store) : callN tb fl (n + 2) k_is_between [.int a, .int b, .int c] S = .ok (.bl (decide (b ≤ a) && decide (a ≤ c))) S := by
  rw [u_is_between]
  simp [runF, exs, ex, ev, evs, evAnd, evOr, evO, evC, evI_of, evI_range, evI_enum, evI_zip2, evI_zip3, evI_enumZip, b_is_between, s_is_whole_int, opCmp]
  cases decide (b ≤ a) <;> rfl
theorem s_is_below (n : Nat) (a b : Int) (S : Store) : callN tb fl (n + 3) k_is_below [.int a, .int b] S = .ok (.bl (decide (0 ≤ a) && decide (a ≤ b - 1))) S := by
  rw [u_is_below]
  simp [runF, exs, ex, ev, evs, evAnd, evOr, evO, evC, evI_of, evI_range, evI_enum, evI_zip2, evI_zip3, evI_enumZip, b_is_below, s_is_between, opBin]
end K76P
set_option Elab.async false
set_option linter.all false
set_option maxRecDepth 100000
set_option autoImplicit false
set_option maxHeartbeats 2000000
/-! K13: books -/
namespace K76P
open PySem K76
theorem mapF_map {α : Type} {step : D → Store → Res (Option D)} {S : Store} (enc : α → D) (g : α → D) (l : List α) (h : ∀ a ∈ l, step (enc a) S = .ok (some (g a)) S) (hl : l.length ≤ sizeLine) : mapF step (l.map enc) [] S = .ok (l.map g) S := by
  have key : ∀ (l : List α) (acc : List D), (∀ a ∈ l, step (enc a) S = .ok (some (g a)) S) → acc.length + l.length ≤ sizeLine → mapF step (l.map enc) acc S = .ok (acc ++ l.map g) S := by
    intro l
    induction l with
    | nil => intro acc _ _; simp [runF, exs, ex, ev, evs, evAnd, evOr, evO, evC, evI_of, evI_range, evI_enum, evI_zip2, evI_zip3, evI_enumZip, mapF]
    | cons a r ih =>
      intro acc h hl
      rw [List.length_cons] at hl
      simp only [List.map_cons, mapF, h a (List.mem_cons_self ..)]
      rw [if_pos (by omega), ih (acc ++ [g a]) (fun b hb => h b (List.mem_cons_of_mem _ hb)) (by rw [List.length_append]; simp [runF, exs, ex, ev, evs, evAnd, evOr, evO, evC, evI_of, evI_range, evI_enum, evI_zip2, evI_zip3, evI_enumZip]; omega)]
      simp [runF, exs, ex, ev, evs, evAnd, evOr, evO, evC, evI_of, evI_range, evI_enum, evI_zip2, evI_zip3, evI_enumZip]
  rw [key l [] h (by simpa using hl)]
  simp [runF, exs, ex, ev, evs, evAnd, evOr, evO, evC, evI_of, evI_range, evI_enum, evI_zip2, evI_zip3, evI_enumZip]
theorem mapF_filter {α : Type} {step : D → Store → Res (Option D)} {S : Store} (enc : α → D) (p : α → Bool) (g : α → D) (l : List α) (h : ∀ a ∈ l, step (enc a) S = .ok (if p a then some (g a) else none) S) (hl : l.length ≤ sizeLine) : mapF step (l.map enc) [] S = .ok ((l.filter p).map g) S := by
  have key : ∀ (l : List α) (acc : List D), (∀ a ∈ l, step (enc a) S = .ok (if p a then some (g a) else none) S) → acc.length + l.length ≤ sizeLine → mapF step (l.map enc) acc S = .ok (acc ++ (l.filter p).map g) S := by
    intro l
    induction l with
    | nil => intro acc _ _; simp [runF, exs, ex, ev, evs, evAnd, evOr, evO, evC, evI_of, evI_range, evI_enum, evI_zip2, evI_zip3, evI_enumZip, mapF]
    | cons a r ih =>
      intro acc h hl
      rw [List.length_cons] at hl
      simp only [List.map_cons, mapF, h a (List.mem_cons_self ..)]
      cases e : p a with
      | true =>
        simp only [if_true]
        rw [if_pos (by omega), ih (acc ++ [g a]) (fun b hb => h b (List.mem_cons_of_mem _ hb)) (by rw [List.length_append]; simp [runF, exs, ex, ev, evs, evAnd, evOr, evO, evC, evI_of, evI_range, evI_enum, evI_zip2, evI_zip3, evI_enumZip]; omega), List.filter_cons_of_pos e]
        simp [runF, exs, ex, ev, evs, evAnd, evOr, evO, evC, evI_of, evI_range, evI_enum, evI_zip2, evI_zip3, evI_enumZip]
      | false =>
        simp only [Bool.false_eq_true, if_false]
        rw [ih acc (fun b hb => h b (List.mem_cons_of_mem _ hb)) (by omega), List.filter_cons_of_neg (by rw [e]; decide)]
  rw [key l [] h (by simpa using hl)]
  simp [runF, exs, ex, ev, evs, evAnd, evOr, evO, evC, evI_of, evI_range, evI_enum, evI_zip2, evI_zip3, evI_enumZip]
theorem allBls_map {α : Type} (f : α → Bool) (l : List α) : allBls (l.map fun i => D.bl (f i)) = some (l.map f) := by
  induction l with
  | nil => rfl
  | cons a r ih => simp [runF, exs, ex, ev, evs, evAnd, evOr, evO, evC, evI_of, evI_range, evI_enum, evI_zip2, evI_zip3, evI_enumZip, allBls, ih]
theorem allD_map {α : Type} (f : α → Bool) (l : List α) (S : Store) : allD (l.map fun i => D.bl (f i)) S = .ok (.bl (l.all f)) S := by
  unfold allD
  rw [allBls_map]
  simp [runF, exs, ex, ev, evs, evAnd, evOr, evO, evC, evI_of, evI_range, evI_enum, evI_zip2, evI_zip3, evI_enumZip]
theorem anyD_map {α : Type} (f : α → Bool) (l : List α) (S : Store) : anyD (l.map fun i => D.bl (f i)) S = .ok (.bl (l.any f)) S := by
  unfold anyD
  rw [allBls_map]
  simp [runF, exs, ex, ev, evs, evAnd, evOr, evO, evC, evI_of, evI_range, evI_enum, evI_zip2, evI_zip3, evI_enumZip]
/-- a book -/
structure Bk where
  steps : List Int
  links : List (List Int)
def Bk.m (b : Bk) : Nat := b.steps.length
abbrev Bk.D (b : Bk) : D := .tup [tI b.steps, .tup (b.links.map tI)]
structure LinkOk (l : List Int) (i m : Nat) : Prop where
  rng : ∀ x ∈ l, 0 ≤ x ∧ x < m
  own : (i : Int) ∈ l
  srt : ∀ k, ∀ h : k + 1 < l.length, l[k] < l[k + 1]
  len : l.length ≤ 100
structure Bk.Ok (b : Bk) : Prop where
  lens : b.links.length = b.steps.length
  m1 : 1 ≤ b.steps.length
  m4 : b.steps.length ≤ 4
  stp : ∀ x ∈ b.steps, 1 ≤ x ∧ x ≤ 12
  lnk : ∀ i l, b.links[i]? = some l → LinkOk l i b.steps.length
theorem eqf_int (a b : Int) : D.eqf (.int a) (.int b) = (a == b) := rfl
theorem flat_ints (l : List Int) : (l.map D.int).all D.flat = true := by
  induction l with
  | nil => rfl
  | cons a r ih => simp [runF, exs, ex, ev, evs, evAnd, evOr, evO, evC, evI_of, evI_range, evI_enum, evI_zip2, evI_zip3, evI_enumZip, D.flat, ih]
theorem inD_ints (i : Int) (l : List Int) : inD (.int i) (l.map .int) = decide (i ∈ l) := by
  unfold inD
  induction l with
  | nil => simp [runF, exs, ex, ev, evs, evAnd, evOr, evO, evC, evI_of, evI_range, evI_enum, evI_zip2, evI_zip3, evI_enumZip]
  | cons a r ih =>
    rw [List.map_cons, List.any_cons, ih, eqf_int]
    by_cases e : a = i
    · subst e; simp [runF, exs, ex, ev, evs, evAnd, evOr, evO, evC, evI_of, evI_range, evI_enum, evI_zip2, evI_zip3, evI_enumZip]
    · have e2 : ¬ i = a := fun z => e z.symm
      simp [runF, exs, ex, ev, evs, evAnd, evOr, evO, evC, evI_of, evI_range, evI_enum, evI_zip2, evI_zip3, evI_enumZip, e, e2]
theorem opIn_ints (neg : Bool) (i : Int) (l : List Int) (S : Store) : opIn neg (.int i) (.tup (l.map .int)) S = .ok (.bl (if neg then !decide (i ∈ l) else decide (i ∈ l))) S := by
  show (if ((D.int i).flat && (l.map D.int).all D.flat) = true then Res.ok (D.bl (if neg then !inD (.int i) (l.map .int) else inD (.int i) (l.map .int))) S else .bad) = _
  rw [flat_ints, inD_ints]
  rfl
theorem o_idxi (l : List Int) (i : Nat) (h : i < l.length) (S : Store) : opIdx (.tup (l.map .int)) (.int (i : Int)) S = .ok (.int l[i]) S := o_idx _ _ (by rw [List.getElem?_map, List.getElem?_eq_getElem h]; rfl)
theorem range_ok (k : Nat) (h : k ≤ 1000000) : (-4611686018427387904 : Int) ≤ (k : Int) ∧ (k : Int) < 4611686018427387904 := by omega
theorem s_is_links (n : Nat) (l : List Int) (i m : Nat) (S : Store) (h : LinkOk l i m) : callN tb fl (n + 4) k_is_links [tI l, .int i, .int m] S = .ok (.bl true) S := by
  rw [u_is_links]
  simp [runF, exs, ex, ev, evs, evAnd, evOr, evO, evC, evI_of, evI_range, evI_enum, evI_zip2, evI_zip3, evI_enumZip, b_is_links, tI]
  rw [mapF_map D.int (fun x => .bl (decide (0 ≤ x) && decide (x ≤ (m : Int) - 1))) l (fun x hx => by simp [runF, exs, ex, ev, evs, evAnd, evOr, evO, evC, evI_of, evI_range, evI_enum, evI_zip2, evI_zip3, evI_enumZip, s_is_below]) (by have := h.len; rw [sizeLine_eq]; omega)]
  simp [runF, exs, ex, ev, evs, evAnd, evOr, evO, evC, evI_of, evI_range, evI_enum, evI_zip2, evI_zip3, evI_enumZip, opLF]
  rw [allD_map]
  have e1 : (l.all fun x => decide (0 ≤ x) && decide (x ≤ (m : Int) - 1)) = true := by
    rw [List.all_eq_true]
    intro x hx
    have := h.rng x hx
    simp [runF, exs, ex, ev, evs, evAnd, evOr, evO, evC, evI_of, evI_range, evI_enum, evI_zip2, evI_zip3, evI_enumZip]
    omega
  rw [e1]
  simp [runF, exs, ex, ev, evs, evAnd, evOr, evO, evC, evI_of, evI_range, evI_enum, evI_zip2, evI_zip3, evI_enumZip, opIn_ints, h.own]
  have hl := h.len
  rw [rngD_ok _ (l.length - 1) _ (by have := List.length_pos_of_mem h.own; omega) (by omega)]
  simp [runF, exs, ex, ev, evs, evAnd, evOr, evO, evC, evI_of, evI_range, evI_enum, evI_zip2, evI_zip3, evI_enumZip]
  rw [mapF_map (fun k : Nat => D.int (k : Int)) (fun k => .bl true) (List.range (l.length - 1)) (fun k hk => by
    have hk := List.mem_range.mp hk
    have h1 : k + 1 < l.length := by omega
    have e3 : ((k : Int) + 1) = ((k + 1 : Nat) : Int) := by omega
    simp [runF, exs, ex, ev, evs, evAnd, evOr, evO, evC, evI_of, evI_range, evI_enum, evI_zip2, evI_zip3, evI_enumZip]
    rw [o_idxi l k (by omega)]
    simp [runF, exs, ex, ev, evs, evAnd, evOr, evO, evC, evI_of, evI_range, evI_enum, evI_zip2, evI_zip3, evI_enumZip]
    rw [e3, o_idxi l (k + 1) h1]
    simp [runF, exs, ex, ev, evs, evAnd, evOr, evO, evC, evI_of, evI_range, evI_enum, evI_zip2, evI_zip3, evI_enumZip]
    exact h.srt k h1) (by rw [List.length_range, sizeLine_eq]; omega)]
  simp [runF, exs, ex, ev, evs, evAnd, evOr, evO, evC, evI_of, evI_range, evI_enum, evI_zip2, evI_zip3, evI_enumZip]
  rw [allD_map]
  simp [runF, exs, ex, ev, evs, evAnd, evOr, evO, evC, evI_of, evI_range, evI_enum, evI_zip2, evI_zip3, evI_enumZip]
end K76P
set_option Elab.async false
set_option linter.all false
set_option maxRecDepth 100000
set_option autoImplicit false
set_option maxHeartbeats 2000000
/-! K14: made_book -/
namespace K76P
open PySem K76
theorem foldF_nx {α : Type} {step : D → Ev → Store → Res (Fl × Ev)} {S : Store} (enc : α → D) (P : Ev → Prop) : ∀ (l : List α) (ρ : Ev), (∀ a ∈ l, ∀ ρ, P ρ → ∃ ρ', step (enc a) ρ S = .ok (.nx, ρ') S ∧ P ρ') → P ρ → ∃ ρ', foldF step (l.map enc) ρ S = .ok (.nx, ρ') S ∧ P ρ'
  | [], ρ, _, hp => ⟨ρ, rfl, hp⟩
  | a :: r, ρ, h, hp => by
    obtain ⟨ρ1, e1, p1⟩ := h a (List.mem_cons_self ..) ρ hp
    obtain ⟨ρ2, e2, p2⟩ := foldF_nx enc P r ρ1 (fun b hb => h b (List.mem_cons_of_mem _ hb)) p1
    refine ⟨ρ2, ?_, p2⟩
    rw [List.map_cons]
    unfold foldF
    rw [e1]
    exact e2
theorem bind_bind {α β γ : Type} (r : Res α) (f : α → Store → Res β) (g : β → Store → Res γ) : (r.bind f).bind g = r.bind fun a S => (f a S).bind g := by
  cases r <;> rfl
theorem fold_bind {α β : Type} {step : D → Ev → Store → Res (Fl × Ev)} {S : Store} {k : Fl × Ev → Store → Res β} {R : Res β} (enc : α → D) (P : Ev → Prop) (l : List α) (ρ : Ev)
    (h : ∀ a ∈ l, ∀ ρ, P ρ → ∃ ρ', step (enc a) ρ S = .ok (.nx, ρ') S ∧ P ρ') (hp : P ρ) (hk : ∀ ρ', P ρ' → k (.nx, ρ') S = R) : (foldF step (l.map enc) ρ S).bind k = R := by
  obtain ⟨ρ', e, q⟩ := foldF_nx enc P l ρ h hp
  rw [e]
  exact hk ρ' q
theorem enumL_map : ∀ (k : Nat) (l : List D), enumL k l = (l.zipIdx k).map fun p => D.tup [.int (p.2 : Int), p.1]
  | _, [] => rfl
  | k, d :: r => by
    rw [List.zipIdx_cons, List.map_cons, ← enumL_map (k + 1) r]
    rfl
@[simp] theorem enumL_len (k : Nat) (l : List D) : (enumL k l).length = l.length := by
  rw [enumL_map]
  simp [runF, exs, ex, ev, evs, evAnd, evOr, evO, evC, evI_of, evI_range, evI_enum, evI_zip2, evI_zip3, evI_enumZip]
theorem enumL_of {α : Type} (enc : α → D) (l : List α) : enumL 0 (l.map enc) = l.zipIdx.map fun p => D.tup [.int (p.2 : Int), enc p.1] := by
  rw [enumL_map, List.zipIdx_map, List.map_map]
  rfl
theorem s_has_size (n : Nat) (b : Bk) (S : Store) (h : b.Ok) : callN tb fl (n + 1) k_has_size [b.D] S = .ok (.bl true) S := by
  rw [u_has_size]
  have h1 := h.lens
  have h2 := h.m1
  have h3 := h.m4
  have e : [tI b.steps, D.tup (b.links.map tI)] = ([tI b.steps, D.tup (b.links.map tI)] : List D).map id := by simp [runF, exs, ex, ev, evs, evAnd, evOr, evO, evC, evI_of, evI_range, evI_enum, evI_zip2, evI_zip3, evI_enumZip]
  simp [runF, exs, ex, ev, evs, evAnd, evOr, evO, evC, evI_of, evI_range, evI_enum, evI_zip2, evI_zip3, evI_enumZip, b_has_size, Bk.D]
  rw [e, mapF_map id (fun x => .bl true) _ (fun x hx => by
    simp [runF, exs, ex, ev, evs, evAnd, evOr, evO, evC, evI_of, evI_range, evI_enum, evI_zip2, evI_zip3, evI_enumZip] at hx
    rcases hx with rfl | rfl <;> simp [runF, exs, ex, ev, evs, evAnd, evOr, evO, evC, evI_of, evI_range, evI_enum, evI_zip2, evI_zip3, evI_enumZip, tI]) (by rw [sizeLine_eq]; simp [runF, exs, ex, ev, evs, evAnd, evOr, evO, evC, evI_of, evI_range, evI_enum, evI_zip2, evI_zip3, evI_enumZip])]
  have d1 : (1 : Int) ≤ b.steps.length := by omega
  have d2 : (b.steps.length : Int) ≤ 6 := by omega
  simp [runF, exs, ex, ev, evs, evAnd, evOr, evO, evC, evI_of, evI_range, evI_enum, evI_zip2, evI_zip3, evI_enumZip, opLF, allD, allBls, tI, h1, d1, d2]
theorem s_wrong_entry (n : Nat) (b : Bk) (S : Store) (h : b.Ok) : callN tb fl (n + 5) k_wrong_entry [b.D] S = .ok .non S := by
  rw [u_wrong_entry]
  have h1 := h.lens
  have h2 := h.m1
  have h3 := h.m4
  simp [runF, exs, ex, ev, evs, evAnd, evOr, evO, evC, evI_of, evI_range, evI_enum, evI_zip2, evI_zip3, evI_enumZip, b_wrong_entry, Bk.D, tI]
  rw [enumL_of]
  simp only [bind_bind]
  refine fold_bind _ (fun ρ => ∃ x y : Option D, ρ = [some (D.tup [D.tup (List.map D.int b.steps), D.tup (List.map tI b.links)]), some (D.tup (List.map D.int b.steps)), some (D.tup (List.map tI b.links)), x, y, none]) _ _ (fun p hp ρ hρ => ?_) ⟨none, none, rfl⟩ (fun ρ hρ => ?_)
  · obtain ⟨x, y, rfl⟩ := hρ
    have hm := h.stp p.1 (List.mem_of_getElem? (List.mem_zipIdx_iff_getElem?.mp hp))
    have d1 : p.1 ≤ 60 := by omega
    refine ⟨_, ?_, some (.int (p.2 : Int)), some (.int p.1), rfl⟩
    simp [runF, exs, ex, ev, evs, evAnd, evOr, evO, evC, evI_of, evI_range, evI_enum, evI_zip2, evI_zip3, evI_enumZip, s_is_between, hm.1, d1]
  · obtain ⟨x, y, rfl⟩ := hρ
    simp [runF, exs, ex, ev, evs, evAnd, evOr, evO, evC, evI_of, evI_range, evI_enum, evI_zip2, evI_zip3, evI_enumZip]
    rw [enumL_of]
    simp only [bind_bind]
    refine fold_bind _ (fun ρ => ∃ x y z : Option D, ρ = [some (D.tup [D.tup (List.map D.int b.steps), D.tup (List.map tI b.links)]), some (D.tup (List.map D.int b.steps)), some (D.tup (List.map tI b.links)), x, y, z]) _ _ (fun p hp ρ hρ => ?_) ⟨_, _, _, rfl⟩ (fun ρ hρ => ?_)
    · obtain ⟨x, y, z, rfl⟩ := hρ
      have hm := h.lnk p.2 p.1 (List.mem_zipIdx_iff_getElem?.mp hp)
      refine ⟨_, ?_, some (.int (p.2 : Int)), y, some (tI p.1), rfl⟩
      have q := s_is_links n p.1 p.2 b.steps.length S hm
      simp [runF, exs, ex, ev, evs, evAnd, evOr, evO, evC, evI_of, evI_range, evI_enum, evI_zip2, evI_zip3, evI_enumZip, q]
    · obtain ⟨x, y, z, rfl⟩ := hρ
      simp [runF, exs, ex, ev, evs, evAnd, evOr, evO, evC, evI_of, evI_range, evI_enum, evI_zip2, evI_zip3, evI_enumZip]
theorem s_made_book (n : Nat) (b : Bk) (S : Store) (h : b.Ok) : callN tb fl (n + 6) k_made_book [b.D] S = .ok b.D S := by
  rw [u_made_book]
  simp [runF, exs, ex, ev, evs, evAnd, evOr, evO, evC, evI_of, evI_range, evI_enum, evI_zip2, evI_zip3, evI_enumZip, b_made_book, s_has_size _ b S h, s_wrong_entry n b S h]
theorem s_many_parts (n : Nat) (b : Bk) (S : Store) : callN tb fl (n + 1) k_many_parts [b.D] S = .ok (.int b.steps.length) S := by
  rw [u_many_parts]
  simp [runF, exs, ex, ev, evs, evAnd, evOr, evO, evC, evI_of, evI_range, evI_enum, evI_zip2, evI_zip3, evI_enumZip, b_many_parts, Bk.D, tI]
theorem s_is_part_books (n : Nat) (b : Bk) (i : Int) (S : Store) : callN tb fl (n + 4) k_is_part_books [b.D, .int i] S = .ok (.bl (decide (0 ≤ i) && decide (i ≤ (b.steps.length : Int) - 1))) S := by
  rw [u_is_part_books]
  simp [runF, exs, ex, ev, evs, evAnd, evOr, evO, evC, evI_of, evI_range, evI_enum, evI_zip2, evI_zip3, evI_enumZip, b_is_part_books, s_many_parts, s_is_below]
end K76P
set_option Elab.async false
set_option linter.all false
set_option maxRecDepth 100000
set_option autoImplicit false
set_option maxHeartbeats 2000000
/-! K15: divisor, fractions -/
namespace K76P
open PySem K76
def gcdL : Nat → Int → Int → Int
  | 0, a, _ => a
  | k + 1, a, b => if 0 < b then gcdL k b (a % b) else a
theorem gcdL_pos : ∀ (k : Nat) (a b : Int), 0 < b → b.toNat < k → 0 < gcdL k a b ∧ gcdL k a b ≤ b
  | 0, a, b, h, hk => by omega
  | k + 1, a, b, h, hk => by
    unfold gcdL
    rw [if_pos h]
    have h1 := Int.emod_nonneg a (show b ≠ 0 by omega)
    have h2 := Int.emod_lt_of_pos a h
    by_cases z : a % b = 0
    · rw [z]
      cases k with
      | zero => exact ⟨h, Int.le_refl _⟩
      | succ k =>
        unfold gcdL
        rw [if_neg (by omega)]
        exact ⟨h, Int.le_refl _⟩
    · obtain ⟨q1, q2⟩ := gcdL_pos k b (a % b) (by omega) (by omega)
      exact ⟨q1, by omega⟩
theorem gcd_loop (c : Ev → Store → Res D) (bd : Ev → Store → Res (Fl × Ev)) (S : Store) (hc : ∀ a b : Int, c [some (.int a), some (.int b)] S = .ok (.bl (decide (0 < b))) S)
    (hb : ∀ a b : Int, 0 < b → bd [some (.int a), some (.int b)] S = .ok (.nx, [some (.int b), some (.int (a % b))]) S) :
    ∀ (k : Nat) (a b : Int), b.toNat < k → ∃ b', whileL c bd k [some (.int a), some (.int b)] S = .ok (.nx, [some (.int (gcdL k a b)), b']) S
  | 0, a, b, h => by omega
  | k + 1, a, b, h => by
    unfold whileL gcdL
    rw [hc]
    by_cases z : 0 < b
    · have h1 := Int.emod_nonneg a (show b ≠ 0 by omega)
      have h2 := Int.emod_lt_of_pos a z
      rw [decide_eq_true z, if_pos z]
      simp [runF, exs, ex, ev, evs, evAnd, evOr, evO, evC, evI_of, evI_range, evI_enum, evI_zip2, evI_zip3, evI_enumZip, hb a b z]
      exact gcd_loop c bd S hc hb k b (a % b) (by omega)
    · rw [decide_eq_false z, if_neg z]
      exact ⟨_, rfl⟩
theorem gcd_bind {β : Type} {c : Ev → Store → Res D} {bd : Ev → Store → Res (Fl × Ev)} {S : Store} {a b : Int} {k : Fl × Ev → Store → Res β} {R : Res β} (h : b.toNat < 200) (hc : ∀ a b : Int, c [some (.int a), some (.int b)] S = .ok (.bl (decide (0 < b))) S)
    (hb : ∀ a b : Int, 0 < b → bd [some (.int a), some (.int b)] S = .ok (.nx, [some (.int b), some (.int (a % b))]) S) (hk : ∀ b', k (.nx, [some (.int (gcdL 200 a b)), b']) S = R) : (whileL c bd 200 [some (.int a), some (.int b)] S).bind k = R := by
  obtain ⟨b', e⟩ := gcd_loop c bd S hc hb 200 a b h
  rw [e]
  exact hk b'
theorem s_divisor (n : Nat) (a b : Int) (S : Store) (h : b.toNat < 200) : callN tb fl (n + 1) k_divisor [.int a, .int b] S = .ok (.int (gcdL 200 a b)) S := by
  rw [u_divisor]
  simp [runF, exs, ex, ev, evs, evAnd, evOr, evO, evC, evI_of, evI_range, evI_enum, evI_zip2, evI_zip3, evI_enumZip, b_divisor]
  simp only [bind_bind]
  refine gcd_bind h ?_ ?_ ?_
  · intro a b
    simp [runF, exs, ex, ev, evs, evAnd, evOr, evO, evC, evI_of, evI_range, evI_enum, evI_zip2, evI_zip3, evI_enumZip]
  · intro a b hb
    simp [runF, exs, ex, ev, evs, evAnd, evOr, evO, evC, evI_of, evI_range, evI_enum, evI_zip2, evI_zip3, evI_enumZip, o_mod _ _ _ hb, setAll]
  · intro b'
    simp [runF, exs, ex, ev, evs, evAnd, evOr, evO, evC, evI_of, evI_range, evI_enum, evI_zip2, evI_zip3, evI_enumZip]
theorem s__law_divisor (n : Nat) (a b : Int) (S : Store) (h : b.toNat < 200) : callN tb fl (n + 1) k__law_divisor [.int a, .int b] S = .ok (.int (gcdL 200 a b)) S := by
  rw [u__law_divisor]
  simp [runF, exs, ex, ev, evs, evAnd, evOr, evO, evC, evI_of, evI_range, evI_enum, evI_zip2, evI_zip3, evI_enumZip, b__law_divisor]
  simp only [bind_bind]
  refine gcd_bind h ?_ ?_ ?_
  · intro a b
    simp [runF, exs, ex, ev, evs, evAnd, evOr, evO, evC, evI_of, evI_range, evI_enum, evI_zip2, evI_zip3, evI_enumZip]
  · intro a b hb
    simp [runF, exs, ex, ev, evs, evAnd, evOr, evO, evC, evI_of, evI_range, evI_enum, evI_zip2, evI_zip3, evI_enumZip, o_mod _ _ _ hb, setAll]
  · intro b'
    simp [runF, exs, ex, ev, evs, evAnd, evOr, evO, evC, evI_of, evI_range, evI_enum, evI_zip2, evI_zip3, evI_enumZip]
end K76P
set_option Elab.async false
set_option linter.all false
set_option maxRecDepth 100000
set_option autoImplicit false
set_option maxHeartbeats 2000000
/-! K16: fractions as text -/
namespace K76P
open PySem K76
abbrev tS (i : Int) : Str := Str.ofString (toString i)
def fracT (u l : Int) : Str := if l / gcdL 200 (if u < 0 then -u else u) l = 1 then tS (u / gcdL 200 (if u < 0 then -u else u) l) else tS (u / gcdL 200 (if u < 0 then -u else u) l) ++ ("/" : Str) ++ tS (l / gcdL 200 (if u < 0 then -u else u) l)
theorem tS_len (i : Int) (h : i.natAbs < 10 ^ 9) : (tS i).length ≤ 10 := by
  unfold tS
  rw [PyProof.Rows.ofString_len]
  cases i with
  | ofNat m =>
    show (Nat.repr m).length ≤ 10
    exact Nat.le_trans ((Nat.length_repr_le_iff (n := m) (by decide : 0 < 9)).mpr h) (by decide)
  | negSucc m =>
    have h2 : m + 1 < 10 ^ 9 := h
    show ("-" ++ Nat.repr (m + 1)).length ≤ 10
    rw [String.length_append]
    have := (Nat.length_repr_le_iff (n := m + 1) (by decide : 0 < 9)).mpr h2
    show 1 + _ ≤ 10
    omega
theorem o_str (i : Int) (S : Store) (h : i.natAbs < 10 ^ 9) : opBI .str1 [.int i] S = .ok (.str (tS i)) S := by
  refine if_pos ?_
  have h2 : i.natAbs.log2 < 1920 := by
    by_cases z : i.natAbs = 0
    · rw [z]; decide
    · exact (Nat.log2_lt z).mpr (Nat.lt_of_lt_of_le h (by decide +kernel))
  exact h2
theorem abs_div_le (u c : Int) (hc : 0 < c) : (u / c).natAbs ≤ u.natAbs := Int.natAbs_ediv_le_natAbs u c
theorem s_number_text (n : Nat) (u l : Int) (S : Store) (h1 : 1 ≤ l) (h2 : l < 200) (hu : u.natAbs < 10 ^ 8) : callN tb fl (n + 2) k_number_text [.int u, .int l] S = .ok (.str (fracT u l)) S := by
  rw [u_number_text]
  obtain ⟨g1, g2⟩ := gcdL_pos 200 (if u < 0 then -u else u) l (by omega) (by omega)
  have q1 := abs_div_le u _ g1
  have q2 := abs_div_le l _ g1
  simp [runF, exs, ex, ev, evs, evAnd, evOr, evO, evC, evI_of, evI_range, evI_enum, evI_zip2, evI_zip3, evI_enumZip, b_number_text, s_divisor n _ l _ (show l.toNat < 200 by omega)]
  unfold fracT
  generalize gcdL 200 (if u < 0 then -u else u) l = c at *
  have b1 : (u / c).natAbs < 10 ^ 9 := by omega
  have b2 : (l / c).natAbs < 10 ^ 9 := by omega
  simp [runF, exs, ex, ev, evs, evAnd, evOr, evO, evC, evI_of, evI_range, evI_enum, evI_zip2, evI_zip3, evI_enumZip, o_fdiv _ _ _ (show 0 < c ∧ c < 1073741824 by omega), setAll]
  by_cases z : l / c = 1
  · simp [runF, exs, ex, ev, evs, evAnd, evOr, evO, evC, evI_of, evI_range, evI_enum, evI_zip2, evI_zip3, evI_enumZip, z, o_str _ _ b1]
  · have t1 := tS_len _ b1
    have t2 := tS_len _ b2
    have t3 : (("/" : Str)).length = 1 := rfl
    simp [runF, exs, ex, ev, evs, evAnd, evOr, evO, evC, evI_of, evI_range, evI_enum, evI_zip2, evI_zip3, evI_enumZip, z, o_str _ _ b1, o_str _ _ b2]
    rw [o_adds _ _ _ (by rw [sizeLine_eq]; omega)]
    simp [runF, exs, ex, ev, evs, evAnd, evOr, evO, evC, evI_of, evI_range, evI_enum, evI_zip2, evI_zip3, evI_enumZip]
    rw [o_adds _ _ _ (by rw [Str.length_append, sizeLine_eq]; omega)]
    simp [runF, exs, ex, ev, evs, evAnd, evOr, evO, evC, evI_of, evI_range, evI_enum, evI_zip2, evI_zip3, evI_enumZip]
theorem s__law_fraction (n : Nat) (u l : Int) (S : Store) (h1 : 1 ≤ l) (h2 : l < 200) (hu : u.natAbs < 10 ^ 8) : callN tb fl (n + 2) k__law_fraction [.int u, .int l] S = .ok (.str (fracT u l)) S := by
  rw [u__law_fraction]
  obtain ⟨g1, g2⟩ := gcdL_pos 200 (if u < 0 then -u else u) l (by omega) (by omega)
  have q1 := abs_div_le u _ g1
  have q2 := abs_div_le l _ g1
  simp [runF, exs, ex, ev, evs, evAnd, evOr, evO, evC, evI_of, evI_range, evI_enum, evI_zip2, evI_zip3, evI_enumZip, b__law_fraction, s__law_divisor n _ l _ (show l.toNat < 200 by omega)]
  unfold fracT
  generalize gcdL 200 (if u < 0 then -u else u) l = c at *
  have b1 : (u / c).natAbs < 10 ^ 9 := by omega
  have b2 : (l / c).natAbs < 10 ^ 9 := by omega
  simp [runF, exs, ex, ev, evs, evAnd, evOr, evO, evC, evI_of, evI_range, evI_enum, evI_zip2, evI_zip3, evI_enumZip, o_fdiv _ _ _ (show 0 < c ∧ c < 1073741824 by omega), setAll]
  by_cases z : l / c = 1
  · simp [runF, exs, ex, ev, evs, evAnd, evOr, evO, evC, evI_of, evI_range, evI_enum, evI_zip2, evI_zip3, evI_enumZip, z, o_str _ _ b1]
  · have t1 := tS_len _ b1
    have t2 := tS_len _ b2
    have t3 : (("/" : Str)).length = 1 := rfl
    simp [runF, exs, ex, ev, evs, evAnd, evOr, evO, evC, evI_of, evI_range, evI_enum, evI_zip2, evI_zip3, evI_enumZip, z, o_str _ _ b1, o_str _ _ b2]
    rw [o_adds _ _ _ (by rw [sizeLine_eq]; omega)]
    simp [runF, exs, ex, ev, evs, evAnd, evOr, evO, evC, evI_of, evI_range, evI_enum, evI_zip2, evI_zip3, evI_enumZip]
    rw [o_adds _ _ _ (by rw [Str.length_append, sizeLine_eq]; omega)]
    simp [runF, exs, ex, ev, evs, evAnd, evOr, evO, evC, evI_of, evI_range, evI_enum, evI_zip2, evI_zip3, evI_enumZip]
end K76P
set_option Elab.async false
set_option linter.all false
set_option maxRecDepth 100000
set_option autoImplicit false
set_option maxHeartbeats 2000000
/-! K17: the texts of a figure -/
namespace K76P
open PySem K76
theorem fracT_len (u l : Int) (h1 : 1 ≤ l) (h2 : l < 200) (hu : u.natAbs < 10 ^ 8) : (fracT u l).length ≤ 21 := by
  obtain ⟨g1, g2⟩ := gcdL_pos 200 (if u < 0 then -u else u) l (by omega) (by omega)
  have q1 := abs_div_le u _ g1
  have q2 := abs_div_le l _ g1
  unfold fracT
  generalize gcdL 200 (if u < 0 then -u else u) l = c at *
  have t1 := tS_len (u / c) (by omega)
  have t2 := tS_len (l / c) (by omega)
  have t3 : (("/" : Str)).length = 1 := rfl
  by_cases z : l / c = 1
  · rw [if_pos z]; omega
  · rw [if_neg z, Str.length_append, Str.length_append]; omega
def figT (name : Str) (shown truth steps : Int) : Str := name ++ (" shown " : Str) ++ tS shown ++ (" true " : Str) ++ fracT truth steps ++ (" off " : Str) ++ fracT (shown * steps - truth) steps
theorem o_addl (u v : Str) (S : Store) (a b : Nat) (hu : u.length ≤ a) (hv : v.length ≤ b) (h : a + b ≤ 16777216) : opBin .add (.str u) (.str v) S = .ok (.str (u ++ v)) S := o_adds _ _ _ (by rw [sizeLine_eq]; omega)
theorem app_len (u v : Str) (a b : Nat) (hu : u.length ≤ a) (hv : v.length ≤ b) : (u ++ v).length ≤ a + b := by
  rw [Str.length_append]
  omega
theorem s_figure_text (n : Nat) (name : Str) (sh tr st : Int) (S : Store) (hn : name.length ≤ 100) (h1 : 1 ≤ st) (h2 : st < 200) (hs : sh.natAbs < 10 ^ 5) (ht : tr.natAbs < 10 ^ 7) :
    callN tb fl (n + 3) k_figure_text [.str name, .int sh, .int tr, .int st] S = .ok (.str (figT name sh tr st)) S := by
  rw [u_figure_text]
  have hp : (sh * st).natAbs ≤ 10 ^ 5 * 200 := by
    rw [Int.natAbs_mul]
    exact Nat.mul_le_mul (by omega) (by omega)
  have hd : (sh * st - tr).natAbs < 10 ^ 8 := by omega
  have l0 := hn
  have l1 : ((" shown " : Str)).length ≤ 7 := by decide +kernel
  have l2 := tS_len sh (by omega)
  have l3 : ((" true " : Str)).length ≤ 6 := by decide +kernel
  have l4 := fracT_len tr st h1 h2 (by omega)
  have l5 : ((" off " : Str)).length ≤ 5 := by decide +kernel
  have l6 := fracT_len (sh * st - tr) st h1 h2 hd
  have m1 := app_len _ _ _ _ l0 l1
  have m2 := app_len _ _ _ _ m1 l2
  have m3 := app_len _ _ _ _ m2 l3
  have m4 := app_len _ _ _ _ m3 l4
  have m5 := app_len _ _ _ _ m4 l5
  simp [runF, exs, ex, ev, evs, evAnd, evOr, evO, evC, evI_of, evI_range, evI_enum, evI_zip2, evI_zip3, evI_enumZip, b_figure_text, s_number_text n tr st _ h1 h2 (by omega), s_number_text n (sh * st - tr) st _ h1 h2 hd, o_str sh _ (show sh.natAbs < 10 ^ 9 by omega), o_mul sh st _ (by omega), o_addl _ _ _ _ _ l0 l1, o_addl _ _ _ _ _ m1 l2, o_addl _ _ _ _ _ m2 l3, o_addl _ _ _ _ _ m3 l4, o_addl _ _ _ _ _ m4 l5, o_addl _ _ _ _ _ m5 l6, figT]
end K76P
set_option Elab.async false
set_option linter.all false
set_option maxRecDepth 100000
set_option autoImplicit false
set_option maxHeartbeats 2000000
/-! K18: weighted sums, strays -/
namespace K76P
open PySem K76
theorem zip2L_map : ∀ (l k : List Int), zip2L (l.map .int) (k.map .int) = (l.zip k).map fun p => D.tup [.int p.1, .int p.2]
  | [], _ => rfl
  | _ :: _, [] => rfl
  | a :: l, b :: k => by
    show D.tup [.int a, .int b] :: zip2L (l.map .int) (k.map .int) = _
    rw [zip2L_map l k]
    rfl
theorem zip3L_map : ∀ (l k j : List Int), zip3L (l.map .int) (k.map .int) (j.map .int) = (l.zip (k.zip j)).map fun p => D.tup [.int p.1, .int p.2.1, .int p.2.2]
  | [], _, _ => rfl
  | _ :: _, [], _ => rfl
  | _ :: _, _ :: _, [] => rfl
  | a :: l, b :: k, c :: j => by
    show D.tup [.int a, .int b, .int c] :: zip3L (l.map .int) (k.map .int) (j.map .int) = _
    rw [zip3L_map l k j]
    rfl
theorem allInts_map {α : Type} (f : α → Int) (l : List α) : allInts (l.map fun i => D.int (f i)) = some (l.map f) := by
  induction l with
  | nil => rfl
  | cons a r ih => simp [runF, exs, ex, ev, evs, evAnd, evOr, evO, evC, evI_of, evI_range, evI_enum, evI_zip2, evI_zip3, evI_enumZip, allInts, ih]
theorem sumD_map {α : Type} (f : α → Int) (l : List α) (S : Store) : sumD (l.map fun i => D.int (f i)) S = .ok (.int (l.map f).sum) S := by
  unfold sumD
  rw [allInts_map]
def wsum (l k : List Int) : Int := ((l.zip k).map fun p => p.1 * p.2).sum
theorem s_weighted (n : Nat) (l k : List Int) (S : Store) (hl : l.length ≤ 1000) (h : ∀ x ∈ l, -(2 ^ 64) < x ∧ x < 2 ^ 64) : callN tb fl (n + 1) k_weighted [tI l, tI k] S = .ok (.int (wsum l k)) S := by
  rw [u_weighted]
  simp [runF, exs, ex, ev, evs, evAnd, evOr, evO, evC, evI_of, evI_range, evI_enum, evI_zip2, evI_zip3, evI_enumZip, b_weighted, tI]
  rw [zip2L_map]
  rw [mapF_map (fun p : Int × Int => D.tup [.int p.1, .int p.2]) (fun p => D.int (p.1 * p.2)) (l.zip k) (fun p hp => by
    have q := h p.1 (List.of_mem_zip hp).1
    simp [runF, exs, ex, ev, evs, evAnd, evOr, evO, evC, evI_of, evI_range, evI_enum, evI_zip2, evI_zip3, evI_enumZip, o_mul _ _ _ q]) (by rw [List.length_zip, sizeLine_eq]; omega)]
  simp [runF, exs, ex, ev, evs, evAnd, evOr, evO, evC, evI_of, evI_range, evI_enum, evI_zip2, evI_zip3, evI_enumZip, opLF]
  rw [sumD_map]
  rfl
end K76P
set_option Elab.async false
set_option linter.all false
set_option maxRecDepth 100000
set_option autoImplicit false
set_option maxHeartbeats 2000000
/-! K19: strays -/
namespace K76P
open PySem K76
abbrev stD (tr sh : List Int) : D := .tup [tI tr, tI sh]
def strays (st tr sh : List Int) : List Int := (tr.zip (sh.zip st)).map fun p => p.2.1 * p.2.2 - p.1
theorem s_strays_of (n : Nat) (b : Bk) (tr sh : List Int) (S : Store) (hb : b.Ok) : callN tb fl (n + 1) k_strays_of [b.D, stD tr sh] S = .ok (tI (strays b.steps tr sh)) S := by
  rw [u_strays_of]
  simp [runF, exs, ex, ev, evs, evAnd, evOr, evO, evC, evI_of, evI_range, evI_enum, evI_zip2, evI_zip3, evI_enumZip, b_strays_of, tI, Bk.D, stD]
  rw [zip3L_map]
  rw [mapF_map (fun p : Int × Int × Int => D.tup [.int p.1, .int p.2.1, .int p.2.2]) (fun p => D.int (p.2.1 * p.2.2 - p.1)) (tr.zip (sh.zip b.steps)) (fun p hp => by
    have q := hb.stp p.2.2 (List.of_mem_zip (List.of_mem_zip hp).2).2
    simp [runF, exs, ex, ev, evs, evAnd, evOr, evO, evC, evI_of, evI_range, evI_enum, evI_zip2, evI_zip3, evI_enumZip, o_mul2 _ _ _ (show -(2 ^ 64) < p.2.2 ∧ p.2.2 < 2 ^ 64 by omega)]) (by have := hb.m4; simp only [List.length_zip]; rw [sizeLine_eq]; omega)]
  simp [runF, exs, ex, ev, evs, evAnd, evOr, evO, evC, evI_of, evI_range, evI_enum, evI_zip2, evI_zip3, evI_enumZip, opLF, strays]
theorem s_stray_of (n : Nat) (b : Bk) (l tr sh : List Int) (S : Store) (hb : b.Ok) (hl : l.length ≤ 1000) (h : ∀ x ∈ l, -(2 ^ 64) < x ∧ x < 2 ^ 64) : callN tb fl (n + 2) k_stray_of [b.D, tI l, stD tr sh] S = .ok (.int (wsum l (strays b.steps tr sh))) S := by
  rw [u_stray_of]
  simp [runF, exs, ex, ev, evs, evAnd, evOr, evO, evC, evI_of, evI_range, evI_enum, evI_zip2, evI_zip3, evI_enumZip, b_stray_of, tI, s_strays_of n b tr sh S hb]
  rw [zip2L_map]
  rw [mapF_map (fun p : Int × Int => D.tup [.int p.1, .int p.2]) (fun p => D.int (p.1 * p.2)) (l.zip (strays b.steps tr sh)) (fun p hp => by
    have q := h p.1 (List.of_mem_zip hp).1
    simp [runF, exs, ex, ev, evs, evAnd, evOr, evO, evC, evI_of, evI_range, evI_enum, evI_zip2, evI_zip3, evI_enumZip, o_mul _ _ _ q]) (by rw [List.length_zip, sizeLine_eq]; omega)]
  simp [runF, exs, ex, ev, evs, evAnd, evOr, evO, evC, evI_of, evI_range, evI_enum, evI_zip2, evI_zip3, evI_enumZip, opLF]
  rw [sumD_map]
  rfl
end K76P
set_option Elab.async false
set_option linter.all false
set_option maxRecDepth 100000
set_option autoImplicit false
set_option maxHeartbeats 2000000
/-! P1: what a run reaches, what of the store stays, loops with a store -/
namespace K76P
open PySem K76
@[simp] theorem bind_exc {α β : Type} (c : Nat) (d : D) (S : Store) (k : α → Store → Res β) : (Res.exc c d S).bind k = .exc c d S := rfl
@[simp] theorem bind_bad {α β : Type} (k : α → Store → Res β) : (Res.bad : Res α).bind k = .bad := rfl
/-- what follows is hidden from simp till it is asked for: its tag's type tells it, so no rule is used within -/
inductive Tg {α : Type} (a : α) : Type where
  | mk
def hide {α : Type} (a : α) (_ : Tg a) : α := a
section
variable {α β γ δ : Type}
@[simp] theorem hide2 (k : α → β → γ) (t : Tg k) (a : α) (b : β) : hide k t a b = k a b := rfl
@[simp] theorem hide3 (k : α → β → γ → δ) (t : Tg k) (a : α) (b : β) (c : γ) : hide k t a b c = k a b c := rfl
@[simp] theorem hide2p (k : α → β → Prop) (t : Tg k) (a : α) (b : β) : hide k t a b = k a b := rfl
@[simp] theorem bind_re (r : Res α) (f : α → Store → Res β) (k : β → Store → Res γ) (t : Tg f) (u : Tg k) : (r.bind (hide f t)).bind (hide k u) = r.bind (hide (fun a S => (f a S).bind (hide k .mk)) .mk) := by
  cases r <;> rfl
end
section
variable (tb : Tb) (call : Nat → List D → Store → Res D) (ρ : Ev) (S : Store)
theorem h_runF (n : Nat) (b : CB) (args : List D) : runF tb call n b args S = (exs tb call b (args.map some ++ List.replicate (n - args.length) none) S).bind (hide (fun x S1 => match x with
  | (.nx, _) => .ok .non S1
  | (.rt d, _) => .ok d S1) .mk) := rfl
section
variable (i : Nat) (v : Int) (w : Nat) (q : Bool) (op : Bop) (a b c : CE) (cop o1 o2 : Cop) (l : CEs) (lo hi : CO) (f k : Nat) (bi : BI) (t : CT) (it : CI) (cond : CO) (own : List Nat) (lf : LF)
@[simp] theorem h_var : ev tb call (.var i) ρ S = (match ρ[i]? with
    | some (some d) => .ok d S
    | _ => .bad) := rfl
@[simp] theorem h_int : ev tb call (.int v) ρ S = .ok (.int v) S := rfl
@[simp] theorem h_str : ev tb call (.str w) ρ S = .ok (.str (tb.w w)) S := rfl
@[simp] theorem h_bl : ev tb call (.bl q) ρ S = .ok (.bl q) S := rfl
@[simp] theorem h_non : ev tb call .non ρ S = .ok .non S := rfl
@[simp] theorem h_glob : ev tb call (.glob k) ρ S = .ok (tb.glob k) S := rfl
@[simp] theorem h_bin : ev tb call (.bin op a b) ρ S = (ev tb call a ρ S).bind (hide (fun x S1 => (ev tb call b ρ S1).bind (hide (fun y S2 => opBin op x y S2) .mk)) .mk) := rfl
@[simp] theorem h_neg : ev tb call (.neg a) ρ S = (ev tb call a ρ S).bind (hide (fun x S1 => match x with
    | .int i => .ok (.int (-i)) S1
    | _ => .bad) .mk) := rfl
@[simp] theorem h_cmp : ev tb call (.cmp cop a b) ρ S = (ev tb call a ρ S).bind (hide (fun x S1 => (ev tb call b ρ S1).bind (hide (fun y S2 => opCmp cop x y S2) .mk)) .mk) := rfl
@[simp] theorem h_chain : ev tb call (.chain o1 o2 a b c) ρ S = (ev tb call a ρ S).bind (hide (fun x S1 => (ev tb call b ρ S1).bind (hide (fun y S2 => (opCmp o1 x y S2).bind (hide (asB fun t S3 => match t with
    | true => (ev tb call c ρ S3).bind (hide (fun z S4 => opCmp o2 y z S4) .mk)
    | false => .ok (.bl false) S3) .mk)) .mk)) .mk) := rfl
@[simp] theorem h_eqNil : ev tb call (.eqNil q a) ρ S = (ev tb call a ρ S).bind (hide (fun x S1 => opEqNil q x S1) .mk) := rfl
@[simp] theorem h_and : ev tb call (.and l) ρ S = evAnd tb call l ρ S := rfl
@[simp] theorem h_or : ev tb call (.or l) ρ S = evOr tb call l ρ S := rfl
@[simp] theorem h_not : ev tb call (.not a) ρ S = (ev tb call a ρ S).bind (hide (asB fun t S1 => .ok (.bl !t) S1) .mk) := rfl
@[simp] theorem h_ite : ev tb call (.ite c a b) ρ S = (ev tb call c ρ S).bind (hide (asB fun t S1 => match t with
    | true => ev tb call a ρ S1
    | false => ev tb call b ρ S1) .mk) := rfl
@[simp] theorem h_tup : ev tb call (.tup l) ρ S = (evs tb call l ρ S).bind (hide (fun xs S1 => if xs.length ≤ sizeLine then .ok (.tup xs) S1 else .bad) .mk) := rfl
@[simp] theorem h_lst : ev tb call (.lst l) ρ S = (evs tb call l ρ S).bind (hide (fun xs S1 => if xs.length ≤ sizeLine then .ok (.ref S1.length) (S1 ++ [.lst xs]) else .bad) .mk) := rfl
@[simp] theorem h_idx : ev tb call (.idx a b) ρ S = (ev tb call a ρ S).bind (hide (fun x S1 => (ev tb call b ρ S1).bind (hide (fun y S2 => opIdx x y S2) .mk)) .mk) := rfl
@[simp] theorem h_slc : ev tb call (.slc a lo hi) ρ S = (ev tb call a ρ S).bind (hide (fun x S1 => (evO tb call lo ρ S1).bind (hide (fun l S2 => (evO tb call hi ρ S2).bind (hide (fun h S3 => opSlc x l h S3) .mk)) .mk)) .mk) := rfl
@[simp] theorem h_attr : ev tb call (.attr a f) ρ S = (ev tb call a ρ S).bind (hide (fun x S1 => opAttr tb.dat x f S1) .mk) := rfl
@[simp] theorem h_call : ev tb call (.call k l) ρ S = (evs tb call l ρ S).bind (hide (fun xs S1 => call k xs S1) .mk) := rfl
@[simp] theorem h_make : ev tb call (.make k l) ρ S = (evs tb call l ρ S).bind (hide (fun xs S1 => (call (tb.init k) (.ref S1.length :: xs) (S1 ++ [.ins k []])).bind (hide (fun r S2 => match r with
    | .non => .ok (.ref S1.length) S2
    | _ => .bad) .mk)) .mk) := rfl
@[simp] theorem h_meth : ev tb call (.meth a f l) ρ S = (ev tb call a ρ S).bind (hide (fun x S1 => match x with
    | .ref i => (match S1[i]? with
      | some (.ins C fs) => (match fs.lookup f, tb.meth C f with
        | none, some k => (evs tb call l ρ S1).bind (hide (fun xs S2 => call k (.ref i :: xs) S2) .mk)
        | _, _ => .bad)
      | _ => .bad)
    | _ => .bad) .mk) := rfl
@[simp] theorem h_bi : ev tb call (.bi bi l) ρ S = (evs tb call l ρ S).bind (hide (fun xs S1 => opBI bi xs S1) .mk) := rfl
@[simp] theorem h_app : ev tb call (.app a b) ρ S = (ev tb call a ρ S).bind (hide (fun y S1 => match y with
    | .ref i => (match S1[i]? with
      | some (.lst _) => (ev tb call b ρ S1).bind (hide (fun z S2 => opApp (.ref i) z S2) .mk)
      | _ => .bad)
    | _ => .bad) .mk) := rfl
@[simp] theorem h_ext : ev tb call (.ext a b) ρ S = (ev tb call a ρ S).bind (hide (fun y S1 => match y with
    | .ref i => (match S1[i]? with
      | some (.lst _) => (ev tb call b ρ S1).bind (hide (fun z S2 => opExt (.ref i) z S2) .mk)
      | _ => .bad)
    | _ => .bad) .mk) := rfl
@[simp] theorem h_pop : ev tb call (.pop a b) ρ S = (ev tb call a ρ S).bind (hide (fun y S1 => match y with
    | .ref i => (match S1[i]? with
      | some (.lst _) => (ev tb call b ρ S1).bind (hide (fun z S2 => opPop (.ref i) z S2) .mk)
      | _ => .bad)
    | _ => .bad) .mk) := rfl
@[simp] theorem h_index : ev tb call (.index a b) ρ S = (ev tb call a ρ S).bind (hide (fun y S1 => match y with
    | .tupx l => (ev tb call b ρ S1).bind (hide (fun z S2 => opIndex (.tupx l) z S2) .mk)
    | _ => .bad) .mk) := rfl
@[simp] theorem h_lc : ev tb call (.lc a t it cond own) ρ S = ((evI tb call it ρ S).bind (hide (fun src S1 => lcL src (hide (fun d S2 => match bindT t d (wipeD ρ own) with
    | some ρ' => (evC tb call cond ρ' S2).bind (hide (fun b S3 => match b with
      | true => (ev tb call a ρ' S3).bind (hide (fun y S4 => .ok (some y) S4) .mk)
      | false => .ok none S3) .mk)
    | none => .bad) .mk) src.len 0 [] S1) .mk)).bind (hide (fun xs S5 => .ok (.ref S5.length) (S5 ++ [.lst xs])) .mk) := rfl
@[simp] theorem h_lcf : ev tb call (.lcf lf a t it cond own) ρ S = ((evI tb call it ρ S).bind (hide (fun src S1 => lcL src (hide (fun d S2 => match bindT t d (wipeD ρ own) with
    | some ρ' => (evC tb call cond ρ' S2).bind (hide (fun b S3 => match b with
      | true => (ev tb call a ρ' S3).bind (hide (fun y S4 => .ok (some y) S4) .mk)
      | false => .ok none S3) .mk)
    | none => .bad) .mk) src.len 0 [] S1) .mk)).bind (hide (fun xs S5 => opLF lf xs S5) .mk) := rfl
@[simp] theorem h_heard : ev tb call (.heard a) ρ S = heardD tb (ev tb call a ρ S) := rfl
@[simp] theorem h_nil : evs tb call .nil ρ S = .ok [] S := rfl
@[simp] theorem h_cons : evs tb call (.cons a l) ρ S = (ev tb call a ρ S).bind (hide (fun x S1 => (evs tb call l ρ S1).bind (hide (fun xs S2 => .ok (x :: xs) S2) .mk)) .mk) := rfl
@[simp] theorem h_and1 : evAnd tb call (.cons a .nil) ρ S = ev tb call a ρ S := rfl
@[simp] theorem h_and2 : evAnd tb call (.cons a (.cons b l)) ρ S = (ev tb call a ρ S).bind (hide (asB fun t S1 => match t with
      | true => evAnd tb call (.cons b l) ρ S1
      | false => .ok (.bl false) S1) .mk) := rfl
@[simp] theorem h_or1 : evOr tb call (.cons a .nil) ρ S = ev tb call a ρ S := rfl
@[simp] theorem h_or2 : evOr tb call (.cons a (.cons b l)) ρ S = (ev tb call a ρ S).bind (hide (asB fun t S1 => match t with
      | true => .ok (.bl true) S1
      | false => evOr tb call (.cons b l) ρ S1) .mk) := rfl
@[simp] theorem h_no : evO tb call .no ρ S = .ok none S := rfl
@[simp] theorem h_yes : evO tb call (.yes a) ρ S = (ev tb call a ρ S).bind (hide (fun x S1 => match x with
    | .int i => .ok (some i) S1
    | _ => .bad) .mk) := rfl
@[simp] theorem h_cno : evC tb call .no ρ S = .ok true S := rfl
@[simp] theorem h_cyes : evC tb call (.yes a) ρ S = (ev tb call a ρ S).bind (hide (asB fun t S1 => .ok t S1) .mk) := rfl
@[simp] theorem h_of : evI tb call (.of a) ρ S = (ev tb call a ρ S).bind (hide (fun x S1 => match x with
    | .tup l => .ok (.fix l) S1
    | .str z => .ok (.fix (z.cps.toList.map fun c => .str ⟨#[c]⟩)) S1
    | .ref i => (match S1[i]? with
      | some (.lst l) => .ok (.ls i l.length) S1
      | _ => .bad)
    | _ => .bad) .mk) := rfl
@[simp] theorem h_range : evI tb call (.range a) ρ S = (ev tb call a ρ S).bind (hide (fun x S1 => rngD x S1) .mk) := evI_range tb call a ρ S
@[simp] theorem h_enum : evI tb call (.enum a) ρ S = (ev tb call a ρ S).bind (hide (fun x S1 => match x with
    | .tup l => .ok (.fix (enumL 0 l)) S1
    | _ => .bad) .mk) := rfl
@[simp] theorem h_zip2 : evI tb call (.zip2 a b) ρ S = (ev tb call a ρ S).bind (hide (fun x S1 => (ev tb call b ρ S1).bind (hide (fun y S2 => match x, y with
    | .tup l, .tup k => .ok (.fix (zip2L l k)) S2
    | _, _ => .bad) .mk)) .mk) := rfl
@[simp] theorem h_zip3 : evI tb call (.zip3 a b c) ρ S = (ev tb call a ρ S).bind (hide (fun x S1 => (ev tb call b ρ S1).bind (hide (fun y S2 => (ev tb call c ρ S2).bind (hide (fun z S3 => match x, y, z with
    | .tup l, .tup k, .tup j => .ok (.fix (zip3L l k j)) S3
    | _, _, _ => .bad) .mk)) .mk)) .mk) := rfl
@[simp] theorem h_enumZip : evI tb call (.enumZip a b) ρ S = (ev tb call a ρ S).bind (hide (fun x S1 => (ev tb call b ρ S1).bind (hide (fun y S2 => match x, y with
    | .tup l, .tup k => .ok (.fix (enumL 0 (zip2L l k))) S2
    | _, _ => .bad) .mk)) .mk) := rfl
variable (cb cb2 : CB) (cs : CS) (is : List Nat) (fuel h : Nat)
@[simp] theorem x_asg : ex tb call (.asg i a) ρ S = (ev tb call a ρ S).bind (hide (fun x S1 => if i < ρ.length then .ok (.nx, ρ.set i (some x)) S1 else .bad) .mk) := rfl
@[simp] theorem x_asgLc : ex tb call (.asgLc i a t it cond own) ρ S = (ev tb call (.lc a t it cond own) ρ S).bind (hide (fun x S1 => if i < ρ.length then .ok (.nx, ρ.set i (some x)) S1 else .bad) .mk) := rfl
@[simp] theorem x_asgT : ex tb call (.asgT t a) ρ S = (ev tb call a ρ S).bind (hide (fun x S1 => match bindT t x ρ with
    | some ρ' => .ok (.nx, ρ') S1
    | none => .bad) .mk) := rfl
@[simp] theorem x_par : ex tb call (.par is l) ρ S = (evs tb call l ρ S).bind (hide (fun xs S1 => if xs.length = is.length ∧ is.all (fun i => decide (i < ρ.length)) then .ok (.nx, setAll ρ is xs) S1 else .bad) .mk) := rfl
@[simp] theorem x_attr : ex tb call (.attr a f b) ρ S = (ev tb call b ρ S).bind (hide (fun x S1 => (ev tb call a ρ S1).bind (hide (fun o S2 => match opSetAttr tb.dat o f x S2 with
    | some S3 => .ok (.nx, ρ) S3
    | none => .bad) .mk)) .mk) := rfl
@[simp] theorem x_attr2 : ex tb call (.attr2 a f h b) ρ S = (ev tb call b ρ S).bind (hide (fun x S1 => match x with
    | .tup [u, v] => (ev tb call a ρ S1).bind (hide (fun o S2 => match opSetAttr tb.dat o f u S2 with
      | some S3 => (ev tb call a ρ S3).bind (hide (fun o2 S4 => match opSetAttr tb.dat o2 h v S4 with
        | some S5 => .ok (.nx, ρ) S5
        | none => .bad) .mk)
      | none => .bad) .mk)
    | _ => .bad) .mk) := rfl
@[simp] theorem x_item : ex tb call (.item a b c) ρ S = (ev tb call c ρ S).bind (hide (fun x S1 => (ev tb call a ρ S1).bind (hide (fun o S2 => (ev tb call b ρ S2).bind (hide (fun k S3 => match opSetItem o k x S3 with
    | some S4 => .ok (.nx, ρ) S4
    | none => .bad) .mk)) .mk)) .mk) := rfl
@[simp] theorem x_augItem : ex tb call (.augItem a b c) ρ S = (ev tb call a ρ S).bind (hide (fun o S1 => (ev tb call b ρ S1).bind (hide (fun k S2 => (opIdxL o k S2).bind (hide (fun x S3 => match x with
    | .int p => (ev tb call c ρ S3).bind (hide (fun y S4 => match y with
      | .int q => (match opSetItem o k (.int (p + q)) S4 with
        | some S5 => .ok (.nx, ρ) S5
        | none => .bad)
      | _ => .bad) .mk)
    | _ => .bad) .mk)) .mk)) .mk) := rfl
@[simp] theorem x_augAttr : ex tb call (.augAttr a f b) ρ S = (ev tb call a ρ S).bind (hide (fun o S1 => (opAttr tb.dat o f S1).bind (hide (fun x S2 => match x with
    | .int p => (ev tb call b ρ S2).bind (hide (fun y S3 => match y with
      | .int q => (match decide (clsAt o S1 = clsAt o S3), opSetAttr tb.dat o f (.int (p + q)) S3 with
        | true, some S4 => .ok (.nx, ρ) S4
        | _, _ => .bad)
      | _ => .bad) .mk)
    | _ => .bad) .mk)) .mk) := rfl
@[simp] theorem x_expr : ex tb call (.expr a) ρ S = (ev tb call a ρ S).bind (hide (fun _ S1 => .ok (.nx, ρ) S1) .mk) := rfl
@[simp] theorem x_ret : ex tb call (.ret a) ρ S = (ev tb call a ρ S).bind (hide (fun x S1 => .ok (.rt x, ρ) S1) .mk) := rfl
@[simp] theorem x_ite : ex tb call (.ite a cb cb2) ρ S = (ev tb call a ρ S).bind (hide (asB fun t S1 => match t with
    | true => exs tb call cb ρ S1
    | false => exs tb call cb2 ρ S1) .mk) := rfl
@[simp] theorem x_for : ex tb call (.for_ t it cb) ρ S = (evI tb call it ρ S).bind (hide (fun src S1 => forL src (hide (fun d ρ1 S2 => match bindT t d ρ1 with
    | some ρ' => exs tb call cb ρ' S2
    | none => .bad) .mk) src.len 0 ρ S1) .mk) := rfl
@[simp] theorem x_raise : ex tb call (.raise k a) ρ S = (ev tb call a ρ S).bind (hide (fun x S1 => .exc k x S1) .mk) := rfl
@[simp] theorem x_nil : exs tb call .nil ρ S = .ok (.nx, ρ) S := rfl
@[simp] theorem x_cons : exs tb call (.cons cs cb) ρ S = (ex tb call cs ρ S).bind (hide (fun x S1 => match x with
    | (.nx, ρ') => exs tb call cb ρ' S1
    | (.rt d, ρ') => .ok (.rt d, ρ') S1) .mk) := rfl
end
end
@[simp] theorem h_run (tb : Tb) (call : Nat → List D → Store → Res D) (n : Nat) (b : CB) (args : List D) (S : Store) : runF tb call n b args S = (exs tb call b (args.map some ++ List.replicate (n - args.length) none) S).bind (hide (fun x S1 => match x with
  | (.nx, _) => .ok .non S1
  | (.rt d, _) => .ok d S1) .mk) := rfl
/-- the run ends well, and so -/
def Wp {α : Type} (r : Res α) (Q : α → Store → Prop) : Prop := ∃ v S, r = .ok v S ∧ Q v S
section
variable {α β : Type} {Q R : α → Store → Prop}
theorem wp_ok (v : α) (S : Store) : Wp (.ok v S) Q = Q v S := propext ⟨fun ⟨_, _, e, q⟩ => by cases e; exact q, fun q => ⟨v, S, rfl, q⟩⟩
theorem wp_hid {r : Res α} (h : Wp r Q) : Wp r (hide Q .mk) := h
theorem wp_fin {t : Tg Q} {a : α} {S : Store} (h : Q a S) : Wp (.ok a S) (hide Q t) := ⟨a, S, rfl, h⟩
theorem Wp.bind {r : Res α} {k : α → Store → Res β} {R : β → Store → Prop} (h : Wp r Q) (c : ∀ v S, Q v S → Wp (k v S) R) : Wp (r.bind k) R := by
  obtain ⟨v, S, rfl, q⟩ := h
  exact c v S q
theorem Wp.imp {r : Res α} (h : Wp r Q) (c : ∀ v S, Q v S → R v S) : Wp r R := by
  obtain ⟨v, S, rfl, q⟩ := h
  exact ⟨v, S, rfl, c v S q⟩
theorem Wp.of {r : Res α} {v : α} {S : Store} (h : r = .ok v S) (q : Q v S) : Wp r Q := ⟨v, S, h, q⟩
end
section
variable (dat : Nat → Nat → Bool) (i f g : Nat) (v x d : D) (S : Store) (fs : List (Nat × D)) (ρ : Ev) (is : List Nat) (ds : List D)
@[simp] theorem setAll_cons : setAll ρ (i :: is) (d :: ds) = setAll (ρ.set i (some d)) is ds := rfl
@[simp] theorem setAll_nil : setAll ρ [] [] = ρ := rfl
@[simp] theorem opAttr_ref : opAttr dat (.ref i) f S = (match S[i]? with
    | some (.ins C fs) => (match dat C f, fs.lookup f with
      | true, some v => .ok v S
      | _, _ => .bad)
    | _ => .bad) := rfl
@[simp] theorem opSetAttr_ref : opSetAttr dat (.ref i) f v S = (match S[i]? with
    | some (.ins C fs) => if dat C f = true ∧ fs.length < 1000 then some (S.set i (.ins C (putD f v fs))) else none
    | _ => none) := rfl
@[simp] theorem putD_nil : putD f v [] = [(f, v)] := rfl
@[simp] theorem putD_cons : putD f v ((g, x) :: fs) = if g = f then (g, v) :: fs else (g, x) :: putD f v fs := rfl
@[simp] theorem lk_nil : List.lookup f ([] : List (Nat × D)) = none := rfl
@[simp] theorem lk_cons : List.lookup f ((g, x) :: fs) = (match f == g with
    | true => some x
    | false => fs.lookup f) := rfl
end
@[simp] theorem le_sl {k : Nat} (h : k ≤ 100000) : k ≤ sizeLine := by rw [sizeLine_eq]; omega
@[simp] theorem lt_sl {k : Nat} (h : k < 100000) : k < sizeLine := by rw [sizeLine_eq]; omega
section
variable (step : D → Ev → Store → Res (Fl × Ev)) (stm : D → Store → Res (Option D)) (l : List D) (ρ : Ev) (S : Store) (i n : Nat)
@[simp ↓] theorem forL_fix3 : forL (.fix l) step (Src.fix l).len 0 ρ S = foldF step l ρ S := forL_fix2 _ _ _ _ _ rfl
@[simp ↓] theorem lcL_fix3 : lcL (.fix l) stm (Src.fix l).len 0 [] S = mapF stm l [] S := lcL_fix2 _ _ _ _ rfl
theorem forL_ls3 : forL (.ls i n) step (Src.ls i n).len 0 ρ S = forL (.ls i n) step n 0 ρ S := rfl
theorem lcL_ls3 : lcL (.ls i n) stm (Src.ls i n).len 0 [] S = lcL (.ls i n) stm n 0 [] S := rfl
end
@[simp] theorem foldF_nil (step : D → Ev → Store → Res (Fl × Ev)) (ρ : Ev) (S : Store) : foldF step [] ρ S = .ok (.nx, ρ) S := rfl
@[simp] theorem mapF_nil (step : D → Store → Res (Option D)) (acc : List D) (S : Store) : mapF step [] acc S = .ok acc S := rfl
/-! ### reading the store -/
section
variable {S : Store} {i j : Nat} {l k : List D} {C : Nat} {fs : List (Nat × D)}
theorem r_len (h : S[i]? = some (.lst l)) : opBI .len [.ref i] S = .ok (.int l.length) S := by simp [opBI, h]
theorem r_list (h : S[i]? = some (.lst l)) : opBI .list1 [.ref i] S = .ok (.ref S.length) (S ++ [.lst l]) := by simp [opBI, h]
@[simp] theorem r_listt : opBI .list1 [.tup l] S = .ok (.ref S.length) (S ++ [.lst l]) := rfl
theorem r_tuple (h : S[i]? = some (.lst l)) : opBI .tuple1 [.ref i] S = .ok (.tup l) S := by simp [opBI, h]
@[simp] theorem r_tuplet : opBI .tuple1 [.tup l] S = .ok (.tup l) S := rfl
theorem r_idx (h : S[i]? = some (.lst l)) {n : Nat} {d : D} (e : l[n]? = some d) : opIdx (.ref i) (.int (n : Int)) S = .ok d S := by simp [opIdx, h, atI_nat, e]
theorem r_set (h : S[i]? = some (.lst l)) {n : Nat} (e : n < l.length) (d : D) : opSetItem (.ref i) (.int (n : Int)) d S = some (S.set i (.lst (l.set n d))) := by
  simp [opSetItem, h, L2.ixN, e]
theorem r_pop (h : S[i]? = some (.lst l)) {n : Nat} {d : D} (e : l[n]? = some d) : opPop (.ref i) (.int (n : Int)) S = .ok d (S.set i (.lst (l.eraseIdx n))) := by
  obtain ⟨h1, rfl⟩ := List.getElem?_eq_some_iff.mp e
  simp [opPop, h, L2.ixN, h1]
theorem r_app (h : S[i]? = some (.lst l)) (d : D) (e : l.length < 100000) : opApp (.ref i) d S = .ok .non (S.set i (.lst (l ++ [d]))) := by
  have : l.length < sizeLine := by rw [sizeLine_eq]; omega
  simp [opApp, h, this]
theorem r_ext (h : S[i]? = some (.lst l)) (h1 : S[j]? = some (.lst k)) (e : l.length + k.length ≤ 100000) : opExt (.ref i) (.ref j) S = .ok .non (S.set i (.lst (l ++ k))) := by
  have : l.length + k.length ≤ sizeLine := by rw [sizeLine_eq]; omega
  simp [opExt, h, h1, this]
theorem o_rep (x : D) (k : Nat) (hk : k ≤ 1000) : opBin .mul (.tup [x]) (.int (k : Int)) S = .ok (.tup (List.replicate k x)) S := by
  have : (-1000 : Int) ≤ (k : Int) ∧ (k : Int) ≤ 1000 := by omega
  simp [opBin, opMul, this]
theorem r_rep (x : D) (k : Nat) (hk : k ≤ 1000) (h : S[i]? = some (.lst [x])) : opBin .mul (.ref i) (.int (k : Int)) S = .ok (.ref S.length) (S ++ [.lst (List.replicate k x)]) := by
  have : (-1000 : Int) ≤ (k : Int) ∧ (k : Int) ≤ 1000 := by omega
  simp [opBin, opMul, h, this]
theorem r_addl (h : S[i]? = some (.lst l)) (h1 : S[j]? = some (.lst k)) (e : l.length + k.length ≤ 100000) : opBin .add (.ref i) (.ref j) S = .ok (.ref S.length) (S ++ [.lst (l ++ k)]) := by
  have : l.length + k.length ≤ sizeLine := by rw [sizeLine_eq]; omega
  simp [opBin, opAdd, h, h1, this]
theorem r_attr (h : S[i]? = some (.ins C fs)) {f : Nat} {d : D} (e : fs.lookup f = some d) (dt : tb.dat C f = true) : opAttr tb.dat (.ref i) f S = .ok d S := by simp [opAttr, h, e, dt]
theorem r_setattr (h : S[i]? = some (.ins C fs)) {f : Nat} (d : D) (dt : tb.dat C f = true) (e : fs.length < 1000) : opSetAttr tb.dat (.ref i) f d S = some (S.set i (.ins C (putD f d fs))) := by simp [opSetAttr, h, e, dt]
end
/-! ### what stays of the store -/
def Kp (ms : List Nat) (S S' : Store) : Prop := S.length ≤ S'.length ∧ ∀ i, i < S.length → i ∉ ms → S'[i]? = S[i]?
section
variable {ms ns : List Nat} {S S1 S2 : Store} {i j : Nat} {o o1 : MO}
theorem get_lt {α : Type} {S : List α} {i : Nat} {o : α} (h : S[i]? = some o) : i < S.length := (List.getElem?_eq_some_iff.mp h).1
theorem Kp.rfl : Kp ms S S := ⟨Nat.le_refl _, fun _ _ _ => Eq.refl _⟩
theorem Kp.trans (a : Kp ms S S1) (b : Kp ms S1 S2) : Kp ms S S2 := ⟨Nat.le_trans a.1 b.1, fun i hi hm => (b.2 i (Nat.lt_of_lt_of_le hi a.1) hm).trans (a.2 i hi hm)⟩
theorem Kp.mono (a : Kp ms S S1) (h : ∀ i, i ∈ ms → i ∈ ns) : Kp ns S S1 := ⟨a.1, fun i hi hm => a.2 i hi fun z => hm (h i z)⟩
theorem Kp.nil (a : Kp [] S S1) : Kp ms S S1 := a.mono fun _ z => by cases z
theorem Kp.app (G : Store) : Kp ms S (S ++ G) := ⟨by rw [List.length_append]; omega, fun i hi _ => List.getElem?_append_left hi⟩
theorem Kp.set (h : i ∈ ms) (o : MO) : Kp ms S (S.set i o) := ⟨by rw [List.length_set]; exact Nat.le_refl _, fun k hk hm => by
  rw [List.getElem?_set_ne (fun z => hm (by rw [← z]; exact h))]⟩
/-- what is new may change -/
theorem Kp.new (a : Kp ms S S1) (b : Kp ns S1 S2) (h : ∀ i ∈ ns, i ∈ ms ∨ S.length ≤ i) : Kp ms S S2 := ⟨Nat.le_trans a.1 b.1, fun i hi hm => (b.2 i (Nat.lt_of_lt_of_le hi a.1) (fun z => by
  rcases h i z with z | z
  · exact hm z
  · omega)).trans (a.2 i hi hm)⟩
theorem Kp.setN (a : Kp ms S S1) (h : S.length ≤ i) (o : MO) : Kp ms S (S1.set i o) := ⟨by rw [List.length_set]; exact a.1, fun k hk hm => by
  rw [List.getElem?_set_ne (by omega)]
  exact a.2 k hk hm⟩
theorem get_set_ne (h : S[i]? = some o) (hn : j ≠ i) (o1 : MO) : (S.set j o1)[i]? = some o := by rw [List.getElem?_set_ne hn, h]
theorem Kp.get (k : Kp ms S S1) (h : S[i]? = some o) (hi : i ∉ ms) : S1[i]? = some o := by rw [k.2 i (get_lt h) hi, h]
theorem Kp.get1 (k : Kp [j] S S1) (h : S[i]? = some o) (hi : i ≠ j) : S1[i]? = some o := k.get h fun z => hi (List.mem_singleton.mp z)
theorem Kp.get0 (k : Kp [] S S1) (h : S[i]? = some o) : S1[i]? = some o := k.get h fun z => by cases z
theorem ne_of (h : S[i]? = some o) (h1 : S[j]? = some o1) (n : o ≠ o1) : i ≠ j := fun e => n (by rw [e, h1] at h; exact (Option.some.inj h).symm)
theorem ins_ne_lst {C : Nat} {fs : List (Nat × D)} {l : List D} (h : S[i]? = some (.ins C fs)) (h1 : S[j]? = some (.lst l)) : i ≠ j := ne_of h h1 fun z => by cases z
@[simp] theorem get_app_len (S : Store) (o : MO) (G : Store) : (S ++ o :: G)[S.length]? = some o := by
  rw [List.getElem?_append_right (Nat.le_refl _), Nat.sub_self]
  exact Eq.refl _
@[simp] theorem get_app_add (S G : Store) (k : Nat) : (S ++ G)[S.length + k]? = G[k]? := by
  rw [List.getElem?_append_right (by omega), Nat.add_sub_cancel_left]
@[simp] theorem set_app_len (S : Store) (a b : MO) : (S ++ [a]).set S.length b = S ++ [b] := by
  rw [List.set_append_right _ _ (Nat.le_refl _), Nat.sub_self]
  rfl
@[simp] theorem o_slct (l : List D) (lo hi : Option Int) (S : Store) : opSlc (.tup l) lo hi S = .ok (.tup (cutD l lo hi)) S := rfl
theorem get_app (h : S[i]? = some o) (G : Store) : (S ++ G)[i]? = some o := by rw [List.getElem?_append_left (get_lt h), h]
theorem get_set_self (h : S[i]? = some o) (o1 : MO) : (S.set i o1)[i]? = some o1 := by
  rw [List.getElem?_set_self (get_lt h)]
end
/-! ### loops with a store -/
theorem fold_inv {α : Type} {step : D → Ev → Store → Res (Fl × Ev)} (enc : α → D) (I : Nat → Ev → Store → Prop) : ∀ (l : List α) (k : Nat) (ρ : Ev) (S : Store),
    (∀ j a, l[j]? = some a → ∀ ρ S, I (k + j) ρ S → Wp (step (enc a) ρ S) fun x S' => x.1 = .nx ∧ I (k + j + 1) x.2 S') → I k ρ S → Wp (foldF step (l.map enc) ρ S) fun x S' => x.1 = .nx ∧ I (k + l.length) x.2 S'
  | [], k, ρ, S, _, h => ⟨(.nx, ρ), S, rfl, rfl, h⟩
  | a :: r, k, ρ, S, c, h => by
    obtain ⟨⟨fx, ρ1⟩, S1, e1, z, h1⟩ := c 0 a rfl ρ S h
    subst z
    obtain ⟨x, S2, e2, z, h2⟩ := fold_inv enc I r (k + 1) ρ1 S1 (fun j b hb ρ S hi => by
      have q := c (j + 1) b (by simpa using hb) ρ S (by rw [show k + (j + 1) = k + 1 + j by omega]; exact hi)
      rw [show k + 1 + j + 1 = k + (j + 1) + 1 by omega]
      exact q) h1
    refine ⟨x, S2, ?_, z, ?_⟩
    · rw [List.map_cons]
      unfold foldF
      rw [e1]
      exact e2
    · rw [show k + (a :: r).length = k + 1 + r.length by simp; omega]
      exact h2
theorem Wp.fold {α β : Type} {step : D → Ev → Store → Res (Fl × Ev)} {k : Fl × Ev → Store → Res β} {R : β → Store → Prop} (enc : α → D) (I : Nat → Ev → Store → Prop) (l : List α) {ρ : Ev} {S : Store}
    (c : ∀ j a, l[j]? = some a → ∀ ρ S, I j ρ S → Wp (step (enc a) ρ S) fun x S' => x.1 = .nx ∧ I (j + 1) x.2 S') (h : I 0 ρ S) (hk : ∀ ρ S, I l.length ρ S → Wp (k (.nx, ρ) S) R) : Wp ((foldF step (l.map enc) ρ S).bind k) R := by
  refine (fold_inv enc I l 0 ρ S (fun j a ha ρ S hi => ?_) h).bind fun x S1 hx => ?_
  · rw [Nat.zero_add] at hi ⊢
    exact c j a ha ρ S hi
  · obtain ⟨fx, ρ1⟩ := x
    obtain ⟨z, hx⟩ := hx
    have z : fx = .nx := z
    subst z
    rw [Nat.zero_add] at hx
    exact hk ρ1 S1 hx
theorem range_get {n j a : Nat} (h : (List.range n)[j]? = some a) : a = j ∧ j < n := by
  have h1 := get_lt h
  rw [List.length_range] at h1
  rw [List.getElem?_range h1] at h
  exact ⟨(Option.some.inj h).symm, h1⟩
/-- the same over a range -/
theorem Wp.foldR {β : Type} {step : D → Ev → Store → Res (Fl × Ev)} {k : Fl × Ev → Store → Res β} {R : β → Store → Prop} (I : Nat → Ev → Store → Prop) (n : Nat) {ρ : Ev} {S : Store}
    (c : ∀ j, j < n → ∀ ρ S, I j ρ S → Wp (step (.int (j : Int)) ρ S) fun x S' => x.1 = .nx ∧ I (j + 1) x.2 S') (h : I 0 ρ S) (hk : ∀ ρ S, I n ρ S → Wp (k (.nx, ρ) S) R) : Wp ((foldF step ((List.range n).map fun (k : Nat) => D.int (k : Int)) ρ S).bind k) R := by
  refine Wp.fold (fun (k : Nat) => D.int (k : Int)) I (List.range n) (fun j a ha ρ S hi => ?_) h (by rw [List.length_range]; exact hk)
  obtain ⟨rfl, hj⟩ := range_get ha
  exact c a hj ρ S hi
theorem mapF_cons (step : D → Store → Res (Option D)) (d : D) (r acc : List D) (S : Store) : mapF step (d :: r) acc S = match step d S with
    | .ok (some y) S' => if acc.length < sizeLine then mapF step r (acc ++ [y]) S' else .bad
    | .ok none S' => mapF step r acc S'
    | _ => .bad := rfl
theorem map_inv {α : Type} {step : D → Store → Res (Option D)} (enc : α → D) (I : Nat → List D → Store → Prop) : ∀ (l : List α) (k : Nat) (acc : List D) (S : Store),
    (∀ j a, l[j]? = some a → ∀ acc S, I (k + j) acc S → Wp (step (enc a) S) fun o S' => I (k + j + 1) (acc ++ o.toList) S') → I k acc S → acc.length + l.length ≤ sizeLine → Wp (mapF step (l.map enc) acc S) fun acc S' => I (k + l.length) acc S'
  | [], k, acc, S, _, h, _ => ⟨acc, S, rfl, h⟩
  | a :: r, k, acc, S, c, h, hl => by
    obtain ⟨o, S1, e1, h1⟩ := c 0 a rfl acc S h
    rw [List.length_cons] at hl
    have c2 : ∀ j b, r[j]? = some b → ∀ acc S, I (k + 1 + j) acc S → Wp (step (enc b) S) fun o S' => I (k + 1 + j + 1) (acc ++ o.toList) S' := fun j b hb acc S hi => by
      have q := c (j + 1) b (by simpa using hb) acc S (by rw [show k + (j + 1) = k + 1 + j by omega]; exact hi)
      rw [show k + 1 + j + 1 = k + (j + 1) + 1 by omega]
      exact q
    have fin : ∀ {R : List D → Store → Prop} {x : Res (List D)}, Wp x (fun acc S' => I (k + 1 + r.length) acc S') → mapF step ((a :: r).map enc) acc S = x → Wp (mapF step ((a :: r).map enc) acc S) fun acc S' => I (k + (a :: r).length) acc S' := fun {R x} h e => by
      rw [e, show k + (a :: r).length = k + 1 + r.length by simp; omega]
      exact h
    cases o with
    | none =>
      refine fin (R := fun _ _ => True) (map_inv enc I r (k + 1) acc S1 c2 (by simpa using h1) (by omega)) ?_
      rw [List.map_cons, mapF_cons, e1]
    | some y =>
      refine fin (R := fun _ _ => True) (map_inv enc I r (k + 1) (acc ++ [y]) S1 c2 (by simpa using h1) (by rw [List.length_append]; simp; omega)) ?_
      rw [List.map_cons, mapF_cons, e1]
      dsimp only
      rw [if_pos (by omega)]
theorem Wp.map {α β : Type} {step : D → Store → Res (Option D)} {k : List D → Store → Res β} {R : β → Store → Prop} (enc : α → D) (I : Nat → List D → Store → Prop) (l : List α) {S : Store}
    (c : ∀ j a, l[j]? = some a → ∀ acc S, I j acc S → Wp (step (enc a) S) fun o S' => I (j + 1) (acc ++ o.toList) S') (h : I 0 [] S) (hl : l.length ≤ 100000) (hk : ∀ acc S, I l.length acc S → Wp (k acc S) R) : Wp ((mapF step (l.map enc) [] S).bind k) R := by
  refine (map_inv enc I l 0 [] S (fun j a ha acc S hi => ?_) h (by rw [sizeLine_eq]; simp; omega)).bind fun x S1 hx => ?_
  · rw [Nat.zero_add] at hi ⊢
    exact c j a ha acc S hi
  · rw [Nat.zero_add] at hx
    exact hk x S1 hx
theorem Wp.mapR {β : Type} {step : D → Store → Res (Option D)} {k : List D → Store → Res β} {R : β → Store → Prop} (I : Nat → List D → Store → Prop) (n : Nat) {S : Store}
    (c : ∀ j, j < n → ∀ acc S, I j acc S → Wp (step (.int (j : Int)) S) fun o S' => I (j + 1) (acc ++ o.toList) S') (h : I 0 [] S) (hl : n ≤ 100000) (hk : ∀ acc S, I n acc S → Wp (k acc S) R) : Wp ((mapF step ((List.range n).map fun (k : Nat) => D.int (k : Int)) [] S).bind k) R := by
  refine Wp.map (fun (k : Nat) => D.int (k : Int)) I (List.range n) (fun j a ha acc S hi => ?_) h (by rw [List.length_range]; exact hl) (by rw [List.length_range]; exact hk)
  obtain ⟨rfl, hj⟩ := range_get ha
  exact c a hj acc S hi
/-- a comprehension over a list of the store that stays -/
theorem lc_ls {step : D → Store → Res (Option D)} {h : Nat} {xs : List D} (I : Nat → List D → Store → Prop) (hI : ∀ j acc S, I j acc S → S[h]? = some (.lst xs)) (c : ∀ j d, xs[j]? = some d → ∀ acc S, I j acc S → Wp (step d S) fun o S' => I (j + 1) (acc ++ o.toList) S') (hs : xs.length ≤ 100000) :
    ∀ (r k : Nat) (acc : List D) (S : Store), k + r = xs.length → I k acc S → acc.length ≤ k → Wp (lcL (.ls h xs.length) step r k acc S) fun acc S' => I xs.length acc S'
  | 0, k, acc, S, e, hi, _ => by
    have ek : k = xs.length := by omega
    subst ek
    refine ⟨acc, S, ?_, hi⟩
    unfold lcL
    simp [Src.fine, hI _ _ _ hi]
  | r + 1, k, acc, S, e, hi, hl => by
    have hk : k < xs.length := by omega
    have e1 : (Src.ls h xs.length).item S k = some xs[k] := by simp [Src.item, hI _ _ _ hi, hk]
    obtain ⟨o, S1, e2, h2⟩ := c k xs[k] (List.getElem?_eq_getElem hk) acc S hi
    unfold lcL
    rw [e1]
    dsimp only
    rw [e2]
    cases o with
    | none => exact lc_ls I hI c hs r (k + 1) acc S1 (by omega) (by simpa using h2) (by omega)
    | some y =>
      dsimp only
      rw [if_pos (by rw [sizeLine_eq]; omega)]
      exact lc_ls I hI c hs r (k + 1) (acc ++ [y]) S1 (by omega) (by simpa using h2) (by rw [List.length_append]; simp; omega)
end K76P
set_option Elab.async false
set_option linter.all false
set_option maxRecDepth 100000
set_option autoImplicit false
set_option maxHeartbeats 2000000
/-! P2: the law's draws -/
namespace K76P
open PySem K76
section
variable {S : Store} {j : Nat} {x y : D} {l : List D}
theorem p_i0 (h : S[j]? = some (.lst (x :: l))) : opIdx (.ref j) (.int 0) S = .ok x S := by
  simp [opIdx, h, L2.atI, L2.ixN]
theorem p_i1 (h : S[j]? = some (.lst (x :: y :: l))) : opIdx (.ref j) (.int 1) S = .ok y S := by
  simp [opIdx, h, L2.atI, L2.ixN]
  rw [if_pos (by omega)]
  simp
theorem p_s0 (h : S[j]? = some (.lst (x :: l))) (v : D) : opSetItem (.ref j) (.int 0) v S = some (S.set j (.lst (v :: l))) := by
  simp [opSetItem, h, L2.ixN]
theorem p_s1 (h : S[j]? = some (.lst (x :: y :: l))) (v : D) : opSetItem (.ref j) (.int 1) v S = some (S.set j (.lst (x :: v :: l))) := by
  simp [opSetItem, h, L2.ixN]
  rw [if_pos (by omega)]
  simp
end
/-- the source of draws at a place -/
def Pool (s : Nat) (S : Store) : Prop := ∃ a b : Int, S[s]? = some (.lst [.int a, .int b]) ∧ 0 ≤ b ∧ b < 2147483647
/-- a draw: the source stays one, all else stays -/
structure Dr (s : Nat) (S S' : Store) : Prop where
  pool : Pool s S'
  kp : Kp [s] S S'
section
variable {s : Nat} {S S1 S2 : Store}
theorem Dr.refl (h : Pool s S) : Dr s S S := ⟨h, Kp.rfl⟩
theorem Dr.trans (a : Dr s S S1) (b : Dr s S1 S2) : Dr s S S2 := ⟨b.pool, a.kp.trans b.kp⟩
theorem Pool.app (h : Pool s S) (G : Store) : Pool s (S ++ G) := by
  obtain ⟨a, b, e, q⟩ := h
  exact ⟨a, b, get_app e G, q⟩
theorem Dr.app (a : Dr s S S1) (G : Store) : Dr s S (S1 ++ G) := ⟨a.pool.app G, a.kp.trans (Kp.app G)⟩
theorem Pool.lt (h : Pool s S) : s < S.length := by
  obtain ⟨a, b, e, _⟩ := h
  exact get_lt e
theorem Pool.set (h : Pool s S) {i : Nat} (hi : i ≠ s) (o : MO) : Pool s (S.set i o) := by
  obtain ⟨a, b, e, q⟩ := h
  exact ⟨a, b, get_set_ne e hi o, q⟩
theorem Dr.set (a : Dr s S S1) {i : Nat} (h : S.length ≤ i) (hn : i ≠ s) (o : MO) : Dr s S (S1.set i o) := ⟨a.pool.set hn o, a.kp.setN h o⟩
theorem s_take (n : Nat) (h : Pool s S) (t : Int) (h1 : 1 ≤ t) (h2 : t ≤ 100000) : Wp (callN tb fl (n + 1) k__law_take [.ref s, .int t] S) fun v S' => Dr s S S' ∧ ∃ x : Int, v = .int x ∧ 0 ≤ x ∧ x < t := by
  obtain ⟨a, b, e, q1, q2⟩ := h
  rw [u__law_take]
  ((try show Wp _ (hide _ ⟨⟩)) <;> simp -dsimp -implicitDefEqProofs [wp_ok, b__law_take, p_i0 e, p_i1 e])
  by_cases z : 0 < a
  · ((try show Wp _ (hide _ ⟨⟩)) <;> simp -dsimp -implicitDefEqProofs [wp_ok, z, o_mod _ _ _ (show 0 < t by omega), o_fdiv _ _ _ (show 0 < t ∧ t < 1073741824 by omega), p_s0 e, p_i0 e])
    exact ⟨⟨⟨_, _, get_set_self e _, q1, q2⟩, Kp.set (by simp) _⟩, Int.emod_nonneg _ (by omega), Int.emod_lt_of_pos _ (by omega)⟩
  · have d1 := Int.emod_nonneg (b * 39373 + 7) (show (2147483647 : Int) ≠ 0 by omega)
    have d2 := Int.emod_lt_of_pos (b * 39373 + 7) (show (0 : Int) < 2147483647 by omega)
    ((try show Wp _ (hide _ ⟨⟩)) <;> simp -dsimp -implicitDefEqProofs [wp_ok, z, p_i1 e, o_mul b 39373 _ (by omega), o_mod _ _ _ (show (0 : Int) < 2147483647 by omega), p_s1 e])
    generalize (b * 39373 + 7) % 2147483647 = c at *
    have e2 := get_set_self e (.lst [.int a, .int c])
    ((try show Wp _ (hide _ ⟨⟩)) <;> simp -dsimp -implicitDefEqProofs [wp_ok, p_i1 e2, o_mul c c _ (by omega), o_mod _ _ _ (show (0 : Int) < 2147483629 by omega), o_fdiv _ _ _ (show (0 : Int) < 32 ∧ (32 : Int) < 1073741824 by omega), o_mod _ _ _ (show 0 < t by omega)])
    exact ⟨⟨⟨_, _, e2, d1, d2⟩, Kp.set (by simp) _⟩, Int.emod_nonneg _ (by omega), Int.emod_lt_of_pos _ (by omega)⟩
/-- one of these -/
theorem s_one (n : Nat) (h : Pool s S) (l : List D) (h1 : 1 ≤ l.length) (h2 : l.length ≤ 1000) : Wp (callN tb fl (n + 2) k__law_one [.ref s, .tup l] S) fun v S' => Dr s S S' ∧ v ∈ l := by
  rw [u__law_one]
  ((try show Wp _ (hide _ ⟨⟩)) <;> simp -dsimp -implicitDefEqProofs [wp_ok, b__law_one])
  refine (s_take n h l.length (by omega) (by omega)).bind fun v S1 hv => ?_
  obtain ⟨d, x, rfl, x1, x2⟩ := hv
  obtain ⟨k, rfl⟩ := Int.eq_ofNat_of_zero_le x1
  have hk : k < l.length := by omega
  ((try show Wp _ (hide _ ⟨⟩)) <;> simp -dsimp -implicitDefEqProofs [wp_ok, o_idx l S1 (List.getElem?_eq_getElem hk)])
  exact d
theorem erase_perm {α : Type} : ∀ (l : List α) (m : Nat) (h : m < l.length), (l[m] :: l.eraseIdx m).Perm l
  | [], m, h => absurd h (by simp)
  | a :: r, 0, _ => List.Perm.refl _
  | a :: r, m + 1, h => (List.Perm.swap a (r[m]'(by simpa using h)) (r.eraseIdx m)).trans ((erase_perm r m (by simpa using h)).cons a)
/-- the same things, some order, all once -/
theorem s_mixed (n : Nat) (h : Pool s S) (j : Nat) (l : List D) (hj : S[j]? = some (.lst l)) (hn : j ≠ s) (h2 : l.length ≤ 1000) : Wp (callN tb fl (n + 2) k__law_mixed [.ref s, .ref j] S) fun v S' => Dr s S S' ∧ ∃ (i : Nat) (f : List D), v = .ref i ∧ i ≠ s ∧ S'[i]? = some (.lst f) ∧ f.Perm l := by
  rw [u__law_mixed]
  have hs := h.lt
  ((try show Wp _ (hide _ ⟨⟩)) <;> simp -dsimp -implicitDefEqProofs [wp_ok, b__law_mixed, r_list hj, r_len (get_app hj _)])
  ((try show Wp _ (hide _ ⟨⟩)) <;> simp -dsimp -implicitDefEqProofs [wp_ok, rngD_ok _ _ _ rfl (show l.length ≤ 1000000 by omega)])
  refine Wp.foldR (fun k ρ S' => (∃ x, ρ = [some (.ref s), some (.ref j), some (.ref S.length), some (.ref (S.length + 1)), x]) ∧ Dr s S S' ∧ ∃ rest f, S'[S.length]? = some (.lst rest) ∧ S'[S.length + 1]? = some (.lst f) ∧ rest.length + k = l.length ∧ f.length = k ∧ (f ++ rest).Perm l) l.length ?_ ⟨⟨_, rfl⟩, (Dr.refl h).app _, l, [], by simp, by simp, by simp, rfl, by simp⟩ ?_
  · intro k hk ρ S1 hi
    obtain ⟨⟨x, rfl⟩, d, rest, f, e1, e2, l1, l2, pm⟩ := hi
    ((try show Wp _ (hide _ ⟨⟩)) <;> simp -dsimp -implicitDefEqProofs [wp_ok, e1, e2, r_len e1])
    refine (s_take n d.pool rest.length (by omega) (by omega)).bind fun v S2 hv => ?_
    obtain ⟨d2, x, rfl, x1, x2⟩ := hv
    obtain ⟨m, rfl⟩ := Int.eq_ofNat_of_zero_le x1
    have hm : m < rest.length := by omega
    have e1' := d2.kp.get1 e1 (by omega)
    have e2' := d2.kp.get1 e2 (by omega)
    have e3 : (S2.set S.length (.lst (rest.eraseIdx m)))[S.length + 1]? = some (.lst f) := by rw [List.getElem?_set_ne (by omega), e2']
    ((try show Wp _ (hide _ ⟨⟩)) <;> simp -dsimp -implicitDefEqProofs [wp_ok, r_pop e1' (List.getElem?_eq_getElem hm), r_app e3 _ (show f.length < 100000 by omega)])
    have e4 := get_set_self e1' (.lst (rest.eraseIdx m))
    refine ⟨((d.trans d2).set (by omega) (by omega) _).set (by omega) (by omega) _, _, e4, _, get_set_self e3 _, by rw [List.length_eraseIdx_of_lt hm]; omega, by simp [l2], ?_⟩
    refine List.Perm.trans ?_ pm
    rw [List.append_assoc]
    refine List.Perm.append_left f ?_
    exact erase_perm rest m hm
  · intro ρ S1 hi
    obtain ⟨⟨x, rfl⟩, d, rest, f, e1, e2, l1, l2, pm⟩ := hi
    have l3 : rest = [] := List.length_eq_zero_iff.mp (by omega)
    subst l3
    ((try show Wp _ (hide _ ⟨⟩)) <;> simp -dsimp -implicitDefEqProofs [wp_ok])
    exact ⟨d, by omega, f, e2, by simpa using pm⟩
/-- so too out of a list -/
theorem s_one_l (n : Nat) (h : Pool s S) (j : Nat) (l : List D) (hj : S[j]? = some (.lst l)) (hn : j ≠ s) (h1 : 1 ≤ l.length) (h2 : l.length ≤ 1000) : Wp (callN tb fl (n + 2) k__law_one [.ref s, .ref j] S) fun v S' => Dr s S S' ∧ v ∈ l := by
  rw [u__law_one]
  ((try show Wp _ (hide _ ⟨⟩)) <;> simp -dsimp -implicitDefEqProofs [wp_ok, b__law_one, opBI, hj])
  refine (s_take n h l.length (by omega) (by omega)).bind fun v S1 hv => ?_
  obtain ⟨d, x, rfl, x1, x2⟩ := hv
  obtain ⟨k, rfl⟩ := Int.eq_ofNat_of_zero_le x1
  have hk : k < l.length := by omega
  have hj1 := d.kp.get1 hj hn
  ((try show Wp _ (hide _ ⟨⟩)) <;> simp -dsimp -implicitDefEqProofs [wp_ok, opIdx, hj1, atI_nat, hk])
  exact d
/-- names -/
def pool6 : List Str := ["ann", "b2", "cat", "d", "east9", "f"]
theorem cut_take (l : List D) (m : Nat) : cutD l none (some (m : Int)) = l.take m := by
  unfold cutD
  rw [HT.sIx_none, HT.sIx_nat, List.drop_zero, Nat.sub_zero]
  by_cases h : m ≤ l.length
  · rw [Nat.min_eq_left h]
  · rw [Nat.min_eq_right (by omega), List.take_length, List.take_of_length_le (by omega)]
theorem cut_drop (l : List D) (m : Nat) : cutD l (some (m : Int)) none = l.drop m := by
  unfold cutD
  rw [HT.sIx_none, HT.sIx_nat]
  by_cases h : m ≤ l.length
  · rw [Nat.min_eq_left h, List.take_of_length_le (by rw [List.length_drop]; omega)]
  · rw [Nat.min_eq_right (by omega), Nat.sub_self, List.take_zero, List.drop_of_length_le (by omega)]
theorem cut1 (x : D) (l : List D) : cutD (x :: l) (some 1) none = l := cut_drop (x :: l) 1
def unS : D → Option Str
  | .str x => some x
  | _ => none
theorem perm_strs {f : List D} {l : List Str} (h : f.Perm (l.map .str)) : ∃ g : List Str, f = g.map D.str ∧ g.Perm l := by
  have key : ∀ g : List Str, (g.map D.str).filterMap unS = g := by
    intro g
    induction g with
    | nil => rfl
    | cons a r ih => rw [List.map_cons, List.filterMap_cons_some (f := unS) (b := a) rfl, ih]
  have all : ∀ x ∈ f, ∃ y, x = D.str y := fun x hx => by
    obtain ⟨y, _, e⟩ := List.mem_map.mp (h.mem_iff.mp hx)
    exact ⟨y, e.symm⟩
  have key2 : ∀ f : List D, (∀ x ∈ f, ∃ y, x = D.str y) → f = (f.filterMap unS).map D.str := by
    intro f
    induction f with
    | nil => intro _; rfl
    | cons a r ih =>
      intro h
      obtain ⟨y, rfl⟩ := h a (List.mem_cons_self ..)
      rw [List.filterMap_cons_some (f := unS) (b := y) rfl, List.map_cons, ← ih fun x hx => h x (List.mem_cons_of_mem _ hx)]
  refine ⟨f.filterMap unS, key2 f all, ?_⟩
  have q := h.filterMap unS
  rw [key l] at q
  exact q
theorem s_told_names (n : Nat) (h : Pool s S) (m : Nat) (hm : m ≤ 4) : Wp (callN tb fl (n + 3) k__law_told_names [.ref s, .int m] S) fun v S' => Dr s S S' ∧ ∃ ns : List Str, v = .tup (ns.map .str) ∧ ns.length = m ∧ ns.Nodup ∧ ∀ x ∈ ns, x ∈ pool6 := by
  rw [u__law_told_names]
  have hs := h.lt
  ((try show Wp _ (hide _ ⟨⟩)) <;> simp -dsimp -implicitDefEqProofs [wp_ok, b__law_told_names])
  refine (s_mixed n (h.app _) S.length (pool6.map .str) (by simp; rfl) (by omega) (by decide)).bind fun v S1 hv => ?_
  obtain ⟨d, i, f, rfl, hi, ei, pm⟩ := hv
  obtain ⟨g, rfl, pm1⟩ := perm_strs pm
  have d := ((Dr.refl h).app _).trans d
  ((try show Wp _ (hide _ ⟨⟩)) <;> simp -dsimp -implicitDefEqProofs [wp_ok, opSlc, ei, cut_take])
  rw [r_tuple (l := (g.map D.str).take m) (by simp)]
  ((try show Wp _ (hide _ ⟨⟩)) <;> simp -dsimp -implicitDefEqProofs [wp_ok])
  have nd : g.Nodup := pm1.nodup_iff.mpr (by decide +kernel)
  refine ⟨d.app _, g.take m, by rw [List.map_take], ?_, nd.sublist (List.take_sublist m g), fun x hx => pm1.mem_iff.mp (List.mem_of_mem_take hx)⟩
  rw [List.length_take, pm1.length_eq]
  show min m 6 = m
  omega
/-! ### links, steps, books -/
theorem s_plain_links (n : Nat) (m : Nat) (hm : m ≤ 4) : callN tb fl (n + 1) k__law_plain_links [.int m] S = .ok (.tup ((List.range m).map fun (k : Nat) => tI [(k : Int)])) S := by
  rw [u__law_plain_links]
  ((try show Wp _ (hide _ ⟨⟩)) <;> simp -dsimp -implicitDefEqProofs [wp_ok, b__law_plain_links, rngD_ok _ _ _ rfl (show m ≤ 1000000 by omega)])
  rw [mapF_map (fun k : Nat => D.int (k : Int)) (fun k : Nat => tI [(k : Int)]) (List.range m) (fun k hk => by simp [tI]) (by rw [sizeLine_eq]; simp; omega)]
  ((try show Wp _ (hide _ ⟨⟩)) <;> simp -dsimp -implicitDefEqProofs [wp_ok, opLF])
theorem plain_ok (m : Nat) (i : Nat) (l : List Int) (h : ((List.range m).map fun (k : Nat) => [(k : Int)])[i]? = some l) : LinkOk l i m := by
  rw [List.getElem?_map] at h
  cases e : (List.range m)[i]? with
  | none => rw [e] at h; cases h
  | some a =>
    obtain ⟨rfl, hi⟩ := range_get e
    rw [e] at h
    cases h
    exact ⟨fun x hx => by rw [List.mem_singleton.mp hx]; omega, List.mem_singleton.mpr rfl, fun k hk => by simp at hk, by simp⟩
theorem filter_ok (m i : Nat) (p : Nat → Bool) (hi : i < m) (hp : p i = true) (hm : m ≤ 100) : LinkOk (((List.range m).filter p).map fun (k : Nat) => (k : Int)) i m := by
  refine ⟨fun x hx => ?_, List.mem_map.mpr ⟨i, List.mem_filter.mpr ⟨List.mem_range.mpr hi, hp⟩, rfl⟩, fun k hk => ?_, ?_⟩
  · obtain ⟨a, ha, rfl⟩ := List.mem_map.mp hx
    have := List.mem_range.mp (List.mem_filter.mp ha).1
    omega
  · have q : (((List.range m).filter p).map fun (k : Nat) => (k : Int)).Pairwise (· < ·) := by
      rw [List.pairwise_map]
      refine (List.Pairwise.filter p List.pairwise_lt_range).imp fun h => ?_
      omega
    exact List.pairwise_iff_getElem.mp q k (k + 1) (by omega) hk (by omega)
  · rw [List.length_map]
    have := List.length_filter_le p (List.range m)
    rw [List.length_range] at this
    omega
theorem s_drawn_links (n : Nat) (h : Pool s S) (m : Nat) (h1 : 1 ≤ m) (hm : m ≤ 4) : Wp (callN tb fl (n + 2) k__law_drawn_links [.ref s, .int m] S) fun v S' => Dr s S S' ∧ ∃ ls : List (List Int), v = .tup (ls.map tI) ∧ ls.length = m ∧ ∀ i l, ls[i]? = some l → LinkOk l i m := by
  rw [u__law_drawn_links]
  have hs := h.lt
  ((try show Wp _ (hide _ ⟨⟩)) <;> simp -dsimp -implicitDefEqProofs [wp_ok, b__law_drawn_links])
  refine (s_take n (h.app _) m (by omega) (by omega)).bind fun v S1 hv => ?_
  obtain ⟨d1, c, rfl, c1, c2⟩ := hv
  have e1 := d1.kp.get1 (get_app_len S (.lst []) []) (by omega)
  have d1 := ((Dr.refl h).app _).trans d1
  ((try show Wp _ (hide _ ⟨⟩)) <;> simp -dsimp -implicitDefEqProofs [wp_ok])
  refine (s_take n d1.pool 4 (by omega) (by omega)).bind fun v S2 hv => ?_
  obtain ⟨d2, c3, rfl, _, _⟩ := hv
  have e2 := d2.kp.get1 e1 (by omega)
  have d2 := d1.trans d2
  ((try show Wp _ (hide _ ⟨⟩)) <;> simp -dsimp -implicitDefEqProofs [wp_ok, rngD_ok _ _ _ rfl (show m ≤ 1000000 by omega)])
  generalize decide (c3 = 0) = cb
  refine Wp.foldR (fun k ρ S' => (∃ x y z, ρ = [some (.ref s), some (.int m), some (.ref S.length), some (.int c), some (.bl cb), x, y, z]) ∧ Dr s S S' ∧ ∃ ls : List (List Int), S'[S.length]? = some (.lst (ls.map tI)) ∧ ls.length = k ∧ ∀ i l, ls[i]? = some l → LinkOk l i m) m ?_ ⟨⟨_, _, _, rfl⟩, d2, [], e2, rfl, fun i l z => by simp at z⟩ ?_
  · intro k hk ρ S3 hi
    obtain ⟨⟨x, y, z, rfl⟩, d3, ls, e3, l3, ok3⟩ := hi
    have fin : ∀ (S4 : Store) (i : Nat) (mo : List Int), Dr s S S4 → S4[S.length]? = some (.lst (ls.map tI)) → S4[i]? = some (.lst (mo.map .int)) → i ≠ S.length → Wp
        ((exs tb (callN tb fl (n + 1)) (.cons (.expr (.app (.var 2) (.lcf .tuple (.var 7) (.nm 7) (.range (.var 1)) (.yes (.or (.cons (.cmp .eq (.var 7) (.var 5)) (.cons (.cmp .in_ (.var 7) (.var 6)) .nil)))) [7]))) .nil) [some (.ref s), some (.int m), some (.ref S.length), some (.int c), some (.bl cb), some (.int k), some (.ref i), z] S4))
        fun x S' => x.1 = .nx ∧ (∃ x_1 y z, x.2 = [some (.ref s), some (.int m), some (.ref S.length), some (.int c), some (.bl cb), x_1, y, z]) ∧ Dr s S S' ∧ ∃ ls : List (List Int), S'[S.length]? = some (.lst (ls.map tI)) ∧ ls.length = k + 1 ∧ ∀ i l, ls[i]? = some l → LinkOk l i m := by
      intro S4 i mo d4 e4 em hn
      have hin : ∀ q : Int, opIn false (.int q) (.ref i) S4 = .ok (.bl (decide (q ∈ mo))) S4 := fun q => by
        ((try show Wp _ (hide _ ⟨⟩)) <;> simp -dsimp -implicitDefEqProofs [wp_ok, opIn, em, flat_ints, inD_ints, D.flat])
      ((try show Wp _ (hide _ ⟨⟩)) <;> simp -dsimp -implicitDefEqProofs [wp_ok, e4, rngD_ok _ _ _ rfl (show m ≤ 1000000 by omega)])
      rw [mapF_filter (fun j : Nat => D.int (j : Int)) (fun j => decide (j = k) || decide ((j : Int) ∈ mo)) (fun j => D.int (j : Int)) (List.range m) (fun j hj => by
        have q0 : (j : Int) = (k : Int) ↔ j = k := by omega
        by_cases q : j = k
        · subst q
          ((try show Wp _ (hide _ ⟨⟩)) <;> simp -dsimp -implicitDefEqProofs [wp_ok])
        · have q3 : ¬ (j : Int) = (k : Int) := by omega
          by_cases q2 : (j : Int) ∈ mo <;> ((try show Wp _ (hide _ ⟨⟩)) <;> simp -dsimp -implicitDefEqProofs [wp_ok, hin, q, q2, q3])) (by rw [sizeLine_eq]; simp; omega)]
      ((try show Wp _ (hide _ ⟨⟩)) <;> simp -dsimp -implicitDefEqProofs [wp_ok, opLF, r_app e4 _ (show (ls.map tI).length < 100000 by simp; omega)])
      refine ⟨d4.set (Nat.le_refl _) (by omega) _, ls ++ [((List.range m).filter (fun j => decide (j = k) || decide ((j : Int) ∈ mo))).map fun (j : Nat) => (j : Int)], ?_, by simp [l3], fun i l hl => ?_⟩
      · rw [get_set_self e4]
        simp [tI]
      · by_cases q : i < ls.length
        · rw [List.getElem?_append_left q] at hl
          exact ok3 i l hl
        · have := get_lt hl
          simp at this
          have q : i = k := by omega
          subst q
          rw [← l3] at hl
          simp at hl
          subst hl
          rw [l3]
          exact filter_ok m i _ hk (by simp) (by omega)
    cases cb with
    | true =>
      ((try show Wp _ (hide _ ⟨⟩)) <;> simp -dsimp -implicitDefEqProofs [wp_ok])
      have q := fin (S3 ++ [.lst [.int c]]) S3.length [c] (d3.app _) (get_app e3 _) (by simp) (by have := get_lt e3; omega)
      (replace q := wp_hid q; simp -dsimp -implicitDefEqProofs at q)
      exact q
    | false =>
      ((try show Wp _ (hide _ ⟨⟩)) <;> simp -dsimp -implicitDefEqProofs [wp_ok, rngD_ok _ _ _ rfl (show m ≤ 1000000 by omega)])
      refine Wp.mapR (fun j acc S' => Dr s S S' ∧ S'[S.length]? = some (.lst (ls.map tI)) ∧ ∃ mo : List Int, acc = mo.map .int) m ?_ ⟨d3, e3, [], rfl⟩ (by omega) ?_
      · intro j hj acc S4 hi
        obtain ⟨d4, e4, mo, rfl⟩ := hi
        ((try show Wp _ (hide _ ⟨⟩)) <;> simp -dsimp -implicitDefEqProofs [wp_ok])
        refine (s_take n d4.pool 3 (by omega) (by omega)).bind fun v S5 hv => ?_
        obtain ⟨d5, c5, rfl, _, _⟩ := hv
        by_cases q : c5 = 0
        · ((try show Wp _ (hide _ ⟨⟩)) <;> simp -dsimp -implicitDefEqProofs [wp_ok, q])
          exact ⟨d4.trans d5, d5.kp.get1 e4 (by omega), mo ++ [(j : Int)], by simp⟩
        · ((try show Wp _ (hide _ ⟨⟩)) <;> simp -dsimp -implicitDefEqProofs [wp_ok, q])
          exact ⟨d4.trans d5, d5.kp.get1 e4 (by omega), mo, rfl⟩
      · intro acc S4 hi
        obtain ⟨d4, e4, mo, rfl⟩ := hi
        have q := fin (S4 ++ [.lst (mo.map .int)]) S4.length mo (d4.app _) (get_app e4 _) (by simp) (by have := get_lt e4; omega)
        (replace q := wp_hid q; simp -dsimp -implicitDefEqProofs at q)
        ((try show Wp _ (hide _ ⟨⟩)) <;> simp -dsimp -implicitDefEqProofs [wp_ok])
        exact q
  · intro ρ S3 hi
    obtain ⟨⟨x, y, z, rfl⟩, d3, ls, e3, l3, ok3⟩ := hi
    ((try show Wp _ (hide _ ⟨⟩)) <;> simp -dsimp -implicitDefEqProofs [wp_ok, r_tuple e3])
    exact ⟨d3, ls, rfl, l3, ok3⟩
theorem s_drawn_steps (n : Nat) (h : Pool s S) (m : Nat) (hm : m ≤ 4) : Wp (callN tb fl (n + 2) k__law_drawn_steps [.ref s, .int m, .int 12] S) fun v S' => Dr s S S' ∧ ∃ st : List Int, v = tI st ∧ st.length = m ∧ ∀ x ∈ st, 1 ≤ x ∧ x ≤ 12 := by
  rw [u__law_drawn_steps]
  ((try show Wp _ (hide _ ⟨⟩)) <;> simp -dsimp -implicitDefEqProofs [wp_ok, b__law_drawn_steps])
  refine (s_take n h 3 (by omega) (by omega)).bind fun v S1 hv => ?_
  obtain ⟨d1, c, rfl, _, _⟩ := hv
  by_cases q : 0 < c
  · ((try show Wp _ (hide _ ⟨⟩)) <;> simp -dsimp -implicitDefEqProofs [wp_ok, q])
    refine (s_take n d1.pool 12 (by omega) (by omega)).bind fun v S2 hv => ?_
    obtain ⟨d2, x, rfl, x1, x2⟩ := hv
    ((try show Wp _ (hide _ ⟨⟩)) <;> simp -dsimp -implicitDefEqProofs [wp_ok, o_rep _ m (by omega)])
    refine ⟨d1.trans d2, List.replicate m (1 + x), ?_, by simp, fun y hy => by have := List.eq_of_mem_replicate hy; omega⟩
    simp [tI]
  · ((try show Wp _ (hide _ ⟨⟩)) <;> simp -dsimp -implicitDefEqProofs [wp_ok, q, rngD_ok _ _ _ rfl (show m ≤ 1000000 by omega)])
    refine Wp.mapR (fun j acc S' => Dr s S S' ∧ ∃ st : List Int, acc = st.map .int ∧ st.length = j ∧ ∀ x ∈ st, 1 ≤ x ∧ x ≤ 12) m ?_ ⟨d1, [], rfl, rfl, by simp⟩ (by omega) ?_
    · intro j hj acc S4 hi
      obtain ⟨d4, st, rfl, l4, ok4⟩ := hi
      ((try show Wp _ (hide _ ⟨⟩)) <;> simp -dsimp -implicitDefEqProofs [wp_ok])
      refine (s_take n d4.pool 12 (by omega) (by omega)).bind fun v S5 hv => ?_
      obtain ⟨d5, c5, rfl, _, _⟩ := hv
      ((try show Wp _ (hide _ ⟨⟩)) <;> simp -dsimp -implicitDefEqProofs [wp_ok])
      refine ⟨d4.trans d5, st ++ [1 + c5], by simp, by simp [l4], fun x hx => ?_⟩
      rcases List.mem_append.mp hx with z | z
      · exact ok4 x z
      · rw [List.mem_singleton.mp z]
        omega
    · intro acc S4 hi
      obtain ⟨d4, st, rfl, l4, ok4⟩ := hi
      ((try show Wp _ (hide _ ⟨⟩)) <;> simp -dsimp -implicitDefEqProofs [wp_ok, opLF])
      exact ⟨d4, st, rfl, l4, ok4⟩
theorem s_plain_book (n : Nat) (h : Pool s S) : Wp (callN tb fl (n + 3) k__law_plain_book [.ref s, .int 4, .int 12] S) fun v S' => Dr s S S' ∧ ∃ b : Bk, v = b.D ∧ b.Ok := by
  rw [u__law_plain_book]
  ((try show Wp _ (hide _ ⟨⟩)) <;> simp -dsimp -implicitDefEqProofs [wp_ok, b__law_plain_book])
  refine (s_take (n + 1) h 4 (by omega) (by omega)).bind fun v S1 hv => ?_
  obtain ⟨d1, c, rfl, c1, c2⟩ := hv
  obtain ⟨m, hm⟩ : ∃ m : Nat, 1 + c = (m : Int) := ⟨(1 + c).toNat, by omega⟩
  ((try show Wp _ (hide _ ⟨⟩)) <;> simp -dsimp -implicitDefEqProofs [wp_ok, hm])
  refine (s_drawn_steps n d1.pool m (by omega)).bind fun v S2 hv => ?_
  obtain ⟨d2, st, rfl, l2, ok2⟩ := hv
  ((try show Wp _ (hide _ ⟨⟩)) <;> simp -dsimp -implicitDefEqProofs [wp_ok, s_plain_links (n + 1) m (by omega)])
  refine ⟨d1.trans d2, ⟨st, (List.range m).map fun (k : Nat) => [(k : Int)]⟩, ?_, ⟨by simp [l2], by show 1 ≤ st.length; omega, by show st.length ≤ 4; omega, ok2, fun i l hl => ?_⟩⟩
  · simp [Bk.D]
  · show LinkOk l i st.length
    rw [l2]
    exact plain_ok m i l hl
theorem s_linked_book (n : Nat) (h : Pool s S) : Wp (callN tb fl (n + 3) k__law_linked_book [.ref s, .int 4, .int 12] S) fun v S' => Dr s S S' ∧ ∃ b : Bk, v = b.D ∧ b.Ok := by
  rw [u__law_linked_book]
  ((try show Wp _ (hide _ ⟨⟩)) <;> simp -dsimp -implicitDefEqProofs [wp_ok, b__law_linked_book])
  refine (s_take (n + 1) h 4 (by omega) (by omega)).bind fun v S1 hv => ?_
  obtain ⟨d1, c, rfl, c1, c2⟩ := hv
  obtain ⟨m, hm⟩ : ∃ m : Nat, 1 + c = (m : Int) := ⟨(1 + c).toNat, by omega⟩
  ((try show Wp _ (hide _ ⟨⟩)) <;> simp -dsimp -implicitDefEqProofs [wp_ok, hm])
  refine (s_drawn_steps n d1.pool m (by omega)).bind fun v S2 hv => ?_
  obtain ⟨d2, st, rfl, l2, ok2⟩ := hv
  ((try show Wp _ (hide _ ⟨⟩)) <;> simp -dsimp -implicitDefEqProofs [wp_ok])
  refine (s_drawn_links n d2.pool m (by omega) (by omega)).bind fun v S3 hv => ?_
  obtain ⟨d3, ls, rfl, l3, ok3⟩ := hv
  ((try show Wp _ (hide _ ⟨⟩)) <;> simp -dsimp -implicitDefEqProofs [wp_ok])
  refine ⟨(d1.trans d2).trans d3, ⟨st, ls⟩, ⟨rfl, rfl⟩, ⟨by show ls.length = st.length; omega, by show 1 ≤ st.length; omega, by show st.length ≤ 4; omega, ok2, fun i l hl => ?_⟩⟩
  show LinkOk l i st.length
  rw [l2]
  exact ok3 i l hl
theorem s_some_book (n : Nat) (h : Pool s S) : Wp (callN tb fl (n + 4) k__law_some_book [.ref s, .int 4, .int 12] S) fun v S' => Dr s S S' ∧ ∃ b : Bk, v = b.D ∧ b.Ok := by
  rw [u__law_some_book]
  ((try show Wp _ (hide _ ⟨⟩)) <;> simp -dsimp -implicitDefEqProofs [wp_ok, b__law_some_book])
  refine (s_take (n + 2) h 2 (by omega) (by omega)).bind fun v S1 hv => ?_
  obtain ⟨d1, c, rfl, c1, c2⟩ := hv
  by_cases q : c = 0
  · ((try show Wp _ (hide _ ⟨⟩)) <;> simp -dsimp -implicitDefEqProofs [wp_ok, q])
    refine (s_plain_book n d1.pool).bind fun v S2 hv => ?_
    obtain ⟨d2, b, rfl, ok⟩ := hv
    ((try show Wp _ (hide _ ⟨⟩)) <;> simp -dsimp -implicitDefEqProofs [wp_ok])
    exact ⟨d1.trans d2, b, ⟨rfl, rfl⟩, ok⟩
  · ((try show Wp _ (hide _ ⟨⟩)) <;> simp -dsimp -implicitDefEqProofs [wp_ok, q])
    refine (s_linked_book n d1.pool).bind fun v S2 hv => ?_
    obtain ⟨d2, b, rfl, ok⟩ := hv
    ((try show Wp _ (hide _ ⟨⟩)) <;> simp -dsimp -implicitDefEqProofs [wp_ok])
    exact ⟨d1.trans d2, b, ⟨rfl, rfl⟩, ok⟩
/-! ### lines, histories, states -/
structure LineOk (l : List Int) (m : Nat) : Prop where
  len : l.length = m
  rng : ∀ x ∈ l, -3 ≤ x ∧ x ≤ 3
  nz : ∃ x ∈ l, x ≠ 0
theorem pyAll_ints (l : List Int) : D.pyAll (l.map .int) = some (l.map .int) := by
  induction l with
  | nil => rfl
  | cons a r ih => simp [D.pyAll, D.py, ih]
theorem lay_ints (l : List Int) : PyData.canLayAll0 (l.map .int) = true := by
  induction l with
  | nil => rfl
  | cons a r ih => simp [PyData.canLayAll0, PyData.canLay0, ih]
theorem depth_ints (l : List Int) : PyData.depthAll (l.map .int) = 0 := by
  induction l with
  | nil => rfl
  | cons a r ih => simp [PyData.depthAll, PyData.depth, ih]
theorem nil_ints (k : LF) (l : List Int) (S : Store) (h : k = .eqNil ∨ k = .neNil) : opLF k (l.map .int) S = .ok (.bl (if k = .eqNil then l.isEmpty else !l.isEmpty)) S := by
  rcases h with rfl | rfl <;> simp [opLF, pyAll_ints, SeqAt.shaped, PyData.canLay0, PyData.depth, lay_ints, depth_ints]
theorem s_drawn_line (n : Nat) (h : Pool s S) (m : Nat) (h1 : 1 ≤ m) (hm : m ≤ 4) : Wp (callN tb fl (n + 2) k__law_drawn_line [.ref s, .int m] S) fun v S' => Dr s S S' ∧ ∃ l : List Int, v = tI l ∧ LineOk l m := by
  rw [u__law_drawn_line]
  ((try show Wp _ (hide _ ⟨⟩)) <;> simp -dsimp -implicitDefEqProofs [wp_ok, b__law_drawn_line])
  refine (s_take n h 3 (by omega) (by omega)).bind fun v S1 hv => ?_
  obtain ⟨d1, c, rfl, _, _⟩ := hv
  by_cases q : c = 0
  · ((try show Wp _ (hide _ ⟨⟩)) <;> simp -dsimp -implicitDefEqProofs [wp_ok, q, o_rep _ m (by omega)])
    refine ⟨d1, List.replicate m 1, by simp [tI], by simp, fun x hx => by have := List.eq_of_mem_replicate hx; omega, 1, List.mem_replicate.mpr ⟨by omega, rfl⟩, by omega⟩
  ((try show Wp _ (hide _ ⟨⟩)) <;> simp -dsimp -implicitDefEqProofs [wp_ok, q])
  by_cases q : c = 1
  · ((try show Wp _ (hide _ ⟨⟩)) <;> simp -dsimp -implicitDefEqProofs [wp_ok, q, rngD_ok _ _ _ rfl (show m ≤ 1000000 by omega)])
    refine Wp.mapR (fun j acc S' => Dr s S S' ∧ ∃ st : List Int, acc = st.map .int ∧ st.length = j ∧ ∀ x ∈ st, -3 ≤ x ∧ x ≤ 3 ∧ x ≠ 0) m ?_ ⟨d1, [], rfl, rfl, by simp⟩ (by omega) ?_
    · intro j hj acc S4 hi
      obtain ⟨d4, st, rfl, l4, ok4⟩ := hi
      ((try show Wp _ (hide _ ⟨⟩)) <;> simp -dsimp -implicitDefEqProofs [wp_ok])
      refine (s_take n d4.pool 2 (by omega) (by omega)).bind fun v S5 hv => ?_
      obtain ⟨d5, c5, rfl, _, _⟩ := hv
      ((try show Wp _ (hide _ ⟨⟩)) <;> simp -dsimp -implicitDefEqProofs [wp_ok, o_mul 2 c5 _ (by omega)])
      refine ⟨d4.trans d5, st ++ [1 - 2 * c5], by simp, by simp [l4], fun x hx => ?_⟩
      rcases List.mem_append.mp hx with z | z
      · exact ok4 x z
      · rw [List.mem_singleton.mp z]
        omega
    · intro acc S4 hi
      obtain ⟨d4, st, rfl, l4, ok4⟩ := hi
      ((try show Wp _ (hide _ ⟨⟩)) <;> simp -dsimp -implicitDefEqProofs [wp_ok, opLF])
      have hne : 0 < st.length := by omega
      exact ⟨d4, st, rfl, l4, fun x hx => by have := ok4 x hx; omega, st[0], List.getElem_mem hne, (ok4 st[0] (List.getElem_mem hne)).2.2⟩
  ((try show Wp _ (hide _ ⟨⟩)) <;> simp -dsimp -implicitDefEqProofs [wp_ok, q, rngD_ok _ _ _ rfl (show m ≤ 1000000 by omega)])
  refine Wp.mapR (fun j acc S' => Dr s S S' ∧ ∃ st : List Int, acc = st.map .int ∧ st.length = j ∧ ∀ x ∈ st, -3 ≤ x ∧ x ≤ 3) m ?_ ⟨d1, [], rfl, rfl, by simp⟩ (by omega) ?_
  · intro j hj acc S4 hi
    obtain ⟨d4, st, rfl, l4, ok4⟩ := hi
    ((try show Wp _ (hide _ ⟨⟩)) <;> simp -dsimp -implicitDefEqProofs [wp_ok])
    refine (s_take n d4.pool 7 (by omega) (by omega)).bind fun v S5 hv => ?_
    obtain ⟨d5, c5, rfl, _, _⟩ := hv
    ((try show Wp _ (hide _ ⟨⟩)) <;> simp -dsimp -implicitDefEqProofs [wp_ok])
    refine ⟨d4.trans d5, st ++ [c5 - 3], by simp, by simp [l4], fun x hx => ?_⟩
    rcases List.mem_append.mp hx with z | z
    · exact ok4 x z
    · rw [List.mem_singleton.mp z]
      omega
  · intro acc S4 hi
    obtain ⟨d4, st, rfl, l4, ok4⟩ := hi
    ((try show Wp _ (hide _ ⟨⟩)) <;> simp -dsimp -implicitDefEqProofs [wp_ok, opLF])
    rw [mapF_filter D.int (fun x => !decide (x = 0)) D.int st (fun x hx => by
      by_cases z : x = 0 <;> ((try show Wp _ (hide _ ⟨⟩)) <;> simp -dsimp -implicitDefEqProofs [wp_ok, z])) (by rw [sizeLine_eq]; omega)]
    ((try show Wp _ (hide _ ⟨⟩)) <;> simp -dsimp -implicitDefEqProofs [wp_ok, nil_ints .neNil _ _ (.inr rfl)])
    by_cases z : (st.filter fun x => !decide (x = 0)).isEmpty = true
    · have z2 : ∀ x ∈ st, x = 0 := by simpa using z
      cases st with
      | nil => simp at l4; omega
      | cons a r =>
        have l5 : r.length + 1 = m := l4
        ((try show Wp _ (hide _ ⟨⟩)) <;> simp -dsimp -implicitDefEqProofs [wp_ok, z, opSlc, cut1])
        rw [o_addt _ _ _ (by rw [sizeLine_eq]; simp; omega)]
        ((try show Wp _ (hide _ ⟨⟩)) <;> simp -dsimp -implicitDefEqProofs [wp_ok])
        refine ⟨d4, 1 :: r, rfl, l4, fun x hx => ?_, 1, List.mem_cons_self .., by omega⟩
        rcases List.mem_cons.mp hx with rfl | hx
        · omega
        · exact ok4 x (List.mem_cons_of_mem _ hx)
    · have z2 : ∃ x ∈ st, x ≠ 0 := by simpa using z
      ((try show Wp _ (hide _ ⟨⟩)) <;> simp -dsimp -implicitDefEqProofs [wp_ok, z])
      exact ⟨d4, st, rfl, l4, ok4, z2⟩
/-- a move: a part, a way -/
structure Mv where
  part : Nat
  way : Int
abbrev Mv.D (v : Mv) : D := .tup [.int (v.part : Int), .int v.way]
structure Mv.Ok (m : Nat) (v : Mv) : Prop where
  lt : v.part < m
  way : v.way = 1 ∨ v.way = -1
abbrev HD (l : List Mv) : D := .tup (l.map Mv.D)
theorem s_drawn_history (n : Nat) (h : Pool s S) (m : Nat) (h1 : 1 ≤ m) (hm : m ≤ 4) : Wp (callN tb fl (n + 2) k__law_drawn_history [.ref s, .int m, .int 4] S) fun v S' => Dr s S S' ∧ ∃ l : List Mv, v = HD l ∧ l.length ≤ 4 ∧ ∀ x ∈ l, x.Ok m := by
  rw [u__law_drawn_history]
  have hs := h.lt
  ((try show Wp _ (hide _ ⟨⟩)) <;> simp -dsimp -implicitDefEqProofs [wp_ok, b__law_drawn_history, rngD_ok 4 4 _ rfl (by decide)])
  refine Wp.foldR (fun k ρ S' => (∃ x y z, ρ = [some (.ref s), some (.int m), some (.int 4), some (.ref S.length), x, y, z]) ∧ Dr s S S' ∧ ∃ l : List Mv, S'[S.length]? = some (.lst (l.map Mv.D)) ∧ l.length ≤ 4 ∧ ∀ x ∈ l, x.Ok m) 4 ?_ ⟨⟨_, _, _, rfl⟩, (Dr.refl h).app _, [], by simp, by simp, by simp⟩ ?_
  · intro k hk ρ S1 hi
    obtain ⟨⟨x, y, z, rfl⟩, d1, l, e1, l1, ok1⟩ := hi
    ((try show Wp _ (hide _ ⟨⟩)) <;> simp -dsimp -implicitDefEqProofs [wp_ok, r_len e1])
    by_cases q : l.length < 4
    · ((try show Wp _ (hide _ ⟨⟩)) <;> simp -dsimp -implicitDefEqProofs [wp_ok, show (l.length : Int) < 4 by omega])
      refine (s_take n d1.pool 6 (by omega) (by omega)).bind fun v S2 hv => ?_
      obtain ⟨d2, c, rfl, _, _⟩ := hv
      have e2 := d2.kp.get1 e1 (by omega)
      have d2 := d1.trans d2
      by_cases q2 : 0 < c
      · ((try show Wp _ (hide _ ⟨⟩)) <;> simp -dsimp -implicitDefEqProofs [wp_ok, q2])
        refine (s_take n d2.pool m (by omega) (by omega)).bind fun v S3 hv => ?_
        obtain ⟨d3, c, rfl, c1, c2⟩ := hv
        obtain ⟨p, rfl⟩ := Int.eq_ofNat_of_zero_le c1
        have e3 := d3.kp.get1 e2 (by omega)
        have d3 := d2.trans d3
        ((try show Wp _ (hide _ ⟨⟩)) <;> simp -dsimp -implicitDefEqProofs [wp_ok])
        refine (s_take n d3.pool 2 (by omega) (by omega)).bind fun v S4 hv => ?_
        obtain ⟨d4, w, rfl, w1, w2⟩ := hv
        have e4 := d4.kp.get1 e3 (by omega)
        have d4 := d3.trans d4
        ((try show Wp _ (hide _ ⟨⟩)) <;> simp -dsimp -implicitDefEqProofs [wp_ok, o_mul 2 w _ (by omega)])
        refine (s_take n d4.pool 3 (by omega) (by omega)).bind fun v S5 hv => ?_
        obtain ⟨d5, c3, rfl, _, _⟩ := hv
        have e5 := d5.kp.get1 e4 (by omega)
        have d5 := d4.trans d5
        have mok : (Mv.mk p (1 - 2 * w)).Ok m := ⟨by show p < m; omega, by show 1 - 2 * w = 1 ∨ 1 - 2 * w = -1; omega⟩
        have fin : ∀ (S6 : Store) (t : Int) (x : Option D), Dr s S S6 → S6[S.length]? = some (.lst (l.map Mv.D)) → 1 ≤ t →
            Wp (exs tb (callN tb fl (n + 1)) (.cons (.expr (.ext (.var 3) (.bin .mul (.lst (.cons (.var 5) .nil)) (.bi .min2 (.cons (.var 6) (.cons (.bin .sub (.var 2) (.bi .len (.cons (.var 3) .nil))) .nil)))))) .nil) [some (.ref s), some (.int m), some (.int 4), some (.ref S.length), x, some (.tup [.int p, .int (1 - 2 * w)]), some (.int t)] S6)
              fun x S' => x.1 = .nx ∧ (∃ x_1 y z, x.2 = [some (.ref s), some (.int m), some (.int 4), some (.ref S.length), x_1, y, z]) ∧ Dr s S S' ∧ ∃ l : List Mv, S'[S.length]? = some (.lst (l.map Mv.D)) ∧ l.length ≤ 4 ∧ ∀ x ∈ l, x.Ok m := by
          intro S6 t x d6 e6 ht
          obtain ⟨r, hr, hr2⟩ : ∃ r : Nat, (if 4 - (l.length : Int) < t then 4 - (l.length : Int) else t) = (r : Int) ∧ r + l.length ≤ 4 := ⟨(if 4 - (l.length : Int) < t then 4 - (l.length : Int) else t).toNat, by split <;> omega, by split <;> omega⟩
          ((try show Wp _ (hide _ ⟨⟩)) <;> simp -dsimp -implicitDefEqProofs [wp_ok, e6, r_len e6, hr])
          rw [r_len (get_app e6 _)]
          ((try show Wp _ (hide _ ⟨⟩)) <;> simp -dsimp -implicitDefEqProofs [wp_ok, hr])
          rw [r_rep (D.tup [.int p, .int (1 - 2 * w)]) r (by omega) (get_app_len ..)]
          ((try show Wp _ (hide _ ⟨⟩)) <;> simp -dsimp -implicitDefEqProofs [wp_ok])
          rw [r_ext (l := l.map Mv.D) (k := List.replicate r (D.tup [.int p, .int (1 - 2 * w)])) (get_app e6 _) (by simp) (by simp; omega)]
          ((try show Wp _ (hide _ ⟨⟩)) <;> simp -dsimp -implicitDefEqProofs [wp_ok])
          refine ⟨(d6.app _).set (Nat.le_refl _) (by omega) _, l ++ List.replicate r (Mv.mk p (1 - 2 * w)), ?_, by simp; omega, fun x hx => ?_⟩
          · rw [get_set_self (get_app e6 _)]
            simp [Mv.D]
          · rcases List.mem_append.mp hx with z | z
            · exact ok1 x z
            · rw [List.eq_of_mem_replicate z]
              exact mok
        by_cases q3 : c3 = 0
        · ((try show Wp _ (hide _ ⟨⟩)) <;> simp -dsimp -implicitDefEqProofs [wp_ok, q3])
          refine (s_take n d5.pool 6 (by omega) (by omega)).bind fun v S6 hv => ?_
          obtain ⟨d6, c6, rfl, _, _⟩ := hv
          have q := fin S6 (1 + c6) (some (.int k)) (d5.trans d6) (d6.kp.get1 e5 (by omega)) (by omega)
          (replace q := wp_hid q; simp -dsimp -implicitDefEqProofs at q)
          ((try show Wp _ (hide _ ⟨⟩)) <;> simp -dsimp -implicitDefEqProofs [wp_ok])
          exact q
        · ((try show Wp _ (hide _ ⟨⟩)) <;> simp -dsimp -implicitDefEqProofs [wp_ok, q3])
          have q := fin S5 1 (some (.int k)) d5 e5 (by omega)
          (replace q := wp_hid q; simp -dsimp -implicitDefEqProofs at q)
          exact q
      · ((try show Wp _ (hide _ ⟨⟩)) <;> simp -dsimp -implicitDefEqProofs [wp_ok, q2])
        exact ⟨d2, l, e2, l1, ok1⟩
    · ((try show Wp _ (hide _ ⟨⟩)) <;> simp -dsimp -implicitDefEqProofs [wp_ok, show ¬ (l.length : Int) < 4 by omega])
      exact ⟨d1, l, e1, l1, ok1⟩
  · intro ρ S1 hi
    obtain ⟨⟨x, y, z, rfl⟩, d1, l, e1, l1, ok1⟩ := hi
    ((try show Wp _ (hide _ ⟨⟩)) <;> simp -dsimp -implicitDefEqProofs [wp_ok, r_tuple e1])
    exact ⟨d1, l, rfl, l1, ok1⟩
end
end K76P
set_option Elab.async false
set_option linter.all false
set_option maxRecDepth 100000
set_option autoImplicit false
set_option maxHeartbeats 2000000
/-! P2b: drawn states, the pool -/
namespace K76P
open PySem K76
section
variable {s : Nat} {S S1 S2 : Store}
theorem s_far_state (n : Nat) (h : Pool s S) (b : Bk) (hb : b.Ok) : Wp (callN tb fl (n + 2) k__law_far_state [.ref s, b.D] S) fun v S' => Dr s S S' ∧ ∃ tr sh : List Int, v = stD tr sh ∧ tr.length = b.steps.length ∧ sh.length = b.steps.length ∧ (∀ x ∈ tr, -1000 ≤ x ∧ x ≤ 1000) ∧ ∀ x ∈ sh, -1000 ≤ x ∧ x ≤ 1000 := by
  rw [u__law_far_state]
  have hm := hb.m4
  ((try show Wp _ (hide _ ⟨⟩)) <;> simp -dsimp -implicitDefEqProofs [wp_ok, b__law_far_state, Bk.D, tI, rngD_ok _ _ _ rfl (show b.steps.length ≤ 1000000 by omega)])
  refine Wp.mapR (fun j acc S' => Dr s S S' ∧ ∃ st : List Int, acc = st.map .int ∧ st.length = j ∧ ∀ x ∈ st, -1000 ≤ x ∧ x ≤ 1000) b.steps.length ?_ ⟨Dr.refl h, [], rfl, rfl, by simp⟩ (by omega) ?_
  · intro j hj acc S4 hi
    obtain ⟨d4, st, rfl, l4, ok4⟩ := hi
    ((try show Wp _ (hide _ ⟨⟩)) <;> simp -dsimp -implicitDefEqProofs [wp_ok])
    refine (s_take n d4.pool 2000 (by omega) (by omega)).bind fun v S5 hv => ?_
    obtain ⟨d5, c5, rfl, _, _⟩ := hv
    ((try show Wp _ (hide _ ⟨⟩)) <;> simp -dsimp -implicitDefEqProofs [wp_ok])
    refine ⟨d4.trans d5, st ++ [c5 - 1000], by simp, by simp [l4], fun x hx => ?_⟩
    rcases List.mem_append.mp hx with z | z
    · exact ok4 x z
    · rw [List.mem_singleton.mp z]
      omega
  · intro acc S4 hi
    obtain ⟨d4, tr, rfl, l4, ok4⟩ := hi
    ((try show Wp _ (hide _ ⟨⟩)) <;> simp -dsimp -implicitDefEqProofs [wp_ok, opLF, rngD_ok _ _ _ rfl (show b.steps.length ≤ 1000000 by omega)])
    refine Wp.mapR (fun j acc S' => Dr s S S' ∧ ∃ st : List Int, acc = st.map .int ∧ st.length = j ∧ ∀ x ∈ st, -1000 ≤ x ∧ x ≤ 1000) b.steps.length ?_ ⟨d4, [], rfl, rfl, by simp⟩ (by omega) ?_
    · intro j hj acc S4 hi
      obtain ⟨d4, st, rfl, l4, ok4⟩ := hi
      ((try show Wp _ (hide _ ⟨⟩)) <;> simp -dsimp -implicitDefEqProofs [wp_ok])
      refine (s_take n d4.pool 300 (by omega) (by omega)).bind fun v S5 hv => ?_
      obtain ⟨d5, c5, rfl, _, _⟩ := hv
      ((try show Wp _ (hide _ ⟨⟩)) <;> simp -dsimp -implicitDefEqProofs [wp_ok])
      refine ⟨d4.trans d5, st ++ [c5 - 150], by simp, by simp [l4], fun x hx => ?_⟩
      rcases List.mem_append.mp hx with z | z
      · exact ok4 x z
      · rw [List.mem_singleton.mp z]
        omega
    · intro acc S5 hi
      obtain ⟨d5, sh, rfl, l5, ok5⟩ := hi
      ((try show Wp _ (hide _ ⟨⟩)) <;> simp -dsimp -implicitDefEqProofs [wp_ok, opLF])
      exact ⟨d5, tr, sh, ⟨rfl, rfl⟩, l4, l5, ok4, ok5⟩
theorem s_pool (n : Nat) (x : D) (ns : List Int) (hl : opBI .len [x] S = .ok (.int ns.length) S) (hi : ∀ a r, ns = a :: r → opIdx x (.int 0) S = .ok (.int a) S) (hn : ns = [] → opEqNil true x S = .ok (.bl false) S) :
    Wp (callN tb fl (n + 1) k__law_pool [x, .int 0] S) fun v S' => v = .ref S.length ∧ ∃ a b : Int, S' = S ++ [.lst [.int a, .int b]] ∧ 0 ≤ b ∧ b < 2147483647 := by
  rw [u__law_pool]
  have d1 := fun c : Int => Int.emod_nonneg c (show (2147483647 : Int) ≠ 0 by omega)
  have d2 := fun c : Int => Int.emod_lt_of_pos c (show (0 : Int) < 2147483647 by omega)
  have m1 : ∀ c : Int, opBin .mod (.int c) (.int 2147483647) S = .ok (.int (c % 2147483647)) S := fun c => o_mod _ _ _ (by omega)
  have m2 : ∀ c : Int, opBin .mod (.int c) (.int 2147483629) S = .ok (.int (c % 2147483629)) S := fun c => o_mod _ _ _ (by omega)
  have m3 : ∀ c : Int, opBin .mul (.int c) (.int 48271) S = .ok (.int (c * 48271)) S := fun c => o_mul2 _ _ _ (by omega)
  have m4 : opBin .mul (.int 7919) (.int 0) S = .ok (.int 0) S := o_mul 7919 0 _ (by omega)
  have m5 : opBin .mul (.int 0) (.int 0) S = .ok (.int 0) S := o_mul 0 0 _ (by omega)
  have m6 : opBin .mul (.int 31) (.int 0) S = .ok (.int 0) S := o_mul 31 0 _ (by omega)
  have m7 : opBin .pow (.int 10) (.int 18) S = .ok (.int (10 ^ 18)) S := by kernel_rfl
  have m8 : ∀ c : Int, ∀ t : Bool, opBI .int1 [.bl t] S = .ok (.int (if t then 1 else 0)) S := fun c t => rfl
  have m9 : ∀ c : Int, ∀ t : Bool, opBin .mul (.int c) (.int (if t then 1 else 0)) S = .ok (.int (c * (if t then 1 else 0))) S := fun c t => o_mul2 _ _ _ (by cases t <;> simp)
  cases ns with
  | nil =>
    ((try show Wp _ (hide _ ⟨⟩)) <;> simp -dsimp -implicitDefEqProofs [wp_ok, b__law_pool, hl, hn rfl, m1, m2, m3, m4, m5, m6, m7, m8 0 false])
    exact ⟨_, _, ⟨rfl, rfl⟩, by omega, by omega⟩
  | cons a r =>
    ((try show Wp _ (hide _ ⟨⟩)) <;> simp -dsimp -implicitDefEqProofs [wp_ok, b__law_pool, hl, hi a r rfl, m1, m2, m3, m4, m5, m6, m7, show (0 : Int) < r.length + 1 by omega])
    cases decide (1000000000000000000 ≤ if a < -1 - a then -1 - a else a) with
    | true =>
      ((try show Wp _ (hide _ ⟨⟩)) <;> simp -dsimp -implicitDefEqProofs [wp_ok, m8 0 true, o_mul2 _ 1 _ (show (-(2 ^ 64) : Int) < 1 ∧ (1 : Int) < 2 ^ 64 by omega)])
      exact ⟨_, _, ⟨rfl, rfl⟩, d1 _, d2 _⟩
    | false =>
      ((try show Wp _ (hide _ ⟨⟩)) <;> simp -dsimp -implicitDefEqProofs [wp_ok, m8 0 false, o_mul2 _ 0 _ (show (-(2 ^ 64) : Int) < 0 ∧ (0 : Int) < 2 ^ 64 by omega)])
      exact ⟨_, _, ⟨rfl, rfl⟩, d1 _, d2 _⟩
end
end K76P
set_option Elab.async false
set_option linter.all false
set_option maxRecDepth 100000
set_option autoImplicit false
set_option maxHeartbeats 2000000
/-! P3: names, lines, states: looked at -/
namespace K76P
open PySem K76
/-! ### loops that end early -/
theorem foldF_app (step : D → Ev → Store → Res (Fl × Ev)) : ∀ (l k : List D) (ρ : Ev) (S : Store), foldF step (l ++ k) ρ S = (foldF step l ρ S).bind fun x S' => match x with
    | (.nx, ρ') => foldF step k ρ' S'
    | (.rt d, ρ') => .ok (.rt d, ρ') S'
  | [], k, ρ, S => rfl
  | d :: l, k, ρ, S => by
    show (step d ρ S).bind _ = Res.bind ((step d ρ S).bind _) _
    cases step d ρ S with
    | ok x S' =>
      obtain ⟨f, ρ'⟩ := x
      cases f with
      | nx => exact foldF_app step l k ρ' S'
      | rt d => rfl
    | exc c d S' => rfl
    | bad => rfl
theorem foldF_exc {α : Type} {step : D → Ev → Store → Res (Fl × Ev)} {S : Store} (enc : α → D) (P : Ev → Prop) (l : List α) (d : D) (r : List D) (ρ : Ev) (c : Nat) (x : D)
    (h : ∀ a ∈ l, ∀ ρ, P ρ → ∃ ρ', step (enc a) ρ S = .ok (.nx, ρ') S ∧ P ρ') (hp : P ρ) (hd : ∀ ρ, P ρ → step d ρ S = .exc c x S) : foldF step (l.map enc ++ d :: r) ρ S = .exc c x S := by
  obtain ⟨ρ', e, q⟩ := foldF_nx enc P l ρ h hp
  rw [foldF_app, e]
  show (step d ρ' S).bind _ = _
  rw [hd ρ' q]
  rfl
theorem fold_exc {α β : Type} {step : D → Ev → Store → Res (Fl × Ev)} {S : Store} {k : Fl × Ev → Store → Res β} (enc : α → D) (P : Ev → Prop) (l : List α) (d : D) (r : List D) (ρ : Ev) (c : Nat) (x : D)
    (h : ∀ a ∈ l, ∀ ρ, P ρ → ∃ ρ', step (enc a) ρ S = .ok (.nx, ρ') S ∧ P ρ') (hp : P ρ) (hd : ∀ ρ, P ρ → step d ρ S = .exc c x S) : (foldF step (l.map enc ++ d :: r) ρ S).bind k = .exc c x S := by
  rw [foldF_exc enc P l d r ρ c x h hp hd]
  rfl
theorem foldF_cons (step : D → Ev → Store → Res (Fl × Ev)) (d : D) (r : List D) (ρ : Ev) (S : Store) : foldF step (d :: r) ρ S = (step d ρ S).bind fun x S' => match x with
    | (.nx, ρ') => foldF step r ρ' S'
    | (.rt d, ρ') => .ok (.rt d, ρ') S' := rfl
theorem allBls_rep (m : Nat) (x : Bool) : allBls (List.replicate m (.bl x)) = some (List.replicate m x) := by
  induction m with
  | zero => rfl
  | succ k ih => simp [List.replicate_succ, allBls, ih]
theorem enumL_app : ∀ (k : Nat) (l r : List D), enumL k (l ++ r) = enumL k l ++ enumL (k + l.length) r
  | k, [], r => rfl
  | k, d :: l, r => by
    show D.tup [.int k, d] :: enumL (k + 1) (l ++ r) = _
    rw [enumL_app (k + 1) l r, show k + (d :: l).length = k + 1 + l.length by simp; omega]
    rfl
/-! ### names -/
theorem flat_strs (l : List Str) : (l.map D.str).all D.flat = true := by
  induction l with
  | nil => rfl
  | cons a r ih => simp [D.flat, ih]
theorem inD_strs (i : Str) (l : List Str) : inD (.str i) (l.map .str) = decide (i ∈ l) := by
  unfold inD
  induction l with
  | nil => simp
  | cons a r ih =>
    rw [List.map_cons, List.any_cons, ih, show D.eqf (.str a) (.str i) = (a == i) from rfl]
    by_cases e : a = i
    · subst e; simp
    · have e2 : ¬ i = a := fun z => e z.symm
      simp [e, e2]
theorem opIn_strs (neg : Bool) (i : Str) (l : List Str) (S : Store) : opIn neg (.str i) (.tup (l.map .str)) S = .ok (.bl (if neg then !decide (i ∈ l) else decide (i ∈ l))) S := by
  show (if ((D.str i).flat && (l.map D.str).all D.flat) = true then Res.ok (D.bl (if neg then !inD (.str i) (l.map .str) else inD (.str i) (l.map .str))) S else .bad) = _
  rw [flat_strs, inD_strs]
  rfl
/-- all names that are met -/
def poolN : List Str := pool6 ++ ([("bob" : Str), "cid", "dot"] : List Str)
theorem name_ok (n : Nat) (S : Store) : ∀ x ∈ poolN, callN tb fl (n + 1) k_is_name [.str x] S = .ok (.bl true) S := by
  intro x hx
  simp only [poolN, pool6, List.cons_append, List.nil_append, List.mem_cons, List.not_mem_nil, or_false] at hx
  rcases hx with rfl | rfl | rfl | rfl | rfl | rfl | rfl | rfl | rfl <;> kernel_rfl
def odds : List D := [.str "", .str "Ann", .str "9a", .str "aaaaaaaaaaaaa", .str "line", .non, .int 7, .str "a_b"]
theorem name_odd (n : Nat) (S : Store) : ∀ x ∈ odds, callN tb fl (n + 1) k_is_name [x] S = .ok (.bl false) S := by
  intro x hx
  simp only [odds, List.mem_cons, List.not_mem_nil, or_false] at hx
  rcases hx with rfl | rfl | rfl | rfl | rfl | rfl | rfl | rfl <;> kernel_rfl
structure NamesOk (ns : List Str) (m : Nat) : Prop where
  len : ns.length = m
  nd : ns.Nodup
  pool : ∀ x ∈ ns, x ∈ poolN
theorem nodup_take {ns : List Str} {x : Str} {i : Nat} (nd : ns.Nodup) (h : ns[i]? = some x) : x ∉ ns.take i := fun z => by
  obtain ⟨j, hj, e⟩ := List.mem_take_iff_getElem.mp z
  have hi := get_lt h
  have hj2 : j < ns.length := by omega
  have e2 : ns[j] = ns[i] := by
    rw [e]
    exact (List.getElem?_eq_some_iff.mp h).2.symm
  exact List.pairwise_iff_getElem.mp nd j i hj2 hi (by omega) e2
theorem s_want_names (n : Nat) (b : Bk) (hb : b.Ok) (ns : List Str) (h : NamesOk ns b.steps.length) (S : Store) : callN tb fl (n + 2) k_want_names [b.D, .tup (ns.map .str)] S = .ok .non S := by
  rw [u_want_names]
  ((try show Wp _ (hide _ ⟨⟩)) <;> simp -dsimp -implicitDefEqProofs [wp_ok, b_want_names, Bk.D, tI, h.len])
  rw [enumL_of]
  refine fold_bind _ (fun ρ => ∃ x y : Option D, ρ = [some b.D, some (.tup (ns.map .str)), x, y]) _ _ (fun p hp ρ hρ => ?_) ⟨none, none, rfl⟩ (fun ρ hρ => ?_)
  · obtain ⟨x, y, rfl⟩ := hρ
    have hm := List.mem_zipIdx_iff_getElem?.mp hp
    refine ⟨_, ?_, some (.int (p.2 : Int)), some (.str p.1), rfl⟩
    have q : opIn false (.str p.1) (.tup (cutD (ns.map .str) none (some (p.2 : Int)))) S = .ok (.bl false) S := by
      rw [cut_take, ← List.map_take, opIn_strs]
      simp [nodup_take h.nd hm]
    ((try show Wp _ (hide _ ⟨⟩)) <;> simp -dsimp -implicitDefEqProofs [wp_ok, name_ok n S p.1 (h.pool _ (List.mem_of_getElem? hm)), opSlc, q])
  · obtain ⟨x, y, rfl⟩ := hρ
    ((try show Wp _ (hide _ ⟨⟩)) <;> simp -dsimp -implicitDefEqProofs [wp_ok])
theorem s_want_names_len (n : Nat) (b : Bk) (l : List D) (h : l.length ≠ b.steps.length) (S : Store) : callN tb fl (n + 1) k_want_names [b.D, .tup l] S = .exc c_BadNames (.int (-1)) S := by
  rw [u_want_names]
  ((try show Wp _ (hide _ ⟨⟩)) <;> simp -dsimp -implicitDefEqProofs [wp_ok, b_want_names, Bk.D, tI, show ¬ (l.length : Int) = (b.steps.length : Int) by omega])
theorem s_want_names_odd (n : Nat) (b : Bk) (A : List Str) (d : D) (R : List D) (hl : A.length + (R.length + 1) = b.steps.length) (nd : A.Nodup) (hp : ∀ x ∈ A, x ∈ poolN) (hd : d ∈ odds) (S : Store) : callN tb fl (n + 2) k_want_names [b.D, .tup (A.map .str ++ d :: R)] S = .exc c_BadNames (.int A.length) S := by
  rw [u_want_names]
  ((try show Wp _ (hide _ ⟨⟩)) <;> simp -dsimp -implicitDefEqProofs [wp_ok, b_want_names, Bk.D, tI, show (A.length : Int) + ((R.length : Int) + 1) = b.steps.length by omega])
  rw [enumL_app, enumL_of]
  rw [show enumL (0 + (A.map D.str).length) (d :: R) = D.tup [.int (A.length : Int), d] :: enumL (A.length + 1) R by rw [List.length_map, Nat.zero_add]; rfl]
  refine fold_exc _ (fun ρ => ∃ x y : Option D, ρ = [some b.D, some (.tup (A.map .str ++ d :: R)), x, y]) A.zipIdx _ _ _ _ _ (fun p hp2 ρ hρ => ?_) ⟨_, _, rfl⟩ (fun ρ hρ => ?_)
  · obtain ⟨x, y, rfl⟩ := hρ
    have hm := List.mem_zipIdx_iff_getElem?.mp hp2
    have hlt := get_lt hm
    refine ⟨_, ?_, some (.int (p.2 : Int)), some (.str p.1), rfl⟩
    have q : opIn false (.str p.1) (.tup (cutD (A.map .str ++ d :: R) none (some (p.2 : Int)))) S = .ok (.bl false) S := by
      rw [cut_take, List.take_append_of_le_length (by simp; omega), ← List.map_take, opIn_strs]
      simp [nodup_take nd hm]
    ((try show Wp _ (hide _ ⟨⟩)) <;> simp -dsimp -implicitDefEqProofs [wp_ok, name_ok n S p.1 (hp _ (List.mem_of_getElem? hm)), opSlc, q])
  · obtain ⟨x, y, rfl⟩ := hρ
    ((try show Wp _ (hide _ ⟨⟩)) <;> simp -dsimp -implicitDefEqProofs [wp_ok, name_odd n S d hd])
/-! ### lines -/
theorem s_wrong_weight_ok (n : Nat) (b : Bk) (hb : b.Ok) (l : List Int) (h : LineOk l b.steps.length) (S : Store) : callN tb fl (n + 3) k_wrong_weight [b.D, tI l] S = .ok .non S := by
  rw [u_wrong_weight]
  have hm := hb.m4
  have hl := h.len
  ((try show Wp _ (hide _ ⟨⟩)) <;> simp -dsimp -implicitDefEqProofs [wp_ok, b_wrong_weight, tI, s_many_parts (n + 1) b S, hl])
  rw [enumL_of]
  refine fold_bind _ (fun ρ => ∃ x y : Option D, ρ = [some b.D, some (tI l), x, y]) _ _ (fun p hp ρ hρ => ?_) ⟨none, none, rfl⟩ (fun ρ hρ => ?_)
  · obtain ⟨x, y, rfl⟩ := hρ
    have hm := List.mem_zipIdx_iff_getElem?.mp hp
    have hr := h.rng _ (List.mem_of_getElem? hm)
    refine ⟨_, ?_, some (.int (p.2 : Int)), some (.int p.1), rfl⟩
    ((try show Wp _ (hide _ ⟨⟩)) <;> simp -dsimp -implicitDefEqProofs [wp_ok, s_is_between, show -20 ≤ p.1 by omega, show p.1 ≤ 20 by omega])
  · obtain ⟨x, y, rfl⟩ := hρ
    ((try show Wp _ (hide _ ⟨⟩)) <;> simp -dsimp -implicitDefEqProofs [wp_ok, tI])
    rw [mapF_map D.int (fun x => D.bl (!decide (x = 0))) l (fun x hx => by ((try show Wp _ (hide _ ⟨⟩)) <;> simp -dsimp -implicitDefEqProofs [wp_ok])) (by rw [sizeLine_eq]; omega)]
    have e : (l.any fun x => !decide (x = 0)) = true := by
      obtain ⟨x, hx, h0⟩ := h.nz
      exact List.any_eq_true.mpr ⟨x, hx, by simpa using h0⟩
    ((try show Wp _ (hide _ ⟨⟩)) <;> simp -dsimp -implicitDefEqProofs [wp_ok, opLF, anyD_map, e])
theorem s_wrong_weight_len (n : Nat) (b : Bk) (l : List D) (h : l.length ≠ b.steps.length) (S : Store) : callN tb fl (n + 3) k_wrong_weight [b.D, .tup l] S = .ok (.int (-1)) S := by
  rw [u_wrong_weight]
  ((try show Wp _ (hide _ ⟨⟩)) <;> simp -dsimp -implicitDefEqProofs [wp_ok, b_wrong_weight, s_many_parts (n + 1) b S, show ¬ (l.length : Int) = (b.steps.length : Int) by omega])
theorem s_wrong_weight_non (n : Nat) (b : Bk) (S : Store) : callN tb fl (n + 3) k_wrong_weight [b.D, .non] S = .ok (.int (-1)) S := by
  rw [u_wrong_weight]
  ((try show Wp _ (hide _ ⟨⟩)) <;> simp -dsimp -implicitDefEqProofs [wp_ok, b_wrong_weight])
theorem s_wrong_weight_zero (n : Nat) (b : Bk) (hb : b.Ok) (S : Store) : callN tb fl (n + 3) k_wrong_weight [b.D, tI (List.replicate b.steps.length 0)] S = .ok (.int 0) S := by
  rw [u_wrong_weight]
  have hm := hb.m4
  generalize hl : List.replicate b.steps.length (0 : Int) = l
  have h1 : l.length = b.steps.length := by rw [← hl]; simp
  have h2 : ∀ x ∈ l, x = 0 := fun x hx => by rw [← hl] at hx; exact List.eq_of_mem_replicate hx
  ((try show Wp _ (hide _ ⟨⟩)) <;> simp -dsimp -implicitDefEqProofs [wp_ok, b_wrong_weight, tI, s_many_parts (n + 1) b S, h1])
  rw [enumL_of]
  refine fold_bind _ (fun ρ => ∃ x y : Option D, ρ = [some b.D, some (tI l), x, y]) _ _ (fun p hp ρ hρ => ?_) ⟨none, none, rfl⟩ (fun ρ hρ => ?_)
  · obtain ⟨x, y, rfl⟩ := hρ
    have hm := List.mem_zipIdx_iff_getElem?.mp hp
    have hr := h2 _ (List.mem_of_getElem? hm)
    refine ⟨_, ?_, some (.int (p.2 : Int)), some (.int p.1), rfl⟩
    ((try show Wp _ (hide _ ⟨⟩)) <;> simp -dsimp -implicitDefEqProofs [wp_ok, s_is_between, show -20 ≤ p.1 by omega, show p.1 ≤ 20 by omega])
  · obtain ⟨x, y, rfl⟩ := hρ
    ((try show Wp _ (hide _ ⟨⟩)) <;> simp -dsimp -implicitDefEqProofs [wp_ok, tI])
    rw [mapF_map D.int (fun x => D.bl (!decide (x = 0))) l (fun x hx => by ((try show Wp _ (hide _ ⟨⟩)) <;> simp -dsimp -implicitDefEqProofs [wp_ok])) (by rw [sizeLine_eq]; omega)]
    have e : (l.any fun x => !decide (x = 0)) = false := by
      rw [List.any_eq_false]
      intro x hx
      simp [h2 x hx]
    ((try show Wp _ (hide _ ⟨⟩)) <;> simp -dsimp -implicitDefEqProofs [wp_ok, opLF, anyD_map, e])
theorem s_wrong_weight_big (n : Nat) (b : Bk) (l : List D) (h : l.length + 1 = b.steps.length) (S : Store) : callN tb fl (n + 3) k_wrong_weight [b.D, .tup (.int 21 :: l)] S = .ok (.int 0) S := by
  rw [u_wrong_weight]
  ((try show Wp _ (hide _ ⟨⟩)) <;> simp -dsimp -implicitDefEqProofs [wp_ok, b_wrong_weight, s_many_parts (n + 1) b S, show (l.length : Int) + 1 = (b.steps.length : Int) by omega, enumL])
  rw [foldF_cons]
  ((try show Wp _ (hide _ ⟨⟩)) <;> simp -dsimp -implicitDefEqProofs [wp_ok, s_is_between])
theorem s_want_lines (n : Nat) (b : Bk) (hb : b.Ok) (ls : List (List Int)) (h : ∀ l ∈ ls, LineOk l b.steps.length) (S : Store) : callN tb fl (n + 4) k_want_lines [b.D, .tup (ls.map tI)] S = .ok .non S := by
  rw [u_want_lines]
  ((try show Wp _ (hide _ ⟨⟩)) <;> simp -dsimp -implicitDefEqProofs [wp_ok, b_want_lines])
  rw [enumL_of]
  refine fold_bind _ (fun ρ => ∃ x y z : Option D, ρ = [some b.D, some (.tup (ls.map tI)), x, y, z]) _ _ (fun p hp ρ hρ => ?_) ⟨none, none, none, rfl⟩ (fun ρ hρ => ?_)
  · obtain ⟨x, y, z, rfl⟩ := hρ
    have hm := List.mem_zipIdx_iff_getElem?.mp hp
    refine ⟨_, ?_, some (.int (p.2 : Int)), some (tI p.1), some .non, rfl⟩
    ((try show Wp _ (hide _ ⟨⟩)) <;> simp -dsimp -implicitDefEqProofs [wp_ok, s_wrong_weight_ok n b hb p.1 (h _ (List.mem_of_getElem? hm)) S])
  · obtain ⟨x, y, z, rfl⟩ := hρ
    ((try show Wp _ (hide _ ⟨⟩)) <;> simp -dsimp -implicitDefEqProofs [wp_ok])
theorem s_want_lines_bad (n : Nat) (b : Bk) (hb : b.Ok) (ls : List (List Int)) (h : ∀ l ∈ ls, LineOk l b.steps.length) (d : D) (R : List D) (w : Int) (hd : ∀ S, callN tb fl (n + 3) k_wrong_weight [b.D, d] S = .ok (.int w) S) (S : Store) : callN tb fl (n + 4) k_want_lines [b.D, .tup (ls.map tI ++ d :: R)] S = .exc c_BadLine (.tup [.int ls.length, .int w]) S := by
  rw [u_want_lines]
  ((try show Wp _ (hide _ ⟨⟩)) <;> simp -dsimp -implicitDefEqProofs [wp_ok, b_want_lines])
  rw [enumL_app, enumL_of]
  rw [show enumL (0 + (ls.map tI).length) (d :: R) = D.tup [.int (ls.length : Int), d] :: enumL (ls.length + 1) R by rw [List.length_map, Nat.zero_add]; rfl]
  refine fold_exc _ (fun ρ => ∃ x y z : Option D, ρ = [some b.D, some (.tup (ls.map tI ++ d :: R)), x, y, z]) ls.zipIdx _ _ _ _ _ (fun p hp ρ hρ => ?_) ⟨_, _, _, rfl⟩ (fun ρ hρ => ?_)
  · obtain ⟨x, y, z, rfl⟩ := hρ
    have hm := List.mem_zipIdx_iff_getElem?.mp hp
    refine ⟨_, ?_, some (.int (p.2 : Int)), some (tI p.1), some .non, rfl⟩
    ((try show Wp _ (hide _ ⟨⟩)) <;> simp -dsimp -implicitDefEqProofs [wp_ok, s_wrong_weight_ok n b hb p.1 (h _ (List.mem_of_getElem? hm)) S])
  · obtain ⟨x, y, z, rfl⟩ := hρ
    ((try show Wp _ (hide _ ⟨⟩)) <;> simp -dsimp -implicitDefEqProofs [wp_ok, hd S])
theorem s_want_lines_non (n : Nat) (b : Bk) (S : Store) : callN tb fl (n + 1) k_want_lines [b.D, .non] S = .exc c_BadLine (.int (-1)) S := by
  rw [u_want_lines]
  ((try show Wp _ (hide _ ⟨⟩)) <;> simp -dsimp -implicitDefEqProofs [wp_ok, b_want_lines])
/-! ### states -/
theorem s_are_numbers (n : Nat) (l : List Int) (m : Int) (S : Store) (h : l.length = m) (hl : l.length ≤ 1000) : callN tb fl (n + 2) k_are_numbers [tI l, .int m] S = .ok (.bl true) S := by
  rw [u_are_numbers]
  ((try show Wp _ (hide _ ⟨⟩)) <;> simp -dsimp -implicitDefEqProofs [wp_ok, b_are_numbers, tI, h])
  rw [mapF_map D.int (fun x => D.bl true) l (fun x hx => by ((try show Wp _ (hide _ ⟨⟩)) <;> simp -dsimp -implicitDefEqProofs [wp_ok, s_is_whole_int])) (by rw [sizeLine_eq]; omega)]
  ((try show Wp _ (hide _ ⟨⟩)) <;> simp -dsimp -implicitDefEqProofs [wp_ok, opLF])
  rw [allD_map]
  simp
theorem s_is_state (n : Nat) (b : Bk) (hb : b.Ok) (tr sh : List Int) (h1 : tr.length = b.steps.length) (h2 : sh.length = b.steps.length) (S : Store) : callN tb fl (n + 3) k_is_state [b.D, stD tr sh] S = .ok (.bl true) S := by
  rw [u_is_state]
  have hm := hb.m4
  ((try show Wp _ (hide _ ⟨⟩)) <;> simp -dsimp -implicitDefEqProofs [wp_ok, b_is_state, stD])
  rw [show [tI tr, tI sh] = [tr, sh].map tI from rfl]
  rw [mapF_map tI (fun x => D.bl true) [tr, sh] (fun x hx => by
    have : x.length = b.steps.length := by
      simp at hx
      rcases hx with rfl | rfl <;> assumption
    ((try show Wp _ (hide _ ⟨⟩)) <;> simp -dsimp -implicitDefEqProofs [wp_ok, s_many_parts (n + 1) b S, s_are_numbers n x b.steps.length S (by omega) (by omega)])) (by rw [sizeLine_eq]; simp)]
  ((try show Wp _ (hide _ ⟨⟩)) <;> simp -dsimp -implicitDefEqProofs [wp_ok, opLF, allD, allBls])
def badStates (b : Bk) (tr sh : List Int) : List D := [.non, .tup [tI tr], .tup [tI tr, tI sh.tail], .tup [tI tr, tI sh, .tup []], .str "state", .tup [tI tr, .tup (List.replicate b.steps.length .non)]]
theorem s_are_numbers_len (n : Nat) (l : List D) (m : Int) (S : Store) (h : l.length ≠ m) : callN tb fl (n + 2) k_are_numbers [.tup l, .int m] S = .ok (.bl false) S := by
  rw [u_are_numbers]
  ((try show Wp _ (hide _ ⟨⟩)) <;> simp -dsimp -implicitDefEqProofs [wp_ok, b_are_numbers, h])
theorem s_are_numbers_non (n : Nat) (m : Nat) (S : Store) (h1 : 1 ≤ m) (h : m ≤ 4) : callN tb fl (n + 2) k_are_numbers [.tup (List.replicate m .non), .int m] S = .ok (.bl false) S := by
  rw [u_are_numbers]
  ((try show Wp _ (hide _ ⟨⟩)) <;> simp -dsimp -implicitDefEqProofs [wp_ok, b_are_numbers])
  rw [show List.replicate m D.non = (List.replicate m ()).map fun _ => D.non by simp]
  rw [mapF_map (fun _ => D.non) (fun x => D.bl false) (List.replicate m ()) (fun x hx => by
    ((try show Wp _ (hide _ ⟨⟩)) <;> simp -dsimp -implicitDefEqProofs [wp_ok])
    rw [u_is_whole]
    ((try show Wp _ (hide _ ⟨⟩)) <;> simp -dsimp -implicitDefEqProofs [wp_ok, b_is_whole])) (by rw [sizeLine_eq]; simp; omega)]
  ((try show Wp _ (hide _ ⟨⟩)) <;> simp -dsimp -implicitDefEqProofs [wp_ok, opLF, allD, allBls_rep, show ¬ m = 0 by omega])
theorem s_is_state_bad (n : Nat) (b : Bk) (hb : b.Ok) (tr sh : List Int) (h1 : tr.length = b.steps.length) (h2 : sh.length = b.steps.length) (d : D) (hd : d ∈ badStates b tr sh) (S : Store) : callN tb fl (n + 3) k_is_state [b.D, d] S = .ok (.bl false) S := by
  rw [u_is_state]
  have hm := hb.m4
  have hm1 := hb.m1
  simp only [badStates, List.mem_cons, List.not_mem_nil, or_false] at hd
  rcases hd with rfl | rfl | rfl | rfl | rfl | rfl
  · ((try show Wp _ (hide _ ⟨⟩)) <;> simp -dsimp -implicitDefEqProofs [wp_ok, b_is_state])
  · ((try show Wp _ (hide _ ⟨⟩)) <;> simp -dsimp -implicitDefEqProofs [wp_ok, b_is_state])
  · ((try show Wp _ (hide _ ⟨⟩)) <;> simp -dsimp -implicitDefEqProofs [wp_ok, b_is_state])
    rw [mapF_cons]
    ((try show Wp _ (hide _ ⟨⟩)) <;> simp -dsimp -implicitDefEqProofs [wp_ok, s_many_parts (n + 1) b S, s_are_numbers n tr b.steps.length S (by omega) (by omega)])
    rw [mapF_cons]
    ((try show Wp _ (hide _ ⟨⟩)) <;> simp -dsimp -implicitDefEqProofs [wp_ok, s_many_parts (n + 1) b S])
    rw [show tI sh.tail = .tup (sh.tail.map .int) from rfl, s_are_numbers_len n _ _ S (by simp; omega)]
    ((try show Wp _ (hide _ ⟨⟩)) <;> simp -dsimp -implicitDefEqProofs [wp_ok])
    ((try show Wp _ (hide _ ⟨⟩)) <;> simp -dsimp -implicitDefEqProofs [wp_ok, opLF, allD, allBls])
  · ((try show Wp _ (hide _ ⟨⟩)) <;> simp -dsimp -implicitDefEqProofs [wp_ok, b_is_state])
  · ((try show Wp _ (hide _ ⟨⟩)) <;> simp -dsimp -implicitDefEqProofs [wp_ok, b_is_state])
  · ((try show Wp _ (hide _ ⟨⟩)) <;> simp -dsimp -implicitDefEqProofs [wp_ok, b_is_state])
    rw [mapF_cons]
    ((try show Wp _ (hide _ ⟨⟩)) <;> simp -dsimp -implicitDefEqProofs [wp_ok, s_many_parts (n + 1) b S, s_are_numbers n tr b.steps.length S (by omega) (by omega)])
    rw [mapF_cons]
    ((try show Wp _ (hide _ ⟨⟩)) <;> simp -dsimp -implicitDefEqProofs [wp_ok, s_many_parts (n + 1) b S, s_are_numbers_non n b.steps.length S hm1 hm])
    ((try show Wp _ (hide _ ⟨⟩)) <;> simp -dsimp -implicitDefEqProofs [wp_ok, opLF, allD, allBls])
end K76P
set_option Elab.async false
set_option linter.all false
set_option maxRecDepth 100000
set_option autoImplicit false
set_option maxHeartbeats 2000000
/-! P4: the texts of the report and of the law -/
namespace K76P
open PySem K76
/-! ### numbers -/
def gi (l : List Int) (i : Nat) : Int := l.getD i 0
theorem gi_get (l : List Int) (i : Nat) (h : i < l.length) : gi l i = l[i] := by
  unfold gi
  rw [List.getD_eq_getElem?_getD, List.getElem?_eq_getElem h]
  rfl
theorem o_idxd (l : List Int) (i : Nat) (h : i < l.length) (S : Store) : opIdx (.tup (l.map .int)) (.int (i : Int)) S = .ok (.int (gi l i)) S := by
  rw [o_idxi l i h, gi_get l i h]
theorem gi_mem (l : List Int) (i : Nat) (h : i < l.length) : gi l i ∈ l := by
  rw [gi_get l i h]
  exact List.getElem_mem h
theorem zip_range (l k : List Int) (h : l.length = k.length) : ((List.range l.length).map fun i => gi l i * gi k i) = (l.zip k).map fun p => p.1 * p.2 := by
  refine List.ext_getElem (by simp [h]) fun i h1 h2 => ?_
  simp only [List.length_map, List.length_range] at h1
  simp [gi_get, h1, show i < k.length by omega]
theorem zip3_range (st tr sh : List Int) (h1 : tr.length = st.length) (h2 : sh.length = st.length) : ((List.range st.length).map fun i => gi sh i * gi st i - gi tr i) = strays st tr sh := by
  unfold strays
  refine List.ext_getElem (by simp [h1, h2]) fun i h3 h4 => ?_
  simp only [List.length_map, List.length_range] at h3
  simp [gi_get, h3, show i < tr.length by omega, show i < sh.length by omega]
theorem s__law_weighed (n : Nat) (l k : List Int) (S : Store) (hk : l.length = k.length) (hl : l.length ≤ 1000) (h : ∀ x ∈ l, -(2 ^ 64) < x ∧ x < 2 ^ 64) : callN tb fl (n + 1) k__law_weighed [tI l, tI k] S = .ok (.int (wsum l k)) S := by
  rw [u__law_weighed]
  ((try show Wp _ (hide _ ⟨⟩)) <;> simp -dsimp -implicitDefEqProofs [wp_ok, b__law_weighed, tI, rngD_ok _ _ _ rfl (show l.length ≤ 1000000 by omega)])
  rw [mapF_map (fun i : Nat => D.int (i : Int)) (fun i => D.int (gi l i * gi k i)) (List.range l.length) (fun i hi => by
    have hi := List.mem_range.mp hi
    have q := h (gi l i) (gi_mem l i hi)
    ((try show Wp _ (hide _ ⟨⟩)) <;> simp -dsimp -implicitDefEqProofs [wp_ok, o_idxd l i hi, o_idxd k i (by omega), o_mul _ _ _ q])) (by rw [List.length_range, sizeLine_eq]; omega)]
  ((try show Wp _ (hide _ ⟨⟩)) <;> simp -dsimp -implicitDefEqProofs [wp_ok, opLF])
  rw [sumD_map, zip_range l k hk]
  ((try show Wp _ (hide _ ⟨⟩)) <;> simp -dsimp -implicitDefEqProofs [wp_ok])
  rfl
theorem s__law_strays_of (n : Nat) (b : Bk) (hb : b.Ok) (tr sh : List Int) (h1 : tr.length = b.steps.length) (h2 : sh.length = b.steps.length) (S : Store) : callN tb fl (n + 1) k__law_strays_of [b.D, stD tr sh] S = .ok (tI (strays b.steps tr sh)) S := by
  rw [u__law_strays_of]
  have hm := hb.m4
  ((try show Wp _ (hide _ ⟨⟩)) <;> simp -dsimp -implicitDefEqProofs [wp_ok, b__law_strays_of, tI, Bk.D, stD, rngD_ok _ _ _ rfl (show b.steps.length ≤ 1000000 by omega)])
  rw [mapF_map (fun i : Nat => D.int (i : Int)) (fun i => D.int (gi sh i * gi b.steps i - gi tr i)) (List.range b.steps.length) (fun i hi => by
    have hi := List.mem_range.mp hi
    have q := hb.stp (gi b.steps i) (gi_mem b.steps i hi)
    ((try show Wp _ (hide _ ⟨⟩)) <;> simp -dsimp -implicitDefEqProofs [wp_ok, o_idxd b.steps i hi, o_idxd sh i (by omega), o_idxd tr i (by omega), o_mul2 _ _ _ (show -(2 ^ 64) < gi b.steps i ∧ gi b.steps i < 2 ^ 64 by omega)])) (by rw [List.length_range, sizeLine_eq]; omega)]
  ((try show Wp _ (hide _ ⟨⟩)) <;> simp -dsimp -implicitDefEqProofs [wp_ok, opLF])
  rw [← zip3_range b.steps tr sh h1 h2, List.map_map]
  rfl
/-! ### bounds -/
theorem sum_le (l : List Int) (B : Nat) (h : ∀ x ∈ l, x.natAbs ≤ B) : l.sum.natAbs ≤ l.length * B := by
  induction l with
  | nil => simp
  | cons a r ih =>
    have h1 := h a (List.mem_cons_self ..)
    have h2 := ih fun x hx => h x (List.mem_cons_of_mem _ hx)
    rw [List.sum_cons, List.length_cons, Nat.add_mul, Nat.one_mul]
    omega
theorem wsum_le (l k : List Int) (A B : Nat) (h1 : ∀ x ∈ l, x.natAbs ≤ A) (h2 : ∀ x ∈ k, x.natAbs ≤ B) (hl : l.length ≤ 4) : (wsum l k).natAbs ≤ 4 * (A * B) := by
  unfold wsum
  have q := sum_le ((l.zip k).map fun p => p.1 * p.2) (A * B) fun x hx => by
    obtain ⟨p, hp, rfl⟩ := List.mem_map.mp hx
    obtain ⟨m1, m2⟩ := List.of_mem_zip hp
    rw [Int.natAbs_mul]
    exact Nat.mul_le_mul (h1 _ m1) (h2 _ m2)
  refine Nat.le_trans q (Nat.mul_le_mul_right _ ?_)
  rw [List.length_map, List.length_zip]
  omega
theorem strays_le (st tr sh : List Int) (h1 : ∀ x ∈ st, 1 ≤ x ∧ x ≤ 12) (h2 : ∀ x ∈ tr, x.natAbs ≤ 1000) (h3 : ∀ x ∈ sh, x.natAbs ≤ 1000) : ∀ x ∈ strays st tr sh, x.natAbs ≤ 13000 := by
  intro x hx
  obtain ⟨p, hp, rfl⟩ := List.mem_map.mp hx
  obtain ⟨m1, m2⟩ := List.of_mem_zip hp
  obtain ⟨m2, m3⟩ := List.of_mem_zip m2
  have a1 : 1 ≤ p.2.2 ∧ p.2.2 ≤ 12 := h1 _ m3
  have a2 : p.1.natAbs ≤ 1000 := h2 _ m1
  have a3 : p.2.1.natAbs ≤ 1000 := h3 _ m2
  have q : (p.2.1 * p.2.2).natAbs ≤ 1000 * 12 := by
    rw [Int.natAbs_mul]
    exact Nat.mul_le_mul a3 (show p.2.2.natAbs ≤ 12 by omega)
  show (p.2.1 * p.2.2 - p.1).natAbs ≤ 13000
  omega
theorem strays_len (st tr sh : List Int) (h1 : tr.length = st.length) (h2 : sh.length = st.length) : (strays st tr sh).length = st.length := by
  simp [strays, h1, h2]
/-- all steps alike: a line's stray -/
theorem wsum_alike (l st tr sh : List Int) (m : Int) (h : ∀ x ∈ st, x = m) (h0 : l.length = st.length) (h1 : tr.length = st.length) (h2 : sh.length = st.length) : wsum l (strays st tr sh) = wsum l sh * m - wsum l tr := by
  induction l generalizing st tr sh with
  | nil => simp [wsum]
  | cons a r ih =>
    match st, tr, sh, h0, h1, h2 with
    | s :: st, t :: tr, u :: sh, h0, h1, h2 =>
      have e := ih st tr sh (fun x hx => h x (List.mem_cons_of_mem _ hx)) (by simpa using h0) (by simpa using h1) (by simpa using h2)
      have es := h s (List.mem_cons_self ..)
      subst es
      have e1 : wsum (a :: r) (strays (s :: st) (t :: tr) (u :: sh)) = a * (u * s - t) + wsum r (strays st tr sh) := by simp [wsum, strays]
      have e2 : wsum (a :: r) (u :: sh) = a * u + wsum r sh := by simp [wsum]
      have e3 : wsum (a :: r) (t :: tr) = a * t + wsum r tr := by simp [wsum]
      rw [e1, e2, e3, e, Int.add_mul, Int.mul_sub, Int.mul_assoc]
      omega
theorem any_not {α : Type} (p : α → Bool) (l : List α) : (l.any fun x => !p x) = !(l.all p) := by
  induction l with
  | nil => rfl
  | cons a r ih => simp [ih]
/-! ### the texts -/
def lineT (b : Bk) (k : Nat) (l tr sh : List Int) : Str := if b.steps.all fun x => decide (x = gi b.steps 0) then figT (("line " : Str) ++ tS k ++ (":" : Str)) (wsum l sh) (wsum l tr) (gi b.steps 0)
  else ("line " : Str) ++ tS k ++ (":" : Str) ++ (" off " : Str) ++ tS (wsum l (strays b.steps tr sh)) ++ (" steps" : Str)
/-- a state not too far from nought -/
structure StOk (b : Bk) (tr sh : List Int) : Prop where
  l1 : tr.length = b.steps.length
  l2 : sh.length = b.steps.length
  b1 : ∀ x ∈ tr, x.natAbs ≤ 1000
  b2 : ∀ x ∈ sh, x.natAbs ≤ 1000
theorem line_abs {l : List Int} {m : Nat} (h : LineOk l m) : ∀ x ∈ l, x.natAbs ≤ 3 := fun x hx => by
  have := h.rng x hx
  omega
theorem line_64 {l : List Int} {m : Nat} (h : LineOk l m) : ∀ x ∈ l, -(2 ^ 64) < x ∧ x < 2 ^ 64 := fun x hx => by
  have := h.rng x hx
  omega
theorem s_line_text (n : Nat) (b : Bk) (hb : b.Ok) (k : Nat) (hk : k ≤ 100) (l tr sh : List Int) (hl : LineOk l b.steps.length) (h : StOk b tr sh) (S : Store) : callN tb fl (n + 4) k_line_text [b.D, .int k, tI l, stD tr sh] S = .ok (.str (lineT b k l tr sh)) S := by
  rw [u_line_text]
  have hm := hb.m4
  have hm1 := hb.m1
  have hlen := hl.len
  have t1 := tS_len (k : Int) (by omega)
  have l1 : ("line " : Str).length ≤ 5 := by decide +kernel
  have l2 : (":" : Str).length ≤ 1 := by decide +kernel
  have l3 : (" off " : Str).length ≤ 5 := by decide +kernel
  have l4 : (" steps" : Str).length ≤ 6 := by decide +kernel
  have m1 := app_len _ _ _ _ l1 t1
  have m2 := app_len _ _ _ _ m1 l2
  have i0 : opIdx (.tup (b.steps.map .int)) (.int 0) S = .ok (.int (gi b.steps 0)) S := o_idxd b.steps 0 (by omega) S
  have b1 := wsum_le l sh 3 1000 (line_abs hl) h.b2 (by omega)
  have b2 := wsum_le l tr 3 1000 (line_abs hl) h.b1 (by omega)
  have b3 := wsum_le l (strays b.steps tr sh) 3 13000 (line_abs hl) (strays_le _ _ _ hb.stp h.b1 h.b2) (by omega)
  have s0 := hb.stp (gi b.steps 0) (gi_mem _ _ (by omega))
  ((try show Wp _ (hide _ ⟨⟩)) <;> simp -dsimp -implicitDefEqProofs [wp_ok, b_line_text, o_str (k : Int) S (by omega), o_addl _ _ S _ _ l1 t1, o_addl _ _ S _ _ m1 l2])
  rw [mapF_map D.int (fun x => D.bl (!decide (x = gi b.steps 0))) b.steps (fun x hx => by ((try show Wp _ (hide _ ⟨⟩)) <;> simp -dsimp -implicitDefEqProofs [wp_ok, i0])) (by rw [sizeLine_eq]; omega)]
  ((try show Wp _ (hide _ ⟨⟩)) <;> simp -dsimp -implicitDefEqProofs [wp_ok, opLF])
  rw [anyD_map, any_not]
  unfold lineT
  cases q : (b.steps.all fun x => decide (x = gi b.steps 0)) with
  | true =>
    ((try show Wp _ (hide _ ⟨⟩)) <;> simp -dsimp -implicitDefEqProofs [wp_ok, i0, s_weighted (n + 2) l sh S (by omega) (line_64 hl), s_weighted (n + 2) l tr S (by omega) (line_64 hl), s_figure_text (n + 0) _ (wsum l sh) (wsum l tr) (gi b.steps 0) S (show (("line " : Str) ++ tS (k : Int) ++ (":" : Str)).length ≤ 100 by omega) (by omega) (by omega) (by omega) (by omega)])
  | false =>
    have t2 := tS_len (wsum l (strays b.steps tr sh)) (by omega)
    have m3 := app_len _ _ _ _ m2 l3
    have m4 := app_len _ _ _ _ m3 t2
    ((try show Wp _ (hide _ ⟨⟩)) <;> simp -dsimp -implicitDefEqProofs [wp_ok, s_stray_of (n + 1) b l tr sh S hb (by omega) (line_64 hl), o_str (wsum l (strays b.steps tr sh)) S (by omega), o_addl _ _ S _ _ m2 l3, o_addl _ _ S _ _ m3 t2, o_addl _ _ S _ _ m4 l4])
def figs (b : Bk) (ns : List Str) (tr sh : List Int) : List Str := ns.zipIdx.map fun p => figT p.1 (gi sh p.2) (gi tr p.2) (gi b.steps p.2)
def lns (b : Bk) (ls : List (List Int)) (tr sh : List Int) : List Str := ls.zipIdx.map fun p => lineT b p.2 p.1 tr sh
def texts (b : Bk) (ns : List Str) (ls : List (List Int)) (tr sh : List Int) : List Str := figs b ns tr sh ++ lns b ls tr sh
theorem pool_len : ∀ x ∈ poolN, x.length ≤ 100 := by decide +kernel
theorem s_report (n : Nat) (b : Bk) (hb : b.Ok) (ns : List Str) (hn : NamesOk ns b.steps.length) (ls : List (List Int)) (hl : ∀ l ∈ ls, LineOk l b.steps.length) (hls : ls.length ≤ 10) (tr sh : List Int) (h : StOk b tr sh) (S : Store) :
    Wp (callN tb fl (n + 7) k_report [b.D, .tup (ns.map .str), .tup (ls.map tI), stD tr sh] S) fun v S' => v = .tup ((texts b ns ls tr sh).map .str) ∧ Kp [] S S' := by
  rw [u_report]
  have hm := hb.m4
  have hlen := hn.len
  have h1 := h.l1
  have h2 := h.l2
  ((try show Wp _ (hide _ ⟨⟩)) <;> simp -dsimp -implicitDefEqProofs [wp_ok, b_report, s_made_book n b S hb, s_want_names (n + 4) b hb ns hn S, s_want_lines (n + 2) b hb ls hl S, s_is_state (n + 3) b hb tr sh h.l1 h.l2 S])
  rw [enumL_of]
  rw [mapF_map (fun p : Str × Nat => D.tup [.int (p.2 : Int), .str p.1]) (fun p => D.str (figT p.1 (gi sh p.2) (gi tr p.2) (gi b.steps p.2))) ns.zipIdx (fun p hp => by
    have hm := List.mem_zipIdx_iff_getElem?.mp hp
    have hlt := get_lt hm
    have a1 := h.b1 _ (gi_mem tr p.2 (by omega))
    have a2 := h.b2 _ (gi_mem sh p.2 (by omega))
    have a3 := hb.stp _ (gi_mem b.steps p.2 (by omega))
    ((try show Wp _ (hide _ ⟨⟩)) <;> simp -dsimp -implicitDefEqProofs [wp_ok, o_idxd sh p.2 (by omega), o_idxd tr p.2 (by omega), o_idxd b.steps p.2 (by omega), s_figure_text (n + 3) p.1 (gi sh p.2) (gi tr p.2) (gi b.steps p.2) S (pool_len _ (hn.pool _ (List.mem_of_getElem? hm))) (by omega) (by omega) (by omega) (by omega)])) (by rw [sizeLine_eq]; simp; omega)]
  ((try show Wp _ (hide _ ⟨⟩)) <;> simp -dsimp -implicitDefEqProofs [wp_ok])
  rw [enumL_of]
  rw [mapF_map (fun p : List Int × Nat => D.tup [.int (p.2 : Int), tI p.1]) (fun p => D.str (lineT b p.2 p.1 tr sh)) ls.zipIdx (fun p hp => by
    have hm := List.mem_zipIdx_iff_getElem?.mp hp
    have hlt := get_lt hm
    ((try show Wp _ (hide _ ⟨⟩)) <;> simp -dsimp -implicitDefEqProofs [wp_ok, s_line_text (n + 2) b hb p.2 (by omega) p.1 tr sh (hl _ (List.mem_of_getElem? hm)) h])) (by rw [sizeLine_eq]; simp; omega)]
  ((try show Wp _ (hide _ ⟨⟩)) <;> simp -dsimp -implicitDefEqProofs [wp_ok])
  rw [r_addl (l := ns.zipIdx.map fun p => D.str (figT p.1 (gi sh p.2) (gi tr p.2) (gi b.steps p.2))) (k := ls.zipIdx.map fun p => D.str (lineT b p.2 p.1 tr sh)) (by simp) (by simp) (by simp; omega)]
  ((try show Wp _ (hide _ ⟨⟩)) <;> simp -dsimp -implicitDefEqProofs [wp_ok])
  rw [r_tuple (l := (ns.zipIdx.map fun p => D.str (figT p.1 (gi sh p.2) (gi tr p.2) (gi b.steps p.2))) ++ (ls.zipIdx.map fun p => D.str (lineT b p.2 p.1 tr sh))) (get_app_add S _ 2)]
  ((try show Wp _ (hide _ ⟨⟩)) <;> simp -dsimp -implicitDefEqProofs [wp_ok])
  exact ⟨by simp [texts, figs, lns]; rfl, Kp.app _⟩
end K76P
set_option Elab.async false
set_option linter.all false
set_option maxRecDepth 100000
set_option autoImplicit false
set_option maxHeartbeats 2000000
/-! P5: the texts that the law writes -/
namespace K76P
open PySem K76
theorem o_idxm {α : Type} (enc : α → D) (l : List α) (i : Nat) (a : α) (h : l[i]? = some a) (S : Store) : opIdx (.tup (l.map enc)) (.int (i : Int)) S = .ok (enc a) S := o_idx _ _ (by rw [List.getElem?_map, h]; rfl)
def gs (l : List Str) (i : Nat) : Str := l.getD i Str.empty
def gl (l : List (List Int)) (i : Nat) : List Int := l.getD i []
theorem gs_get (l : List Str) (i : Nat) (h : i < l.length) : l[i]? = some (gs l i) := by
  unfold gs
  rw [List.getD_eq_getElem?_getD, List.getElem?_eq_getElem h]
  rfl
theorem gl_get (l : List (List Int)) (i : Nat) (h : i < l.length) : l[i]? = some (gl l i) := by
  unfold gl
  rw [List.getD_eq_getElem?_getD, List.getElem?_eq_getElem h]
  rfl
theorem zipIdx_range {α β : Type} (f : α × Nat → β) (g : Nat → β) (l : List α) (h : ∀ i a, l[i]? = some a → f (a, i) = g i) : l.zipIdx.map f = (List.range l.length).map g := by
  refine List.ext_getElem (by simp) fun i h1 h2 => ?_
  simp only [List.length_map, List.length_range] at h2
  simp only [List.getElem_map, List.getElem_zipIdx, List.getElem_range, Nat.zero_add]
  exact h i _ (List.getElem?_eq_getElem h2)
def figAt (b : Bk) (ns : List Str) (tr sh : List Int) (i : Nat) : Str := figT (gs ns i) (gi sh i) (gi tr i) (gi b.steps i)
def lineAt (b : Bk) (ls : List (List Int)) (tr sh : List Int) (k : Nat) : Str := lineT b k (gl ls k) tr sh
theorem figs_range (b : Bk) (ns : List Str) (tr sh : List Int) : figs b ns tr sh = (List.range ns.length).map (figAt b ns tr sh) := zipIdx_range _ _ ns fun i a h => by
  have := gs_get ns i (get_lt h)
  rw [h] at this
  rw [Option.some.inj this]
  rfl
theorem lns_range (b : Bk) (ls : List (List Int)) (tr sh : List Int) : lns b ls tr sh = (List.range ls.length).map (lineAt b ls tr sh) := zipIdx_range _ _ ls fun i a h => by
  have := gl_get ls i (get_lt h)
  rw [h] at this
  rw [Option.some.inj this]
  rfl
theorem range_snoc (f : Nat → Str) (j : Nat) : (List.range (j + 1)).map f = (List.range j).map f ++ [f j] := by
  rw [List.range_succ, List.map_append]
  rfl
theorem str_assoc (a b c : Str) : a ++ b ++ c = a ++ (b ++ c) := by
  show Str.append (Str.append a b) c = Str.append a (Str.append b c)
  simp [Str.append]
theorem head_sh (a : Str) : a ++ (": " : Str) ++ ("shown " : Str) = a ++ (":" : Str) ++ (" shown " : Str) := by
  rw [str_assoc, str_assoc, show (": " : Str) ++ ("shown " : Str) = (":" : Str) ++ (" shown " : Str) by decide +kernel]
theorem head_off (a : Str) : a ++ (": " : Str) ++ ("off " : Str) = a ++ (":" : Str) ++ (" off " : Str) := by
  rw [str_assoc, str_assoc, show (": " : Str) ++ ("off " : Str) = (":" : Str) ++ (" off " : Str) by decide +kernel]
theorem wsum_range (l k : List Int) (m : Nat) (h1 : l.length = m) (h2 : k.length = m) : ((List.range m).map fun i => gi l i * gi k i).sum = wsum l k := by
  rw [← h1, zip_range l k (by omega)]
  rfl
theorem nil_all {α : Type} (p : α → Bool) (l : List α) : (l.filter fun x => !p x).isEmpty = l.all p := by
  induction l with
  | nil => rfl
  | cons a r ih => cases e : p a <;> simp [e, ih, List.filter_cons]
theorem s__law_report_due (n : Nat) (b : Bk) (hb : b.Ok) (ns : List Str) (hn : NamesOk ns b.steps.length) (ls : List (List Int)) (hl : ∀ l ∈ ls, LineOk l b.steps.length) (hls : ls.length ≤ 10) (tr sh : List Int) (h : StOk b tr sh) (S : Store) :
    Wp (callN tb fl (n + 4) k__law_report_due [b.D, .tup (ns.map .str), .tup (ls.map tI), stD tr sh] S) fun v S' => v = .tup ((texts b ns ls tr sh).map .str) ∧ Kp [] S S' := by
  rw [u__law_report_due]
  have hm := hb.m4
  have hm1 := hb.m1
  have hlen := hn.len
  have h1 := h.l1
  have h2 := h.l2
  have i0 : ∀ S, opIdx (.tup (b.steps.map .int)) (.int 0) S = .ok (.int (gi b.steps 0)) S := fun S => o_idxd b.steps 0 (by omega) S
  ((try show Wp _ (hide _ ⟨⟩)) <;> simp -dsimp -implicitDefEqProofs [wp_ok, b__law_report_due, i0, rngD_ok _ _ _ rfl (show b.steps.length ≤ 1000000 by omega)])
  refine Wp.foldR (fun j ρ S' => (∃ x y z, ρ = [some b.D, some (.tup (ns.map .str)), some (.tup (ls.map tI)), some (stD tr sh), some (.ref S.length), some (.int (gi b.steps 0)), x, y, z, none, none, none, none, none, none, none]) ∧ ∃ ac : List Str, S' = S ++ [.lst (ac.map .str)] ∧ ac = (List.range j).map (figAt b ns tr sh)) b.steps.length ?_ ⟨⟨_, _, _, rfl⟩, [], rfl, rfl⟩ ?_
  · intro j hj ρ S1 hi
    obtain ⟨⟨x, y, z, rfl⟩, ac, rfl, eac⟩ := hi
    have lac : ac.length = j := by rw [eac]; simp
    have a1 := h.b1 _ (gi_mem tr j (by omega))
    have a2 := h.b2 _ (gi_mem sh j (by omega))
    have a3 := hb.stp _ (gi_mem b.steps j (by omega))
    have a4 := pool_len _ (hn.pool _ (List.mem_of_getElem? (gs_get ns j (by omega))))
    have hp : (gi sh j * gi b.steps j).natAbs ≤ 1000 * 12 := by
      rw [Int.natAbs_mul]
      exact Nat.mul_le_mul a2 (show (gi b.steps j).natAbs ≤ 12 by omega)
    have hd : (gi sh j * gi b.steps j - gi tr j).natAbs < 10 ^ 8 := by omega
    have l1 : ((" shown " : Str)).length ≤ 7 := by decide +kernel
    have l2 := tS_len (gi sh j) (by omega)
    have l3 : ((" true " : Str)).length ≤ 6 := by decide +kernel
    have l4 := fracT_len (gi tr j) (gi b.steps j) (by omega) (by omega) (by omega)
    have l5 : ((" off " : Str)).length ≤ 5 := by decide +kernel
    have l6 := fracT_len (gi sh j * gi b.steps j - gi tr j) (gi b.steps j) (by omega) (by omega) hd
    have m1 := app_len _ _ _ _ a4 l1
    have m2 := app_len _ _ _ _ m1 l2
    have m3 := app_len _ _ _ _ m2 l3
    have m4 := app_len _ _ _ _ m3 l4
    have m5 := app_len _ _ _ _ m4 l5
    ((try show Wp _ (hide _ ⟨⟩)) <;> simp -dsimp -implicitDefEqProofs [wp_ok, o_idxd sh j (by omega), o_idxd tr j (by omega), o_idxd b.steps j (by omega), o_mul2 (gi sh j) (gi b.steps j) _ (by omega), s__law_fraction (n + 1) (gi tr j) (gi b.steps j) _ (by omega) (by omega) (by omega), s__law_fraction (n + 1) (gi sh j * gi b.steps j - gi tr j) (gi b.steps j) _ (by omega) (by omega) hd,
      o_idxm .str ns j _ (gs_get ns j (by omega)), o_str (gi sh j) _ (by omega), o_addl _ _ _ _ _ a4 l1, o_addl _ _ _ _ _ m1 l2, o_addl _ _ _ _ _ m2 l3, o_addl _ _ _ _ _ m3 l4, o_addl _ _ _ _ _ m4 l5, o_addl _ _ _ _ _ m5 l6])
    rw [r_app (l := ac.map .str) (get_app_len S _ []) _ (by simp; omega)]
    ((try show Wp _ (hide _ ⟨⟩)) <;> simp -dsimp -implicitDefEqProofs <;> try with_reducible refine wp_fin ?_)
    refine ⟨rfl, ⟨_, _, _, rfl⟩, ac ++ [figAt b ns tr sh j], by simp [figAt, figT], ?_⟩
    rw [range_snoc, eac]
  · intro ρ S1 hi
    obtain ⟨⟨x, y, z, rfl⟩, ac, rfl, eac⟩ := hi
    ((try show Wp _ (hide _ ⟨⟩)) <;> simp -dsimp -implicitDefEqProofs [wp_ok])
    rw [mapF_filter D.int (fun x => !decide (x = gi b.steps 0)) D.int b.steps (fun x hx => by
      by_cases z : x = gi b.steps 0 <;> ((try show Wp _ (hide _ ⟨⟩)) <;> simp -dsimp -implicitDefEqProofs [wp_ok, z])) (by rw [sizeLine_eq]; omega)]
    ((try show Wp _ (hide _ ⟨⟩)) <;> simp -dsimp -implicitDefEqProofs [wp_ok, nil_ints .eqNil _ _ (.inl rfl), rngD_ok _ _ _ rfl (show ls.length ≤ 1000000 by omega)])
    rw [show (b.steps.filter fun x => !decide (x = gi b.steps 0)).isEmpty = (b.steps.all fun x => decide (x = gi b.steps 0)) from nil_all _ _]
    generalize eal : (b.steps.all fun x => decide (x = gi b.steps 0)) = al
    refine Wp.foldR (fun k ρ S' => (∃ i x y z u v w w2 w3, ρ = [some b.D, some (.tup (ns.map .str)), some (.tup (ls.map tI)), some (stD tr sh), some (.ref S.length), some (.int (gi b.steps 0)), i, x, y, some (.bl al), z, u, v, w, w2, w3]) ∧ ∃ bc : List Str, S' = S ++ [.lst (bc.map .str)] ∧ bc = ac ++ (List.range k).map (lineAt b ls tr sh)) ls.length ?_ ⟨⟨_, _, _, _, _, _, _, _, _, rfl⟩, ac, rfl, by simp⟩ ?_
    · intro k hk ρ S1 hi
      obtain ⟨⟨i, x, y, z, u, v, w, w2, w3, rfl⟩, bc, rfl, ebc⟩ := hi
      have lbc : bc.length ≤ 14 := by rw [ebc, eac]; simp; omega
      have hlk := hl _ (List.mem_of_getElem? (gl_get ls k hk))
      have llen := hlk.len
      have b1 := wsum_le (gl ls k) sh 3 1000 (line_abs hlk) h.b2 (by omega)
      have b2 := wsum_le (gl ls k) tr 3 1000 (line_abs hlk) h.b1 (by omega)
      have b3 := wsum_le (gl ls k) (strays b.steps tr sh) 3 13000 (line_abs hlk) (strays_le _ _ _ hb.stp h.b1 h.b2) (by omega)
      have s0 := hb.stp (gi b.steps 0) (gi_mem _ _ (by omega))
      have slen := strays_len b.steps tr sh h1 h2
      have t1 := tS_len (k : Int) (by omega)
      have l1 : ("line " : Str).length ≤ 5 := by decide +kernel
      have l2 : (": " : Str).length ≤ 2 := by decide +kernel
      have l3 : ("shown " : Str).length ≤ 6 := by decide +kernel
      have l4 : (" true " : Str).length ≤ 6 := by decide +kernel
      have l5 : (" off " : Str).length ≤ 5 := by decide +kernel
      have l6 : ("off " : Str).length ≤ 4 := by decide +kernel
      have l7 : (" steps" : Str).length ≤ 6 := by decide +kernel
      have m1 := app_len _ _ _ _ l1 t1
      have m2 := app_len _ _ _ _ m1 l2
      have t3 := tS_len (wsum (gl ls k) (strays b.steps tr sh)) (by omega)
      ((try show Wp _ (hide _ ⟨⟩)) <;> simp -dsimp -implicitDefEqProofs [o_idxm tI ls k _ (gl_get ls k hk), s__law_strays_of (n + 2) b hb tr sh h1 h2, s__law_weighed (n + 2) (gl ls k) (strays b.steps tr sh) _ (by omega) (by omega) (line_64 hlk), o_str (k : Int) _ (by omega), o_addl _ _ _ _ _ l1 t1, o_addl _ _ _ _ _ m1 l2] <;> try with_reducible refine wp_fin ?_)
      cases al with
      | true =>
        have m3 := app_len _ _ _ _ m2 l3
        have t4 := tS_len (wsum (gl ls k) sh) (by omega)
        have m4 := app_len _ _ _ _ m3 t4
        have m5 := app_len _ _ _ _ m4 l4
        have t5 := fracT_len (wsum (gl ls k) tr) (gi b.steps 0) (by omega) (by omega) (by omega)
        have m6 := app_len _ _ _ _ m5 t5
        have m7 := app_len _ _ _ _ m6 l5
        have t6 := fracT_len (wsum (gl ls k) (strays b.steps tr sh)) (gi b.steps 0) (by omega) (by omega) (by omega)
        ((try show Wp _ (hide _ ⟨⟩)) <;> simp -dsimp -implicitDefEqProofs [rngD_ok _ _ _ rfl (show b.steps.length ≤ 1000000 by omega)] <;> try with_reducible refine wp_fin ?_)
        rw [mapF_map (fun i : Nat => D.int (i : Int)) (fun i => D.int (gi (gl ls k) i * gi sh i)) (List.range b.steps.length) (fun i hi => by
          have hi := List.mem_range.mp hi
          have q := line_64 hlk _ (gi_mem (gl ls k) i (by omega))
          ((try show Wp _ (hide _ ⟨⟩)) <;> simp -dsimp -implicitDefEqProofs [wp_ok, o_idxm tI ls k _ (gl_get ls k hk), o_idxd (gl ls k) i (by omega), o_idxd sh i (by omega), o_mul _ _ _ q])) (by rw [List.length_range, sizeLine_eq]; omega)]
        ((try show Wp _ (hide _ ⟨⟩)) <;> simp -dsimp -implicitDefEqProofs [opLF, sumD_map, wsum_range (gl ls k) sh b.steps.length llen h2, rngD_ok _ _ _ rfl (show b.steps.length ≤ 1000000 by omega)] <;> try with_reducible refine wp_fin ?_)
        rw [mapF_map (fun i : Nat => D.int (i : Int)) (fun i => D.int (gi (gl ls k) i * gi tr i)) (List.range b.steps.length) (fun i hi => by
          have hi := List.mem_range.mp hi
          have q := line_64 hlk _ (gi_mem (gl ls k) i (by omega))
          ((try show Wp _ (hide _ ⟨⟩)) <;> simp -dsimp -implicitDefEqProofs [wp_ok, o_idxm tI ls k _ (gl_get ls k hk), o_idxd (gl ls k) i (by omega), o_idxd tr i (by omega), o_mul _ _ _ q])) (by rw [List.length_range, sizeLine_eq]; omega)]
        ((try show Wp _ (hide _ ⟨⟩)) <;> simp -dsimp -implicitDefEqProofs [opLF, sumD_map, wsum_range (gl ls k) tr b.steps.length llen h1, o_str (wsum (gl ls k) sh) _ (by omega), s__law_fraction (n + 1) (wsum (gl ls k) tr) (gi b.steps 0) _ (by omega) (by omega) (by omega), s__law_fraction (n + 1) (wsum (gl ls k) (strays b.steps tr sh)) (gi b.steps 0) _ (by omega) (by omega) (by omega),
          o_addl _ _ _ _ _ m2 l3, o_addl _ _ _ _ _ m3 t4, o_addl _ _ _ _ _ m4 l4, o_addl _ _ _ _ _ m5 t5, o_addl _ _ _ _ _ m6 l5, o_addl _ _ _ _ _ m7 t6] <;> try with_reducible refine wp_fin ?_)
        rw [r_app (l := bc.map .str) (get_app_len S _ []) _ (by simp; omega)]
        ((try show Wp _ (hide _ ⟨⟩)) <;> simp -dsimp -implicitDefEqProofs <;> try with_reducible refine wp_fin ?_)
        refine ⟨rfl, ⟨_, _, _, _, _, _, _, _, _, rfl⟩, bc ++ [lineAt b ls tr sh k], ?_, ?_⟩
        · have al := wsum_alike (gl ls k) b.steps tr sh (gi b.steps 0) (fun x hx => of_decide_eq_true (List.all_eq_true.mp eal x hx)) llen h1 h2
          rw [List.map_append, lineAt, lineT, eal, if_pos rfl, figT, ← al, head_sh]
          rfl
        · rw [range_snoc, ebc, List.append_assoc]
      | false =>
        have m3 := app_len _ _ _ _ m2 l6
        have m4 := app_len _ _ _ _ m3 t3
        ((try show Wp _ (hide _ ⟨⟩)) <;> simp -dsimp -implicitDefEqProofs [o_str (wsum (gl ls k) (strays b.steps tr sh)) _ (by omega), o_addl _ _ _ _ _ m2 l6, o_addl _ _ _ _ _ m3 t3, o_addl _ _ _ _ _ m4 l7] <;> try with_reducible refine wp_fin ?_)
        rw [r_app (l := bc.map .str) (get_app_len S _ []) _ (by simp; omega)]
        ((try show Wp _ (hide _ ⟨⟩)) <;> simp -dsimp -implicitDefEqProofs <;> try with_reducible refine wp_fin ?_)
        refine ⟨rfl, ⟨_, _, _, _, _, _, _, _, _, rfl⟩, bc ++ [lineAt b ls tr sh k], ?_, ?_⟩
        · rw [List.map_append, lineAt, lineT, eal, if_neg (by decide), head_off]
          rfl
        · rw [range_snoc, ebc, List.append_assoc]
    · intro ρ S1 hi
      obtain ⟨⟨i, x, y, z, u, v, w, w2, w3, rfl⟩, bc, rfl, ebc⟩ := hi
      ((try show Wp _ (hide _ ⟨⟩)) <;> simp -dsimp -implicitDefEqProofs [r_tuple (get_app_len S (.lst (bc.map .str)) [])] <;> try with_reducible refine wp_fin ?_)
      refine ⟨?_, Kp.app _⟩
      rw [texts, figs_range, lns_range, ebc, eac, hlen]
end K76P
set_option Elab.async false
set_option linter.all false
set_option maxRecDepth 100000
set_option autoImplicit false
set_option maxHeartbeats 2000000
/-! P6: changes, states behind a move; what a player is -/
namespace K76P
open PySem K76
theorem cut_drop1 (l : List D) (i : Nat) : cutD l (some ((i : Int) + 1)) none = l.drop (i + 1) := cut_drop l (i + 1)
theorem gi_set (l : List Int) (i j : Nat) (x : Int) (h : i < l.length) : gi (l.set i x) j = if i = j then x else gi l j := by
  unfold gi
  rw [List.getD_eq_getElem?_getD, List.getD_eq_getElem?_getD, List.getElem?_set]
  by_cases e : i = j
  · subst e
    simp [h]
  · simp [e]
theorem gi_set_self (l : List Int) (i : Nat) (x : Int) (h : i < l.length) : gi (l.set i x) i = x := by rw [gi_set l i i x h, if_pos rfl]
theorem set_gi (l : List Int) (i : Nat) (h : i < l.length) : l.set i (gi l i) = l := by
  rw [gi_get l i h]
  exact List.set_getElem_self h
theorem s_put_to (n : Nat) (l : List Int) (i : Nat) (y : Int) (h : i < l.length) (hl : l.length ≤ 100) (S : Store) : callN tb fl (n + 1) k_put_to [tI l, .int i, .int y] S = .ok (tI (l.set i (gi l i + y))) S := by
  rw [u_put_to]
  ((try show Wp _ (hide _ ⟨⟩)) <;> simp -dsimp -implicitDefEqProofs [wp_ok, b_put_to, cut_take, o_idxd l i h])
  rw [o_addt _ _ _ (by rw [sizeLine_eq]; simp; omega)]
  ((try show Wp _ (hide _ ⟨⟩)) <;> simp -dsimp -implicitDefEqProofs [wp_ok, cut_drop1])
  rw [o_addt _ _ _ (by rw [sizeLine_eq]; simp; omega)]
  ((try show Wp _ (hide _ ⟨⟩)) <;> simp -dsimp -implicitDefEqProofs [wp_ok])
  rw [List.set_eq_take_append_cons_drop, if_pos (by simpa using h)]
/-- the changes that a player tells of a move -/
def chD (i : Nat) (y : Int) : D := .tup (if y = 0 then [] else [.tup [.int i, .int y]])
theorem s_is_changes (n : Nat) (b : Bk) (i : Nat) (y : Int) (h : i < b.steps.length) (S : Store) : callN tb fl (n + 6) k_is_changes [b.D, chD i y] S = .ok (.bl true) S := by
  rw [u_is_changes]
  unfold chD
  by_cases z : y = 0
  · ((try show Wp _ (hide _ ⟨⟩)) <;> simp -dsimp -implicitDefEqProofs [wp_ok, b_is_changes, z])
    ((try show Wp _ (hide _ ⟨⟩)) <;> simp -dsimp -implicitDefEqProofs [wp_ok, opLF, allD, allBls, rngD_neg (-1)])
  · ((try show Wp _ (hide _ ⟨⟩)) <;> simp -dsimp -implicitDefEqProofs [wp_ok, b_is_changes, z])
    rw [mapF_cons]
    ((try show Wp _ (hide _ ⟨⟩)) <;> simp -dsimp -implicitDefEqProofs [wp_ok, u_is_change, b_is_change, s_is_part_books, s_is_whole_int, z, show (0 : Int) ≤ i by omega, show (i : Int) ≤ b.steps.length - 1 by omega])
    ((try show Wp _ (hide _ ⟨⟩)) <;> simp -dsimp -implicitDefEqProofs [wp_ok, opLF, allD, allBls, rngD_neg 0])
theorem opIn_link (neg : Bool) (b : Bk) (hb : b.Ok) (i : Nat) (h : i < b.steps.length) (S : Store) : ∃ l : List Int, opIdx (.tup (b.links.map tI)) (.int (i : Int)) S = .ok (tI l) S ∧ opIn neg (.int (i : Int)) (tI l) S = .ok (.bl (!neg)) S := by
  have hl := hb.lens
  have e : b.links[i]? = some (b.links[i]'(by omega)) := List.getElem?_eq_getElem (by omega)
  refine ⟨_, o_idxm tI b.links i _ e S, ?_⟩
  rw [opIn_ints]
  have := (hb.lnk i _ e).own
  cases neg <;> simp [this]
theorem s_first_outside (n : Nat) (b : Bk) (hb : b.Ok) (i : Nat) (y : Int) (h : i < b.steps.length) (S : Store) : callN tb fl (n + 1) k_first_outside [b.D, .int i, chD i y] S = .ok .non S := by
  rw [u_first_outside]
  obtain ⟨l, e1, e2⟩ := opIn_link true b hb i h S
  unfold chD
  by_cases z : y = 0
  · ((try show Wp _ (hide _ ⟨⟩)) <;> simp -dsimp -implicitDefEqProofs [wp_ok, b_first_outside, z])
  · ((try show Wp _ (hide _ ⟨⟩)) <;> simp -dsimp -implicitDefEqProofs [wp_ok, b_first_outside, z])
    rw [foldF_cons]
    ((try show Wp _ (hide _ ⟨⟩)) <;> simp -dsimp -implicitDefEqProofs [wp_ok, e1, e2])
theorem s_state_behind (n : Nat) (tr sh : List Int) (i : Nat) (w y : Int) (h1 : i < tr.length) (h2 : i < sh.length) (l1 : tr.length ≤ 100) (l2 : sh.length ≤ 100) (S : Store) : callN tb fl (n + 2) k_state_behind [stD tr sh, .tup [.int i, .int w], chD i y] S = .ok (stD (tr.set i (gi tr i + w)) (sh.set i (gi sh i + y))) S := by
  rw [u_state_behind]
  unfold chD
  by_cases z : y = 0
  · ((try show Wp _ (hide _ ⟨⟩)) <;> simp -dsimp -implicitDefEqProofs [wp_ok, b_state_behind, z, s_put_to n tr i w h1 l1])
    rw [← List.map_set, set_gi sh i h2]
  · ((try show Wp _ (hide _ ⟨⟩)) <;> simp -dsimp -implicitDefEqProofs [wp_ok, b_state_behind, z])
    rw [foldF_cons]
    ((try show Wp _ (hide _ ⟨⟩)) <;> simp -dsimp -implicitDefEqProofs [wp_ok, s_put_to n tr i w h1 l1, s_put_to n sh i y h2 l2])
theorem s_at_first (n : Nat) (b : Bk) (hb : b.Ok) (S : Store) : callN tb fl (n + 2) k_at_first [b.D] S = .ok (stD (List.replicate b.steps.length 0) (List.replicate b.steps.length 0)) S := by
  rw [u_at_first]
  have hm := hb.m4
  ((try show Wp _ (hide _ ⟨⟩)) <;> simp -dsimp -implicitDefEqProofs [wp_ok, b_at_first, s_many_parts n b S, o_rep _ b.steps.length (show b.steps.length ≤ 1000 by omega)])
theorem s__law_noughts (n : Nat) (b : Bk) (hb : b.Ok) (S : Store) : callN tb fl (n + 1) k__law_noughts [b.D] S = .ok (stD (List.replicate b.steps.length 0) (List.replicate b.steps.length 0)) S := by
  rw [u__law_noughts]
  have hm := hb.m4
  ((try show Wp _ (hide _ ⟨⟩)) <;> simp -dsimp -implicitDefEqProofs [wp_ok, b__law_noughts, o_rep _ b.steps.length (show b.steps.length ≤ 1000 by omega)])
theorem s_is_move (n : Nat) (b : Bk) (v : Mv) (h : v.Ok b.steps.length) (S : Store) : callN tb fl (n + 5) k_is_move [b.D, v.D] S = .ok (.bl true) S := by
  rw [u_is_move]
  have := h.lt
  have q : opIn false (.int v.way) (.tup [.int 1, .int (-1)]) S = .ok (.bl true) S := by
    rw [show D.tup [.int 1, .int (-1)] = .tup ([1, -1].map D.int) from rfl, opIn_ints]
    rcases h.way with e | e <;> rw [e] <;> rfl
  ((try show Wp _ (hide _ ⟨⟩)) <;> simp -dsimp -implicitDefEqProofs [wp_ok, b_is_move, s_is_part_books, s_is_whole_int, show (0 : Int) ≤ v.part by omega, show (v.part : Int) ≤ b.steps.length - 1 by omega, q])
theorem s_want_history (n : Nat) (b : Bk) (l : List Mv) (h : ∀ v ∈ l, v.Ok b.steps.length) (S : Store) : callN tb fl (n + 6) k_want_history [b.D, HD l] S = .ok .non S := by
  rw [u_want_history]
  ((try show Wp _ (hide _ ⟨⟩)) <;> simp -dsimp -implicitDefEqProofs [wp_ok, b_want_history])
  rw [enumL_of]
  refine fold_bind _ (fun ρ => ∃ x y : Option D, ρ = [some b.D, some (HD l), x, y]) _ _ (fun p hp ρ hρ => ?_) ⟨none, none, rfl⟩ (fun ρ hρ => ?_)
  · obtain ⟨x, y, rfl⟩ := hρ
    have hm := List.mem_zipIdx_iff_getElem?.mp hp
    refine ⟨_, ?_, some (.int (p.2 : Int)), some p.1.D, rfl⟩
    ((try show Wp _ (hide _ ⟨⟩)) <;> simp -dsimp -implicitDefEqProofs [wp_ok, s_is_move n b p.1 (h _ (List.mem_of_getElem? hm)) S])
  · obtain ⟨x, y, rfl⟩ := hρ
    ((try show Wp _ (hide _ ⟨⟩)) <;> simp -dsimp -implicitDefEqProofs [wp_ok])
/-! ### the law's own -/
theorem s__law_is_formed (n : Nat) (b : Bk) (i : Nat) (y : Int) (h : i < b.steps.length) (S : Store) : callN tb fl (n + 1) k__law_is_formed [b.D, chD i y] S = .ok (.bl true) S := by
  rw [u__law_is_formed]
  unfold chD
  by_cases z : y = 0
  · ((try show Wp _ (hide _ ⟨⟩)) <;> simp -dsimp -implicitDefEqProofs [wp_ok, b__law_is_formed, z])
  · ((try show Wp _ (hide _ ⟨⟩)) <;> simp -dsimp -implicitDefEqProofs [wp_ok, b__law_is_formed, z])
    rw [foldF_cons]
    ((try show Wp _ (hide _ ⟨⟩)) <;> simp -dsimp -implicitDefEqProofs [wp_ok])
    rw [foldF_cons]
    ((try show Wp _ (hide _ ⟨⟩)) <;> simp -dsimp -implicitDefEqProofs [wp_ok])
    rw [foldF_cons]
    ((try show Wp _ (hide _ ⟨⟩)) <;> simp -dsimp -implicitDefEqProofs [wp_ok, z, show (-1 : Int) < i by omega, show (i : Int) < b.steps.length by omega])
theorem s__law_is_let (n : Nat) (b : Bk) (hb : b.Ok) (i : Nat) (y : Int) (h : i < b.steps.length) (S : Store) : callN tb fl (n + 2) k__law_is_let [b.D, .int i, chD i y] S = .ok (.bl true) S := by
  rw [u__law_is_let]
  have e0 := s__law_is_formed n b i y h S
  obtain ⟨l, e1, e2⟩ := opIn_link true b hb i h S
  ((try show Wp _ (hide _ ⟨⟩)) <;> simp -dsimp -implicitDefEqProofs [wp_ok, b__law_is_let, e0])
  unfold chD
  by_cases z : y = 0
  · ((try show Wp _ (hide _ ⟨⟩)) <;> simp -dsimp -implicitDefEqProofs [wp_ok, z, opLF, D.pyAll, SeqAt.shaped, PyData.canLay0, PyData.canLayAll0, PyData.depth, PyData.depthAll])
  · ((try show Wp _ (hide _ ⟨⟩)) <;> simp -dsimp -implicitDefEqProofs [wp_ok, z])
    rw [mapF_cons]
    ((try show Wp _ (hide _ ⟨⟩)) <;> simp -dsimp -implicitDefEqProofs [wp_ok, e1, e2, opLF, D.pyAll, SeqAt.shaped, PyData.canLay0, PyData.canLayAll0, PyData.depth, PyData.depthAll])
theorem s__law_stepped (n : Nat) (tr sh : List Int) (i : Nat) (w y : Int) (h1 : i < tr.length) (h2 : i < sh.length) (S : Store) : Wp (callN tb fl (n + 1) k__law_stepped [stD tr sh, .tup [.int i, .int w], chD i y] S) fun v S' => v = stD (tr.set i (gi tr i + w)) (sh.set i (gi sh i + y)) ∧ Kp [] S S' := by
  rw [u__law_stepped]
  have f1 : (tr.map D.int)[i]? = some (.int (gi tr i)) := by rw [List.getElem?_map, List.getElem?_eq_getElem h1, gi_get tr i h1]; rfl
  have f2 : (sh.map D.int)[i]? = some (.int (gi sh i)) := by rw [List.getElem?_map, List.getElem?_eq_getElem h2, gi_get sh i h2]; rfl
  ((try show Wp _ (hide _ ⟨⟩)) <;> simp -dsimp -implicitDefEqProofs [b__law_stepped] <;> try with_reducible refine wp_fin ?_)
  rw [r_idx (l := tr.map .int) (by simp) f1]
  ((try show Wp _ (hide _ ⟨⟩)) <;> simp -dsimp -implicitDefEqProofs <;> try with_reducible refine wp_fin ?_)
  rw [r_set (l := tr.map .int) (by simp) (by simpa using h1)]
  unfold chD
  have e1 : (tr.map D.int).set i (.int (gi tr i + w)) = (tr.set i (gi tr i + w)).map D.int := by rw [List.map_set]
  have e2 : (sh.map D.int).set i (.int (gi sh i + y)) = (sh.set i (gi sh i + y)).map D.int := by rw [List.map_set]
  by_cases z : y = 0
  · ((try show Wp _ (hide _ ⟨⟩)) <;> simp -dsimp -implicitDefEqProofs [z, r_tuple (l := (tr.map D.int).set i (.int (gi tr i + w))), r_tuple (l := sh.map D.int)] <;> try with_reducible refine wp_fin ?_)
    rw [e1]
    refine ⟨?_, Kp.app _⟩
    rw [z, Int.add_zero, set_gi sh i h2]
  · ((try show Wp _ (hide _ ⟨⟩)) <;> simp -dsimp -implicitDefEqProofs [z] <;> try with_reducible refine wp_fin ?_)
    rw [foldF_cons]
    ((try show Wp _ (hide _ ⟨⟩)) <;> simp -dsimp -implicitDefEqProofs <;> try with_reducible refine wp_fin ?_)
    rw [r_idx (l := sh.map .int) (by simp) f2]
    ((try show Wp _ (hide _ ⟨⟩)) <;> simp -dsimp -implicitDefEqProofs <;> try with_reducible refine wp_fin ?_)
    rw [r_set (l := sh.map .int) (by simp) (by simpa using h2)]
    ((try show Wp _ (hide _ ⟨⟩)) <;> simp -dsimp -implicitDefEqProofs [r_tuple (l := (tr.map D.int).set i (.int (gi tr i + w))), r_tuple (l := (sh.map D.int).set i (.int (gi sh i + y)))] <;> try with_reducible refine wp_fin ?_)
    rw [e1, e2]
    exact ⟨rfl, Kp.app _⟩
end K76P
set_option Elab.async false
set_option linter.all false
set_option maxRecDepth 100000
set_option autoImplicit false
set_option maxHeartbeats 2000000
/-! P7: players; halves -/
namespace K76P
open PySem K76
structure Player (b : Bk) where
  T : Type
  C : Nat
  fs : T → List (Nat × D)
  kc : Nat
  km : Nat
  hc : tb.meth C 3 = some kc
  hm : tb.meth C 4 = some km
  lc : ∀ s, (fs s).lookup 3 = none
  lm : ∀ s, (fs s).lookup 4 = none
  tr : T → List Int
  sh : T → List Int
  nxt : T → Nat → Int → T
  good : Nat → T → Prop
  ltr : ∀ t s, good t s → (tr s).length = b.steps.length
  lsh : ∀ t s, good t s → (sh s).length = b.steps.length
  btr : ∀ t s, good t s → ∀ x ∈ tr s, x.natAbs ≤ t
  bsh : ∀ t s, good t s → ∀ x ∈ sh s, x.natAbs ≤ t
  copy : ∀ n t s S p, good t s → S[p]? = some (.ins C (fs s)) → callN tb fl (n + 2) kc [.ref p] S = .ok (.ref S.length) (S ++ [.ins C (fs s)])
  step : ∀ t s i w, good t s → t ≤ 100 → i < b.steps.length → (w = 1 ∨ w = -1) → good (t + 1) (nxt s i w) ∧ tr (nxt s i w) = (tr s).set i (gi (tr s) i + w) ∧ sh (nxt s i w) = (sh s).set i (gi (sh (nxt s i w)) i)
  moved : ∀ n t s S p i w, good t s → t ≤ 100 → i < b.steps.length → (w = 1 ∨ w = -1) → S[p]? = some (.ins C (fs s)) → Wp (callN tb fl (n + 20) km [.ref p, .int (i : Int), .int w] S) fun v S' => v = chD i (gi (sh (nxt s i w)) i - gi (sh s) i) ∧ Kp [p] S S' ∧ S'[p]? = some (.ins C (fs (nxt s i w)))
/-! ### halves -/
def near (t s e : Int) : Int := (t + (s - 1 + e) / 2) / s
theorem near_le (t s e : Int) (k : Nat) (h1 : 1 ≤ s) (h2 : s ≤ 12) (h3 : 0 ≤ e) (h4 : e ≤ 1) (ht : t.natAbs ≤ k) : (near t s e).natAbs ≤ k := by
  unfold near
  have hs : s = 1 ∨ s = 2 ∨ s = 3 ∨ s = 4 ∨ s = 5 ∨ s = 6 ∨ s = 7 ∨ s = 8 ∨ s = 9 ∨ s = 10 ∨ s = 11 ∨ s = 12 := by omega
  rcases hs with rfl | rfl | rfl | rfl | rfl | rfl | rfl | rfl | rfl | rfl | rfl | rfl <;> omega
def hsh (b : Bk) (ties : List Int) (tr : List Int) : List Int := (List.range b.steps.length).map fun i => near (gi tr i) (gi b.steps i) (gi ties i)
abbrev hfs (b : Bk) (ties : List Int) (tr : List Int) : List (Nat × D) := [(2, b.D), (23, tI ties), (22, tI tr)]
theorem gi_map (m i : Nat) (f : Nat → Int) (h : i < m) : gi ((List.range m).map f) i = f i := by
  rw [gi_get _ i (by simpa using h)]
  simp
theorem s_Half_init (n : Nat) (S : Store) (x y z : D) : callN tb fl (n + 1) k_HalvesPlayer_init [.ref S.length, x, y, z] (S ++ [.ins 19 []]) = .ok .non (S ++ [.ins 19 [(2, x), (23, y), (22, z)]]) := by
  rw [u_HalvesPlayer_init]
  ((try show Wp _ (hide _ ⟨⟩)) <;> simp -dsimp -implicitDefEqProofs [wp_ok, b_HalvesPlayer_init])
theorem s_Half_copy (n : Nat) (S : Store) (p : Nat) (b : Bk) (ties tr : List Int) (h : S[p]? = some (.ins 19 (hfs b ties tr))) : callN tb fl (n + 2) k_HalvesPlayer_copy [.ref p] S = .ok (.ref S.length) (S ++ [.ins 19 (hfs b ties tr)]) := by
  rw [u_HalvesPlayer_copy]
  ((try show Wp _ (hide _ ⟨⟩)) <;> simp -dsimp -implicitDefEqProofs [wp_ok, b_HalvesPlayer_copy, h, s_Half_init])
theorem s_nearest (n : Nat) (t s e : Int) (h1 : 1 ≤ s) (h2 : s ≤ 12) (S : Store) : callN tb fl (n + 1) k_nearest [.int t, .int s, .int e] S = .ok (.int (near t s e)) S := by
  rw [u_nearest]
  ((try show Wp _ (hide _ ⟨⟩)) <;> simp -dsimp -implicitDefEqProofs [wp_ok, b_nearest, near, o_fdiv _ 2 _ (by omega), o_fdiv _ s _ (by omega)])
theorem s_Half_number (n : Nat) (S : Store) (p : Nat) (b : Bk) (hb : b.Ok) (ties tr : List Int) (i : Nat) (hi : i < b.steps.length) (l1 : ties.length = b.steps.length) (l2 : tr.length = b.steps.length) (h : S[p]? = some (.ins 19 (hfs b ties tr))) : callN tb fl (n + 2) k_HalvesPlayer_number [.ref p, .int i] S = .ok (.int (near (gi tr i) (gi b.steps i) (gi ties i))) S := by
  rw [u_HalvesPlayer_number]
  have := hb.stp _ (gi_mem b.steps i hi)
  ((try show Wp _ (hide _ ⟨⟩)) <;> simp -dsimp -implicitDefEqProofs [wp_ok, b_HalvesPlayer_number, h, o_idxd tr i (by omega), o_idxd b.steps i hi, o_idxd ties i (by omega), s_nearest n _ _ _ this.1 this.2])
theorem s_Half_moved (n : Nat) (S : Store) (p : Nat) (b : Bk) (hb : b.Ok) (ties tr : List Int) (i : Nat) (w : Int) (hi : i < b.steps.length) (l1 : ties.length = b.steps.length) (l2 : tr.length = b.steps.length) (h : S[p]? = some (.ins 19 (hfs b ties tr))) :
    Wp (callN tb fl (n + 3) k_HalvesPlayer_moved [.ref p, .int i, .int w] S) fun v S' => v = chD i (near (gi tr i + w) (gi b.steps i) (gi ties i) - near (gi tr i) (gi b.steps i) (gi ties i)) ∧ Kp [p] S S' ∧ S'[p]? = some (.ins 19 (hfs b ties (tr.set i (gi tr i + w)))) := by
  rw [u_HalvesPlayer_moved]
  have hm := hb.m4
  have e2 : ∀ o, (S.set p o)[p]? = some o := fun o => get_set_self h o
  have n2 := s_Half_number n (S.set p (.ins 19 (hfs b ties (tr.set i (gi tr i + w))))) p b hb ties (tr.set i (gi tr i + w)) i hi l1 (by simp [l2]) (e2 _)
  rw [gi_set_self tr i _ (by omega)] at n2
  ((try show Wp _ (hide _ ⟨⟩)) <;> simp -dsimp -implicitDefEqProofs [b_HalvesPlayer_moved, h, s_Half_number n S p b hb ties tr i hi l1 l2 h, s_put_to (n + 1) tr i w (by omega) (by omega), e2] <;> try with_reducible refine wp_fin ?_)
  rw [n2]
  ((try show Wp _ (hide _ ⟨⟩)) <;> simp -dsimp -implicitDefEqProofs <;> try with_reducible refine wp_fin ?_)
  generalize near (gi tr i + w) (gi b.steps i) (gi ties i) - near (gi tr i) (gi b.steps i) (gi ties i) = y
  by_cases z : y = 0
  · ((try show Wp _ (hide _ ⟨⟩)) <;> simp -dsimp -implicitDefEqProofs [z] <;> try with_reducible refine wp_fin ?_)
    exact ⟨by simp [chD, z], Kp.set (by simp) _, e2 _⟩
  · ((try show Wp _ (hide _ ⟨⟩)) <;> simp -dsimp -implicitDefEqProofs [z] <;> try with_reducible refine wp_fin ?_)
    exact ⟨by simp [chD, z], Kp.set (by simp) _, e2 _⟩
structure TiesOk (b : Bk) (ties : List Int) : Prop where
  len : ties.length = b.steps.length
  rng : ∀ x ∈ ties, 0 ≤ x ∧ x ≤ 1
theorem mem_set_le {l : List Int} {i : Nat} {x : Int} {k : Nat} (h : ∀ y ∈ l, y.natAbs ≤ k) (hx : x.natAbs ≤ k) : ∀ y ∈ l.set i x, y.natAbs ≤ k := fun y hy => by
  rcases List.mem_or_eq_of_mem_set hy with z | z
  · exact h y z
  · rw [z]
    exact hx
theorem gi_le {l : List Int} {i : Nat} {k : Nat} (h : ∀ y ∈ l, y.natAbs ≤ k) (hi : i < l.length) : (gi l i).natAbs ≤ k := h _ (gi_mem l i hi)
def half (b : Bk) (hb : b.Ok) (ties : List Int) (ht : TiesOk b ties) : Player b where
  T := List Int
  C := 19
  fs := hfs b ties
  kc := k_HalvesPlayer_copy
  km := k_HalvesPlayer_moved
  hc := rfl
  hm := rfl
  lc := fun s => rfl
  lm := fun s => rfl
  tr := fun s => s
  sh := hsh b ties
  nxt := fun s i w => s.set i (gi s i + w)
  good := fun t s => s.length = b.steps.length ∧ ∀ x ∈ s, x.natAbs ≤ t
  ltr := fun t s h => h.1
  lsh := fun t s h => by simp [hsh]
  btr := fun t s h => h.2
  bsh := fun t s h x hx => by
    obtain ⟨i, hi, rfl⟩ := List.mem_map.mp hx
    have hi := List.mem_range.mp hi
    have a1 := hb.stp _ (gi_mem b.steps i hi)
    have a2 := ht.rng _ (gi_mem ties i (by rw [ht.len]; exact hi))
    exact near_le _ _ _ t a1.1 a1.2 a2.1 a2.2 (gi_le h.2 (by omega))
  copy := fun n t s S p h e => s_Half_copy n S p b ties s e
  step := fun t s i w h h100 hi hw => by
    have a := gi_le h.2 (show i < s.length by omega)
    refine ⟨⟨by simp [h.1], mem_set_le (fun y hy => Nat.le_succ_of_le (h.2 y hy)) (by omega)⟩, rfl, ?_⟩
    refine List.ext_getElem (by simp [hsh]) fun j h1 h2 => ?_
    have hj : j < b.steps.length := by simpa [hsh] using h1
    rw [List.getElem_set]
    by_cases e : i = j
    · subst e
      rw [if_pos rfl, gi_get _ i h1]
    · rw [if_neg e]
      simp only [hsh, List.getElem_map, List.getElem_range]
      rw [gi_set s i j _ (by omega), if_neg e]
  moved := fun n t s S p i w h h100 hi hw e => by
    refine (s_Half_moved (n + 17) S p b hb ties s i w hi ht.len h.1 e).imp fun v S' q => ?_
    obtain ⟨rfl, q2, q3⟩ := q
    refine ⟨?_, q2, q3⟩
    unfold hsh
    rw [gi_map _ _ _ hi, gi_map _ _ _ hi, gi_set_self s i _ (by omega)]
theorem s_want_ties (n : Nat) (b : Bk) (hb : b.Ok) (ties : List Int) (ht : TiesOk b ties) (S : Store) : callN tb fl (n + 3) k_want_ties [b.D, tI ties] S = .ok .non S := by
  rw [u_want_ties]
  ((try show Wp _ (hide _ ⟨⟩)) <;> simp -dsimp -implicitDefEqProofs [wp_ok, b_want_ties, s_many_parts (n + 1) b S, ht.len])
  rw [enumL_of]
  refine fold_bind _ (fun ρ => ∃ x y : Option D, ρ = [some b.D, some (tI ties), x, y]) _ _ (fun p hp ρ hρ => ?_) ⟨none, none, rfl⟩ (fun ρ hρ => ?_)
  · obtain ⟨x, y, rfl⟩ := hρ
    have hm := List.mem_zipIdx_iff_getElem?.mp hp
    have hr := ht.rng _ (List.mem_of_getElem? hm)
    refine ⟨_, ?_, some (.int (p.2 : Int)), some (.int p.1), rfl⟩
    ((try show Wp _ (hide _ ⟨⟩)) <;> simp -dsimp -implicitDefEqProofs [wp_ok, s_is_between, hr.1, hr.2])
  · obtain ⟨x, y, rfl⟩ := hρ
    ((try show Wp _ (hide _ ⟨⟩)) <;> simp -dsimp -implicitDefEqProofs [wp_ok])
theorem s_halves (n : Nat) (b : Bk) (hb : b.Ok) (ties : List Int) (ht : TiesOk b ties) (S : Store) : callN tb fl (n + 7) k_halves [b.D, tI ties] S = .ok (.ref S.length) (S ++ [.ins 19 (hfs b ties (List.replicate b.steps.length 0))]) := by
  rw [u_halves]
  have hm := hb.m4
  ((try show Wp _ (hide _ ⟨⟩)) <;> simp -dsimp -implicitDefEqProofs [wp_ok, b_halves, s_made_book n b S hb, s_want_ties (n + 3) b hb ties ht, s_many_parts (n + 5) b S, o_rep _ b.steps.length (show b.steps.length ≤ 1000 by omega), s_Half_init])
/-- a player at the start -/
structure Player.Start {b : Bk} (P : Player b) (s : P.T) : Prop where
  good : P.good 0 s
  tr : P.tr s = List.replicate b.steps.length 0
  sh : P.sh s = List.replicate b.steps.length 0
theorem half_start (b : Bk) (hb : b.Ok) (ties : List Int) (ht : TiesOk b ties) : (half b hb ties ht).Start (List.replicate b.steps.length (0 : Int)) := by
  refine ⟨⟨by simp, fun x hx => by rw [List.eq_of_mem_replicate hx]; simp⟩, rfl, ?_⟩
  refine List.ext_getElem (by simp [half, hsh]) fun j h1 h2 => ?_
  have hj : j < b.steps.length := by simpa using h2
  simp only [half, hsh, List.getElem_map, List.getElem_range, List.getElem_replicate]
  have a1 := hb.stp _ (gi_mem b.steps j hj)
  have a2 := ht.rng _ (gi_mem ties j (by rw [ht.len]; exact hj))
  have q := near_le 0 (gi b.steps j) (gi ties j) 0 a1.1 a1.2 a2.1 a2.2 (by simp)
  have e : gi (List.replicate b.steps.length 0) j = 0 := by rw [gi_get _ j (by simpa using hj)]; simp
  rw [e]
  omega
end K76P
set_option Elab.async false
set_option linter.all false
set_option maxRecDepth 100000
set_option autoImplicit false
set_option maxHeartbeats 2000000
/-! P8: standings, editions, feeds -/
namespace K76P
open PySem K76
theorem Kp.ins {ms : List Nat} {S S' : Store} (k : Kp ms S S') {i C : Nat} {fs : List (Nat × D)} (h : S[i]? = some (.ins C fs)) (hl : ∀ j ∈ ms, ∃ l, S[j]? = some (.lst l)) : S'[i]? = some (.ins C fs) := k.get h fun z => by
  obtain ⟨l, e⟩ := hl i z
  rw [h] at e
  cases e
section
variable {b : Bk} (P : Player b)
def play (s : P.T) (H : List Mv) : P.T := H.foldl (fun s v => P.nxt s v.part v.way) s
theorem play_snoc (s : P.T) (H : List Mv) (v : Mv) : play P s (H ++ [v]) = P.nxt (play P s H) v.part v.way := by simp [play]
theorem play_app (s : P.T) (H M : List Mv) : play P s (H ++ M) = play P (play P s H) M := by simp [play]
theorem play_good {s : P.T} {t : Nat} (h : P.good t s) : ∀ (H : List Mv), (∀ v ∈ H, v.Ok b.steps.length) → t + H.length ≤ 101 → P.good (t + H.length) (play P s H) := by
  intro H
  induction H generalizing s t with
  | nil => intro _ _; exact h
  | cons v r ih =>
    intro hok hl
    rw [List.length_cons] at hl
    have hv := hok v (List.mem_cons_self ..)
    have q := (P.step t s v.part v.way h (by omega) hv.lt hv.way).1
    have q2 := ih q (fun x hx => hok x (List.mem_cons_of_mem _ hx)) (by omega)
    rw [show t + (v :: r).length = t + 1 + r.length by simp; omega]
    exact q2
abbrev sFs (p : Nat) (s : P.T) : List (Nat × D) := [(2, b.D), (1, .ref p), (0, stD (P.tr s) (P.sh s))]
structure StAt (S : Store) (q p : Nat) (s : P.T) : Prop where
  st : S[q]? = some (.ins 14 (sFs P p s))
  pl : S[p]? = some (.ins P.C (P.fs s))
  ne : p ≠ q
variable {P}
variable {S S1 : Store} {q p : Nat} {s : P.T} {t : Nat}
theorem s_step (n : Nat) (hb : b.Ok) (a : StAt P S q p s) (hg : P.good t s) (ht : t ≤ 100) (v : Mv) (hv : v.Ok b.steps.length) :
    Wp (callN tb fl (n + 21) k_Standing_step [.ref q, v.D] S) fun r S' => (∃ y : Int, r = chD v.part y) ∧ Kp [q, p] S S' ∧ StAt P S' q p (P.nxt s v.part v.way) := by
  rw [u_Standing_step]
  have hm := hb.m4
  ((try show Wp _ (hide _ ⟨⟩)) <;> simp -dsimp -implicitDefEqProofs [b_Standing_step, a.st, a.pl, P.hm, P.lm] <;> try with_reducible refine wp_fin ?_)
  refine (P.moved n t s S p v.part v.way hg ht hv.lt hv.way a.pl).bind fun r S1 hr => ?_
  obtain ⟨rfl, k1, pl1⟩ := hr
  have st1 := k1.get1 a.st a.ne.symm
  have l1 := P.ltr t s hg
  have l2 := P.lsh t s hg
  obtain ⟨_, e1, e2⟩ := P.step t s v.part v.way hg ht hv.lt hv.way
  have lt := hv.lt
  ((try show Wp _ (hide _ ⟨⟩)) <;> simp -dsimp -implicitDefEqProofs [st1, s_is_changes (n + 14) b v.part _ hv.lt, s_first_outside (n + 19) b hb v.part _ hv.lt, s_state_behind (n + 18) (P.tr s) (P.sh s) v.part v.way _ (by omega) (by omega) (by omega) (by omega)] <;> try with_reducible refine wp_fin ?_)
  refine ⟨⟨_, rfl⟩, ?_, ?_⟩
  · exact (k1.mono (by simp)).trans (Kp.set (by simp) _)
  · have e3 : gi (P.sh s) v.part + (gi (P.sh (P.nxt s v.part v.way)) v.part - gi (P.sh s) v.part) = gi (P.sh (P.nxt s v.part v.way)) v.part := by omega
    rw [e3, ← e1, ← e2]
    exact ⟨get_set_self st1 _, get_set_ne pl1 a.ne.symm _, a.ne⟩
theorem s_Standing_init (n : Nat) (S : Store) (x y z : D) : callN tb fl (n + 1) k_Standing_init [.ref S.length, x, y, z] (S ++ [.ins 14 []]) = .ok .non (S ++ [.ins 14 [(2, x), (1, y), (0, z)]]) := by
  rw [u_Standing_init]
  ((try show Wp _ (hide _ ⟨⟩)) <;> simp -dsimp -implicitDefEqProofs [wp_ok, b_Standing_init])
theorem s_Edition_init (n : Nat) (S : Store) (x y z : D) : callN tb fl (n + 1) k_Edition_init [.ref S.length, x, y, z] (S ++ [.ins 17 []]) = .ok .non (S ++ [.ins 17 [(14, x), (13, y), (12, z)]]) := by
  rw [u_Edition_init]
  ((try show Wp _ (hide _ ⟨⟩)) <;> simp -dsimp -implicitDefEqProofs [wp_ok, b_Edition_init])
theorem s_Standing_branch (n : Nat) (a : StAt P S q p s) (hg : P.good t s) : callN tb fl (n + 3) k_Standing_branch [.ref q] S = .ok (.ref (S.length + 1)) (S ++ [.ins P.C (P.fs s), .ins 14 (sFs P S.length s)]) := by
  rw [u_Standing_branch]
  have ap : (S ++ [MO.ins P.C (P.fs s)])[q]? = some (.ins 14 (sFs P p s)) := get_app a.st _
  have i1 := s_Standing_init (n + 1) (S ++ [.ins P.C (P.fs s)]) b.D (.ref S.length) (stD (P.tr s) (P.sh s))
  simp only [List.length_append, List.length_cons, List.length_nil, List.append_assoc, List.cons_append, List.nil_append, Nat.zero_add] at i1
  ((try show Wp _ (hide _ ⟨⟩)) <;> simp -dsimp -implicitDefEqProofs [wp_ok, b_Standing_branch, a.st, a.pl, P.hc, P.lc, P.copy n t s S p hg a.pl, ap, i1])
theorem s_standing_at_first (n : Nat) (hb : b.Ok) (hs : P.Start s) (hp : S[p]? = some (.ins P.C (P.fs s))) : callN tb fl (n + 3) k_standing_at_first [b.D, .ref p] S = .ok (.ref (S.length + 1)) (S ++ [.ins P.C (P.fs s), .ins 14 (sFs P S.length s)]) := by
  rw [u_standing_at_first]
  have i1 := s_Standing_init (n + 1) (S ++ [.ins P.C (P.fs s)]) b.D (.ref S.length) (stD (P.tr s) (P.sh s))
  simp only [List.length_append, List.length_cons, List.length_nil, List.append_assoc, List.cons_append, List.nil_append, Nat.zero_add] at i1
  rw [hs.tr, hs.sh] at i1
  ((try show Wp _ (hide _ ⟨⟩)) <;> simp -dsimp -implicitDefEqProofs [wp_ok, b_standing_at_first, hp, P.hc, P.lc, P.copy n 0 s S p hs.good hp, s_at_first n b hb, i1])
  simp [hs.tr, hs.sh]
/-- an edition -/
structure Ed where
  e : Nat
  q : Nat
  p : Nat
  H : List Mv
  sl : List D
variable (P)
structure EdAt (S : Store) (s0 : P.T) (E : Ed) : Prop where
  ed : S[E.e]? = some (.ins 17 [(14, .ref E.q), (13, HD E.H), (12, .tup E.sl)])
  st : StAt P S E.q E.p (play P s0 E.H)
  n1 : E.e ≠ E.q
  n2 : E.e ≠ E.p
  sl : E.sl.length = E.H.length
  ok : ∀ v ∈ E.H, v.Ok b.steps.length
  few : E.H.length ≤ 100
variable {P}
theorem EdAt.good {s0 : P.T} {E : Ed} (a : EdAt P S s0 E) (hs : P.Start s0) : P.good E.H.length (play P s0 E.H) := by
  have := play_good P hs.good E.H a.ok (by have := a.few; omega)
  rwa [Nat.zero_add] at this
theorem s_Edition_branch (n : Nat) {s0 : P.T} {E : Ed} (a : EdAt P S s0 E) (hs : P.Start s0) : callN tb fl (n + 4) k_Edition_branch [.ref E.e] S = .ok (.ref (S.length + 2)) (S ++ [.ins P.C (P.fs (play P s0 E.H)), .ins 14 (sFs P S.length (play P s0 E.H)), .ins 17 [(14, .ref (S.length + 1)), (13, HD E.H), (12, .tup E.sl)]]) := by
  rw [u_Edition_branch]
  have ap : (S ++ [MO.ins P.C (P.fs (play P s0 E.H)), .ins 14 (sFs P S.length (play P s0 E.H))])[E.e]? = some (.ins 17 [(14, .ref E.q), (13, HD E.H), (12, .tup E.sl)]) := get_app a.ed _
  have i1 := s_Edition_init (n + 2) (S ++ [.ins P.C (P.fs (play P s0 E.H)), .ins 14 (sFs P S.length (play P s0 E.H))]) (.ref (S.length + 1)) (HD E.H) (.tup E.sl)
  simp only [List.length_append, List.length_cons, List.length_nil, List.append_assoc, List.cons_append, List.nil_append, Nat.zero_add, Nat.reduceAdd] at i1
  ((try show Wp _ (hide _ ⟨⟩)) <;> simp -dsimp -implicitDefEqProofs [wp_ok, b_Edition_branch, a.ed, a.st.st, s_Standing_branch n a.st (a.good hs), ap, i1])
theorem s_Edition_put (n : Nat) (hb : b.Ok) {s0 : P.T} {E : Ed} (a : EdAt P S s0 E) (hs : P.Start s0) (M : List Mv) (hM : ∀ v ∈ M, v.Ok b.steps.length) (hl : E.H.length + M.length ≤ 100) :
    Wp (callN tb fl (n + 22) k_Edition_put [.ref E.e, HD M] S) fun r S' => r = .non ∧ Kp [E.e, E.q, E.p] S S' ∧ ∃ sl, EdAt P S' s0 ⟨E.e, E.q, E.p, E.H ++ M, sl⟩ := by
  rw [u_Edition_put]
  have elt := get_lt a.ed
  have qlt := get_lt a.st.st
  have plt := get_lt a.st.pl
  ((try show Wp _ (hide _ ⟨⟩)) <;> simp -dsimp -implicitDefEqProofs [b_Edition_put] <;> try with_reducible refine wp_fin ?_)
  refine Wp.fold Mv.D (fun j ρ S' => (∃ x y, ρ = [some (.ref E.e), some (HD M), some (.ref S.length), x, y]) ∧ Kp [E.q, E.p] S S' ∧ StAt P S' E.q E.p (play P s0 (E.H ++ M.take j)) ∧ ∃ cl, S'[S.length]? = some (.lst cl) ∧ cl.length = j) M ?_ ⟨⟨_, _, rfl⟩, Kp.app _, ?_, [], by simp, rfl⟩ ?_
  · intro j v hj ρ S1 hi
    obtain ⟨⟨x, y, rfl⟩, k1, st1, cl, ecl, lcl⟩ := hi
    have jlt := get_lt hj
    have vok := hM v (List.mem_of_getElem? hj)
    have g1 := play_good P hs.good (E.H ++ M.take j) (fun v hv => by
      rcases List.mem_append.mp hv with z | z
      · exact a.ok v z
      · exact hM v (List.mem_of_mem_take z)) (by simp; omega)
    have ed1 := k1.get a.ed (by simp [a.n1, a.n2])
    ((try show Wp _ (hide _ ⟨⟩)) <;> simp -dsimp -implicitDefEqProofs [ed1, st1.st] <;> try with_reducible refine wp_fin ?_)
    refine (s_step n hb st1 g1 (by simp; omega) v vok).bind fun r S2 hr => ?_
    obtain ⟨⟨yy, rfl⟩, k2, st2⟩ := hr
    have ecl2 := k2.get ecl (by simp; omega)
    ((try show Wp _ (hide _ ⟨⟩)) <;> simp -dsimp -implicitDefEqProofs [ecl2, show ∀ y, chD v.part y ≠ D.non from fun y z => by unfold chD at z; cases z] <;> try with_reducible refine wp_fin ?_)
    rw [r_app ecl2 _ (by omega)]
    ((try show Wp _ (hide _ ⟨⟩)) <;> simp -dsimp -implicitDefEqProofs <;> try with_reducible refine wp_fin ?_)
    refine ⟨rfl, ⟨_, _, rfl⟩, ?_, ?_, cl ++ [chD v.part yy], get_set_self ecl2 _, by simp [lcl]⟩
    · exact (k1.trans k2).setN (Nat.le_refl _) _
    · rw [List.take_succ, hj]
      show StAt P _ _ _ (play P s0 (E.H ++ (M.take j ++ [v])))
      rw [← List.append_assoc, play_snoc]
      exact ⟨get_set_ne st2.st (by omega) _, get_set_ne st2.pl (by omega) _, st2.ne⟩
  · rw [List.take_zero, List.append_nil]
    exact ⟨get_app a.st.st _, get_app a.st.pl _, a.st.ne⟩
  · intro ρ S1 hi
    obtain ⟨⟨x, y, rfl⟩, k1, st1, cl, ecl, lcl⟩ := hi
    have ed1 := k1.get a.ed (by simp [a.n1, a.n2])
    have asl := a.sl
    ((try show Wp _ (hide _ ⟨⟩)) <;> simp -dsimp -implicitDefEqProofs [ed1] <;> try with_reducible refine wp_fin ?_)
    rw [o_addt _ _ _ (by rw [sizeLine_eq]; simp; omega)]
    ((try show Wp _ (hide _ ⟨⟩)) <;> simp -dsimp -implicitDefEqProofs [ed1] <;> try with_reducible refine wp_fin ?_)
    have ed2 := get_set_self ed1 (.ins 17 [(14, .ref E.q), (13, .tup (E.H.map Mv.D ++ M.map Mv.D)), (12, .tup E.sl)])
    have ecl2 := get_set_ne ecl (show E.e ≠ S.length by omega) (.ins 17 [(14, .ref E.q), (13, .tup (E.H.map Mv.D ++ M.map Mv.D)), (12, .tup E.sl)])
    ((try show Wp _ (hide _ ⟨⟩)) <;> simp -dsimp -implicitDefEqProofs [ed2, r_tuple ecl2] <;> try with_reducible refine wp_fin ?_)
    rw [o_addt _ _ _ (by rw [sizeLine_eq]; omega)]
    ((try show Wp _ (hide _ ⟨⟩)) <;> simp -dsimp -implicitDefEqProofs [ed2] <;> try with_reducible refine wp_fin ?_)
    rw [List.take_length] at st1
    refine ⟨rfl, ?_, E.sl ++ cl, ?_⟩
    · exact (k1.mono (by simp)).trans (Kp.set (by simp) _)
    · refine ⟨?_, ⟨get_set_ne st1.st a.n1 _, get_set_ne st1.pl a.n2 _, st1.ne⟩, a.n1, a.n2, ?_, ?_, ?_⟩
      · rw [← List.map_append]
        exact get_set_self ed1 _
      · show (E.sl ++ cl).length = (E.H ++ M).length
        simp [lcl, asl]
      · intro v hv
        rcases List.mem_append.mp hv with z | z
        · exact a.ok v z
        · exact hM v z
      · show (E.H ++ M).length ≤ 100
        simpa using hl
variable (P)
structure FeedAt (S : Store) (f r p0 : Nat) (s0 : P.T) (es : List Ed) : Prop where
  fd : S[f]? = some (.ins 18 [(2, b.D), (1, .ref p0), (5, .ref r)])
  pl : S[p0]? = some (.ins P.C (P.fs s0))
  rw_ : S[r]? = some (.lst (es.map fun E => D.ref E.e))
  ed : ∀ E ∈ es, EdAt P S s0 E
variable {P}
theorem EdAt.kp {ms : List Nat} {S' : Store} {s0 : P.T} {E : Ed} (a : EdAt P S s0 E) (k : Kp ms S S') (h : ∀ j ∈ ms, j < S.length → ∃ l, S[j]? = some (.lst l)) : EdAt P S' s0 E := by
  have go : ∀ {i C : Nat} {fs : List (Nat × D)}, S[i]? = some (.ins C fs) → S'[i]? = some (.ins C fs) := fun {i C fs} e => k.get e fun z => by
    obtain ⟨l, e2⟩ := h i z (get_lt e)
    rw [e] at e2
    cases e2
  exact ⟨go a.ed, ⟨go a.st.st, go a.st.pl, a.st.ne⟩, a.n1, a.n2, a.sl, a.ok, a.few⟩
variable {f r p0 : Nat} {s0 : P.T}
theorem FeedAt.kp {ms : List Nat} {S' : Store} {es : List Ed} (a : FeedAt P S f r p0 s0 es) (k : Kp ms S S') (hr : r ∉ ms) (h : ∀ j ∈ ms, j < S.length → ∃ l, S[j]? = some (.lst l)) : FeedAt P S' f r p0 s0 es := by
  have go : ∀ {i C : Nat} {fs : List (Nat × D)}, S[i]? = some (.ins C fs) → S'[i]? = some (.ins C fs) := fun {i C fs} e => k.get e fun z => by
    obtain ⟨l, e2⟩ := h i z (get_lt e)
    rw [e] at e2
    cases e2
  exact ⟨go a.fd, go a.pl, k.get a.rw_ hr, fun E hE => (a.ed E hE).kp k h⟩
theorem r_last {l : List D} {x : D} (h : S[r]? = some (.lst (l ++ [x]))) : opIdx (.ref r) (.int (-1)) S = .ok x S := by
  have : L2.atI (l ++ [x]) (-1) = some x := by
    unfold L2.atI L2.ixN
    rw [if_neg (by omega), if_pos (by simp; omega)]
    have e : (-1 + ((l ++ [x]).length : Int)).toNat = l.length := by simp; omega
    simp only [Option.bind_some, e]
    simp
  simp [opIdx, h, this]
theorem r_setlast {l : List D} {x : D} (h : S[r]? = some (.lst (l ++ [x]))) (v : D) : opSetItem (.ref r) (.int (-1)) v S = some (S.set r (.lst (l ++ [v]))) := by
  have : L2.ixN (l ++ [x]).length (-1) = some l.length := by
    unfold L2.ixN
    rw [if_neg (by omega), if_pos (by simp; omega)]
    have e : (-1 + ((l ++ [x]).length : Int)).toNat = l.length := by simp; omega
    rw [e]
  rw [List.length_append] at this
  simp at this
  simp [opSetItem, h, this]
theorem s_Feed_last (n : Nat) {es : List Ed} {E : Ed} (a : FeedAt P S f r p0 s0 (es ++ [E])) : callN tb fl (n + 1) k_Feed_last [.ref f] S = .ok (.ref E.e) S := by
  rw [u_Feed_last]
  have h := a.rw_
  rw [List.map_append] at h
  ((try show Wp _ (hide _ ⟨⟩)) <;> simp -dsimp -implicitDefEqProofs [wp_ok, b_Feed_last, a.fd, r_last h])
theorem s_Feed_fresh (n : Nat) (hb : b.Ok) (hs : P.Start s0) {fs : List (Nat × D)} (hf : S[f]? = some (.ins 18 ((2, b.D) :: (1, .ref p0) :: fs))) (hp : S[p0]? = some (.ins P.C (P.fs s0))) : callN tb fl (n + 4) k_Feed_fresh [.ref f] S = .ok (.ref (S.length + 2)) (S ++ [.ins P.C (P.fs s0), .ins 14 (sFs P S.length s0), .ins 17 [(14, .ref (S.length + 1)), (13, HD []), (12, .tup [])]]) := by
  rw [u_Feed_fresh]
  have i1 := s_Edition_init (n + 2) (S ++ [.ins P.C (P.fs s0), .ins 14 (sFs P S.length s0)]) (.ref (S.length + 1)) (.tup []) (.tup [])
  simp only [List.length_append, List.length_cons, List.length_nil, List.append_assoc, List.cons_append, List.nil_append, Nat.zero_add, Nat.reduceAdd] at i1
  ((try show Wp _ (hide _ ⟨⟩)) <;> simp -dsimp -implicitDefEqProofs [wp_ok, b_Feed_fresh, hf, s_standing_at_first n hb hs hp, i1])
theorem fresh_at (S : Store) (s0 : P.T) (hn : True) : EdAt P (S ++ [.ins P.C (P.fs s0), .ins 14 (sFs P S.length s0), .ins 17 [(14, .ref (S.length + 1)), (13, HD []), (12, .tup [])]]) s0 ⟨S.length + 2, S.length + 1, S.length, [], []⟩ :=
  ⟨by simp, ⟨by simp [play], by simp [play], by simp⟩, by simp, by simp, rfl, by simp, by simp⟩
theorem s_Feed_init (n : Nat) (hb : b.Ok) (hs : P.Start s0) (hp : S[p]? = some (.ins P.C (P.fs s0))) :
    Wp (callN tb fl (n + 7) k_Feed_init [.ref S.length, b.D, .ref p] (S ++ [.ins 18 []])) fun v S' => v = .non ∧ Kp [] S S' ∧ ∃ r, S.length < r ∧ FeedAt P S' S.length r (S.length + 1) s0 [⟨S.length + 4, S.length + 3, S.length + 2, [], []⟩] := by
  rw [u_Feed_init]
  have hp1 : (S ++ [MO.ins 18 [(2, b.D)]])[p]? = some (.ins P.C (P.fs s0)) := get_app hp _
  have c1 := P.copy (n + 4) 0 s0 (S ++ [MO.ins 18 [(2, b.D)]]) p hs.good hp1
  simp only [List.length_append, List.length_cons, List.length_nil, List.append_assoc, List.cons_append, List.nil_append, Nat.zero_add, Nat.reduceAdd] at c1
  ((try show Wp _ (hide _ ⟨⟩)) <;> simp -dsimp -implicitDefEqProofs [b_Feed_init, s_made_book n b _ hb, hp1, P.hc, P.lc, c1] <;> try with_reducible refine wp_fin ?_)
  have f1 := s_Feed_fresh (S := S ++ [.ins 18 [(2, b.D), (1, .ref (S.length + 1))], .ins P.C (P.fs s0)]) (f := S.length) (p0 := S.length + 1) (fs := []) (n + 2) hb hs (by simp) (by simp)
  simp only [List.length_append, List.length_cons, List.length_nil, List.append_assoc, List.cons_append, List.nil_append, Nat.zero_add, Nat.reduceAdd, Nat.add_assoc] at f1
  ((try show Wp _ (hide _ ⟨⟩)) <;> simp -dsimp -implicitDefEqProofs [f1] <;> try with_reducible refine wp_fin ?_)
  refine ⟨rfl, Kp.app _, S.length + 5, by omega, by simp, by simp, by simp, ?_⟩
  intro E hE
  rw [List.mem_singleton.mp hE]
  exact ⟨by simp, ⟨by simp [play], by simp [play], by simp⟩, by simp, by simp, rfl, by simp, by simp⟩
theorem s_want_few (n : Nat) (k : Int) (h : k ≤ 5000) : callN tb fl (n + 1) k_want_few [.int k] S = .ok .non S := by
  rw [u_want_few]
  ((try show Wp _ (hide _ ⟨⟩)) <;> simp -dsimp -implicitDefEqProofs [wp_ok, b_want_few, show ¬ (5000 : Int) < k by omega])
theorem s_Feed_move (n : Nat) (hb : b.Ok) (hs : P.Start s0) {es : List Ed} {E : Ed} (a : FeedAt P S f r p0 s0 (es ++ [E])) (v : Mv) (hv : v.Ok b.steps.length) (k : Nat) (hk : 1 ≤ k) (hk2 : E.H.length + k ≤ 100) :
    Wp (callN tb fl (n + 23) k_Feed_move [.ref f, .int v.part, .int v.way, .int k] S) fun x S' => Kp [r] S S' ∧ ∃ E', E'.H = E.H ++ List.replicate k v ∧ FeedAt P S' f r p0 s0 (es ++ [E']) := by
  rw [u_Feed_move]
  have lt := hv.lt
  have aE := a.ed E (by simp)
  have few := aE.few
  have rlt := get_lt a.rw_
  have m1 := s_is_move (n + 17) b v hv S
  ((try show Wp _ (hide _ ⟨⟩)) <;> simp -dsimp -implicitDefEqProofs [b_Feed_move, a.fd, s_is_part_books, show (0 : Int) ≤ v.part by omega, show (v.part : Int) ≤ b.steps.length - 1 by omega, m1, s_is_between, show (1 : Int) ≤ k by omega, show (k : Int) ≤ 1000 by omega, s_Feed_last (n + 21) a, aE.ed, s_want_few (n + 21) ((E.H.length : Int) + k) (by omega), s_Edition_branch (n + 18) aE hs] <;> try with_reducible refine wp_fin ?_)
  have hE : EdAt P (S ++ [.ins P.C (P.fs (play P s0 E.H)), .ins 14 (sFs P S.length (play P s0 E.H)), .ins 17 [(14, .ref (S.length + 1)), (13, HD E.H), (12, .tup E.sl)]]) s0 ⟨S.length + 2, S.length + 1, S.length, E.H, E.sl⟩ :=
    ⟨by simp, ⟨by simp, by simp, by simp⟩, by simp, by simp, aE.sl, aE.ok, aE.few⟩
  ((try show Wp _ (hide _ ⟨⟩)) <;> simp -dsimp -implicitDefEqProofs [o_rep _ k (show k ≤ 1000 by omega)] <;> try with_reducible refine wp_fin ?_)
  rw [show List.replicate k (D.tup [.int v.part, .int v.way]) = (List.replicate k v).map Mv.D by simp]
  refine (s_Edition_put n hb hE hs (List.replicate k v) (fun x hx => by rw [List.eq_of_mem_replicate hx]; exact hv) (by simpa using hk2)).bind fun x S1 hx => ?_
  obtain ⟨rfl, k1, sl, e1⟩ := hx
  have kk : Kp [r] S S1 := (Kp.app _).new k1 (fun i hi => by
    right
    simp only [List.mem_cons, List.not_mem_nil, or_false] at hi
    rcases hi with rfl | rfl | rfl <;> simp)
  have kk0 : Kp [] S S1 := (Kp.app _).new k1 (fun i hi => by
    right
    simp only [List.mem_cons, List.not_mem_nil, or_false] at hi
    rcases hi with rfl | rfl | rfl <;> simp)
  have a1 := a.kp kk0 (by simp) (by simp)
  have r1 := a1.rw_
  rw [List.map_append] at r1
  ((try show Wp _ (hide _ ⟨⟩)) <;> simp -dsimp -implicitDefEqProofs [a1.fd] <;> try with_reducible refine wp_fin ?_)
  rw [r_setlast r1]
  ((try show Wp _ (hide _ ⟨⟩)) <;> simp -dsimp -implicitDefEqProofs <;> try with_reducible refine wp_fin ?_)
  refine ⟨kk.trans (Kp.set (by simp) _), ⟨S.length + 2, S.length + 1, S.length, E.H ++ List.replicate k v, sl⟩, rfl, ?_⟩
  have r2 := get_set_self r1 (.lst (es.map (fun E => D.ref E.e) ++ [.ref (S.length + 2)]))
  have ks : Kp [r] S1 (S1.set r (.lst (es.map (fun E => D.ref E.e) ++ [.ref (S.length + 2)]))) := Kp.set (by simp) _
  have hl : ∀ j ∈ [r], j < S1.length → ∃ l, S1[j]? = some (.lst l) := fun j hj _ => by
    rw [List.mem_singleton.mp hj]
    exact ⟨_, r1⟩
  have hl2 : ∀ j ∈ [r], ∃ l, S1[j]? = some (.lst l) := fun j hj => by
    rw [List.mem_singleton.mp hj]
    exact ⟨_, r1⟩
  refine ⟨ks.ins a1.fd hl2, ks.ins a1.pl hl2, ?_, ?_⟩
  · rw [List.map_append]
    exact r2
  · intro E' hE'
    rcases List.mem_append.mp hE' with z | z
    · exact (a1.ed E' (List.mem_append_left _ z)).kp ks hl
    · rw [List.mem_singleton.mp z]
      exact e1.kp ks hl
theorem s_Feed_correct (n : Nat) (hb : b.Ok) (hs : P.Start s0) {es : List Ed} {E : Ed} (a : FeedAt P S f r p0 s0 (es ++ [E])) (hes : es.length ≤ 10) (k : Nat) (hk : k ≤ E.H.length) (M : List Mv) (hM : ∀ v ∈ M, v.Ok b.steps.length) (hl : E.H.length + M.length ≤ 100) :
    Wp (callN tb fl (n + 23) k_Feed_correct [.ref f, .int k, HD M] S) fun x S' => Kp [r] S S' ∧ ∃ E', E'.H = E.H.take k ++ M ++ E.H.drop (k + 1) ∧ FeedAt P S' f r p0 s0 (es ++ [E] ++ [E']) := by
  rw [u_Feed_correct]
  have aE := a.ed E (by simp)
  have few := aE.few
  have rlt := get_lt a.rw_
  have hh : ∀ v ∈ E.H.take k ++ M ++ E.H.drop (k + 1), v.Ok b.steps.length := fun v hv => by
    rcases List.mem_append.mp hv with z | z
    · rcases List.mem_append.mp z with z | z
      · exact aE.ok v (List.mem_of_mem_take z)
      · exact hM v z
    · exact aE.ok v (List.mem_of_mem_drop z)
  ((try show Wp _ (hide _ ⟨⟩)) <;> simp -dsimp -implicitDefEqProofs [b_Feed_correct, a.fd, s_Feed_last (n + 21) a, aE.ed, s_is_below, show (0 : Int) ≤ k by omega, show (k : Int) ≤ E.H.length by omega, s_want_history (n + 16) b M hM S, r_len a.rw_, show ¬ ((es.length : Int) + 1 = 50) by omega, cut_take] <;> try with_reducible refine wp_fin ?_)
  rw [o_addt _ _ _ (by rw [sizeLine_eq]; simp; omega)]
  ((try show Wp _ (hide _ ⟨⟩)) <;> simp -dsimp -implicitDefEqProofs [cut_drop1] <;> try with_reducible refine wp_fin ?_)
  rw [o_addt _ _ _ (by rw [sizeLine_eq]; simp; omega)]
  have eh : (E.H.map Mv.D).take k ++ M.map Mv.D ++ (E.H.map Mv.D).drop (k + 1) = (E.H.take k ++ M ++ E.H.drop (k + 1)).map Mv.D := by simp
  rw [eh]
  have hlen : (E.H.take k ++ M ++ E.H.drop (k + 1)).length ≤ 100 := by simp; omega
  generalize E.H.take k ++ M ++ E.H.drop (k + 1) = G at hh hlen ⊢
  ((try show Wp _ (hide _ ⟨⟩)) <;> simp -dsimp -implicitDefEqProofs [s_want_few (n + 21) (G.length : Int) (by omega), a.fd, s_Feed_fresh (n + 18) hb hs a.fd a.pl] <;> try with_reducible refine wp_fin ?_)
  have hE : EdAt P (S ++ [.ins P.C (P.fs s0), .ins 14 (sFs P S.length s0), .ins 17 [(14, .ref (S.length + 1)), (13, HD []), (12, .tup [])]]) s0 ⟨S.length + 2, S.length + 1, S.length, [], []⟩ := fresh_at S s0 trivial
  refine (s_Edition_put n hb hE hs G hh (by simpa using hlen)).bind fun x S1 hx => ?_
  obtain ⟨rfl, k1, sl, e1⟩ := hx
  have kk : Kp [r] S S1 := (Kp.app _).new k1 (fun i hi => by
    right
    simp only [List.mem_cons, List.not_mem_nil, or_false] at hi
    rcases hi with rfl | rfl | rfl <;> simp)
  have kk0 : Kp [] S S1 := (Kp.app _).new k1 (fun i hi => by
    right
    simp only [List.mem_cons, List.not_mem_nil, or_false] at hi
    rcases hi with rfl | rfl | rfl <;> simp)
  have a1 := a.kp kk0 (by simp) (by simp)
  have r1 := a1.rw_
  ((try show Wp _ (hide _ ⟨⟩)) <;> simp -dsimp -implicitDefEqProofs [a1.fd, r1] <;> try with_reducible refine wp_fin ?_)
  rw [r_app r1 _ (by simp; omega)]
  ((try show Wp _ (hide _ ⟨⟩)) <;> simp -dsimp -implicitDefEqProofs <;> try with_reducible refine wp_fin ?_)
  rw [show es.map (fun E => D.ref E.e) ++ [D.ref E.e, D.ref (S.length + 2)] = (es ++ [E]).map (fun E => D.ref E.e) ++ [D.ref (S.length + 2)] by simp]
  refine ⟨kk.trans (Kp.set (by simp) _), ⟨S.length + 2, S.length + 1, S.length, G, sl⟩, rfl, ?_⟩
  have r2 := get_set_self r1 (.lst ((es ++ [E]).map (fun E => D.ref E.e) ++ [.ref (S.length + 2)]))
  have ks : Kp [r] S1 (S1.set r (.lst ((es ++ [E]).map (fun E => D.ref E.e) ++ [.ref (S.length + 2)]))) := Kp.set (by simp) _
  have hl : ∀ j ∈ [r], j < S1.length → ∃ l, S1[j]? = some (.lst l) := fun j hj _ => by
    rw [List.mem_singleton.mp hj]
    exact ⟨_, r1⟩
  have hl2 : ∀ j ∈ [r], ∃ l, S1[j]? = some (.lst l) := fun j hj => by
    rw [List.mem_singleton.mp hj]
    exact ⟨_, r1⟩
  refine ⟨ks.ins a1.fd hl2, ks.ins a1.pl hl2, ?_, ?_⟩
  · rw [show (es ++ [E] ++ [(⟨S.length + 2, S.length + 1, S.length, G, sl⟩ : Ed)]).map (fun E => D.ref E.e) = (es ++ [E]).map (fun E => D.ref E.e) ++ [D.ref (S.length + 2)] by simp]
    exact r2
  · intro E' hE'
    rcases List.mem_append.mp hE' with z | z
    · exact (a1.ed E' z).kp ks hl
    · rw [List.mem_singleton.mp z]
      exact e1.kp ks hl
theorem s_Feed_state (n : Nat) {es : List Ed} (a : FeedAt P S f r p0 s0 es) (k : Nat) (E : Ed) (hk : es[k]? = some E) : callN tb fl (n + 5) k_Feed_state [.ref f, .int ((k : Int) + 1)] S = .ok (stD (P.tr (play P s0 E.H)) (P.sh (play P s0 E.H))) S := by
  rw [u_Feed_state]
  have aE := a.ed E (List.mem_of_getElem? hk)
  have klt := get_lt hk
  have e1 : opIdx (.ref r) (.int ((k : Int))) S = .ok (.ref E.e) S := r_idx a.rw_ (by rw [List.getElem?_map, hk]; rfl)
  have h1 : callN tb fl (n + 3) k_Feed_edition [.ref f, .int ((k : Int) + 1)] S = .ok (.ref E.e) S := by
    rw [u_Feed_edition]
    ((try show Wp _ (hide _ ⟨⟩)) <;> simp -dsimp -implicitDefEqProofs [wp_ok, b_Feed_edition, a.fd, r_len a.rw_, s_is_between, show (1 : Int) ≤ (k : Int) + 1 by omega, show (k : Int) + 1 ≤ es.length by omega, e1])
  have h2 : callN tb fl (n + 4) k_Feed_asked [.ref f, .int ((k : Int) + 1)] S = .ok (.ref E.e) S := by
    rw [u_Feed_asked]
    ((try show Wp _ (hide _ ⟨⟩)) <;> simp -dsimp -implicitDefEqProofs [wp_ok, b_Feed_asked, a.fd, h1])
  ((try show Wp _ (hide _ ⟨⟩)) <;> simp -dsimp -implicitDefEqProofs [wp_ok, b_Feed_state, a.fd, h2, aE.ed, aE.st.st])
end
end K76P
set_option Elab.async false
set_option linter.all false
set_option maxRecDepth 100000
set_option autoImplicit false
set_option maxHeartbeats 2000000
/-! P9: data that is equal; the law's own playing -/
namespace K76P
open PySem K76
/-! ### texts are data -/
theorem ok_ofString (s : String) : PyData.strOk (Str.ofString s) = true := by
  rw [Str.ofString_eq_toList]
  unfold PyData.strOk
  simp only [List.all_toArray, List.all_map, List.all_eq_true]
  intro c _
  have := c.valid
  simp only [Function.comp, decide_eq_true_eq]
  show c.val.toNat < 1114112
  rcases this with h | h
  · exact Nat.lt_trans h (by decide)
  · exact h.2
theorem ok_app (a b : Str) (h1 : PyData.strOk a = true) (h2 : PyData.strOk b = true) : PyData.strOk (a ++ b) = true := by
  show (a.cps ++ b.cps).all (· < 0x110000) = true
  unfold PyData.strOk at h1 h2
  rw [Array.all_append, h1, h2]
  rfl
theorem ok_fracT (u l : Int) : PyData.strOk (fracT u l) = true := by
  unfold fracT
  generalize gcdL 200 (if u < 0 then -u else u) l = c
  split
  · exact ok_ofString _
  · exact ok_app _ _ (ok_app _ _ (ok_ofString _) (ok_ofString _)) (ok_ofString _)
theorem ok_figT (name : Str) (a c e : Int) (h : PyData.strOk name = true) : PyData.strOk (figT name a c e) = true := by
  unfold figT
  exact ok_app _ _ (ok_app _ _ (ok_app _ _ (ok_app _ _ (ok_app _ _ (ok_app _ _ h (ok_ofString _)) (ok_ofString _)) (ok_ofString _)) (ok_fracT _ _)) (ok_ofString _)) (ok_fracT _ _)
theorem ok_lineT (b : Bk) (k : Nat) (l tr sh : List Int) : PyData.strOk (lineT b k l tr sh) = true := by
  unfold lineT
  split
  · exact ok_figT _ _ _ _ (ok_app _ _ (ok_app _ _ (ok_ofString _) (ok_ofString _)) (ok_ofString _))
  · exact ok_app _ _ (ok_app _ _ (ok_app _ _ (ok_app _ _ (ok_app _ _ (ok_ofString _) (ok_ofString _)) (ok_ofString _)) (ok_ofString _)) (ok_ofString _)) (ok_ofString _)
theorem ok_pool : ∀ x ∈ poolN, PyData.strOk x = true := by
  intro x hx
  simp only [poolN, pool6, List.cons_append, List.nil_append, List.mem_cons, List.not_mem_nil, or_false] at hx
  rcases hx with rfl | rfl | rfl | rfl | rfl | rfl | rfl | rfl | rfl <;> exact ok_ofString _
theorem ok_texts (b : Bk) (ns : List Str) (hn : ∀ x ∈ ns, x ∈ poolN) (ls : List (List Int)) (tr sh : List Int) : ∀ x ∈ texts b ns ls tr sh, PyData.strOk x = true := by
  intro x hx
  rcases List.mem_append.mp hx with z | z
  · obtain ⟨p, hp, rfl⟩ := List.mem_map.mp z
    exact ok_figT _ _ _ _ (ok_pool _ (hn _ (List.mem_of_getElem? (List.mem_zipIdx_iff_getElem?.mp hp))))
  · obtain ⟨p, hp, rfl⟩ := List.mem_map.mp z
    exact ok_lineT _ _ _ _ _
theorem pyAll_strs (l : List Str) : D.pyAll (l.map .str) = some (l.map .str) := by
  induction l with
  | nil => rfl
  | cons a r ih => simp [D.pyAll, D.py, ih]
theorem lay_strs (l : List Str) (h : ∀ x ∈ l, PyData.strOk x = true) : PyData.canLayAll0 (l.map .str) = true := by
  induction l with
  | nil => rfl
  | cons a r ih => simp [PyData.canLayAll0, PyData.canLay0, ih fun x hx => h x (List.mem_cons_of_mem _ hx), h a (List.mem_cons_self ..)]
theorem depth_strs (l : List Str) : PyData.depthAll (l.map .str) = 0 := by
  induction l with
  | nil => rfl
  | cons a r ih => simp [PyData.depthAll, PyData.depth, ih]
theorem eqv_strs (l : List Str) : PyData.eqvAll (l.map .str) (l.map .str) = true := by
  induction l with
  | nil => rfl
  | cons a r ih => simp [PyData.eqvAll, PyData.eqv, ih]
theorem eqv_ints (l : List Int) : PyData.eqvAll (l.map .int) (l.map .int) = true := by
  induction l with
  | nil => rfl
  | cons a r ih => simp [PyData.eqvAll, PyData.eqv, ih]
theorem ne_strs (l : List Str) (h : ∀ x ∈ l, PyData.strOk x = true) (S : Store) : opCmp .ne (.tup (l.map .str)) (.tup (l.map .str)) S = .ok (.bl false) S := by
  simp [opCmp, opEq, eqD, pyS, D.py, pyAll_strs, SeqAt.shaped, PyData.canLay0, PyData.depth, lay_strs l h, depth_strs, PyData.eqv, eqv_strs]
theorem ne_state (a c : List Int) (S : Store) : opCmp .ne (stD a c) (stD a c) S = .ok (.bl false) S := by
  simp [opCmp, opEq, eqD, pyS, D.py, D.pyAll, pyAll_ints, SeqAt.shaped, PyData.canLay0, PyData.canLayAll0, PyData.depth, PyData.depthAll, lay_ints, depth_ints, PyData.eqv, PyData.eqvAll, eqv_ints]
/-! ### states of a history -/
abbrev stp (x : List Int × List Int) : D := stD x.1 x.2
theorem nil_sts (l : List (List Int × List Int)) (S : Store) : opLF .neNil (l.map stp) S = .ok (.bl (!l.isEmpty)) S := by
  have h1 : D.pyAll (l.map stp) = some (l.map fun x => PyData.tuple [.tuple (x.1.map .int), .tuple (x.2.map .int)]) := by
    induction l with
    | nil => rfl
    | cons a r ih => simp [D.pyAll, D.py, pyAll_ints, ih]
  have h2 : PyData.canLayAll0 (l.map fun x => PyData.tuple [.tuple (x.1.map .int), .tuple (x.2.map .int)]) = true := by
    clear h1
    induction l with
    | nil => rfl
    | cons a r ih => simp [PyData.canLayAll0, PyData.canLay0, lay_ints, ih]
  have h3 : PyData.depthAll (l.map fun x => PyData.tuple [.tuple (x.1.map .int), .tuple (x.2.map .int)]) ≤ 2 := by
    clear h1 h2
    induction l with
    | nil => simp [PyData.depthAll]
    | cons a r ih => simp [PyData.depthAll, PyData.depth, depth_ints, ih]
  have h4 : PyData.depth (.list (l.map fun x => PyData.tuple [.tuple (x.1.map .int), .tuple (x.2.map .int)])) ≤ 64 := by
    show PyData.depthAll _ + 1 ≤ 64
    omega
  simp only [opLF, h1]
  rw [if_pos (by simp only [SeqAt.shaped, PyData.canLay0, h2, Bool.true_and]; exact decide_eq_true h4)]
  simp
section
variable {b : Bk} {P : Player b} {S : Store} {p : Nat} {s0 : P.T}
def stOf (P : Player b) (s : P.T) : List Int × List Int := (P.tr s, P.sh s)
def sts (P : Player b) (s0 : P.T) (H : List Mv) : List (List Int × List Int) := (List.range H.length).map fun j => stOf P (play P s0 (H.take (j + 1)))
theorem s__law_played (n : Nat) (hb : b.Ok) (hs : P.Start s0) (hp : S[p]? = some (.ins P.C (P.fs s0))) (H : List Mv) (hH : ∀ v ∈ H, v.Ok b.steps.length) (hl : H.length ≤ 100) :
    Wp (callN tb fl (n + 21) k__law_played [b.D, .ref p, HD H] S) fun v S' => Kp [] S S' ∧ ∃ i, v = .tup [.ref i, .non] ∧ S'[i]? = some (.lst ((sts P s0 H).map stp)) := by
  rw [u__law_played]
  have hm := hb.m4
  have c1 := P.copy (n + 18) 0 s0 S p hs.good hp
  ((try show Wp _ (hide _ ⟨⟩)) <;> simp -dsimp -implicitDefEqProofs [b__law_played, hp, P.hc, P.lc, c1, s__law_noughts (n + 19) b hb, rngD_ok _ _ _ rfl (show H.length ≤ 1000000 by omega)] <;> try with_reducible refine wp_fin ?_)
  have e0 : stp (stOf P (play P s0 (H.take 0))) = stD (List.replicate b.steps.length 0) (List.replicate b.steps.length 0) := by
    rw [List.take_zero]
    show stD (P.tr s0) (P.sh s0) = _
    rw [hs.tr, hs.sh]
  refine Wp.foldR (fun j ρ S' => (∃ x y, ρ = [some b.D, some (.ref p), some (HD H), some (.ref S.length), some (stp (stOf P (play P s0 (H.take j)))), some (.ref (S.length + 1)), x, y]) ∧ Kp [] S S' ∧ S'[S.length]? = some (.ins P.C (P.fs (play P s0 (H.take j)))) ∧ S'[S.length + 1]? = some (.lst (((List.range j).map fun j => stOf P (play P s0 (H.take (j + 1)))).map stp))) H.length ?_ ⟨⟨none, none, by rw [e0]⟩, Kp.app _, ?_, ?_⟩ ?_
  · intro j hj ρ S1 hi
    obtain ⟨⟨x, y, rfl⟩, k1, p1, f1⟩ := hi
    have ej : H[j]? = some (H[j]'hj) := List.getElem?_eq_getElem hj
    have vok := hH _ (List.getElem_mem hj)
    have lt := vok.lt
    have g1 := play_good P hs.good (H.take j) (fun v hv => hH v (List.mem_of_mem_take hv)) (by simp; omega)
    have lk1 := P.ltr _ _ g1
    have lk2 := P.lsh _ _ g1
    obtain ⟨_, e1, e2⟩ := P.step _ _ H[j].part H[j].way g1 (by simp; omega) vok.lt vok.way
    ((try show Wp _ (hide _ ⟨⟩)) <;> simp -dsimp -implicitDefEqProofs [p1, P.hm, P.lm, o_idxm Mv.D H j _ ej] <;> try with_reducible refine wp_fin ?_)
    refine (P.moved n _ _ S1 S.length H[j].part H[j].way g1 (by simp; omega) vok.lt vok.way p1).bind fun r S2 hr => ?_
    obtain ⟨rfl, k2, p2⟩ := hr
    have f2 := k2.get1 f1 (by omega)
    ((try show Wp _ (hide _ ⟨⟩)) <;> simp -dsimp -implicitDefEqProofs [o_idxm Mv.D H j _ ej, s__law_is_let (n + 18) b hb H[j].part _ vok.lt] <;> try with_reducible refine wp_fin ?_)
    refine (s__law_stepped (n + 19) (P.tr (play P s0 (H.take j))) (P.sh (play P s0 (H.take j))) H[j].part H[j].way _ (by omega) (by omega) S2).bind fun r S3 hr => ?_
    obtain ⟨rfl, k3⟩ := hr
    have e3 : ∀ u z : Int, u + (z - u) = z := fun u z => by omega
    have p3 := k3.get0 p2
    have f3 := k3.get0 f2
    rw [e3, ← e1, ← e2]
    ((try show Wp _ (hide _ ⟨⟩)) <;> simp -dsimp -implicitDefEqProofs [f3] <;> try with_reducible refine wp_fin ?_)
    rw [r_app f3 _ (by simp; omega)]
    ((try show Wp _ (hide _ ⟨⟩)) <;> simp -dsimp -implicitDefEqProofs <;> try with_reducible refine wp_fin ?_)
    have et : H.take (j + 1) = H.take j ++ [H[j]] := by rw [List.take_succ, ej]; rfl
    rw [et, play_snoc]
    refine ⟨rfl, ⟨_, _, rfl⟩, ?_, ?_, ?_⟩
    · exact ((k1.new k2 (fun i hi => .inr (by rw [List.mem_singleton.mp hi]; omega))).trans k3).setN (by omega) _
    · exact get_set_ne p3 (by omega) _
    · have e5 : stOf P (play P s0 (H.take (j + 1))) = stOf P (P.nxt (play P s0 (H.take j)) H[j].part H[j].way) := by rw [et, play_snoc]
      rw [get_set_self f3, List.range_succ, List.map_append, List.map_append]
      simp only [List.map_cons, List.map_nil, e5, List.map_map]
      rfl
  · simp [play]
  · simp
  · intro ρ S1 hi
    obtain ⟨⟨x, y, rfl⟩, k1, p1, f1⟩ := hi
    ((try show Wp _ (hide _ ⟨⟩)) <;> simp -dsimp -implicitDefEqProofs <;> try with_reducible refine wp_fin ?_)
    exact ⟨k1, _, rfl, f1⟩
theorem s__law_last_of (n : Nat) (hb : b.Ok) (hs : P.Start s0) (H : List Mv) (i : Nat) (hi : S[i]? = some (.lst ((sts P s0 H).map stp))) :
    callN tb fl (n + 2) k__law_last_of [b.D, .ref i] S = .ok (stp (stOf P (play P s0 H))) S := by
  rw [u__law_last_of]
  have e1 : opEqNil true (.ref i) S = .ok (.bl (!(sts P s0 H).isEmpty)) S := by
    simp only [opEqNil, hi, if_true]
    exact nil_sts _ S
  have l1 : (sts P s0 H).length = H.length := by simp [sts]
  by_cases z : H = []
  · subst z
    have e2 : (sts P s0 []).isEmpty = true := rfl
    ((try show Wp _ (hide _ ⟨⟩)) <;> simp -dsimp -implicitDefEqProofs [wp_ok, b__law_last_of, e1, e2, s__law_noughts n b hb])
    simp [stOf, play, hs.tr, hs.sh]
  · have hlt : 0 < H.length := List.length_pos_iff.mpr z
    have e2 : (sts P s0 H).isEmpty = false := by
      rw [List.isEmpty_eq_false_iff]
      intro e
      rw [e] at l1
      simp at l1
      omega
    have e3 : ((sts P s0 H).map stp)[H.length - 1]? = some (stp (stOf P (play P s0 H))) := by
      rw [List.getElem?_map, sts, List.getElem?_map, List.getElem?_range (by omega)]
      simp [show H.length - 1 + 1 = H.length by omega]
    have e4 : opIdx (.ref i) (.int ((H.length : Int) - 1)) S = .ok (stp (stOf P (play P s0 H))) S := by
      rw [show (H.length : Int) - 1 = ((H.length - 1 : Nat) : Int) by omega]
      exact r_idx hi e3
    ((try show Wp _ (hide _ ⟨⟩)) <;> simp -dsimp -implicitDefEqProofs [wp_ok, b__law_last_of, e1, e2, r_len hi, l1, e4])
end
end K76P
set_option Elab.async false
set_option linter.all false
set_option maxRecDepth 100000
set_option autoImplicit false
set_option maxHeartbeats 2000000
/-! P10: the program's own interpreter: numbers -/
namespace K76P
open PySem K76
@[simp] theorem ofString_inj (a b : String) : (Str.ofString a = Str.ofString b) = (a = b) := by
  refine propext ⟨fun h => ?_, fun h => by rw [h]⟩
  rw [Str.ofString_eq_toList, Str.ofString_eq_toList] at h
  injection h with h
  have h2 : a.toList.map Char.toNat = b.toList.map Char.toNat := by simpa using h
  have h3 : a.toList = b.toList := (List.map_inj_right (fun x y e => Char.ext (UInt32.toNat_inj.mp e))).mp h2
  exact String.toList_inj.mp h3
theorem set_app_add (S G : Store) (k : Nat) (o : MO) : (S ++ G).set (S.length + k) o = S ++ G.set k o := by
  rw [List.set_append_right _ _ (by omega), Nat.add_sub_cancel_left]
/-- what a run knows from the start -/
structure Rc where
  b : Bk
  cn : List Str
  rn : List Str
  part : Nat
  way : Int
/-- what changes in a run -/
structure Rx where
  tr : List Int
  sh : List Int
  ce : List Int
  ro : Option (List Int)
  turn : Nat
def roK (i : Nat) (x : Rx) : Nat := match x.ro with
  | none => i + 4
  | some _ => i + 5
def roT (i : Nat) (x : Rx) : Store := match x.ro with
  | none => [.lst []]
  | some r => [.lst (r.map .int), .lst [.ref (i + 4)]]
abbrev rFs (c : Rc) (x : Rx) (i : Nat) : List (Nat × D) := [(30, tI c.b.steps), (31, .tup (c.b.links.map tI)), (29, .tupx c.cn), (28, .tupx c.rn), (22, .ref (i + 1)), (12, .ref (i + 2)), (6, .ref (i + 3)), (5, .ref (roK i x)), (27, .int c.part), (26, .int c.way), (25, .int x.turn)]
def RS (c : Rc) (S : Store) (x : Rx) : Store := S ++ .ins 20 (rFs c x S.length) :: .lst (x.tr.map .int) :: .lst (x.sh.map .int) :: .lst (x.ce.map .int) :: roT S.length x
section
variable {c : Rc} {S : Store} {x : Rx}
theorem rs_run : (RS c S x)[S.length]? = some (.ins 20 (rFs c x S.length)) := get_app_len _ _ _
theorem rs_tr : (RS c S x)[S.length + 1]? = some (.lst (x.tr.map .int)) := get_app_add _ _ 1
theorem rs_sh : (RS c S x)[S.length + 2]? = some (.lst (x.sh.map .int)) := get_app_add _ _ 2
theorem rs_ce : (RS c S x)[S.length + 3]? = some (.lst (x.ce.map .int)) := get_app_add _ _ 3
theorem rs_row {r : List Int} (h : x.ro = some r) : (RS c S x)[S.length + 4]? = some (.lst (r.map .int)) := by
  unfold RS roT
  rw [h]
  exact get_app_add _ _ 4
theorem rs_rows {r : List Int} (h : x.ro = some r) : (RS c S x)[S.length + 5]? = some (.lst [.ref (S.length + 4)]) := by
  unfold RS roT
  rw [h]
  exact get_app_add _ _ 5
theorem rs_set_sh (l : List Int) : (RS c S x).set (S.length + 2) (.lst (l.map .int)) = RS c S { x with sh := l } := set_app_add _ _ 2 _
theorem rs_set_ce (l : List Int) : (RS c S x).set (S.length + 3) (.lst (l.map .int)) = RS c S { x with ce := l } := set_app_add _ _ 3 _
theorem rs_set_row {r : List Int} (h : x.ro = some r) (l : List Int) : (RS c S x).set (S.length + 4) (.lst (l.map .int)) = RS c S { x with ro := some l } := by
  obtain ⟨tr, sh, ce, ro, turn⟩ := x
  have h : ro = some r := h
  subst h
  exact set_app_add _ _ 4 _
theorem rs_set_turn (k : Nat) : (RS c S x).set S.length (.ins 20 (rFs c { x with turn := k } S.length)) = RS c S { x with turn := k } := set_app_add _ _ 0 _
end
/-- which part -/
inductive PP where
  | moved | it
def PP.D : PP → D
  | .moved => .tup [.str "moved"]
  | .it => .tup [.str "it"]
def pv (c : Rc) (x : Rx) : PP → Nat
  | .moved => c.part
  | .it => x.turn
inductive PW where
  | add | sub | mul | div | mod
def PW.s : PW → Str
  | .add => "add"
  | .sub => "sub"
  | .mul => "mul"
  | .div => "div"
  | .mod => "mod"
inductive PE where
  | num (k : Int) | cell | row (p : PP) | truth (p : PP) | shown (p : PP) | steps (p : PP) | op (w : PW) (a b : PE)
def PE.D : PE → D
  | .num k => .tup [.str "num", .int k]
  | .cell => .tup [.str "cell", .str "sum"]
  | .row p => .tup [.str "row", .str "seen", p.D]
  | .truth p => .tup [.str "truth", p.D]
  | .shown p => .tup [.str "shown", p.D]
  | .steps p => .tup [.str "steps", p.D]
  | .op w a b => .tup [.str w.s, a.D, b.D]
def PE.dep : PE → Nat
  | .op _ a b => max a.dep b.dep + 1
  | _ => 0
def wv : PW → Int → Int → Int
  | .add, u, v => u + v
  | .sub, u, v => u - v
  | .mul, u, v => u * v
  | .div, u, v => u / v
  | .mod, u, v => u % v
def val (c : Rc) (x : Rx) : PE → Int
  | .num k => k
  | .cell => gi x.ce 0
  | .row p => gi (x.ro.getD []) (pv c x p)
  | .truth p => gi x.tr (pv c x p)
  | .shown p => gi x.sh (pv c x p)
  | .steps p => gi c.b.steps (pv c x p)
  | .op w a b => wv w (val c x a) (val c x b)
abbrev Bd (v : Int) : Prop := -1000000000000 ≤ v ∧ v ≤ 1000000000000
def wOk : PW → Int → Prop
  | .div, v => 0 < v ∧ v < 1073741824
  | .mod, v => 0 < v
  | _, _ => True
def fine (c : Rc) (x : Rx) : PE → Prop
  | .num k => Bd k
  | .cell => c.cn = ([("sum" : Str)] : List Str) ∧ x.ce.length = 1 ∧ Bd (gi x.ce 0)
  | .row p => c.rn = ([("seen" : Str)] : List Str) ∧ ∃ r, x.ro = some r ∧ pv c x p < r.length ∧ Bd (gi r (pv c x p))
  | .truth p => pv c x p < x.tr.length ∧ Bd (gi x.tr (pv c x p))
  | .shown p => pv c x p < x.sh.length ∧ Bd (gi x.sh (pv c x p))
  | .steps p => pv c x p < c.b.steps.length ∧ Bd (gi c.b.steps (pv c x p))
  | .op w a b => fine c x a ∧ fine c x b ∧ Bd (wv w (val c x a) (val c x b)) ∧ wOk w (val c x b)
theorem fine_bd {c : Rc} {x : Rx} : ∀ {e : PE}, fine c x e → Bd (val c x e)
  | .num k, h => h
  | .cell, h => h.2.2
  | .row p, h => by
    obtain ⟨_, r, e, _, h⟩ := h
    show Bd (gi (x.ro.getD []) _)
    rw [e]
    exact h
  | .truth p, h => h.2
  | .shown p, h => h.2
  | .steps p, h => h.2
  | .op w a b, h => h.2.2.1
section
variable {c : Rc} {S : Store} {x : Rx}
theorem s_bounded (n : Nat) (v : Int) (h : Bd v) (S : Store) : callN tb fl (n + 1) k_bounded [.int v] S = .ok (.int v) S := by
  rw [u_bounded]
  ((try show Wp _ (hide _ ⟨⟩)) <;> simp -dsimp -implicitDefEqProofs [wp_ok, b_bounded, h.1, h.2])
theorem s_part_of (n : Nat) (p : PP) : callN tb fl (n + 1) k_Run_part_of [.ref S.length, p.D] (RS c S x) = .ok (.int (pv c x p)) (RS c S x) := by
  rw [u_Run_part_of]
  cases p with
  | moved => ((try show Wp _ (hide _ ⟨⟩)) <;> simp -dsimp -implicitDefEqProofs [wp_ok, b_Run_part_of, PP.D, rs_run, pv])
  | it => ((try show Wp _ (hide _ ⟨⟩)) <;> simp -dsimp -implicitDefEqProofs [wp_ok, b_Run_part_of, PP.D, rs_run, pv])
def PE.leaf : PE → Bool
  | .op _ _ _ => false
  | _ => true
theorem s_leaf (n : Nat) (e : PE) (hl : e.leaf = true) (h : fine c x e) : callN tb fl (n + 2) k_Run_leaf [.ref S.length, e.D] (RS c S x) = .ok (.int (val c x e)) (RS c S x) := by
  rw [u_Run_leaf]
  cases e with
  | num k => ((try show Wp _ (hide _ ⟨⟩)) <;> simp -dsimp -implicitDefEqProofs [wp_ok, b_Run_leaf, PE.D, val])
  | cell =>
    obtain ⟨h1, h2, _⟩ := h
    have e1 : opIdx (.ref (S.length + 3)) (.int 0) (RS c S x) = .ok (.int (gi x.ce 0)) (RS c S x) := r_idx (n := 0) rs_ce (by rw [List.getElem?_map, List.getElem?_eq_getElem (by omega), gi_get x.ce 0 (by omega)]; rfl)
    ((try show Wp _ (hide _ ⟨⟩)) <;> simp -dsimp -implicitDefEqProofs [wp_ok, b_Run_leaf, PE.D, rs_run, h1, opIndex, findS, e1, val])
  | row p =>
    obtain ⟨h1, r, h2, h3, _⟩ := h
    have e1 : opIdx (.ref (S.length + 5)) (.int 0) (RS c S x) = .ok (.ref (S.length + 4)) (RS c S x) := r_idx (n := 0) (rs_rows h2) rfl
    have e2 : opIdx (.ref (S.length + 4)) (.int (pv c x p)) (RS c S x) = .ok (.int (gi r (pv c x p))) (RS c S x) := r_idx (rs_row h2) (by rw [List.getElem?_map, List.getElem?_eq_getElem h3, gi_get r _ h3]; rfl)
    ((try show Wp _ (hide _ ⟨⟩)) <;> simp -dsimp -implicitDefEqProofs [wp_ok, b_Run_leaf, PE.D, rs_run, h1, opIndex, findS, roK, h2, e1, s_part_of n p, e2, val])
  | truth p =>
    obtain ⟨h1, _⟩ := h
    have e2 : opIdx (.ref (S.length + 1)) (.int (pv c x p)) (RS c S x) = .ok (.int (gi x.tr (pv c x p))) (RS c S x) := r_idx rs_tr (by rw [List.getElem?_map, List.getElem?_eq_getElem h1, gi_get x.tr _ h1]; rfl)
    ((try show Wp _ (hide _ ⟨⟩)) <;> simp -dsimp -implicitDefEqProofs [wp_ok, b_Run_leaf, PE.D, rs_run, s_part_of n p, e2, val])
  | shown p =>
    obtain ⟨h1, _⟩ := h
    have e2 : opIdx (.ref (S.length + 2)) (.int (pv c x p)) (RS c S x) = .ok (.int (gi x.sh (pv c x p))) (RS c S x) := r_idx rs_sh (by rw [List.getElem?_map, List.getElem?_eq_getElem h1, gi_get x.sh _ h1]; rfl)
    ((try show Wp _ (hide _ ⟨⟩)) <;> simp -dsimp -implicitDefEqProofs [wp_ok, b_Run_leaf, PE.D, rs_run, s_part_of n p, e2, val])
  | steps p =>
    obtain ⟨h1, _⟩ := h
    ((try show Wp _ (hide _ ⟨⟩)) <;> simp -dsimp -implicitDefEqProofs [wp_ok, b_Run_leaf, PE.D, rs_run, s_part_of n p, o_idxd c.b.steps _ h1, val])
  | op w a b => cases hl
theorem s_summed (n : Nat) (w : PW) (u v : Int) (h1 : Bd u) (h2 : Bd v) (h3 : Bd (wv w u v)) (h4 : wOk w v) (S : Store) : callN tb fl (n + 2) k_summed [.str w.s, .int u, .int v] S = .ok (.int (wv w u v)) S := by
  rw [u_summed]
  cases w with
  | add =>
    have h3 : Bd (u + v) := h3
    ((try show Wp _ (hide _ ⟨⟩)) <;> simp -dsimp -implicitDefEqProofs [wp_ok, b_summed, PW.s, wv, s_bounded n _ h3])
  | sub =>
    have h3 : Bd (u - v) := h3
    ((try show Wp _ (hide _ ⟨⟩)) <;> simp -dsimp -implicitDefEqProofs [wp_ok, b_summed, PW.s, wv, s_bounded n _ h3])
  | mul =>
    have h3 : Bd (u * v) := h3
    ((try show Wp _ (hide _ ⟨⟩)) <;> simp -dsimp -implicitDefEqProofs [wp_ok, b_summed, PW.s, wv, o_mul u v _ (by omega), s_bounded n _ h3])
  | div =>
    have h3 : Bd (u / v) := h3
    have h4 : 0 < v ∧ v < 1073741824 := h4
    ((try show Wp _ (hide _ ⟨⟩)) <;> simp -dsimp -implicitDefEqProofs [wp_ok, b_summed, PW.s, wv, o_fdiv u v _ h4, show ¬ v ≤ 0 by omega, s_bounded n _ h3])
  | mod =>
    have h3 : Bd (u % v) := h3
    have h4 : 0 < v := h4
    ((try show Wp _ (hide _ ⟨⟩)) <;> simp -dsimp -implicitDefEqProofs [wp_ok, b_summed, PW.s, wv, o_mod u v _ h4, show ¬ v ≤ 0 by omega, s_bounded n _ h3])
theorem sum_words (w : Str) (neg : Bool) (S : Store) : opIn neg (.str w) (.tup [.str "add", .str "sub", .str "mul", .str "div", .str "mod"]) S = .ok (.bl (if neg then !decide (w ∈ ([("add" : Str), "sub", "mul", "div", "mod"] : List Str)) else decide (w ∈ ([("add" : Str), "sub", "mul", "div", "mod"] : List Str)))) S := opIn_strs neg w ["add", "sub", "mul", "div", "mod"] S
theorem s_worth_leaf (n : Nat) (e : PE) (hl : e.leaf = true) (h : fine c x e) : callN tb fl (n + 3) k_Run_worth [.ref S.length, e.D] (RS c S x) = .ok (.int (val c x e)) (RS c S x) := by
  rw [u_Run_worth]
  have q := s_leaf (S := S) n e hl h
  have hb := fine_bd h
  generalize val c x e = v at *
  cases e with
  | op w a b => cases hl
  | num k =>
    simp only [PE.D] at q
    ((try show Wp _ (hide _ ⟨⟩)) <;> simp -dsimp -implicitDefEqProofs [wp_ok, b_Run_worth, PE.D, rs_run, sum_words, q, s_bounded (n + 1) _ hb])
  | cell =>
    simp only [PE.D] at q
    ((try show Wp _ (hide _ ⟨⟩)) <;> simp -dsimp -implicitDefEqProofs [wp_ok, b_Run_worth, PE.D, rs_run, sum_words, q, s_bounded (n + 1) _ hb])
  | row p =>
    simp only [PE.D] at q
    ((try show Wp _ (hide _ ⟨⟩)) <;> simp -dsimp -implicitDefEqProofs [wp_ok, b_Run_worth, PE.D, rs_run, sum_words, q, s_bounded (n + 1) _ hb])
  | truth p =>
    simp only [PE.D] at q
    ((try show Wp _ (hide _ ⟨⟩)) <;> simp -dsimp -implicitDefEqProofs [wp_ok, b_Run_worth, PE.D, rs_run, sum_words, q, s_bounded (n + 1) _ hb])
  | shown p =>
    simp only [PE.D] at q
    ((try show Wp _ (hide _ ⟨⟩)) <;> simp -dsimp -implicitDefEqProofs [wp_ok, b_Run_worth, PE.D, rs_run, sum_words, q, s_bounded (n + 1) _ hb])
  | steps p =>
    simp only [PE.D] at q
    ((try show Wp _ (hide _ ⟨⟩)) <;> simp -dsimp -implicitDefEqProofs [wp_ok, b_Run_worth, PE.D, rs_run, sum_words, q, s_bounded (n + 1) _ hb])
theorem s_worth : ∀ (e : PE) (n : Nat), e.dep + 3 ≤ n → fine c x e → callN tb fl n k_Run_worth [.ref S.length, e.D] (RS c S x) = .ok (.int (val c x e)) (RS c S x) := by
  intro e
  induction e with
  | op w a b iha ihb =>
    intro n hn h
    obtain ⟨m, rfl⟩ : ∃ m, n = m + 3 := ⟨n - 3, by omega⟩
    have hd : max a.dep b.dep + 1 + 3 ≤ m + 3 := hn
    obtain ⟨h1, h2, h3, h4⟩ := h
    rw [u_Run_worth]
    have q : ∀ S, opIn true (.str w.s) (.tup [.str "add", .str "sub", .str "mul", .str "div", .str "mod"]) S = .ok (.bl false) S := fun S => by
      rw [sum_words]
      cases w <;> simp [PW.s]
    ((try show Wp _ (hide _ ⟨⟩)) <;> simp -dsimp -implicitDefEqProofs [wp_ok, b_Run_worth, PE.D, rs_run, q, iha (m + 2) (by omega) h1, ihb (m + 2) (by omega) h2, s_summed m w _ _ (fine_bd h1) (fine_bd h2) h3 h4, val])
  | num k =>
    intro n hn h
    obtain ⟨m, rfl⟩ : ∃ m, n = m + 3 := ⟨n - 3, by have : 0 + 3 ≤ n := hn; omega⟩
    exact s_worth_leaf m _ rfl h
  | cell =>
    intro n hn h
    obtain ⟨m, rfl⟩ : ∃ m, n = m + 3 := ⟨n - 3, by have : 0 + 3 ≤ n := hn; omega⟩
    exact s_worth_leaf m _ rfl h
  | row p =>
    intro n hn h
    obtain ⟨m, rfl⟩ : ∃ m, n = m + 3 := ⟨n - 3, by have : 0 + 3 ≤ n := hn; omega⟩
    exact s_worth_leaf m _ rfl h
  | truth p =>
    intro n hn h
    obtain ⟨m, rfl⟩ : ∃ m, n = m + 3 := ⟨n - 3, by have : 0 + 3 ≤ n := hn; omega⟩
    exact s_worth_leaf m _ rfl h
  | shown p =>
    intro n hn h
    obtain ⟨m, rfl⟩ : ∃ m, n = m + 3 := ⟨n - 3, by have : 0 + 3 ≤ n := hn; omega⟩
    exact s_worth_leaf m _ rfl h
  | steps p =>
    intro n hn h
    obtain ⟨m, rfl⟩ : ∃ m, n = m + 3 := ⟨n - 3, by have : 0 + 3 ≤ n := hn; omega⟩
    exact s_worth_leaf m _ rfl h
/-! ### tests, statements -/
inductive PT where
  | less (a b : PE) | eq (a b : PE)
def PT.D : PT → D
  | .less a b => .tup [.str "less", a.D, b.D]
  | .eq a b => .tup [.str "eq", a.D, b.D]
def PT.dep : PT → Nat
  | .less a b => max a.dep b.dep
  | .eq a b => max a.dep b.dep
def tval (c : Rc) (x : Rx) : PT → Bool
  | .less a b => decide (val c x a < val c x b)
  | .eq a b => decide (val c x a = val c x b)
def tfine (c : Rc) (x : Rx) : PT → Prop
  | .less a b => fine c x a ∧ fine c x b
  | .eq a b => fine c x a ∧ fine c x b
theorem test_words (w : Str) (neg : Bool) (S : Store) : opIn neg (.str w) (.tup [.str "eq", .str "less"]) S = .ok (.bl (if neg then !decide (w ∈ ([("eq" : Str), "less"] : List Str)) else decide (w ∈ ([("eq" : Str), "less"] : List Str)))) S := opIn_strs neg w ["eq", "less"] S
theorem s_holds (t : PT) (n : Nat) (hn : t.dep + 3 ≤ n) (h : tfine c x t) : callN tb fl (n + 1) k_Run_holds [.ref S.length, t.D] (RS c S x) = .ok (.bl (tval c x t)) (RS c S x) := by
  rw [u_Run_holds]
  cases t with
  | less a b =>
    have hn : max a.dep b.dep + 3 ≤ n := hn
    ((try show Wp _ (hide _ ⟨⟩)) <;> simp -dsimp -implicitDefEqProofs [wp_ok, b_Run_holds, PT.D, rs_run, test_words, s_worth a n (by omega) h.1, s_worth b n (by omega) h.2, tval])
  | eq a b =>
    have hn : max a.dep b.dep + 3 ≤ n := hn
    ((try show Wp _ (hide _ ⟨⟩)) <;> simp -dsimp -implicitDefEqProofs [wp_ok, b_Run_holds, PT.D, rs_run, test_words, s_worth a n (by omega) h.1, s_worth b n (by omega) h.2, tval])
/-- simple statements -/
inductive PQ where
  | set (e : PE) | put (p : PP) (e : PE) | show_ (p : PP) (e : PE)
def PQ.D : PQ → D
  | .set e => .tup [.str "set", .str "sum", e.D]
  | .put p e => .tup [.str "put", .str "seen", p.D, e.D]
  | .show_ p e => .tup [.str "show", p.D, e.D]
def PQ.e : PQ → PE
  | .set e => e
  | .put _ e => e
  | .show_ _ e => e
def qfine (c : Rc) (x : Rx) : PQ → Prop
  | .set e => fine c x e ∧ c.cn = ([("sum" : Str)] : List Str) ∧ x.ce.length = 1
  | .put p e => fine c x e ∧ c.rn = ([("seen" : Str)] : List Str) ∧ ∃ r, x.ro = some r ∧ pv c x p < r.length
  | .show_ p e => fine c x e ∧ pv c x p < x.sh.length
def qrun (c : Rc) (x : Rx) : PQ → Rx
  | .set e => { x with ce := x.ce.set 0 (val c x e) }
  | .put p e => { x with ro := x.ro.map fun r => r.set (pv c x p) (val c x e) }
  | .show_ p e => { x with sh := x.sh.set (pv c x p) (val c x e) }
theorem q_fine {q : PQ} (h : qfine c x q) : fine c x q.e := by
  cases q with
  | set e => exact h.1
  | put p e => exact h.1
  | show_ p e => exact h.1
theorem s_store (n : Nat) (q : PQ) (h : qfine c x q) : callN tb fl (n + 2) k_Run_store [.ref S.length, q.D, .int (val c x q.e)] (RS c S x) = .ok .non (RS c S (qrun c x q)) := by
  rw [u_Run_store]
  cases q with
  | set e =>
    obtain ⟨h1, h2, h3⟩ := h
    have e1 : opSetItem (.ref (S.length + 3)) (.int 0) (.int (val c x e)) (RS c S x) = some (RS c S { x with ce := x.ce.set 0 (val c x e) }) := by
      have e0 := rs_set_ce (c := c) (S := S) (x := x) (x.ce.set 0 (val c x e))
      rw [List.map_set] at e0
      rw [← e0]
      exact r_set (n := 0) rs_ce (by simp; omega) _
    ((try show Wp _ (hide _ ⟨⟩)) <;> simp -dsimp -implicitDefEqProofs [wp_ok, b_Run_store, PQ.D, PQ.e, rs_run, h2, opIndex, findS, e1, qrun])
  | put p e =>
    obtain ⟨h1, h2, r, h3, h4⟩ := h
    have e1 : opIdx (.ref (S.length + 5)) (.int 0) (RS c S x) = .ok (.ref (S.length + 4)) (RS c S x) := r_idx (n := 0) (rs_rows h3) rfl
    have e2 : opSetItem (.ref (S.length + 4)) (.int (pv c x p)) (.int (val c x e)) (RS c S x) = some (RS c S { x with ro := some (r.set (pv c x p) (val c x e)) }) := by
      have e0 := rs_set_row (c := c) (S := S) h3 (r.set (pv c x p) (val c x e))
      rw [List.map_set] at e0
      rw [← e0]
      exact r_set (rs_row h3) (by simpa using h4) _
    ((try show Wp _ (hide _ ⟨⟩)) <;> simp -dsimp -implicitDefEqProofs [wp_ok, b_Run_store, PQ.D, PQ.e, rs_run, h2, opIndex, findS, roK, h3, e1, s_part_of n p, e2, qrun])
  | show_ p e =>
    obtain ⟨h1, h2⟩ := h
    have e1 : opSetItem (.ref (S.length + 2)) (.int (pv c x p)) (.int (val c x e)) (RS c S x) = some (RS c S { x with sh := x.sh.set (pv c x p) (val c x e) }) := by
      have e0 := rs_set_sh (c := c) (S := S) (x := x) (x.sh.set (pv c x p) (val c x e))
      rw [List.map_set] at e0
      rw [← e0]
      exact r_set rs_sh (by simpa using h2) _
    ((try show Wp _ (hide _ ⟨⟩)) <;> simp -dsimp -implicitDefEqProofs [wp_ok, b_Run_store, PQ.D, PQ.e, rs_run, s_part_of n p, e1, qrun])
end
end K76P
set_option Elab.async false
set_option linter.all false
set_option maxRecDepth 100000
set_option autoImplicit false
set_option maxHeartbeats 2000000
/-! P11: bodies, the whole run -/
namespace K76P
open PySem K76
def qsrun (c : Rc) : List PQ → Rx → Rx
  | [], x => x
  | q :: r, x => qsrun c r (qrun c x q)
def qsfine (c : Rc) : List PQ → Rx → Prop
  | [], _ => True
  | q :: r, x => qfine c x q ∧ q.e.dep ≤ 8 ∧ qsfine c r (qrun c x q)
theorem qsrun_take (c : Rc) : ∀ (l : List PQ) (x : Rx) (j : Nat) (q : PQ), l[j]? = some q → qsrun c (l.take (j + 1)) x = qrun c (qsrun c (l.take j) x) q
  | [], x, j, q, h => by simp at h
  | a :: r, x, 0, q, h => by
    have h : some a = some q := h
    cases h
    rfl
  | a :: r, x, j + 1, q, h => qsrun_take c r (qrun c x a) j q h
theorem qsfine_take (c : Rc) : ∀ (l : List PQ) (x : Rx) (j : Nat) (q : PQ), qsfine c l x → l[j]? = some q → qfine c (qsrun c (l.take j) x) q ∧ q.e.dep ≤ 8
  | [], x, j, q, _, h => by simp at h
  | a :: r, x, 0, q, f, h => by
    have h : some a = some q := h
    cases h
    exact ⟨f.1, f.2.1⟩
  | a :: r, x, j + 1, q, f, h => qsfine_take c r (qrun c x a) j q f.2.2 h
/-- statements -/
inductive PS where
  | q (s : PQ) | ite (t : PT) (l : List PQ) | each (l : List PQ)
def PS.D : PS → D
  | .q s => s.D
  | .ite t l => .tup [.str "if", t.D, .tup (l.map PQ.D), .tup []]
  | .each l => .tup [.str "each", .tup (l.map PQ.D)]
def Rx.at_ (x : Rx) (k : Nat) : Rx := ⟨x.tr, x.sh, x.ce, x.ro, k⟩
theorem rs_turn {c : Rc} {S : Store} {x : Rx} (k : Nat) : (RS c S x).set S.length (.ins 20 [(30, tI c.b.steps), (31, .tup (c.b.links.map tI)), (29, .tupx c.cn), (28, .tupx c.rn), (22, .ref (S.length + 1)), (12, .ref (S.length + 2)), (6, .ref (S.length + 3)), (5, .ref (roK S.length x)), (27, .int c.part), (26, .int c.way), (25, .int k)]) = RS c S (x.at_ k) := set_app_add _ _ 0 _
def eachN (c : Rc) (l : List PQ) : Nat → Rx → Rx
  | 0, x => x
  | k + 1, x => qsrun c l ((eachN c l k x).at_ k)
def srun (c : Rc) (x : Rx) : PS → Rx
  | .q s => qrun c x s
  | .ite t l => if tval c x t then qsrun c l x else x
  | .each l => eachN c l c.b.steps.length x
def sfine (c : Rc) (x : Rx) : PS → Prop
  | .q s => qfine c x s ∧ s.e.dep ≤ 8
  | .ite t l => tfine c x t ∧ t.dep ≤ 8 ∧ l.length ≤ 10 ∧ (tval c x t = true → qsfine c l x)
  | .each l => l.length ≤ 10 ∧ ∀ k, k < c.b.steps.length → qsfine c l ((eachN c l k x).at_ k)
def ssrun (c : Rc) : List PS → Rx → Rx
  | [], x => x
  | q :: r, x => ssrun c r (srun c x q)
def ssfine (c : Rc) : List PS → Rx → Prop
  | [], _ => True
  | q :: r, x => sfine c x q ∧ ssfine c r (srun c x q)
theorem ssrun_take (c : Rc) : ∀ (l : List PS) (x : Rx) (j : Nat) (q : PS), l[j]? = some q → ssrun c (l.take (j + 1)) x = srun c (ssrun c (l.take j) x) q
  | [], x, j, q, h => by simp at h
  | a :: r, x, 0, q, h => by
    have h : some a = some q := h
    cases h
    rfl
  | a :: r, x, j + 1, q, h => ssrun_take c r (srun c x a) j q h
theorem ssfine_take (c : Rc) : ∀ (l : List PS) (x : Rx) (j : Nat) (q : PS), ssfine c l x → l[j]? = some q → sfine c (ssrun c (l.take j) x) q
  | [], x, j, q, _, h => by simp at h
  | a :: r, x, 0, q, f, h => by
    have h : some a = some q := h
    cases h
    exact f.1
  | a :: r, x, j + 1, q, f, h => ssfine_take c r (srun c x a) j q f.2 h
section
variable {c : Rc} {S : Store} {x : Rx}
theorem r_neg1 (l : List D) (y : D) (S : Store) : opIdx (.tup (l ++ [y])) (.int (-1)) S = .ok y S := by
  have : L2.atI (l ++ [y]) (-1) = some y := by
    unfold L2.atI L2.ixN
    rw [if_neg (by omega), if_pos (by simp; omega)]
    have e : (-1 + ((l ++ [y]).length : Int)).toNat = l.length := by simp; omega
    simp only [Option.bind_some, e]
    simp
  simp [opIdx, this]
theorem s_statement_q (n : Nat) (q : PQ) (pl : D) (h : qfine c x q) (hd : q.e.dep ≤ 8) : callN tb fl (n + 12) k_Run_statement [.ref S.length, q.D, pl] (RS c S x) = .ok .non (RS c S (qrun c x q)) := by
  rw [u_Run_statement]
  have w := s_worth (S := S) q.e (n + 11) (by omega) (q_fine h)
  have st := s_store (S := S) (n + 9) q h
  generalize val c x q.e = v at w st
  cases q with
  | set e =>
    simp only [PQ.D, PQ.e] at w st
    have e1 := r_neg1 [.str "set", .str "sum"] e.D (RS c S x)
    simp only [List.cons_append, List.nil_append] at e1
    ((try show Wp _ (hide _ ⟨⟩)) <;> simp -dsimp -implicitDefEqProofs [wp_ok, b_Run_statement, PQ.D, rs_run, e1, w, st])
  | put p e =>
    simp only [PQ.D, PQ.e] at w st
    have e1 := r_neg1 [.str "put", .str "seen", p.D] e.D (RS c S x)
    simp only [List.cons_append, List.nil_append] at e1
    ((try show Wp _ (hide _ ⟨⟩)) <;> simp -dsimp -implicitDefEqProofs [wp_ok, b_Run_statement, PQ.D, rs_run, e1, w, st])
  | show_ p e =>
    simp only [PQ.D, PQ.e] at w st
    have e1 := r_neg1 [.str "show", p.D] e.D (RS c S x)
    simp only [List.cons_append, List.nil_append] at e1
    ((try show Wp _ (hide _ ⟨⟩)) <;> simp -dsimp -implicitDefEqProofs [wp_ok, b_Run_statement, PQ.D, rs_run, e1, w, st])
theorem s_body_q (n : Nat) (l : List PQ) (pl : List D) (h : qsfine c l x) (hl : l.length ≤ 10) (hp : pl.length ≤ 100) : callN tb fl (n + 13) k_Run_body [.ref S.length, .tup (l.map PQ.D), .tup pl] (RS c S x) = .ok .non (RS c S (qsrun c l x)) := by
  have w : Wp (callN tb fl (n + 13) k_Run_body [.ref S.length, .tup (l.map PQ.D), .tup pl] (RS c S x)) fun v S' => v = .non ∧ S' = RS c S (qsrun c l x) := by
    rw [u_Run_body]
    ((try show Wp _ (hide _ ⟨⟩)) <;> simp -dsimp -implicitDefEqProofs [b_Run_body] <;> try with_reducible refine wp_fin ?_)
    rw [enumL_of]
    refine Wp.fold (fun p : PQ × Nat => D.tup [.int (p.2 : Int), p.1.D]) (fun j ρ S' => (∃ u v w, ρ = [some (.ref S.length), some (.tup (l.map PQ.D)), some (.tup pl), u, v, w]) ∧ S' = RS c S (qsrun c (l.take j) x)) l.zipIdx ?_ ⟨⟨_, _, _, rfl⟩, rfl⟩ ?_
    · intro j p hj ρ S1 hi
      obtain ⟨⟨u, v, w, rfl⟩, rfl⟩ := hi
      have hm : l[j]? = some p.1 ∧ p.2 = j := by
        have hj2 := hj
        rw [List.getElem?_zipIdx] at hj2
        cases e : l[j]? with
        | none => rw [e] at hj2; cases hj2
        | some q =>
          rw [e] at hj2
          have : (q, 0 + j) = p := Option.some.inj hj2
          rw [← this]
          exact ⟨rfl, by simp⟩
      obtain ⟨f1, f2⟩ := qsfine_take c l x j p.1 h hm.1
      ((try show Wp _ (hide _ ⟨⟩)) <;> simp -dsimp -implicitDefEqProofs [rs_run] <;> try with_reducible refine wp_fin ?_)
      rw [o_addt _ _ _ (by rw [sizeLine_eq]; simp; omega)]
      ((try show Wp _ (hide _ ⟨⟩)) <;> simp -dsimp -implicitDefEqProofs [s_statement_q n p.1 _ f1 f2] <;> try with_reducible refine wp_fin ?_)
      refine ⟨rfl, ⟨_, _, _, rfl⟩, ?_⟩
      rw [qsrun_take c l x j p.1 hm.1]
    · intro ρ S1 hi
      obtain ⟨⟨u, v, w, rfl⟩, rfl⟩ := hi
      ((try show Wp _ (hide _ ⟨⟩)) <;> simp -dsimp -implicitDefEqProofs <;> try with_reducible refine wp_fin ?_)
      exact ⟨rfl, by simp⟩
  obtain ⟨v, S', e, rfl, rfl⟩ := w
  exact e
theorem s_choice (n : Nat) (t : PT) (l : List PQ) (pl : List D) (h : sfine c x (.ite t l)) (hp : pl.length ≤ 50) : callN tb fl (n + 14) k_Run_choice [.ref S.length, (PS.ite t l).D, .tup pl] (RS c S x) = .ok .non (RS c S (srun c x (.ite t l))) := by
  rw [u_Run_choice]
  obtain ⟨h1, h2, h3, h4⟩ := h
  have hh := s_holds (S := S) t (n + 12) (by omega) h1
  unfold srun
  cases e : tval c x t with
  | true =>
    rw [e] at hh
    ((try show Wp _ (hide _ ⟨⟩)) <;> simp -dsimp -implicitDefEqProofs [wp_ok, b_Run_choice, PS.D, rs_run, hh])
    rw [o_addt _ _ _ (by rw [sizeLine_eq]; simp; omega)]
    ((try show Wp _ (hide _ ⟨⟩)) <;> simp -dsimp -implicitDefEqProofs [wp_ok, s_body_q n l (pl ++ [.int 0]) (h4 e) h3 (by simp; omega)])
    simp [e]
  | false =>
    rw [e] at hh
    ((try show Wp _ (hide _ ⟨⟩)) <;> simp -dsimp -implicitDefEqProofs [wp_ok, b_Run_choice, PS.D, rs_run, hh])
    rw [o_addt _ _ _ (by rw [sizeLine_eq]; simp; omega)]
    have q := s_body_q (S := S) (c := c) (x := x) n [] (pl ++ [.int 1]) trivial (by simp) (by simp; omega)
    simp only [List.map_nil] at q
    ((try show Wp _ (hide _ ⟨⟩)) <;> simp -dsimp -implicitDefEqProofs [wp_ok, q, qsrun])
    simp [e]
theorem s_each (n : Nat) (l : List PQ) (pl : List D) (hm : c.b.steps.length ≤ 4) (h : sfine c x (.each l)) (hp : pl.length ≤ 50) : callN tb fl (n + 14) k_Run_each [.ref S.length, (PS.each l).D, .tup pl] (RS c S x) = .ok .non (RS c S (srun c x (.each l))) := by
  have w : Wp (callN tb fl (n + 14) k_Run_each [.ref S.length, (PS.each l).D, .tup pl] (RS c S x)) fun v S' => v = .non ∧ S' = RS c S (srun c x (.each l)) := by
    rw [u_Run_each]
    obtain ⟨h1, h2⟩ := h
    ((try show Wp _ (hide _ ⟨⟩)) <;> simp -dsimp -implicitDefEqProofs [b_Run_each, PS.D, rs_run, rngD_ok _ _ _ rfl (show c.b.steps.length ≤ 1000000 by omega)] <;> try with_reducible refine wp_fin ?_)
    refine Wp.foldR (fun k ρ S' => (∃ u v, ρ = [some (.ref S.length), some (.tup [.str "each", .tup (l.map PQ.D)]), some (.tup pl), u, v]) ∧ S' = RS c S (eachN c l k x)) c.b.steps.length ?_ ⟨⟨_, _, rfl⟩, rfl⟩ ?_
    · intro k hk ρ S1 hi
      obtain ⟨⟨u, v, rfl⟩, rfl⟩ := hi
      have r1 := rs_run (c := c) (S := S) (x := ((eachN c l k x).at_ k))
      ((try show Wp _ (hide _ ⟨⟩)) <;> simp -dsimp -implicitDefEqProofs [rs_run] <;> try with_reducible refine wp_fin ?_)
      rw [rs_turn]
      ((try show Wp _ (hide _ ⟨⟩)) <;> simp -dsimp -implicitDefEqProofs [r1] <;> try with_reducible refine wp_fin ?_)
      rw [o_addt _ _ _ (by rw [sizeLine_eq]; simp; omega)]
      ((try show Wp _ (hide _ ⟨⟩)) <;> simp -dsimp -implicitDefEqProofs [s_body_q n l (pl ++ [.int 0]) (h2 k hk) h1 (by simp; omega)] <;> try with_reducible refine wp_fin ?_)
      exact ⟨rfl, ⟨_, _, rfl⟩, rfl⟩
    · intro ρ S1 hi
      obtain ⟨⟨u, v, rfl⟩, rfl⟩ := hi
      ((try show Wp _ (hide _ ⟨⟩)) <;> simp -dsimp -implicitDefEqProofs <;> try with_reducible refine wp_fin ?_)
      exact ⟨rfl, rfl⟩
  obtain ⟨v, S', e, rfl, rfl⟩ := w
  exact e
theorem s_statement (n : Nat) (s : PS) (pl : List D) (hm : c.b.steps.length ≤ 4) (h : sfine c x s) (hp : pl.length ≤ 50) : callN tb fl (n + 15) k_Run_statement [.ref S.length, s.D, .tup pl] (RS c S x) = .ok .non (RS c S (srun c x s)) := by
  cases s with
  | q q => exact s_statement_q (n + 3) q _ h.1 h.2
  | ite t l =>
    rw [u_Run_statement]
    have q := s_choice (S := S) n t l pl h hp
    simp only [PS.D] at q
    ((try show Wp _ (hide _ ⟨⟩)) <;> simp -dsimp -implicitDefEqProofs [wp_ok, b_Run_statement, PS.D, rs_run, q])
  | each l =>
    rw [u_Run_statement]
    have q := s_each (S := S) n l pl hm h hp
    simp only [PS.D] at q
    ((try show Wp _ (hide _ ⟨⟩)) <;> simp -dsimp -implicitDefEqProofs [wp_ok, b_Run_statement, PS.D, rs_run, q])
theorem s_body (n : Nat) (l : List PS) (pl : List D) (hm : c.b.steps.length ≤ 4) (h : ssfine c l x) (hp : pl.length ≤ 20) : callN tb fl (n + 16) k_Run_body [.ref S.length, .tup (l.map PS.D), .tup pl] (RS c S x) = .ok .non (RS c S (ssrun c l x)) := by
  have w : Wp (callN tb fl (n + 16) k_Run_body [.ref S.length, .tup (l.map PS.D), .tup pl] (RS c S x)) fun v S' => v = .non ∧ S' = RS c S (ssrun c l x) := by
    rw [u_Run_body]
    ((try show Wp _ (hide _ ⟨⟩)) <;> simp -dsimp -implicitDefEqProofs [b_Run_body] <;> try with_reducible refine wp_fin ?_)
    rw [enumL_of]
    refine Wp.fold (fun p : PS × Nat => D.tup [.int (p.2 : Int), p.1.D]) (fun j ρ S' => (∃ u v w, ρ = [some (.ref S.length), some (.tup (l.map PS.D)), some (.tup pl), u, v, w]) ∧ S' = RS c S (ssrun c (l.take j) x)) l.zipIdx ?_ ⟨⟨_, _, _, rfl⟩, rfl⟩ ?_
    · intro j p hj ρ S1 hi
      obtain ⟨⟨u, v, w, rfl⟩, rfl⟩ := hi
      have hm2 : l[j]? = some p.1 ∧ p.2 = j := by
        have hj2 := hj
        rw [List.getElem?_zipIdx] at hj2
        cases e : l[j]? with
        | none => rw [e] at hj2; cases hj2
        | some q =>
          rw [e] at hj2
          have : (q, 0 + j) = p := Option.some.inj hj2
          rw [← this]
          exact ⟨rfl, by simp⟩
      have f1 := ssfine_take c l x j p.1 h hm2.1
      ((try show Wp _ (hide _ ⟨⟩)) <;> simp -dsimp -implicitDefEqProofs [rs_run] <;> try with_reducible refine wp_fin ?_)
      rw [o_addt _ _ _ (by rw [sizeLine_eq]; simp; omega)]
      ((try show Wp _ (hide _ ⟨⟩)) <;> simp -dsimp -implicitDefEqProofs [s_statement n p.1 (pl ++ [.int p.2]) hm f1 (by simp; omega)] <;> try with_reducible refine wp_fin ?_)
      refine ⟨rfl, ⟨_, _, _, rfl⟩, ?_⟩
      rw [ssrun_take c l x j p.1 hm2.1]
    · intro ρ S1 hi
      obtain ⟨⟨u, v, w, rfl⟩, rfl⟩ := hi
      ((try show Wp _ (hide _ ⟨⟩)) <;> simp -dsimp -implicitDefEqProofs <;> try with_reducible refine wp_fin ?_)
      exact ⟨rfl, by simp⟩
  obtain ⟨v, S', e, rfl, rfl⟩ := w
  exact e
end
/-! ### a run from a state -/
/-- a state of a written publisher -/
structure Sp where
  tr : List Int
  sh : List Int
  ce : List Int
  ro : Option (List Int)
def roD : Option (List Int) → D
  | none => .tup []
  | some r => .tup [tI r]
abbrev Sp.D (s : Sp) : D := .tup [tI s.tr, tI s.sh, tI s.ce, roD s.ro]
/-- a publisher: its cells, rows, body -/
structure Pb where
  cells : List (Str × Int)
  rows : List (Str × Int)
  body : List PS
def nmD (p : Str × Int) : D := .tup [.str p.1, .int p.2]
abbrev Pb.D (p : Pb) : D := .tup [.tup (p.cells.map nmD), .tup (p.rows.map nmD), .tup (p.body.map PS.D)]
def Pb.cx (p : Pb) (b : Bk) (i : Nat) (w : Int) : Rc := ⟨b, p.cells.map (·.1), p.rows.map (·.1), i, w⟩
def x0 (s : Sp) (i : Nat) (w : Int) : Rx := ⟨s.tr.set i (gi s.tr i + w), s.sh, s.ce, s.ro, i⟩
theorem allStrs_map {α : Type} (f : α → Str) (l : List α) : allStrs (l.map fun a => D.str (f a)) = some (l.map f) := by
  induction l with
  | nil => rfl
  | cons a r ih => simp [allStrs, ih]
theorem o_il (j : Nat) (i : Int) (S : Store) : opIdxL (.ref j) (.int i) S = opIdx (.ref j) (.int i) S := rfl
theorem s_Run_init (n : Nat) (p : Pb) (hc : p.cells.length ≤ 10) (hr : p.rows.length ≤ 10) (b : Bk) (s : Sp) (i : Nat) (w : Int) (hi : i < s.tr.length) (S : Store) :
    callN tb fl (n + 1) k_Run_init [.ref S.length, b.D, p.D, s.D, .int i, .int w] (S ++ [.ins 20 []]) = .ok .non (RS (p.cx b i w) S (x0 s i w)) := by
  rw [u_Run_init]
  ((try show Wp _ (hide _ ⟨⟩)) <;> simp -dsimp -implicitDefEqProofs [wp_ok, b_Run_init])
  rw [mapF_map nmD (fun q : Str × Int => D.str q.1) p.cells (fun q hq => by ((try show Wp _ (hide _ ⟨⟩)) <;> simp -dsimp -implicitDefEqProofs [wp_ok, nmD])) (by rw [sizeLine_eq]; omega)]
  ((try show Wp _ (hide _ ⟨⟩)) <;> simp -dsimp -implicitDefEqProofs [wp_ok, opLF, allStrs_map])
  rw [mapF_map nmD (fun q : Str × Int => D.str q.1) p.rows (fun q hq => by ((try show Wp _ (hide _ ⟨⟩)) <;> simp -dsimp -implicitDefEqProofs [wp_ok, nmD])) (by rw [sizeLine_eq]; omega)]
  have f1 : (s.tr.map D.int)[i]? = some (.int (gi s.tr i)) := by rw [List.getElem?_map, List.getElem?_eq_getElem hi, gi_get s.tr i hi]; rfl
  ((try show Wp _ (hide _ ⟨⟩)) <;> simp -dsimp -implicitDefEqProofs [wp_ok, opLF, allStrs_map, o_il])
  rw [r_idx (l := s.tr.map .int) (get_app_add S _ 1) f1]
  ((try show Wp _ (hide _ ⟨⟩)) <;> simp -dsimp -implicitDefEqProofs [wp_ok])
  rw [r_set (l := s.tr.map .int) (get_app_add S _ 1) (by simpa using hi)]
  obtain ⟨tr, sh, ce, ro⟩ := s
  cases ro with
  | none =>
    ((try show Wp _ (hide _ ⟨⟩)) <;> simp -dsimp -implicitDefEqProofs [wp_ok, roD])
    rw [← List.map_set]
    rfl
  | some r =>
    ((try show Wp _ (hide _ ⟨⟩)) <;> simp -dsimp -implicitDefEqProofs [wp_ok, roD])
    rw [mapF_cons]
    ((try show Wp _ (hide _ ⟨⟩)) <;> simp -dsimp -implicitDefEqProofs [wp_ok])
    rw [← List.map_set]
    rfl
theorem lcL_pure {stp : D → Store → Res (Option D)} {S : Store} {i : Nat} {xs : List D} (h : S[i]? = some (.lst xs)) (hp : ∀ d ∈ xs, ∃ o, stp d S = .ok o S) : ∀ (r k : Nat) (acc : List D), k + r = xs.length → lcL (.ls i xs.length) stp r k acc S = mapF stp (xs.drop k) acc S
  | 0, k, acc, e => by
    have e1 : xs.drop k = [] := List.drop_eq_nil_of_le (by omega)
    rw [e1]
    unfold lcL
    simp [Src.fine, h, mapF_nil]
  | r + 1, k, acc, e => by
    have hk : k < xs.length := by omega
    have e1 : (Src.ls i xs.length).item S k = some xs[k] := by simp [Src.item, h, hk]
    obtain ⟨o, e2⟩ := hp xs[k] (List.getElem_mem hk)
    rw [List.drop_eq_getElem_cons hk, mapF_cons]
    unfold lcL
    rw [e1]
    dsimp only
    rw [e2]
    cases o with
    | none => exact lcL_pure h hp r (k + 1) acc (by omega)
    | some y =>
      dsimp only
      by_cases z : acc.length < sizeLine
      · rw [if_pos z, if_pos z]
        exact lcL_pure h hp r (k + 1) (acc ++ [y]) (by omega)
      · rw [if_neg z, if_neg z]
theorem lcL_ls_map {stp : D → Store → Res (Option D)} {S : Store} {i n : Nat} {xs : List D} (h : S[i]? = some (.lst xs)) (hn : xs.length = n) (hp : ∀ d ∈ xs, ∃ o, stp d S = .ok o S) : lcL (.ls i n) stp (Src.ls i n).len 0 [] S = mapF stp xs [] S := by
  subst hn
  exact lcL_pure h hp xs.length 0 [] (by omega)
section
variable {c : Rc} {S : Store} {x : Rx}
theorem rs_rows0 (h : x.ro = none) : (RS c S x)[S.length + 4]? = some (.lst []) := by
  unfold RS roT
  rw [h]
  exact get_app_add _ _ 4
theorem s_Run_state (n : Nat) : callN tb fl (n + 1) k_Run_state [.ref S.length] (RS c S x) = .ok (Sp.D ⟨x.tr, x.sh, x.ce, x.ro⟩) (RS c S x) := by
  rw [u_Run_state]
  cases e : x.ro with
  | none =>
    ((try show Wp _ (hide _ ⟨⟩)) <;> simp -dsimp -implicitDefEqProofs [wp_ok, b_Run_state, rs_run, roK, e, rs_rows0 e])
    rw [lcL_ls_map (n := 0) (rs_rows0 e) rfl (fun d hd => by cases hd)]
    ((try show Wp _ (hide _ ⟨⟩)) <;> simp -dsimp -implicitDefEqProofs [wp_ok, opLF, rs_run, r_tuple rs_tr, r_tuple rs_sh, r_tuple rs_ce, roD])
  | some r =>
    have q : opBI .tuple1 [.ref (S.length + 4)] (RS c S x) = .ok (tI r) (RS c S x) := r_tuple (rs_row e)
    ((try show Wp _ (hide _ ⟨⟩)) <;> simp -dsimp -implicitDefEqProofs [wp_ok, b_Run_state, rs_run, roK, e, rs_rows e])
    rw [lcL_ls_map (n := 1) (rs_rows e) rfl (fun d hd => by
      rw [List.mem_singleton.mp hd]
      exact ⟨some (tI r), by ((try show Wp _ (hide _ ⟨⟩)) <;> simp -dsimp -implicitDefEqProofs [wp_ok, q])⟩)]
    rw [mapF_cons]
    ((try show Wp _ (hide _ ⟨⟩)) <;> simp -dsimp -implicitDefEqProofs [wp_ok, q, opLF, rs_run, r_tuple rs_tr, r_tuple rs_sh, r_tuple rs_ce, roD])
end
def Rx.sp (x : Rx) : Sp := ⟨x.tr, x.sh, x.ce, x.ro⟩
def goOn (p : Pb) (b : Bk) (s : Sp) (i : Nat) (w : Int) : Sp := (ssrun (p.cx b i w) p.body (x0 s i w)).sp
theorem s_told_of (n : Nat) (p : Pb) (hc : p.cells.length ≤ 10) (hr : p.rows.length ≤ 10) (b : Bk) (hm : b.steps.length ≤ 4) (s : Sp) (i : Nat) (w : Int) (hi : i < s.tr.length) (hf : ssfine (p.cx b i w) p.body (x0 s i w)) (S : Store) :
    callN tb fl (n + 17) k_told_of [b.D, p.D, s.D, .int i, .int w] S = .ok (.tup [(goOn p b s i w).D, .non]) (RS (p.cx b i w) S (ssrun (p.cx b i w) p.body (x0 s i w))) := by
  rw [u_told_of]
  have q1 := s_Run_init (n + 15) p hc hr b s i w hi S
  have q2 := s_body (S := S) n p.body [] hm hf (by simp)
  have q3 := s_Run_state (c := p.cx b i w) (S := S) (x := ssrun (p.cx b i w) p.body (x0 s i w)) (n + 15)
  ((try show Wp _ (hide _ ⟨⟩)) <;> simp -dsimp -implicitDefEqProofs [wp_ok, b_told_of, q1, rs_run, q2, q3])
  exact ⟨rfl, rfl, rfl, rfl⟩
/-! ### programs -/
abbrev pFs (b : Bk) (p : Pb) (s : Sp) : List (Nat × D) := [(2, b.D), (40, p.D), (39, s.D)]
theorem s_Program_init (n : Nat) (S : Store) (x y z : D) : callN tb fl (n + 1) k_Program_init [.ref S.length, x, y, z] (S ++ [.ins 21 []]) = .ok .non (S ++ [.ins 21 [(2, x), (40, y), (39, z)]]) := by
  rw [u_Program_init]
  ((try show Wp _ (hide _ ⟨⟩)) <;> simp -dsimp -implicitDefEqProofs [wp_ok, b_Program_init])
theorem s_Program_copy (n : Nat) (S : Store) (q : Nat) (b : Bk) (p : Pb) (s : Sp) (h : S[q]? = some (.ins 21 (pFs b p s))) : callN tb fl (n + 2) k_Program_copy [.ref q] S = .ok (.ref S.length) (S ++ [.ins 21 (pFs b p s)]) := by
  rw [u_Program_copy]
  ((try show Wp _ (hide _ ⟨⟩)) <;> simp -dsimp -implicitDefEqProofs [wp_ok, b_Program_copy, h, s_Program_init])
theorem diff_one (y : Int) : ∀ (sh : List Int) (i k : Nat), i < sh.length → ((sh.zip (sh.set i y)).zipIdx k).filter (fun p => !decide (p.1.2 - p.1.1 = 0)) = if y - gi sh i = 0 then [] else [((gi sh i, y), k + i)]
  | [], i, k, h => by simp at h
  | a :: r, 0, k, h => by
    have e : ∀ (r : List Int) (k : Nat), ((r.zip r).zipIdx k).filter (fun p => !decide (p.1.2 - p.1.1 = 0)) = [] := by
      intro r
      induction r with
      | nil => intro k; rfl
      | cons a r ih => intro k; simp [List.zipIdx_cons, ih]
    have g : gi (a :: r) 0 = a := rfl
    rw [List.set_cons_zero, List.zip_cons_cons, List.zipIdx_cons, List.filter_cons, e, g]
    by_cases z : y - a = 0 <;> simp [z]
  | a :: r, i + 1, k, h => by
    have ih := diff_one y r i (k + 1) (by simpa using h)
    have g : gi (a :: r) (i + 1) = gi r i := rfl
    rw [List.set_cons_succ, List.zip_cons_cons, List.zipIdx_cons, List.filter_cons, ih, g, show k + 1 + i = k + (i + 1) by omega]
    simp
theorem s_Program_moved (n : Nat) (p : Pb) (hc : p.cells.length ≤ 10) (hr : p.rows.length ≤ 10) (b : Bk) (hm : b.steps.length ≤ 4) (s : Sp) (i : Nat) (w y : Int) (hi : i < s.tr.length) (hi2 : i < s.sh.length) (hl : s.sh.length ≤ 10) (hf : ssfine (p.cx b i w) p.body (x0 s i w)) (hy : (goOn p b s i w).sh = s.sh.set i y)
    (S : Store) (q : Nat) (h : S[q]? = some (.ins 21 (pFs b p s))) :
    Wp (callN tb fl (n + 18) k_Program_moved [.ref q, .int i, .int w] S) fun v S' => v = chD i (y - gi s.sh i) ∧ Kp [q] S S' ∧ S'[q]? = some (.ins 21 (pFs b p (goOn p b s i w))) := by
  rw [u_Program_moved]
  have t1 := s_told_of n p hc hr b hm s i w hi hf S
  have k1 : Kp [] S (RS (p.cx b i w) S (ssrun (p.cx b i w) p.body (x0 s i w))) := Kp.app _
  generalize RS (p.cx b i w) S (ssrun (p.cx b i w) p.body (x0 s i w)) = S1 at t1 k1
  generalize goOn p b s i w = s' at t1 hy ⊢
  have h1 := k1.get0 h
  ((try show Wp _ (hide _ ⟨⟩)) <;> simp -dsimp -implicitDefEqProofs [b_Program_moved, h, t1, h1] <;> try with_reducible refine wp_fin ?_)
  have hz : (s.sh.zip s'.sh).zipIdx.length ≤ 10 := by simp; omega
  rw [zip2L_map, enumL_of]
  rw [mapF_map (fun p : (Int × Int) × Nat => D.tup [.int (p.2 : Int), .tup [.int p.1.1, .int p.1.2]]) (fun p => D.tup [.int p.2, .int (p.1.2 - p.1.1)]) (s.sh.zip s'.sh).zipIdx (fun p hp => by ((try show Wp _ (hide _ ⟨⟩)) <;> simp -dsimp -implicitDefEqProofs [wp_ok])) (by rw [sizeLine_eq]; omega)]
  ((try show Wp _ (hide _ ⟨⟩)) <;> simp -dsimp -implicitDefEqProofs <;> try with_reducible refine wp_fin ?_)
  have e1 := get_app_len (S1.set q (.ins 21 [(2, b.D), (40, p.D), (39, s'.D)])) (.lst ((s.sh.zip s'.sh).zipIdx.map fun p => D.tup [.int p.2, .int (p.1.2 - p.1.1)])) []
  have pure_ : ∀ (stp : D → Store → Res (Option D)) (S2 : Store), (∀ u v : Int, stp (.tup [.int u, .int v]) S2 = .ok (if decide (v = 0) then none else some (.tup [.int u, .int v])) S2) → ∀ d ∈ ((s.sh.zip s'.sh).zipIdx.map fun p => D.tup [.int p.2, .int (p.1.2 - p.1.1)]), ∃ o, stp d S2 = .ok o S2 := by
    intro stp S2 hs d hd
    obtain ⟨p, hp, rfl⟩ := List.mem_map.mp hd
    exact ⟨_, hs _ _⟩
  simp only [List.length_set] at e1
  rw [lcL_ls_map (n := min s.sh.length s'.sh.length) e1 (by simp) (pure_ _ _ fun u v => by
    by_cases z : v = 0 <;> ((try show Wp _ (hide _ ⟨⟩)) <;> simp -dsimp -implicitDefEqProofs [wp_ok, z]))]
  rw [mapF_filter (fun p : (Int × Int) × Nat => D.tup [.int p.2, .int (p.1.2 - p.1.1)]) (fun p => !decide (p.1.2 - p.1.1 = 0)) (fun p => D.tup [.int p.2, .int (p.1.2 - p.1.1)]) (s.sh.zip s'.sh).zipIdx (fun p hp => by
    by_cases z : p.1.2 - p.1.1 = 0 <;> ((try show Wp _ (hide _ ⟨⟩)) <;> simp -dsimp -implicitDefEqProofs [wp_ok, z])) (by rw [sizeLine_eq]; omega)]
  ((try show Wp _ (hide _ ⟨⟩)) <;> simp -dsimp -implicitDefEqProofs [opLF] <;> try with_reducible refine wp_fin ?_)
  refine ⟨?_, ?_, ?_⟩
  · rw [hy, diff_one y s.sh i 0 hi2]
    unfold chD
    by_cases z : y - gi s.sh i = 0 <;> simp [z]
  · exact ((k1.mono (by simp)).trans (Kp.set (by simp) _)).trans (Kp.app _)
  · exact get_app (get_set_self h1 _) _
end K76P
set_option Elab.async false
set_option linter.all false
set_option maxRecDepth 100000
set_option autoImplicit false
set_option maxHeartbeats 2000000
/-! P12: the four written publishers -/
namespace K76P
open PySem K76
def shM : PE := .shown .moved
def stM : PE := .steps .moved
def trM : PE := .truth .moved
def offE (p : PP) : PE := .op .sub (.op .mul (.shown p) (.steps p)) (.truth p)
def nudge (t : PT) (w : PW) : PS := .ite t [.show_ .moved (.op w shM (.num 1))]
def floorP : Pb := ⟨[], [], [.q (.show_ .moved (.op .div trM stM))]⟩
def lagP : Pb := ⟨[], [], [nudge (.less (.op .add (offE .moved) (.num 3)) (.num 0)) .add, nudge (.less (.num 3) (offE .moved)) .sub]⟩
def twE : PE := .op .mul (.num 2) .cell
def mendP : Pb := ⟨[("sum", 0)], [], [.q (.set (.num 0)), .each [.set (.op .add .cell (offE .it))], nudge (.less (.op .add twE stM) (.num 0)) .add, nudge (.less stM twE) .sub]⟩
def countP : Pb := ⟨[("n", 3)], [("seen", 0)], [.q (.put .moved (.op .add (.row .moved) (.num 1))), .ite (.eq (.op .mod (.row .moved) (.num 2)) (.num 0)) [.show_ .moved (.op .div (.op .add (.op .mul (.num 2) trM) stM) (.op .mul (.num 2) stM))]]⟩
theorem s_pub_floor (n : Nat) (S : Store) : callN tb fl (n + 4) k__law_pub_floor [] S = .ok floorP.D S := by kernel_rfl
theorem s_pub_lagging (n : Nat) (S : Store) : callN tb fl (n + 4) k__law_pub_lagging [.int 3] S = .ok lagP.D S := by kernel_rfl
theorem s_pub_mender (n : Nat) (S : Store) : callN tb fl (n + 4) k__law_pub_mender [.bl false] S = .ok mendP.D S := by kernel_rfl
theorem s_pub_counter (n : Nat) (S : Store) : callN tb fl (n + 4) k__law_pub_counter [.int 2] S = .ok countP.D S := by kernel_rfl
/-- a state after at most so many moves -/
structure SpOk (b : Bk) (inv : Nat → List Int → Option (List Int) → Prop) (t : Nat) (s : Sp) : Prop where
  l1 : s.tr.length = b.steps.length
  l2 : s.sh.length = b.steps.length
  b1 : ∀ x ∈ s.tr, x.natAbs ≤ t
  b2 : ∀ x ∈ s.sh, x.natAbs ≤ t
  iv : inv t s.ce s.ro
structure PbOk (b : Bk) (p : Pb) (inv : Nat → List Int → Option (List Int) → Prop) : Prop where
  cl : p.cells.length ≤ 10
  rl : p.rows.length ≤ 10
  run : ∀ t s i w, SpOk b inv t s → t ≤ 100 → i < b.steps.length → (w = 1 ∨ w = -1) → ssfine (p.cx b i w) p.body (x0 s i w) ∧ (goOn p b s i w).tr = s.tr.set i (gi s.tr i + w) ∧ (∃ y : Int, (goOn p b s i w).sh = s.sh.set i y ∧ y.natAbs ≤ t + 1) ∧ inv (t + 1) (goOn p b s i w).ce (goOn p b s i w).ro
theorem div_abs (u v : Int) (k : Nat) (h : u.natAbs ≤ k) : (u / v).natAbs ≤ k := Nat.le_trans (Int.natAbs_ediv_le_natAbs u v) h
theorem floor_ok (b : Bk) (hb : b.Ok) : PbOk b floorP fun _ ce ro => ce = [] ∧ ro = none := by
  refine ⟨by decide, by decide, fun t s i w h ht hi hw => ?_⟩
  have l1 := h.l1
  have l2 := h.l2
  have hm := hb.m4
  have a1 := gi_le h.b1 (show i < s.tr.length by omega)
  have a2 := gi_le h.b2 (show i < s.sh.length by omega)
  have a3 := hb.stp _ (gi_mem b.steps i hi)
  have gs1 := gi_set_self s.tr i (gi s.tr i + w) (by omega)
  generalize hT : gi s.tr i + w = T at *
  have hT2 : T.natAbs ≤ t + 1 := by omega
  have d := div_abs T (gi b.steps i) (t + 1) hT2
  refine ⟨?_, ?_, ⟨T / gi b.steps i, ?_, d⟩, ?_⟩
  · simp [ssfine, sfine, qfine, fine, val, wv, wOk, PQ.e, PE.dep, pv, Pb.cx, x0, floorP, trM, stM, gs1, hT, l1, l2, hi]
    omega
  · simp [goOn, Rx.sp, ssrun, srun, qrun, floorP, x0, hT]
  · simp [goOn, Rx.sp, ssrun, srun, qrun, floorP, x0, hT, val, wv, trM, stM, pv, Pb.cx, gs1]
  · simp [goOn, Rx.sp, ssrun, srun, qrun, floorP, x0, h.iv.1, h.iv.2]
theorem mul_abs (u v : Int) (k m : Nat) (h1 : u.natAbs ≤ k) (h2 : v.natAbs ≤ m) : (u * v).natAbs ≤ k * m := by
  rw [Int.natAbs_mul]
  exact Nat.mul_le_mul h1 h2
theorem lag_ok (b : Bk) (hb : b.Ok) : PbOk b lagP fun _ ce ro => ce = [] ∧ ro = none := by
  refine ⟨by decide, by decide, fun t s i w h ht hi hw => ?_⟩
  have l1 := h.l1
  have l2 := h.l2
  have hm := hb.m4
  have a1 := gi_le h.b1 (show i < s.tr.length by omega)
  have a2 := gi_le h.b2 (show i < s.sh.length by omega)
  have a3 := hb.stp _ (gi_mem b.steps i hi)
  have gs1 := gi_set_self s.tr i (gi s.tr i + w) (by omega)
  have gss : ∀ v, gi (s.sh.set i v) i = v := fun v => gi_set_self s.sh i v (by omega)
  generalize hT : gi s.tr i + w = T at *
  have hT2 : T.natAbs ≤ t + 1 := by omega
  have p1 := mul_abs (gi s.sh i) (gi b.steps i) 100 12 (by omega) (by omega)
  have p2 := mul_abs (gi s.sh i + 1) (gi b.steps i) 101 12 (by omega) (by omega)
  by_cases c1 : gi s.sh i * gi b.steps i - T + 3 < 0
  · by_cases c2 : 3 < (gi s.sh i + 1) * gi b.steps i - T
    · refine ⟨?_, ?_, ⟨gi s.sh i + 1 - 1, ?_, by omega⟩, ?_⟩
      · simp [ssfine, sfine, tfine, qsfine, qfine, fine, val, wv, wOk, PQ.e, PE.dep, PT.dep, pv, Pb.cx, x0, lagP, nudge, offE, shM, trM, stM, gs1, gss, hT, l1, l2, hi, srun, qsrun, qrun, tval, c1, c2]
        omega
      · simp [goOn, Rx.sp, ssrun, srun, qsrun, qrun, tval, lagP, nudge, offE, shM, trM, stM, val, wv, pv, Pb.cx, x0, hT, gs1, gss, c1, c2]
      · simp [goOn, Rx.sp, ssrun, srun, qsrun, qrun, tval, lagP, nudge, offE, shM, trM, stM, val, wv, pv, Pb.cx, x0, hT, gs1, gss, c1, c2]
      · simp [goOn, Rx.sp, ssrun, srun, qsrun, qrun, tval, lagP, nudge, offE, shM, trM, stM, val, wv, pv, Pb.cx, x0, hT, gs1, gss, c1, c2, h.iv.1, h.iv.2]
    · refine ⟨?_, ?_, ⟨gi s.sh i + 1, ?_, by omega⟩, ?_⟩
      · simp [ssfine, sfine, tfine, qsfine, qfine, fine, val, wv, wOk, PQ.e, PE.dep, PT.dep, pv, Pb.cx, x0, lagP, nudge, offE, shM, trM, stM, gs1, gss, hT, l1, l2, hi, srun, qsrun, qrun, tval, c1, c2]
        omega
      · simp [goOn, Rx.sp, ssrun, srun, qsrun, qrun, tval, lagP, nudge, offE, shM, trM, stM, val, wv, pv, Pb.cx, x0, hT, gs1, gss, c1, c2]
      · simp [goOn, Rx.sp, ssrun, srun, qsrun, qrun, tval, lagP, nudge, offE, shM, trM, stM, val, wv, pv, Pb.cx, x0, hT, gs1, gss, c1, c2]
      · simp [goOn, Rx.sp, ssrun, srun, qsrun, qrun, tval, lagP, nudge, offE, shM, trM, stM, val, wv, pv, Pb.cx, x0, hT, gs1, gss, c1, c2, h.iv.1, h.iv.2]
  · by_cases c2 : 3 < gi s.sh i * gi b.steps i - T
    · refine ⟨?_, ?_, ⟨gi s.sh i - 1, ?_, by omega⟩, ?_⟩
      · simp [ssfine, sfine, tfine, qsfine, qfine, fine, val, wv, wOk, PQ.e, PE.dep, PT.dep, pv, Pb.cx, x0, lagP, nudge, offE, shM, trM, stM, gs1, gss, hT, l1, l2, hi, srun, qsrun, qrun, tval, c1, c2]
        omega
      · simp [goOn, Rx.sp, ssrun, srun, qsrun, qrun, tval, lagP, nudge, offE, shM, trM, stM, val, wv, pv, Pb.cx, x0, hT, gs1, gss, c1, c2]
      · simp [goOn, Rx.sp, ssrun, srun, qsrun, qrun, tval, lagP, nudge, offE, shM, trM, stM, val, wv, pv, Pb.cx, x0, hT, gs1, gss, c1, c2]
      · simp [goOn, Rx.sp, ssrun, srun, qsrun, qrun, tval, lagP, nudge, offE, shM, trM, stM, val, wv, pv, Pb.cx, x0, hT, gs1, gss, c1, c2, h.iv.1, h.iv.2]
    · refine ⟨?_, ?_, ⟨gi s.sh i, ?_, by omega⟩, ?_⟩
      · simp [ssfine, sfine, tfine, qsfine, qfine, fine, val, wv, wOk, PQ.e, PE.dep, PT.dep, pv, Pb.cx, x0, lagP, nudge, offE, shM, trM, stM, gs1, gss, hT, l1, l2, hi, srun, qsrun, qrun, tval, c1, c2]
        omega
      · simp [goOn, Rx.sp, ssrun, srun, qsrun, qrun, tval, lagP, nudge, offE, shM, trM, stM, val, wv, pv, Pb.cx, x0, hT, gs1, gss, c1, c2]
      · simp [goOn, Rx.sp, ssrun, srun, qsrun, qrun, tval, lagP, nudge, offE, shM, trM, stM, val, wv, pv, Pb.cx, x0, hT, gs1, gss, c1, c2]
        rw [set_gi _ _ (by omega)]
      · simp [goOn, Rx.sp, ssrun, srun, qsrun, qrun, tval, lagP, nudge, offE, shM, trM, stM, val, wv, pv, Pb.cx, x0, hT, gs1, gss, c1, c2, h.iv.1, h.iv.2]
theorem count_ok (b : Bk) (hb : b.Ok) : PbOk b countP fun t ce ro => ce = [3] ∧ ∃ r, ro = some r ∧ r.length = b.steps.length ∧ ∀ x ∈ r, x.natAbs ≤ t := by
  refine ⟨by decide, by decide, fun t s i w h ht hi hw => ?_⟩
  have l1 := h.l1
  have l2 := h.l2
  have hm := hb.m4
  obtain ⟨hce, r, hro, lr, br⟩ := h.iv
  have a1 := gi_le h.b1 (show i < s.tr.length by omega)
  have a2 := gi_le h.b2 (show i < s.sh.length by omega)
  have a3 := hb.stp _ (gi_mem b.steps i hi)
  have a4 := gi_le br (show i < r.length by omega)
  have gs1 := gi_set_self s.tr i (gi s.tr i + w) (by omega)
  have gsr := gi_set_self r i (gi r i + 1) (by omega)
  generalize hT : gi s.tr i + w = T at *
  have hT2 : T.natAbs ≤ t + 1 := by omega
  have hs : ∀ u : Int, 1 ≤ u ∧ u ≤ 12 → ((2 * T + u) / (2 * u)).natAbs ≤ t + 1 := by
    intro u hu
    have hc : u = 1 ∨ u = 2 ∨ u = 3 ∨ u = 4 ∨ u = 5 ∨ u = 6 ∨ u = 7 ∨ u = 8 ∨ u = 9 ∨ u = 10 ∨ u = 11 ∨ u = 12 := by omega
    rcases hc with rfl | rfl | rfl | rfl | rfl | rfl | rfl | rfl | rfl | rfl | rfl | rfl <;> omega
  have y1 := hs _ a3
  have br2 : ∀ x ∈ r.set i (gi r i + 1), x.natAbs ≤ t + 1 := mem_set_le (fun y hy => Nat.le_succ_of_le (br y hy)) (by omega)
  by_cases c1 : (gi r i + 1) % 2 = 0
  · refine ⟨?_, ?_, ⟨(2 * T + gi b.steps i) / (2 * gi b.steps i), ?_, y1⟩, ?_⟩
    · simp [ssfine, sfine, tfine, qsfine, qfine, fine, val, wv, wOk, PQ.e, PE.dep, PT.dep, pv, Pb.cx, x0, countP, shM, trM, stM, gs1, gsr, hT, hro, l1, l2, lr, hi, srun, qsrun, qrun, tval, c1]
      omega
    · simp [goOn, Rx.sp, ssrun, srun, qsrun, qrun, tval, countP, shM, trM, stM, val, wv, pv, Pb.cx, x0, hT, hro, gs1, gsr, c1]
    · simp [goOn, Rx.sp, ssrun, srun, qsrun, qrun, tval, countP, shM, trM, stM, val, wv, pv, Pb.cx, x0, hT, hro, gs1, gsr, c1]
    · simp [goOn, Rx.sp, ssrun, srun, qsrun, qrun, tval, countP, shM, trM, stM, val, wv, pv, Pb.cx, x0, hT, hro, gs1, gsr, c1, hce, lr]
      exact br2
  · refine ⟨?_, ?_, ⟨gi s.sh i, ?_, by omega⟩, ?_⟩
    · simp [ssfine, sfine, tfine, qsfine, qfine, fine, val, wv, wOk, PQ.e, PE.dep, PT.dep, pv, Pb.cx, x0, countP, shM, trM, stM, gs1, gsr, hT, hro, l1, l2, lr, hi, srun, qsrun, qrun, tval, c1]
      omega
    · simp [goOn, Rx.sp, ssrun, srun, qsrun, qrun, tval, countP, shM, trM, stM, val, wv, pv, Pb.cx, x0, hT, hro, gs1, gsr, c1]
    · simp [goOn, Rx.sp, ssrun, srun, qsrun, qrun, tval, countP, shM, trM, stM, val, wv, pv, Pb.cx, x0, hT, hro, gs1, gsr, c1]
      rw [set_gi _ _ (by omega)]
    · simp [goOn, Rx.sp, ssrun, srun, qsrun, qrun, tval, countP, shM, trM, stM, val, wv, pv, Pb.cx, x0, hT, hro, gs1, gsr, c1, hce, lr]
      exact br2
end K76P
set_option Elab.async false
set_option linter.all false
set_option maxRecDepth 100000
set_option autoImplicit false
set_option maxHeartbeats 2000000
/-! P13: the mender; players of programs -/
namespace K76P
open PySem K76
def offI (st tr sh : List Int) (j : Nat) : Int := gi sh j * gi st j - gi tr j
def sumO (st tr sh : List Int) : Nat → Int
  | 0 => 0
  | k + 1 => sumO st tr sh k + offI st tr sh k
theorem sumO_le (st tr sh : List Int) (B : Nat) (h : ∀ j, j < st.length → (offI st tr sh j).natAbs ≤ B) : ∀ k, k ≤ st.length → (sumO st tr sh k).natAbs ≤ k * B
  | 0, _ => by simp [sumO]
  | k + 1, hk => by
    have h1 := sumO_le st tr sh B h k (by omega)
    have h2 := h k (by omega)
    rw [Nat.add_mul, Nat.one_mul]
    show (sumO st tr sh k + offI st tr sh k).natAbs ≤ _
    omega
def mendL : List PQ := [.set (.op .add .cell (offE .it))]
theorem mend_each (c : Rc) (tr sh : List Int) (v0 : Nat) : ∀ k, ∃ u, eachN c mendL k ⟨tr, sh, [0], none, v0⟩ = ⟨tr, sh, [sumO c.b.steps tr sh k], none, u⟩
  | 0 => ⟨v0, rfl⟩
  | k + 1 => by
    obtain ⟨u, e⟩ := mend_each c tr sh v0 k
    refine ⟨k, ?_⟩
    show qsrun c mendL ((eachN c mendL k ⟨tr, sh, [0], none, v0⟩).at_ k) = _
    rw [e]
    rfl
theorem mend_ok (b : Bk) (hb : b.Ok) : PbOk b mendP fun _ ce ro => ce.length = 1 ∧ ro = none := by
  refine ⟨by decide, by decide, fun t s i w h ht hi hw => ?_⟩
  have l1 := h.l1
  have l2 := h.l2
  have hm := hb.m4
  obtain ⟨tr, sh, ce, ro⟩ := s
  have l1 : tr.length = b.steps.length := l1
  have l2 : sh.length = b.steps.length := l2
  have hce : ce.length = 1 := h.iv.1
  have hro : ro = none := h.iv.2
  subst hro
  obtain ⟨z, rfl⟩ : ∃ z, ce = [z] := List.length_eq_one_iff.mp hce
  have b1 : ∀ x ∈ tr, x.natAbs ≤ t := h.b1
  have b2 : ∀ x ∈ sh, x.natAbs ≤ t := h.b2
  have a1 := gi_le b1 (show i < tr.length by omega)
  have a2 := gi_le b2 (show i < sh.length by omega)
  have a3 := hb.stp _ (gi_mem b.steps i hi)
  have gss : ∀ v, gi (sh.set i v) i = v := fun v => gi_set_self sh i v (by omega)
  have b3 : ∀ x ∈ tr.set i (gi tr i + w), x.natAbs ≤ t + 1 := mem_set_le (fun y hy => Nat.le_succ_of_le (b1 y hy)) (by omega)
  have l3 : (tr.set i (gi tr i + w)).length = b.steps.length := by simp [l1]
  generalize hT : tr.set i (gi tr i + w) = T at *
  have ho : ∀ j, j < b.steps.length → (offI b.steps T sh j).natAbs ≤ 1301 := by
    intro j hj
    have c1 := gi_le b3 (show j < T.length by omega)
    have c2 := gi_le b2 (show j < sh.length by omega)
    have c3 := hb.stp _ (gi_mem b.steps j hj)
    have c4 := mul_abs (gi sh j) (gi b.steps j) 100 12 (by omega) (by omega)
    unfold offI
    omega
  have hs := sumO_le b.steps T sh 1301 ho
  have hsm := hs b.steps.length (Nat.le_refl _)
  have eN := mend_each (mendP.cx b i w) T sh i
  obtain ⟨um, em⟩ := eN b.steps.length
  have em2 : eachN (mendP.cx b i w) mendL b.steps.length ⟨T, sh, [0], none, i⟩ = ⟨T, sh, [sumO b.steps T sh b.steps.length], none, um⟩ := em
  have hsm4 : (sumO b.steps T sh b.steps.length).natAbs ≤ 5204 := Nat.le_trans hsm (by omega)
  have fe : sfine (mendP.cx b i w) ⟨T, sh, [0], none, i⟩ (.each mendL) := by
    refine ⟨by decide, fun k hk => ?_⟩
    have hk : k < b.steps.length := hk
    obtain ⟨u, e⟩ := eN k
    rw [e]
    have c1 := gi_le b3 (show k < T.length by omega)
    have c2 := gi_le b2 (show k < sh.length by omega)
    have c3 := hb.stp _ (gi_mem b.steps k hk)
    have c4 := mul_abs (gi sh k) (gi b.steps k) 100 12 (by omega) (by omega)
    have c5 := hs k (by omega)
    have c6 : (sumO b.steps T sh k).natAbs ≤ 5204 := Nat.le_trans c5 (by omega)
    have g0 : gi [sumO b.steps T sh k] 0 = sumO b.steps T sh k := rfl
    have hcn : (mendP.cx b i w).cn = ([("sum" : Str)] : List Str) := rfl
    have hcb : (mendP.cx b i w).b = b := rfl
    simp [mendL, qsfine, qfine, fine, val, wv, wOk, PQ.e, PE.dep, pv, offE, Rx.at_, hcn, hcb, g0, l2, l3, hk]
    omega
  generalize hG : sumO b.steps T sh b.steps.length = G at em2 hsm4
  have hx : x0 ⟨tr, sh, [z], none⟩ i w = ⟨T, sh, [z], none, i⟩ := by rw [← hT]; rfl
  have r1 : srun (mendP.cx b i w) ⟨T, sh, [z], none, i⟩ (.q (.set (.num 0))) = ⟨T, sh, [0], none, i⟩ := rfl
  have r2 : srun (mendP.cx b i w) ⟨T, sh, [0], none, i⟩ (.each mendL) = ⟨T, sh, [G], none, um⟩ := em2
  have f1 : sfine (mendP.cx b i w) ⟨T, sh, [z], none, i⟩ (.q (.set (.num 0))) := ⟨⟨by show Bd 0; omega, rfl, rfl⟩, by decide⟩
  have hbody : mendP.body = [.q (.set (.num 0)), .each mendL, nudge (.less (.op .add twE stM) (.num 0)) .add, nudge (.less stM twE) .sub] := rfl
  have g0 : gi [G] 0 = G := rfl
  have hcn : (mendP.cx b i w).cn = ([("sum" : Str)] : List Str) := rfl
  have hcb : (mendP.cx b i w).b = b := rfl
  have hcp : (mendP.cx b i w).part = i := rfl
  unfold goOn
  rw [hx, hbody]
  simp only [ssfine, ssrun, r1, r2, true_and]
  by_cases c1 : 2 * G + gi b.steps i < 0
  · have c2 : ¬ gi b.steps i < 2 * G := by omega
    refine ⟨⟨f1, fe, ?_⟩, ?_, ⟨gi sh i + 1, ?_, by omega⟩, ?_⟩
    · simp [sfine, tfine, qsfine, qfine, fine, val, wv, wOk, PQ.e, PE.dep, PT.dep, pv, hcn, hcb, hcp, nudge, twE, shM, stM, gss, g0, l2, hi, srun, qsrun, qrun, tval, c1, c2]
      omega
    · simp [Rx.sp, srun, qsrun, qrun, tval, nudge, twE, shM, stM, val, wv, pv, hcb, hcp, gss, g0, c1, c2]
    · simp [Rx.sp, srun, qsrun, qrun, tval, nudge, twE, shM, stM, val, wv, pv, hcb, hcp, gss, g0, c1, c2]
    · simp [Rx.sp, srun, qsrun, qrun, tval, nudge, twE, shM, stM, val, wv, pv, hcb, hcp, gss, g0, c1, c2]
  · by_cases c2 : gi b.steps i < 2 * G
    · refine ⟨⟨f1, fe, ?_⟩, ?_, ⟨gi sh i - 1, ?_, by omega⟩, ?_⟩
      · simp [sfine, tfine, qsfine, qfine, fine, val, wv, wOk, PQ.e, PE.dep, PT.dep, pv, hcn, hcb, hcp, nudge, twE, shM, stM, gss, g0, l2, hi, srun, qsrun, qrun, tval, c1, c2]
        omega
      · simp [Rx.sp, srun, qsrun, qrun, tval, nudge, twE, shM, stM, val, wv, pv, hcb, hcp, gss, g0, c1, c2]
      · simp [Rx.sp, srun, qsrun, qrun, tval, nudge, twE, shM, stM, val, wv, pv, hcb, hcp, gss, g0, c1, c2]
      · simp [Rx.sp, srun, qsrun, qrun, tval, nudge, twE, shM, stM, val, wv, pv, hcb, hcp, gss, g0, c1, c2]
    · refine ⟨⟨f1, fe, ?_⟩, ?_, ⟨gi sh i, ?_, by omega⟩, ?_⟩
      · simp [sfine, tfine, qsfine, qfine, fine, val, wv, wOk, PQ.e, PE.dep, PT.dep, pv, hcn, hcb, hcp, nudge, twE, shM, stM, gss, g0, l2, hi, srun, qsrun, qrun, tval, c1, c2]
        omega
      · simp [Rx.sp, srun, qsrun, qrun, tval, nudge, twE, shM, stM, val, wv, pv, hcb, hcp, gss, g0, c1, c2]
      · simp [Rx.sp, srun, qsrun, qrun, tval, nudge, twE, shM, stM, val, wv, pv, hcb, hcp, gss, g0, c1, c2]
        rw [set_gi _ _ (by omega)]
      · simp [Rx.sp, srun, qsrun, qrun, tval, nudge, twE, shM, stM, val, wv, pv, hcb, hcp, gss, g0, c1, c2]
/-! ### players of programs -/
def prog_ (b : Bk) (hb : b.Ok) (p : Pb) (inv : Nat → List Int → Option (List Int) → Prop) (ok : PbOk b p inv) : Player b where
  T := Sp
  C := 21
  fs := pFs b p
  kc := k_Program_copy
  km := k_Program_moved
  hc := rfl
  hm := rfl
  lc := fun s => rfl
  lm := fun s => rfl
  tr := fun s => s.tr
  sh := fun s => s.sh
  nxt := goOn p b
  good := SpOk b inv
  ltr := fun t s h => h.l1
  lsh := fun t s h => h.l2
  btr := fun t s h => h.b1
  bsh := fun t s h => h.b2
  copy := fun n t s S q h e => s_Program_copy n S q b p s e
  step := fun t s i w h h100 hi hw => by
    obtain ⟨f, e1, ⟨y, e2, hy⟩, iv⟩ := ok.run t s i w h h100 hi hw
    have a := gi_le h.b1 (show i < s.tr.length by have := h.l1; omega)
    refine ⟨⟨by rw [e1]; simp [h.l1], by rw [e2]; simp [h.l2], ?_, ?_, iv⟩, e1, ?_⟩
    · rw [e1]
      exact mem_set_le (fun y hy => Nat.le_succ_of_le (h.b1 y hy)) (by omega)
    · rw [e2]
      exact mem_set_le (fun y hy => Nat.le_succ_of_le (h.b2 y hy)) hy
    · rw [e2, gi_set_self _ _ _ (by have := h.l2; omega)]
  moved := fun n t s S q i w h h100 hi hw e => by
    obtain ⟨f, e1, ⟨y, e2, hy⟩, iv⟩ := ok.run t s i w h h100 hi hw
    have l1 := h.l1
    have l2 := h.l2
    have hm := hb.m4
    refine (s_Program_moved (n + 2) p ok.cl ok.rl b hm s i w y (by omega) (by omega) (by omega) f e2 S q e).imp fun v S' r => ?_
    obtain ⟨rfl, r2, r3⟩ := r
    exact ⟨by rw [e2, gi_set_self _ _ _ (by omega)], r2, r3⟩
def sp0 (b : Bk) (p : Pb) : Sp := ⟨List.replicate b.steps.length 0, List.replicate b.steps.length 0, p.cells.map (·.2), match p.rows with
  | [] => none
  | (_, v) :: _ => some (List.replicate b.steps.length v)⟩
theorem prog_start (b : Bk) (hb : b.Ok) (p : Pb) (inv : Nat → List Int → Option (List Int) → Prop) (ok : PbOk b p inv) (iv : inv 0 (sp0 b p).ce (sp0 b p).ro) : (prog_ b hb p inv ok).Start (sp0 b p) :=
  ⟨⟨by simp [sp0], by simp [sp0], fun x hx => by rw [List.eq_of_mem_replicate hx]; simp, fun x hx => by rw [List.eq_of_mem_replicate hx]; simp, iv⟩, rfl, rfl⟩
end K76P
set_option Elab.async false
set_option linter.all false
set_option maxRecDepth 100000
set_option autoImplicit false
set_option maxHeartbeats 2000000
/-! P14: the publishers pass the program's own look -/
namespace K76P
open PySem K76
theorem s_is_worded (n : Nat) (w : Str) (l : List D) (k : Int) (S : Store) : callN tb fl (n + 1) k_is_worded [.tup (.str w :: l), .int k] S = .ok (.bl (decide ((l.length : Int) + 1 = k))) S := by
  rw [u_is_worded]
  by_cases z : (l.length : Int) + 1 = k <;> ((try show Wp _ (hide _ ⟨⟩)) <;> simp -dsimp -implicitDefEqProofs [wp_ok, b_is_worded, z])
theorem s_is_short (n : Nat) (l : List D) (k : Int) (S : Store) : callN tb fl (n + 1) k_is_short [.tup l, .int k] S = .ok (.bl (decide ((l.length : Int) ≤ k))) S := by
  rw [u_is_short]
  ((try show Wp _ (hide _ ⟨⟩)) <;> simp -dsimp -implicitDefEqProofs [wp_ok, b_is_short])
theorem s_is_one_of (n : Nat) (w : Str) (l : List Str) (S : Store) : callN tb fl (n + 1) k_is_one_of [.str w, .tup (l.map .str)] S = .ok (.bl (decide (w ∈ l))) S := by
  rw [u_is_one_of]
  ((try show Wp _ (hide _ ⟨⟩)) <;> simp -dsimp -implicitDefEqProofs [wp_ok, b_is_one_of, opIn_strs])
def pok (ie : Bool) : PP → Bool
  | .moved => true
  | .it => ie
def eok (cs rs : List Str) (ie : Bool) : PE → Bool
  | .num k => decide (0 ≤ k) && decide (k ≤ 1000000)
  | .cell => decide (("sum" : Str) ∈ cs)
  | .row p => decide (("seen" : Str) ∈ rs) && pok ie p
  | .truth p => pok ie p
  | .shown p => pok ie p
  | .steps p => pok ie p
  | .op _ a b => eok cs rs ie a && eok cs rs ie b
section
variable {S : Store} {i : Nat} {cs rs : List Str} {many : Int} {ie : Bool}
theorem v_part (n : Nat) (p : PP) (h : pok ie p = true) : callN tb fl (n + 2) k_is_part_publishers [.ref i, p.D, .bl ie] S = .ok (.bl true) S := by
  rw [u_is_part_publishers]
  cases p with
  | moved => ((try show Wp _ (hide _ ⟨⟩)) <;> simp -dsimp -implicitDefEqProofs [wp_ok, b_is_part_publishers, PP.D, s_is_worded])
  | it =>
    have h : ie = true := h
    ((try show Wp _ (hide _ ⟨⟩)) <;> simp -dsimp -implicitDefEqProofs [wp_ok, b_is_part_publishers, PP.D, s_is_worded, h])
abbrev scF (many : Int) (cs rs : List Str) : List (Nat × D) := [(7, .int many), (6, .tup (cs.map .str)), (5, .tup (rs.map .str))]
theorem of_words (w : Str) (S : Store) : opIn false (.str w) (.tup [.str "truth", .str "shown", .str "steps"]) S = .ok (.bl (decide (w ∈ ([("truth" : Str), "shown", "steps"] : List Str)))) S := by
  have := opIn_strs false w ["truth", "shown", "steps"] S
  simpa using this
theorem v_leaf (n : Nat) (e : PE) (hl : e.leaf = true) (h : eok cs rs ie e = true) (hS : S[i]? = some (.ins 15 (scF many cs rs))) : callN tb fl (n + 4) k_is_leaf [.ref i, e.D, .bl ie] S = .ok (.bl true) S := by
  rw [u_is_leaf]
  cases e with
  | op w a b => cases hl
  | num k =>
    simp only [eok, Bool.and_eq_true, decide_eq_true_eq] at h
    ((try show Wp _ (hide _ ⟨⟩)) <;> simp -dsimp -implicitDefEqProofs [wp_ok, b_is_leaf, PE.D, s_is_worded, s_is_between, h.1, h.2])
  | cell =>
    simp only [eok, decide_eq_true_eq] at h
    ((try show Wp _ (hide _ ⟨⟩)) <;> simp -dsimp -implicitDefEqProofs [wp_ok, b_is_leaf, PE.D, s_is_worded, hS, s_is_one_of, h])
  | row p =>
    simp only [eok, Bool.and_eq_true, decide_eq_true_eq] at h
    ((try show Wp _ (hide _ ⟨⟩)) <;> simp -dsimp -implicitDefEqProofs [wp_ok, b_is_leaf, PE.D, s_is_worded, hS, s_is_one_of, h.1, v_part (n + 1) p h.2])
  | truth p => ((try show Wp _ (hide _ ⟨⟩)) <;> simp -dsimp -implicitDefEqProofs [wp_ok, b_is_leaf, PE.D, s_is_worded, of_words, v_part (n + 1) p h])
  | shown p => ((try show Wp _ (hide _ ⟨⟩)) <;> simp -dsimp -implicitDefEqProofs [wp_ok, b_is_leaf, PE.D, s_is_worded, of_words, v_part (n + 1) p h])
  | steps p => ((try show Wp _ (hide _ ⟨⟩)) <;> simp -dsimp -implicitDefEqProofs [wp_ok, b_is_leaf, PE.D, s_is_worded, of_words, v_part (n + 1) p h])
theorem v_op (n : Nat) (w : PW) (a b : D) : callN tb fl (n + 2) k_is_leaf [.ref i, .tup [.str w.s, a, b], .bl ie] S = .ok (.bl false) S := by
  rw [u_is_leaf]
  cases w <;> ((try show Wp _ (hide _ ⟨⟩)) <;> simp -dsimp -implicitDefEqProofs [wp_ok, b_is_leaf, PW.s, s_is_worded])
theorem v_number (hS : S[i]? = some (.ins 15 (scF many cs rs))) : ∀ (e : PE) (n : Nat) (left : Int), (e.dep : Int) < left → e.dep + 5 ≤ n → eok cs rs ie e = true → callN tb fl n k_is_number [.ref i, e.D, .bl ie, .int left] S = .ok (.bl true) S := by
  intro e
  have leaf : ∀ (e : PE), e.leaf = true → ∀ (n : Nat) (left : Int), (e.dep : Int) < left → e.dep + 5 ≤ n → eok cs rs ie e = true → callN tb fl n k_is_number [.ref i, e.D, .bl ie, .int left] S = .ok (.bl true) S := by
    intro e hl n left h1 h2 h3
    obtain ⟨m, rfl⟩ : ∃ m, n = m + 5 := ⟨n - 5, by omega⟩
    rw [u_is_number]
    ((try show Wp _ (hide _ ⟨⟩)) <;> simp -dsimp -implicitDefEqProofs [wp_ok, b_is_number, show ¬ left = 0 by omega, v_leaf m e hl h3 hS])
  induction e with
  | op w a b iha ihb =>
    intro n left h1 h2 h3
    obtain ⟨m, rfl⟩ : ∃ m, n = m + 5 := ⟨n - 5, by omega⟩
    have d : (PE.op w a b).dep = max a.dep b.dep + 1 := rfl
    have d1 : (a.dep : Int) < left - 1 := by omega
    have d2 : (b.dep : Int) < left - 1 := by omega
    rw [d] at h2
    simp only [eok, Bool.and_eq_true] at h3
    have q : ∀ S, opIn true (.str w.s) (.tup [.str "add", .str "sub", .str "mul", .str "div", .str "mod"]) S = .ok (.bl false) S := fun S => by
      rw [sum_words]
      cases w <;> simp [PW.s]
    rw [u_is_number]
    ((try show Wp _ (hide _ ⟨⟩)) <;> simp -dsimp -implicitDefEqProofs [wp_ok, b_is_number, PE.D, show ¬ left = 0 by omega, v_op (m + 2) w, s_is_worded, q, iha (m + 4) (left - 1) d1 (by omega) h3.1, ihb (m + 4) (left - 1) d2 (by omega) h3.2])
  | num k => exact leaf _ rfl
  | cell => exact leaf _ rfl
  | row p => exact leaf _ rfl
  | truth p => exact leaf _ rfl
  | shown p => exact leaf _ rfl
  | steps p => exact leaf _ rfl
def tok (cs rs : List Str) (ie : Bool) : PT → Bool
  | .less a b => eok cs rs ie a && eok cs rs ie b
  | .eq a b => eok cs rs ie a && eok cs rs ie b
theorem v_test (hS : S[i]? = some (.ins 15 (scF many cs rs))) (t : PT) (n : Nat) (hd : t.dep ≤ 5) (h : tok cs rs ie t = true) : callN tb fl (n + 12) k_is_test [.ref i, t.D, .bl ie, .int 6] S = .ok (.bl true) S := by
  have q : callN tb fl (n + 11) k_is_test_leaf [.ref i, t.D, .bl ie] S = .ok (.bl true) S := by
    rw [u_is_test_leaf]
    cases t with
    | less a b =>
      have hd : max a.dep b.dep ≤ 5 := hd
      simp only [tok, Bool.and_eq_true] at h
      ((try show Wp _ (hide _ ⟨⟩)) <;> simp -dsimp -implicitDefEqProofs [wp_ok, b_is_test_leaf, PT.D, s_is_worded, test_words, v_number hS a (n + 10) 6 (by omega) (by omega) h.1, v_number hS b (n + 10) 6 (by omega) (by omega) h.2])
    | eq a b =>
      have hd : max a.dep b.dep ≤ 5 := hd
      simp only [tok, Bool.and_eq_true] at h
      ((try show Wp _ (hide _ ⟨⟩)) <;> simp -dsimp -implicitDefEqProofs [wp_ok, b_is_test_leaf, PT.D, s_is_worded, test_words, v_number hS a (n + 10) 6 (by omega) (by omega) h.1, v_number hS b (n + 10) 6 (by omega) (by omega) h.2])
  rw [u_is_test]
  ((try show Wp _ (hide _ ⟨⟩)) <;> simp -dsimp -implicitDefEqProofs [wp_ok, b_is_test, q])
def qok (cs rs : List Str) (ie : Bool) : PQ → Bool
  | .set e => eok cs rs ie e && decide (("sum" : Str) ∈ cs)
  | .put p e => eok cs rs ie e && (decide (("seen" : Str) ∈ rs) && pok ie p)
  | .show_ p e => eok cs rs ie e && pok ie p
theorem v_plain (hS : S[i]? = some (.ins 15 (scF many cs rs))) (q : PQ) (n : Nat) (hd : q.e.dep ≤ 5) (h : qok cs rs ie q = true) : callN tb fl (n + 12) k_is_plain [.ref i, q.D, .bl ie] S = .ok (.bl true) S := by
  rw [u_is_plain]
  cases q with
  | set e =>
    have hd : e.dep ≤ 5 := hd
    simp only [qok, Bool.and_eq_true, decide_eq_true_eq] at h
    ((try show Wp _ (hide _ ⟨⟩)) <;> simp -dsimp -implicitDefEqProofs [wp_ok, b_is_plain, PQ.D, s_is_worded, hS, s_is_one_of, h.2, v_number hS e (n + 11) 6 (by omega) (by omega) h.1])
  | put p e =>
    have hd : e.dep ≤ 5 := hd
    simp only [qok, Bool.and_eq_true, decide_eq_true_eq] at h
    ((try show Wp _ (hide _ ⟨⟩)) <;> simp -dsimp -implicitDefEqProofs [wp_ok, b_is_plain, PQ.D, s_is_worded, hS, s_is_one_of, h.2.1, v_part (n + 9) p h.2.2, v_number hS e (n + 11) 6 (by omega) (by omega) h.1])
  | show_ p e =>
    have hd : e.dep ≤ 5 := hd
    simp only [qok, Bool.and_eq_true] at h
    ((try show Wp _ (hide _ ⟨⟩)) <;> simp -dsimp -implicitDefEqProofs [wp_ok, b_is_plain, PQ.D, s_is_worded, hS, v_part (n + 9) p h.2, v_number hS e (n + 11) 6 (by omega) (by omega) h.1])
theorem v_choice_q (q : PQ) (n : Nat) : callN tb fl (n + 2) k_is_choice [.ref i, q.D, .bl ie] S = .ok (.bl false) S := by
  rw [u_is_choice]
  cases q <;> ((try show Wp _ (hide _ ⟨⟩)) <;> simp -dsimp -implicitDefEqProofs [wp_ok, b_is_choice, PQ.D, s_is_worded])
theorem v_each_q (q : PQ) (n : Nat) : callN tb fl (n + 2) k_is_each_form [q.D] S = .ok (.bl false) S := by
  rw [u_is_each_form]
  cases q <;> ((try show Wp _ (hide _ ⟨⟩)) <;> simp -dsimp -implicitDefEqProofs [wp_ok, b_is_each_form, PQ.D, s_is_worded])
theorem v_choice (hS : S[i]? = some (.ins 15 (scF many cs rs))) (t : PT) (l : List PQ) (n : Nat) (hd : t.dep ≤ 5) (hl : l.length ≤ 10) (h : tok cs rs ie t = true) : callN tb fl (n + 13) k_is_choice [.ref i, (PS.ite t l).D, .bl ie] S = .ok (.bl true) S := by
  rw [u_is_choice]
  ((try show Wp _ (hide _ ⟨⟩)) <;> simp -dsimp -implicitDefEqProofs [wp_ok, b_is_choice, PS.D, s_is_worded, v_test hS t n hd h, s_is_short, show (l.length : Int) ≤ 30 by omega])
theorem v_choice_each (l : List PQ) (n : Nat) : callN tb fl (n + 2) k_is_choice [.ref i, (PS.each l).D, .bl ie] S = .ok (.bl false) S := by
  rw [u_is_choice]
  ((try show Wp _ (hide _ ⟨⟩)) <;> simp -dsimp -implicitDefEqProofs [wp_ok, b_is_choice, PS.D, s_is_worded])
theorem v_each (l : List PQ) (n : Nat) (hl : l.length ≤ 10) : callN tb fl (n + 2) k_is_each_form [(PS.each l).D] S = .ok (.bl true) S := by
  rw [u_is_each_form]
  ((try show Wp _ (hide _ ⟨⟩)) <;> simp -dsimp -implicitDefEqProofs [wp_ok, b_is_each_form, PS.D, s_is_worded, s_is_short, show (l.length : Int) ≤ 30 by omega])
abbrev RD (S : Store) (many : Int) (cs rs : List Str) (k : Int) : Store := S ++ [.ins 15 (scF many cs rs), .ins 16 [(9, .ref S.length), (8, .int k)]]
theorem rd_sc (k : Int) : (RD S many cs rs k)[S.length]? = some (.ins 15 (scF many cs rs)) := get_app_len _ _ _
theorem rd_rd (k : Int) : (RD S many cs rs k)[S.length + 1]? = some (.ins 16 [(9, .ref S.length), (8, .int k)]) := get_app_add _ _ 1
theorem v_statement_q (n : Nat) (q : PQ) (pl : D) (deep : Int) (k : Int) (hd : q.e.dep ≤ 5) (h : qok cs rs ie q = true) : callN tb fl (n + 13) k_Reading_statement [.ref (S.length + 1), q.D, pl, .int deep, .bl ie] (RD S many cs rs k) = .ok .non (RD S many cs rs k) := by
  rw [u_Reading_statement]
  ((try show Wp _ (hide _ ⟨⟩)) <;> simp -dsimp -implicitDefEqProofs [wp_ok, b_Reading_statement, v_choice_q, v_each_q, v_plain (rd_sc (S := S) (many := many) (cs := cs) (rs := rs) k) q n hd h])
theorem rd_set (j : Int) (k : Int) : (RD S many cs rs j).set (S.length + 1) (.ins 16 [(9, .ref S.length), (8, .int k)]) = RD S many cs rs k := set_app_add _ _ 1 _
theorem v_body_q (n : Nat) (l : List PQ) (pl : List D) (deep : Int) (k : Nat) (hl : l.length ≤ 10) (hk : k ≤ 50) (hp : pl.length ≤ 50) (h : ∀ q ∈ l, q.e.dep ≤ 5 ∧ qok cs rs ie q = true) : callN tb fl (n + 14) k_Reading_body [.ref (S.length + 1), .tup (l.map PQ.D), .tup pl, .int deep, .bl ie] (RD S many cs rs k) = .ok .non (RD S many cs rs (k + l.length : Nat)) := by
  have w : Wp (callN tb fl (n + 14) k_Reading_body [.ref (S.length + 1), .tup (l.map PQ.D), .tup pl, .int deep, .bl ie] (RD S many cs rs k)) fun v S' => v = .non ∧ S' = RD S many cs rs (k + l.length : Nat) := by
    rw [u_Reading_body]
    ((try show Wp _ (hide _ ⟨⟩)) <;> simp -dsimp -implicitDefEqProofs [b_Reading_body] <;> try with_reducible refine wp_fin ?_)
    rw [enumL_of]
    refine Wp.fold (fun p : PQ × Nat => D.tup [.int (p.2 : Int), p.1.D]) (fun j ρ S' => (∃ u v, ρ = [some (.ref (S.length + 1)), some (.tup (l.map PQ.D)), some (.tup pl), some (.int deep), some (.bl ie), u, v]) ∧ S' = RD S many cs rs (k + j : Nat)) l.zipIdx ?_ ⟨⟨_, _, rfl⟩, rfl⟩ ?_
    · intro j p hj ρ S1 hi
      obtain ⟨⟨u, v, rfl⟩, rfl⟩ := hi
      have hm := List.mem_of_getElem? (List.mem_zipIdx_iff_getElem?.mp (List.mem_of_getElem? hj))
      have jlt := get_lt hj
      rw [List.length_zipIdx] at jlt
      obtain ⟨h1, h2⟩ := h _ hm
      have ec : ((k + j : Nat) : Int) + 1 = ((k + (j + 1) : Nat) : Int) := by omega
      have nz : ¬ ((k + j : Nat) : Int) = 100 := by omega
      generalize ((k + j : Nat) : Int) = z at *
      ((try show Wp _ (hide _ ⟨⟩)) <;> simp -dsimp -implicitDefEqProofs [rd_rd, nz, clsAt, rd_set, ec] <;> try with_reducible refine wp_fin ?_)
      rw [o_addt _ _ _ (by rw [sizeLine_eq]; simp; omega)]
      ((try show Wp _ (hide _ ⟨⟩)) <;> simp -dsimp -implicitDefEqProofs [v_statement_q n p.1 _ deep _ h1 h2] <;> try with_reducible refine wp_fin ?_)
      exact ⟨rfl, ⟨_, _, rfl⟩, rfl⟩
    · intro ρ S1 hi
      obtain ⟨⟨u, v, rfl⟩, rfl⟩ := hi
      rw [List.length_zipIdx]
      ((try show Wp _ (hide _ ⟨⟩)) <;> simp -dsimp -implicitDefEqProofs <;> try with_reducible refine wp_fin ?_)
      exact ⟨rfl, rfl⟩
  obtain ⟨v, S', e, rfl, rfl⟩ := w
  exact e
def sok (cs rs : List Str) : PS → Prop
  | .q q => q.e.dep ≤ 5 ∧ qok cs rs false q = true
  | .ite t l => t.dep ≤ 5 ∧ l.length ≤ 10 ∧ tok cs rs false t = true ∧ ∀ q ∈ l, q.e.dep ≤ 5 ∧ qok cs rs false q = true
  | .each l => l.length ≤ 10 ∧ ∀ q ∈ l, q.e.dep ≤ 5 ∧ qok cs rs true q = true
theorem v_statement (n : Nat) (s : PS) (pl : List D) (k : Nat) (hk : k ≤ 40) (hp : pl.length ≤ 40) (h : sok cs rs s) : ∃ k', k' ≤ k + 10 ∧ callN tb fl (n + 15) k_Reading_statement [.ref (S.length + 1), s.D, .tup pl, .int 1, .bl false] (RD S many cs rs k) = .ok .non (RD S many cs rs (k' : Nat)) := by
  cases s with
  | q q => exact ⟨k, by omega, v_statement_q (n + 2) q _ 1 k h.1 h.2⟩
  | ite t l =>
    obtain ⟨h1, h2, h3, h4⟩ := h
    refine ⟨k + l.length, by omega, ?_⟩
    have c1 := v_choice (i := S.length) (rd_sc (S := S) (many := many) (cs := cs) (rs := rs) k) t l (n + 1) h1 h2 h3
    have b1 := v_body_q (S := S) (many := many) (cs := cs) (rs := rs) (ie := false) n l (pl ++ [.int 0]) 2 k h2 (by omega) (by simp; omega) h4
    have b2 := v_body_q (S := S) (many := many) (cs := cs) (rs := rs) (ie := false) n [] (pl ++ [.int 1]) 2 (k + l.length) (by simp) (by omega) (by simp; omega) (by simp)
    simp only [List.map_nil, List.length_nil, Nat.add_zero] at b2
    rw [u_Reading_statement]
    generalize ((k + l.length : Nat) : Int) = z at *
    generalize (k : Int) = y at *
    simp only [PS.D] at c1
    ((try show Wp _ (hide _ ⟨⟩)) <;> simp -dsimp -implicitDefEqProofs [wp_ok, b_Reading_statement, PS.D, rd_rd, c1])
    rw [o_addt _ _ _ (by rw [sizeLine_eq]; simp; omega)]
    ((try show Wp _ (hide _ ⟨⟩)) <;> simp -dsimp -implicitDefEqProofs [wp_ok, b1, rd_rd])
    rw [o_addt _ _ _ (by rw [sizeLine_eq]; simp; omega)]
    ((try show Wp _ (hide _ ⟨⟩)) <;> simp -dsimp -implicitDefEqProofs [wp_ok, b2])
  | each l =>
    obtain ⟨h2, h4⟩ := h
    refine ⟨k + l.length, by omega, ?_⟩
    have c1 := v_choice_each (S := RD S many cs rs k) (i := S.length) (ie := false) l (n + 12)
    have c2 := v_each (S := RD S many cs rs k) l (n + 12) h2
    have b1 := v_body_q (S := S) (many := many) (cs := cs) (rs := rs) (ie := true) n l (pl ++ [.int 0]) 2 k h2 (by omega) (by simp; omega) h4
    rw [u_Reading_statement]
    generalize ((k + l.length : Nat) : Int) = z at *
    generalize (k : Int) = y at *
    simp only [PS.D] at c1 c2
    ((try show Wp _ (hide _ ⟨⟩)) <;> simp -dsimp -implicitDefEqProofs [wp_ok, b_Reading_statement, PS.D, rd_rd, c1, c2])
    rw [o_addt _ _ _ (by rw [sizeLine_eq]; simp; omega)]
    ((try show Wp _ (hide _ ⟨⟩)) <;> simp -dsimp -implicitDefEqProofs [wp_ok, b1])
theorem v_body (n : Nat) (l : List PS) (hl : l.length ≤ 4) (h : ∀ s ∈ l, sok cs rs s) : Wp (callN tb fl (n + 16) k_Reading_body [.ref (S.length + 1), .tup (l.map PS.D), .tup [], .int 1, .bl false] (RD S many cs rs 0)) fun v S' => v = .non ∧ Kp [] S S' := by
  rw [u_Reading_body]
  ((try show Wp _ (hide _ ⟨⟩)) <;> simp -dsimp -implicitDefEqProofs [b_Reading_body] <;> try with_reducible refine wp_fin ?_)
  rw [enumL_of]
  refine Wp.fold (fun p : PS × Nat => D.tup [.int (p.2 : Int), p.1.D]) (fun j ρ S' => (∃ u v, ρ = [some (.ref (S.length + 1)), some (.tup (l.map PS.D)), some (.tup []), some (.int 1), some (.bl false), u, v]) ∧ ∃ k : Nat, k ≤ 11 * j ∧ S' = RD S many cs rs k) l.zipIdx ?_ ⟨⟨_, _, rfl⟩, 0, by omega, rfl⟩ ?_
  · intro j p hj ρ S1 hi
    obtain ⟨⟨u, v, rfl⟩, k, hk, rfl⟩ := hi
    have hm := List.mem_of_getElem? (List.mem_zipIdx_iff_getElem?.mp (List.mem_of_getElem? hj))
    have jlt := get_lt hj
    rw [List.length_zipIdx] at jlt
    obtain ⟨k', hk', e1⟩ := v_statement (S := S) (many := many) n p.1 [.int p.2] (k + 1) (by omega) (by simp) (h _ hm)
    have ec : (k : Int) + 1 = ((k + 1 : Nat) : Int) := by omega
    have nz : ¬ (k : Int) = 100 := by omega
    generalize ((k + 1 : Nat) : Int) = z at *
    generalize (k : Int) = y at *
    ((try show Wp _ (hide _ ⟨⟩)) <;> simp -dsimp -implicitDefEqProofs [rd_rd, nz, clsAt, rd_set, ec] <;> try with_reducible refine wp_fin ?_)
    rw [o_addt _ _ _ (by rw [sizeLine_eq]; simp)]
    ((try show Wp _ (hide _ ⟨⟩)) <;> simp -dsimp -implicitDefEqProofs [e1] <;> try with_reducible refine wp_fin ?_)
    exact ⟨rfl, ⟨_, _, rfl⟩, k', by omega, rfl⟩
  · intro ρ S1 hi
    obtain ⟨⟨u, v, rfl⟩, k, hk, rfl⟩ := hi
    ((try show Wp _ (hide _ ⟨⟩)) <;> simp -dsimp -implicitDefEqProofs <;> try with_reducible refine wp_fin ?_)
    exact ⟨rfl, Kp.app _⟩
end
/-! ### the whole look -/
def nms (m : Nat) : List Str := ([("ann" : Str), "bob", "cid", "dot"] : List Str).take m
structure PubOk (p : Pb) : Prop where
  rl : p.rows.length ≤ 1
  len : p.body.length ≤ 4
  body : ∀ s ∈ p.body, sok (p.cells.map (·.1)) (p.rows.map (·.1)) s
  keptc : ∀ (n : Nat) (S : Store) (m : Nat), 1 ≤ m → m ≤ 4 → callN tb fl (n + 8) k_kept_names [.tup (p.cells.map nmD), .int 0, .int 8, .tup ((nms m).map .str)] S = .ok (.tup ((p.cells.map (·.1)).map .str)) S
  keptr : ∀ (n : Nat) (S : Store) (m : Nat), 1 ≤ m → m ≤ 4 → callN tb fl (n + 8) k_kept_names [.tup (p.rows.map nmD), .int 1, .int 4, .tup ((nms m).map .str ++ (p.cells.map (·.1)).map .str)] S = .ok (.tup ((p.rows.map (·.1)).map .str)) S
theorem m_cases {m : Nat} (h1 : 1 ≤ m) (h4 : m ≤ 4) : m = 1 ∨ m = 2 ∨ m = 3 ∨ m = 4 := by omega
theorem floor_pub : PubOk floorP := by
  refine ⟨by decide, by decide, fun s hs => ?_, fun n S m h1 h4 => ?_, fun n S m h1 h4 => ?_⟩
  · have hs : s ∈ [PS.q (.show_ .moved (.op .div trM stM))] := hs
    rw [List.mem_singleton.mp hs]
    exact ⟨by decide, by decide +kernel⟩
  · rcases m_cases h1 h4 with rfl | rfl | rfl | rfl <;> kernel_rfl
  · rcases m_cases h1 h4 with rfl | rfl | rfl | rfl <;> kernel_rfl
end K76P
set_option Elab.async false
set_option linter.all false
set_option maxRecDepth 100000
set_option autoImplicit false
set_option maxHeartbeats 2000000
/-! P15: programs made; the law's players -/
namespace K76P
open PySem K76
theorem lag_pub : PubOk lagP := by
  refine ⟨by decide, by decide, fun s hs => ?_, fun n S m h1 h4 => ?_, fun n S m h1 h4 => ?_⟩
  · have hs : s ∈ [nudge (.less (.op .add (offE .moved) (.num 3)) (.num 0)) .add, nudge (.less (.num 3) (offE .moved)) .sub] := hs
    simp only [List.mem_cons, List.not_mem_nil, or_false] at hs
    rcases hs with rfl | rfl
    · exact ⟨by decide, by decide, by decide +kernel, fun q hq => by rw [List.mem_singleton.mp hq]; exact ⟨by decide, by decide +kernel⟩⟩
    · exact ⟨by decide, by decide, by decide +kernel, fun q hq => by rw [List.mem_singleton.mp hq]; exact ⟨by decide, by decide +kernel⟩⟩
  · rcases m_cases h1 h4 with rfl | rfl | rfl | rfl <;> kernel_rfl
  · rcases m_cases h1 h4 with rfl | rfl | rfl | rfl <;> kernel_rfl
theorem mend_pub : PubOk mendP := by
  refine ⟨by decide, by decide, fun s hs => ?_, fun n S m h1 h4 => ?_, fun n S m h1 h4 => ?_⟩
  · have hs : s ∈ [PS.q (.set (.num 0)), .each mendL, nudge (.less (.op .add twE stM) (.num 0)) .add, nudge (.less stM twE) .sub] := hs
    simp only [List.mem_cons, List.not_mem_nil, or_false] at hs
    rcases hs with rfl | rfl | rfl | rfl
    · exact ⟨by decide, by decide +kernel⟩
    · exact ⟨by decide, fun q hq => by rw [List.mem_singleton.mp hq]; exact ⟨by decide, by decide +kernel⟩⟩
    · exact ⟨by decide, by decide, by decide +kernel, fun q hq => by rw [List.mem_singleton.mp hq]; exact ⟨by decide, by decide +kernel⟩⟩
    · exact ⟨by decide, by decide, by decide +kernel, fun q hq => by rw [List.mem_singleton.mp hq]; exact ⟨by decide, by decide +kernel⟩⟩
  · rcases m_cases h1 h4 with rfl | rfl | rfl | rfl <;> kernel_rfl
  · rcases m_cases h1 h4 with rfl | rfl | rfl | rfl <;> kernel_rfl
theorem count_pub : PubOk countP := by
  refine ⟨by decide, by decide, fun s hs => ?_, fun n S m h1 h4 => ?_, fun n S m h1 h4 => ?_⟩
  · have hs : s ∈ [PS.q (.put .moved (.op .add (.row .moved) (.num 1))), .ite (.eq (.op .mod (.row .moved) (.num 2)) (.num 0)) [.show_ .moved (.op .div (.op .add (.op .mul (.num 2) trM) stM) (.op .mul (.num 2) stM))]] := hs
    simp only [List.mem_cons, List.not_mem_nil, or_false] at hs
    rcases hs with rfl | rfl
    · exact ⟨by decide, by decide +kernel⟩
    · exact ⟨by decide, by decide, by decide +kernel, fun q hq => by rw [List.mem_singleton.mp hq]; exact ⟨by decide, by decide +kernel⟩⟩
  · rcases m_cases h1 h4 with rfl | rfl | rfl | rfl <;> kernel_rfl
  · rcases m_cases h1 h4 with rfl | rfl | rfl | rfl <;> kernel_rfl
theorem s_Scope_init (n : Nat) (S : Store) (x y z : D) : callN tb fl (n + 1) k_Scope_init [.ref S.length, x, y, z] (S ++ [.ins 15 []]) = .ok .non (S ++ [.ins 15 [(7, x), (6, y), (5, z)]]) := by
  rw [u_Scope_init]
  ((try show Wp _ (hide _ ⟨⟩)) <;> simp -dsimp -implicitDefEqProofs [wp_ok, b_Scope_init])
theorem s_Reading_init (n : Nat) (S : Store) (x : D) : callN tb fl (n + 1) k_Reading_init [.ref S.length, x] (S ++ [.ins 16 []]) = .ok .non (S ++ [.ins 16 [(9, x), (8, .int 0)]]) := by
  rw [u_Reading_init]
  ((try show Wp _ (hide _ ⟨⟩)) <;> simp -dsimp -implicitDefEqProofs [wp_ok, b_Reading_init])
theorem nms_len {m : Nat} (h4 : m ≤ 4) : (nms m).length = m := by
  simp [nms]
  omega
theorem s_want_publisher (n : Nat) (p : Pb) (ok : PubOk p) (hc : p.cells.length ≤ 10) (m : Nat) (h1 : 1 ≤ m) (h4 : m ≤ 4) (S : Store) : Wp (callN tb fl (n + 17) k_want_publisher [.tup ((nms m).map .str), p.D] S) fun v S' => v = .non ∧ Kp [] S S' := by
  rw [u_want_publisher]
  have ln := nms_len h4
  have lr := ok.rl
  have lb := ok.len
  have i1 := fun cs rs : D => s_Scope_init (n + 15) S (.int m) cs rs
  have i2 := fun cs rs : D => s_Reading_init (n + 15) (S ++ [.ins 15 [(7, .int m), (6, cs), (5, rs)]]) (.ref S.length)
  simp only [List.length_append, List.length_cons, List.length_nil, List.append_assoc, List.cons_append, List.nil_append, Nat.zero_add] at i2
  have bd := v_body (S := S) (many := m) n p.body lb ok.body
  have kc := ok.keptc (n + 8) S m h1 h4
  have kr := ok.keptr (n + 8) S m h1 h4
  have lcs : (p.cells.map (·.1)).length ≤ 10 := by simpa using hc
  generalize p.cells.map (·.1) = cs at *
  generalize p.rows.map (·.1) = rs at *
  ((try show Wp _ (hide _ ⟨⟩)) <;> simp -dsimp -implicitDefEqProofs [b_want_publisher, kc] <;> try with_reducible refine wp_fin ?_)
  rw [o_addt _ _ _ (by rw [sizeLine_eq]; simp only [List.length_map]; omega)]
  ((try show Wp _ (hide _ ⟨⟩)) <;> simp -dsimp -implicitDefEqProofs [kr, s_is_short, show (p.body.length : Int) ≤ 30 by omega, ln, i1, i2] <;> try with_reducible refine wp_fin ?_)
  refine bd.bind fun v S1 h => ?_
  obtain ⟨rfl, k1⟩ := h
  ((try show Wp _ (hide _ ⟨⟩)) <;> simp -dsimp -implicitDefEqProofs <;> try with_reducible refine wp_fin ?_)
  exact ⟨rfl, k1⟩
theorem nms_ok (m : Nat) (h4 : m ≤ 4) : NamesOk (nms m) m := by
  refine ⟨nms_len h4, ?_, ?_⟩
  · have : ([("ann" : Str), "bob", "cid", "dot"] : List Str).Nodup := by decide +kernel
    exact this.sublist (List.take_sublist m _)
  · intro x hx
    have := List.mem_of_mem_take hx
    simp only [List.mem_cons, List.not_mem_nil, or_false] at this
    rcases this with rfl | rfl | rfl | rfl <;> decide +kernel
theorem s_made_publisher (n : Nat) (p : Pb) (ok : PubOk p) (hc : p.cells.length ≤ 10) (b : Bk) (hb : b.Ok) (S : Store) : Wp (callN tb fl (n + 18) k_made_publisher [b.D, .tup ((nms b.steps.length).map .str), p.D] S) fun v S' => v = p.D ∧ Kp [] S S' := by
  rw [u_made_publisher]
  ((try show Wp _ (hide _ ⟨⟩)) <;> simp -dsimp -implicitDefEqProofs [b_made_publisher, s_made_book (n + 11) b _ hb, s_want_names (n + 15) b hb (nms b.steps.length) (nms_ok _ hb.m4)] <;> try with_reducible refine wp_fin ?_)
  refine (s_want_publisher n p ok hc b.steps.length hb.m1 hb.m4 S).bind fun v S1 h => ?_
  obtain ⟨rfl, k1⟩ := h
  ((try show Wp _ (hide _ ⟨⟩)) <;> simp -dsimp -implicitDefEqProofs <;> try with_reducible refine wp_fin ?_)
  exact ⟨rfl, k1⟩
theorem s_first_state (n : Nat) (p : Pb) (hc : p.cells.length ≤ 10) (hr : p.rows.length ≤ 1) (b : Bk) (hb : b.Ok) (S : Store) : callN tb fl (n + 1) k_first_state [b.D, p.D] S = .ok (sp0 b p).D S := by
  rw [u_first_state]
  have hm := hb.m4
  have q : ∀ (v : D) (k : Nat), k ≤ 1000 → opBin .mul (.tup [v]) (.int (k : Int)) S = .ok (.tup (List.replicate k v)) S := fun v k hk => o_rep v k hk
  ((try show Wp _ (hide _ ⟨⟩)) <;> simp -dsimp -implicitDefEqProofs [wp_ok, b_first_state, q _ b.steps.length (by omega)])
  rw [mapF_map nmD (fun p : Str × Int => D.tup (List.replicate b.steps.length (.int p.2))) p.rows (fun p hp => by ((try show Wp _ (hide _ ⟨⟩)) <;> simp -dsimp -implicitDefEqProofs [wp_ok, nmD, q _ b.steps.length (show b.steps.length ≤ 1000 by omega)])) (by rw [sizeLine_eq]; omega)]
  ((try show Wp _ (hide _ ⟨⟩)) <;> simp -dsimp -implicitDefEqProofs [wp_ok, opLF])
  rw [mapF_map nmD (fun p : Str × Int => D.int p.2) p.cells (fun p hp => by ((try show Wp _ (hide _ ⟨⟩)) <;> simp -dsimp -implicitDefEqProofs [wp_ok, nmD])) (by rw [sizeLine_eq]; omega)]
  ((try show Wp _ (hide _ ⟨⟩)) <;> simp -dsimp -implicitDefEqProofs [wp_ok, opLF, sp0])
  obtain ⟨cells, rows, body⟩ := p
  cases rows with
  | nil => simp [roD]
  | cons r rs =>
    have : rs = [] := List.length_eq_zero_iff.mp (by have : rs.length + 1 ≤ 1 := hr; omega)
    subst this
    simp [roD]
theorem s_program (n : Nat) (p : Pb) (ok : PubOk p) (hc : p.cells.length ≤ 10) (b : Bk) (hb : b.Ok) (S : Store) : Wp (callN tb fl (n + 19) k_program [b.D, .tup ((nms b.steps.length).map .str), p.D] S) fun v S' => ∃ i, v = .ref i ∧ Kp [] S S' ∧ S'[i]? = some (.ins 21 (pFs b p (sp0 b p))) := by
  rw [u_program]
  ((try show Wp _ (hide _ ⟨⟩)) <;> simp -dsimp -implicitDefEqProofs [b_program, s_made_book (n + 12) b _ hb] <;> try with_reducible refine wp_fin ?_)
  refine (s_made_publisher n p ok hc b hb S).bind fun v S1 h => ?_
  obtain ⟨rfl, k1⟩ := h
  ((try show Wp _ (hide _ ⟨⟩)) <;> simp -dsimp -implicitDefEqProofs [s_first_state (n + 17) p hc ok.rl b hb, s_Program_init] <;> try with_reducible refine wp_fin ?_)
  exact ⟨_, rfl, k1.trans (Kp.app _), get_app_len _ _ _⟩
/-- a player there, at the start -/
def PlayerAt (b : Bk) (S : Store) (i : Nat) : Prop := ∃ (P : Player b) (s : P.T), P.Start s ∧ S[i]? = some (.ins P.C (P.fs s))
theorem prog_at (b : Bk) (hb : b.Ok) (p : Pb) (inv : Nat → List Int → Option (List Int) → Prop) (ok : PbOk b p inv) (iv : inv 0 (sp0 b p).ce (sp0 b p).ro) {S : Store} {i : Nat} (h : S[i]? = some (.ins 21 (pFs b p (sp0 b p)))) : PlayerAt b S i :=
  ⟨prog_ b hb p inv ok, sp0 b p, prog_start b hb p inv ok iv, h⟩
theorem half_at (b : Bk) (hb : b.Ok) (ties : List Int) (ht : TiesOk b ties) {S : Store} {i : Nat} (h : S[i]? = some (.ins 19 (hfs b ties (List.replicate b.steps.length 0)))) : PlayerAt b S i :=
  ⟨half b hb ties ht, List.replicate b.steps.length (0 : Int), half_start b hb ties ht, h⟩
end K76P
set_option Elab.async false
set_option linter.all false
set_option maxRecDepth 100000
set_option autoImplicit false
set_option maxHeartbeats 2000000
/-! P16: the law's player; what is refused -/
namespace K76P
open PySem K76
section
variable {s : Nat} {S : Store}
theorem s_report_player (n : Nat) (h : Pool s S) (b : Bk) (hb : b.Ok) : Wp (callN tb fl (n + 20) k__law_report_player [.ref s, b.D] S) fun v S' => Dr s S S' ∧ ∃ i, v = .ref i ∧ PlayerAt b S' i := by
  rw [u__law_report_player]
  have hm := hb.m4
  ((try show Wp _ (hide _ ⟨⟩)) <;> simp -dsimp -implicitDefEqProofs [b__law_report_player] <;> try with_reducible refine wp_fin ?_)
  refine (s_take (n + 18) h 2 (by omega) (by omega)).bind fun v S1 hv => ?_
  obtain ⟨d1, c, rfl, c1, c2⟩ := hv
  by_cases q : c = 0
  · ((try show Wp _ (hide _ ⟨⟩)) <;> simp -dsimp -implicitDefEqProofs [q, rngD_ok _ _ _ rfl (show b.steps.length ≤ 1000000 by omega)] <;> try with_reducible refine wp_fin ?_)
    refine Wp.mapR (fun j acc S' => Dr s S S' ∧ ∃ st : List Int, acc = st.map .int ∧ st.length = j ∧ ∀ x ∈ st, 0 ≤ x ∧ x ≤ 1) b.steps.length ?_ ⟨d1, [], rfl, rfl, by simp⟩ (by omega) ?_
    · intro j hj acc S4 hi
      obtain ⟨d4, st, rfl, l4, ok4⟩ := hi
      ((try show Wp _ (hide _ ⟨⟩)) <;> simp -dsimp -implicitDefEqProofs <;> try with_reducible refine wp_fin ?_)
      refine (s_take (n + 18) d4.pool 2 (by omega) (by omega)).bind fun v S5 hv => ?_
      obtain ⟨d5, c5, rfl, _, _⟩ := hv
      ((try show Wp _ (hide _ ⟨⟩)) <;> simp -dsimp -implicitDefEqProofs <;> try with_reducible refine wp_fin ?_)
      refine ⟨d4.trans d5, st ++ [c5], by simp, by simp [l4], fun x hx => ?_⟩
      rcases List.mem_append.mp hx with z | z
      · exact ok4 x z
      · rw [List.mem_singleton.mp z]
        omega
    · intro acc S4 hi
      obtain ⟨d4, st, rfl, l4, ok4⟩ := hi
      have ht : TiesOk b st := ⟨l4, ok4⟩
      ((try show Wp _ (hide _ ⟨⟩)) <;> simp -dsimp -implicitDefEqProofs [opLF, s_halves (n + 12) b hb st ht] <;> try with_reducible refine wp_fin ?_)
      exact ⟨d4.app _, _, rfl, half_at b hb st ht (get_app_len _ _ _)⟩
  · ((try show Wp _ (hide _ ⟨⟩)) <;> simp -dsimp -implicitDefEqProofs [q, s_pub_floor (n + 15), s_pub_lagging (n + 15), s_pub_mender (n + 15), s_pub_counter (n + 15)] <;> try with_reducible refine wp_fin ?_)
    have e1 := get_app_len S1 (.lst [floorP.D, lagP.D, mendP.D, countP.D]) []
    have lt := d1.pool.lt
    refine (s_one_l (n + 17) (d1.pool.app _) S1.length [floorP.D, lagP.D, mendP.D, countP.D] e1 (by omega) (by decide) (by decide)).bind fun v S2 hv => ?_
    obtain ⟨d2, hv⟩ := hv
    have d2 := (d1.app _).trans d2
    have fin : ∀ (p : Pb) (ok : PubOk p) (hc : p.cells.length ≤ 10) (inv : Nat → List Int → Option (List Int) → Prop) (ok2 : PbOk b p inv) (iv : inv 0 (sp0 b p).ce (sp0 b p).ro), Wp (callN tb fl (n + 19) k_program [b.D, .tup ((nms b.steps.length).map .str), p.D] S2) fun v S' => Dr s S S' ∧ ∃ i, v = .ref i ∧ PlayerAt b S' i := by
      intro p ok hc inv ok2 iv
      refine (s_program n p ok hc b hb S2).imp fun v S3 hx => ?_
      obtain ⟨i, rfl, k3, e3⟩ := hx
      have d3 : Dr s S2 S3 := ⟨by
        obtain ⟨x, y, e, r⟩ := d2.pool
        exact ⟨x, y, k3.get0 e, r⟩, k3.nil⟩
      exact ⟨d2.trans d3, i, rfl, prog_at b hb p inv ok2 iv e3⟩
    have en : cutD [D.str "ann", D.str "bob", D.str "cid", D.str "dot"] none (some (b.steps.length : Int)) = (nms b.steps.length).map .str := by
      rw [cut_take, nms, List.map_take]
      rfl
    ((try show Wp _ (hide _ ⟨⟩)) <;> simp -dsimp -implicitDefEqProofs [en] <;> try with_reducible refine wp_fin ?_)
    have fin2 : Wp (callN tb fl (n + 19) k_program [b.D, .tup ((nms b.steps.length).map .str), v] S2) fun v S' => Dr s S S' ∧ ∃ i, v = .ref i ∧ PlayerAt b S' i := by
      simp only [List.mem_cons, List.not_mem_nil, or_false] at hv
      rcases hv with rfl | rfl | rfl | rfl
      · exact fin floorP floor_pub (by decide) _ (floor_ok b hb) ⟨rfl, rfl⟩
      · exact fin lagP lag_pub (by decide) _ (lag_ok b hb) ⟨rfl, rfl⟩
      · exact fin mendP mend_pub (by decide) _ (mend_ok b hb) ⟨rfl, rfl⟩
      · exact fin countP count_pub (by decide) _ (count_ok b hb) ⟨rfl, List.replicate b.steps.length 0, rfl, by simp, fun x hx => by rw [List.eq_of_mem_replicate hx]; simp⟩
    refine fin2.bind fun v S3 hv => ?_
    ((try show Wp _ (hide _ ⟨⟩)) <;> simp -dsimp -implicitDefEqProofs <;> try with_reducible refine wp_fin ?_)
    exact hv
/-! ### what is refused -/
theorem report_names (n : Nat) (b : Bk) (hb : b.Ok) (x y z : D) (c : Nat) (d : D) (S : Store) (h : callN tb fl (n + 6) k_want_names [b.D, x] S = .exc c d S) : callN tb fl (n + 7) k_report [b.D, x, y, z] S = .exc c d S := by
  rw [u_report]
  ((try show Wp _ (hide _ ⟨⟩)) <;> simp -dsimp -implicitDefEqProofs [wp_ok, b_report, s_made_book n b S hb, h])
theorem report_lines (n : Nat) (b : Bk) (hb : b.Ok) (ns : List Str) (hn : NamesOk ns b.steps.length) (y z : D) (c : Nat) (d : D) (S : Store) (h : callN tb fl (n + 6) k_want_lines [b.D, y] S = .exc c d S) : callN tb fl (n + 7) k_report [b.D, .tup (ns.map .str), y, z] S = .exc c d S := by
  rw [u_report]
  ((try show Wp _ (hide _ ⟨⟩)) <;> simp -dsimp -implicitDefEqProofs [wp_ok, b_report, s_made_book n b S hb, s_want_names (n + 4) b hb ns hn S, h])
theorem report_state (n : Nat) (b : Bk) (hb : b.Ok) (ns : List Str) (hn : NamesOk ns b.steps.length) (ls : List (List Int)) (hl : ∀ l ∈ ls, LineOk l b.steps.length) (z : D) (S : Store) (h : callN tb fl (n + 6) k_is_state [b.D, z] S = .ok (.bl false) S) : callN tb fl (n + 7) k_report [b.D, .tup (ns.map .str), .tup (ls.map tI), z] S = .exc c_BadState (.int 0) S := by
  rw [u_report]
  ((try show Wp _ (hide _ ⟨⟩)) <;> simp -dsimp -implicitDefEqProofs [wp_ok, b_report, s_made_book n b S hb, s_want_names (n + 4) b hb ns hn S, s_want_lines (n + 2) b hb ls hl S, h])
@[simp] theorem heard_names (d : D) (S : Store) : heardD tb (.exc 8 d S) = .ok (.tup [.str "names", d]) S := by kernel_rfl
@[simp] theorem heard_lines (d : D) (S : Store) : heardD tb (.exc 2 d S) = .ok (.tup [.str "line", d]) S := by kernel_rfl
@[simp] theorem heard_state (d : D) (S : Store) : heardD tb (.exc 6 d S) = .ok (.tup [.str "state", d]) S := by kernel_rfl
theorem cmp_si (w : String) (k : Int) (S : Store) : opCmp .ne (.tup [.str w, .int k]) (.tup [.str w, .int k]) S = .ok (.bl false) S ∧ opCmp .eq (.tup [.str w, .int k]) (.tup [.str w, .int k]) S = .ok (.bl true) S := by
  have := ok_ofString w
  constructor <;> simp [opCmp, opEq, eqD, pyS, D.py, D.pyAll, SeqAt.shaped, PyData.canLay0, PyData.canLayAll0, PyData.depth, PyData.depthAll, PyData.eqv, PyData.eqvAll, this]
theorem cmp_sii (w : String) (j k : Int) (S : Store) : opCmp .ne (.tup [.str w, .tup [.int j, .int k]]) (.tup [.str w, .tup [.int j, .int k]]) S = .ok (.bl false) S := by
  have := ok_ofString w
  simp [opCmp, opEq, eqD, pyS, D.py, D.pyAll, SeqAt.shaped, PyData.canLay0, PyData.canLayAll0, PyData.depth, PyData.depthAll, PyData.eqv, PyData.eqvAll, this]
theorem forL_pure {stp : D → Ev → Store → Res (Fl × Ev)} {S : Store} {j : Nat} {xs : List D} (P : Ev → Prop) (h : S[j]? = some (.lst xs)) (hp : ∀ d ∈ xs, ∀ ρ, P ρ → ∃ ρ', stp d ρ S = .ok (.nx, ρ') S ∧ P ρ') : ∀ (r k : Nat) (ρ : Ev), k + r = xs.length → P ρ → ∃ ρ', forL (.ls j xs.length) stp r k ρ S = .ok (.nx, ρ') S ∧ P ρ'
  | 0, k, ρ, e, q => ⟨ρ, by unfold forL; simp [Src.fine, h], q⟩
  | r + 1, k, ρ, e, q => by
    have hk : k < xs.length := by omega
    have e1 : (Src.ls j xs.length).item S k = some xs[k] := by simp [Src.item, h, hk]
    obtain ⟨ρ1, e2, q2⟩ := hp xs[k] (List.getElem_mem hk) ρ q
    obtain ⟨ρ2, e3, q3⟩ := forL_pure P h hp r (k + 1) ρ1 (by omega) q2
    refine ⟨ρ2, ?_, q3⟩
    unfold forL
    rw [e1]
    dsimp only
    rw [e2]
    exact e3
theorem Wp.forLs {β : Type} {stp : D → Ev → Store → Res (Fl × Ev)} {S : Store} {j n : Nat} {xs : List D} {k : Fl × Ev → Store → Res β} {R : β → Store → Prop} {ρ : Ev} (P : Ev → Prop) (h : S[j]? = some (.lst xs)) (hn : xs.length = n) (hp : ∀ d ∈ xs, ∀ ρ, P ρ → ∃ ρ', stp d ρ S = .ok (.nx, ρ') S ∧ P ρ') (q : P ρ) (hk : ∀ ρ', P ρ' → Wp (k (.nx, ρ') S) R) : Wp ((forL (.ls j n) stp (Src.ls j n).len 0 ρ S).bind k) R := by
  subst hn
  obtain ⟨ρ', e, q'⟩ := forL_pure P h hp xs.length 0 ρ (by omega) q
  show Wp ((forL (.ls j xs.length) stp xs.length 0 ρ S).bind k) R
  rw [e]
  exact hk ρ' q'
theorem s_refused (n : Nat) (h : Pool s S) (b : Bk) (hb : b.Ok) (ns : List Str) (hn : NamesOk ns b.steps.length) (ls : List (List Int)) (hl : ∀ l ∈ ls, LineOk l b.steps.length) (hls : ls.length ≤ 10) (tr sh : List Int) (h1 : tr.length = b.steps.length) (h2 : sh.length = b.steps.length) :
    Wp (callN tb fl (n + 9) k__law_report_refused [.ref s, b.D, .tup (ns.map .str), .tup (ls.map tI), stD tr sh] S) fun v S' => v = .bl true := by
  rw [u__law_report_refused]
  have hm := hb.m4
  have hm1 := hb.m1
  have hlen := hn.len
  ((try show Wp _ (hide _ ⟨⟩)) <;> simp -dsimp -implicitDefEqProofs [b__law_report_refused] <;> try with_reducible refine wp_fin ?_)
  refine (s_take (n + 7) h ns.length (by omega) (by omega)).bind fun v S1 hv => ?_
  obtain ⟨d1, c, rfl, c1, c2⟩ := hv
  obtain ⟨k, rfl⟩ := Int.eq_ofNat_of_zero_le c1
  have hk : k < ns.length := by omega
  have lt := d1.pool.lt
  have ea : opBin .mul (.str "a") (.int 13) S1 = .ok (.str "aaaaaaaaaaaaa") S1 := by kernel_rfl
  ((try show Wp _ (hide _ ⟨⟩)) <;> simp -dsimp -implicitDefEqProofs [ea] <;> try with_reducible refine wp_fin ?_)
  have e1 := get_app_len S1 (.lst odds) []
  refine (s_one_l (n + 6) (d1.pool.app _) S1.length odds e1 (by omega) (by decide) (by decide)).bind fun v S2 hv => ?_
  obtain ⟨d2, hv⟩ := hv
  ((try show Wp _ (hide _ ⟨⟩)) <;> simp -dsimp -implicitDefEqProofs [cut_take] <;> try with_reducible refine wp_fin ?_)
  rw [o_addt _ _ _ (by rw [sizeLine_eq]; simp; omega)]
  ((try show Wp _ (hide _ ⟨⟩)) <;> simp -dsimp -implicitDefEqProofs [cut_drop1] <;> try with_reducible refine wp_fin ?_)
  rw [o_addt _ _ _ (by rw [sizeLine_eq]; simp; omega)]
  have en : (ns.map D.str).take k ++ [v] ++ (ns.map D.str).drop (k + 1) = (ns.take k).map .str ++ v :: (ns.map D.str).drop (k + 1) := by simp
  have lk : (ns.take k).length = k := by simp; omega
  rw [en]
  have q1 := fun S => s_want_names_odd (n + 5) b (ns.take k) v ((ns.map D.str).drop (k + 1)) (by simp; omega) (hn.nd.sublist (List.take_sublist k ns)) (fun x hx => hn.pool x (List.mem_of_mem_take hx)) hv S
  rw [lk] at q1
  generalize (ns.take k).map .str ++ v :: (ns.map D.str).drop (k + 1) = L at q1 ⊢
  have q2 := fun S y z => report_names (n + 1) b hb (.tup L) y z _ _ S (q1 S)
  ((try show Wp _ (hide _ ⟨⟩)) <;> simp -dsimp -implicitDefEqProofs [q2, (cmp_si "names" _ _).1] <;> try with_reducible refine wp_fin ?_)
  rw [o_addt _ _ _ (by rw [sizeLine_eq]; simp; omega)]
  have lz : (ns.map D.str ++ [D.str "z"]).length ≠ b.steps.length := by
    rw [List.length_append, List.length_map, hlen]
    exact Nat.ne_of_gt (Nat.lt_succ_self _)
  have q3 : ∀ S y z, callN tb fl (n + 1 + 7) k_report [b.D, .tup (ns.map D.str ++ [D.str "z"]), y, z] S = .exc c_BadNames (.int (-1)) S := fun S y z => report_names (n + 1) b hb _ y z _ _ S (s_want_names_len (n + 6) b _ lz S)
  have r1 : ∀ (x : D) (S : Store), opBin .mul (.tup [x]) (.int ((ns.length : Int) + 1)) S = .ok (.tup (List.replicate (ns.length + 1) x)) S := fun x S => by
    rw [show (ns.length : Int) + 1 = ((ns.length + 1 : Nat) : Int) by omega]
    exact o_rep x _ (by omega)
  have r2 : ∀ (x : D) (S : Store), opBin .mul (.tup [x]) (.int ((ns.length : Int) - 1)) S = .ok (.tup (List.replicate (ns.length - 1) x)) S := fun x S => by
    rw [show (ns.length : Int) - 1 = ((ns.length - 1 : Nat) : Int) by omega]
    exact o_rep x _ (by omega)
  have r3 : ∀ (x : D) (S : Store), opBin .mul (.tup [x]) (.int (ns.length : Int)) S = .ok (.tup (List.replicate ns.length x)) S := fun x S => o_rep x _ (by omega)
  have r4 : ∀ S, opBin .add (.tup [.int 21]) (.tup (List.replicate (ns.length - 1) (.int 0))) S = .ok (.tup (.int 21 :: List.replicate (ns.length - 1) (.int 0))) S := fun S => o_addt _ _ _ (by rw [sizeLine_eq]; simp; omega)
  ((try show Wp _ (hide _ ⟨⟩)) <;> simp -dsimp -implicitDefEqProofs [q3, (cmp_si "names" _ _).1, r1, r2, r3, r4] <;> try with_reducible refine wp_fin ?_)
  have ql : ∀ (d : D) (w : Int) (hd : ∀ S, callN tb fl (n + 3 + 3) k_wrong_weight [b.D, d] S = .ok (.int w) S) (S : Store), callN tb fl (n + 1 + 7) k_report [b.D, .tup (ns.map D.str), .tup (ls.map tI ++ [d, .non]), .non] S = .exc c_BadLine (.tup [.int ls.length, .int w]) S := fun d w hd S =>
    report_lines (n + 1) b hb ns hn _ _ _ _ S (s_want_lines_bad (n + 3) b hb ls hl d [.non] w hd S)
  have qa : ∀ (d : D) (S : Store), opBin .add (.tup (ls.map tI)) (.tup [d, .non]) S = .ok (.tup (ls.map tI ++ [d, .non])) S := fun d S => o_addt _ _ _ (by rw [sizeLine_eq]; simp; omega)
  have w1 : ∀ S, callN tb fl (n + 3 + 3) k_wrong_weight [b.D, .tup (List.replicate (ns.length + 1) (.int 1))] S = .ok (.int (-1)) S := fun S => s_wrong_weight_len (n + 3) b _ (by rw [List.length_replicate]; omega) S
  have w2 : ∀ S, callN tb fl (n + 3 + 3) k_wrong_weight [b.D, .non] S = .ok (.int (-1)) S := fun S => s_wrong_weight_non (n + 3) b S
  have w3 : ∀ S, callN tb fl (n + 3 + 3) k_wrong_weight [b.D, .tup (List.replicate ns.length (.int 0))] S = .ok (.int 0) S := fun S => by
    have q := s_wrong_weight_zero (n + 3) b hb S
    rw [show tI (List.replicate b.steps.length 0) = .tup (List.replicate ns.length (.int 0)) by rw [hlen]; simp] at q
    exact q
  have w4 : ∀ S, callN tb fl (n + 3 + 3) k_wrong_weight [b.D, .tup (.int 21 :: List.replicate (ns.length - 1) (.int 0))] S = .ok (.int 0) S := fun S => s_wrong_weight_big (n + 3) b _ (by rw [List.length_replicate]; omega) S
  refine Wp.forLs (fun ρ => ∃ x y, ρ = [some (.ref s), some b.D, some (.tup (ns.map D.str)), some (.tup (ls.map tI)), some (stD tr sh), some (.int ns.length), some (.int k), some v, x, y, none]) (get_app_len _ _ _) rfl (fun d hd ρ hρ => ?_) ⟨_, _, rfl⟩ (fun ρ hρ => ?_)
  · obtain ⟨x, y, rfl⟩ := hρ
    simp only [List.mem_cons, List.not_mem_nil, or_false] at hd
    rcases hd with rfl | rfl | rfl | rfl
    · exact ⟨_, by ((try show Wp _ (hide _ ⟨⟩)) <;> simp -dsimp -implicitDefEqProofs [wp_ok, qa, ql _ _ w1, cmp_sii]), some (.tup (List.replicate (ns.length + 1) (.int 1))), some (.int (-1)), rfl⟩
    · exact ⟨_, by ((try show Wp _ (hide _ ⟨⟩)) <;> simp -dsimp -implicitDefEqProofs [wp_ok, qa, ql _ _ w2, cmp_sii]), some .non, some (.int (-1)), rfl⟩
    · exact ⟨_, by ((try show Wp _ (hide _ ⟨⟩)) <;> simp -dsimp -implicitDefEqProofs [wp_ok, qa, ql _ _ w3, cmp_sii]), some (.tup (List.replicate ns.length (.int 0))), some (.int 0), rfl⟩
    · exact ⟨_, by ((try show Wp _ (hide _ ⟨⟩)) <;> simp -dsimp -implicitDefEqProofs [wp_ok, qa, ql _ _ w4, cmp_sii]), some (.tup (.int 21 :: List.replicate (ns.length - 1) (.int 0))), some (.int 0), rfl⟩
  · obtain ⟨x, y, rfl⟩ := hρ
    have q5 : ∀ S, callN tb fl (n + 1 + 7) k_report [b.D, .tup (ns.map D.str), .non, .non] S = .exc c_BadLine (.int (-1)) S := fun S => report_lines (n + 1) b hb ns hn _ _ _ _ S (s_want_lines_non (n + 6) b S)
    ((try show Wp _ (hide _ ⟨⟩)) <;> simp -dsimp -implicitDefEqProofs [q5, (cmp_si "line" _ _).1, r3] <;> try with_reducible refine wp_fin ?_)
    have eb : [D.non, .tup [tI tr], .tup [tI tr, .tup (cutD (sh.map D.int) (some 1) none)], .tup [tI tr, tI sh, .tup []], .str "state", .tup [tI tr, .tup (List.replicate ns.length .non)]] = badStates b tr sh := by
      have e := cut_drop (sh.map D.int) 1
      have e : cutD (sh.map D.int) (some 1) none = (sh.map D.int).drop 1 := e
      rw [e, hlen]
      unfold badStates
      simp
    rw [eb]
    obtain ⟨v2, S4, e4, d4, hv2⟩ := s_one_l (n + 6) (d2.pool.app [_, .lst (badStates b tr sh)]) (S2.length + 1) (badStates b tr sh) (get_app_add S2 _ 1) (by have := d2.pool.lt; omega) (by simp [badStates]) (by simp [badStates])
    have q6 : ∀ S, callN tb fl (n + 1 + 7) k_report [b.D, .tup (ns.map D.str), .tup (ls.map tI), v2] S = .exc c_BadState (.int 0) S := fun S => report_state (n + 1) b hb ns hn ls hl v2 S (s_is_state_bad (n + 4) b hb tr sh h1 h2 v2 hv2 S)
    rw [e4]
    ((try show Wp _ (hide _ ⟨⟩)) <;> simp -dsimp -implicitDefEqProofs [wp_ok, q6, (cmp_si "state" _ _).2])
end
end K76P
set_option Elab.async false
set_option linter.all false
set_option maxRecDepth 100000
set_option autoImplicit false
set_option maxHeartbeats 4000000
/-! P17: the law: the feed goes on -/
namespace K76P
open PySem K76
theorem Pool.kp {s : Nat} {S S' : Store} {ms : List Nat} (h : Pool s S) (k : Kp ms S S') (hs : s ∉ ms) : Pool s S' := by
  obtain ⟨a, b, e, q⟩ := h
  exact ⟨a, b, k.get e hs, q⟩
/-- what stands there while the law runs -/
structure LawS {b : Bk} (P : Player b) (s0 : P.T) (s pl f r p0 hh : Nat) (es : List Ed) (S : Store) : Prop where
  pool : Pool s S
  pl : S[pl]? = some (.ins P.C (P.fs s0))
  feed : FeedAt P S f r p0 s0 es
  hist : S[hh]? = some (.lst (es.map fun E => HD E.H))
  n1 : r ≠ s
  n2 : hh ≠ s
  n3 : hh ≠ r
section
variable {b : Bk} {P : Player b} {s0 : P.T} {s pl f r p0 hh : Nat} {es : List Ed} {S S' : Store}
theorem LawS.dr (a : LawS P s0 s pl f r p0 hh es S) (d : Dr s S S') : LawS P s0 s pl f r p0 hh es S' := by
  have hl : ∀ j ∈ [s], ∃ l, S[j]? = some (.lst l) := fun j hj => by
    rw [List.mem_singleton.mp hj]
    obtain ⟨x, y, e, _⟩ := a.pool
    exact ⟨_, e⟩
  exact ⟨d.pool, d.kp.ins a.pl hl, a.feed.kp d.kp (by simpa using a.n1) (fun j hj _ => hl j hj), d.kp.get1 a.hist a.n2, a.n1, a.n2, a.n3⟩
theorem LawS.kp0 (a : LawS P s0 s pl f r p0 hh es S) (k : Kp [] S S') : LawS P s0 s pl f r p0 hh es S' :=
  ⟨a.pool.kp k (by simp), k.get0 a.pl, a.feed.kp k (by simp) (by simp), k.get0 a.hist, a.n1, a.n2, a.n3⟩
/-- the rows alone have changed -/
theorem LawS.rows {es' : List Ed} (a : LawS P s0 s pl f r p0 hh es S) (k : Kp [r] S S') (fe : FeedAt P S' f r p0 s0 es') (l : List D) : Pool s (S'.set hh (.lst l)) ∧ (S'.set hh (.lst l))[pl]? = some (.ins P.C (P.fs s0)) ∧ FeedAt P (S'.set hh (.lst l)) f r p0 s0 es' ∧ (S'.set hh (.lst l))[hh]? = some (.lst l) := by
  have h1 := k.get1 a.hist a.n3
  have ks : Kp [hh] S' (S'.set hh (.lst l)) := Kp.set (by simp) _
  have hl : ∀ j ∈ [hh], ∃ l, S'[j]? = some (.lst l) := fun j hj => by
    rw [List.mem_singleton.mp hj]
    exact ⟨_, h1⟩
  have hr : ∀ j ∈ [r], ∃ l, S[j]? = some (.lst l) := fun j hj => by
    rw [List.mem_singleton.mp hj]
    exact ⟨_, a.feed.rw_⟩
  have p1 := k.ins a.pl hr
  refine ⟨(a.pool.kp k (by simpa using a.n1.symm)).kp ks (by simpa using a.n2.symm), ks.ins p1 hl, fe.kp ks (by simpa using a.n3.symm) (fun j hj _ => hl j hj), get_set_self h1 _⟩
theorem Wp.lcLs {β : Type} {stp : D → Store → Res (Option D)} {S : Store} {h n : Nat} {xs : List D} {k : List D → Store → Res β} {R : β → Store → Prop} (I : Nat → List D → Store → Prop) (hn : xs.length = n) (hI : ∀ j acc S, I j acc S → S[h]? = some (.lst xs)) (c : ∀ j d, xs[j]? = some d → ∀ acc S, I j acc S → Wp (stp d S) fun o S' => I (j + 1) (acc ++ o.toList) S') (hs : xs.length ≤ 100000) (h0 : I 0 [] S) (hk : ∀ acc S, I n acc S → Wp (k acc S) R) : Wp ((lcL (.ls h n) stp (Src.ls h n).len 0 [] S).bind k) R := by
  subst hn
  exact (lc_ls I hI c hs xs.length 0 [] S (by omega) h0 (by simp)).bind fun acc S1 hi => hk acc S1 hi
end
theorem law_wp (n : Nat) (x : D) (ns : List Int) (S0 : Store) (hl : opBI .len [x] S0 = .ok (.int ns.length) S0) (hi : ∀ a r, ns = a :: r → opIdx x (.int 0) S0 = .ok (.int a) S0) (hn : ns = [] → opEqNil true x S0 = .ok (.bl false) S0) :
    Wp (callN tb fl (n + 25) k_law [x] S0) fun v S' => v = .bl true := by
  rw [u_law]
  ((try show Wp _ (hide _ ⟨⟩)) <;> simp -dsimp -implicitDefEqProofs [b_law] <;> try with_reducible refine wp_fin ?_)
  refine (s_pool (n + 23) x ns hl hi hn).bind fun v S1 hv => ?_
  obtain ⟨rfl, a0, b0, rfl, b1, b2⟩ := hv
  have p1 : Pool S0.length (S0 ++ [.lst [.int a0, .int b0]]) := ⟨a0, b0, get_app_len _ _ _, b1, b2⟩
  generalize S0 ++ [MO.lst [.int a0, .int b0]] = S1 at p1
  generalize S0.length = s at p1
  ((try show Wp _ (hide _ ⟨⟩)) <;> simp -dsimp -implicitDefEqProofs <;> try with_reducible refine wp_fin ?_)
  refine (s_some_book (n + 20) p1).bind fun v S2 hv => ?_
  obtain ⟨d2, b, rfl, hb⟩ := hv
  have hm := hb.m4
  have hm1 := hb.m1
  ((try show Wp _ (hide _ ⟨⟩)) <;> simp -dsimp -implicitDefEqProofs <;> try with_reducible refine wp_fin ?_)
  refine (s_told_names (n + 21) d2.pool b.steps.length hm).bind fun v S3 hv => ?_
  obtain ⟨d3, nl, rfl, ln, nd, np⟩ := hv
  have hnm : NamesOk nl b.steps.length := ⟨ln, nd, fun y hy => List.mem_append_left _ (np y hy)⟩
  ((try show Wp _ (hide _ ⟨⟩)) <;> simp -dsimp -implicitDefEqProofs <;> try with_reducible refine wp_fin ?_)
  refine (s_report_player (n + 4) d3.pool b hb).bind fun v S4 hv => ?_
  obtain ⟨d4, pl, rfl, P, s0, hs, hpl⟩ := hv
  ((try show Wp _ (hide _ ⟨⟩)) <;> simp -dsimp -implicitDefEqProofs <;> try with_reducible refine wp_fin ?_)
  refine (s_take (n + 23) d4.pool 4 (by omega) (by omega)).bind fun v S5 hv => ?_
  obtain ⟨d5, c, rfl, c1, c2⟩ := hv
  obtain ⟨k, rfl⟩ := Int.eq_ofNat_of_zero_le c1
  ((try show Wp _ (hide _ ⟨⟩)) <;> simp -dsimp -implicitDefEqProofs [rngD_ok _ _ _ rfl (show k ≤ 1000000 by omega)] <;> try with_reducible refine wp_fin ?_)
  refine Wp.mapR (fun j acc S' => Dr s S4 S' ∧ ∃ ls : List (List Int), acc = ls.map tI ∧ ls.length = j ∧ ∀ l ∈ ls, LineOk l b.steps.length) k ?_ ⟨d5, [], rfl, rfl, by simp⟩ (by omega) ?_
  · intro j hj acc S6 hi
    obtain ⟨d6, ls, rfl, l6, ok6⟩ := hi
    ((try show Wp _ (hide _ ⟨⟩)) <;> simp -dsimp -implicitDefEqProofs <;> try with_reducible refine wp_fin ?_)
    refine (s_drawn_line (n + 22) d6.pool b.steps.length hm1 hm).bind fun v S7 hv => ?_
    obtain ⟨d7, l, rfl, okl⟩ := hv
    ((try show Wp _ (hide _ ⟨⟩)) <;> simp -dsimp -implicitDefEqProofs <;> try with_reducible refine wp_fin ?_)
    refine ⟨d6.trans d7, ls ++ [l], by simp, by simp [l6], fun y hy => ?_⟩
    rcases List.mem_append.mp hy with z | z
    · exact ok6 y z
    · rw [List.mem_singleton.mp z]
      exact okl
  intro acc S6 hi
  obtain ⟨d6, ls, rfl, l6, okls⟩ := hi
  have hls : ls.length ≤ 10 := by omega
  have hl4 : ∀ j ∈ [s], ∃ l, S4[j]? = some (.lst l) := fun j hj => by
    rw [List.mem_singleton.mp hj]
    obtain ⟨y, z, e, _⟩ := d4.pool
    exact ⟨_, e⟩
  have hpl6 := d6.kp.ins hpl hl4
  have ps6 := d6.pool
  clear d2 d3 d4 d5 d6 hl4 hpl p1
  ((try show Wp _ (hide _ ⟨⟩)) <;> simp -dsimp -implicitDefEqProofs [opLF] <;> try with_reducible refine wp_fin ?_)
  refine (s_Feed_init (n + 17) hb hs hpl6).bind fun v S7 hv => ?_
  obtain ⟨rfl, k7, r, hr, fe7⟩ := hv
  have ps7 := ps6.kp k7 (by simp)
  have pl7 := k7.get0 hpl6
  have slt := ps6.lt
  have rlt := get_lt fe7.rw_
  have st8 : LawS P s0 s pl S6.length r (S6.length + 1) S7.length [⟨S6.length + 4, S6.length + 3, S6.length + 2, [], []⟩] (S7 ++ [.lst [.tup []]]) :=
    ⟨ps7.app _, get_app pl7 _, fe7.kp (Kp.app (ms := []) _) (by simp) (by simp), get_app_len _ _ _, by omega, by have := k7.1; omega, by omega⟩
  ((try show Wp _ (hide _ ⟨⟩)) <;> simp -dsimp -implicitDefEqProofs <;> try with_reducible refine wp_fin ?_)
  generalize S6.length = f at st8 hr ⊢
  generalize S7.length = hh at st8 ⊢
  generalize f + 1 = p0 at st8
  generalize S7 ++ [MO.lst [.tup []]] = S8 at st8 ⊢
  refine (s_take (n + 23) st8.pool 5 (by omega) (by omega)).bind fun v S9 hv => ?_
  obtain ⟨d9, c, rfl, c3, c4⟩ := hv
  have st9 := st8.dr d9
  obtain ⟨tn, htn⟩ : ∃ tn : Nat, 1 + c = (tn : Int) := ⟨(1 + c).toNat, by omega⟩
  ((try show Wp _ (hide _ ⟨⟩)) <;> simp -dsimp -implicitDefEqProofs [htn, rngD_ok _ _ _ rfl (show tn ≤ 1000000 by omega)] <;> try with_reducible refine wp_fin ?_)
  refine Wp.foldR (fun j ρ S' => (∃ t7 t10 t11 t12 t13 t14 t15, ρ = [some x, some (.ref s), some b.D, some (.int b.steps.length), some (.tup (nl.map .str)), some (.ref pl), some (.tup (ls.map tI)), t7, some (.ref f), some (.ref hh), t10, t11, t12, t13, t14, t15, none, none, none, none]) ∧ ∃ es E, LawS P s0 s pl f r p0 hh (es ++ [E]) S' ∧ es.length ≤ j ∧ E.H.length ≤ 13 * j) tn ?_ ⟨⟨_, _, _, _, _, _, _, rfl⟩, [], _, st9, by simp, by simp⟩ ?_
  · intro j hj ρ S10 hi
    obtain ⟨⟨t7, t10, t11, t12, t13, t14, t15, rfl⟩, es, E, st10, les, lE⟩ := hi
    ((try show Wp _ (hide _ ⟨⟩)) <;> simp -dsimp -implicitDefEqProofs <;> try with_reducible refine wp_fin ?_)
    refine (s_take (n + 23) st10.pool b.steps.length (by omega) (by omega)).bind fun v S11 hv => ?_
    obtain ⟨d11, pp, rfl, pp1, pp2⟩ := hv
    obtain ⟨p, rfl⟩ := Int.eq_ofNat_of_zero_le pp1
    have st11 := st10.dr d11
    ((try show Wp _ (hide _ ⟨⟩)) <;> simp -dsimp -implicitDefEqProofs <;> try with_reducible refine wp_fin ?_)
    refine (s_take (n + 23) st11.pool 2 (by omega) (by omega)).bind fun v S12 hv => ?_
    obtain ⟨d12, w, rfl, w1, w2⟩ := hv
    have st12 := st11.dr d12
    ((try show Wp _ (hide _ ⟨⟩)) <;> simp -dsimp -implicitDefEqProofs [o_mul 2 w _ (by omega)] <;> try with_reducible refine wp_fin ?_)
    refine (s_take (n + 23) st12.pool 9 (by omega) (by omega)).bind fun v S13 hv => ?_
    obtain ⟨d13, tt, rfl, tt1, tt2⟩ := hv
    have st13 := st12.dr d13
    obtain ⟨q, hq⟩ : ∃ q : Nat, 1 + tt = (q : Int) := ⟨(1 + tt).toNat, by omega⟩
    have mok : (Mv.mk p (1 - 2 * w)).Ok b.steps.length := ⟨by show p < b.steps.length; omega, by show 1 - 2 * w = 1 ∨ 1 - 2 * w = -1; omega⟩
    ((try show Wp _ (hide _ ⟨⟩)) <;> simp -dsimp -implicitDefEqProofs [hq, st13.feed.fd] <;> try with_reducible refine wp_fin ?_)
    refine (s_Feed_move (n + 1) hb hs st13.feed (Mv.mk p (1 - 2 * w)) mok q (by omega) (by omega)).bind fun v S14 hv => ?_
    obtain ⟨k14, E', hE', fe14⟩ := hv
    have h14 := k14.get1 st13.hist st13.n3
    rw [List.map_append] at h14
    have i14 : opIdx (.ref hh) (.int (es.length : Int)) S14 = .ok (HD E.H) S14 := r_idx h14 (by simp)
    ((try show Wp _ (hide _ ⟨⟩)) <;> simp -dsimp -implicitDefEqProofs [r_len h14, i14] <;> try with_reducible refine wp_fin ?_)
    rw [o_rep _ q (by omega)]
    have er : E.H.map Mv.D ++ List.replicate q (D.tup [.int p, .int (1 - 2 * w)]) = E'.H.map Mv.D := by rw [hE']; simp
    ((try show Wp _ (hide _ ⟨⟩)) <;> simp -dsimp -implicitDefEqProofs <;> try with_reducible refine wp_fin ?_)
    have aE := st13.feed.ed E (by simp)
    have few := aE.few
    rw [o_addt _ _ _ (by rw [sizeLine_eq]; simp; omega), er]
    have i15 : opSetItem (.ref hh) (.int (es.length : Int)) (.tup (E'.H.map Mv.D)) S14 = some (S14.set hh (.lst ((es ++ [E']).map fun E => HD E.H))) := by
      rw [r_set h14 (by simp)]
      rw [List.map_append, show es.length = (es.map fun E => HD E.H).length by simp, List.set_append_right _ _ (Nat.le_refl _), Nat.sub_self]
      rfl
    have l14 := r_len h14
    simp only [List.length_append, List.length_map, List.length_cons, List.length_nil, Nat.zero_add] at l14
    have st15 : LawS P s0 s pl f r p0 hh (es ++ [E']) (S14.set hh (.lst ((es ++ [E']).map fun E => HD E.H))) := by
      obtain ⟨z1, z2, z3, z4⟩ := st13.rows k14 fe14 ((es ++ [E']).map fun E => HD E.H)
      exact ⟨z1, z2, z3, z4, st13.n1, st13.n2, st13.n3⟩
    generalize S14.set hh (.lst ((es ++ [E']).map fun E => HD E.H)) = S15 at st15 i15
    ((try show Wp _ (hide _ ⟨⟩)) <;> simp -dsimp -implicitDefEqProofs [l14, i15] <;> try with_reducible refine wp_fin ?_)
    have tj : ∀ S, opIn false (.int (j : Int)) (.tup [.int 1, .int 3]) S = .ok (.bl (decide ((j : Int) ∈ [(1 : Int), 3]))) S := fun S => opIn_ints false (j : Int) [1, 3] S
    have lE' : E'.H.length ≤ 13 * j + 9 := by rw [hE']; simp; omega
    generalize decide ((j : Int) ∈ [(1 : Int), 3]) = bj at tj
    cases bj with
    | false =>
      ((try show Wp _ (hide _ ⟨⟩)) <;> simp -dsimp -implicitDefEqProofs [tj] <;> try with_reducible refine wp_fin ?_)
      exact ⟨rfl, ⟨_, _, _, _, _, _, _, rfl⟩, es, E', st15, by omega, by omega⟩
    | true =>
      have h15 := st15.hist
      rw [List.map_append] at h15
      have i16 : opIdx (.ref hh) (.int (es.length : Int)) S15 = .ok (HD E'.H) S15 := r_idx h15 (by simp)
      ((try show Wp _ (hide _ ⟨⟩)) <;> simp -dsimp -implicitDefEqProofs [tj, r_len h15, i16] <;> try with_reducible refine wp_fin ?_)
      refine (s_drawn_history (n + 22) st15.pool b.steps.length hm1 hm).bind fun v S16 hv => ?_
      obtain ⟨d16, M, rfl, lM, okM⟩ := hv
      have st16 := st15.dr d16
      ((try show Wp _ (hide _ ⟨⟩)) <;> simp -dsimp -implicitDefEqProofs <;> try with_reducible refine wp_fin ?_)
      refine (s_take (n + 23) st16.pool ((E'.H.length : Int) + 1) (by omega) (by omega)).bind fun v S17 hv => ?_
      obtain ⟨d17, at_, rfl, at1, at2⟩ := hv
      obtain ⟨a, rfl⟩ := Int.eq_ofNat_of_zero_le at1
      have st17 := st16.dr d17
      ((try show Wp _ (hide _ ⟨⟩)) <;> simp -dsimp -implicitDefEqProofs [st17.feed.fd] <;> try with_reducible refine wp_fin ?_)
      refine (s_Feed_correct (n + 1) hb hs st17.feed (by omega) a (by omega) M okM (by omega)).bind fun v S18 hv => ?_
      obtain ⟨k18, E2, hE2, fe18⟩ := hv
      have h18 := k18.get1 st17.hist st17.n3
      ((try show Wp _ (hide _ ⟨⟩)) <;> simp -dsimp -implicitDefEqProofs [h18, cut_take] <;> try with_reducible refine wp_fin ?_)
      rw [o_addt _ _ _ (by rw [sizeLine_eq]; simp; omega)]
      ((try show Wp _ (hide _ ⟨⟩)) <;> simp -dsimp -implicitDefEqProofs [cut_drop1] <;> try with_reducible refine wp_fin ?_)
      rw [o_addt _ _ _ (by rw [sizeLine_eq]; simp; omega)]
      have eh : (E'.H.map Mv.D).take a ++ M.map Mv.D ++ (E'.H.map Mv.D).drop (a + 1) = E2.H.map Mv.D := by rw [hE2]; simp
      ((try show Wp _ (hide _ ⟨⟩)) <;> simp -dsimp -implicitDefEqProofs [eh] <;> try with_reducible refine wp_fin ?_)
      rw [r_app h18 _ (by simp; omega)]
      ((try show Wp _ (hide _ ⟨⟩)) <;> simp -dsimp -implicitDefEqProofs <;> try with_reducible refine wp_fin ?_)
      have st19 : LawS P s0 s pl f r p0 hh (es ++ [E'] ++ [E2]) (S18.set hh (.lst ((es ++ [E']).map (fun E => HD E.H) ++ [HD E2.H]))) := by
        obtain ⟨z1, z2, z3, z4⟩ := st17.rows k18 fe18 ((es ++ [E']).map (fun E => HD E.H) ++ [HD E2.H])
        exact ⟨z1, z2, z3, z4.trans (by simp), st13.n1, st13.n2, st13.n3⟩
      rw [List.map_append] at st19
      refine ⟨rfl, ⟨_, _, _, _, _, _, _, rfl⟩, es ++ [E'], E2, ?_, by simp; omega, by rw [hE2]; simp; omega⟩
      simpa using st19
  · intro ρ S10 hi
    obtain ⟨⟨t7, t10, t11, t12, t13, t14, t15, rfl⟩, es, E, st10, les, lE⟩ := hi
    have h10 := st10.hist
    have few : ∀ E' ∈ es ++ [E], E'.H.length ≤ 100 := fun E' hE' => (st10.feed.ed E' hE').few
    have pos : 0 < (es ++ [E]).length := by simp
    have lEs : (es ++ [E]).length ≤ 10 := by simp; omega
    generalize es ++ [E] = Es at *
    ((try show Wp _ (hide _ ⟨⟩)) <;> simp -dsimp -implicitDefEqProofs [h10] <;> try with_reducible refine wp_fin ?_)
    refine Wp.lcLs (fun j acc S' => Kp [] S10 S' ∧ acc = (Es.take j).map fun E => stp (stOf P (play P s0 E.H))) (by simp) (fun j acc S' hi => hi.1.get0 h10) ?_ (by simp; omega) ⟨Kp.rfl, rfl⟩ ?_
    · intro j d hd acc S11 hi
      obtain ⟨k11, rfl⟩ := hi
      rw [List.getElem?_map] at hd
      cases ej : Es[j]? with
      | none => rw [ej] at hd; cases hd
      | some E' =>
        rw [ej] at hd
        have hd : some (HD E'.H) = some d := hd
        cases hd
        have mem := List.mem_of_getElem? ej
        have st11 := st10.kp0 k11
        have ed := st11.feed.ed E' mem
        ((try show Wp _ (hide _ ⟨⟩)) <;> simp -dsimp -implicitDefEqProofs <;> try with_reducible refine wp_fin ?_)
        refine (s__law_played (n + 3) hb hs st11.pl E'.H ed.ok ed.few).bind fun v S12 hv => ?_
        obtain ⟨k12, i, rfl, h12⟩ := hv
        ((try show Wp _ (hide _ ⟨⟩)) <;> simp -dsimp -implicitDefEqProofs [s__law_last_of (n + 22) hb hs E'.H i h12] <;> try with_reducible refine wp_fin ?_)
        refine ⟨k11.trans k12, ?_⟩
        rw [List.take_succ, ej]
        simp
    · intro acc S11 hi
      obtain ⟨k11, rfl⟩ := hi
      have st11 := st10.kp0 k11
      rw [List.take_length]
      ((try show Wp _ (hide _ ⟨⟩)) <;> simp -dsimp -implicitDefEqProofs <;> try with_reducible refine wp_fin ?_)
      have st12 := st11.kp0 (Kp.app (ms := []) [.lst (Es.map fun E => stp (stOf P (play P s0 E.H)))])
      have h12 := get_app_len S11 (.lst (Es.map fun E => stp (stOf P (play P s0 E.H)))) []
      have sqs : S11.length ≠ s := by have := st11.pool.lt; omega
      generalize S11.length = sq at h12 sqs ⊢
      generalize S11 ++ [MO.lst (Es.map fun E => stp (stOf P (play P s0 E.H)))] = S12 at h12 st12 ⊢
      have stok : ∀ E ∈ Es, StOk b (P.tr (play P s0 E.H)) (P.sh (play P s0 E.H)) := fun E hE => by
        have ed := st12.feed.ed E hE
        have g := ed.good hs
        have fw := ed.few
        exact ⟨P.ltr _ _ g, P.lsh _ _ g, fun x hx => by have := P.btr _ _ g x hx; omega, fun x hx => by have := P.bsh _ _ g x hx; omega⟩
      have eqt : ∀ (tr sh : List Int) (S : Store), opCmp .ne (.tup ((texts b nl ls tr sh).map .str)) (.tup ((texts b nl ls tr sh).map .str)) S = .ok (.bl false) S := fun tr sh S => ne_strs _ (ok_texts b nl hnm.pool ls tr sh) S
      ((try show Wp _ (hide _ ⟨⟩)) <;> simp -dsimp -implicitDefEqProofs [r_len h12, rngD_ok _ _ _ rfl (show Es.length ≤ 1000000 by omega)] <;> try with_reducible refine wp_fin ?_)
      refine Wp.foldR (fun j ρ S' => (∃ t15 t18, ρ = [some x, some (.ref s), some b.D, some (.int b.steps.length), some (.tup (nl.map .str)), some (.ref pl), some (.tup (ls.map tI)), t7, some (.ref f), some (.ref hh), t10, t11, t12, t13, t14, t15, some (.ref sq), none, t18, none]) ∧ Kp [] S12 S') Es.length ?_ ⟨⟨_, _, rfl⟩, Kp.rfl⟩ ?_
      · intro j hj ρ S13 hi
        obtain ⟨⟨t15, t18, rfl⟩, k13⟩ := hi
        have st13 := st12.kp0 k13
        have h13 := k13.get0 h12
        have ej : Es[j]? = some (Es[j]'hj) := List.getElem?_eq_getElem hj
        have i13 : ∀ S', Kp [] S13 S' → opIdx (.ref sq) (.int (j : Int)) S' = .ok (stD (P.tr (play P s0 Es[j].H)) (P.sh (play P s0 Es[j].H))) S' := fun S' k' => r_idx (k'.get0 h13) (by rw [List.getElem?_map, ej]; rfl)
        have sj := stok Es[j] (List.getElem_mem hj)
        ((try show Wp _ (hide _ ⟨⟩)) <;> simp -dsimp -implicitDefEqProofs [st13.feed.fd, s_Feed_state (n + 19) st13.feed j Es[j] ej, i13 S13 Kp.rfl, ne_state] <;> try with_reducible refine wp_fin ?_)
        refine (s_report (n + 17) b hb nl hnm ls okls hls _ _ sj S13).bind fun v S14 hv => ?_
        obtain ⟨rfl, k14⟩ := hv
        ((try show Wp _ (hide _ ⟨⟩)) <;> simp -dsimp -implicitDefEqProofs [i13 S14 k14] <;> try with_reducible refine wp_fin ?_)
        refine (s__law_report_due (n + 20) b hb nl hnm ls okls hls _ _ sj S14).bind fun v S15 hv => ?_
        obtain ⟨rfl, k15⟩ := hv
        ((try show Wp _ (hide _ ⟨⟩)) <;> simp -dsimp -implicitDefEqProofs [eqt] <;> try with_reducible refine wp_fin ?_)
        exact ⟨rfl, ⟨_, _, rfl⟩, (k13.trans k14).trans k15⟩
      · intro ρ S13 hi
        obtain ⟨⟨t15, t18, rfl⟩, k13⟩ := hi
        have st13 := st12.kp0 k13
        have h13 := k13.get0 h12
        ((try show Wp _ (hide _ ⟨⟩)) <;> simp -dsimp -implicitDefEqProofs [rngD_ok 2 2 _ rfl (by omega)] <;> try with_reducible refine wp_fin ?_)
        have e0 : Es[0]? = some (Es[0]'pos) := List.getElem?_eq_getElem pos
        have s0k := stok Es[0] (List.getElem_mem pos)
        refine Wp.foldR (fun j ρ S' => (∃ t7 t19, ρ = [some x, some (.ref s), some b.D, some (.int b.steps.length), some (.tup (nl.map .str)), some (.ref pl), some (.tup (ls.map tI)), t7, some (.ref f), some (.ref hh), t10, t11, t12, t13, t14, t15, some (.ref sq), none, t18, t19]) ∧ Pool s S' ∧ S'[sq]? = some (.lst (Es.map fun E => stp (stOf P (play P s0 E.H))))) 2 ?_ ⟨⟨_, _, rfl⟩, st13.pool, h13⟩ ?_
        · intro j hj ρ S14 hi
          obtain ⟨⟨t7, t19, rfl⟩, p14, h14⟩ := hi
          ((try show Wp _ (hide _ ⟨⟩)) <;> simp -dsimp -implicitDefEqProofs <;> try with_reducible refine wp_fin ?_)
          refine (s_far_state (n + 22) p14 b hb).bind fun v S15 hv => ?_
          obtain ⟨d15, tr, sh, rfl, z1, z2, z3, z4⟩ := hv
          have so : StOk b tr sh := ⟨z1, z2, fun y hy => by have := z3 y hy; omega, fun y hy => by have := z4 y hy; omega⟩
          ((try show Wp _ (hide _ ⟨⟩)) <;> simp -dsimp -implicitDefEqProofs <;> try with_reducible refine wp_fin ?_)
          refine (s_report (n + 17) b hb nl hnm ls okls hls tr sh so S15).bind fun v S16 hv => ?_
          obtain ⟨rfl, k16⟩ := hv
          ((try show Wp _ (hide _ ⟨⟩)) <;> simp -dsimp -implicitDefEqProofs <;> try with_reducible refine wp_fin ?_)
          refine (s__law_report_due (n + 20) b hb nl hnm ls okls hls tr sh so S16).bind fun v S17 hv => ?_
          obtain ⟨rfl, k17⟩ := hv
          ((try show Wp _ (hide _ ⟨⟩)) <;> simp -dsimp -implicitDefEqProofs [eqt] <;> try with_reducible refine wp_fin ?_)
          have k := k16.trans k17
          exact ⟨rfl, ⟨_, _, rfl⟩, d15.pool.kp k (by simp), k.get0 (d15.kp.get1 h14 sqs)⟩
        · intro ρ S14 hi
          obtain ⟨⟨t7, t19, rfl⟩, p14, h14⟩ := hi
          have i14 : opIdx (.ref sq) (.int 0) S14 = .ok (stD (P.tr (play P s0 Es[0].H)) (P.sh (play P s0 Es[0].H))) S14 := r_idx (n := 0) h14 (by rw [List.getElem?_map, e0]; rfl)
          ((try show Wp _ (hide _ ⟨⟩)) <;> simp -dsimp -implicitDefEqProofs [i14] <;> try with_reducible refine wp_fin ?_)
          refine (s_refused (n + 15) p14 b hb nl hnm ls okls hls _ _ s0k.l1 s0k.l2).bind fun v S15 hv => ?_
          subst hv
          ((try show Wp _ (hide _ ⟨⟩)) <;> simp -dsimp -implicitDefEqProofs [wp_ok])
end K76P
set_option Elab.async false
set_option linter.all false
set_option maxRecDepth 100000
set_option maxHeartbeats 0
/-! K10: the head: the top's run in three looks, joined -/
namespace K76P
open PySem PySem.W PySem.Calls PyProof.Rows
end K76P
set_option Elab.async false
set_option linter.all false
set_option maxRecDepth 100000
set_option maxHeartbeats 0
/-! K10b: the statement from LawIs -/
namespace K76P
open PySem PySem.W PySem.Calls PyProof.Rows
def obK (s : SharedT) : AlK := obsK exK (HandSHeadRun.getT s)
theorem obK_eq (s : SharedT) : obK s = (hookK exK).obs s.abs := obsK_eq (HandSHeadRun.getT_eq s)
theorem run_all (w : World) : HandSHeadRun.RunEq R qv (hookK exK) obK 40000 names w := by
  intro os
  have a := run_a w os
  have b := run_b w os
  have c := run_c w os
  show (runS w os).map _ = _
  cases e : runS w os with
  | none =>
    rw [e] at a
    cases a
  | some s =>
    rw [e] at a b c
    have a := Option.some.inj a
    have b := Option.some.inj b
    have c := Option.some.inj c
    obtain ⟨a1, a2⟩ := Prod.mk.inj a
    exact congrArg some (Prod.ext a1 (Prod.ext a2 (Prod.ext b c)))
theorem cx_no (w : World) (H : L2.Hp) (s : Shared) (e : Value) (s' : Shared) (h : L2.CX prog w [] H s (fun _ _ _ => False) e s') : False := by
  obtain ⟨_, _, _, _, _, _, _, _, _, _, _, _, z⟩ := h
  exact z.elim
theorem room_a : L2.Room 166 callerA := ⟨rfl, by decide, by decide⟩
end K76P
open PySem PySem.W PySem.Calls PyProof.Rows
theorem holds_of (hl : K76P.LawIs 41) : PySem.Challenge.rw_byhalves_k76_whole_reports_behind_correc.Holds := by
  w_on; o_law
  refine HandSHeadRun.head_any (r := K76P.R) (q := K76P.qv) (H := K76P.hookK K76P.exK) (ob := K76P.obK) (M := 40000) (loose := K76P.names) (d := HandSHeadRun.topDef K76P.R.prog 153) (kwd := []) K76P.obK_eq
    (by kernel_rfl) (fun s => by kernel_rfl) K76P.run_all (by kernel_rfl) (by kernel_rfl) (by kernel_rfl) (by rfl) (by first | assumption | decide +kernel) (by decide +kernel) ⟨rfl, rfl, rfl, rfl, rfl, by decide +kernel⟩ ?hw ?hc
  case hw => w_witness2
  case hc =>
    refine LamX.walk_ofTsE (l := PySem.Challenge.rw_byhalves_k76_whole_reports_behind_correc) (n := 63) (k := 166) (x := "_law_script") (CX := L2.CX K76P.prog) rfl (by decide) (by kernel_rfl) K76P.room_a ?F K76P.cx_no
    intro w mg fa h Y G hmg0
    obtain ⟨K, KX, c⟩ := Y
    have hmg : mg ("law" : PySem.Str) = some (.ref fa) := by
      have e : (HandSHeadRun.topDef K76P.R.prog 153).name = ("law" : PySem.Str) := by kernel_rfl
      rw [← e]
      exact hmg0
    exact ⟨K, KX, K76P.law_at (j := 40) hl KX G c hmg⟩
set_option Elab.async false
set_option linter.all false
set_option maxRecDepth 100000
set_option autoImplicit false
set_option maxHeartbeats 2000000
/-! P18: the law holds -/
namespace K76P
open PySem K76
theorem law_is : LawIs 41 := fun ns => by
  constructor
  · obtain ⟨v, S', e, rfl⟩ := law_wp 16 (.fl (ns.map .int)) ns [] (by simp [opBI]) (fun a r h => by subst h; simp [opIdx, L2.atI, L2.ixN]) (fun h => by subst h; exact nil_ints .neNil [] [] (.inr rfl))
    exact ⟨S', e⟩
  · obtain ⟨v, S', e, rfl⟩ := law_wp 16 (.ref 0) ns [.lst (ns.map .int)] (by simp [opBI]) (fun a r h => by subst h; simp [opIdx, L2.atI, L2.ixN]) (fun h => by subst h; exact nil_ints .neNil [] _ (.inr rfl))
    exact ⟨S', e⟩
end K76P
theorem PySem.Challenge.cw_byhalves_k76_whole_reports_behind_correc_holds : PySem.Challenge.rw_byhalves_k76_whole_reports_behind_correc.Holds :=
  holds_of K76P.law_is
