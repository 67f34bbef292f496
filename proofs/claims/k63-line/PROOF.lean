import PyProof.Rows.All
import Wide.All
import OpenK.AllK
import Wide.FinOn
import KE.KStateDown
import HandS.ForMost
import HandS.Exc
import HandS.Defaults
import HandS.HeadHook1
import HandS.HeadHook2
import PySem.Challenge.RW_backstair_k63_whole_a_line_does_both_way
import HandS.Head0
import HandS.Head1
import HandS.Head2
import HandS.HeadEnd
import HandS.Evl
import HandS.IsInst
import HandS.TupAny
import HandS.Zip
import HandS.Style
import HandS.SetKeys
import HandS.Steps
import HandS.DictComp
import HandS.Walk
set_option Elab.async false
set_option linter.all false
set_option maxRecDepth 100000
set_option maxHeartbeats 4000000
/-! printed by gen.py: the text by places, the facts asked of its head -/
namespace Bk
open PySem PySem.Spec PyProof.Rows L2
def top (i : Nat) : Stmt := PySem.Challenge.pw_backstair_k63_whole_a_line_does_both_way.main.body.getD i (.Pass ⟨0, 0, 0, 0⟩)
abbrev FnP (K : PySem.W.Frag) (x qual : Str) (st : Stmt) (f : Addr) (fd : FuncData) : Prop := FunD K x qual (defArgs st) (defBody st) (defScope st) [] [] f fd
abbrev s_trimmed : Stmt := top 8
def d_trimmed : He.DefD := ⟨("trimmed", none), "trimmed", "trimmed", defArgs s_trimmed, defBody s_trimmed, defScope s_trimmed, [], []⟩
abbrev s_is_number : Stmt := top 14
def d_is_number : He.DefD := ⟨("is_number", none), "is_number", "is_number", defArgs s_is_number, defBody s_is_number, defScope s_is_number, [], []⟩
abbrev s_is_tuple : Stmt := top 15
def d_is_tuple : He.DefD := ⟨("is_tuple", none), "is_tuple", "is_tuple", defArgs s_is_tuple, defBody s_is_tuple, defScope s_is_tuple, [], []⟩
abbrev s_backward : Stmt := top 16
def d_backward : He.DefD := ⟨("backward", none), "backward", "backward", defArgs s_backward, defBody s_backward, defScope s_backward, [], []⟩
abbrev s_first_clash : Stmt := top 17
def d_first_clash : He.DefD := ⟨("first_clash", none), "first_clash", "first_clash", defArgs s_first_clash, defBody s_first_clash, defScope s_first_clash, [], []⟩
abbrev s_clash_among : Stmt := top 18
def d_clash_among : He.DefD := ⟨("_clash_among", none), "_clash_among", "_clash_among", defArgs s_clash_among, defBody s_clash_among, defScope s_clash_among, [], []⟩
abbrev s_Several_init : Stmt := inClass (top 19) 0
def d_Several_init : He.DefD := ⟨("Several", some "__init__"), "__init__", "Several.__init__", defArgs s_Several_init, defBody s_Several_init, defScope s_Several_init, [], []⟩
abbrev s_Several_is_row : Stmt := inClass (top 19) 1
def d_Several_is_row : He.DefD := ⟨("Several", some "_is_row"), "_is_row", "Several._is_row", defArgs s_Several_is_row, defBody s_Several_is_row, defScope s_Several_is_row, [], []⟩
abbrev s_Several_table : Stmt := inClass (top 19) 2
def d_Several_table : He.DefD := ⟨("Several", some "table"), "table", "Several.table", defArgs s_Several_table, defBody s_Several_table, defScope s_Several_table, [], []⟩
abbrev s_Several_back_clash : Stmt := inClass (top 19) 3
def d_Several_back_clash : He.DefD := ⟨("Several", some "back_clash"), "back_clash", "Several.back_clash", defArgs s_Several_back_clash, defBody s_Several_back_clash, defScope s_Several_back_clash, [], []⟩
abbrev s_Several_step : Stmt := inClass (top 19) 7
def d_Several_step : He.DefD := ⟨("Several", some "step"), "step", "Several.step", defArgs s_Several_step, defBody s_Several_step, defScope s_Several_step, [], []⟩
abbrev s_table_of : Stmt := top 20
def d_table_of : He.DefD := ⟨("_table_of", none), "_table_of", "_table_of", defArgs s_table_of, defBody s_table_of, defScope s_table_of, [], []⟩
abbrev s_trimmed_tape : Stmt := top 21
def d_trimmed_tape : He.DefD := ⟨("trimmed_tape", none), "trimmed_tape", "trimmed_tape", defArgs s_trimmed_tape, defBody s_trimmed_tape, defScope s_trimmed_tape, [], []⟩
abbrev s_moved_tape : Stmt := top 22
def d_moved_tape : He.DefD := ⟨("moved_tape", none), "moved_tape", "moved_tape", defArgs s_moved_tape, defBody s_moved_tape, defScope s_moved_tape, [], []⟩
abbrev s_taken : Stmt := top 23
def d_taken : He.DefD := ⟨("_taken", none), "_taken", "_taken", defArgs s_taken, defBody s_taken, defScope s_taken, [], []⟩
abbrev s_clash : Stmt := top 26
def d_clash : He.DefD := ⟨("clash", none), "clash", "clash", defArgs s_clash, defBody s_clash, defScope s_clash, [], []⟩
abbrev s_is_triple : Stmt := top 30
def d_is_triple : He.DefD := ⟨("_is_triple", none), "_is_triple", "_is_triple", defArgs s_is_triple, defBody s_is_triple, defScope s_is_triple, [], []⟩
abbrev s_all_triples : Stmt := top 31
def d_all_triples : He.DefD := ⟨("_all_triples", none), "_all_triples", "_all_triples", defArgs s_all_triples, defBody s_all_triples, defScope s_all_triples, [], []⟩
abbrev s_check_sizes : Stmt := top 32
def d_check_sizes : He.DefD := ⟨("check_sizes", none), "check_sizes", "check_sizes", defArgs s_check_sizes, defBody s_check_sizes, defScope s_check_sizes, [], []⟩
abbrev s_trimmed_line : Stmt := top 33
def d_trimmed_line : He.DefD := ⟨("_trimmed_line", none), "_trimmed_line", "_trimmed_line", defArgs s_trimmed_line, defBody s_trimmed_line, defScope s_trimmed_line, [], []⟩
abbrev s_Parts_init : Stmt := inClass (top 34) 0
def d_Parts_init : He.DefD := ⟨("Parts", some "__init__"), "__init__", "Parts.__init__", defArgs s_Parts_init, defBody s_Parts_init, defScope s_Parts_init, [], []⟩
abbrev s_Parts_following : Stmt := inClass (top 34) 4
def d_Parts_following : He.DefD := ⟨("Parts", some "_following"), "_following", "Parts._following", defArgs s_Parts_following, defBody s_Parts_following, defScope s_Parts_following, [], []⟩
abbrev s_Parts_step : Stmt := inClass (top 34) 5
def d_Parts_step : He.DefD := ⟨("Parts", some "step"), "step", "Parts.step", defArgs s_Parts_step, defBody s_Parts_step, defScope s_Parts_step, [], []⟩
abbrev s_Parts_back : Stmt := inClass (top 34) 6
def d_Parts_back : He.DefD := ⟨("Parts", some "back"), "back", "Parts.back", defArgs s_Parts_back, defBody s_Parts_back, defScope s_Parts_back, [], []⟩
abbrev s_Parts_run : Stmt := inClass (top 34) 7
def d_Parts_run : He.DefD := ⟨("Parts", some "run"), "run", "Parts.run", defArgs s_Parts_run, defBody s_Parts_run, defScope s_Parts_run, [], []⟩
abbrev s_Parts_run_back : Stmt := inClass (top 34) 8
def d_Parts_run_back : He.DefD := ⟨("Parts", some "run_back"), "run_back", "Parts.run_back", defArgs s_Parts_run_back, defBody s_Parts_run_back, defScope s_Parts_run_back, [], []⟩
abbrev s_head_letter : Stmt := top 36
def d_head_letter : He.DefD := ⟨("head_letter", none), "head_letter", "head_letter", defArgs s_head_letter, defBody s_head_letter, defScope s_head_letter, [], []⟩
abbrev s_line_of : Stmt := top 37
def d_line_of : He.DefD := ⟨("line_of", none), "line_of", "line_of", defArgs s_line_of, defBody s_line_of, defScope s_line_of, [], []⟩
abbrev s_tape_in : Stmt := top 38
def d_tape_in : He.DefD := ⟨("tape_in", none), "tape_in", "tape_in", defArgs s_tape_in, defBody s_tape_in, defScope s_tape_in, [], []⟩
abbrev s_PartStair_init : Stmt := inClass (top 39) 0
def d_PartStair_init : He.DefD := ⟨("PartStair", some "__init__"), "__init__", "PartStair.__init__", defArgs s_PartStair_init, defBody s_PartStair_init, defScope s_PartStair_init, [], []⟩
abbrev s_PartStair_add_move : Stmt := inClass (top 39) 1
def d_PartStair_add_move : He.DefD := ⟨("PartStair", some "_add_move"), "_add_move", "PartStair._add_move", defArgs s_PartStair_add_move, defBody s_PartStair_add_move, defScope s_PartStair_add_move, [], []⟩
abbrev s_PartStair_down : Stmt := inClass (top 39) 2
def d_PartStair_down : He.DefD := ⟨("PartStair", some "down"), "down", "PartStair.down", defArgs s_PartStair_down, defBody s_PartStair_down, defScope s_PartStair_down, [], []⟩
abbrev s_PartStair_up : Stmt := inClass (top 39) 3
def d_PartStair_up : He.DefD := ⟨("PartStair", some "up"), "up", "PartStair.up", defArgs s_PartStair_up, defBody s_PartStair_up, defScope s_PartStair_up, [], []⟩
abbrev s_PartStair_pace : Stmt := inClass (top 39) 4
def d_PartStair_pace : He.DefD := ⟨("PartStair", some "pace"), "pace", "PartStair.pace", defArgs s_PartStair_pace, defBody s_PartStair_pace, defScope s_PartStair_pace, [], []⟩
abbrev s_law_cell : Stmt := top 42
def d_law_cell : He.DefD := ⟨("_law_cell", none), "_law_cell", "_law_cell", defArgs s_law_cell, defBody s_law_cell, defScope s_law_cell, [], []⟩
abbrev s_law_mixed : Stmt := top 43
def d_law_mixed : He.DefD := ⟨("_law_mixed", none), "_law_mixed", "_law_mixed", defArgs s_law_mixed, defBody s_law_mixed, defScope s_law_mixed, [], []⟩
abbrev s_law_digits : Stmt := top 44
def d_law_digits : He.DefD := ⟨("_law_digits", none), "_law_digits", "_law_digits", defArgs s_law_digits, defBody s_law_digits, defScope s_law_digits, [], []⟩
abbrev s_law_clash : Stmt := top 45
def d_law_clash : He.DefD := ⟨("_law_clash", none), "_law_clash", "_law_clash", defArgs s_law_clash, defBody s_law_clash, defScope s_law_clash, [], []⟩
abbrev s_law_mark : Stmt := top 46
def d_law_mark : He.DefD := ⟨("_law_mark", none), "_law_mark", "_law_mark", defArgs s_law_mark, defBody s_law_mark, defScope s_law_mark, [], []⟩
abbrev s_law_row : Stmt := top 47
def d_law_row : He.DefD := ⟨("_law_row", none), "_law_row", "_law_row", defArgs s_law_row, defBody s_law_row, defScope s_law_row, [], []⟩
abbrev s_law_rows : Stmt := top 49
def d_law_rows : He.DefD := ⟨("_law_rows", none), "_law_rows", "_law_rows", defArgs s_law_rows, defBody s_law_rows, defScope s_law_rows, [], []⟩
abbrev s_law_trim : Stmt := top 50
def d_law_trim : He.DefD := ⟨("_law_trim", none), "_law_trim", "_law_trim", defArgs s_law_trim, defBody s_law_trim, defScope s_law_trim, [], []⟩
abbrev s_law_configuration : Stmt := top 51
def d_law_configuration : He.DefD := ⟨("_law_configuration", none), "_law_configuration", "_law_configuration", defArgs s_law_configuration, defBody s_law_configuration, defScope s_law_configuration, [], []⟩
abbrev s_law_moved : Stmt := top 52
def d_law_moved : He.DefD := ⟨("_law_moved", none), "_law_moved", "_law_moved", defArgs s_law_moved, defBody s_law_moved, defScope s_law_moved, [], []⟩
abbrev s_law_after : Stmt := top 53
def d_law_after : He.DefD := ⟨("_law_after", none), "_law_after", "_law_after", defArgs s_law_after, defBody s_law_after, defScope s_law_after, [], []⟩
abbrev s_law : Stmt := top 55
def d_law : He.DefD := ⟨("law", none), "law", "law", defArgs s_law, defBody s_law, defScope s_law, [], []⟩
def fn1 : List He.DefD := [d_trimmed, d_is_number, d_is_tuple, d_backward, d_first_clash, d_clash_among, d_Several_init, d_Several_is_row, d_Several_table, d_Several_back_clash, d_Several_step, d_table_of, d_trimmed_tape, d_moved_tape, d_taken, d_clash, d_is_triple, d_all_triples, d_check_sizes, d_trimmed_line, d_Parts_init, d_Parts_following, d_Parts_step]
def fn2 : List He.DefD := [d_Parts_back, d_Parts_run, d_Parts_run_back, d_head_letter, d_line_of, d_tape_in, d_PartStair_init, d_PartStair_add_move, d_PartStair_down, d_PartStair_up, d_PartStair_pace, d_law_cell, d_law_mixed, d_law_digits, d_law_clash, d_law_mark, d_law_row, d_law_rows, d_law_trim, d_law_configuration, d_law_moved, d_law_after, d_law]
def fn : List He.DefD := fn1 ++ fn2
def fa0 : List He.Fa := [.glo "trimmed", .glo "is_number", .glo "is_tuple", .glo "backward", .glo "first_clash", .glo "_clash_among", .glo "_table_of", .glo "trimmed_tape", .glo "moved_tape", .glo "_taken", .glo "clash", .glo "_is_triple", .glo "_all_triples", .glo "check_sizes", .glo "_trimmed_line", .glo "head_letter", .glo "line_of", .glo "tape_in", .glo "_law_cell", .glo "_law_mixed", .glo "_law_digits", .glo "_law_clash", .glo "_law_mark", .glo "_law_row", .glo "_law_rows", .glo "_law_trim", .glo "_law_configuration", .glo "_law_moved", .glo "_law_after", .glo "law"]
def fa1 : List He.Fa := [.glo "Several", .glo "Parts", .glo "PartStair", .glo "QUIET", .free "len", .free "tuple", .free "isinstance", .free "int", .free "bool", .free "all", .free "any", .free "zip", .free "range", .free "list", .free "enumerate", .int "MOST_TAPES" 4, .int "MOST_MARKS" 400, .int "MOST_STATES" 5000, .int "MOST_ROWS" 20000, .int "MOST_TRIPLES" 40000, .cls "Several", .mkr "Several", .cls "Parts", .mkr "Parts", .cls "PartStair", .mkr "PartStair", .noat "Several" "tapes", .noat "Several" "marks", .noat "Several" "states", .noat "Several" "_rows"]
def fa2 : List He.Fa := [.noat "Several" "_back_clash", .noat "Several" "_by_state", .noat "Several" "_by_next", .noat "Parts" "sizes", .noat "Parts" "_rule", .noat "Parts" "_sources", .noat "PartStair" "upper", .noat "PartStair" "lower", .meth "Several" "_is_row", .meth "Several" "table", .meth "Several" "back_clash", .meth "Several" "step", .meth "Parts" "_following", .meth "Parts" "step", .meth "Parts" "back", .meth "Parts" "run", .meth "Parts" "run_back", .meth "PartStair" "_add_move", .meth "PartStair" "down", .meth "PartStair" "up", .meth "PartStair" "pace"]
def fa : List He.Fa := fa0 ++ (fa1 ++ (fa2))
def quietD : List He.Dv := [.int 0, .int 0, .int 0]
/-- the head's word: the facts, the defs, QUIET's tuple -/
structure Txt (K : PySem.W.Frag) (mg : Str → Option Value) : Prop where
  says : He.SaysD fa fn K
  quiet : He.tupB K "QUIET" quietD = true
  glob : ∃ h : Heap, K.In h ∧ h.Ns mainGlobals mg
section
variable {K : PySem.W.Frag} {mg : Str → Option Value}
theorem Txt.fact (T : Txt K mg) (i : Nat) {f : He.Fa} (h : fa[i]? = some f := by rfl) : f.ok K = true := T.says.fact i h
theorem Txt.q (T : Txt K mg) (H : Hp) : SqT K H (He.ga K "QUIET") [.int 0, .int 0, .int 0] := He.tupB_ok T.quiet H
theorem Txt.g_trimmed (T : Txt K mg) : mg "trimmed" = some (.ref (He.ga K "trimmed")) := let ⟨_, X, G⟩ := T.glob; He.glo_ok X G (T.fact 0 (f := .glo "trimmed") rfl)
theorem Txt.g_is_number (T : Txt K mg) : mg "is_number" = some (.ref (He.ga K "is_number")) := let ⟨_, X, G⟩ := T.glob; He.glo_ok X G (T.fact 1 (f := .glo "is_number") rfl)
theorem Txt.g_is_tuple (T : Txt K mg) : mg "is_tuple" = some (.ref (He.ga K "is_tuple")) := let ⟨_, X, G⟩ := T.glob; He.glo_ok X G (T.fact 2 (f := .glo "is_tuple") rfl)
theorem Txt.g_backward (T : Txt K mg) : mg "backward" = some (.ref (He.ga K "backward")) := let ⟨_, X, G⟩ := T.glob; He.glo_ok X G (T.fact 3 (f := .glo "backward") rfl)
theorem Txt.g_first_clash (T : Txt K mg) : mg "first_clash" = some (.ref (He.ga K "first_clash")) := let ⟨_, X, G⟩ := T.glob; He.glo_ok X G (T.fact 4 (f := .glo "first_clash") rfl)
theorem Txt.g_clash_among (T : Txt K mg) : mg "_clash_among" = some (.ref (He.ga K "_clash_among")) := let ⟨_, X, G⟩ := T.glob; He.glo_ok X G (T.fact 5 (f := .glo "_clash_among") rfl)
theorem Txt.g_table_of (T : Txt K mg) : mg "_table_of" = some (.ref (He.ga K "_table_of")) := let ⟨_, X, G⟩ := T.glob; He.glo_ok X G (T.fact 6 (f := .glo "_table_of") rfl)
theorem Txt.g_trimmed_tape (T : Txt K mg) : mg "trimmed_tape" = some (.ref (He.ga K "trimmed_tape")) := let ⟨_, X, G⟩ := T.glob; He.glo_ok X G (T.fact 7 (f := .glo "trimmed_tape") rfl)
theorem Txt.g_moved_tape (T : Txt K mg) : mg "moved_tape" = some (.ref (He.ga K "moved_tape")) := let ⟨_, X, G⟩ := T.glob; He.glo_ok X G (T.fact 8 (f := .glo "moved_tape") rfl)
theorem Txt.g_taken (T : Txt K mg) : mg "_taken" = some (.ref (He.ga K "_taken")) := let ⟨_, X, G⟩ := T.glob; He.glo_ok X G (T.fact 9 (f := .glo "_taken") rfl)
theorem Txt.g_clash (T : Txt K mg) : mg "clash" = some (.ref (He.ga K "clash")) := let ⟨_, X, G⟩ := T.glob; He.glo_ok X G (T.fact 10 (f := .glo "clash") rfl)
theorem Txt.g_is_triple (T : Txt K mg) : mg "_is_triple" = some (.ref (He.ga K "_is_triple")) := let ⟨_, X, G⟩ := T.glob; He.glo_ok X G (T.fact 11 (f := .glo "_is_triple") rfl)
theorem Txt.g_all_triples (T : Txt K mg) : mg "_all_triples" = some (.ref (He.ga K "_all_triples")) := let ⟨_, X, G⟩ := T.glob; He.glo_ok X G (T.fact 12 (f := .glo "_all_triples") rfl)
theorem Txt.g_check_sizes (T : Txt K mg) : mg "check_sizes" = some (.ref (He.ga K "check_sizes")) := let ⟨_, X, G⟩ := T.glob; He.glo_ok X G (T.fact 13 (f := .glo "check_sizes") rfl)
theorem Txt.g_trimmed_line (T : Txt K mg) : mg "_trimmed_line" = some (.ref (He.ga K "_trimmed_line")) := let ⟨_, X, G⟩ := T.glob; He.glo_ok X G (T.fact 14 (f := .glo "_trimmed_line") rfl)
theorem Txt.g_head_letter (T : Txt K mg) : mg "head_letter" = some (.ref (He.ga K "head_letter")) := let ⟨_, X, G⟩ := T.glob; He.glo_ok X G (T.fact 15 (f := .glo "head_letter") rfl)
theorem Txt.g_line_of (T : Txt K mg) : mg "line_of" = some (.ref (He.ga K "line_of")) := let ⟨_, X, G⟩ := T.glob; He.glo_ok X G (T.fact 16 (f := .glo "line_of") rfl)
theorem Txt.g_tape_in (T : Txt K mg) : mg "tape_in" = some (.ref (He.ga K "tape_in")) := let ⟨_, X, G⟩ := T.glob; He.glo_ok X G (T.fact 17 (f := .glo "tape_in") rfl)
theorem Txt.g_law_cell (T : Txt K mg) : mg "_law_cell" = some (.ref (He.ga K "_law_cell")) := let ⟨_, X, G⟩ := T.glob; He.glo_ok X G (T.fact 18 (f := .glo "_law_cell") rfl)
theorem Txt.g_law_mixed (T : Txt K mg) : mg "_law_mixed" = some (.ref (He.ga K "_law_mixed")) := let ⟨_, X, G⟩ := T.glob; He.glo_ok X G (T.fact 19 (f := .glo "_law_mixed") rfl)
theorem Txt.g_law_digits (T : Txt K mg) : mg "_law_digits" = some (.ref (He.ga K "_law_digits")) := let ⟨_, X, G⟩ := T.glob; He.glo_ok X G (T.fact 20 (f := .glo "_law_digits") rfl)
theorem Txt.g_law_clash (T : Txt K mg) : mg "_law_clash" = some (.ref (He.ga K "_law_clash")) := let ⟨_, X, G⟩ := T.glob; He.glo_ok X G (T.fact 21 (f := .glo "_law_clash") rfl)
theorem Txt.g_law_mark (T : Txt K mg) : mg "_law_mark" = some (.ref (He.ga K "_law_mark")) := let ⟨_, X, G⟩ := T.glob; He.glo_ok X G (T.fact 22 (f := .glo "_law_mark") rfl)
theorem Txt.g_law_row (T : Txt K mg) : mg "_law_row" = some (.ref (He.ga K "_law_row")) := let ⟨_, X, G⟩ := T.glob; He.glo_ok X G (T.fact 23 (f := .glo "_law_row") rfl)
theorem Txt.g_law_rows (T : Txt K mg) : mg "_law_rows" = some (.ref (He.ga K "_law_rows")) := let ⟨_, X, G⟩ := T.glob; He.glo_ok X G (T.fact 24 (f := .glo "_law_rows") rfl)
theorem Txt.g_law_trim (T : Txt K mg) : mg "_law_trim" = some (.ref (He.ga K "_law_trim")) := let ⟨_, X, G⟩ := T.glob; He.glo_ok X G (T.fact 25 (f := .glo "_law_trim") rfl)
theorem Txt.g_law_configuration (T : Txt K mg) : mg "_law_configuration" = some (.ref (He.ga K "_law_configuration")) := let ⟨_, X, G⟩ := T.glob; He.glo_ok X G (T.fact 26 (f := .glo "_law_configuration") rfl)
theorem Txt.g_law_moved (T : Txt K mg) : mg "_law_moved" = some (.ref (He.ga K "_law_moved")) := let ⟨_, X, G⟩ := T.glob; He.glo_ok X G (T.fact 27 (f := .glo "_law_moved") rfl)
theorem Txt.g_law_after (T : Txt K mg) : mg "_law_after" = some (.ref (He.ga K "_law_after")) := let ⟨_, X, G⟩ := T.glob; He.glo_ok X G (T.fact 28 (f := .glo "_law_after") rfl)
theorem Txt.g_law (T : Txt K mg) : mg "law" = some (.ref (He.ga K "law")) := let ⟨_, X, G⟩ := T.glob; He.glo_ok X G (T.fact 29 (f := .glo "law") rfl)
theorem Txt.g_Several (T : Txt K mg) : mg "Several" = some (.ref (He.ga K "Several")) := let ⟨_, X, G⟩ := T.glob; He.glo_ok X G (T.fact 30 (f := .glo "Several") rfl)
theorem Txt.g_Parts (T : Txt K mg) : mg "Parts" = some (.ref (He.ga K "Parts")) := let ⟨_, X, G⟩ := T.glob; He.glo_ok X G (T.fact 31 (f := .glo "Parts") rfl)
theorem Txt.g_PartStair (T : Txt K mg) : mg "PartStair" = some (.ref (He.ga K "PartStair")) := let ⟨_, X, G⟩ := T.glob; He.glo_ok X G (T.fact 32 (f := .glo "PartStair") rfl)
theorem Txt.g_QUIET (T : Txt K mg) : mg "QUIET" = some (.ref (He.ga K "QUIET")) := let ⟨_, X, G⟩ := T.glob; He.glo_ok X G (T.fact 33 (f := .glo "QUIET") rfl)
theorem Txt.z_len (T : Txt K mg) : mg "len" = none := let ⟨_, X, G⟩ := T.glob; He.free_ok X G (T.fact 34 (f := .free "len") rfl)
theorem Txt.z_tuple (T : Txt K mg) : mg "tuple" = none := let ⟨_, X, G⟩ := T.glob; He.free_ok X G (T.fact 35 (f := .free "tuple") rfl)
theorem Txt.z_isinstance (T : Txt K mg) : mg "isinstance" = none := let ⟨_, X, G⟩ := T.glob; He.free_ok X G (T.fact 36 (f := .free "isinstance") rfl)
theorem Txt.z_int (T : Txt K mg) : mg "int" = none := let ⟨_, X, G⟩ := T.glob; He.free_ok X G (T.fact 37 (f := .free "int") rfl)
theorem Txt.z_bool (T : Txt K mg) : mg "bool" = none := let ⟨_, X, G⟩ := T.glob; He.free_ok X G (T.fact 38 (f := .free "bool") rfl)
theorem Txt.z_all (T : Txt K mg) : mg "all" = none := let ⟨_, X, G⟩ := T.glob; He.free_ok X G (T.fact 39 (f := .free "all") rfl)
theorem Txt.z_any (T : Txt K mg) : mg "any" = none := let ⟨_, X, G⟩ := T.glob; He.free_ok X G (T.fact 40 (f := .free "any") rfl)
theorem Txt.z_zip (T : Txt K mg) : mg "zip" = none := let ⟨_, X, G⟩ := T.glob; He.free_ok X G (T.fact 41 (f := .free "zip") rfl)
theorem Txt.z_range (T : Txt K mg) : mg "range" = none := let ⟨_, X, G⟩ := T.glob; He.free_ok X G (T.fact 42 (f := .free "range") rfl)
theorem Txt.z_list (T : Txt K mg) : mg "list" = none := let ⟨_, X, G⟩ := T.glob; He.free_ok X G (T.fact 43 (f := .free "list") rfl)
theorem Txt.z_enumerate (T : Txt K mg) : mg "enumerate" = none := let ⟨_, X, G⟩ := T.glob; He.free_ok X G (T.fact 44 (f := .free "enumerate") rfl)
theorem Txt.i_MOST_TAPES (T : Txt K mg) : ∃ t, mg "MOST_TAPES" = some (.int 4 t) := let ⟨_, X, G⟩ := T.glob; He.int_ok X G (T.fact 45 (f := .int "MOST_TAPES" 4) rfl)
theorem Txt.i_MOST_MARKS (T : Txt K mg) : ∃ t, mg "MOST_MARKS" = some (.int 400 t) := let ⟨_, X, G⟩ := T.glob; He.int_ok X G (T.fact 46 (f := .int "MOST_MARKS" 400) rfl)
theorem Txt.i_MOST_STATES (T : Txt K mg) : ∃ t, mg "MOST_STATES" = some (.int 5000 t) := let ⟨_, X, G⟩ := T.glob; He.int_ok X G (T.fact 47 (f := .int "MOST_STATES" 5000) rfl)
theorem Txt.i_MOST_ROWS (T : Txt K mg) : ∃ t, mg "MOST_ROWS" = some (.int 20000 t) := let ⟨_, X, G⟩ := T.glob; He.int_ok X G (T.fact 48 (f := .int "MOST_ROWS" 20000) rfl)
theorem Txt.i_MOST_TRIPLES (T : Txt K mg) : ∃ t, mg "MOST_TRIPLES" = some (.int 40000 t) := let ⟨_, X, G⟩ := T.glob; He.int_ok X G (T.fact 49 (f := .int "MOST_TRIPLES" 40000) rfl)
theorem Txt.cl_Several (T : Txt K mg) : Cls K (He.ga K "Several") := He.cls_ok (T.fact 50 (f := .cls "Several") rfl)
theorem Txt.mk_Several (T : Txt K mg) : Mk K (He.ga K "Several") (He.ma K (He.ga K "Several") "__init__") := He.mkr_ok (T.fact 51 (f := .mkr "Several") rfl)
theorem Txt.cl_Parts (T : Txt K mg) : Cls K (He.ga K "Parts") := He.cls_ok (T.fact 52 (f := .cls "Parts") rfl)
theorem Txt.mk_Parts (T : Txt K mg) : Mk K (He.ga K "Parts") (He.ma K (He.ga K "Parts") "__init__") := He.mkr_ok (T.fact 53 (f := .mkr "Parts") rfl)
theorem Txt.cl_PartStair (T : Txt K mg) : Cls K (He.ga K "PartStair") := He.cls_ok (T.fact 54 (f := .cls "PartStair") rfl)
theorem Txt.mk_PartStair (T : Txt K mg) : Mk K (He.ga K "PartStair") (He.ma K (He.ga K "PartStair") "__init__") := He.mkr_ok (T.fact 55 (f := .mkr "PartStair") rfl)
theorem Txt.n_Several_tapes (T : Txt K mg) : NoAttr K (He.ga K "Several") "tapes" := He.noat_ok (T.fact 56 (f := .noat "Several" "tapes") rfl)
theorem Txt.n_Several_marks (T : Txt K mg) : NoAttr K (He.ga K "Several") "marks" := He.noat_ok (T.fact 57 (f := .noat "Several" "marks") rfl)
theorem Txt.n_Several_states (T : Txt K mg) : NoAttr K (He.ga K "Several") "states" := He.noat_ok (T.fact 58 (f := .noat "Several" "states") rfl)
theorem Txt.n_Several_rows (T : Txt K mg) : NoAttr K (He.ga K "Several") "_rows" := He.noat_ok (T.fact 59 (f := .noat "Several" "_rows") rfl)
theorem Txt.n_Several_back_clash (T : Txt K mg) : NoAttr K (He.ga K "Several") "_back_clash" := He.noat_ok (T.fact 60 (f := .noat "Several" "_back_clash") rfl)
theorem Txt.n_Several_by_state (T : Txt K mg) : NoAttr K (He.ga K "Several") "_by_state" := He.noat_ok (T.fact 61 (f := .noat "Several" "_by_state") rfl)
theorem Txt.n_Several_by_next (T : Txt K mg) : NoAttr K (He.ga K "Several") "_by_next" := He.noat_ok (T.fact 62 (f := .noat "Several" "_by_next") rfl)
theorem Txt.n_Parts_sizes (T : Txt K mg) : NoAttr K (He.ga K "Parts") "sizes" := He.noat_ok (T.fact 63 (f := .noat "Parts" "sizes") rfl)
theorem Txt.n_Parts_rule (T : Txt K mg) : NoAttr K (He.ga K "Parts") "_rule" := He.noat_ok (T.fact 64 (f := .noat "Parts" "_rule") rfl)
theorem Txt.n_Parts_sources (T : Txt K mg) : NoAttr K (He.ga K "Parts") "_sources" := He.noat_ok (T.fact 65 (f := .noat "Parts" "_sources") rfl)
theorem Txt.n_PartStair_upper (T : Txt K mg) : NoAttr K (He.ga K "PartStair") "upper" := He.noat_ok (T.fact 66 (f := .noat "PartStair" "upper") rfl)
theorem Txt.n_PartStair_lower (T : Txt K mg) : NoAttr K (He.ga K "PartStair") "lower" := He.noat_ok (T.fact 67 (f := .noat "PartStair" "lower") rfl)
theorem Txt.m_Several_is_row (T : Txt K mg) : Meth K (He.ga K "Several") "_is_row" (He.ma K (He.ga K "Several") "_is_row") := He.meth_ok (T.fact 68 (f := .meth "Several" "_is_row") rfl)
theorem Txt.m_Several_table (T : Txt K mg) : Meth K (He.ga K "Several") "table" (He.ma K (He.ga K "Several") "table") := He.meth_ok (T.fact 69 (f := .meth "Several" "table") rfl)
theorem Txt.m_Several_back_clash (T : Txt K mg) : Meth K (He.ga K "Several") "back_clash" (He.ma K (He.ga K "Several") "back_clash") := He.meth_ok (T.fact 70 (f := .meth "Several" "back_clash") rfl)
theorem Txt.m_Several_step (T : Txt K mg) : Meth K (He.ga K "Several") "step" (He.ma K (He.ga K "Several") "step") := He.meth_ok (T.fact 71 (f := .meth "Several" "step") rfl)
theorem Txt.m_Parts_following (T : Txt K mg) : Meth K (He.ga K "Parts") "_following" (He.ma K (He.ga K "Parts") "_following") := He.meth_ok (T.fact 72 (f := .meth "Parts" "_following") rfl)
theorem Txt.m_Parts_step (T : Txt K mg) : Meth K (He.ga K "Parts") "step" (He.ma K (He.ga K "Parts") "step") := He.meth_ok (T.fact 73 (f := .meth "Parts" "step") rfl)
theorem Txt.m_Parts_back (T : Txt K mg) : Meth K (He.ga K "Parts") "back" (He.ma K (He.ga K "Parts") "back") := He.meth_ok (T.fact 74 (f := .meth "Parts" "back") rfl)
theorem Txt.m_Parts_run (T : Txt K mg) : Meth K (He.ga K "Parts") "run" (He.ma K (He.ga K "Parts") "run") := He.meth_ok (T.fact 75 (f := .meth "Parts" "run") rfl)
theorem Txt.m_Parts_run_back (T : Txt K mg) : Meth K (He.ga K "Parts") "run_back" (He.ma K (He.ga K "Parts") "run_back") := He.meth_ok (T.fact 76 (f := .meth "Parts" "run_back") rfl)
theorem Txt.m_PartStair_add_move (T : Txt K mg) : Meth K (He.ga K "PartStair") "_add_move" (He.ma K (He.ga K "PartStair") "_add_move") := He.meth_ok (T.fact 77 (f := .meth "PartStair" "_add_move") rfl)
theorem Txt.m_PartStair_down (T : Txt K mg) : Meth K (He.ga K "PartStair") "down" (He.ma K (He.ga K "PartStair") "down") := He.meth_ok (T.fact 78 (f := .meth "PartStair" "down") rfl)
theorem Txt.m_PartStair_up (T : Txt K mg) : Meth K (He.ga K "PartStair") "up" (He.ma K (He.ga K "PartStair") "up") := He.meth_ok (T.fact 79 (f := .meth "PartStair" "up") rfl)
theorem Txt.m_PartStair_pace (T : Txt K mg) : Meth K (He.ga K "PartStair") "pace" (He.ma K (He.ga K "PartStair") "pace") := He.meth_ok (T.fact 80 (f := .meth "PartStair" "pace") rfl)
theorem Txt.f_trimmed (T : Txt K mg) : ∃ fd, FnP K "trimmed" "trimmed" s_trimmed (He.ga K "trimmed") fd := T.says.def_ 0 (d := d_trimmed) rfl
theorem Txt.f_is_number (T : Txt K mg) : ∃ fd, FnP K "is_number" "is_number" s_is_number (He.ga K "is_number") fd := T.says.def_ 1 (d := d_is_number) rfl
theorem Txt.f_is_tuple (T : Txt K mg) : ∃ fd, FnP K "is_tuple" "is_tuple" s_is_tuple (He.ga K "is_tuple") fd := T.says.def_ 2 (d := d_is_tuple) rfl
theorem Txt.f_backward (T : Txt K mg) : ∃ fd, FnP K "backward" "backward" s_backward (He.ga K "backward") fd := T.says.def_ 3 (d := d_backward) rfl
theorem Txt.f_first_clash (T : Txt K mg) : ∃ fd, FnP K "first_clash" "first_clash" s_first_clash (He.ga K "first_clash") fd := T.says.def_ 4 (d := d_first_clash) rfl
theorem Txt.f_clash_among (T : Txt K mg) : ∃ fd, FnP K "_clash_among" "_clash_among" s_clash_among (He.ga K "_clash_among") fd := T.says.def_ 5 (d := d_clash_among) rfl
theorem Txt.f_Several_init (T : Txt K mg) : ∃ fd, FnP K "__init__" "Several.__init__" s_Several_init (He.ma K (He.ga K "Several") "__init__") fd := T.says.def_ 6 (d := d_Several_init) rfl
theorem Txt.f_Several_is_row (T : Txt K mg) : ∃ fd, FnP K "_is_row" "Several._is_row" s_Several_is_row (He.ma K (He.ga K "Several") "_is_row") fd := T.says.def_ 7 (d := d_Several_is_row) rfl
theorem Txt.f_Several_table (T : Txt K mg) : ∃ fd, FnP K "table" "Several.table" s_Several_table (He.ma K (He.ga K "Several") "table") fd := T.says.def_ 8 (d := d_Several_table) rfl
theorem Txt.f_Several_back_clash (T : Txt K mg) : ∃ fd, FnP K "back_clash" "Several.back_clash" s_Several_back_clash (He.ma K (He.ga K "Several") "back_clash") fd := T.says.def_ 9 (d := d_Several_back_clash) rfl
theorem Txt.f_Several_step (T : Txt K mg) : ∃ fd, FnP K "step" "Several.step" s_Several_step (He.ma K (He.ga K "Several") "step") fd := T.says.def_ 10 (d := d_Several_step) rfl
theorem Txt.f_table_of (T : Txt K mg) : ∃ fd, FnP K "_table_of" "_table_of" s_table_of (He.ga K "_table_of") fd := T.says.def_ 11 (d := d_table_of) rfl
theorem Txt.f_trimmed_tape (T : Txt K mg) : ∃ fd, FnP K "trimmed_tape" "trimmed_tape" s_trimmed_tape (He.ga K "trimmed_tape") fd := T.says.def_ 12 (d := d_trimmed_tape) rfl
theorem Txt.f_moved_tape (T : Txt K mg) : ∃ fd, FnP K "moved_tape" "moved_tape" s_moved_tape (He.ga K "moved_tape") fd := T.says.def_ 13 (d := d_moved_tape) rfl
theorem Txt.f_taken (T : Txt K mg) : ∃ fd, FnP K "_taken" "_taken" s_taken (He.ga K "_taken") fd := T.says.def_ 14 (d := d_taken) rfl
theorem Txt.f_clash (T : Txt K mg) : ∃ fd, FnP K "clash" "clash" s_clash (He.ga K "clash") fd := T.says.def_ 15 (d := d_clash) rfl
theorem Txt.f_is_triple (T : Txt K mg) : ∃ fd, FnP K "_is_triple" "_is_triple" s_is_triple (He.ga K "_is_triple") fd := T.says.def_ 16 (d := d_is_triple) rfl
theorem Txt.f_all_triples (T : Txt K mg) : ∃ fd, FnP K "_all_triples" "_all_triples" s_all_triples (He.ga K "_all_triples") fd := T.says.def_ 17 (d := d_all_triples) rfl
theorem Txt.f_check_sizes (T : Txt K mg) : ∃ fd, FnP K "check_sizes" "check_sizes" s_check_sizes (He.ga K "check_sizes") fd := T.says.def_ 18 (d := d_check_sizes) rfl
theorem Txt.f_trimmed_line (T : Txt K mg) : ∃ fd, FnP K "_trimmed_line" "_trimmed_line" s_trimmed_line (He.ga K "_trimmed_line") fd := T.says.def_ 19 (d := d_trimmed_line) rfl
theorem Txt.f_Parts_init (T : Txt K mg) : ∃ fd, FnP K "__init__" "Parts.__init__" s_Parts_init (He.ma K (He.ga K "Parts") "__init__") fd := T.says.def_ 20 (d := d_Parts_init) rfl
theorem Txt.f_Parts_following (T : Txt K mg) : ∃ fd, FnP K "_following" "Parts._following" s_Parts_following (He.ma K (He.ga K "Parts") "_following") fd := T.says.def_ 21 (d := d_Parts_following) rfl
theorem Txt.f_Parts_step (T : Txt K mg) : ∃ fd, FnP K "step" "Parts.step" s_Parts_step (He.ma K (He.ga K "Parts") "step") fd := T.says.def_ 22 (d := d_Parts_step) rfl
theorem Txt.f_Parts_back (T : Txt K mg) : ∃ fd, FnP K "back" "Parts.back" s_Parts_back (He.ma K (He.ga K "Parts") "back") fd := T.says.def_ 23 (d := d_Parts_back) rfl
theorem Txt.f_Parts_run (T : Txt K mg) : ∃ fd, FnP K "run" "Parts.run" s_Parts_run (He.ma K (He.ga K "Parts") "run") fd := T.says.def_ 24 (d := d_Parts_run) rfl
theorem Txt.f_Parts_run_back (T : Txt K mg) : ∃ fd, FnP K "run_back" "Parts.run_back" s_Parts_run_back (He.ma K (He.ga K "Parts") "run_back") fd := T.says.def_ 25 (d := d_Parts_run_back) rfl
theorem Txt.f_head_letter (T : Txt K mg) : ∃ fd, FnP K "head_letter" "head_letter" s_head_letter (He.ga K "head_letter") fd := T.says.def_ 26 (d := d_head_letter) rfl
theorem Txt.f_line_of (T : Txt K mg) : ∃ fd, FnP K "line_of" "line_of" s_line_of (He.ga K "line_of") fd := T.says.def_ 27 (d := d_line_of) rfl
theorem Txt.f_tape_in (T : Txt K mg) : ∃ fd, FnP K "tape_in" "tape_in" s_tape_in (He.ga K "tape_in") fd := T.says.def_ 28 (d := d_tape_in) rfl
theorem Txt.f_PartStair_init (T : Txt K mg) : ∃ fd, FnP K "__init__" "PartStair.__init__" s_PartStair_init (He.ma K (He.ga K "PartStair") "__init__") fd := T.says.def_ 29 (d := d_PartStair_init) rfl
theorem Txt.f_PartStair_add_move (T : Txt K mg) : ∃ fd, FnP K "_add_move" "PartStair._add_move" s_PartStair_add_move (He.ma K (He.ga K "PartStair") "_add_move") fd := T.says.def_ 30 (d := d_PartStair_add_move) rfl
theorem Txt.f_PartStair_down (T : Txt K mg) : ∃ fd, FnP K "down" "PartStair.down" s_PartStair_down (He.ma K (He.ga K "PartStair") "down") fd := T.says.def_ 31 (d := d_PartStair_down) rfl
theorem Txt.f_PartStair_up (T : Txt K mg) : ∃ fd, FnP K "up" "PartStair.up" s_PartStair_up (He.ma K (He.ga K "PartStair") "up") fd := T.says.def_ 32 (d := d_PartStair_up) rfl
theorem Txt.f_PartStair_pace (T : Txt K mg) : ∃ fd, FnP K "pace" "PartStair.pace" s_PartStair_pace (He.ma K (He.ga K "PartStair") "pace") fd := T.says.def_ 33 (d := d_PartStair_pace) rfl
theorem Txt.f_law_cell (T : Txt K mg) : ∃ fd, FnP K "_law_cell" "_law_cell" s_law_cell (He.ga K "_law_cell") fd := T.says.def_ 34 (d := d_law_cell) rfl
theorem Txt.f_law_mixed (T : Txt K mg) : ∃ fd, FnP K "_law_mixed" "_law_mixed" s_law_mixed (He.ga K "_law_mixed") fd := T.says.def_ 35 (d := d_law_mixed) rfl
theorem Txt.f_law_digits (T : Txt K mg) : ∃ fd, FnP K "_law_digits" "_law_digits" s_law_digits (He.ga K "_law_digits") fd := T.says.def_ 36 (d := d_law_digits) rfl
theorem Txt.f_law_clash (T : Txt K mg) : ∃ fd, FnP K "_law_clash" "_law_clash" s_law_clash (He.ga K "_law_clash") fd := T.says.def_ 37 (d := d_law_clash) rfl
theorem Txt.f_law_mark (T : Txt K mg) : ∃ fd, FnP K "_law_mark" "_law_mark" s_law_mark (He.ga K "_law_mark") fd := T.says.def_ 38 (d := d_law_mark) rfl
theorem Txt.f_law_row (T : Txt K mg) : ∃ fd, FnP K "_law_row" "_law_row" s_law_row (He.ga K "_law_row") fd := T.says.def_ 39 (d := d_law_row) rfl
theorem Txt.f_law_rows (T : Txt K mg) : ∃ fd, FnP K "_law_rows" "_law_rows" s_law_rows (He.ga K "_law_rows") fd := T.says.def_ 40 (d := d_law_rows) rfl
theorem Txt.f_law_trim (T : Txt K mg) : ∃ fd, FnP K "_law_trim" "_law_trim" s_law_trim (He.ga K "_law_trim") fd := T.says.def_ 41 (d := d_law_trim) rfl
theorem Txt.f_law_configuration (T : Txt K mg) : ∃ fd, FnP K "_law_configuration" "_law_configuration" s_law_configuration (He.ga K "_law_configuration") fd := T.says.def_ 42 (d := d_law_configuration) rfl
theorem Txt.f_law_moved (T : Txt K mg) : ∃ fd, FnP K "_law_moved" "_law_moved" s_law_moved (He.ga K "_law_moved") fd := T.says.def_ 43 (d := d_law_moved) rfl
theorem Txt.f_law_after (T : Txt K mg) : ∃ fd, FnP K "_law_after" "_law_after" s_law_after (He.ga K "_law_after") fd := T.says.def_ 44 (d := d_law_after) rfl
theorem Txt.f_law (T : Txt K mg) : ∃ fd, FnP K "law" "law" s_law (He.ga K "law") fd := T.says.def_ 45 (d := d_law) rfl
end
end Bk

set_option Elab.async false
set_option linter.all false
set_option maxRecDepth 100000
set_option maxHeartbeats 0
/-! printed by gen.py: the head by one kernel run -/
namespace Bk
open PySem PySem.Spec PyProof.Rows L2
abbrev R : PySem.W.OpenRow := PySem.W.OpenLaw.row PySem.Challenge.rw_backstair_k63_whole_a_line_does_both_way
def names0 : List Str := ["_wall", "BackError", "BadMachine", "BadMark", "Clash", "BadParts", "trimmed", "MOST_TAPES", "MOST_MARKS", "MOST_STATES", "MOST_ROWS", "is_number", "is_tuple", "backward", "first_clash", "_clash_among", "Several", "_table_of", "trimmed_tape", "moved_tape", "_taken", "_run", "clash", "MOST_TRIPLES", "QUIET", "_is_triple", "_all_triples", "check_sizes", "_trimmed_line", "Parts"]
def names1 : List Str := ["head_letter", "line_of", "tape_in", "PartStair", "_law_is_integer", "_law_cell", "_law_mixed", "_law_digits", "_law_clash", "_law_mark", "_law_row", "_law_sizes", "_law_rows", "_law_trim", "_law_configuration", "_law_moved", "_law_after", "_law_turned"]
def names : List Str := names0 ++ (names1)
abbrev AlQ : Type := He.AlD × Bool
def obsQ (K : PySem.W.Frag) : AlQ := (He.obsD fa fn K, He.tupB K "QUIET" quietD)
def hkQ (n : Nat) : PySem.W.Hook where
  α := AlQ
  obs := fun s => obsQ (He.frG s.heap.get? (He.asD s.heap.get? n))
  val := fun _ => (He.valD fn, true)
  says := fun _ h => ∃ K : PySem.W.Frag, K.In h ∧ obsQ K = (He.valD fn, true)
  of := fun _ _ e => ⟨_, He.frG_in, e⟩
  keeps := fun _ _ _ ⟨K, hK, c⟩ k => ⟨K, PySem.W.Frag.In.keeps hK k, c⟩
abbrev hk : PySem.W.Hook := hkQ 6
def ob (s : PySem.W.SharedT) : AlQ := obsQ (He.frG (HandSHeadRun.getT s) (He.asD (HandSHeadRun.getT s) 6))
theorem ob_eq (s : PySem.W.SharedT) : ob s = hk.obs s.abs := by
  have e : HandSHeadRun.getT s = s.abs.heap.get? := funext (HandSHeadRun.getT_eq s)
  unfold ob
  rw [e] <;> rfl
theorem run (w : World) : HandSHeadRun.RunEq R (PySem.W.view R.prog [55]) hk ob 6000 names w := by
  intro os
  kernel_rfl
end Bk

/-! The plain law: rows, configurations, lines; no program in sight. -/
namespace Bk
abbrev Tri := Int × Int × Int
abbrev tq : Tri := (0, 0, 0)
inductive Row where
  | wr (q a b t : Int)
  | mv (q d t : Int)
  deriving DecidableEq
def Row.st : Row → Int
  | .wr q _ _ _ => q
  | .mv q _ _ => q
def Row.nx : Row → Int
  | .wr _ _ _ t => t
  | .mv _ _ t => t
def Row.bwd : Row → Row
  | .wr q a b t => .wr t b a q
  | .mv q d t => .mv t (-d) q
/-- two rows clash forwards -/
def Row.cl : Row → Row → Bool
  | .wr q a _ _, .wr q' a' _ _ => decide (q = q' ∧ a = a')
  | r, r' => decide (r.st = r'.st)
def Row.ok (m s : Int) : Row → Prop
  | .wr q a b t => (0 ≤ q ∧ q < s) ∧ (0 ≤ a ∧ a < m) ∧ (0 ≤ b ∧ b < m) ∧ 0 ≤ t ∧ t < s
  | .mv q d t => (0 ≤ q ∧ q < s) ∧ (-1 ≤ d ∧ d ≤ 1) ∧ 0 ≤ t ∧ t < s
def NoF (rows : List Row) : Prop := rows.Pairwise fun r r' => r.cl r' = false
def NoB (rows : List Row) : Prop := NoF (rows.map Row.bwd)
theorem Row.st_bwd (r : Row) : r.bwd.st = r.nx := by cases r <;> rfl
theorem Row.nx_bwd (r : Row) : r.bwd.nx = r.st := by cases r <;> rfl
theorem Row.ok_bwd {m s : Int} {r : Row} (h : r.ok m s) : r.bwd.ok m s := by
  cases r <;> simp only [Row.ok, Row.bwd] at * <;> omega
/-- the marks that a write row reads -/
def Row.rd : Row → Option Int
  | .wr _ a _ _ => some a
  | .mv _ _ _ => none
theorem Row.cl_iff (r r' : Row) : r.cl r' = true ↔ r.st = r'.st ∧ (r.rd = none ∨ r'.rd = none ∨ r.rd = r'.rd) := by
  cases r with
  | wr q a b t =>
    cases r' with
    | wr q' a' b' t' =>
      show decide (q = q' ∧ a = a') = true ↔ q = q' ∧ (some a = none ∨ some a' = none ∨ some a = some a')
      rw [decide_eq_true_iff]
      constructor
      · rintro ⟨h1, h2⟩
        exact ⟨h1, .inr (.inr (congrArg some h2))⟩
      · rintro ⟨h1, h | h | h⟩
        · cases h
        · cases h
        · exact ⟨h1, Option.some.inj h⟩
    | mv q' d' t' =>
      show decide (q = q') = true ↔ q = q' ∧ _
      rw [decide_eq_true_iff]
      exact ⟨fun h => ⟨h, .inr (.inl rfl)⟩, fun h => h.1⟩
  | mv q d t =>
    have e : (Row.mv q d t).cl r' = decide (q = r'.st) := by cases r' <;> rfl
    rw [e, decide_eq_true_iff]
    exact ⟨fun h => ⟨h, .inl rfl⟩, fun h => h.1⟩
theorem Row.cl_symm (r r' : Row) : r.cl r' = r'.cl r := by
  rw [Bool.eq_iff_iff, Row.cl_iff, Row.cl_iff]
  constructor
  · rintro ⟨h1, h | h | h⟩
    · exact ⟨h1.symm, .inr (.inl h)⟩
    · exact ⟨h1.symm, .inl h⟩
    · exact ⟨h1.symm, .inr (.inr h.symm)⟩
  · rintro ⟨h1, h | h | h⟩
    · exact ⟨h1.symm, .inr (.inl h)⟩
    · exact ⟨h1.symm, .inl h⟩
    · exact ⟨h1.symm, .inr (.inr h.symm)⟩
theorem Row.cl_st {r r' : Row} (h : r.st ≠ r'.st) : r.cl r' = false := by
  cases e : r.cl r' with
  | false => rfl
  | true => exact absurd ((Row.cl_iff r r').mp e).1 h
theorem Row.cl_refl (r : Row) : r.cl r = true := (Row.cl_iff r r).mpr ⟨rfl, .inr (.inr rfl)⟩
/-- two members that clash are one -/
theorem noF_eq {rows : List Row} (h : NoF rows) {r r' : Row} (h1 : r ∈ rows) (h2 : r' ∈ rows) (hc : r.cl r' = true) : r = r' := by
  unfold NoF at h
  induction rows with
  | nil => cases h1
  | cons x xs ih =>
    rw [List.pairwise_cons] at h
    rcases List.mem_cons.mp h1 with e1 | e1
    · rcases List.mem_cons.mp h2 with e2 | e2
      · rw [e1, e2]
      · have := h.1 r' e2
        rw [e1, this] at hc
        cases hc
    · rcases List.mem_cons.mp h2 with e2 | e2
      · have := h.1 r e1
        rw [e2, Row.cl_symm, this] at hc
        cases hc
      · exact ih h.2 e1 e2
theorem Row.bwd_inj {r r' : Row} (h : r.bwd = r'.bwd) : r = r' := by
  cases r with
  | wr q a b t =>
    cases r' with
    | wr q' a' b' t' =>
      simp only [Row.bwd, Row.wr.injEq] at h ⊢
      omega
    | mv q' d' t' => cases h
  | mv q d t =>
    cases r' with
    | wr q' a' b' t' => cases h
    | mv q' d' t' =>
      simp only [Row.bwd, Row.mv.injEq] at h ⊢
      omega
theorem noB_eq {rows : List Row} (h : NoB rows) {r r' : Row} (h1 : r ∈ rows) (h2 : r' ∈ rows) (hc : r.bwd.cl r'.bwd = true) : r = r' :=
  Row.bwd_inj (noF_eq h (List.mem_map_of_mem h1) (List.mem_map_of_mem h2) hc)

/-! ### tapes, configurations -/
def trim : List Int → List Int
  | [] => []
  | a :: r => match trim r with
    | [] => if a = 0 then [] else [a]
    | b :: t => a :: b :: t
theorem trim_cons (a : Int) (r : List Int) : trim (a :: r) = if trim r = [] ∧ a = 0 then [] else a :: trim r := by
  rw [trim]
  cases h : trim r with
  | nil => by_cases ha : a = 0 <;> simp [ha]
  | cons b t => simp
theorem trim_len (l : List Int) : (trim l).length ≤ l.length := by
  induction l with
  | nil => exact Nat.le_refl _
  | cons a r ih =>
    rw [trim_cons]
    split
    · exact Nat.zero_le _
    · simp only [List.length_cons]; omega
theorem trim_mem {l : List Int} {x : Int} (h : x ∈ trim l) : x ∈ l := by
  induction l with
  | nil => cases h
  | cons a r ih =>
    rw [trim_cons] at h
    split at h
    · cases h
    · rcases List.mem_cons.mp h with e | e
      · rw [e]; exact List.mem_cons_self
      · exact List.mem_cons_of_mem _ (ih e)
theorem trim_trim (l : List Int) : trim (trim l) = trim l := by
  induction l with
  | nil => rfl
  | cons a r ih =>
    rw [trim_cons]
    split
    · rfl
    · rename_i h
      rw [trim_cons, ih, if_neg h]
theorem trim_tail {a : Int} {r : List Int} (h : trim (a :: r) = a :: r) : trim r = r := by
  rw [trim_cons] at h
  split at h
  · cases h
  · exact (List.cons.inj h).2
theorem trim_snoc0 (l : List Int) : trim (l ++ [0]) = trim l := by
  induction l with
  | nil => rfl
  | cons a r ih => rw [List.cons_append, trim_cons, trim_cons, ih]
theorem trim_snoc {l : List Int} {a : Int} (h : a ≠ 0) : trim (l ++ [a]) = l ++ [a] := by
  induction l with
  | nil => simp [trim, h]
  | cons b r ih => rw [List.cons_append, trim_cons, ih, if_neg (by simp)]
/-- the loop's own word: cutting a blank at the end -/
theorem trim_take {l : List Int} {n : Nat} (h0 : l[n]? = some 0) (h : trim (l.take (n + 1)) = trim l) : trim (l.take n) = trim l := by
  rw [← h, List.take_add_one, h0]
  exact (trim_snoc0 _).symm
theorem trim_done {l : List Int} {n : Nat} {a : Int} (ha : a ≠ 0) (h0 : l[n]? = some a) (h : trim (l.take (n + 1)) = trim l) : l.take (n + 1) = trim l := by
  rw [← h, List.take_add_one, h0]
  exact (trim_snoc ha).symm

structure Cfg where
  q : Int
  l : List Int
  a : Int
  r : List Int
def movedT (d : Int) (l : List Int) (a : Int) (r : List Int) : List Int × Int × List Int :=
  if d = 1 then (trim (a :: l), r.headD 0, r.tail) else if d = -1 then (l.tail, l.headD 0, trim (a :: r)) else (l, a, r)
def applies (c : Cfg) : Row → Bool
  | .wr q a _ _ => decide (q = c.q ∧ a = c.a)
  | .mv q _ _ => decide (q = c.q)
def Row.act (c : Cfg) : Row → Cfg
  | .wr _ _ b t => ⟨t, c.l, b, c.r⟩
  | .mv _ d t => ⟨t, (movedT d c.l c.a c.r).1, (movedT d c.l c.a c.r).2.1, (movedT d c.l c.a c.r).2.2⟩
def after (rows : List Row) (c : Cfg) : Option Cfg := (rows.find? (applies c)).map (Row.act c)
structure Cfg.Ok (m s : Int) (c : Cfg) : Prop where
  q : 0 ≤ c.q ∧ c.q < s
  a : 0 ≤ c.a ∧ c.a < m
  l : ∀ x ∈ c.l, 0 ≤ x ∧ x < m
  r : ∀ x ∈ c.r, 0 ≤ x ∧ x < m
  tl : trim c.l = c.l
  tr : trim c.r = c.r
def Cfg.size (c : Cfg) : Nat := c.l.length + c.r.length
theorem headD_ok {m : Int} {l : List Int} (h : ∀ x ∈ l, 0 ≤ x ∧ x < m) (hm : 0 < m) : 0 ≤ l.headD 0 ∧ l.headD 0 < m := by
  cases l with
  | nil => exact ⟨Int.le_refl _, hm⟩
  | cons a r => exact h a List.mem_cons_self
theorem trim_tl {l : List Int} (h : trim l = l) : trim l.tail = l.tail := by
  cases l with
  | nil => rfl
  | cons a r => exact trim_tail h
theorem applies_st {c : Cfg} {r : Row} (h : applies c r = true) : r.st = c.q := by
  cases r <;> simp only [applies, Row.st, decide_eq_true_eq] at * <;> omega
theorem Row.act_ok {m s : Int} {c : Cfg} {r : Row} (hm : 0 < m) (hr : r.ok m s) (hc : c.Ok m s) : (r.act c).Ok m s := by
  obtain ⟨h1, h2, h3, h4, h5, h6⟩ := hc
  cases r with
  | wr q a b t =>
    simp only [Row.ok] at hr
    exact ⟨hr.2.2.2, hr.2.2.1, h3, h4, h5, h6⟩
  | mv q d t =>
    simp only [Row.ok] at hr
    unfold Row.act movedT
    by_cases d1 : d = 1
    · simp only [d1, if_pos]
      refine ⟨hr.2.2, headD_ok h4 hm, fun x hx => ?_, fun x hx => h4 x (List.mem_of_mem_tail hx), trim_trim _, trim_tl h6⟩
      rcases List.mem_cons.mp (trim_mem hx) with e | e
      · rw [e]; exact h2
      · exact h3 x e
    · by_cases d2 : d = -1
      · have e1 : ¬ ((-1 : Int) = 1) := by decide
        simp only [d2, if_neg e1, if_pos]
        refine ⟨hr.2.2, headD_ok h3 hm, fun x hx => h3 x (List.mem_of_mem_tail hx), fun x hx => ?_, trim_tl h5, trim_trim _⟩
        rcases List.mem_cons.mp (trim_mem hx) with e | e
        · rw [e]; exact h2
        · exact h4 x e
      · simp only [if_neg d1, if_neg d2]
        exact ⟨hr.2.2, h2, h3, h4, h5, h6⟩
theorem Row.act_size (c : Cfg) (r : Row) : (r.act c).size ≤ c.size + 1 := by
  cases r with
  | wr q a b t => exact Nat.le_succ _
  | mv q d t =>
    unfold Row.act movedT Cfg.size
    by_cases d1 : d = 1
    · simp only [d1, if_pos]
      have h1 := trim_len (c.a :: c.l)
      rw [List.length_cons] at h1
      have h2 := List.length_tail (l := c.r)
      omega
    · by_cases d2 : d = -1
      · have e1 : ¬ ((-1 : Int) = 1) := by decide
        simp only [d2, if_neg e1, if_pos]
        have h1 := trim_len (c.a :: c.r)
        rw [List.length_cons] at h1
        have h2 := List.length_tail (l := c.l)
        omega
      · simp only [if_neg d1, if_neg d2]
        omega
theorem after_some {rows : List Row} {c c' : Cfg} (h : after rows c = some c') : ∃ r ∈ rows, applies c r = true ∧ c' = r.act c := by
  unfold after at h
  obtain ⟨r, h1, h2⟩ := Option.map_eq_some_iff.mp h
  exact ⟨r, List.mem_of_find?_eq_some h1, List.find?_some h1, h2.symm⟩
theorem after_none {rows : List Row} {c : Cfg} : after rows c = none ↔ ∀ r ∈ rows, applies c r = false := by
  unfold after
  rw [Option.map_eq_none_iff, List.find?_eq_none]
  constructor
  · intro h r hr
    have := h r hr
    cases e : applies c r with
    | true => exact absurd e this
    | false => rfl
  · intro h r hr e
    rw [h r hr] at e
    cases e
/-- under no clash, any row that applies is THE row -/
theorem after_of {rows : List Row} (hF : NoF rows) {c : Cfg} {r : Row} (hr : r ∈ rows) (ha : applies c r = true) : after rows c = some (r.act c) := by
  cases h : after rows c with
  | none => rw [after_none.mp h r hr] at ha; cases ha
  | some c' =>
    obtain ⟨r', h1, h2, h3⟩ := after_some h
    have e : r = r' := noF_eq hF hr h1 (by
      rw [Row.cl_iff, applies_st ha, applies_st h2]
      refine ⟨rfl, ?_⟩
      cases r with
      | mv q d t => exact .inl rfl
      | wr q a b t =>
        cases r' with
        | mv q' d' t' => exact .inr (.inl rfl)
        | wr q' a' b' t' =>
          simp only [applies, decide_eq_true_eq] at ha h2
          exact .inr (.inr (congrArg some (ha.2.trans h2.2.symm))))
    rw [h3, e]

/-! ### the changes, as a relation -/
def hl (m q a : Int) : Int := m * (q + 1) + a
theorem hl_div {m q a : Int} (hm : 0 < m) (ha : 0 ≤ a ∧ a < m) : hl m q a / m = q + 1 ∧ hl m q a % m = a := by
  unfold hl
  have h1 : (m * (q + 1) + a) / m = q + 1 := by
    rw [Int.add_comm, Int.add_mul_ediv_left _ _ (by omega), Int.ediv_eq_zero_of_lt ha.1 ha.2]
    omega
  have h2 : (m * (q + 1) + a) % m = a := by
    rw [Int.add_comm, Int.add_mul_emod_self_left, Int.emod_eq_of_lt ha.1 ha.2]
  exact ⟨h1, h2⟩
theorem hl_inj {m q a q' a' : Int} (hm : 0 < m) (ha : 0 ≤ a ∧ a < m) (ha' : 0 ≤ a' ∧ a' < m) (h : hl m q a = hl m q' a') : q = q' ∧ a = a' := by
  obtain ⟨h1, h2⟩ := hl_div (q := q) hm ha
  obtain ⟨h3, h4⟩ := hl_div (q := q') hm ha'
  rw [h] at h1 h2
  omega
theorem hl_ge {m q a : Int} (hm : 0 < m) (hq : 0 ≤ q) (ha : 0 ≤ a) : m ≤ hl m q a := by
  unfold hl
  have : m * 1 ≤ m * (q + 1) := Int.mul_le_mul_of_nonneg_left (by omega) (by omega)
  omega
theorem hl_lt {m s q a : Int} (hm : 0 < m) (hq : q < s) (ha : a < m) : hl m q a < m * (s + 1) := by
  unfold hl
  have : m * (q + 2) ≤ m * (s + 1) := Int.mul_le_mul_of_nonneg_left (by omega) (by omega)
  have e : m * (q + 2) = m * (q + 1) + m := by rw [show q + 2 = (q + 1) + 1 by omega, Int.mul_add, Int.mul_one]
  omega
/-- what one row changes -/
def RowCh (m : Int) (k v : Tri) : Row → Prop
  | .wr q a b t => k = (0, hl m q a, 0) ∧ v = (0, hl m t b, 0)
  | .mv q d t => ∃ a : Int, (0 ≤ a ∧ a < m) ∧
      ((d = 0 ∧ k = (0, hl m q a, 0) ∧ v = (0, hl m t a, 0)) ∨
       (d = 1 ∧ ((k = (0, hl m q a, 0) ∧ v = (0, a, t + 1)) ∨ (k = (t + 1, a, 0) ∧ v = (0, hl m t a, 0)))) ∨
       (d = -1 ∧ ((k = (0, hl m q a, 0) ∧ v = (t + 1, a, 0)) ∨ (k = (0, a, t + 1) ∧ v = (0, hl m t a, 0)))))
def Base (m : Int) (k v : Tri) : Prop := ∃ a : Int, (0 ≤ a ∧ a < m) ∧ k = (0, a, 0) ∧ v = (0, a, 0)
def Ch (m : Int) (rows : List Row) (k v : Tri) : Prop := Base m k v ∨ ∃ r ∈ rows, RowCh m k v r
/-- a row's key tells its state, or its next state and its move; a row's value its next state -/
theorem rowCh_key {m s : Int} {k v : Tri} {r : Row} (hr : r.ok m s) (h : RowCh m k v r) :
    (∃ a, (0 ≤ a ∧ a < m) ∧ k = (0, hl m r.st a, 0) ∧ (∀ q a' b t, r = .wr q a' b t → a = a')) ∨
    (∃ a, (0 ≤ a ∧ a < m) ∧ k = (r.nx + 1, a, 0) ∧ ∃ q t, r = .mv q 1 t) ∨ (∃ a, (0 ≤ a ∧ a < m) ∧ k = (0, a, r.nx + 1) ∧ ∃ q t, r = .mv q (-1) t) := by
  cases r with
  | wr q a b t =>
    simp only [Row.ok] at hr
    exact .inl ⟨a, hr.2.1, h.1, fun q' a' b' t' e => by injection e⟩
  | mv q d t =>
    obtain ⟨a, ha, h | ⟨e, h | h⟩ | ⟨e, h | h⟩⟩ := h
    · exact .inl ⟨a, ha, h.2.1, fun q' a' b' t' e => by cases e⟩
    · exact .inl ⟨a, ha, h.1, fun q' a' b' t' e => by cases e⟩
    · subst e; exact .inr (.inl ⟨a, ha, h.1, q, t, rfl⟩)
    · exact .inl ⟨a, ha, h.1, fun q' a' b' t' e => by cases e⟩
    · subst e; exact .inr (.inr ⟨a, ha, h.1, q, t, rfl⟩)
end Bk

/-! The changes are one to one; a line's steps. -/
namespace Bk
theorem rowCh_val {m s : Int} {k v : Tri} {r : Row} (hr : r.ok m s) (h : RowCh m k v r) :
    (∃ a, (0 ≤ a ∧ a < m) ∧ v = (0, hl m r.nx a, 0) ∧ (∀ q a' b t, r = .wr q a' b t → a = b)) ∨
    (∃ a, (0 ≤ a ∧ a < m) ∧ v = (0, a, r.nx + 1)) ∨ (∃ a, (0 ≤ a ∧ a < m) ∧ v = (r.nx + 1, a, 0)) := by
  cases r with
  | wr q a b t =>
    simp only [Row.ok] at hr
    exact .inl ⟨b, hr.2.2.1, h.2, fun q' a' b' t' e => by injection e⟩
  | mv q d t =>
    obtain ⟨a, ha, h | ⟨e, h | h⟩ | ⟨e, h | h⟩⟩ := h
    · exact .inl ⟨a, ha, h.2.2, fun q' a' b' t' e => by cases e⟩
    · exact .inr (.inl ⟨a, ha, h.2⟩)
    · exact .inl ⟨a, ha, h.2, fun q' a' b' t' e => by cases e⟩
    · exact .inr (.inr ⟨a, ha, h.2⟩)
    · exact .inl ⟨a, ha, h.2, fun q' a' b' t' e => by cases e⟩
theorem Row.ok_st {m s : Int} {r : Row} (h : r.ok m s) : (0 ≤ r.st ∧ r.st < s) ∧ 0 ≤ r.nx ∧ r.nx < s := by
  cases r <;> simp only [Row.ok, Row.st, Row.nx] at * <;> omega
structure Good (m s : Int) (rows : List Row) : Prop where
  m2 : 2 ≤ m
  m4 : m ≤ 4
  s1 : 1 ≤ s
  s5 : s ≤ 5
  ok : ∀ r ∈ rows, r.ok m s
  nf : NoF rows
  nb : NoB rows
theorem tri_eq {a b c a' b' c' : Int} (h : ((a, b, c) : Tri) = (a', b', c')) : a = a' ∧ b = b' ∧ c = c' := by
  simpa only [Prod.mk.injEq] using h
/-- the same row, the same value: the same key, and back -/
theorem rowCh_fun {m s : Int} (hm : 0 < m) {k v v' : Tri} {r : Row} (hr : r.ok m s) (h : RowCh m k v r) (h' : RowCh m k v' r) : v = v' := by
  cases r with
  | wr q a b t => rw [h.2, h'.2]
  | mv q d t =>
    simp only [Row.ok] at hr
    obtain ⟨a, ha, h | ⟨e, h | h⟩ | ⟨e, h | h⟩⟩ := h <;> obtain ⟨a', ha', h' | ⟨e', h' | h'⟩ | ⟨e', h' | h'⟩⟩ := h' <;> (try (exfalso; omega))
    · have e := tri_eq (h.2.1.symm.trans h'.2.1)
      rw [h.2.2, h'.2.2, (hl_inj hm ha ha' e.2.1).2]
    · have e := tri_eq (h.1.symm.trans h'.1)
      rw [h.2, h'.2, (hl_inj hm ha ha' e.2.1).2]
    · have e := tri_eq (h.1.symm.trans h'.1)
      omega
    · have e := tri_eq (h.1.symm.trans h'.1)
      omega
    · have e := tri_eq (h.1.symm.trans h'.1)
      rw [h.2, h'.2, e.2.1]
    · have e := tri_eq (h.1.symm.trans h'.1)
      rw [h.2, h'.2, (hl_inj hm ha ha' e.2.1).2]
    · have e := tri_eq (h.1.symm.trans h'.1)
      omega
    · have e := tri_eq (h.1.symm.trans h'.1)
      omega
    · have e := tri_eq (h.1.symm.trans h'.1)
      rw [h.2, h'.2, e.2.1]
theorem rowCh_inj {m s : Int} (hm : 0 < m) {k k' v : Tri} {r : Row} (hr : r.ok m s) (h : RowCh m k v r) (h' : RowCh m k' v r) : k = k' := by
  cases r with
  | wr q a b t => rw [h.1, h'.1]
  | mv q d t =>
    simp only [Row.ok] at hr
    obtain ⟨a, ha, h | ⟨e, h | h⟩ | ⟨e, h | h⟩⟩ := h <;> obtain ⟨a', ha', h' | ⟨e', h' | h'⟩ | ⟨e', h' | h'⟩⟩ := h' <;> (try (exfalso; omega))
    · have e := tri_eq (h.2.2.symm.trans h'.2.2)
      rw [h.2.1, h'.2.1, (hl_inj hm ha ha' e.2.1).2]
    · have e := tri_eq (h.2.symm.trans h'.2)
      rw [h.1, h'.1, e.2.1]
    · have e := tri_eq (h.2.symm.trans h'.2)
      omega
    · have e := tri_eq (h.2.symm.trans h'.2)
      omega
    · have e := tri_eq (h.2.symm.trans h'.2)
      rw [h.1, h'.1, (hl_inj hm ha ha' e.2.1).2]
    · have e := tri_eq (h.2.symm.trans h'.2)
      rw [h.1, h'.1, e.2.1]
    · have e := tri_eq (h.2.symm.trans h'.2)
      omega
    · have e := tri_eq (h.2.symm.trans h'.2)
      omega
    · have e := tri_eq (h.2.symm.trans h'.2)
      rw [h.1, h'.1, (hl_inj hm ha ha' e.2.1).2]
theorem base_key {m s : Int} {k v : Tri} {r : Row} (hm : 0 < m) (hr : r.ok m s) {a : Int} (ha : 0 ≤ a ∧ a < m) (hk : k = (0, a, 0)) (h : RowCh m k v r) : False := by
  obtain ⟨h1, h2⟩ := Row.ok_st hr
  rcases rowCh_key hr h with ⟨a', b, e, _⟩ | ⟨a', b, e, _⟩ | ⟨a', b, e, _⟩
  · have e2 := tri_eq (hk.symm.trans e)
    have := hl_ge hm h1.1 b.1
    omega
  · have e2 := tri_eq (hk.symm.trans e)
    omega
  · have e2 := tri_eq (hk.symm.trans e)
    omega
theorem base_val {m s : Int} {k v : Tri} {r : Row} (hm : 0 < m) (hr : r.ok m s) {a : Int} (ha : 0 ≤ a ∧ a < m) (hk : v = (0, a, 0)) (h : RowCh m k v r) : False := by
  obtain ⟨h1, h2⟩ := Row.ok_st hr
  rcases rowCh_val hr h with ⟨a', b, e, _⟩ | ⟨a', b, e⟩ | ⟨a', b, e⟩
  · have e2 := tri_eq (hk.symm.trans e)
    have := hl_ge hm h2.1 b.1
    omega
  · have e2 := tri_eq (hk.symm.trans e)
    omega
  · have e2 := tri_eq (hk.symm.trans e)
    omega
theorem ch_fun {m s : Int} {rows : List Row} (G : Good m s rows) {k v v' : Tri} (h : Ch m rows k v) (h' : Ch m rows k v') : v = v' := by
  have hm : 0 < m := by have := G.m2; omega
  rcases h with ⟨a, ha, hk, hv⟩ | ⟨r, hr, h⟩
  · rcases h' with ⟨a', ha', hk', hv'⟩ | ⟨r', hr', h'⟩
    · rw [hv, hv', ← hk, ← hk']
    · exact (base_key hm (G.ok r' hr') ha hk h').elim
  · rcases h' with ⟨a', ha', hk', hv'⟩ | ⟨r', hr', h'⟩
    · exact (base_key hm (G.ok r hr) ha' hk' h).elim
    · have e : r = r' := by
        obtain ⟨o1, o2⟩ := Row.ok_st (G.ok r hr)
        obtain ⟨o3, o4⟩ := Row.ok_st (G.ok r' hr')
        rcases rowCh_key (G.ok r hr) h with ⟨a, b, e, w⟩ | ⟨a, b, e, q, t, w⟩ | ⟨a, b, e, q, t, w⟩ <;> rcases rowCh_key (G.ok r' hr') h' with ⟨a', b', e', w'⟩ | ⟨a', b', e', q', t', w'⟩ | ⟨a', b', e', q', t', w'⟩ <;> have e2 := tri_eq (e.symm.trans e') <;> (try (exfalso; omega))
        · obtain ⟨e3, e4⟩ := hl_inj hm b b' e2.2.1
          refine noF_eq G.nf hr hr' ((Row.cl_iff _ _).mpr ⟨e3, ?_⟩)
          cases r with
          | mv q d t => exact .inl rfl
          | wr q x y t =>
            cases r' with
            | mv q d t => exact .inr (.inl rfl)
            | wr q' x' y' t' => exact .inr (.inr (congrArg some ((w _ _ _ _ rfl).symm.trans (e4.trans (w' _ _ _ _ rfl)))))
        · refine noB_eq G.nb hr hr' ((Row.cl_iff _ _).mpr ⟨by rw [Row.st_bwd, Row.st_bwd]; omega, ?_⟩)
          rw [w]
          exact .inl rfl
        · refine noB_eq G.nb hr hr' ((Row.cl_iff _ _).mpr ⟨by rw [Row.st_bwd, Row.st_bwd]; omega, ?_⟩)
          rw [w]
          exact .inl rfl
      subst e
      exact rowCh_fun hm (G.ok r hr) h h'
theorem ch_inj {m s : Int} {rows : List Row} (G : Good m s rows) {k k' v : Tri} (h : Ch m rows k v) (h' : Ch m rows k' v) : k = k' := by
  have hm : 0 < m := by have := G.m2; omega
  rcases h with ⟨a, ha, hk, hv⟩ | ⟨r, hr, h⟩
  · rcases h' with ⟨a', ha', hk', hv'⟩ | ⟨r', hr', h'⟩
    · rw [hk, hk', ← hv, ← hv']
    · exact (base_val hm (G.ok r' hr') ha hv h').elim
  · rcases h' with ⟨a', ha', hk', hv'⟩ | ⟨r', hr', h'⟩
    · exact (base_val hm (G.ok r hr) ha' hv' h).elim
    · have e : r = r' := by
        obtain ⟨o1, o2⟩ := Row.ok_st (G.ok r hr)
        obtain ⟨o3, o4⟩ := Row.ok_st (G.ok r' hr')
        have nxe : r.nx = r'.nx ∧ ∀ q x y t q' x' y' t', r = .wr q x y t → r' = .wr q' x' y' t' → y = y' := by
          rcases rowCh_val (G.ok r hr) h with ⟨a, b, e, w⟩ | ⟨a, b, e⟩ | ⟨a, b, e⟩ <;> rcases rowCh_val (G.ok r' hr') h' with ⟨a', b', e', w'⟩ | ⟨a', b', e'⟩ | ⟨a', b', e'⟩ <;> have e2 := tri_eq (e.symm.trans e') <;> (try (exfalso; omega))
          · obtain ⟨e3, e4⟩ := hl_inj hm b b' e2.2.1
            exact ⟨e3, fun q x y t q' x' y' t' f1 f2 => (w _ _ _ _ f1).symm.trans (e4.trans (w' _ _ _ _ f2))⟩
          · refine ⟨by omega, fun q x y t q' x' y' t' f1 f2 => ?_⟩
            subst f1
            have z := tri_eq (h.2.symm.trans e)
            have := hl_ge hm (show 0 ≤ t from o2.1) (show 0 ≤ y by have := G.ok _ hr; simp only [Row.ok] at this; omega)
            omega
          · refine ⟨by omega, fun q x y t q' x' y' t' f1 f2 => ?_⟩
            subst f1
            have z := tri_eq (h.2.symm.trans e)
            have := hl_ge hm (show 0 ≤ t from o2.1) (show 0 ≤ y by have := G.ok _ hr; simp only [Row.ok] at this; omega)
            omega
        refine noB_eq G.nb hr hr' ((Row.cl_iff _ _).mpr ⟨by rw [Row.st_bwd, Row.st_bwd]; exact nxe.1, ?_⟩)
        cases r with
        | mv q d t => exact .inl rfl
        | wr q x y t =>
          cases r' with
          | mv q d t => exact .inr (.inl rfl)
          | wr q' x' y' t' => exact .inr (.inr (congrArg some (nxe.2 _ _ _ _ _ _ _ _ rfl rfl)))
      subst e
      exact rowCh_inj hm (G.ok r hr) h h'
def inTri (a b c : Int) (t : Tri) : Prop := (0 ≤ t.1 ∧ t.1 < a) ∧ (0 ≤ t.2.1 ∧ t.2.1 < b) ∧ 0 ≤ t.2.2 ∧ t.2.2 < c
theorem ch_in {m s : Int} {rows : List Row} (G : Good m s rows) {k v : Tri} (h : Ch m rows k v) :
    inTri (s + 1) (m * (s + 1)) (s + 1) k ∧ inTri (s + 1) (m * (s + 1)) (s + 1) v := by
  have hm : 0 < m := by have := G.m2; omega
  have s1 := G.s1
  have hM : m * 1 ≤ m * (s + 1) := Int.mul_le_mul_of_nonneg_left (by omega) (by omega)
  rcases h with ⟨a, ha, hk, hv⟩ | ⟨r, hr, h⟩
  · rw [hk, hv]
    simp only [inTri]
    omega
  · obtain ⟨o1, o2⟩ := Row.ok_st (G.ok r hr)
    refine ⟨?_, ?_⟩
    · rcases rowCh_key (G.ok r hr) h with ⟨a, b, e, w⟩ | ⟨a, b, e, w⟩ | ⟨a, b, e, w⟩
      · rw [e]
        have h1 := hl_ge hm o1.1 b.1
        have h2 := hl_lt hm o1.2 b.2
        simp only [inTri]
        omega
      · rw [e]; simp only [inTri]; omega
      · rw [e]; simp only [inTri]; omega
    · rcases rowCh_val (G.ok r hr) h with ⟨a, b, e, w⟩ | ⟨a, b, e⟩ | ⟨a, b, e⟩
      · rw [e]
        have h1 := hl_ge hm o2.1 b.1
        have h2 := hl_lt hm o2.2 b.2
        simp only [inTri]
        omega
      · rw [e]; simp only [inTri]; omega
      · rw [e]; simp only [inTri]; omega
end Bk

/-! A line's steps, forwards and backwards. -/
namespace Bk
/-- what the cells gather, from the right letter of the cell before -/
def gf (c : Int) : List Tri → List Tri
  | y :: z :: r => (c, y.2.1, z.1) :: gf y.2.2 (z :: r)
  | _ => []
def gather : List Tri → List Tri
  | x :: r => gf x.2.2 r
  | [] => []
theorem gf_len (c : Int) (l : List Tri) : (gf c l).length = l.length - 1 := by
  induction l generalizing c with
  | nil => rfl
  | cons y r ih =>
    cases r with
    | nil => rfl
    | cons z r' =>
      rw [gf, List.length_cons, ih]
      simp only [List.length_cons]
      omega
theorem gather_len (l : List Tri) : (gather l).length = l.length - 2 := by
  cases l with
  | nil => rfl
  | cons x r =>
    show (gf x.2.2 r).length = _
    rw [gf_len, List.length_cons]
    omega
theorem gf_get (c : Int) (l : List Tri) (i : Nat) {x y z : Tri} (h1 : l[i + 1]? = some y) (h2 : l[i + 2]? = some z) (h0 : l[i]? = some x) : (gf c l)[i + 1]? = some (x.2.2, y.2.1, z.1) := by
  induction l generalizing c i with
  | nil => cases h1
  | cons u r ih =>
    cases r with
    | nil => cases h1
    | cons w r' =>
      rw [gf, List.getElem?_cons_succ]
      cases i with
      | zero =>
        cases r' with
        | nil => cases h2
        | cons p r2 =>
          simp only [List.getElem?_cons_succ, List.getElem?_cons_zero, Option.some.injEq] at h0 h1 h2
          subst h0 h1 h2
          rw [gf]
          rfl
      | succ j => exact ih _ j h1 h2 h0
theorem gather_get (l : List Tri) (i : Nat) {x y z : Tri} (h0 : l[i]? = some x) (h1 : l[i + 1]? = some y) (h2 : l[i + 2]? = some z) : (gather l)[i]? = some (x.2.2, y.2.1, z.1) := by
  cases l with
  | nil => cases h0
  | cons u r =>
    show (gf u.2.2 r)[i]? = _
    cases i with
    | zero =>
      cases r with
      | nil => cases h1
      | cons w r' =>
        cases r' with
        | nil => cases h2
        | cons p r2 =>
          simp only [List.getElem?_cons_succ, List.getElem?_cons_zero, Option.some.injEq] at h0 h1 h2
          subst h0 h1 h2
          rfl
    | succ j => exact gf_get _ r j h1 h2 h0
def ltrim : List Tri → List Tri
  | [] => []
  | a :: r => if a = tq then ltrim r else a :: r
def rtrim : List Tri → List Tri
  | [] => []
  | a :: r => match rtrim r with
    | [] => if a = tq then [] else [a]
    | b :: t => a :: b :: t
theorem rtrim_cons (a : Tri) (r : List Tri) : rtrim (a :: r) = if rtrim r = [] ∧ a = tq then [] else a :: rtrim r := by
  rw [rtrim]
  cases h : rtrim r with
  | nil => by_cases ha : a = tq <;> simp [ha]
  | cons b t => simp
def trimQ (l : List Tri) : List Tri := rtrim (ltrim l)
/-! ### the loops' words -/
theorem rtrim_snocQ (l : List Tri) : rtrim (l ++ [tq]) = rtrim l := by
  induction l with
  | nil => rfl
  | cons a r ih => rw [List.cons_append, rtrim_cons, rtrim_cons, ih]
theorem rtrim_snoc {l : List Tri} {a : Tri} (h : a ≠ tq) : rtrim (l ++ [a]) = l ++ [a] := by
  induction l with
  | nil => simp [rtrim, h]
  | cons b r ih => rw [List.cons_append, rtrim_cons, ih, if_neg (by simp)]
theorem ltrim_drop {l : List Tri} {n : Nat} (h0 : l[n]? = some tq) (h : ltrim (l.drop n) = ltrim l) : ltrim (l.drop (n + 1)) = ltrim l := by
  obtain ⟨hn, e⟩ := List.getElem?_eq_some_iff.mp h0
  rw [← h, List.drop_eq_getElem_cons hn, e]
  rfl
theorem ltrim_done {l : List Tri} {n : Nat} {a : Tri} (ha : a ≠ tq) (h0 : l[n]? = some a) (h : ltrim (l.drop n) = ltrim l) : l.drop n = ltrim l := by
  obtain ⟨hn, e⟩ := List.getElem?_eq_some_iff.mp h0
  rw [← h, List.drop_eq_getElem_cons hn, e]
  show a :: l.drop (n + 1) = if a = tq then _ else _
  rw [if_neg ha]
theorem rtrim_take {l : List Tri} {n : Nat} (h0 : l[n]? = some tq) (h : rtrim (l.take (n + 1)) = rtrim l) : rtrim (l.take n) = rtrim l := by
  rw [← h, List.take_add_one, h0]
  exact (rtrim_snocQ _).symm
theorem rtrim_done {l : List Tri} {n : Nat} {a : Tri} (ha : a ≠ tq) (h0 : l[n]? = some a) (h : rtrim (l.take (n + 1)) = rtrim l) : l.take (n + 1) = rtrim l := by
  rw [← h, List.take_add_one, h0]
  exact (rtrim_snoc ha).symm

/-! ### quiet cells -/
def Z (l : List Int) : List Tri := l.map fun a => (0, a, 0)
theorem Z_append (l r : List Int) : Z (l ++ r) = Z l ++ Z r := List.map_append
theorem Z_cons (a : Int) (l : List Int) : Z (a :: l) = (0, a, 0) :: Z l := rfl
theorem gf_Z (l : List Int) (y : Tri) (r : List Tri) (h : y.1 = 0) : gf 0 (Z l ++ y :: r) = Z l ++ gf 0 (y :: r) := by
  induction l with
  | nil => rfl
  | cons a l ih =>
    rw [Z_cons, List.cons_append, List.cons_append, ← ih]
    cases l with
    | nil =>
      show gf 0 ((0, a, 0) :: y :: r) = _
      rw [gf, h]
      rfl
    | cons b l' => rfl
/-- the last of the quiet cells sees a letter that comes from the right -/
theorem gf_Zl (l : List Int) (a : Int) (y : Tri) (r : List Tri) : gf 0 (Z (l ++ [a]) ++ y :: r) = Z l ++ (0, a, y.1) :: gf 0 (y :: r) := by
  rw [Z_append, List.append_assoc]
  show gf 0 (Z l ++ (0, a, 0) :: y :: r) = _
  rw [gf_Z l (0, a, 0) (y :: r) rfl, gf]
theorem gf_end (l : List Int) : gf 0 (Z l ++ [tq]) = Z l := by
  rw [gf_Z l tq [] rfl]
  show Z l ++ [] = Z l
  rw [List.append_nil]
/-- a letter that comes from the left -/
theorem gf_from (c a : Int) (l : List Int) : gf c (Z (a :: l) ++ [tq]) = (c, a, 0) :: Z l := by
  rw [Z_cons, List.cons_append]
  cases l with
  | nil => rfl
  | cons b l' =>
    show (c, a, 0) :: gf 0 (Z (b :: l') ++ [tq]) = _
    rw [gf_end]
theorem ltrim_Z (l : List Int) (r : List Tri) (h : Tri) (hh : h ≠ tq) (hl : trim l = l) : ltrim (Z (0 :: l.reverse) ++ h :: r) = Z l.reverse ++ h :: r := by
  have e : Z (0 :: l.reverse) ++ h :: r = tq :: (Z l.reverse ++ h :: r) := rfl
  rw [e]
  show ltrim (Z l.reverse ++ h :: r) = _
  cases hr : l.reverse with
  | nil =>
    show (if h = tq then _ else _) = _
    rw [if_neg hh]
    rfl
  | cons a t =>
    have ha : a ≠ 0 := by
      intro z
      have e2 : l = t.reverse ++ [0] := by rw [← List.reverse_reverse l, hr, List.reverse_cons, z]
      rw [e2, trim_snoc0] at hl
      have := trim_len t.reverse
      rw [hl, List.length_append, List.length_singleton] at this
      omega
    show (if ((0, a, 0) : Tri) = tq then _ else _) = _
    rw [if_neg (fun z => ha (tri_eq z).2.1)]
    rfl
theorem rtrim_app (x : List Tri) (h : Tri) (hh : h ≠ tq) (r : List Tri) : rtrim (x ++ h :: r) = x ++ h :: rtrim r := by
  induction x with
  | nil =>
    show rtrim (h :: r) = h :: rtrim r
    rw [rtrim_cons, if_neg (fun z => hh z.2)]
  | cons a x ih => rw [List.cons_append, rtrim_cons, ih, if_neg (by simp)]; rfl
theorem rtrim_Z (l : List Int) : rtrim (Z l) = Z (trim l) := by
  induction l with
  | nil => rfl
  | cons a l ih =>
    rw [Z_cons, rtrim_cons, ih, trim_cons]
    by_cases h1 : trim l = []
    · by_cases h2 : a = 0
      · rw [if_pos ⟨by rw [h1]; rfl, by rw [h2]⟩, if_pos ⟨h1, h2⟩]
        rfl
      · rw [if_neg (fun z => h2 (tri_eq z.2).2.1), if_neg (fun z => h2 z.2)]
        rfl
    · rw [if_neg (fun z => h1 (List.map_eq_nil_iff.mp z.1)), if_neg (fun z => h1 z.1)]
      rfl
/-- the quiet cells around a loud one are cut as a tape is -/
theorem trimQ_mid (l r : List Int) (h : Tri) (hh : h ≠ tq) (hl : trim l = l) : trimQ (Z (0 :: l.reverse) ++ h :: Z (r ++ [0])) = Z l.reverse ++ h :: Z (trim r) := by
  unfold trimQ
  rw [ltrim_Z l _ h hh hl, rtrim_app _ _ hh, rtrim_Z, trim_snoc0]
/-- left cells that are not cut yet: rev l, then a quiet cell a, then the loud one -/
theorem trimQ_left (l : List Int) (a : Int) (h : Tri) (hh : h ≠ tq) (r : List Tri) (hl : trim l = l) : ltrim (Z (0 :: l.reverse ++ [a]) ++ h :: r) = Z (trim (a :: l)).reverse ++ h :: r := by
  by_cases h0 : l = [] ∧ a = 0
  · obtain ⟨h1, h2⟩ := h0
    subst h1 h2
    show (if h = tq then _ else _) = _
    rw [if_neg hh]
    rfl
  · have e : trim (a :: l) = a :: l := by rw [trim_cons, hl, if_neg h0]
    rw [e]
    have q := ltrim_Z (a :: l) r h hh e
    rw [List.reverse_cons] at q ⊢
    exact q

/-! ### steps -/
def All2 (C : Tri → Tri → Prop) : List Tri → List Tri → Prop
  | [], [] => True
  | k :: ks, v :: vs => C k v ∧ All2 C ks vs
  | _, _ => False
theorem All2.app {C : Tri → Tri → Prop} : ∀ {a b c d : List Tri}, All2 C a b → All2 C c d → All2 C (a ++ c) (b ++ d)
  | [], [], _, _, _, h => h
  | _ :: _, _ :: _, _, _, h1, h => ⟨h1.1, All2.app h1.2 h⟩
  | [], _ :: _, _, _, h1, _ => h1.elim
  | _ :: _, [], _, _, h1, _ => h1.elim
theorem All2.Z {C : Tri → Tri → Prop} {l : List Int} (h : ∀ x ∈ l, C (0, x, 0) (0, x, 0)) : All2 C (Z l) (Z l) := by
  induction l with
  | nil => trivial
  | cons a l ih => exact ⟨h a List.mem_cons_self, ih fun x hx => h x (List.mem_cons_of_mem _ hx)⟩
theorem All2.len {C : Tri → Tri → Prop} : ∀ {a b : List Tri}, All2 C a b → a.length = b.length
  | [], [], _ => rfl
  | _ :: _, _ :: _, h => congrArg (· + 1) (All2.len h.2)
  | [], _ :: _, h => h.elim
  | _ :: _, [], h => h.elim
theorem All2.get {C : Tri → Tri → Prop} : ∀ {a b : List Tri} {i : Nat} {k : Tri}, All2 C a b → a[i]? = some k → ∃ v, b[i]? = some v ∧ C k v
  | _ :: _, _ :: _, 0, _, h, e => by
    cases e
    exact ⟨_, rfl, h.1⟩
  | _ :: _, _ :: _, i + 1, _, h, e => All2.get (i := i) h.2 e
  | [], [], _, _, _, e => by cases e
  | [], _ :: _, _, _, h, _ => h.elim
  | _ :: _, [], _, _, h, _ => h.elim
def wide (L : List Tri) : List Tri := tq :: tq :: L ++ [tq, tq]
def StepR (C : Tri → Tri → Prop) (L L' : List Tri) : Prop := ∃ cs, All2 C (gather (wide L)) cs ∧ L' = trimQ cs
def BackR (C : Tri → Tri → Prop) (L L' : List Tri) : Prop := ∃ ks, All2 (fun c k => C k c) (wide L) ks ∧ L' = trimQ (gather ks)
def down (m : Int) (c : Cfg) : List Tri := Z c.l.reverse ++ (0, hl m c.q c.a, 0) :: Z c.r
theorem wide_eq (l r : List Int) (h : Tri) : wide (Z l ++ h :: Z r) = tq :: (Z (0 :: l) ++ h :: (Z (r ++ [0]) ++ [tq])) := by
  unfold wide
  rw [Z_append]
  show tq :: tq :: ((Z l ++ h :: Z r) ++ [tq, tq]) = tq :: tq :: (Z l ++ h :: (Z r ++ Z [0] ++ [tq]))
  rw [List.append_assoc, List.cons_append, List.append_assoc]
  rfl
/-- one loud cell between quiet ones, forwards -/
theorem step_one {C : Tri → Tri → Prop} {l r : List Int} {x h v : Tri} (hx : x.1 = 0) (hx2 : x.2.2 = 0) (he : h = (0, x.2.1, 0)) (hv : v ≠ tq) (hl : trim l = l) (hr : trim r = r) (cl : ∀ a ∈ l, C (0, a, 0) (0, a, 0)) (cr : ∀ a ∈ r, C (0, a, 0) (0, a, 0)) (c0 : C tq tq) (ch : C h v) :
    StepR C (Z l.reverse ++ x :: Z r) (Z l.reverse ++ v :: Z r) := by
  refine ⟨Z (0 :: l.reverse) ++ v :: Z (r ++ [0]), ?_, ?_⟩
  · rw [wide_eq]
    show All2 C (gf 0 (Z (0 :: l.reverse) ++ x :: (Z (r ++ [0]) ++ [tq]))) _
    rw [gf_Z _ _ _ hx]
    have e : gf 0 (x :: (Z (r ++ [0]) ++ [tq])) = h :: Z (r ++ [0]) := by
      have g := gf_end (r ++ [0])
      cases hz : Z (r ++ [0]) ++ [tq] with
      | nil => simp at hz
      | cons y r' =>
        rw [hz] at g
        have y1 : y.1 = 0 := by
          cases r with
          | nil => cases hz; rfl
          | cons a r2 => cases hz; rfl
        rw [gf, y1, hx2, g, he]
    rw [e]
    refine All2.app (All2.Z fun a ha => ?_) ⟨ch, All2.Z fun a ha => ?_⟩
    · rcases List.mem_cons.mp ha with e | e
      · rw [e]; exact c0
      · exact cl a (List.mem_reverse.mp e)
    · rcases List.mem_append.mp ha with e | e
      · exact cr a e
      · rw [List.mem_singleton.mp e]; exact c0
  · rw [trimQ_mid _ _ _ hv hl, hr]
/-- .. backwards: the key comes from the sides' letters of one cell's source -/
theorem back_one {C : Tri → Tri → Prop} {l r : List Int} {x v : Tri} (hx : x.1 = 0) (hx2 : x.2.2 = 0) (hv : x ≠ tq) (hl : trim l = l) (hr : trim r = r) (cl : ∀ a ∈ l, C (0, a, 0) (0, a, 0)) (cr : ∀ a ∈ r, C (0, a, 0) (0, a, 0)) (c0 : C tq tq) (ch : C x v) :
    BackR C (Z l.reverse ++ v :: Z r) (Z l.reverse ++ x :: Z r) := by
  refine ⟨tq :: (Z (0 :: l.reverse) ++ x :: (Z (r ++ [0]) ++ [tq])), ?_, ?_⟩
  · rw [wide_eq]
    refine ⟨c0, All2.app (All2.Z (C := fun c k => C k c) fun a ha => ?_) ⟨ch, All2.app (All2.Z (C := fun c k => C k c) fun a ha => ?_) ⟨c0, trivial⟩⟩⟩
    · rcases List.mem_cons.mp ha with e | e
      · rw [e]; exact c0
      · exact cl a (List.mem_reverse.mp e)
    · rcases List.mem_append.mp ha with e | e
      · exact cr a e
      · rw [List.mem_singleton.mp e]; exact c0
  · show _ = trimQ (gf 0 (Z (0 :: l.reverse) ++ x :: (Z (r ++ [0]) ++ [tq])))
    rw [gf_Z _ _ _ hx]
    have e : gf 0 (x :: (Z (r ++ [0]) ++ [tq])) = x :: Z (r ++ [0]) := by
      have g := gf_end (r ++ [0])
      cases hz : Z (r ++ [0]) ++ [tq] with
      | nil => simp at hz
      | cons y r' =>
        rw [hz] at g
        have y1 : y.1 = 0 := by
          cases r with
          | nil => cases hz; rfl
          | cons a r2 => cases hz; rfl
        rw [gf, y1, hx2, g]
        obtain ⟨x1, x2, x3⟩ := x
        cases hx
        cases hx2
        rfl
    rw [e, trimQ_mid _ _ _ hv hl, hr]
/-- a head on its way to the right arrives -/
theorem step_right {C : Tri → Tri → Prop} {l r : List Int} {a t h : Int} (hh : h ≠ 0) (hl : trim l = l) (hr : trim r = r) (cl : ∀ a ∈ l, C (0, a, 0) (0, a, 0)) (cr : ∀ a ∈ r, C (0, a, 0) (0, a, 0)) (c0 : C tq tq) (ca : C (0, a, 0) (0, a, 0))
    (ch : C (t, r.headD 0, 0) (0, h, 0)) : StepR C (Z l.reverse ++ (0, a, t) :: Z r) (Z (trim (a :: l)).reverse ++ (0, h, 0) :: Z r.tail) := by
  have hv : ((0, h, 0) : Tri) ≠ tq := fun z => hh (tri_eq z).2.1
  refine ⟨Z (0 :: l.reverse ++ [a]) ++ (0, h, 0) :: Z (r ++ [0]).tail, ?_, ?_⟩
  · rw [wide_eq]
    show All2 C (gf 0 (Z (0 :: l.reverse) ++ (0, a, t) :: (Z (r ++ [0]) ++ [tq]))) _
    rw [gf_Z _ _ _ rfl]
    have e : gf 0 ((0, a, t) :: (Z (r ++ [0]) ++ [tq])) = (0, a, 0) :: (t, r.headD 0, 0) :: Z (r ++ [0]).tail := by
      cases r with
      | nil => rfl
      | cons b r2 =>
        show (0, a, 0) :: gf t (Z (b :: (r2 ++ [0])) ++ [tq]) = _
        rw [gf_from]
        rfl
    rw [e, Z_append, List.append_assoc]
    refine All2.app (All2.Z fun b hb => ?_) ⟨ca, ch, All2.Z fun b hb => ?_⟩
    · rcases List.mem_cons.mp hb with e | e
      · rw [e]; exact c0
      · exact cl b (List.mem_reverse.mp e)
    · rcases List.mem_append.mp (List.mem_of_mem_tail hb) with e | e
      · exact cr b e
      · rw [List.mem_singleton.mp e]; exact c0
  · unfold trimQ
    rw [trimQ_left _ _ _ hv _ hl, rtrim_app _ _ hv, rtrim_Z]
    congr 3
    cases r with
    | nil => rfl
    | cons b r2 =>
      show r2 = trim (r2 ++ [0])
      rw [trim_snoc0, trim_tail hr]
/-- .. to the left -/
theorem step_left {C : Tri → Tri → Prop} {l r : List Int} {a t h : Int} (hh : h ≠ 0) (hl : trim l = l) (cl : ∀ a ∈ l, C (0, a, 0) (0, a, 0)) (cr : ∀ a ∈ r, C (0, a, 0) (0, a, 0)) (c0 : C tq tq) (ca : C (0, a, 0) (0, a, 0))
    (ch : C (0, l.headD 0, t) (0, h, 0)) : StepR C (Z l.reverse ++ (t, a, 0) :: Z r) (Z l.tail.reverse ++ (0, h, 0) :: Z (trim (a :: r))) := by
  have hv : ((0, h, 0) : Tri) ≠ tq := fun z => hh (tri_eq z).2.1
  have g : gf 0 ((t, a, 0) :: (Z (r ++ [0]) ++ [tq])) = (0, a, 0) :: Z (r ++ [0]) := by
    have g := gf_end (r ++ [0])
    cases r with
    | nil => rfl
    | cons b r2 =>
      show (0, a, 0) :: gf 0 (Z (b :: r2 ++ [0]) ++ [tq]) = _
      rw [g]
  have fin : Z (trim (a :: r)) = rtrim ((0, a, 0) :: Z (r ++ [0])) := by
    show _ = rtrim (Z (a :: r ++ [0]))
    rw [rtrim_Z, trim_snoc0]
  have mr : ∀ b ∈ r ++ [0], C (0, b, 0) (0, b, 0) := fun b hb => by
    rcases List.mem_append.mp hb with e | e
    · exact cr b e
    · rw [List.mem_singleton.mp e]; exact c0
  cases l with
  | nil =>
    refine ⟨(0, h, 0) :: (0, a, 0) :: Z (r ++ [0]), ?_, ?_⟩
    · rw [wide_eq]
      show All2 C (gf 0 (Z ([] ++ [0]) ++ (t, a, 0) :: (Z (r ++ [0]) ++ [tq]))) _
      rw [gf_Zl, g]
      exact ⟨ch, ca, All2.Z mr⟩
    · have e : trimQ ((0, h, 0) :: (0, a, 0) :: Z (r ++ [0])) = (0, h, 0) :: rtrim ((0, a, 0) :: Z (r ++ [0])) := by
        unfold trimQ
        have e1 : ltrim ((0, h, 0) :: (0, a, 0) :: Z (r ++ [0])) = (0, h, 0) :: (0, a, 0) :: Z (r ++ [0]) := by
          show (if ((0, h, 0) : Tri) = tq then _ else _) = _
          rw [if_neg hv]
        rw [e1, rtrim_cons, if_neg (fun z => hv z.2)]
      rw [e, fin]
      rfl
  | cons b l2 =>
    refine ⟨Z (0 :: l2.reverse) ++ (0, h, 0) :: (0, a, 0) :: Z (r ++ [0]), ?_, ?_⟩
    · rw [wide_eq]
      have e : (0 :: (b :: l2).reverse) = (0 :: l2.reverse) ++ [b] := by rw [List.reverse_cons]; rfl
      show All2 C (gf 0 (Z (0 :: (b :: l2).reverse) ++ (t, a, 0) :: (Z (r ++ [0]) ++ [tq]))) _
      rw [e, gf_Zl, g]
      refine All2.app (All2.Z fun x hx => ?_) ⟨ch, ca, All2.Z mr⟩
      rcases List.mem_cons.mp hx with e | e
      · rw [e]; exact c0
      · exact cl x (List.mem_cons_of_mem _ (List.mem_reverse.mp e))
    · unfold trimQ
      rw [ltrim_Z _ _ _ hv (trim_tail hl), rtrim_app _ _ hv, ← fin]
      rfl
/-- a head that came from the left goes back on its way -/
theorem back_right {C : Tri → Tri → Prop} {l r : List Int} {a t h : Int} (ht : t ≠ 0) (hl : trim l = l) (hr : trim r = r) (cl : ∀ a ∈ l, C (0, a, 0) (0, a, 0)) (cr : ∀ a ∈ r, C (0, a, 0) (0, a, 0)) (c0 : C tq tq) (ca : C (0, a, 0) (0, a, 0))
    (ch : C (t, r.headD 0, 0) (0, h, 0)) : BackR C (Z (trim (a :: l)).reverse ++ (0, h, 0) :: Z r.tail) (Z l.reverse ++ (0, a, t) :: Z r) := by
  have hv : ((0, a, t) : Tri) ≠ tq := fun z => ht (tri_eq z).2.2
  have g : gf 0 ((t, r.headD 0, 0) :: (Z (r.tail ++ [0]) ++ [tq])) = Z (r.headD 0 :: (r.tail ++ [0])) := by
    have g := gf_end (r.tail ++ [0])
    cases hz : Z (r.tail ++ [0]) ++ [tq] with
    | nil => simp at hz
    | cons y r' =>
      rw [hz] at g
      have y1 : y.1 = 0 := by
        cases e : r.tail with
        | nil => rw [e] at hz; cases hz; rfl
        | cons a r2 => rw [e] at hz; cases hz; rfl
      rw [gf, y1, g]
      rfl
  have fin : rtrim (Z (r.headD 0 :: (r.tail ++ [0]))) = Z r := by
    rw [rtrim_Z, show r.headD 0 :: (r.tail ++ [0]) = (r.headD 0 :: r.tail) ++ [0] from rfl, trim_snoc0]
    cases r with
    | nil => rfl
    | cons b r2 => exact congrArg Z hr
  have mr : ∀ b ∈ r.tail ++ [0], C (0, b, 0) (0, b, 0) := fun b hb => by
    rcases List.mem_append.mp hb with e | e
    · exact cr b (List.mem_of_mem_tail e)
    · rw [List.mem_singleton.mp e]; exact c0
  -- the quiet cells to the left, as they are read: w, then a
  obtain ⟨w, ew, hw, cw⟩ : ∃ w : List Int, 0 :: (trim (a :: l)).reverse = w ++ [a] ∧ ltrim (Z w ++ (0, a, t) :: Z (r.headD 0 :: (r.tail ++ [0]))) = Z l.reverse ++ (0, a, t) :: Z (r.headD 0 :: (r.tail ++ [0])) ∧ ∀ x ∈ w ++ [a], C (0, x, 0) (0, x, 0) := by
    by_cases h0 : l = [] ∧ a = 0
    · obtain ⟨h1, h2⟩ := h0
      subst h1 h2
      refine ⟨[], rfl, ?_, fun x hx => ?_⟩
      · show (if ((0, 0, t) : Tri) = tq then _ else _) = _
        rw [if_neg hv]
        rfl
      · rw [List.mem_singleton.mp hx]
        exact c0
    · have e : trim (a :: l) = a :: l := by rw [trim_cons, hl, if_neg h0]
      refine ⟨0 :: l.reverse, by rw [e, List.reverse_cons]; rfl, ltrim_Z l _ _ hv hl, fun x hx => ?_⟩
      rcases List.mem_append.mp hx with q | q
      · rcases List.mem_cons.mp q with q | q
        · rw [q]; exact c0
        · exact cl x (List.mem_reverse.mp q)
      · rw [List.mem_singleton.mp q]; exact ca
  refine ⟨tq :: (Z (w ++ [a]) ++ (t, r.headD 0, 0) :: (Z (r.tail ++ [0]) ++ [tq])), ?_, ?_⟩
  · rw [wide_eq, ew]
    exact ⟨c0, All2.app (All2.Z (C := fun c k => C k c) cw) ⟨ch, All2.app (All2.Z (C := fun c k => C k c) mr) ⟨c0, trivial⟩⟩⟩
  · show _ = trimQ (gf 0 (Z (w ++ [a]) ++ (t, r.headD 0, 0) :: (Z (r.tail ++ [0]) ++ [tq])))
    rw [gf_Zl, g]
    unfold trimQ
    show _ = rtrim (ltrim (Z w ++ (0, a, t) :: Z (r.headD 0 :: (r.tail ++ [0]))))
    rw [hw, rtrim_app _ _ hv, fin]
theorem back_left {C : Tri → Tri → Prop} {l r : List Int} {a t h : Int} (ht : t ≠ 0) (hl : trim l = l) (hr : trim r = r) (cl : ∀ a ∈ l, C (0, a, 0) (0, a, 0)) (cr : ∀ a ∈ r, C (0, a, 0) (0, a, 0)) (c0 : C tq tq) (ca : C (0, a, 0) (0, a, 0))
    (ch : C (0, l.headD 0, t) (0, h, 0)) : BackR C (Z l.tail.reverse ++ (0, h, 0) :: Z (trim (a :: r))) (Z l.reverse ++ (t, a, 0) :: Z r) := by
  have hv : ((t, a, 0) : Tri) ≠ tq := fun z => ht (tri_eq z).1
  -- the quiet cells to the right, as they are read: a, then w
  obtain ⟨w, ew, hw, cw⟩ : ∃ w : List Int, trim (a :: r) ++ [0] = a :: w ∧ trim w = r ∧ ∀ x ∈ a :: w, C (0, x, 0) (0, x, 0) := by
    by_cases h0 : r = [] ∧ a = 0
    · obtain ⟨h1, h2⟩ := h0
      subst h1 h2
      refine ⟨[], rfl, rfl, fun x hx => ?_⟩
      rw [List.mem_singleton.mp hx]
      exact c0
    · have e : trim (a :: r) = a :: r := by rw [trim_cons, hr, if_neg h0]
      refine ⟨r ++ [0], by rw [e]; rfl, by rw [trim_snoc0, hr], fun x hx => ?_⟩
      rcases List.mem_cons.mp hx with q | q
      · rw [q]; exact ca
      · rcases List.mem_append.mp q with q | q
        · exact cr x q
        · rw [List.mem_singleton.mp q]; exact c0
  have g : ∀ y : Int, gf 0 ((0, y, t) :: (Z (a :: w) ++ [tq])) = (0, y, 0) :: (t, a, 0) :: Z w := fun y => by
    show (0, y, 0) :: gf t (Z (a :: w) ++ [tq]) = _
    rw [gf_from]
  have el : (0 :: 0 :: l.tail.reverse) = [0] ++ (0 :: l.tail.reverse) := rfl
  refine ⟨tq :: (Z (0 :: l.tail.reverse) ++ (0, l.headD 0, t) :: (Z (a :: w) ++ [tq])), ?_, ?_⟩
  · rw [wide_eq, ew]
    refine ⟨c0, All2.app (All2.Z (C := fun c k => C k c) fun b hb => ?_) ⟨ch, All2.app (All2.Z (C := fun c k => C k c) cw) ⟨c0, trivial⟩⟩⟩
    rcases List.mem_cons.mp hb with e | e
    · rw [e]; exact c0
    · exact cl b (List.mem_of_mem_tail (List.mem_reverse.mp e))
  · show _ = trimQ (gf 0 (Z (0 :: l.tail.reverse) ++ (0, l.headD 0, t) :: (Z (a :: w) ++ [tq])))
    rw [gf_Z _ _ _ rfl, g]
    unfold trimQ
    cases l with
    | nil =>
      show Z [] ++ (t, a, 0) :: Z r = rtrim (ltrim (tq :: tq :: (t, a, 0) :: Z w))
      have e1 : ltrim (tq :: tq :: (t, a, 0) :: Z w) = (t, a, 0) :: Z w := by
        show (if ((t, a, 0) : Tri) = tq then _ else _) = _
        rw [if_neg hv]
      rw [e1, rtrim_cons, if_neg (fun z => hv z.2), rtrim_Z, hw]
      rfl
    | cons b l2 =>
      have e : Z (0 :: l2.reverse) ++ (0, b, 0) :: (t, a, 0) :: Z w = Z (0 :: (b :: l2).reverse) ++ (t, a, 0) :: Z w := by
        rw [List.reverse_cons, ← List.cons_append, Z_append (0 :: l2.reverse) [b], List.append_assoc]
        rfl
      show _ = rtrim (ltrim (Z (0 :: l2.reverse) ++ (0, b, 0) :: (t, a, 0) :: Z w))
      rw [e, ltrim_Z (b :: l2) _ _ hv hl, rtrim_app _ _ hv, rtrim_Z, hw]
end Bk

/-! A stair: what a line does for a step of the machine. -/
namespace Bk
def goes (c : Cfg) : Row → Bool
  | .mv q d _ => decide (q = c.q ∧ d ≠ 0)
  | .wr _ _ _ _ => false
def paceM (rows : List Row) (c : Cfg) : Int := match after rows c with
  | none => 0
  | some _ => if rows.any (goes c) then 2 else 1
def headsOf (m : Int) (L : List Tri) : List Nat := (List.range L.length).filter fun i => decide (m ≤ ((L[i]?).getD tq).2.1)
def mid (x : Tri) : Int := x.2.1
def tapeM (m : Int) (L : List Tri) : Option Cfg := match headsOf m L with
  | [i] => some ⟨(mid ((L[i]?).getD tq)) / m - 1, trim ((L.map mid).take i).reverse, (mid ((L[i]?).getD tq)) % m, trim ((L.map mid).drop (i + 1))⟩
  | _ => none
def quietQ (L : List Tri) : Bool := L.all fun x => decide (x.1 = 0) && decide (x.2.2 = 0)
def upM (m : Int) (L : List Tri) : Option Cfg := if quietQ L then tapeM m L else none
theorem Z_mid (l : List Int) : (Z l).map mid = l := by
  unfold Z
  rw [List.map_map]
  show l.map (fun a => a) = l
  simp
theorem Z_len (l : List Int) : (Z l).length = l.length := List.length_map ..
theorem Z_get {l : List Int} {i : Nat} {x : Tri} (h : (Z l)[i]? = some x) : x.2.1 ∈ l := by
  unfold Z at h
  rw [List.getElem?_map] at h
  obtain ⟨a, h1, h2⟩ := Option.map_eq_some_iff.mp h
  rw [← h2]
  exact List.mem_of_getElem? h1
theorem heads_one {m h : Int} {l r : List Int} (hl : ∀ x ∈ l, x < m) (hr : ∀ x ∈ r, x < m) (hh : m ≤ h) : headsOf m (Z l ++ (0, h, 0) :: Z r) = [l.length] := by
  unfold headsOf
  have e : (Z l ++ (0, h, 0) :: Z r).length = l.length + (1 + r.length) := by
    rw [List.length_append, List.length_cons, Z_len, Z_len]
    omega
  rw [e, List.range_add, List.filter_append]
  have e1 : (List.range l.length).filter (fun i => decide (m ≤ (((Z l ++ (0, h, 0) :: Z r)[i]?).getD tq).2.1)) = [] := by
    rw [List.filter_eq_nil_iff]
    intro i hi
    have hi2 : i < (Z l).length := by rw [Z_len]; exact List.mem_range.mp hi
    rw [List.getElem?_append_left hi2, List.getElem?_eq_getElem hi2]
    have := hl _ (Z_get (List.getElem?_eq_getElem hi2))
    simp only [Option.getD_some, decide_eq_true_eq]
    omega
  have e2 : List.range (1 + r.length) = 0 :: (List.range r.length).map (fun i => 1 + i) := by
    rw [List.range_add]
    rfl
  rw [e1, e2, List.nil_append, List.map_cons, List.filter_cons]
  have e3 : (((Z l ++ (0, h, 0) :: Z r)[l.length + 0]?).getD tq).2.1 = h := by
    rw [List.getElem?_append_right (by rw [Z_len]; omega), Z_len]
    simp
  rw [e3, if_pos (by simpa using hh), List.map_map]
  have e4 : ((List.range r.length).map ((fun x => l.length + x) ∘ fun i => 1 + i)).filter (fun i => decide (m ≤ (((Z l ++ (0, h, 0) :: Z r)[i]?).getD tq).2.1)) = [] := by
    rw [List.filter_eq_nil_iff]
    intro i hi
    obtain ⟨j, hj, ej⟩ := List.mem_map.mp hi
    have hj2 : j < (Z r).length := by rw [Z_len]; exact List.mem_range.mp hj
    have ei : i = l.length + (1 + j) := ej.symm
    rw [ei, List.getElem?_append_right (by rw [Z_len]; omega), Z_len, show l.length + (1 + j) - l.length = j + 1 by omega, List.getElem?_cons_succ, List.getElem?_eq_getElem hj2]
    have := hr _ (Z_get (List.getElem?_eq_getElem hj2))
    simp only [Option.getD_some, decide_eq_true_eq]
    omega
  rw [e4]
  rfl
theorem quiet_Z (l r : List Int) (h : Int) : quietQ (Z l ++ (0, h, 0) :: Z r) = true := by
  unfold quietQ
  rw [List.all_append, List.all_cons]
  have q : ∀ l : List Int, (Z l).all (fun x => decide (x.1 = 0) && decide (x.2.2 = 0)) = true := fun l => by
    rw [List.all_eq_true]
    intro x hx
    obtain ⟨a, _, e⟩ := List.mem_map.mp hx
    rw [← e]
    rfl
  rw [q, q]
  rfl
theorem up_down {m s : Int} {c : Cfg} (hm : 0 < m) (hc : c.Ok m s) : upM m (down m c) = some c := by
  obtain ⟨q, l, a, r⟩ := c
  obtain ⟨h1, h2, h3, h4, h5, h6⟩ := hc
  simp only at h1 h2 h3 h4 h5 h6
  unfold upM down
  rw [if_pos (quiet_Z _ _ _)]
  unfold tapeM
  have e := heads_one (h := hl m q a) (l := l.reverse) (r := r) (fun x hx => (h3 x (List.mem_reverse.mp hx)).2) (fun x hx => (h4 x hx).2) (hl_ge hm h1.1 h2.1)
  rw [e]
  have e2 : (Z l.reverse ++ (0, hl m q a, 0) :: Z r)[l.reverse.length]? = some (0, hl m q a, 0) := by
    rw [List.getElem?_append_right (by rw [Z_len]; omega), Z_len]
    simp
  obtain ⟨d1, d2⟩ := hl_div (q := q) hm h2
  simp only [e2, Option.getD_some, mid, d1, d2]
  have e3 : (Z l.reverse ++ (0, hl m q a, 0) :: Z r).map mid = l.reverse ++ (hl m q a :: r) := by
    rw [List.map_append, List.map_cons, Z_mid, Z_mid]
    rfl
  have e4 : (Z l.reverse ++ (0, hl m q a, 0) :: Z r).map (fun x => x.2.1) = l.reverse ++ (hl m q a :: r) := e3
  refine congrArg some ?_
  show Cfg.mk _ (trim (((Z l.reverse ++ (0, hl m q a, 0) :: Z r).map mid).take _).reverse) _ (trim (((Z l.reverse ++ (0, hl m q a, 0) :: Z r).map mid).drop _)) = _
  rw [e3, List.take_left, List.reverse_reverse, h5, show l.reverse.length + 1 = (l.reverse ++ [hl m q a]).length by rw [List.length_append]; rfl, show l.reverse ++ (hl m q a :: r) = (l.reverse ++ [hl m q a]) ++ r by rw [List.append_assoc]; rfl, List.drop_left, h6]
  congr 1
  omega
theorem loud_none {m : Int} {l r : List Int} {x : Tri} (h : x.1 ≠ 0 ∨ x.2.2 ≠ 0) : upM m (Z l ++ x :: Z r) = none := by
  unfold upM
  have e : quietQ (Z l ++ x :: Z r) = false := by
    unfold quietQ
    rw [List.all_append, List.all_cons]
    have : (decide (x.1 = 0) && decide (x.2.2 = 0)) = false := by
      rw [Bool.and_eq_false_iff, decide_eq_false_iff_not, decide_eq_false_iff_not]
      exact h
    rw [this]
    simp
  rw [e]
  rfl
theorem down_len (m : Int) (c : Cfg) : (down m c).length = c.size + 1 := by
  unfold down Cfg.size
  rw [List.length_append, List.length_cons, Z_len, Z_len, List.length_reverse]
  omega
/-- THE STAIR -/
structure Stair1 (m : Int) (rows : List Row) (c c' : Cfg) : Prop where
  p : paceM rows c = 1
  f : StepR (Ch m rows) (down m c) (down m c')
  b : BackR (Ch m rows) (down m c') (down m c)
structure Stair2 (m : Int) (rows : List Row) (c c' : Cfg) (M : List Tri) : Prop where
  p : paceM rows c = 2
  f1 : StepR (Ch m rows) (down m c) M
  b1 : BackR (Ch m rows) M (down m c)
  f2 : StepR (Ch m rows) M (down m c')
  b2 : BackR (Ch m rows) (down m c') M
  u : upM m M = none
  n : M.length = c.size + 1
theorem stair {m s : Int} {rows : List Row} (G : Good m s rows) {c c' : Cfg} (hc : c.Ok m s) (ha : after rows c = some c') : Stair1 m rows c c' ∨ ∃ M, Stair2 m rows c c' M := by
  have hm : 0 < m := by have := G.m2; omega
  obtain ⟨r, hr, ap, e⟩ := after_some ha
  have ro := G.ok r hr
  have ho := Row.ok_st ro
  have hq := applies_st ap
  have h0 : Ch m rows tq tq := .inl ⟨0, ⟨Int.le_refl _, hm⟩, rfl, rfl⟩
  have hb : ∀ x : Int, 0 ≤ x ∧ x < m → Ch m rows (0, x, 0) (0, x, 0) := fun x hx => .inl ⟨x, hx, rfl, rfl⟩
  have hL : ∀ x ∈ c.l, Ch m rows (0, x, 0) (0, x, 0) := fun x hx => hb x (hc.l x hx)
  have hR : ∀ x ∈ c.r, Ch m rows (0, x, 0) (0, x, 0) := fun x hx => hb x (hc.r x hx)
  have co : c'.Ok m s := e ▸ Row.act_ok hm ro hc
  have nz : ∀ {q a : Int}, 0 ≤ q → 0 ≤ a → ((0, hl m q a, 0) : Tri) ≠ tq := fun {q a} h1 h2 z => by
    have := hl_ge hm h1 h2
    have := (tri_eq z).2.1
    omega
  have nz1 : ∀ {q a : Int}, 0 ≤ q → 0 ≤ a → hl m q a ≠ 0 := fun {q a} h1 h2 z => by
    have := hl_ge hm h1 h2
    omega
  -- which rows move
  have pace : ∀ d : Int, (∀ q' d' t', r = .mv q' d' t' → d = d') → ((∃ q t, r = .mv q d t) ∨ d = 0) → paceM rows c = if d ≠ 0 then 2 else 1 := fun d hd he => by
    unfold paceM
    rw [ha]
    show (if rows.any (goes c) then (2 : Int) else 1) = _
    by_cases d0 : d = 0
    · rw [show (if d ≠ 0 then (2 : Int) else 1) = 1 from if_neg (fun z => z d0)]
      refine if_neg fun z => ?_
      obtain ⟨r', h1, h2⟩ := List.any_eq_true.mp z
      cases r' with
      | wr q a b t => cases h2
      | mv q' d' t' =>
        simp only [goes, decide_eq_true_eq] at h2
        have : r = Row.mv q' d' t' := noF_eq G.nf hr h1 ((Row.cl_iff _ _).mpr ⟨by rw [hq]; exact h2.1.symm, .inr (.inl rfl)⟩)
        have := hd _ _ _ this
        omega
    · rw [show (if d ≠ 0 then (2 : Int) else 1) = 2 from if_pos d0]
      rcases he with ⟨q, t, he⟩ | he
      · refine if_pos (List.any_eq_true.mpr ⟨r, hr, ?_⟩)
        rw [he] at hq ⊢
        simp only [goes, decide_eq_true_eq]
        exact ⟨hq, d0⟩
      · exact absurd he d0
  cases r with
  | wr q a b t =>
    left
    simp only [applies, decide_eq_true_eq] at ap
    simp only [Row.ok] at ro
    have ec : c' = ⟨t, c.l, b, c.r⟩ := e
    have ch : Ch m rows (0, hl m c.q c.a, 0) (0, hl m t b, 0) := .inr ⟨_, hr, by rw [← ap.1, ← ap.2]; exact ⟨rfl, rfl⟩⟩
    refine ⟨by rw [pace 0 (fun _ _ _ z => by cases z) (.inr rfl)]; rfl, ?_, ?_⟩
    · rw [ec]
      exact step_one rfl rfl rfl (nz ro.2.2.2.1 ro.2.2.1.1) hc.tl hc.tr hL hR h0 ch
    · rw [ec]
      exact back_one rfl rfl (nz hc.q.1 hc.a.1) hc.tl hc.tr hL hR h0 ch
  | mv q d t =>
    simp only [applies, decide_eq_true_eq] at ap
    simp only [Row.ok] at ro
    have pd := pace d (fun _ _ _ z => by injection z) (.inl ⟨q, t, rfl⟩)
    by_cases d0 : d = 0
    · left
      subst d0
      have ec : c' = ⟨t, c.l, c.a, c.r⟩ := by
        rw [e]
        unfold Row.act movedT
        simp
      have ch : Ch m rows (0, hl m c.q c.a, 0) (0, hl m t c.a, 0) := .inr ⟨_, hr, c.a, hc.a, .inl ⟨rfl, by rw [← ap], rfl⟩⟩
      refine ⟨by rw [pd]; rfl, ?_, ?_⟩
      · rw [ec]
        exact step_one rfl rfl rfl (nz ro.2.2.1 hc.a.1) hc.tl hc.tr hL hR h0 ch
      · rw [ec]
        exact back_one rfl rfl (nz hc.q.1 hc.a.1) hc.tl hc.tr hL hR h0 ch
    · right
      rw [if_pos d0] at pd
      have t1 : t + 1 ≠ 0 := by omega
      by_cases d1 : d = 1
      · subst d1
        have ec : c' = ⟨t, trim (c.a :: c.l), c.r.headD 0, c.r.tail⟩ := by
          rw [e]
          unfold Row.act movedT
          simp
        have hh := headD_ok hc.r hm
        have ch1 : Ch m rows (0, hl m c.q c.a, 0) (0, c.a, t + 1) := .inr ⟨_, hr, c.a, hc.a, .inr (.inl ⟨rfl, .inl ⟨by rw [← ap], rfl⟩⟩)⟩
        have ch2 : Ch m rows (t + 1, c.r.headD 0, 0) (0, hl m t (c.r.headD 0), 0) := .inr ⟨_, hr, _, hh, .inr (.inl ⟨rfl, .inr ⟨rfl, rfl⟩⟩)⟩
        have nv : ((0, c.a, t + 1) : Tri) ≠ tq := fun z => t1 (tri_eq z).2.2
        refine ⟨Z c.l.reverse ++ (0, c.a, t + 1) :: Z c.r, pd, step_one rfl rfl rfl nv hc.tl hc.tr hL hR h0 ch1, back_one rfl rfl (nz hc.q.1 hc.a.1) hc.tl hc.tr hL hR h0 ch1, ?_, ?_, loud_none (.inr t1), ?_⟩
        · rw [ec]
          exact step_right (nz1 ro.2.2.1 hh.1) hc.tl hc.tr hL hR h0 (hb _ hc.a) ch2
        · rw [ec]
          exact back_right t1 hc.tl hc.tr hL hR h0 (hb _ hc.a) ch2
        · rw [List.length_append, List.length_cons, Z_len, Z_len, List.length_reverse]
          unfold Cfg.size
          omega
      · have d2 : d = -1 := by omega
        subst d2
        have ec : c' = ⟨t, c.l.tail, c.l.headD 0, trim (c.a :: c.r)⟩ := by
          rw [e]
          unfold Row.act movedT
          simp
        have hh := headD_ok hc.l hm
        have ch1 : Ch m rows (0, hl m c.q c.a, 0) (t + 1, c.a, 0) := .inr ⟨_, hr, c.a, hc.a, .inr (.inr ⟨rfl, .inl ⟨by rw [← ap], rfl⟩⟩)⟩
        have ch2 : Ch m rows (0, c.l.headD 0, t + 1) (0, hl m t (c.l.headD 0), 0) := .inr ⟨_, hr, _, hh, .inr (.inr ⟨rfl, .inr ⟨rfl, rfl⟩⟩)⟩
        have nv : ((t + 1, c.a, 0) : Tri) ≠ tq := fun z => t1 (tri_eq z).1
        refine ⟨Z c.l.reverse ++ (t + 1, c.a, 0) :: Z c.r, pd, step_one rfl rfl rfl nv hc.tl hc.tr hL hR h0 ch1, back_one rfl rfl (nz hc.q.1 hc.a.1) hc.tl hc.tr hL hR h0 ch1, ?_, ?_, loud_none (.inl t1), ?_⟩
        · rw [ec]
          exact step_left (nz1 ro.2.2.1 hh.1) hc.tl hL hR h0 (hb _ hc.a) ch2
        · rw [ec]
          exact back_left t1 hc.tl hc.tr hL hR h0 (hb _ hc.a) ch2
        · rw [List.length_append, List.length_cons, Z_len, Z_len, List.length_reverse]
          unfold Cfg.size
          omega
end Bk

set_option Elab.async false
set_option linter.all false
set_option maxRecDepth 100000
set_option maxHeartbeats 4000000
set_option autoImplicit false
/-! Values by their data: a reading is told by the kind of what it gives. -/
namespace Bk
open PySem L2 Evl
/-- a tuple that stands: b, tracked (it may be a key); else anywhere -/
def TpB (b : Bool) (K : PySem.W.Frag) (H : Hp) (a : Addr) (xs : List V) : Prop := if b = true then H a = some (.tup xs) else SqT K H a xs
mutual
inductive Rp (b : Bool) (K : PySem.W.Frag) (H : Hp) : V → PyData → Prop
  | non : Rp b K H .non .none
  | bl (x : Bool) : Rp b K H (.bl x) (.bool x)
  | int (i : Int) : Rp b K H (.int i) (.int i)
  | str (x : Str) : Rp b K H (.str x) (.str x)
  | tup {a : Addr} {xs : List V} {ds : List PyData} : TpB b K H a xs → RpA b K H xs ds → Rp b K H (.ref a) (.tuple ds)
inductive RpA (b : Bool) (K : PySem.W.Frag) (H : Hp) : List V → List PyData → Prop
  | nil : RpA b K H [] []
  | cons {v : V} {vs : List V} {d : PyData} {ds : List PyData} : Rp b K H v d → RpA b K H vs ds → RpA b K H (v :: vs) (d :: ds)
end
section
variable {b : Bool} {K : PySem.W.Frag} {H H' : Hp}
theorem TpB.sq {a : Addr} {xs : List V} (h : TpB b K H a xs) : SqT K H a xs := by
  unfold TpB at h
  split at h
  · exact SqT.of h
  · exact h
theorem TpB.mk {a : Addr} {xs : List V} (h : H a = some (.tup xs)) : TpB b K H a xs := by
  unfold TpB
  split
  · exact h
  · exact SqT.of h
/-- the tuples stay -/
structure Tx (K : PySem.W.Frag) (H H' : Hp) : Prop where
  t : ∀ a xs, H a = some (.tup xs) → H' a = some (.tup xs)
  f : ∀ a o xs, H a = some (.frz o (.tup xs)) → H' a = some (.frz o (.tup xs))
theorem Tx.of (e : Ex H H') : Tx K H H' := ⟨fun a xs h => e a _ h, fun a o xs h => e a _ h⟩
theorem Tx.trans {H1 H2 : Hp} (a : Tx K H H1) (b : Tx K H1 H2) : Tx K H H2 := ⟨fun x xs h => b.t _ _ (a.t x xs h), fun x o xs h => b.f _ _ _ (a.f x o xs h)⟩
theorem Tx.upd {p : Addr} {u o : HO} (h : H p = some u) (hn : (∀ xs, u ≠ .tup xs) ∧ ∀ ob xs, u ≠ .frz ob (.tup xs)) : Tx K H (upd H p o) := by
  refine ⟨fun a xs e => ?_, fun a ob xs e => ?_⟩
  · rw [upd_ne fun z => hn.1 xs (by rw [z, h] at e; exact Option.some.inj e)]
    exact e
  · rw [upd_ne fun z => hn.2 ob xs (by rw [z, h] at e; exact Option.some.inj e)]
    exact e
theorem Tx.sq (e : Tx K H H') {a : Addr} {xs : List V} (h : SqT K H a xs) : SqT K H' a xs := by
  rcases h with (h | ⟨o, h⟩) | h
  · exact .inl (.inl (e.t _ _ h))
  · exact .inl (.inr ⟨o, e.f _ _ _ h⟩)
  · exact .inr h
theorem Tx.tb (e : Tx K H H') {a : Addr} {xs : List V} (h : TpB b K H a xs) : TpB b K H' a xs := by
  unfold TpB at *
  split
  · rename_i hb
    rw [if_pos hb] at h
    exact e.t _ _ h
  · rename_i hb
    rw [if_neg hb] at h
    exact e.sq h
mutual
theorem Rp.tx (e : Tx K H H') : ∀ {d : PyData} {v : V}, Rp b K H v d → Rp b K H' v d
  | .none, _, h => by cases h; exact .non
  | .bool _, _, h => by cases h; exact .bl _
  | .int _, _, h => by cases h; exact .int _
  | .str _, _, h => by cases h; exact .str _
  | .tuple _, _, h => by
    cases h with
    | tup h1 h2 => exact .tup (e.tb h1) (RpA.tx e h2)
  | .list _, _, h => by cases h
  | .dict _, _, h => by cases h
theorem RpA.tx (e : Tx K H H') : ∀ {ds : List PyData} {vs : List V}, RpA b K H vs ds → RpA b K H' vs ds
  | [], _, h => by cases h; exact .nil
  | _ :: _, _, h => by
    cases h with
    | cons h1 h2 => exact .cons (Rp.tx e h1) (RpA.tx e h2)
end
mutual
theorem Rp.dp : ∀ {d : PyData} {v : V}, Rp b K H v d → Dp K H v d
  | .none, _, h => by cases h; exact .non
  | .bool _, _, h => by cases h; exact .bl _
  | .int _, _, h => by cases h; exact .int _
  | .str _, _, h => by cases h; exact .str _
  | .tuple _, _, h => by
    cases h with
    | tup h1 h2 => exact .tup h1.sq (RpA.dp h2)
  | .list _, _, h => by cases h
  | .dict _, _, h => by cases h
theorem RpA.dp : ∀ {ds : List PyData} {vs : List V}, RpA b K H vs ds → DpAll K H vs ds
  | [], _, h => by cases h; exact .nil
  | _ :: _, _, h => by
    cases h with
    | cons h1 h2 => exact .cons (Rp.dp h1) (RpA.dp h2)
end
mutual
theorem Rp.weak : ∀ {d : PyData} {v : V}, Rp b K H v d → Rp false K H v d
  | .none, _, h => by cases h; exact .non
  | .bool _, _, h => by cases h; exact .bl _
  | .int _, _, h => by cases h; exact .int _
  | .str _, _, h => by cases h; exact .str _
  | .tuple _, _, h => by
    cases h with
    | tup h1 h2 => exact .tup (show TpB false K H _ _ from h1.sq) (RpA.weak h2)
  | .list _, _, h => by cases h
  | .dict _, _, h => by cases h
theorem RpA.weak : ∀ {ds : List PyData} {vs : List V}, RpA b K H vs ds → RpA false K H vs ds
  | [], _, h => by cases h; exact .nil
  | _ :: _, _, h => by
    cases h with
    | cons h1 h2 => exact .cons (Rp.weak h1) (RpA.weak h2)
end
theorem Rp.int_eq {v : V} {i : Int} (h : Rp b K H v (.int i)) : v = .int i := by cases h; rfl
theorem Rp.str_eq {v : V} {i : Str} (h : Rp b K H v (.str i)) : v = .str i := by cases h; rfl
theorem Rp.bl_eq {v : V} {i : Bool} (h : Rp b K H v (.bool i)) : v = .bl i := by cases h; rfl
theorem Rp.non_eq {v : V} (h : Rp b K H v .none) : v = .non := by cases h; rfl
theorem Rp.tup_eq {v : V} {ds : List PyData} (h : Rp b K H v (.tuple ds)) : ∃ a xs, v = .ref a ∧ TpB b K H a xs ∧ RpA b K H xs ds := by
  cases h with
  | tup h1 h2 => exact ⟨_, _, rfl, h1, h2⟩
theorem RpA.len : ∀ {ds : List PyData} {vs : List V}, RpA b K H vs ds → vs.length = ds.length
  | [], _, h => by cases h; rfl
  | _ :: _, _, h => by
    cases h with
    | cons h1 h2 => exact congrArg (· + 1) (RpA.len h2)
theorem RpA.get : ∀ {ds : List PyData} {vs : List V} {i : Nat} {d : PyData}, RpA b K H vs ds → ds[i]? = some d → ∃ v, vs[i]? = some v ∧ Rp b K H v d
  | [], _, _, _, _, e => by cases e
  | _ :: _, _, 0, _, h, e => by
    cases h with
    | cons h1 h2 =>
      cases e
      exact ⟨_, rfl, h1⟩
  | _ :: _, _, i + 1, _, h, e => by
    cases h with
    | cons h1 h2 => exact RpA.get (i := i) h2 e
theorem RpA.getV : ∀ {ds : List PyData} {vs : List V} {i : Nat} {v : V}, RpA b K H vs ds → vs[i]? = some v → ∃ d, ds[i]? = some d ∧ Rp b K H v d
  | [], _, _, _, h, e => by cases h; cases e
  | _ :: _, _, 0, _, h, e => by
    cases h with
    | cons h1 h2 =>
      cases e
      exact ⟨_, rfl, h1⟩
  | _ :: _, _, i + 1, _, h, e => by
    cases h with
    | cons h1 h2 => exact RpA.getV (i := i) h2 e
theorem RpA.app : ∀ {ds es : List PyData} {vs ws : List V}, RpA b K H vs ds → RpA b K H ws es → RpA b K H (vs ++ ws) (ds ++ es)
  | [], _, _, _, h, h' => by cases h; exact h'
  | _ :: _, _, _, _, h, h' => by
    cases h with
    | cons h1 h2 => exact .cons h1 (RpA.app h2 h')
theorem RpA.rev : ∀ {ds : List PyData} {vs : List V}, RpA b K H vs ds → RpA b K H vs.reverse ds.reverse
  | [], _, h => by cases h; exact .nil
  | _ :: _, _, h => by
    cases h with
    | cons h1 h2 =>
      rw [List.reverse_cons, List.reverse_cons]
      exact RpA.app (RpA.rev h2) (.cons h1 .nil)
theorem RpA.take : ∀ {ds : List PyData} {vs : List V} (n : Nat), RpA b K H vs ds → RpA b K H (vs.take n) (ds.take n)
  | _, _, 0, _ => .nil
  | [], _, _ + 1, h => by cases h; exact .nil
  | _ :: _, _, n + 1, h => by
    cases h with
    | cons h1 h2 => exact .cons h1 (RpA.take n h2)
theorem RpA.drop : ∀ {ds : List PyData} {vs : List V} (n : Nat), RpA b K H vs ds → RpA b K H (vs.drop n) (ds.drop n)
  | _, _, 0, h => h
  | [], _, _ + 1, h => by cases h; exact .nil
  | _ :: _, _, n + 1, h => by
    cases h with
    | cons h1 h2 => exact RpA.drop n h2
theorem RpA.ints : ∀ (ns : List Int), RpA b K H (ns.map V.int) (ns.map PyData.int)
  | [] => .nil
  | n :: ns => .cons (.int n) (RpA.ints ns)
theorem RpA.ints_eq : ∀ {ns : List Int} {vs : List V}, RpA b K H vs (ns.map PyData.int) → vs = ns.map V.int
  | [], _, h => by cases h; rfl
  | n :: ns, _, h => by
    cases h with
    | cons h1 h2 => rw [h1.int_eq, RpA.ints_eq h2]; rfl
theorem RpA.bls_eq : ∀ {ns : List Bool} {vs : List V}, RpA b K H vs (ns.map PyData.bool) → vs = ns.map V.bl
  | [], _, h => by cases h; rfl
  | n :: ns, _, h => by
    cases h with
    | cons h1 h2 => rw [h1.bl_eq, RpA.bls_eq h2]; rfl

/-! ### kinds -/
inductive Kd where
  /-- data: none, bools, ints, texts, tuples -/
  | d (b : Bool) (d : PyData)
  /-- a list of data, tracked -/
  | l (b : Bool) (ds : List PyData)
  /-- a list or a tuple of data -/
  | q (b : Bool) (ds : List PyData)
  /-- a value as it is -/
  | v (w : V)
def Is (K : PySem.W.Frag) (H : Hp) (v : V) : Kd → Prop
  | .d b d => Rp b K H v d
  | .l b ds => ∃ p xs, v = .ref p ∧ H p = some (.lst xs) ∧ RpA b K H xs ds
  | .q b ds => ∃ p xs, v = .ref p ∧ (SqL K H p xs ∨ SqT K H p xs) ∧ RpA b K H xs ds
  | .v w => v = w
theorem Is.ex (e : Ex H H') {v : V} : ∀ {k : Kd}, Is K H v k → Is K H' v k
  | .d _ _, h => Rp.tx (Tx.of e) h
  | .l _ _, ⟨p, xs, h1, h2, h3⟩ => ⟨p, xs, h1, e _ _ h2, h3.tx (Tx.of e)⟩
  | .q _ _, ⟨p, xs, h1, h2, h3⟩ => ⟨p, xs, h1, h2.imp (ex_l e) (ex_t e), h3.tx (Tx.of e)⟩
  | .v _, h => h
theorem Is.lq {v : V} {ds : List PyData} (h : Is K H v (.l b ds)) : Is K H v (.q b ds) := by
  obtain ⟨p, xs, h1, h2, h3⟩ := h
  exact ⟨p, xs, h1, .inl (sq_of h2), h3⟩
theorem Is.dq {v : V} {ds : List PyData} (h : Is K H v (.d b (.tuple ds))) : Is K H v (.q b ds) := by
  obtain ⟨p, xs, h1, h2, h3⟩ := Rp.tup_eq h
  exact ⟨p, xs, h1, .inr h2.sq, h3⟩
theorem Is.toInt {v : V} {i : Int} (h : Is K H v (.d b (.int i))) : v = .int i := Rp.int_eq h
inductive IsA (K : PySem.W.Frag) (H : Hp) : List V → List Kd → Prop
  | nil : IsA K H [] []
  | cons {v : V} {vs : List V} {k : Kd} {ks : List Kd} : Is K H v k → IsA K H vs ks → IsA K H (v :: vs) (k :: ks)
theorem IsA.ex (e : Ex H H') : ∀ {vs : List V} {ks : List Kd}, IsA K H vs ks → IsA K H' vs ks
  | _, _, .nil => .nil
  | _, _, .cons h1 h2 => .cons (h1.ex e) (IsA.ex e h2)
theorem IsA.len : ∀ {vs : List V} {ks : List Kd}, IsA K H vs ks → vs.length = ks.length
  | _, _, .nil => rfl
  | _, _, .cons _ h2 => congrArg (· + 1) (IsA.len h2)

/-! ### the slots by kinds -/
structure En (K : PySem.W.Frag) (H : Hp) (σ : L2.St) (ks : List (Option Kd)) : Prop where
  len : σ.length = ks.length
  get : ∀ (i : Nat) (k : Kd), ks[i]? = some (some k) → ∃ v : V, σ[i]? = some (some v) ∧ Is K H v k
theorem En.ex {σ : L2.St} {ks : List (Option Kd)} (E : En K H σ ks) (e : Ex H H') : En K H' σ ks := ⟨E.len, fun i k h => by
  obtain ⟨v, h1, h2⟩ := E.get i k h
  exact ⟨v, h1, h2.ex e⟩⟩
theorem En.set {σ : L2.St} {ks : List (Option Kd)} (E : En K H σ ks) (i : Nat) {v : V} {k : Kd} (h : Is K H v k) : En K H (σ.set i (some v)) (ks.set i (some k)) := by
  refine ⟨by rw [List.length_set, List.length_set, E.len], fun j k' e => ?_⟩
  by_cases hj : i = j
  · subst hj
    by_cases hi : i < ks.length
    · rw [List.getElem?_set_self hi] at e
      cases e
      exact ⟨v, List.getElem?_set_self (by rw [E.len]; exact hi), h⟩
    · rw [List.getElem?_eq_none (by rw [List.length_set]; omega)] at e
      cases e
  · rw [List.getElem?_set_ne hj] at e ⊢
    exact E.get j k' e
/-- a slot of which nothing is said -/
theorem En.drop {σ : L2.St} {ks : List (Option Kd)} (E : En K H σ ks) (i : Nat) : En K H σ (ks.set i none) := by
  refine ⟨by rw [List.length_set, E.len], fun j k' e => ?_⟩
  by_cases hj : i = j
  · subst hj
    by_cases hi : i < ks.length
    · rw [List.getElem?_set_self hi] at e
      cases e
    · rw [List.getElem?_eq_none (by rw [List.length_set]; omega)] at e
      cases e
  · rw [List.getElem?_set_ne hj] at e
    exact E.get j k' e
theorem En.wipe1 {σ : L2.St} {ks : List (Option Kd)} (E : En K H σ ks) (i : Nat) : En K H (wipe σ [i]) (ks.set i none) := by
  refine ⟨by rw [wipe_length, List.length_set, E.len], fun j k' e => ?_⟩
  by_cases hj : i = j
  · subst hj
    by_cases hi : i < ks.length
    · rw [List.getElem?_set_self hi] at e
      cases e
    · rw [List.getElem?_eq_none (by rw [List.length_set]; omega)] at e
      cases e
  · rw [List.getElem?_set_ne hj] at e
    show ∃ v, (σ.set i none)[j]? = some (some v) ∧ _
    rw [List.getElem?_set_ne hj]
    exact E.get j k' e
/-- .. of a value that anything may be -/
theorem En.setAny {σ : L2.St} {ks : List (Option Kd)} (E : En K H σ ks) (i : Nat) (x : Option V) : En K H (σ.set i x) (ks.set i none) := by
  refine ⟨by rw [List.length_set, List.length_set, E.len], fun j k' e => ?_⟩
  by_cases hj : i = j
  · subst hj
    by_cases hi : i < ks.length
    · rw [List.getElem?_set_self hi] at e
      cases e
    · rw [List.getElem?_eq_none (by rw [List.length_set]; omega)] at e
      cases e
  · rw [List.getElem?_set_ne hj] at e ⊢
    exact E.get j k' e
theorem En.nil : En K H [] [] := ⟨rfl, fun i k e => by cases e⟩
theorem En.skip {σ : L2.St} {ks : List (Option Kd)} (E : En K H σ ks) (x : Option V) : En K H (x :: σ) (none :: ks) := ⟨congrArg (· + 1) E.len, fun i k e => by
  cases i with
  | zero => cases e
  | succ i => exact E.get i k e⟩
theorem En.cons {σ : L2.St} {ks : List (Option Kd)} (E : En K H σ ks) {v : V} {k : Kd} (h : Is K H v k) : En K H (some v :: σ) (some k :: ks) := ⟨congrArg (· + 1) E.len, fun i k e => by
  cases i with
  | zero =>
    cases e
    exact ⟨v, rfl, h⟩
  | succ i => exact E.get i k e⟩
theorem En.blank : ∀ n : Nat, En K H (List.replicate n none) (List.replicate n none)
  | 0 => En.nil
  | n + 1 => by
    rw [List.replicate_succ, List.replicate_succ]
    exact (En.blank n).skip none
theorem En.app : ∀ {vs : List V} {ks : List Kd} {σ : L2.St} {os : List (Option Kd)}, IsA K H vs ks → En K H σ os → En K H (vs.map some ++ σ) (ks.map some ++ os)
  | _, _, _, _, .nil, E => E
  | _, _, _, _, .cons h1 h2, E => (En.app h2 E).cons h1
/-- a def's slots at its start -/
theorem En.start {N : List Str} {vs : List V} {ks : List Kd} (h : IsA K H vs ks) : En K H (start N vs) (ks.map some ++ List.replicate (N.length - ks.length) none) := by
  unfold L2.start
  rw [h.len]
  exact En.app h (En.blank _)
end

/-! ### what evaluates to what kind -/
def EvI (K : PySem.W.Frag) (te : TE) (σ : L2.St) (H : Hp) (k : Kd) : Prop := ∀ H1, Ex H H1 → ∀ Q : VK, (∀ v H2, Ex H1 H2 → Is K H2 v k → Q v H2) → te σ H1 Q
def EvIA (K : PySem.W.Frag) (ta : TA) (σ : L2.St) (H : Hp) (ks : List Kd) : Prop := ∀ H1, Ex H H1 → ∀ Q : List V → Hp → Prop, (∀ vs H2, Ex H1 H2 → IsA K H2 vs ks → Q vs H2) → ta σ H1 Q
abbrev dI (i : Int) : Kd := .d true (.int i)
abbrev dB (i : Bool) : Kd := .d true (.bool i)
section
variable {b b' : Bool} {K : PySem.W.Frag} {σ : L2.St} {H H' : Hp} {ta tb te tx : TE} {tt tu : TT} {k : Kd} {r : R2}
theorem EvI.mono (e : Ex H H') (h : EvI K te σ H k) : EvI K te σ H' k := fun H1 a Q q => h H1 (e.trans a) Q q
theorem EvI.is {k' : Kd} (h : EvI K te σ H k) (e : ∀ v H1, Is K H1 v k → Is K H1 v k') : EvI K te σ H k' := fun H1 a Q q => h H1 a Q fun v H2 x y => q v H2 x (e v H2 y)
theorem EvI.eq {k' : Kd} (h : EvI K te σ H k) (e : k = k') : EvI K te σ H k' := e ▸ h
theorem EvI.lq {ds : List PyData} (h : EvI K te σ H (.l b ds)) : EvI K te σ H (.q b ds) := h.is fun _ _ => Is.lq
theorem EvI.dq {ds : List PyData} (h : EvI K te σ H (.d b (.tuple ds))) : EvI K te σ H (.q b ds) := h.is fun _ _ => Is.dq
theorem EvI.weak {d : PyData} (h : EvI K te σ H (.d b d)) : EvI K te σ H (.d false d) := h.is fun _ _ => Rp.weak
theorem EvI.weakQ {ds : List PyData} (h : EvI K te σ H (.q b ds)) : EvI K te σ H (.q false ds) := h.is fun _ _ ⟨p, xs, h1, h2, h3⟩ => ⟨p, xs, h1, h2, h3.weak⟩
theorem EvI.weakL {ds : List PyData} (h : EvI K te σ H (.l b ds)) : EvI K te σ H (.l false ds) := h.is fun _ _ ⟨p, xs, h1, h2, h3⟩ => ⟨p, xs, h1, h2, h3.weak⟩
theorem EvI.strong {i : Int} (h : EvI K te σ H (.d b (.int i))) : EvI K te σ H (.d b' (.int i)) := h.is fun _ _ q => by
  rw [Rp.int_eq q]
  exact .int i
/-- a scalar's value -/
theorem EvI.ev {i : Int} (h : EvI K te σ H (.d b (.int i))) : Ev te σ H (.int i) := fun H1 a Q q => h H1 a Q fun v H2 x y => by
  rw [Rp.int_eq y]
  exact q H2 x
theorem EvI.evB {i : Bool} (h : EvI K te σ H (.d b (.bool i))) : Ev te σ H (.bl i) := fun H1 a Q q => h H1 a Q fun v H2 x y => by
  rw [Rp.bl_eq y]
  exact q H2 x
theorem EvI.evV {w : V} (h : EvI K te σ H (.v w)) : Ev te σ H w := fun H1 a Q q => h H1 a Q fun v H2 x y => by
  rw [show v = w from y]
  exact q H2 x
theorem evi_v {w : V} (h : Ev te σ H w) : EvI K te σ H (.v w) := fun H1 a Q q => h H1 a Q fun H2 x => q w H2 x rfl
theorem evi_I {i : Int} (h : Ev te σ H (.int i)) : EvI K te σ H (.d b (.int i)) := fun H1 a Q q => h H1 a Q fun H2 x => q _ H2 x (.int i)
theorem evi_B {i : Bool} (h : Ev te σ H (.bl i)) : EvI K te σ H (.d b (.bool i)) := fun H1 a Q q => h H1 a Q fun H2 x => q _ H2 x (.bl i)
theorem evi_var {ks : List (Option Kd)} {i : Nat} (E : En K H σ ks) (h : ks[i]? = some (some k)) : EvI K (tVar i) σ H k := fun H1 e Q q => by
  obtain ⟨v, h1, h2⟩ := E.get i k h
  exact ⟨v, h1, q v H1 (Ex.refl H1) (h2.ex e)⟩
theorem evi_int {i : Int} : EvI K (tC (.int i)) σ H (.d b (.int i)) := evi_I ev_c
theorem evi_str {i : Str} : EvI K (tC (.str i)) σ H (.d b (.str i)) := fun H1 a Q q => q _ H1 (Ex.refl H1) (.str i)
theorem evi_non : EvI K (tC .non) σ H (.d b .none) := fun H1 a Q q => q _ H1 (Ex.refl H1) .non
theorem evi_bl {i : Bool} : EvI K (tC (.bl i)) σ H (.d b (.bool i)) := evi_B ev_c
/-- ints -/
theorem evi_op {C : Int → Int → Prop} {g : Int → Int → Int} {i j : Int} (ha : EvI K ta σ H (.d b (.int i))) (hb : EvI K tb σ H (.d b' (.int j))) (hc : C i j) : EvI K (tOp (rI C fun i j => .int (g i j)) ta tb) σ H (dI (g i j)) :=
  evi_I (ev_op ha.ev hb.ev (rv_I (g := fun i j => V.int (g i j)) hc))
theorem evi_op0 {g : Int → Int → Int} {i j : Int} (ha : EvI K ta σ H (.d b (.int i))) (hb : EvI K tb σ H (.d b' (.int j))) : EvI K (tOp (rI0 fun i j => .int (g i j)) ta tb) σ H (dI (g i j)) :=
  evi_I (ev_op ha.ev hb.ev (rv_I0 (g := fun i j => V.int (g i j))))
theorem evi_cmp {g : Int → Int → Bool} {i j : Int} (ha : EvI K ta σ H (.d b (.int i))) (hb : EvI K tb σ H (.d b' (.int j))) : EvI K (tOp (rI0 fun i j => .bl (g i j)) ta tb) σ H (dB (g i j)) :=
  evi_B (ev_op ha.ev hb.ev (rv_I0 (g := fun i j => V.bl (g i j))))
theorem evi_neg {i : Int} (ha : EvI K ta σ H (.d b (.int i))) : EvI K (tUn (rU fun i => .int (-i)) ta) σ H (dI (-i)) := evi_I (ev_un ha.ev ru_neg)
/-- any data -/
theorem evi_eq {d e : PyData} (ha : EvI K ta σ H (.d b d)) (hb : EvI K tb σ H (.d b' e)) (hd : SeqAt.shaped d = true) (he : SeqAt.shaped e = true) : EvI K (tOp (rEqD K) ta tb) σ H (dB (PyData.eqv d e)) := fun H1 a Q q =>
  ha H1 a _ fun v H2 x y => hb H2 (a.trans x) _ fun v' H3 x' y' => ⟨d, e, (Rp.tx (Tx.of x') y).dp, y'.dp, hd, he, q _ H3 (x.trans x') (.bl _)⟩
theorem evi_ne {d e : PyData} (ha : EvI K ta σ H (.d b d)) (hb : EvI K tb σ H (.d b' e)) (hd : SeqAt.shaped d = true) (he : SeqAt.shaped e = true) : EvI K (tOp (rNeD K) ta tb) σ H (dB (!PyData.eqv d e)) := fun H1 a Q q =>
  ha H1 a _ fun v H2 x y => hb H2 (a.trans x) _ fun v' H3 x' y' => ⟨d, e, (Rp.tx (Tx.of x') y).dp, y'.dp, hd, he, q _ H3 (x.trans x') (.bl _)⟩
def isNone : PyData → Bool
  | .none => true
  | _ => false
theorem Rp.isNone {v : V} {d : PyData} (h : Rp b K H v d) : decide (v = .non) = isNone d := by
  cases h <;> rfl
theorem evi_isN {d : PyData} (ha : EvI K ta σ H (.d b d)) : EvI K (tOp (fun x y H Q => y = .non ∧ Q (.bl (decide (x = .non))) H) ta (tC .non)) σ H (dB (isNone d)) := fun H1 a Q q =>
  ha H1 a _ fun v H2 x y => ⟨rfl, by rw [y.isNone]; exact q _ H2 x (.bl _)⟩
theorem evi_notN {d : PyData} (ha : EvI K ta σ H (.d b d)) : EvI K (tOp (fun x y H Q => y = .non ∧ Q (.bl (!decide (x = .non))) H) ta (tC .non)) σ H (dB (!isNone d)) := fun H1 a Q q =>
  ha H1 a _ fun v H2 x y => ⟨rfl, by rw [y.isNone]; exact q _ H2 x (.bl _)⟩
theorem evia_nil : EvIA K tNil σ H [] := fun H1 _ _ q => q [] H1 (Ex.refl H1) .nil
theorem evia_cons {tr : TA} {ks : List Kd} (h : EvI K te σ H k) (hr : EvIA K tr σ H ks) : EvIA K (tCons te tr) σ H (k :: ks) := fun H1 e Q q =>
  h H1 e _ fun v H2 x y => hr H2 (e.trans x) _ fun vs H3 x' y' => q _ H3 (x.trans x') (.cons (y.ex x') y')
theorem EvIA.mono {ta : TA} {ks : List Kd} (e : Ex H H') (h : EvIA K ta σ H ks) : EvIA K ta σ H' ks := fun H1 a Q q => h H1 (e.trans a) Q q
/-- data alone, told as data -/
theorem IsA.rp : ∀ {vs : List V} {ds : List PyData}, IsA K H vs (ds.map (Kd.d b)) → RpA b K H vs ds
  | _, [], h => by cases h; exact .nil
  | _, _ :: _, h => by
    cases h with
    | cons h1 h2 => exact .cons h1 (IsA.rp h2)
theorem evi_tup {ta : TA} {ds : List PyData} (h : EvIA K ta σ H (ds.map (Kd.d b))) (hl : ds.length ≤ 100000) : EvI K (tTup ta) σ H (.d b (.tuple ds)) := fun H1 e Q q =>
  h H1 e _ fun vs H2 x y => by
    have y := y.rp
    refine ⟨sz_of (by rw [y.len]; exact hl), fun p hp => q _ _ (x.trans (Ex.new hp)) (.tup (TpB.mk upd_same) (y.tx (Tx.of (Ex.new hp))))⟩
theorem evi_lst {ta : TA} {ds : List PyData} (h : EvIA K ta σ H (ds.map (Kd.d b))) (hl : ds.length ≤ 100000) : EvI K (tLst ta) σ H (.l b ds) := fun H1 e Q q =>
  h H1 e _ fun vs H2 x y => by
    have y := y.rp
    refine ⟨sz_of (by rw [y.len]; exact hl), fun p hp => q _ _ (x.trans (Ex.new hp)) ⟨p, vs, rfl, upd_same, y.tx (Tx.of (Ex.new hp))⟩⟩
theorem RpA.at {vs : List V} {ds : List PyData} (h : RpA b K H vs ds) {i : Int} {d : PyData} (e : atI ds i = some d) : ∃ v, atI vs i = some v ∧ Rp b K H v d := by
  unfold atI at *
  rw [h.len]
  cases q : ixN ds.length i with
  | none => rw [q] at e; cases e
  | some j =>
    rw [q] at e
    exact h.get e
theorem evi_ix {i : Int} {ds : List PyData} {d : PyData} (ha : EvI K ta σ H (.q b ds)) (hb : EvI K tb σ H (.d b' (.int i))) (hi : atI ds i = some d) : EvI K (tOp (rIx K) ta tb) σ H (.d b d) := fun H1 e Q q =>
  ha H1 e _ fun v H2 x ⟨p, xs, e1, e2, e3⟩ => hb.ev H2 (e.trans x) _ fun H3 x' => by
    obtain ⟨w, w1, w2⟩ := (e3.tx (Tx.of x')).at hi
    subst e1
    rcases e2 with e2 | e2
    · exact .inl ⟨p, xs, i, w, rfl, rfl, ex_l x' e2, w1, q _ H3 (x.trans x') w2⟩
    · exact .inr (.inl ⟨p, xs, i, w, rfl, rfl, ex_t x' e2, w1, q _ H3 (x.trans x') w2⟩)
theorem evi_len {ds : List PyData} (ha : EvI K ta σ H (.q b ds)) : EvI K (tCB (rLenS K) (tCons ta tNil)) σ H (dI (ds.length : Int)) := fun H1 e Q q =>
  ha H1 e _ fun v H2 x ⟨p, xs, e1, e2, e3⟩ => ⟨p, xs, by rw [e1], e2, by rw [e3.len]; exact q _ H2 x (.int _)⟩
theorem evi_catT {ds es : List PyData} (ha : EvI K ta σ H (.d b (.tuple ds))) (hb : EvI K tb σ H (.d b (.tuple es))) (hl : ds.length + es.length ≤ 100000) : EvI K (tOp (rCatA K) ta tb) σ H (.d b (.tuple (ds ++ es))) := fun H1 e Q q =>
  ha H1 e _ fun v H2 x y => hb H2 (e.trans x) _ fun v' H3 x' y' => by
    obtain ⟨a, xs, rfl, t1, a1⟩ := Rp.tup_eq (Rp.tx (Tx.of x') y)
    obtain ⟨c, ys, rfl, t2, a2⟩ := Rp.tup_eq y'
    refine ⟨a, c, xs, ys, rfl, rfl, t1.sq, t2.sq, sz_of (by rw [a1.len, a2.len]; exact hl), fun hx => ?_, fun hx hy => ?_, fun hx hy p hp => ?_⟩
    · subst hx
      cases a1
      exact q _ H3 (x.trans x') (.tup t2 a2)
    · subst hy
      cases a2
      exact q _ H3 (x.trans x') (by rw [List.append_nil]; exact .tup t1 a1)
    · exact q _ _ ((x.trans x').trans (Ex.new hp)) (.tup (TpB.mk upd_same) ((a1.app a2).tx (Tx.of (Ex.new hp))))
theorem evi_catL {ds es : List PyData} (ha : EvI K ta σ H (.l b ds)) (hb : EvI K tb σ H (.l b es)) (hl : ds.length + es.length ≤ 100000) : EvI K (tOp rCat ta tb) σ H (.l b (ds ++ es)) := fun H1 e Q q =>
  ha H1 e _ fun v H2 x ⟨a, xs, e1, h1, a1⟩ => hb H2 (e.trans x) _ fun v' H3 x' ⟨c, ys, e2, h2, a2⟩ =>
    ⟨a, c, xs, ys, e1, e2, x' _ _ h1, h2, sz_of (by rw [a1.len, a2.len]; exact hl), fun p hp => q _ _ ((x.trans x').trans (Ex.new hp)) ⟨p, _, rfl, upd_same, ((a1.tx (Tx.of x')).app a2).tx (Tx.of (Ex.new hp))⟩⟩
/-- slices -/
def cutD (ds : List PyData) (lo hi : Option Int) : List PyData := (ds.drop (HT.sIx ds.length 0 lo)).take (HT.sIx ds.length ds.length hi - HT.sIx ds.length 0 lo)
theorem RpA.cut {vs : List V} {ds : List PyData} (h : RpA b K H vs ds) (lo hi : Option Int) : RpA b K H (cutV vs lo hi) (cutD ds lo hi) := by
  unfold cutV cutD
  rw [h.len]
  exact (h.drop _).take _
theorem evo_none : EvO tNoPart σ H none := fun H1 _ _ q => q H1 (Ex.refl H1)
theorem evo_some {i : Int} (h : EvI K te σ H (.d b (.int i))) : EvO (tPart te) σ H (some i) := fun H1 e _ q => h.ev H1 e _ fun H2 x => ⟨i, rfl, q H2 x⟩
theorem cutV_all (xs : List V) (lo hi : Option Int) (h : HT.sIx xs.length 0 lo = 0 ∧ HT.sIx xs.length xs.length hi = xs.length) : cutV xs lo hi = xs := by
  unfold cutV
  rw [h.1, h.2]
  simp
theorem evi_slT {ds : List PyData} {tl th : TO} {lo hi : Option Int} {r' : V → Option Int → Option Int → Hp → VK → Prop} (ha : EvI K te σ H (.d b (.tuple ds))) (hl : EvO tl σ H lo) (hh : EvO th σ H hi) : EvI K (tSl (fun x lo hi H Q => r' x lo hi H Q ∨ rSlA K x lo hi H Q) te tl th) σ H (.d b (.tuple (cutD ds lo hi))) := fun H1 e Q q =>
  ha H1 e _ fun v H2 x y => hl H2 (e.trans x) _ fun H3 x2 => hh H3 ((e.trans x).trans x2) _ fun H4 x3 => by
    obtain ⟨a, xs, rfl, t1, a1⟩ := Rp.tup_eq (Rp.tx (Tx.of (x2.trans x3)) y)
    refine .inr ⟨a, xs, rfl, t1.sq, fun hw => ?_, fun hw p hp => ?_⟩
    · have c := a1.cut lo hi
      rw [cutV_all _ _ _ hw] at c
      exact q _ H4 (x.trans (x2.trans x3)) (.tup t1 c)
    · exact q _ _ ((x.trans (x2.trans x3)).trans (Ex.new hp)) (.tup (TpB.mk upd_same) ((a1.cut lo hi).tx (Tx.of (Ex.new hp))))
theorem evi_slL {ds : List PyData} {tl th : TO} {lo hi : Option Int} {r' : V → Option Int → Option Int → Hp → VK → Prop} (ha : EvI K te σ H (.l b ds)) (hl : EvO tl σ H lo) (hh : EvO th σ H hi) : EvI K (tSl (fun x lo hi H Q => rSlL K x lo hi H Q ∨ r' x lo hi H Q) te tl th) σ H (.l b (cutD ds lo hi)) := fun H1 e Q q =>
  ha H1 e _ fun v H2 x ⟨a, xs, e1, h1, a1⟩ => hl H2 (e.trans x) _ fun H3 x2 => hh H3 ((e.trans x).trans x2) _ fun H4 x3 =>
    .inl ⟨a, xs, e1, sq_of ((x2.trans x3) _ _ h1), fun p hp => q _ _ ((x.trans (x2.trans x3)).trans (Ex.new hp)) ⟨p, _, rfl, upd_same, ((a1.tx (Tx.of (x2.trans x3))).cut lo hi).tx (Tx.of (Ex.new hp))⟩⟩
/-- either: told as a list or a tuple -/
theorem evi_slQ {ds : List PyData} {tl th : TO} {lo hi : Option Int} (ha : EvI K te σ H (.q b ds)) (hl : EvO tl σ H lo) (hh : EvO th σ H hi) : EvI K (tSl (fun x lo hi H Q => rSlL K x lo hi H Q ∨ rSlA K x lo hi H Q) te tl th) σ H (.q b (cutD ds lo hi)) := fun H1 e Q q =>
  ha H1 e _ fun v H2 x ⟨a, xs, e1, h1, a1⟩ => hl H2 (e.trans x) _ fun H3 x2 => hh H3 ((e.trans x).trans x2) _ fun H4 x3 => by
    have a1 := a1.tx (K := K) (Tx.of (x2.trans x3))
    subst e1
    rcases h1 with h1 | h1
    · exact .inl ⟨a, xs, rfl, ex_l (x2.trans x3) h1, fun p hp => q _ _ ((x.trans (x2.trans x3)).trans (Ex.new hp)) ⟨p, _, rfl, .inl (sq_of upd_same), (a1.cut lo hi).tx (Tx.of (Ex.new hp))⟩⟩
    · refine .inr ⟨a, xs, rfl, ex_t (x2.trans x3) h1, fun hw => ?_, fun hw p hp => ?_⟩
      · have c := a1.cut lo hi
        rw [cutV_all _ _ _ hw] at c
        exact q _ H4 (x.trans (x2.trans x3)) ⟨a, xs, rfl, .inr (ex_t (x2.trans x3) h1), c⟩
      · exact q _ _ ((x.trans (x2.trans x3)).trans (Ex.new hp)) ⟨p, _, rfl, .inr (st_of upd_same), (a1.cut lo hi).tx (Tx.of (Ex.new hp))⟩
theorem evi_rev {ds : List PyData} (ha : EvI K te σ H (.l b ds)) : EvI K (tRevL K te) σ H (.l b ds.reverse) := fun H1 e Q q =>
  ha H1 e _ fun v H2 x ⟨a, xs, e1, h1, a1⟩ => ⟨a, xs, e1, sq_of h1, fun p hp => q _ _ (x.trans (Ex.new hp)) ⟨p, _, rfl, upd_same, a1.rev.tx (Tx.of (Ex.new hp))⟩⟩
/-- tuple(..): strict only where the source is a list, or a tuple told strictly -/
abbrev rTupOf (K : PySem.W.Frag) : List V → Hp → VK → Prop := fun xs H Q => ∃ p ys, xs = [.ref p] ∧ ((SqL K H p ys ∧ ∀ l, H l = none → Q (.ref l) (upd H l (.tup ys))) ∨ (SqT K H p ys ∧ Q (.ref p) H))
theorem evi_tupL {ds : List PyData} (ha : EvI K ta σ H (.l b ds)) : EvI K (tCB (rTupOf K) (tCons ta tNil)) σ H (.d b (.tuple ds)) := fun H1 e Q q =>
  ha H1 e _ fun v H2 x ⟨a, xs, e1, h1, a1⟩ => ⟨a, xs, by rw [e1], .inl ⟨sq_of h1, fun l hl => q _ _ (x.trans (Ex.new hl)) (.tup (TpB.mk upd_same) (a1.tx (Tx.of (Ex.new hl))))⟩⟩
theorem evi_tupT {ds : List PyData} (ha : EvI K ta σ H (.d b (.tuple ds))) : EvI K (tCB (rTupOf K) (tCons ta tNil)) σ H (.d b (.tuple ds)) := fun H1 e Q q =>
  ha H1 e _ fun v H2 x y => by
    obtain ⟨a, xs, rfl, t1, a1⟩ := Rp.tup_eq y
    exact ⟨a, xs, rfl, .inr ⟨t1.sq, q _ H2 x (.tup t1 a1)⟩⟩
theorem evi_tupQ {ds : List PyData} (ha : EvI K ta σ H (.q b ds)) : EvI K (tCB (rTupOf K) (tCons ta tNil)) σ H (.d false (.tuple ds)) := fun H1 e Q q =>
  ha H1 e _ fun v H2 x ⟨a, xs, e1, h1, a1⟩ => by
    refine ⟨a, xs, by rw [e1], ?_⟩
    rcases h1 with h1 | h1
    · exact .inl ⟨h1, fun l hl => q _ _ (x.trans (Ex.new hl)) (.tup (TpB.mk upd_same) (a1.weak.tx (Tx.of (Ex.new hl))))⟩
    · exact .inr ⟨h1, q _ H2 x (.tup (show TpB false K H2 a xs from h1) a1.weak)⟩
theorem evi_listOf {ds : List PyData} (ha : EvI K ta σ H (.q b ds)) : EvI K (tCB (rListS K) (tCons ta tNil)) σ H (.l b ds) := fun H1 e Q q =>
  ha H1 e _ fun v H2 x ⟨a, xs, e1, h1, a1⟩ => ⟨a, xs, by rw [e1], h1, fun l hl => q _ _ (x.trans (Ex.new hl)) ⟨l, _, rfl, upd_same, a1.tx (Tx.of (Ex.new hl))⟩⟩
/-- int(n) -/
abbrev rInt1 : List V → Hp → VK → Prop := fun xs H Q => (∃ i, xs = [.int i] ∧ Q (.int i) H) ∨ ∃ k, xs = [.bl k] ∧ Q (.int (if k then 1 else 0)) H
theorem evi_int1 {i : Int} (ha : EvI K ta σ H (.d b (.int i))) : EvI K (tCB rInt1 (tCons ta tNil)) σ H (dI i) := fun H1 e Q q =>
  ha.ev H1 e _ fun H2 x => .inl ⟨i, rfl, q _ H2 x (.int i)⟩
theorem evi_intB {i : Bool} (ha : EvI K ta σ H (.d b (.bool i))) : EvI K (tCB rInt1 (tCons ta tNil)) σ H (dI (if i then 1 else 0)) := fun H1 e Q q =>
  ha.evB H1 e _ fun H2 x => .inr ⟨i, rfl, q _ H2 x (.int _)⟩
theorem evi_all {bs : List Bool} (ha : EvI K ta σ H (.l b (bs.map PyData.bool))) : EvI K (tCB (rAll K) (tCons ta tNil)) σ H (dB (bs.all id)) := fun H1 e Q q =>
  ha H1 e _ fun v H2 x ⟨a, xs, e1, h1, a1⟩ => ⟨a, bs, by rw [e1], by rw [← a1.bls_eq]; exact sq_of h1, q _ H2 x (.bl _)⟩
theorem evi_any {bs : List Bool} (ha : EvI K ta σ H (.l b (bs.map PyData.bool))) : EvI K (tCB (rAny K) (tCons ta tNil)) σ H (dB (bs.any id)) := fun H1 e Q q =>
  ha H1 e _ fun v H2 x ⟨a, xs, e1, h1, a1⟩ => ⟨a, bs, by rw [e1], by rw [← a1.bls_eq]; exact sq_of h1, q _ H2 x (.bl _)⟩
/-- isinstance -/
theorem tyx_int {i : Int} : TyX K H (.int i) (.type "int") := .base (.int i)
theorem tyx_tup {v : V} {ds : List PyData} (h : Rp b K H v (.tuple ds)) : TyX K H v (.type "tuple") := by
  obtain ⟨a, xs, rfl, t1, a1⟩ := Rp.tup_eq h
  rcases t1.sq with (h | ⟨o, h⟩) | ⟨o, its, n, h1, h2, _⟩
  · exact .base (.tup h)
  · exact .fTuple h
  · exact .kTuple h1 h2
theorem evi_isiI {i : Int} {T : String} {r : Bool} (hk : kitB "int" T = some r) (ha : EvI K ta σ H (.d b (.int i))) : EvI K (tCB (rIsi K) (tCons ta (tCons (tC (.ty T)) tNil))) σ H (dB r) := fun H1 e Q q =>
  ha.ev H1 e _ fun H2 x => ⟨.int i, .ty T, .type "int", .type T, r, rfl, .ty T, tyx_int, kit_ty hk, q _ H2 x (.bl _)⟩
theorem evi_isiT {ds : List PyData} {T : String} {r : Bool} (hk : kitB "tuple" T = some r) (ha : EvI K ta σ H (.d b (.tuple ds))) : EvI K (tCB (rIsi K) (tCons ta (tCons (tC (.ty T)) tNil))) σ H (dB r) := fun H1 e Q q =>
  ha H1 e _ fun v H2 x y => ⟨v, .ty T, .type "tuple", .type T, r, rfl, .ty T, tyx_tup y, kit_ty hk, q _ H2 x (.bl _)⟩
/-- tests -/
theorem evt_of {i : Bool} (h : EvI K te σ H (.d b (.bool i))) : EvT (tTest te) σ H i := et_test h.evB
theorem evt_B {i : Bool} (h : EvI K te σ H (.d b (.bool i))) : EvT (tB te) σ H i := et_B h.evB
theorem evi_if {c : Bool} (h : EvT tt σ H c) (h1 : c = true → EvI K ta σ H k) (h2 : c = false → EvI K tb σ H k) : EvI K (tIf tt ta tb) σ H k := fun H1 e Q q => h H1 e _ fun H2 e2 => by
  cases c with
  | true =>
    show ta σ H2 Q
    exact h1 rfl H2 (e.trans e2) Q fun v H3 e3 => q v H3 (e2.trans e3)
  | false =>
    show tb σ H2 Q
    exact h2 rfl H2 (e.trans e2) Q fun v H3 e3 => q v H3 (e2.trans e3)
theorem evi_and {i j : Bool} (h1 : EvI K ta σ H (.d b (.bool i))) (h2 : i = true → EvI K tb σ H (.d b' (.bool j))) : EvI K (tAndV ta tb) σ H (dB (i && j)) := evi_B (ev_andV h1.evB fun h => (h2 h).evB)
theorem evi_not {i : Bool} (h1 : EvI K ta σ H (.d b (.bool i))) : EvI K (tNotV ta) σ H (dB (!i)) := evi_B (ev_notV h1.evB)
theorem evi_chain {i j l : Int} {g g' : Int → Int → Bool} {tc : TE} (ha : EvI K ta σ H (.d true (.int i))) (hb : EvI K tb σ H (.d true (.int j))) (hc : EvI K tc σ H (.d true (.int l))) :
    EvI K (tChain (rI0 fun i j => .bl (g i j)) (rI0 fun i j => .bl (g' i j)) ta tb tc) σ H (dB (g i j && g' j l)) := fun H1 e Q q =>
  ha.ev H1 e _ fun H2 x => hb.ev H2 (e.trans x) _ fun H3 x2 => ⟨i, j, rfl, rfl, g i j, rfl, by
    cases hg : g i j with
    | true => exact hc.ev H3 ((e.trans x).trans x2) _ fun H4 x3 => ⟨j, l, rfl, rfl, by
        refine q _ H4 ((x.trans x2).trans x3) ?_
        rw [hg]
        exact .bl _⟩
    | false =>
      refine q _ H3 (x.trans x2) ?_
      rw [hg]
      exact .bl _⟩
end
end Bk

set_option Elab.async false
set_option linter.all false
set_option maxRecDepth 100000
set_option maxHeartbeats 4000000
set_option autoImplicit false
/-! Promises by kinds, calls, statements, loops, comprehensions. -/
namespace Bk
open PySem PySem.Spec PyProof.Rows L2 Evl
/-- a promise: the arguments' kinds, what must hold ahead, the answer's kind; what stood, stands -/
def spF (K : PySem.W.Frag) {α : Type} (ks : α → List Kd) (pre : α → Hp → Prop) (f : α → Kd) : Sp := fun vs H Q _ => ∃ a : α, IsA K H vs (ks a) ∧ pre a H ∧ ∀ v H', Ex H H' → Is K H' v (f a) → Q v H'
/-- a def that keeps a promise, by its name -/
structure Callee (P : Program) (w : World) (K : PySem.W.Frag) (mg : Str → Option Value) (base : Heap) (k : Nat) (x : Str) (ps : List Str) (sp : Sp) : Prop where
  ex : ∃ (f : Addr) (fd : FuncData), mg x = some (.ref f) ∧ PySem.W.keepIn K (.ref f) = true ∧ Binds K fd ps [] ∧ FnOk P w K mg base CX0 k f fd ps sp
/-- a method -/
structure CalleeM (P : Program) (w : World) (K : PySem.W.Frag) (mg : Str → Option Value) (base : Heap) (k : Nat) (C : Addr) (m : Str) (ps : List Str) (sp : Sp) : Prop where
  ex : ∃ (f : Addr) (fd : FuncData), Cls K C ∧ Meth K C m f ∧ Binds K fd ps [] ∧ FnOk P w K mg base CX0 k f fd ps sp
/-- an __init__ -/
structure CalleeI (P : Program) (w : World) (K : PySem.W.Frag) (mg : Str → Option Value) (base : Heap) (k : Nat) (x : Str) (C : Addr) (ps : List Str) (sp : Sp) : Prop where
  ex : ∃ (f : Addr) (fd : FuncData), mg x = some (.ref C) ∧ Mk K C f ∧ Binds K fd ps [] ∧ FnOk P w K mg base CX0 k f fd ps sp
section
variable {X : Cx} {k j : Nat} {x m : Str} {C : Addr} {ps : List Str} {sp : Sp} {p pos apos : Pos} {e o : Expr} {es : List Expr} {ta : TE} {t : TA}
theorem pe_C (c : Callee X.prog X.w X.K X.mg X.base j x ps sp) (hr : Room k X.A) (hk : j ≤ k) (hg : Gl X x) (ha : PA X (e :: es) t) (hdb : (x == ("__debug__" : Str)) = false := by decide)
    (he : starEach (e :: es) X.env = (false, eval e X.env) :: starEach es X.env := by rfl) (hpl : (backTo pos (starEach es X.env)).any (·.1) = false := by rfl) : PE X (.Call (.Name x p) (e :: es) [] pos) (tCall sp [] E0 t) := by
  obtain ⟨f, fd, h1, h2, h3, h4⟩ := c.ex
  exact pe_call h4 (hr.mono hk) hg h1 h2 h3 .nil pass0 ha hdb he hpl
theorem pe_M {pl : Sem Bool} (he : PE X o ta) (c : CalleeM X.prog X.w X.K X.mg X.base j C m ps sp) (hr : Room k X.A) (hk : j ≤ k) (ha : PA X (e :: es) t)
    (hst : starEach (e :: es) X.env = (false, eval e X.env) :: starEach es X.env := by rfl) (hpl : (backTo pos (starEach es X.env)).any (·.1) = false := by rfl)
    (ht : eval (.Call (.Attribute o m apos) (e :: es) [] pos) X.env = (do
      let ov ← eval o X.env
      standAt apos.atName
      let (f, first) ← holding [ov] (getMethod ov m pl)
      callWith pos f first (backTo pos (starEach (e :: es) X.env)) (backToKw pos (keywordEach [] X.env))) := by rfl) :
    PE X (.Call (.Attribute o m apos) (e :: es) [] pos) (tMeth C m sp [] E0 ta t) := by
  obtain ⟨f, fd, h1, h2, h3, h4⟩ := c.ex
  exact pe_meth he h1 h2 h4 (hr.mono hk) h3 .nil pass0 ha hst hpl ht
theorem pe_M0 {pl : Sem Bool} (he : PE X o ta) (c : CalleeM X.prog X.w X.K X.mg X.base j C m ps sp) (hr : Room k X.A) (hk : j ≤ k)
    (ht : eval (.Call (.Attribute o m apos) [] [] pos) X.env = (do
      let ov ← eval o X.env
      standAt apos.atName
      let (f, first) ← holding [ov] (getMethod ov m pl)
      callWith pos f first (backTo pos (starEach [] X.env)) (backToKw pos (keywordEach [] X.env))) := by rfl) :
    PE X (.Call (.Attribute o m apos) [] [] pos) (tMeth C m sp [] E0 ta tNil) := by
  obtain ⟨f, fd, h1, h2, h3, h4⟩ := c.ex
  exact pe_meth0 he h1 h2 h4 (hr.mono hk) h3 .nil pass0 ht
theorem pe_I (c : CalleeI X.prog X.w X.K X.mg X.base j x C ps sp) (hr : Room k X.A) (hk : j + 1 ≤ k) (hg : Gl X x) (ha : PA X (e :: es) t) (hdb : (x == ("__debug__" : Str)) = false := by decide)
    (he : starEach (e :: es) X.env = (false, eval e X.env) :: starEach es X.env := by rfl) (hpl : (backTo pos (starEach es X.env)).any (·.1) = false := by rfl) : PE X (.Call (.Name x p) (e :: es) [] pos) (tMake C sp [] E0 t) := by
  obtain ⟨f, fd, h1, h2, h3, h4⟩ := c.ex
  exact pe_make h2 h4 (hr.mono hk) hg h1 h3 .nil pass0 ha hdb he hpl
end
/-- THE RULE for a def whose promise is by kinds -/
theorem FnP.ok {P : Program} {w : World} {K : PySem.W.Frag} {mg : Str → Option Value} {base : Heap} {x qual : Str} {st : Stmt} {f : Addr} {fd : FuncData} {N ps : List Str} {k : Nat} {α : Type} {ks : α → List Kd} {pre : α → Hp → Prop} {g : α → Kd}
    (F : FnP K x qual st f fd) (S : FnScope N ps (defScope st)) (len : ∀ a, (ks a).length = ps.length)
    (hbody : ∀ (cdv : Value) (A : Around) (outer : List Env) (s : Shared) (H : Hp) (Q : VK) (E : XK) (a : α), Room k (A.deeper (envOfC qual (defScope st) s.heap.objs.size f cdv)) → pre a H →
      ∃ t, PSs (cxOf CX0 P w K mg base N qual (defScope st) f cdv A outer s H E).nox (defBody st) t ∧
        ∀ σ : L2.St, En K H σ ((ks a).map some ++ List.replicate (N.length - (ks a).length) none) → (∀ v H', Ex H H' → Is K H' v (g a) → Q v H') → t { nx := fun _ H' => Q .non H', rt := Q } σ H) :
    FnOk P w K mg base CX0 (k + 1) f fd ps (spF K ks pre g) := by
  refine FunD.ok F S (fun vs H Q E h => ?_) (fun cdv A outer s H vs Q E hr h => ?_)
  · obtain ⟨a, h1, _⟩ := h
    rw [h1.len, len]
  · obtain ⟨a, h1, h2, h3⟩ := h
    obtain ⟨t, q1, q2⟩ := hbody cdv A outer s H Q E a hr h2
    exact ⟨t, q1.nox, q2 _ (En.start h1) h3⟩
section
variable {b b' : Bool} {K : PySem.W.Frag} {σ : L2.St} {H H' : Hp} {ta tb te tx tl : TE} {tt tw : TT} {k : Kd} {ks : List (Option Kd)} {D : Ends} {tu tz : TS}
/-! ### calls -/
theorem evi_call {α : Type} {kf : α → List Kd} {pre : α → Hp → Prop} {f : α → Kd} {E : XK} {t : TA} (a : α) (h : EvIA K t σ H (kf a)) (hp : ∀ H1, Ex H H1 → pre a H1) : EvI K (tCall (spF K kf pre f) [] E t) σ H (f a) := fun H1 e Q q =>
  h H1 e _ fun vs H2 x y => ⟨a, by rw [List.append_nil]; exact y, hp H2 (e.trans x), fun v H3 x' y' => q v H3 (x.trans x') y'⟩
/-- o.m(..): o an instance that stands -/
theorem evi_meth {α : Type} {kf : α → List Kd} {pre : α → Hp → Prop} {f : α → Kd} {E : XK} {t : TA} {C p dx : Addr} {m : Str} {fs : List (Str × V)} {kr : List Kd} (a : α) (ho : EvI K ta σ H (.v (.ref p))) (hp : H p = some (.ins C dx fs)) (hm : fs.lookup m = none)
    (h : EvIA K t σ H kr) (ek : kf a = .v (.ref p) :: kr) (hpre : ∀ H1, Ex H H1 → pre a H1) : EvI K (tMeth C m (spF K kf pre f) [] E ta t) σ H (f a) := fun H1 e Q q =>
  ho.evV H1 e _ fun H2 x => ⟨p, dx, fs, rfl, x _ _ (e _ _ hp), hm, h H2 (e.trans x) _ fun vs H3 x' y => ⟨a, by rw [List.append_nil, ek]; exact .cons rfl y, hpre H3 ((e.trans x).trans x'), fun v H4 x2 y2 => q v H4 ((x.trans x').trans x2) y2⟩⟩
/-- o.f -/
theorem evi_fld {C p dx : Addr} {f : Str} {fs : List (Str × V)} {v : V} (ho : EvI K ta σ H (.v (.ref p))) (hp : H p = some (.ins C dx fs)) (c : Cls K C) (n : NoAttr K C f) (hl : fs.lookup f = some v) (hv : ∀ H1, Ex H H1 → Is K H1 v k) : EvI K (tFld K ta f) σ H k := fun H1 e Q q =>
  ho.evV H1 e _ fun H2 x => ⟨p, C, dx, fs, v, rfl, x _ _ (e _ _ hp), c, n, hl, q v H2 x (hv H2 (e.trans x))⟩
/-- a module's constant tuple -/
theorem evi_k {v : V} (h : Is K H v k) : EvI K (tC v) σ H k := fun H1 e Q q => q v H1 (Ex.refl H1) (h.ex e)

/-! ### statements -/
theorem s_setI {i : Nat} (E : En K H σ ks) (h : EvI K te σ H k) (nx : ∀ σ' H', Ex H H' → En K H' σ' (ks.set i (some k)) → D.nx σ' H') : tAsg te (gName i) D σ H :=
  h H (Ex.refl H) _ fun v H1 e y => nx _ H1 e ((E.ex e).set i y)
theorem q_setI {i : Nat} (E : En K H σ ks) (h : EvI K te σ H k) (nx : ∀ σ' H', Ex H H' → En K H' σ' (ks.set i (some k)) → tz D σ' H') : tSeq (tAsg te (gName i)) tz D σ H := s_setI (D := { D with nx := tz D }) E h nx
theorem s_retI (h : EvI K te σ H k) (nx : ∀ v H', Ex H H' → Is K H' v k → D.rt v H') : tRet te D σ H := h H (Ex.refl H) _ nx
theorem q_retI (h : EvI K te σ H k) (nx : ∀ v H', Ex H H' → Is K H' v k → D.rt v H') : tSeq (tRet te) tz D σ H := h H (Ex.refl H) _ nx
theorem s_ifI {c : Bool} (E : En K H σ ks) (h : EvT tt σ H c) (h1 : c = true → ∀ H1, Ex H H1 → En K H1 σ ks → tu D σ H1) (h2 : c = false → ∀ H1, Ex H H1 → En K H1 σ ks → tz D σ H1) : tIfS tt tu tz D σ H :=
  s_if h (fun c H1 e => h1 c H1 e (E.ex e)) fun c H1 e => h2 c H1 e (E.ex e)
theorem q_ifI {tv : TS} {c : Bool} (E : En K H σ ks) (h : EvT tt σ H c) (h1 : c = true → ∀ H1, Ex H H1 → En K H1 σ ks → tu { D with nx := tz D } σ H1) (h2 : c = false → ∀ H1, Ex H H1 → En K H1 σ ks → tv { D with nx := tz D } σ H1) : tSeq (tIfS tt tu tv) tz D σ H :=
  s_ifI (D := { D with nx := tz D }) E h h1 h2
theorem q_whenI {c : Bool} (E : En K H σ ks) (h : EvT tt σ H c) (h1 : c = true → ∀ H1, Ex H H1 → En K H1 σ ks → tu { D with nx := tz D } σ H1) (h2 : c = false → ∀ H1, Ex H H1 → En K H1 σ ks → tz D σ H1) : tSeq (tIfS tt tu tNext) tz D σ H :=
  s_ifI (D := { D with nx := tz D }) E h h1 h2
theorem s_whenI {c : Bool} (E : En K H σ ks) (h : EvT tt σ H c) (h1 : c = true → ∀ H1, Ex H H1 → En K H1 σ ks → tu D σ H1) (h2 : c = false → ∀ H1, Ex H H1 → En K H1 σ ks → D.nx σ H1) : tIfS tt tu tNext D σ H :=
  s_ifI E h h1 h2
/-- a test that never holds -/
theorem q_notI (E : En K H σ ks) (h : EvT tt σ H false) (h2 : ∀ H1, Ex H H1 → En K H1 σ ks → tz D σ H1) : tSeq (tIfS tt tNever tNext) tz D σ H := q_whenI E h (fun c => by cases c) fun _ => h2
theorem q_augI {i : Nat} {f : Int → Int → Int} {x y : Int} (E : En K H σ ks) (hx : ks[i]? = some (some (.d b (.int x)))) (h : EvI K te σ H (.d b' (.int y))) (nx : ∀ σ' H', Ex H H' → En K H' σ' (ks.set i (some (dI (f x y)))) → tz D σ' H') : tSeq (tAug i te (ipI f)) tz D σ H := by
  obtain ⟨v, h1, h2⟩ := E.get i _ hx
  rw [Rp.int_eq h2] at h1
  exact q_aug h1 h.ev fun H1 e => nx _ H1 e ((E.ex e).set i (.int _))
theorem s_augI {i : Nat} {f : Int → Int → Int} {x y : Int} (E : En K H σ ks) (hx : ks[i]? = some (some (.d b (.int x)))) (h : EvI K te σ H (.d b' (.int y))) (nx : ∀ σ' H', Ex H H' → En K H' σ' (ks.set i (some (dI (f x y)))) → D.nx σ' H') : tAug i te (ipI f) D σ H := by
  obtain ⟨v, h1, h2⟩ := E.get i _ hx
  rw [Rp.int_eq h2] at h1
  exact s_aug h1 h.ev fun H1 e => nx _ H1 e ((E.ex e).set i (.int _))
/-- a, b = e, e' -/
theorem q_parI {i j : Nat} {t : TA} {k1 k2 : Kd} (E : En K H σ ks) (h : EvIA K t σ H [k1, k2]) (nx : ∀ σ' H', Ex H H' → En K H' σ' ((ks.set i (some k1)).set j (some k2)) → tz D σ' H') : tSeq (tPar i j t) tz D σ H := by
  refine h H (Ex.refl H) _ fun vs H1 e y => ?_
  cases y with
  | cons y1 y =>
    cases y with
    | cons y2 y =>
      cases y
      exact ⟨_, _, rfl, nx _ H1 e (((E.ex e).set i y1).set j y2)⟩
/-- a, b, c = t, t a tuple: the targets' places, in order -/
def gNames : List Nat → TGs
  | [] => gNil
  | i :: is => gCons (gName i) (gNames is)
def setAll (ks : List (Option Kd)) : List Nat → List Kd → List (Option Kd)
  | i :: is, k :: l => setAll (ks.set i (some k)) is l
  | _, _ => ks
theorem gNames_ok {Q : L2.St → Hp → Prop} : ∀ (is : List Nat) {vs : List V} {l : List Kd} {σ : L2.St} {ks : List (Option Kd)}, IsA K H vs l → is.length = l.length → En K H σ ks → (∀ σ', En K H σ' (setAll ks is l) → Q σ' H) → gNames is vs σ H Q
  | [], _, _, _, _, .nil, _, E, q => ⟨rfl, q _ E⟩
  | [], _, _, _, _, .cons _ _, e, _, _ => by cases e
  | _ :: _, _, _, _, _, .nil, e, _, _ => by cases e
  | i :: is, _, _, _, _, .cons h1 h2, e, E, q => ⟨_, _, rfl, gNames_ok is h2 (Nat.succ.inj e) (E.set i h1) q⟩
theorem RpA.isA : ∀ {ds : List PyData} {vs : List V}, RpA b K H vs ds → IsA K H vs (ds.map (Kd.d b))
  | [], _, h => by cases h; exact .nil
  | _ :: _, _, h => by
    cases h with
    | cons h1 h2 => exact .cons h1 (RpA.isA h2)
theorem q_tupI {is : List Nat} {n : Nat} {ds : List PyData} (E : En K H σ ks) (h : EvI K te σ H (.d b (.tuple ds))) (hn : ds.length = n) (hi : is.length = n) (nx : ∀ σ' H', Ex H H' → En K H' σ' (setAll ks is (ds.map (Kd.d b))) → tz D σ' H') :
    tSeq (tAsg te (gTup K n (gNames is))) tz D σ H := by
  refine h H (Ex.refl H) _ fun v H1 e y => ?_
  obtain ⟨a, xs, rfl, t1, a1⟩ := Rp.tup_eq y
  exact ⟨a, xs, rfl, t1.sq, by rw [a1.len, hn], gNames_ok is a1.isA (by rw [List.length_map, hi, hn]) (E.ex e) fun σ' E' => nx σ' H1 e E'⟩

/-! ### loops: W, a word of the turn and of the slots' kinds -/
def Pv (K : PySem.W.Frag) (H : Hp) (W : Nat → List (Option Kd) → Prop) (i : Nat) (σ : L2.St) (H' : Hp) : Prop := Ex H H' ∧ ∃ ks, W i ks ∧ En K H' σ ks
theorem s_forRI {t : TA} {j : Nat} {n : Int} (E : En K H σ ks) (h : EvIA K t σ H [.d b (.int n)]) (hn : 0 ≤ n ∧ n ≤ 100000) (W : Nat → List (Option Kd) → Prop) (h0 : W 0 ks)
    (hs : ∀ (i : Nat) ks' σ' H', (i : Int) < n → W i ks' → Ex H H' → En K H' σ' (ks'.set j (some (dI (i : Int)))) → tu { D with nx := Pv K H W (i + 1), ct := Pv K H W (i + 1), bk := D.nx } σ' H')
    (hd : ∀ ks' σ' H', W n.toNat ks' → Ex H H' → En K H' σ' ks' → D.nx σ' H') : tFor (iRng1 t) (gName j) tu D σ H := by
  have hA : EvA t σ H [.int n] := fun H1 e Q q => h H1 e _ fun vs H2 x y => by
    cases y with
    | cons y1 y =>
      cases y
      rw [Rp.int_eq y1]
      exact q H2 x
  exact s_forR1 hA hn (Pv K H W) (fun H1 e => ⟨e, ks, h0, E.ex e⟩) (fun i σ' H' hi ⟨e, ks', w, E'⟩ => hs i ks' _ H' hi w e (E'.set j (.int _))) fun σ' H' ⟨e, ks', w, E'⟩ => hd ks' σ' H' w e E'
theorem q_forRI {t : TA} {j : Nat} {n : Int} (E : En K H σ ks) (h : EvIA K t σ H [.d b (.int n)]) (hn : 0 ≤ n ∧ n ≤ 100000) (W : Nat → List (Option Kd) → Prop) (h0 : W 0 ks)
    (hs : ∀ (i : Nat) ks' σ' H', (i : Int) < n → W i ks' → Ex H H' → En K H' σ' (ks'.set j (some (dI (i : Int)))) → tu { D with nx := Pv K H W (i + 1), ct := Pv K H W (i + 1), bk := tz D } σ' H')
    (hd : ∀ ks' σ' H', W n.toNat ks' → Ex H H' → En K H' σ' ks' → tz D σ' H') : tSeq (tFor (iRng1 t) (gName j) tu) tz D σ H := s_forRI (D := { D with nx := tz D }) E h hn W h0 hs hd
theorem s_forR2I {t : TA} {j : Nat} {lo n : Int} (E : En K H σ ks) (h : EvIA K t σ H [.d b (.int lo), .d b' (.int n)]) (hn : 0 ≤ lo ∧ lo ≤ 100000 ∧ -100000 ≤ n ∧ n ≤ 100000) (W : Nat → List (Option Kd) → Prop) (h0 : W 0 ks)
    (hs : ∀ (i : Nat) ks' σ' H', lo + (i : Int) < n → W i ks' → Ex H H' → En K H' σ' (ks'.set j (some (dI (lo + (i : Int))))) → tu { D with nx := Pv K H W (i + 1), ct := Pv K H W (i + 1), bk := D.nx } σ' H')
    (hd : ∀ ks' σ' H', W (n - lo).toNat ks' → Ex H H' → En K H' σ' ks' → D.nx σ' H') : tFor (iRng2 t) (gName j) tu D σ H := by
  have hA : EvA t σ H [.int lo, .int n] := fun H1 e Q q => h H1 e _ fun vs H2 x y => by
    cases y with
    | cons y1 y =>
      cases y with
      | cons y2 y =>
        cases y
        rw [Rp.int_eq y1, Rp.int_eq y2]
        exact q H2 x
  exact s_forR2 hA hn (Pv K H W) (fun H1 e => ⟨e, ks, h0, E.ex e⟩) (fun i σ' H' hi ⟨e, ks', w, E'⟩ => hs i ks' _ H' hi w e (E'.set j (.int _))) fun σ' H' ⟨e, ks', w, E'⟩ => hd ks' σ' H' w e E'
theorem q_forR2I {t : TA} {j : Nat} {lo n : Int} (E : En K H σ ks) (h : EvIA K t σ H [.d b (.int lo), .d b' (.int n)]) (hn : 0 ≤ lo ∧ lo ≤ 100000 ∧ -100000 ≤ n ∧ n ≤ 100000) (W : Nat → List (Option Kd) → Prop) (h0 : W 0 ks)
    (hs : ∀ (i : Nat) ks' σ' H', lo + (i : Int) < n → W i ks' → Ex H H' → En K H' σ' (ks'.set j (some (dI (lo + (i : Int))))) → tu { D with nx := Pv K H W (i + 1), ct := Pv K H W (i + 1), bk := tz D } σ' H')
    (hd : ∀ ks' σ' H', W (n - lo).toNat ks' → Ex H H' → En K H' σ' ks' → tz D σ' H') : tSeq (tFor (iRng2 t) (gName j) tu) tz D σ H := s_forR2I (D := { D with nx := tz D }) E h hn W h0 hs hd
/-- over a list of data; H1: the heap at the loop's start -/
theorem s_forLI {j : Nat} {ds : List PyData} (E : En K H σ ks) (h : EvI K tl σ H (.l b ds)) (W : Nat → List (Option Kd) → Prop) (h0 : W 0 ks)
    (hs : ∀ H1, Ex H H1 → ∀ (i : Nat) d ks' σ' H', ds[i]? = some d → W i ks' → Ex H1 H' → En K H' σ' (ks'.set j (some (.d b d))) → tu { D with nx := Pv K H1 W (i + 1), ct := Pv K H1 W (i + 1), bk := D.nx } σ' H')
    (hd : ∀ H1, Ex H H1 → ∀ ks' σ' H', W ds.length ks' → Ex H1 H' → En K H' σ' ks' → D.nx σ' H') : tFor (iList K tl) (gName j) tu D σ H :=
  h H (Ex.refl H) _ fun v H1 e1 ⟨p, xs, ev, h1, a1⟩ => by
    subst ev
    refine ⟨p, rfl, ⟨xs, sq_of h1⟩, for_list (xs := xs) (Pv K H1 W) ⟨Ex.refl _, ks, h0, E.ex e1⟩ (fun i σ' H' _ q => sq_of (q.1 _ _ h1)) (fun i x σ' H' hx ⟨e, ks', w, E'⟩ => ?_) fun σ' H' ⟨e, ks', w, E'⟩ => ?_⟩
    · obtain ⟨d, hd1, hd2⟩ := a1.getV hx
      exact hs H1 e1 i d ks' _ H' hd1 w e (E'.set j (Rp.tx (Tx.of e) hd2))
    · rw [a1.len] at w
      exact hd H1 e1 ks' σ' H' w e E'
theorem q_forLI {j : Nat} {ds : List PyData} (E : En K H σ ks) (h : EvI K tl σ H (.l b ds)) (W : Nat → List (Option Kd) → Prop) (h0 : W 0 ks)
    (hs : ∀ H1, Ex H H1 → ∀ (i : Nat) d ks' σ' H', ds[i]? = some d → W i ks' → Ex H1 H' → En K H' σ' (ks'.set j (some (.d b d))) → tu { D with nx := Pv K H1 W (i + 1), ct := Pv K H1 W (i + 1), bk := tz D } σ' H')
    (hd : ∀ H1, Ex H H1 → ∀ ks' σ' H', W ds.length ks' → Ex H1 H' → En K H' σ' ks' → tz D σ' H') : tSeq (tFor (iList K tl) (gName j) tu) tz D σ H := s_forLI (D := { D with nx := tz D }) E h W h0 hs hd
/-- while: W, a word that falls -/
theorem q_whileI (E : En K H σ ks) (W : Nat → List (Option Kd) → Prop) (m0 : Nat) (h0 : W m0 ks)
    (hs : ∀ m ks' σ' H', W m ks' → Ex H H' → En K H' σ' ks' → ∃ c, EvT tt σ' H' c ∧ (c = true → ∀ H1, Ex H H1 → En K H1 σ' ks' → tu { D with nx := fun σ2 H2 => ∃ m', m' < m ∧ Pv K H W m' σ2 H2, ct := fun σ2 H2 => ∃ m', m' < m ∧ Pv K H W m' σ2 H2, bk := tz D } σ' H1) ∧ (c = false → ∀ H1, Ex H H1 → En K H1 σ' ks' → tz D σ' H1)) :
    tSeq (tWhile tt tu) tz D σ H :=
  q_while (Pv K H W) m0 ⟨Ex.refl _, ks, h0, E⟩ fun m σ' H' ⟨e, ks', w, E'⟩ => by
    obtain ⟨c, h1, h2, h3⟩ := hs m ks' σ' H' w e E'
    exact ⟨c, h1, fun hc H1 e1 => ⟨_, fun σ2 H2 q => q, h2 hc H1 (e.trans e1) (E'.ex e1)⟩, fun hc H1 e1 => h3 hc H1 (e.trans e1) (E'.ex e1)⟩

/-! ### comprehensions -/
theorem evt_yes : EvT tYes σ H true := fun H1 _ Q q => q H1 (Ex.refl H1)
theorem set_set {α : Type} (l : List α) (i : Nat) (a c : α) : (l.set i a).set i c = l.set i c := by
  rw [List.set_set]
/-- what stands at D: the kept ones of the first i, as e tells them -/
def Cq (b : Bool) (K : PySem.W.Frag) (H : Hp) (D : Addr) (rs : List PyData) (H' : Hp) : Prop := H D = none ∧ Ex H H' ∧ ∃ xs, H' D = some (.lst xs) ∧ RpA b K H' xs rs
theorem cq_turn {H : Hp} {Dl : Addr} {rs : List PyData} {σ2 : L2.St} {f : Bool} {r : PyData} (p : Cq b K H Dl rs H') (hl : rs.length < 100000) (ht : EvT tt σ2 H' f) (he : f = true → EvI K te σ2 H' (.d b r)) (Nx : Hp → Prop) (hN : ∀ H4, Cq b K H Dl (if f then rs ++ [r] else rs) H4 → Nx H4) :
    tt σ2 H' fun c H3 => if c = true then te σ2 H3 fun y H4 => ∃ acc, H4 Dl = some (.lst acc) ∧ acc.length < sizeLine ∧ Nx (upd H4 Dl (.lst (acc ++ [y]))) else Nx H3 := by
  obtain ⟨p1, p2, xs, p3, p4⟩ := p
  refine ht H' (Ex.refl _) _ fun H3 e3 => ?_
  cases f with
  | true =>
    show te σ2 H3 fun y H4 => ∃ acc, H4 Dl = some (.lst acc) ∧ acc.length < sizeLine ∧ Nx (upd H4 Dl (.lst (acc ++ [y])))
    refine he rfl H3 e3 _ fun y H4 e4 hy => ⟨xs, e4 _ _ (e3 _ _ p3), sz_lt (by rw [p4.len]; exact hl), hN _ ⟨p1, Ex.mut ((p2.trans e3).trans e4) p1, xs ++ [y], upd_same, ?_⟩⟩
    have t : Tx K H4 (upd H4 Dl (.lst (xs ++ [y]))) := Tx.upd (e4 _ _ (e3 _ _ p3)) ⟨fun _ z => (by cases z), fun _ _ z => (by cases z)⟩
    exact (((p4.tx (Tx.of (e3.trans e4))).app (.cons hy .nil))).tx t
  | false =>
    show Nx H3
    exact hN _ ⟨p1, p2.trans e3, xs, e3 _ _ p3, p4.tx (Tx.of e3)⟩
def keep (f : PyData → Bool) (e : PyData → PyData) (ds : List PyData) : List PyData := (ds.filter f).map e
theorem keep_snoc (f : PyData → Bool) (e : PyData → PyData) (ds : List PyData) (d : PyData) : keep f e (ds ++ [d]) = if f d then keep f e ds ++ [e d] else keep f e ds := by
  unfold keep
  rw [List.filter_append, List.map_append]
  by_cases h : f d = true
  · rw [if_pos h, List.filter_cons, if_pos h]
    rfl
  · rw [if_neg h, List.filter_cons, if_neg h]
    exact List.append_nil _
theorem keep_len (f : PyData → Bool) (e : PyData → PyData) (ds : List PyData) : (keep f e ds).length ≤ ds.length := by
  unfold keep
  rw [List.length_map]
  exact List.length_filter_le _ _
/-- [te for x in a list if tt] -/
theorem evi_lcL {j : Nat} {ds : List PyData} (f : PyData → Bool) (e : PyData → PyData) (E : En K H σ ks) (h : EvI K tl σ H (.l b' ds)) (hz : ds.length ≤ 40000)
    (hb : ∀ d σ2 H2, d ∈ ds → Ex H H2 → En K H2 σ2 (ks.set j (some (.d b' d))) → EvT tt σ2 H2 (f d) ∧ (f d = true → EvI K te σ2 H2 (.d b (e d)))) :
    EvI K (tLc (iList K tl) (gName j) tt te [j]) σ H (.l b (keep f e ds)) := fun H0 e0 Q q =>
  h H0 e0 _ fun v H1 e1 ⟨p, xs, ev, h1, a1⟩ => by
    subst ev
    refine ⟨p, rfl, ⟨xs, sq_of h1⟩, fun Dl hD => lc_list (xs := xs) (fun i H' => Cq b K H1 Dl (keep f e (ds.take i)) H') ⟨hD, Ex.new hD, [], upd_same, .nil⟩ (fun i H' _ p => sq_of (p.2.1 _ _ h1)) (fun i x H' hx c => ?_) fun H' c => ?_⟩
    · obtain ⟨d, hd1, hd2⟩ := a1.getV hx
      have ex : Ex H H' := (e0.trans e1).trans c.2.1
      have E2 := (((E.ex ex).wipe1 j).set j (show Is K H' x (.d b' d) from Rp.tx (Tx.of c.2.1) hd2))
      rw [set_set] at E2
      obtain ⟨t1, t2⟩ := hb d _ H' (List.mem_of_getElem? hd1) ex E2
      refine ⟨?_, cq_turn c ?_ t1 t2 _ fun H4 c4 => ?_⟩
      · show ((σ.set j none).set j (some x)).set j none = σ.set j none
        rw [set_set, set_set]
      · have := keep_len f e (ds.take i)
        have := List.length_take_le i ds
        have hi := (List.getElem?_eq_some_iff.mp hd1).1
        omega
      · show Cq b K H1 Dl (keep f e (ds.take (i + 1))) H4
        rw [List.take_add_one, hd1, show (some d).toList = [d] from rfl, keep_snoc]
        exact c4
    · rw [a1.len, List.take_length] at c
      obtain ⟨c1, c2, ys, c3, c4⟩ := c
      exact q _ H' (e1.trans c2) ⟨Dl, ys, rfl, c3, c4⟩
theorem evi_lcT {j : Nat} {ds : List PyData} (f : PyData → Bool) (e : PyData → PyData) (E : En K H σ ks) (h : EvI K tl σ H (.d b' (.tuple ds))) (hz : ds.length ≤ 40000)
    (hb : ∀ d σ2 H2, d ∈ ds → Ex H H2 → En K H2 σ2 (ks.set j (some (.d b' d))) → EvT tt σ2 H2 (f d) ∧ (f d = true → EvI K te σ2 H2 (.d b (e d)))) :
    EvI K (tLc (iTup K tl) (gName j) tt te [j]) σ H (.l b (keep f e ds)) := fun H0 e0 Q q =>
  h H0 e0 _ fun v H1 e1 hv => by
    obtain ⟨p, xs, rfl, h1, a1⟩ := Rp.tup_eq hv
    refine ⟨p, rfl, ⟨xs, h1.sq⟩, fun Dl hD => lc_tup (xs := xs) (fun i H' => Cq b K H1 Dl (keep f e (ds.take i)) H') ⟨hD, Ex.new hD, [], upd_same, .nil⟩ (fun i H' _ p => ex_t p.2.1 h1.sq) (fun i x H' hx c => ?_) fun H' c => ?_⟩
    · obtain ⟨d, hd1, hd2⟩ := a1.getV hx
      have ex : Ex H H' := (e0.trans e1).trans c.2.1
      have E2 := (((E.ex ex).wipe1 j).set j (show Is K H' x (.d b' d) from Rp.tx (Tx.of c.2.1) hd2))
      rw [set_set] at E2
      obtain ⟨t1, t2⟩ := hb d _ H' (List.mem_of_getElem? hd1) ex E2
      refine ⟨?_, cq_turn c ?_ t1 t2 _ fun H4 c4 => ?_⟩
      · show ((σ.set j none).set j (some x)).set j none = σ.set j none
        rw [set_set, set_set]
      · have := keep_len f e (ds.take i)
        have := List.length_take_le i ds
        have hi := (List.getElem?_eq_some_iff.mp hd1).1
        omega
      · show Cq b K H1 Dl (keep f e (ds.take (i + 1))) H4
        rw [List.take_add_one, hd1, show (some d).toList = [d] from rfl, keep_snoc]
        exact c4
    · rw [a1.len, List.take_length] at c
      obtain ⟨c1, c2, ys, c3, c4⟩ := c
      exact q _ H' (e1.trans c2) ⟨Dl, ys, rfl, c3, c4⟩
def rngs (n : Nat) : List PyData := (List.range n).map fun (i : Nat) => PyData.int (i : Int)
theorem rngs_succ (n : Nat) : rngs (n + 1) = rngs n ++ [.int (n : Int)] := by
  unfold rngs
  rw [List.range_succ, List.map_append]
  rfl
theorem rngs_len (n : Nat) : (rngs n).length = n := by
  unfold rngs
  rw [List.length_map, List.length_range]
/-- [te for x in range(n) if tt] -/
theorem evi_lcR {j : Nat} {n : Int} {t : TA} (f : PyData → Bool) (e : PyData → PyData) (E : En K H σ ks) (h : EvIA K t σ H [.d b' (.int n)]) (hz : 0 ≤ n ∧ n ≤ 40000)
    (hb : ∀ (i : Nat) σ2 H2, (i : Int) < n → Ex H H2 → En K H2 σ2 (ks.set j (some (dI (i : Int)))) → EvT tt σ2 H2 (f (.int (i : Int))) ∧ (f (.int (i : Int)) = true → EvI K te σ2 H2 (.d b (e (.int (i : Int)))))) :
    EvI K (tLc (iRng1 t) (gName j) tt te [j]) σ H (.l b (keep f e (rngs n.toNat))) := fun H0 e0 Q q =>
  h H0 e0 _ fun vs H1 e1 hv => by
    cases hv with
    | cons y1 y =>
      cases y
      rw [Rp.int_eq y1]
      refine ⟨n, rfl, by omega, by omega, fun Dl hD => lc_range (lo := 0) (n := n.toNat) (fun i H' => Cq b K H1 Dl (keep f e (rngs i)) H') ⟨hD, Ex.new hD, [], upd_same, .nil⟩ (fun i H' hi c => ?_) fun H' c => ?_⟩
      · have ex : Ex H H' := (e0.trans e1).trans c.2.1
        have E2 := (((E.ex ex).wipe1 j).set j (show Is K H' (.int (i : Int)) (dI (i : Int)) from .int _))
        rw [set_set] at E2
        obtain ⟨t1, t2⟩ := hb i _ H' (by omega) ex E2
        show wipe ((wipe σ [j]).set j (some (.int ((0 : Int) + (i : Int))))) [j] = wipe σ [j] ∧ _
        rw [Int.zero_add]
        refine ⟨?_, cq_turn c ?_ t1 t2 _ fun H4 c4 => ?_⟩
        · show ((σ.set j none).set j (some _)).set j none = σ.set j none
          rw [set_set, set_set]
        · have := keep_len f e (rngs i)
          rw [rngs_len] at this
          omega
        · show Cq b K H1 Dl (keep f e (rngs (i + 1))) H4
          rw [rngs_succ, keep_snoc]
          exact c4
      · obtain ⟨c1, c2, ys, c3, c4⟩ := c
        exact q _ H' (e1.trans c2) ⟨Dl, ys, rfl, c3, c4⟩
theorem keep_all (e : PyData → PyData) (ds : List PyData) : keep (fun _ => true) e ds = ds.map e := by
  unfold keep
  rw [List.filter_eq_self.mpr fun _ _ => rfl]
/-- without a test -/
theorem evi_lcL1 {j : Nat} {ds : List PyData} (e : PyData → PyData) (E : En K H σ ks) (h : EvI K tl σ H (.l b' ds)) (hz : ds.length ≤ 40000)
    (hb : ∀ d σ2 H2, d ∈ ds → Ex H H2 → En K H2 σ2 (ks.set j (some (.d b' d))) → EvI K te σ2 H2 (.d b (e d))) : EvI K (tLc (iList K tl) (gName j) tYes te [j]) σ H (.l b (ds.map e)) := by
  have h := evi_lcL (te := te) (fun _ => true) e E h hz fun d σ2 H2 hd x E' => ⟨evt_yes, fun _ => hb d σ2 H2 hd x E'⟩
  rw [keep_all] at h
  exact h
theorem evi_lcT1 {j : Nat} {ds : List PyData} (e : PyData → PyData) (E : En K H σ ks) (h : EvI K tl σ H (.d b' (.tuple ds))) (hz : ds.length ≤ 40000)
    (hb : ∀ d σ2 H2, d ∈ ds → Ex H H2 → En K H2 σ2 (ks.set j (some (.d b' d))) → EvI K te σ2 H2 (.d b (e d))) : EvI K (tLc (iTup K tl) (gName j) tYes te [j]) σ H (.l b (ds.map e)) := by
  have h := evi_lcT (te := te) (fun _ => true) e E h hz fun d σ2 H2 hd x E' => ⟨evt_yes, fun _ => hb d σ2 H2 hd x E'⟩
  rw [keep_all] at h
  exact h
theorem evi_lcR1 {j : Nat} {n : Int} {t : TA} (e : PyData → PyData) (E : En K H σ ks) (h : EvIA K t σ H [.d b' (.int n)]) (hz : 0 ≤ n ∧ n ≤ 40000)
    (hb : ∀ (i : Nat) σ2 H2, (i : Int) < n → Ex H H2 → En K H2 σ2 (ks.set j (some (dI (i : Int)))) → EvI K te σ2 H2 (.d b (e (.int (i : Int))))) : EvI K (tLc (iRng1 t) (gName j) tYes te [j]) σ H (.l b ((rngs n.toNat).map e)) := by
  have h := evi_lcR (te := te) (fun _ => true) e E h hz fun i σ2 H2 hd x E' => ⟨evt_yes, fun _ => hb i σ2 H2 hd x E'⟩
  rw [keep_all] at h
  exact h
end
end Bk

set_option Elab.async false
set_option linter.all false
set_option maxRecDepth 100000
set_option maxHeartbeats 4000000
set_option autoImplicit false
/-! Rules that this program needs besides: t[::-1] of a tuple; a dict asked by any tuple that stands. -/
namespace Bk
open PySem PySem.Spec PyProof.Rows L2 Evl
section
variable {prog : Program} {w : World} {A : Around} {E : Value → Shared → Prop} {s : Shared}
theorem rev_pick (xs : Array Value) : ((List.range xs.size).filterMap fun (m : Nat) => xs[(((xs.size : Nat) : Int) - 1 + (m : Int) * (-1)).toNat]?).toArray = xs.toList.reverse.toArray := by
  have e : ∀ n : Nat, n ≤ xs.size → ((List.range n).filterMap fun (m : Nat) => xs[(((xs.size : Nat) : Int) - 1 + (m : Int) * (-1)).toNat]?) = (xs.toList.reverse).take n := by
    intro n
    induction n with
    | zero => intro _; rfl
    | succ n ih =>
      intro hn
      rw [List.range_succ, List.filterMap_append, ih (by omega), List.take_add_one]
      congr 1
      have hi : (((xs.size : Nat) : Int) - 1 + (n : Int) * (-1)).toNat = xs.size - 1 - n := by omega
      have hl : xs.size - 1 - n < xs.size := by omega
      rw [List.filterMap_cons, List.filterMap_nil, hi]
      have h1 : xs[xs.size - 1 - n]? = some xs[xs.size - 1 - n] := by simp [hl]
      have h2 : xs.toList.reverse[n]? = some xs[xs.size - 1 - n] := by
        rw [List.getElem?_reverse (by simp; omega)]
        simp [hl]
      rw [h1, h2]
      rfl
  have e2 := e xs.size (Nat.le_refl _)
  rw [e2]
  have : xs.size = xs.toList.reverse.length := by simp
  rw [this, List.take_length]
theorem rev_applied {sl : Addr} {n : Nat} {u : Tok} {Q : Int × Int × Nat → Shared → Prop} (hs : s.heap.IsSliceOf sl .none .none (.int (-1) u)) (h : Q ((n : Int) - 1, -1, n) s) :
    wpAny (model prog w) A (Builtin.Slice.sliceApplied (.ref sl) (pure (n : Int))) Q E s := by
  obtain ⟨os, hos, _, hds⟩ := id hs
  unfold Builtin.Slice.sliceApplied Builtin.Slice.sliceFields
  refine wpAny_bind (wpAny_bind (wpAny_field hos hds (x := .none) rfl (wpAny_bind (wpAny_field hos hds (x := .none) rfl (wpAny_bind (wpAny_field hos hds (x := .int (-1) u) rfl (wpAny_pure ?_)))))))
  refine wpAny_bind (slicePart_int ?_)
  show wpAny _ _ (if ((-1 : Int) == 0) = true then _ else _) _ _ s
  rw [if_neg (by decide)]
  refine wpAny_bind (slicePart_none (wpAny_bind (slicePart_none (wpAny_bind (wpAny_pure ?_)))))
  show wpAny _ _ (pure ((n : Int) - 1, (-1 : Int), Builtin.Slice.slicePlaces ((n : Int) - 1) (-1) (-1))) _ _ s
  have e : Builtin.Slice.slicePlaces ((n : Int) - 1) (-1) (-1) = n := by
    unfold Builtin.Slice.slicePlaces
    rw [if_neg (by decide)]
    by_cases hn : n = 0
    · subst hn
      rfl
    · rw [if_pos (by omega), Int.neg_neg, Int.ediv_one]
      omega
  rw [e]
  exact wpAny_pure h
theorem getItem_tuple_rev {t sl : Addr} {items : Array Value} {u : Tok} {Q : Value → Shared → Prop} (ht : IsTup s.heap t items) (hs : s.heap.IsSliceOf sl .none .none (.int (-1) u))
    (h : Q (.ref s.heap.objs.size) { s with heap := s.heap.push { cls := .type "tuple", data := .seq items.toList.reverse.toArray } }) (hz : items.size ≤ sizeLine) : wpAny (model prog w) A (getItem (.ref t) (.ref sl)) Q E s := by
  have hsz : sizeOk (.seq items.toList.reverse.toArray) := by
    show items.toList.reverse.toArray.size ≤ sizeLine
    rw [List.size_toArray, List.length_reverse, Array.length_toList]
    exact hz
  obtain ⟨os, hos, hcs, hds⟩ := id hs
  have hTs : s.TypeIs (.ref sl) "slice" := ⟨os, hos, hcs⟩
  unfold getItem
  try with_reducible refine wpAny_holding ?_
  first | refine wpAny_bind (wpAny_pure ?_) | skip
  refine wpAny_bind (wpAny_sequenceKey ht.typeIs (by decide) ?_)
  refine wpAny_bind (wpAny_callSpecial?_slot (name := Str.ofString "__getitem__") ht.typeIs PyProof.Rows.slot_tuple_getitem
    (wpAny_call_entry PyProof.Rows.slot_tuple_getitem ht.typeIs PyProof.Rows.entry_tuple_getitem ?_ (PyProof.Rows.args_tuple_getitem _ _)))
  show wpAny _ _ (Builtin.Tuple.tupleItemsOf (.ref t) >>= _) _ _ s
  refine wpAny_bind (tupleItemsOf_ ht ?_)
  refine wpAny_bind (wpAny_typeOf hTs ?_)
  rw [if_pos (by decide)]
  refine wpAny_bind (rev_applied hs ?_)
  show wpAny _ _ (if (((items.size : Nat) : Int) - 1 == 0 && (-1 : Int) == 1 && items.size == items.size) = true then _ else _) _ _ s
  rw [if_neg (by rw [show ((-1 : Int) == 1) = false from rfl, Bool.and_false, Bool.false_and]; exact Bool.false_ne_true), rev_pick]
  first
    | exact wpAny_bind (m := Builtin.Tuple.tupleExact _) (wpAny_newObj_type (wpAny_pure ⟨_, rfl, wpAny_pure h⟩) hsz)
    | exact wpAny_bind (m := Builtin.Tuple.tupleExact _) (wpAny_newObj_type (wpAny_bind (wpAny_pure (wpAny_pure ⟨_, rfl, wpAny_pure h⟩))) hsz)
    | exact wpAny_bind (wpAny_bind (m := Builtin.Tuple.tupleExact _) (wpAny_newObj_type (wpAny_pure (wpAny_pure ⟨_, rfl, wpAny_pure h⟩)) hsz))
    | exact wpAny_bind (wpAny_bind (m := Builtin.Tuple.tupleExact _) (wpAny_newObj_type (wpAny_pure ⟨_, rfl, wpAny_pure h⟩) hsz))
end
section
variable {X : Cx}
def tRevT (K : PySem.W.Frag) (te : TE) : TE := fun σ H Q => te σ H fun x H1 => ∃ a xs, x = .ref a ∧ SqT K H1 a xs ∧ ∀ p, H1 p = none → Q (.ref p) (upd H1 p (.tup xs.reverse))
theorem pe_revT {e : Expr} {te : TE} {k : Nat} {p1 p2 p3 pos : Pos} (he : PE X e te) : PE X (.Subscript e (.Slice none none (some (.UnaryOp .USub (.Constant (.int 1) k p1) p2)) p3) pos) (tRevT X.K te) := by
  refine ⟨fun pins s σ H Q I h => ?_⟩
  refine Subscript_ (thn (he.run pins s σ H _ I h) fun v s1 ⟨x, H1, I1, r1, a, xs, ex, hx, q⟩ => ?_)
  subst ex
  cases r1
  have step : PO X (some (.UnaryOp .USub (.Constant (.int 1) k p1) p2)) (tPart (tUn (rU fun i => .int (-i)) (tC (.int 1)))) := po_some (pe_un un_neg pe_int)
  refine wpAny_Slice (thn (po_none.run pins s1 σ H1 (fun o H2 => o = none ∧ H2 = H1) I1 ⟨rfl, rfl⟩) fun vl s2 ⟨l, H2, I2, pl, el, e2⟩ => ?_)
  subst el e2
  refine thn (po_none.run pins s2 σ H2 (fun o H3 => o = none ∧ H3 = H2) I2 ⟨rfl, rfl⟩) fun vu s3 ⟨u, H3, I3, pu, eu, e3⟩ => ?_
  subst eu e3
  refine thn (step.run pins s3 σ H3 (fun o H4 => o = some (-1) ∧ H4 = H3) I3 ⟨1, rfl, -1, rfl, rfl, rfl⟩) fun vs s4 ⟨o, H4, I4, pst, eo, e4⟩ => ?_
  subst eo e4
  cases pl
  cases pu
  cases pst with
  | int i tk =>
    have I5 : Inv X pins σ H4 { s4 with heap := s4.heap.push { cls := .type "slice", data := .fields #[.none, .none, .int (-1) tk] } } := I4.kept (t' := s4.toks) fun b ob q => Heap.get?_push_of_some _ q
    obtain ⟨its, r, ht, hz⟩ := I5.tuple hx
    have hlen := r.length
    show wpAny (model X.prog X.w) X.A (subscriptTail e (.Slice none none (some (.UnaryOp .USub (.Constant (.int 1) k p1) p2)) p3) (.ref a) (.ref s4.heap.objs.size)) (EP X pins σ Q) X.xe { s4 with heap := s4.heap.push { cls := .type "slice", data := .fields #[.none, .none, .int (-1) tk] } }
    refine tail_any (ops := [.ref a, .ref s4.heap.objs.size]) ht.typeIs PyProof.Rows.slot_tuple_getitem.lookup ?_ (by with_unfolding_all rfl)
    refine getItem_tuple_rev ht (Heap.IsSliceOf.new _ _ _ _) ?_ (by rw [List.size_toArray]; omega)
    refine ⟨.ref _, _, I5.laid (t' := s4.toks) (o := .tup xs.reverse) (fun b ob q => Heap.get?_push_of_some _ q) (Nat.le_refl _) ?_, rfl, q _ (I5.hok.fresh (Nat.le_refl _))⟩
    exact ⟨by rw [List.length_reverse]; exact hz, _, r.reverse, IsTup.new _ _⟩
theorem evi_revT {b : Bool} {K : PySem.W.Frag} {te : TE} {σ : L2.St} {H : Hp} {ds : List PyData} (ha : EvI K te σ H (.d b (.tuple ds))) : EvI K (tRevT K te) σ H (.d b (.tuple ds.reverse)) := fun H1 e Q q =>
  ha H1 e _ fun v H2 x y => by
    obtain ⟨a, xs, rfl, t1, a1⟩ := Rp.tup_eq y
    exact ⟨a, xs, rfl, t1.sq, fun p hp => q _ _ (x.trans (Ex.new hp)) (.tup (TpB.mk upd_same) (a1.rev.tx (Tx.of (Ex.new hp))))⟩

/-! ### a dict asked by a tuple that stands anywhere -/
def DGq (K : PySem.W.Frag) (H : Hp) (a : Addr) (y : V) (r : Option V) : Prop := ∃ kvs k c, Rd H a (.dT kvs) ∧ y = .ref c ∧ SqT K H c (k.map kV) ∧ r = valV kvs k
variable {pins : List (Addr × Obj)} {σ : L2.St} {H : Hp} {s : Shared} {a : Addr} {y : V} {u : Value} {o : Option V} {A : Around} {E : Value → Shared → Prop}
theorem key_any {k : List Key} {c : Addr} (I : Inv X pins σ H s) (h : SqT X.K H c (k.map kV)) : (tupleKind (mixKind X.prog X.w)).is s.heap k c := by
  obtain ⟨its, r, ⟨o, h1, h2, n, h3⟩, _⟩ := I.tuple h
  exact ⟨o, its.toArray, n, h1, h2, h3, by simpa using items_are r⟩
theorem dq_getItem {v : V} {Q : Value → Shared → Prop} (hu : A.units + 1 < cLine) (I : Inv X pins σ H s) (g : DGq X.K H a y (some v)) (ry : RelV y u) (h : ∀ w' s', Inv X pins σ H s' → RelV v w' → Q w' s') :
    wpAny (model X.prog X.w) A (getItem (.ref a) u) Q E s := by
  obtain ⟨kvs, k, c, e, ey, ec, l⟩ := g
  subst ey
  cases (show u = Value.ref c from ry)
  obtain ⟨z, hd, xs, rel, dd⟩ := dt_rd I.hok e
  obtain ⟨w', hw, rw'⟩ := RelO.some_of (v := v) (o := (atKey xs k).map (·.2)) (by rw [l]; exact rel.val k)
  obtain ⟨p, hp, hp2⟩ := Option.map_eq_some_iff.mp hw
  refine wpAny_getItem_heap (tupleKind_room_in1 hu) (key_any I ec) dd hp ?_
  rw [hp2]
  exact h w' _ (I.tok _) rw'
theorem dq_in {Q : Value → Shared → Prop} (hu : A.units + 1 < cLine) (I : Inv X pins σ H s) (g : DGq X.K H a y o) (ry : RelV y u) (h : ∀ s', Inv X pins σ H s' → Q (.bool o.isSome) s') : wpAny (model X.prog X.w) A (compareOp .In u (.ref a)) Q E s := by
  obtain ⟨kvs, k, c, e, ey, ec, l⟩ := g
  subst ey
  cases (show u = Value.ref c from ry)
  obtain ⟨z, hd, xs, rel, dd⟩ := dt_rd I.hok e
  refine wpAny_in_heap (tupleKind_room_in1 hu) (key_any I ec) hd dd ?_
  have q := (rel.val k).isSome_eq
  rw [Option.isSome_map] at q
  rw [← q, ← l]
  exact h _ (I.tok _)
theorem dq_notIn {Q : Value → Shared → Prop} (hu : A.units + 1 < cLine) (I : Inv X pins σ H s) (g : DGq X.K H a y o) (ry : RelV y u) (h : ∀ s', Inv X pins σ H s' → Q (.bool (!o.isSome)) s') : wpAny (model X.prog X.w) A (compareOp .NotIn u (.ref a)) Q E s := by
  obtain ⟨kvs, k, c, e, ey, ec, l⟩ := g
  subst ey
  cases (show u = Value.ref c from ry)
  obtain ⟨z, hd, xs, rel, dd⟩ := dt_rd I.hok e
  refine wpAny_notIn_heap (tupleKind_room_in1 hu) (key_any I ec) hd dd ?_
  have q := (rel.val k).isSome_eq
  rw [Option.isSome_map] at q
  rw [← q, ← l]
  exact h _ (I.tok _)
theorem dq_get1 {Q : Value → Shared → Prop} (hu : A.units + 1 < cLine) (I : Inv X pins σ H s) (g : DGq X.K H a y o) (ry : RelV y u) (h : ∀ w' s', Inv X pins σ H s' → RelV (o.getD .non) w' → Q w' s') :
    wpAny (model X.prog X.w) A (call (.builtin "dict.get") [.ref a, u]) Q E s := by
  obtain ⟨kvs, k, c, e, ey, ec, l⟩ := g
  subst ey
  cases (show u = Value.ref c from ry)
  obtain ⟨z, hd, xs, rel, dd⟩ := dt_rd I.hok e
  refine call_meetsIn PySem.F.slot_dict_get dd.typeIs PySem.F.entry_dict_get (PySem.F.args_dict_get_2 _ _) (meetsH_dict_get (tupleKind (mixKind X.prog X.w)) a c hd) ⟨tupleKind_room_in1 hu, k, xs, key_any I ec, dd, h _ _ (I.tok _) ?_⟩
  rw [l]
  exact (rel.val k).getD rfl
theorem dq_is (g : DGq X.K H a y o) : IsD H a := by
  obtain ⟨kvs, k, c, e, _⟩ := g
  exact .inr ⟨kvs, e⟩
def tDGq (K : PySem.W.Frag) (td ty : TE) : TE := fun σ H Q => td σ H fun x H1 => ty σ H1 fun y H2 => ∃ a v, x = .ref a ∧ DGq K H2 a y (some v) ∧ Q v H2
def tDIq (K : PySem.W.Frag) (neg : Bool) (ty td : TE) : TE := fun σ H Q => ty σ H fun y H1 => td σ H1 fun x H2 => ∃ a o, x = .ref a ∧ DGq K H2 a y o ∧ Q (.bl (if neg then !o.isSome else o.isSome)) H2
def tDG1q (K : PySem.W.Frag) (td ty : TE) : TE := fun σ H Q => td σ H fun x H1 => ∃ a, x = .ref a ∧ IsD H1 a ∧ ty σ H1 fun y H2 => ∃ o, DGq K H2 a y o ∧ Q (o.getD .non) H2
variable {d i e f : Expr} {pos apos cpos : Pos} {td ty : TE}
theorem pe_dq (hu : X.A.units + 1 < cLine) (hd : PE X d td) (hi : PE X i ty) (hs : NoSl i) : PE X (.Subscript d i pos) (tDGq X.K td ty) := by
  refine ⟨fun pins s σ H Q I h => ?_⟩
  refine subD_of PySem.F.slot_dict_getitem.lookup hs (thn (hd.run pins s σ H _ I h) fun u s1 ⟨x, H1, I1, rx, q1⟩ => thn (hi.run pins s1 σ H1 _ I1 q1) fun iv s2 ⟨y, H2, I2, ry, a, v, ex, g, q2⟩ => ?_)
  subst ex
  obtain rfl : u = Value.ref a := rx
  exact ⟨(isD_at I2 (dq_is g)).1, dq_getItem hu I2 g ry fun w' s3 I3 rw' => ⟨v, H2, I3, rw', q2⟩⟩
theorem pc_dinq (hu : X.A.units + 1 < cLine) (hi : PE X i ty) (hd : PE X d td) : PC X .In i d (tDIq X.K false ty td) := by
  refine ⟨fun pins s σ H Q I h => ?_⟩
  refine thn (hi.run pins s σ H _ I h) fun iv s1 ⟨y, H1, I1, ry, q1⟩ => thn (hd.run pins s1 σ H1 _ I1 q1) fun u s2 ⟨x, H2, I2, rx, a, ov, ex, g, q2⟩ => ?_
  subst ex
  obtain rfl : u = Value.ref a := rx
  exact dq_in hu I2 g ry fun s3 I3 => ⟨.bl ov.isSome, H2, I3, rfl, q2⟩
theorem pc_dninq (hu : X.A.units + 1 < cLine) (hi : PE X i ty) (hd : PE X d td) : PC X .NotIn i d (tDIq X.K true ty td) := by
  refine ⟨fun pins s σ H Q I h => ?_⟩
  refine thn (hi.run pins s σ H _ I h) fun iv s1 ⟨y, H1, I1, ry, q1⟩ => thn (hd.run pins s1 σ H1 _ I1 q1) fun u s2 ⟨x, H2, I2, rx, a, ov, ex, g, q2⟩ => ?_
  subst ex
  obtain rfl : u = Value.ref a := rx
  exact dq_notIn hu I2 g ry fun s3 I3 => ⟨.bl (!ov.isSome), H2, I3, rfl, q2⟩
theorem pe_dq1 (hu : X.A.units + 1 < cLine) (hd : PE X d td) (he : PE X e ty) (m : M1 X d "get" apos e cpos) : PE X (.Call (.Attribute d "get" apos) [e] [] cpos) (tDG1q X.K td ty) := by
  refine ⟨fun pins s σ H Q I h => ?_⟩
  refine wpAny_Call_method m.base m.few m.line PySem.F.plainAttrs_dict PySem.F.slot_dict_get PySem.F.type_dict_get (thn (hd.run pins s σ H _ I h) fun u s1 ⟨x, H1, I1, rx, a, ex, dd, q1⟩ => ?_)
  subst ex
  obtain rfl : u = Value.ref a := rx
  obtain ⟨t1, t2, _⟩ := isD_at I1 dd
  refine ⟨t1, t2, ?_⟩
  rw [m.trees]
  refine Calls.callWith_builtin rfl (Calls.evalArgs_plain (Calls.spliced_cons (thn (he.run pins s1 σ H1 _ I1 q1) fun iv s2 ⟨y, H2, I2, ry, ov, g, q2⟩ => Calls.spliced_nil ?_)))
  exact dq_get1 hu I2 g ry fun w' s3 I3 rw' => ⟨_, H2, I3, rw', q2⟩
end
end Bk

set_option Elab.async false
set_option linter.all false
set_option maxRecDepth 100000
set_option maxHeartbeats 4000000
set_option autoImplicit false
/-! {k: v for x in ..} whose keys are tuples. -/
namespace Bk
open PySem PySem.Spec PyProof.Rows L2 Evl
section
variable {X : Cx} {pins : List (Addr × Obj)} {σ : L2.St} {H : Hp} {s : Shared}
theorem dt_set {E : Value → Shared → Prop} {D c : Addr} {kvs : List (List Key × V)} {k : List Key} {v : V} {r : Value} {Q : Unit → Shared → Prop} (hu : X.A.units < cLine) (I : Inv X pins σ H s) (hD : H D = some (.dT kvs)) (hz : kvs.length < sizeLine) (hc : H c = some (.tup (k.map kV))) (rv : RelV v r)
    (h : ∀ s', Inv X pins σ (upd H D (.dT (putK kvs k v))) s' → Q () s') : wpAny (model X.prog X.w) X.A (dictSet D (.ref c) r) Q E s := by
  obtain ⟨z, hd, xs, rel, dd⟩ := dt_of I.hok hD
  have l0 : xs.length ≤ sizeLine := by rw [← Paired.length rel]; exact z
  have l1 : (putK kvs k v).length ≤ sizeLine := by have := length_putK kvs k v; omega
  refine wpAny_dictSet_heap (hsz := l0) (show (tupleKind (mixKind X.prog X.w)).room X.A from hu) (key_of I.hok hc) dd fun h' dd' hs => h _ ?_
  obtain ⟨q, es, ep, g1, g2, g3, g4, _, g5⟩ := dd'
  have mu : Mut (H D) := by rw [hD]; exact True.intro
  refine d_write I mu hs ⟨q, g1⟩ ⟨l1, hd, _, (rel.put k hc rv).keeps fun b ys e => ?_, q, es, ep, g1, g2, g3, g4, g5⟩
  rw [upd_ne (ne_of e hD fun z => by cases z)]
  exact e
/-- the reading: D the new dict; Nx what a turn is to reach -/
def tDcT (wi : TI) (g : TG) (tk tv : TE) (vs : List Nat) : TE := fun σ H Q => wi σ H fun J H1 => ∀ D, H1 D = none → ∃ W : Nat → Nat → Hp → Prop, (∃ m, W 0 m (upd H1 D (.dT []))) ∧ ∀ i m H, W i m H →
  (J.stop i H ∧ Q (.ref D) H) ∨ (J.go i H ∧ ∃ Nx : Hp → Prop, (∀ H', Nx H' → ∃ m', m' < m ∧ W (i + 1) m' H') ∧ ∀ x H', J.yld i H x H' → g x (wipe σ vs) H' fun σ2 H2 => wipe σ2 vs = wipe σ vs ∧
    tk σ2 H2 fun y H4 => tv σ2 H4 fun z H5 => ∃ kvs k c, y = .ref c ∧ H5 c = some (.tup (k.map kV)) ∧ H5 D = some (.dT kvs) ∧ kvs.length < sizeLine ∧ Nx (upd H5 D (.dT (putK kvs k z))))
theorem dcT_core {Q : VK} {kx vx tg iter : Expr} {scope : Scope} {own : List (Str × Nat)} {pos pos' : Pos} {wi : TI} {g : TG} {tk tv : TE} {use : Option (Value → Sem Unit)} {Qf : Value → Shared → Prop} (hu : X.A.units < cLine) (hc : X.calm = true) (hN : X.N.Nodup) (I : Inv X pins σ H s) (hi : PI X tg iter wi) (ok : BlkOk X.N X.env.scope scope own)
    (hg : ∀ (s : Shared) (H : Hp) (C : Addr) (cl : List (Str × Addr)) (fp : List Addr), PG (X.blk s H scope (compEnvC scope cl C X.env) fp) tg g)
    (hk : ∀ (s : Shared) (H : Hp) (C : Addr) (cl : List (Str × Addr)) (fp : List Addr), PE (X.blk s H scope (compEnvC scope cl C X.env) fp) kx tk)
    (he : ∀ (s : Shared) (H : Hp) (C : Addr) (cl : List (Str × Addr)) (fp : List Addr), PE (X.blk s H scope (compEnvC scope cl C X.env) fp) vx tv) (hs : ∀ x, foldedSetIterable iter X.env x = pure x)
    (h : tDcT wi g tk tv (own.map (·.2)) σ H Q)
    (fin : ∀ D C s' m H', Inv X pins σ H' s' → Q (.ref D) H' → s'.heap.Ns C m → FpOk X pins H' C → compPost (model X.prog X.w) X.A X.xe use Qf (.ref D) C (.ok .next) s') :
    wpAny (model X.prog X.w) X.A (comprehension (.DictComp kx vx [⟨tg, iter, [], 0⟩] scope pos) scope X.env pos' newDict false (eval iter X.env) use) Qf X.xe s := by
  have free_ : ∀ y ∈ scope.names, y.2 = .free → ∃ c, X.env.cells.lookup y.1 = some c := fun y hy e => (ok.free y hy e).elim (fun k => I.ok.has _ (.inl k)) fun k => I.ok.has _ (.inr k)
  refine wpAny_comprehension_free (use := use) rfl hs (closure_ok free_) ok.kind (fun y hy e => by rw [ok.uniq y hy, e]) (thn (hi.run pins s σ H _ I h) fun xv s1 hx => thn hx fun itv s2 h2 => ?_)
  obtain ⟨it, fp, tn, J, H2, eit, I2, T, st2, f2, q⟩ := h2
  subst eit
  refine wpAny_newObj_type (newEnv_comp ?_)
  generalize eD : s2.heap.objs.size = D
  obtain ⟨W, ⟨m0, w0⟩, turn⟩ := q D (I2.hok.fresh (Nat.le_of_eq eD))
  -- the new dict stands
  generalize es3 : ({ s2 with heap := s2.heap.push { cls := .type "dict", data := .dict #[] } } : Shared) = s3
  have h3 : s3.heap = s2.heap.push { cls := .type "dict", data := .dict #[] } := by rw [← es3]
  have I3 : Inv X pins σ (upd H2 D (.dT [])) s3 := by
    rw [← es3]
    refine I2.laid (t' := s2.toks) (fun b o e => Heap.get?_push_of_some _ e) (Nat.le_of_eq eD) ?_
    rw [← eD]
    exact dt_empty s2.heap I2.big
  have old : ∀ b ∈ fp, b < D := fun b hb => by
    obtain ⟨o, e, _⟩ := T.obj _ _ st2 b hb
    rw [← eD]
    exact Heap.lt_size e
  generalize eH3 : upd H2 D (.dT []) = H3 at I3 w0
  have f3 : ∀ b ∈ fp, FpOk X pins H3 b ∧ b < s3.heap.objs.size := fun b hb => by
    have hlt := old b hb
    refine ⟨⟨?_, (f2 b hb).2⟩, by rw [h3, Heap.size_push, eD]; exact Nat.lt_succ_of_lt hlt⟩
    rw [← eH3, upd_ne (Nat.ne_of_lt hlt)]
    exact (f2 b hb).1
  have st3 : tn 0 s3.heap := T.keep _ _ _ st2 fun b _ o e => by rw [h3]; exact Heap.get?_push_of_some _ e
  -- the block's own context
  have I4 := block_start I3 ok hN f3
  have pg := hg s3 H3 s3.heap.objs.size (cellsFrom (s3.heap.objs.size + 1) scope.names (cloFrom X.env.cells scope.names [])) fp
  have pk := hk s3 H3 s3.heap.objs.size (cellsFrom (s3.heap.objs.size + 1) scope.names (cloFrom X.env.cells scope.names [])) fp
  have pv_ := he s3 H3 s3.heap.objs.size (cellsFrom (s3.heap.objs.size + 1) scope.names (cloFrom X.env.cells scope.names [])) fp
  show codeAny _ _ (.compStart (.DictComp kx vx [⟨tg, iter, [], 0⟩] scope pos) 0 (.ref it) (.ref D) (compEnvC scope (cellsFrom (s3.heap.objs.size + 1) scope.names (cloFrom X.env.cells scope.names [])) s3.heap.objs.size X.env)) (compPost (model X.prog X.w) X.A X.xe use Qf (.ref D) s3.heap.objs.size) { s3 with heap := pushCells (s3.heap.push { cls := .type "dict", data := .dict #[] }) scope.names }
  generalize ece : compEnvC scope (cellsFrom (s3.heap.objs.size + 1) scope.names (cloFrom X.env.cells scope.names [])) s3.heap.objs.size X.env = ce at I4 pg pk pv_ ⊢
  have cL : ce.locals = s3.heap.objs.size := by subst ece; rfl
  generalize es4 : ({ s3 with heap := pushCells (s3.heap.push { cls := .type "dict", data := .dict #[] }) scope.names } : Shared) = s4 at I4 ⊢
  have st4 : tn 0 s4.heap := T.keep _ _ _ st3 fun b _ o e => by rw [← es4]; exact pushCells_keeps _ _ _ _ (Heap.get?_push_of_some _ e)
  have foot : ∀ {σ' : L2.St} {H' : Hp} {s' : Shared}, Inv (X.blk s3 H3 scope ce fp) [] σ' H' s' → (∀ b ∈ fp, H' b = none) → ∀ b ∈ fp, FpOk (X.blk s3 H3 scope ce fp) [] H' b := fun {σ' H' s'} I' hn b hb =>
    ⟨hn b hb, (I'.ok.exf b hb).1, I'.ok.exfs b hb, .inl hb, fun x c e => (I'.ok.exf b hb).2 x c e, fun p hp => absurd (show p ∈ ([] : List (Addr × Obj)) ++ [] from hp) (by simp)⟩
  have loop : codeAny (model X.prog X.w) X.A (.compLoop (.DictComp kx vx [⟨tg, iter, [], 0⟩] scope pos) 0 (.ref it) (.ref D) ce) (compPost (model X.prog X.w) X.A X.xe use Qf (.ref D) s3.heap.objs.size) s4 := by
    refine compLoop_anyD (fun n s' => ∃ i H', Inv (X.blk s3 H3 scope ce fp) [] (wipe σ (own.map (·.2))) H' s' ∧ tn i s'.heap ∧ (∀ b ∈ fp, H' b = none) ∧ W i n H') ?_ m0 ⟨0, H3, I4, st4, fun b hb => (f3 b hb).1.1, w0⟩
    rintro n s5 ⟨i, H5, I5, st5, n5, w5⟩
    rcases turn i n H5 w5 with ⟨stop, qq⟩ | ⟨go, Nx, hNx, step⟩
    · refine thnF (T.done (X.blk s3 H3 scope ce fp) rfl rfl rfl hc i [] s5 _ H5 (fun _ _ => False) I5 (foot I5 n5) st5 stop) fun r s6 ⟨hr, I6⟩ => ?_
      subst hr
      have I7 : Inv X pins σ H5 s6 := I3.call' (ch := fp) I6.os I6.base I6.hok I6.bare fun b hb => ⟨(f3 b hb).1.2.2.2.1, (f3 b hb).1.2.1, (f3 b hb).1.2.2.2.2.1, (f3 b hb).1.2.2.2.2.2⟩
      have nC : H5 s3.heap.objs.size = none := cL ▸ (show H5 ce.locals = none from I6.free)
      obtain ⟨m, hn, _⟩ := I6.loc
      have hn : s6.heap.Ns s3.heap.objs.size m := cL ▸ (show s6.heap.Ns ce.locals m from hn)
      exact fin D s3.heap.objs.size s6 m H5 I7 qq hn (I3.fpOk (Nat.le_refl _) nC)
    · refine thnF (T.item (X.blk s3 H3 scope ce fp) rfl rfl rfl hc i [] s5 _ H5 (fun _ _ => False) I5 (foot I5 n5) st5 go) fun r s6 ⟨u, hr, h6⟩ => ?_
      subst hr
      refine thnF h6 fun _ s7 ⟨x, H7, I7, r7, y7, st7, n7⟩ => ?_
      have I7' := I7.pinned (foot I7 n7) (T.obj _ _ st7)
      refine thnF (pg.run _ s7 _ H7 x u _ I7' r7 (step x H7 y7)) fun _ s8 ⟨σ8, H8, I8, hw8, q8⟩ => ?_
      show wpAny (model X.prog X.w) X.A (pure true) _ _ s8
      refine wpAny_pure ?_
      simp only [if_true]
      refine thnF (pk.run _ s8 σ8 H8 _ I8 q8) fun kv s9 ⟨yk, H9, I9, r9, q9⟩ => ?_
      refine thnF (pv_.run _ s9 σ8 H9 _ I9 q9) fun vv s10 ⟨yv, H10, I10, r10, kvs, k, c, ek, hc10, hD10, hz10, nx⟩ => ?_
      subst ek
      cases (show kv = Value.ref c from r9)
      refine dt_set (X := X.blk s3 H3 scope ce fp) hu I10 hD10 hz10 hc10 r10 fun s11 I11 => ?_
      obtain ⟨m', hm, w'⟩ := hNx _ nx
      have pin' : ∀ b ∈ fp, ∀ o, s7.heap.get? b = some o → s11.heap.get? b = some o ∧ upd H10 D (.dT (putK kvs k yv)) b = none := fun b hb o e =>
        let z := I11.pin (b, o) (List.mem_append_right _ (List.mem_append_right _ (mem_pinsAt hb e)))
        ⟨z.1, z.2.1⟩
      refine ⟨m', hm, i + 1, _, (I11.unpinned (pins := [])).weak (by rw [← hw8, wipe_length]) (fun j v e => ?_), T.keep _ _ _ st7 fun b hb o e => (pin' b hb o e).1, fun b hb => ?_, w'⟩
      · rw [← hw8] at e
        exact (wipe_some e).1
      · obtain ⟨o, e, _⟩ := T.obj _ _ st7 b hb
        exact (pin' b hb o e).2
  exact codeAny_compStart_dict loop (T.self X.A 0 _ _ _ st4 loop)
theorem pe_dcT {kx vx tg iter : Expr} {scope : Scope} {own : List (Str × Nat)} {pos : Pos} {wi : TI} {g : TG} {tk tv : TE} (hu : X.A.units < cLine) (hc : X.calm = true) (hN : X.N.Nodup) (hi : PI X tg iter wi) (ok : BlkOk X.N X.env.scope scope own)
    (hg : ∀ (s : Shared) (H : Hp) (C : Addr) (cl : List (Str × Addr)) (fp : List Addr), PG (X.blk s H scope (compEnvC scope cl C X.env) fp) tg g)
    (hk : ∀ (s : Shared) (H : Hp) (C : Addr) (cl : List (Str × Addr)) (fp : List Addr), PE (X.blk s H scope (compEnvC scope cl C X.env) fp) kx tk)
    (he : ∀ (s : Shared) (H : Hp) (C : Addr) (cl : List (Str × Addr)) (fp : List Addr), PE (X.blk s H scope (compEnvC scope cl C X.env) fp) vx tv) (hs : ∀ x, foldedSetIterable iter X.env x = pure x := by intro _; rfl) :
    PE X (.DictComp kx vx [⟨tg, iter, [], 0⟩] scope pos) (tDcT wi g tk tv (own.map (·.2))) := by
  refine ⟨fun pins s σ H Q I h => ?_⟩
  rw [arm_eval_DictComp]
  refine dcT_core hu hc hN I hi ok hg hk he hs h fun D C s' m H' I' qq hn k => ⟨m, hn, fun h'' sb => ?_⟩
  exact ⟨.ref D, H', I'.turned (t' := s'.toks) (fun b o hb e => (sb.2 b hb).trans e) k.1 k.2.1 k.2.2.2.1 k.2.2.2.2.1 k.2.2.2.2.2, rfl, qq⟩
/-- name = {..} on one line, the name a local -/
theorem ps_setDcT {i : Nat} {y : Str} {py : Pos} {kx vx tg iter : Expr} {scope : Scope} {own : List (Str × Nat)} {pos spos : Pos} {wi : TI} {g : TG} {tk tv : TE} (hu : X.A.units < cLine) (hc : X.calm = true) (hN : X.N.Nodup) (hy : X.N[i]? = some y) (hyl : X.env.scope.names.lookup y = some .local)
    (hsw : swapsWith (.DictComp kx vx [⟨tg, iter, [], 0⟩] scope pos) (some (.Name y py)) spos.line X.env = pure true) (hi : PI X tg iter wi) (ok : BlkOk X.N X.env.scope scope own)
    (hg : ∀ (s : Shared) (H : Hp) (C : Addr) (cl : List (Str × Addr)) (fp : List Addr), PG (X.blk s H scope (compEnvC scope cl C X.env) fp) tg g)
    (hk : ∀ (s : Shared) (H : Hp) (C : Addr) (cl : List (Str × Addr)) (fp : List Addr), PE (X.blk s H scope (compEnvC scope cl C X.env) fp) kx tk)
    (he : ∀ (s : Shared) (H : Hp) (C : Addr) (cl : List (Str × Addr)) (fp : List Addr), PE (X.blk s H scope (compEnvC scope cl C X.env) fp) vx tv) (hs : ∀ x, foldedSetIterable iter X.env x = pure x := by intro _; rfl) :
    PS X (.Assign [.Name y py] (.DictComp kx vx [⟨tg, iter, [], 0⟩] scope pos) spos) (tAsg (tDcT wi g tk tv (own.map (·.2))) (gName i)) := by
  refine ⟨fun pins s σ H D I h => ?_⟩
  rw [exec_Assign_Name_used _ _ _ _ hsw]
  refine wpAny_bind (wpAny_standAt (wpAny_bind ?_))
  show wpAny _ X.A (do let _ ← comprehension (.DictComp kx vx [⟨tg, iter, [], 0⟩] scope pos) scope X.env (firstIterPos [⟨tg, iter, [], 0⟩] pos) newDict false (eval iter X.env) (some (assign (.Name y py) X.env))) _ _ s
  have h : tDcT wi g tk tv (own.map (·.2)) σ H (fun x H1 => gName i x σ H1 D.nx) := h
  refine wpAny_bind (thn (dcT_core (Qf := fun _ s' => SP X pins D .next s') hu hc hN I hi ok hg hk he hs h fun L C s' m H' I' qq hn k => ?_) fun _ s' hq => wpAny_pure (wpAny_pure hq))
  show wpAny _ _ (assign (.Name y py) X.env (.ref L)) _ _ _
  refine wpAny_assign_Name (store_ok2 (v := V.ref L) I' hN hy (.inl hyl) rfl (fun s2 I2 ⟨a, sb, ha⟩ => ?_) (.inr hyl))
  have apart : C ≠ a := ha.elim (fun z => by rw [z]; exact k.2.1) fun z e => k.2.2.2.2.1 y a z e.symm
  refine ⟨m, hn.sameBut sb apart, fun h3 sb3 => ?_⟩
  exact ⟨_, H', I2.turned (t' := s2.toks) (fun b o hb e => (sb3.2 b hb).trans e) k.1 k.2.1 k.2.2.2.1 k.2.2.2.2.1 k.2.2.2.2.2, qq⟩
theorem sw_trueD {kx vx : Expr} {gs : List Comprehension} {scope : Scope} {pos py : Pos} {y : Str} {l : Nat} {env : Env} (hk : env.scope.kind = .function) (hy : env.scope.names.lookup y = some .local) (hl : (py.line == pos.line) = true)
    (ha : (scope.names.any fun (n, k) => n == y && (k == .local || k == .cell)) = false) : swapsWith (.DictComp kx vx gs scope pos) (some (.Name y py)) l env = pure true := by
  have ky : env.kindOf y = some .local := hy
  have hb : env.blockKind = .function := by unfold Env.blockKind; rw [hk]; rfl
  unfold swapsWith
  simp only [hb, ky, ha, Expr.pos, hl]
  rfl
end
end Bk

set_option Elab.async false
set_option linter.all false
set_option maxRecDepth 100000
set_option maxHeartbeats 4000000
set_option autoImplicit false
/-! Rows, configurations, lines as data. -/
namespace Bk
open PySem PySem.Spec PyProof.Rows L2 Evl
def dInts (ns : List Int) : PyData := .tuple (ns.map .int)
def dTri (t : Tri) : PyData := .tuple [.int t.1, .int t.2.1, .int t.2.2]
def dLine (L : List Tri) : PyData := .tuple (L.map dTri)
def dRow : Row → PyData
  | .wr q a b t => .tuple [.str "write", .int q, dInts [a], dInts [b], .int t]
  | .mv q d t => .tuple [.str "move", .int q, dInts [d], .int t]
def dTape (l : List Int) (a : Int) (r : List Int) : PyData := .tuple [dInts l, .int a, dInts r]
def dCfg (c : Cfg) : PyData := .tuple [.int c.q, .tuple [dTape c.l c.a c.r]]
def dOpt : Option Cfg → PyData
  | none => .none
  | some c => dCfg c
/-! ### equality of data -/
mutual
def pd : PyData → Bool
  | .none | .int _ | .str _ => true
  | .tuple xs => pdA xs
  | .bool _ | .list _ | .dict _ => false
def pdA : List PyData → Bool
  | [] => true
  | x :: xs => pd x && pdA xs
end
mutual
theorem eqv_eq : ∀ (d e : PyData), pd d = true → pd e = true → (PyData.eqv d e = true ↔ d = e)
  | .none, .none, _, _ => by simp [PyData.eqv]
  | .none, .int _, _, _ => by simp [PyData.eqv]
  | .none, .str _, _, _ => by simp [PyData.eqv]
  | .none, .tuple _, _, _ => by simp [PyData.eqv]
  | .int _, .none, _, _ => by simp [PyData.eqv]
  | .int _, .int _, _, _ => by simp [PyData.eqv]
  | .int _, .str _, _, _ => by simp [PyData.eqv]
  | .int _, .tuple _, _, _ => by simp [PyData.eqv]
  | .str _, .none, _, _ => by simp [PyData.eqv]
  | .str _, .int _, _, _ => by simp [PyData.eqv]
  | .str _, .str _, _, _ => by simp [PyData.eqv]
  | .str _, .tuple _, _, _ => by simp [PyData.eqv]
  | .tuple _, .none, _, _ => by simp [PyData.eqv]
  | .tuple _, .int _, _, _ => by simp [PyData.eqv]
  | .tuple _, .str _, _, _ => by simp [PyData.eqv]
  | .tuple xs, .tuple ys, h1, h2 => by
    rw [PyData.eqv, PyData.tuple.injEq]
    exact eqvA_eq xs ys h1 h2
  | .bool _, _, h, _ => by cases h
  | .list _, _, h, _ => by cases h
  | .dict _, _, h, _ => by cases h
  | .none, .bool _, _, h => by cases h
  | .none, .list _, _, h => by cases h
  | .none, .dict _, _, h => by cases h
  | .int _, .bool _, _, h => by cases h
  | .int _, .list _, _, h => by cases h
  | .int _, .dict _, _, h => by cases h
  | .str _, .bool _, _, h => by cases h
  | .str _, .list _, _, h => by cases h
  | .str _, .dict _, _, h => by cases h
  | .tuple _, .bool _, _, h => by cases h
  | .tuple _, .list _, _, h => by cases h
  | .tuple _, .dict _, _, h => by cases h
theorem eqvA_eq : ∀ (xs ys : List PyData), pdA xs = true → pdA ys = true → (PyData.eqvAll xs ys = true ↔ xs = ys)
  | [], [], _, _ => by simp [PyData.eqvAll]
  | [], _ :: _, _, _ => by simp [PyData.eqvAll]
  | _ :: _, [], _, _ => by simp [PyData.eqvAll]
  | x :: xs, y :: ys, h1, h2 => by
    rw [pdA, Bool.and_eq_true] at h1 h2
    rw [PyData.eqvAll, Bool.and_eq_true, eqv_eq x y h1.1 h2.1, eqvA_eq xs ys h1.2 h2.2, List.cons.injEq]
end
theorem eqv_dec {d e : PyData} {p : Prop} [Decidable p] (h1 : pd d = true) (h2 : pd e = true) (h : d = e ↔ p) : PyData.eqv d e = decide p := by
  rw [Bool.eq_iff_iff, eqv_eq d e h1 h2, h, decide_eq_true_iff]
theorem eqv_int (i j : Int) : PyData.eqv (.int i) (.int j) = decide (i = j) := eqv_dec rfl rfl (by rw [PyData.int.injEq])
theorem eqv_str (i j : Str) : PyData.eqv (.str i) (.str j) = decide (i = j) := eqv_dec rfl rfl (by rw [PyData.str.injEq])
theorem pdA_map {α : Type} {f : α → PyData} (h : ∀ a, pd (f a) = true) : ∀ l : List α, pdA (l.map f) = true
  | [] => rfl
  | a :: l => by rw [List.map_cons, pdA, h a, pdA_map h l]; rfl
theorem pd_ints (ns : List Int) : pd (dInts ns) = true := pdA_map (fun _ => rfl) ns
theorem pd_tri (t : Tri) : pd (dTri t) = true := rfl
theorem pd_line (L : List Tri) : pd (dLine L) = true := pdA_map pd_tri L
theorem pd_tape (l : List Int) (a : Int) (r : List Int) : pd (dTape l a r) = true := by
  show (pd (dInts l) && (pd (.int a) && (pd (dInts r) && true))) = true
  rw [pd_ints, pd_ints]
  rfl
theorem pd_cfg (c : Cfg) : pd (dCfg c) = true := by
  show (pd (.int c.q) && ((pd (dTape c.l c.a c.r) && true) && true)) = true
  rw [pd_tape]
  rfl
theorem map_inj {α β : Type} {f : α → β} (h : ∀ a b, f a = f b → a = b) : ∀ {l m : List α}, l.map f = m.map f → l = m
  | [], [], _ => rfl
  | [], _ :: _, e => by cases e
  | _ :: _, [], e => by cases e
  | a :: l, b :: m, e => by
    rw [List.map_cons, List.map_cons, List.cons.injEq] at e
    rw [h a b e.1, map_inj h e.2]
theorem dInts_inj {a b : List Int} (h : dInts a = dInts b) : a = b := map_inj (fun _ _ e => PyData.int.inj e) (PyData.tuple.inj h)
theorem dTri_inj {a b : Tri} (h : dTri a = dTri b) : a = b := by
  obtain ⟨a1, a2, a3⟩ := a
  obtain ⟨b1, b2, b3⟩ := b
  simp only [dTri, PyData.tuple.injEq, List.cons.injEq, PyData.int.injEq] at h
  rw [h.1, h.2.1, h.2.2.1]
theorem dLine_inj {a b : List Tri} (h : dLine a = dLine b) : a = b := map_inj (fun _ _ => dTri_inj) (PyData.tuple.inj h)
theorem dTape_inj {l l' r r' : List Int} {a a' : Int} (h : dTape l a r = dTape l' a' r') : l = l' ∧ a = a' ∧ r = r' := by
  simp only [dTape, PyData.tuple.injEq, List.cons.injEq, PyData.int.injEq] at h
  exact ⟨dInts_inj h.1, h.2.1, dInts_inj h.2.2.1⟩
theorem dCfg_inj {c c' : Cfg} (h : dCfg c = dCfg c') : c = c' := by
  obtain ⟨q, l, a, r⟩ := c
  obtain ⟨q', l', a', r'⟩ := c'
  simp only [dCfg, PyData.tuple.injEq, List.cons.injEq, PyData.int.injEq] at h
  obtain ⟨h1, ⟨h2, _⟩, _⟩ := h
  obtain ⟨e1, e2, e3⟩ := dTape_inj h2
  rw [h1, e1, e2, e3]
theorem eqv_tri (a b : Tri) : PyData.eqv (dTri a) (dTri b) = decide (a = b) := eqv_dec (pd_tri a) (pd_tri b) ⟨dTri_inj, congrArg _⟩
theorem eqv_line (a b : List Tri) : PyData.eqv (dLine a) (dLine b) = decide (a = b) := eqv_dec (pd_line a) (pd_line b) ⟨dLine_inj, congrArg _⟩
theorem eqv_ints (a b : List Int) : PyData.eqv (dInts a) (dInts b) = decide (a = b) := eqv_dec (pd_ints a) (pd_ints b) ⟨dInts_inj, congrArg _⟩
theorem eqv_self {d : PyData} (h : pd d = true) : PyData.eqv d d = true := (eqv_eq d d h h).mpr rfl
theorem eqv_not {d e : PyData} (h1 : pd d = true) (h2 : pd e = true) (h : d ≠ e) : PyData.eqv d e = false := by
  cases q : PyData.eqv d e with
  | false => rfl
  | true => exact absurd ((eqv_eq d e h1 h2).mp q) h
/-! ### what may be compared -/
def okD (n : Nat) (d : PyData) : Prop := d.canLay0 = true ∧ d.depth ≤ n
theorem okD.sh {n : Nat} {d : PyData} (h : okD n d) (hn : n ≤ 64 := by decide) : SeqAt.shaped d = true := by
  unfold SeqAt.shaped
  rw [h.1, Bool.true_and, decide_eq_true_iff]
  exact Nat.le_trans h.2 hn
theorem ok_int (i : Int) : okD 0 (.int i) := ⟨rfl, Nat.le_refl _⟩
theorem ok_none : okD 0 .none := ⟨rfl, Nat.le_refl _⟩
theorem okD.up {n m : Nat} {d : PyData} (h : okD n d) (hm : n ≤ m := by decide) : okD m d := ⟨h.1, Nat.le_trans h.2 hm⟩
theorem ok_tup {n : Nat} : ∀ {ds : List PyData}, (∀ d ∈ ds, okD n d) → okD (n + 1) (.tuple ds)
  | [], _ => ⟨rfl, by simp [PyData.depth, PyData.depthAll]⟩
  | d :: ds, h => by
    have h1 := h d List.mem_cons_self
    obtain ⟨h2, h3⟩ := ok_tup (n := n) (ds := ds) fun x hx => h x (List.mem_cons_of_mem _ hx)
    have e : PyData.depth (.tuple ds) = PyData.depthAll ds + 1 := by rw [PyData.depth]
    rw [e] at h3
    refine ⟨?_, ?_⟩
    · show (d.canLay0 && PyData.canLayAll0 ds) = true
      rw [h1.1]
      exact h2
    · have e2 : PyData.depth (.tuple (d :: ds)) = max d.depth (PyData.depthAll ds) + 1 := by rw [PyData.depth, PyData.depthAll]
      rw [e2]
      have := h1.2
      omega
theorem ok_str {x : Str} (h : PyData.strOk x = true) : okD 0 (.str x) := ⟨h, Nat.le_refl _⟩
theorem ok_ints (ns : List Int) : okD 1 (dInts ns) := ok_tup fun d hd => by
  obtain ⟨i, _, e⟩ := List.mem_map.mp hd
  rw [← e]
  exact ok_int i
theorem ok_tri (t : Tri) : okD 1 (dTri t) := ok_tup fun d hd => by
  simp only [List.mem_cons, List.not_mem_nil, or_false] at hd
  rcases hd with e | e | e <;> (rw [e]; exact ok_int _)
theorem ok_line (L : List Tri) : okD 2 (dLine L) := ok_tup fun d hd => by
  obtain ⟨i, _, e⟩ := List.mem_map.mp hd
  rw [← e]
  exact ok_tri i
theorem ok_tape (l : List Int) (a : Int) (r : List Int) : okD 2 (dTape l a r) := ok_tup fun d hd => by
  simp only [List.mem_cons, List.not_mem_nil, or_false] at hd
  rcases hd with e | e | e
  · rw [e]; exact ok_ints _
  · rw [e]; exact (ok_int _).up
  · rw [e]; exact ok_ints _
theorem ok_cfg (c : Cfg) : okD 4 (dCfg c) := ok_tup fun d hd => by
  simp only [List.mem_cons, List.not_mem_nil, or_false] at hd
  rcases hd with e | e
  · rw [e]; exact (ok_int _).up
  · rw [e]
    exact ok_tup fun d hd => by
      simp only [List.mem_cons, List.not_mem_nil, or_false] at hd
      rw [hd]
      exact ok_tape _ _ _
theorem ok_opt (c : Option Cfg) : okD 4 (dOpt c) := by
  cases c with
  | none => exact ok_none.up
  | some c => exact ok_cfg c
theorem pd_opt (c : Option Cfg) : pd (dOpt c) = true := by
  cases c with
  | none => rfl
  | some c => exact pd_cfg c
theorem isNone_opt (c : Option Cfg) : isNone (dOpt c) = c.isNone := by cases c <;> rfl
theorem dOpt_inj {c c' : Option Cfg} (h : dOpt c = dOpt c') : c = c' := by
  cases c with
  | none =>
    cases c' with
    | none => rfl
    | some c' => cases h
  | some c =>
    cases c' with
    | none => cases h
    | some c' => exact congrArg some (dCfg_inj h)
theorem atI_at {α : Type} {xs : List α} {i : Int} {j : Nat} {v : α} (e : i = (j : Int)) (h : xs[j]? = some v) : atI xs i = some v := by
  rw [e]
  exact atI_nat h
theorem cutD_to {ds : List PyData} {n : Nat} : cutD ds none (some (n : Int)) = ds.take n := by
  unfold cutD
  rw [HT.sIx_none, HT.sIx_nat, List.drop_zero, Nat.sub_zero]
  by_cases h : n ≤ ds.length
  · rw [Nat.min_eq_left h]
  · rw [Nat.min_eq_right (by omega), List.take_length, List.take_of_length_le (by omega)]
theorem cutD_from {ds : List PyData} {n : Nat} : cutD ds (some (n : Int)) none = ds.drop n := by
  unfold cutD
  rw [HT.sIx_none, HT.sIx_nat]
  by_cases h : n ≤ ds.length
  · rw [Nat.min_eq_left h, List.take_of_length_le (by rw [List.length_drop]; omega)]
  · rw [Nat.min_eq_right (by omega), Nat.sub_self, List.take_zero, List.drop_of_length_le (by omega)]
theorem cutD_mid {ds : List PyData} {n m : Nat} (hm : m ≤ ds.length) (hn : n ≤ m) : cutD ds (some (n : Int)) (some (m : Int)) = (ds.drop n).take (m - n) := by
  unfold cutD
  rw [HT.sIx_nat, HT.sIx_nat, Nat.min_eq_left hm, Nat.min_eq_left (by omega)]
/-! ### short words for the readings -/
section
variable {K : PySem.W.Frag} {σ : L2.St} {H : Hp} {ta tb : TE}
/-- x == 'write', two texts -/
theorem eq_write : decide (("write" : Str) = "write") = true ∧ decide (("move" : Str) = "write") = false ∧ decide (("write" : Str) = "move") = false ∧ decide (("move" : Str) = "move") = true := by decide +kernel
theorem ok_write : okD 0 (.str "write") := ok_str (by decide +kernel)
theorem ok_move : okD 0 (.str "move") := ok_str (by decide +kernel)
end
/-- a def by its place and its promise -/
theorem callee_of {P : Program} {w : World} {K : PySem.W.Frag} {mg : Str → Option Value} {base : Heap} {x qual : Str} {st : Stmt} {f : Addr} {fd : FuncData} {ps : List Str} {k : Nat} {sp : Sp} (F : FnP K x qual st f fd) (g : mg x = some (.ref f))
    (hb : ∀ (kV doc pm : Value) (an : Option Addr) (cdv ct : Value) (us : List Value), us.length = ps.length → bindArgs (PySem.W.fnOf x qual (defArgs st) (defBody st) (defScope st) .none kV doc pm an cdv ct) ⟨us, []⟩ = pure (ps.zip us))
    (h : FnOk P w K mg base CX0 k f fd ps sp) : Callee P w K mg base k x ps sp := ⟨f, fd, g, F.kp, FunD.bindsN F hb, h⟩
theorem calleeM_of {P : Program} {w : World} {K : PySem.W.Frag} {mg : Str → Option Value} {base : Heap} {x qual : Str} {st : Stmt} {C f : Addr} {fd : FuncData} {ps : List Str} {k : Nat} {sp : Sp} (F : FnP K x qual st f fd) (c : Cls K C) (g : Meth K C x f)
    (hb : ∀ (kV doc pm : Value) (an : Option Addr) (cdv ct : Value) (us : List Value), us.length = ps.length → bindArgs (PySem.W.fnOf x qual (defArgs st) (defBody st) (defScope st) .none kV doc pm an cdv ct) ⟨us, []⟩ = pure (ps.zip us))
    (h : FnOk P w K mg base CX0 k f fd ps sp) : CalleeM P w K mg base k C x ps sp := ⟨f, fd, c, g, FunD.bindsN F hb, h⟩
theorem calleeI_of {P : Program} {w : World} {K : PySem.W.Frag} {mg : Str → Option Value} {base : Heap} {x qual : Str} {st : Stmt} {C f : Addr} {fd : FuncData} {ps : List Str} {k : Nat} {sp : Sp} (F : FnP K "__init__" qual st f fd) (c : Mk K C f) (g : mg x = some (.ref C))
    (hb : ∀ (kV doc pm : Value) (an : Option Addr) (cdv ct : Value) (us : List Value), us.length = ps.length → bindArgs (PySem.W.fnOf "__init__" qual (defArgs st) (defBody st) (defScope st) .none kV doc pm an cdv ct) ⟨us, []⟩ = pure (ps.zip us))
    (h : FnOk P w K mg base CX0 k f fd ps sp) : CalleeI P w K mg base k x C ps sp := ⟨f, fd, g, c, FunD.bindsN F hb, h⟩
end Bk

set_option Elab.async false
set_option linter.all false
set_option maxRecDepth 100000
set_option maxHeartbeats 4000000
set_option autoImplicit false
/-! More readings by kinds: small tuples, zip of two tuples in a comprehension. -/
namespace Bk
open PySem PySem.Spec PyProof.Rows L2 Evl
section
variable {b b' b1 b2 : Bool} {K : PySem.W.Frag} {σ : L2.St} {H H' : Hp} {ta tb tc td te : TE} {ks : List (Option Kd)}
theorem evi_tup1 {d1 : PyData} (h1 : EvI K ta σ H (.d b d1)) : EvI K (tTup (tCons ta tNil)) σ H (.d b (.tuple [d1])) := evi_tup (ds := [d1]) (evia_cons h1 evia_nil) (by show 1 ≤ 100000; decide)
theorem evi_tup2 {d1 d2 : PyData} (h1 : EvI K ta σ H (.d b d1)) (h2 : EvI K tb σ H (.d b d2)) : EvI K (tTup (tCons ta (tCons tb tNil))) σ H (.d b (.tuple [d1, d2])) := evi_tup (ds := [d1, d2]) (evia_cons h1 (evia_cons h2 evia_nil)) (by show 2 ≤ 100000; decide)
theorem evi_tup3 {d1 d2 d3 : PyData} (h1 : EvI K ta σ H (.d b d1)) (h2 : EvI K tb σ H (.d b d2)) (h3 : EvI K tc σ H (.d b d3)) : EvI K (tTup (tCons ta (tCons tb (tCons tc tNil)))) σ H (.d b (.tuple [d1, d2, d3])) :=
  evi_tup (ds := [d1, d2, d3]) (evia_cons h1 (evia_cons h2 (evia_cons h3 evia_nil))) (by show 3 ≤ 100000; decide)
theorem evi_tri {i j l : Int} {c1 c2 c3 : Bool} (h1 : EvI K ta σ H (.d c1 (.int i))) (h2 : EvI K tb σ H (.d c2 (.int j))) (h3 : EvI K tc σ H (.d c3 (.int l))) : EvI K (tTup (tCons ta (tCons tb (tCons tc tNil)))) σ H (.d b (dTri (i, j, l))) := evi_tup3 h1.strong h2.strong h3.strong
theorem evi_list1 {d1 : PyData} (h1 : EvI K ta σ H (.d b d1)) : EvI K (tLst (tCons ta tNil)) σ H (.l b [d1]) := evi_lst (ds := [d1]) (evia_cons h1 evia_nil) (by show 1 ≤ 100000; decide)
theorem evi_list0 : EvI K (tLst tNil) σ H (.l b []) := evi_lst (ds := []) evia_nil (Nat.zero_le _)
/-- an item at a written place -/
theorem evi_at {n : Nat} {ds : List PyData} {d : PyData} (ha : EvI K ta σ H (.d b (.tuple ds))) (h : ds[n]? = some d) : EvI K (tOp (rIx K) ta (tC (.int (n : Int)))) σ H (.d b d) := evi_ix ha.dq (evi_int (b := true)) (atI_nat h)
theorem ev2 {t : TA} {k1 k2 : Kd} (h : EvIA K t σ H [k1, k2]) : ∀ H1, Ex H H1 → ∀ Q : List V → Hp → Prop, (∀ v w H2, Ex H1 H2 → Is K H2 v k1 → Is K H2 w k2 → Q [v, w] H2) → t σ H1 Q := fun H1 e Q q => h H1 e _ fun vs H2 x y => by
  cases y with
  | cons y1 y =>
    cases y with
    | cons y2 y =>
      cases y
      exact q _ _ H2 x y1 y2
theorem En.wipe2 (E : En K H σ ks) (i j : Nat) : En K H (wipe σ [i, j]) ((ks.set j none).set i none) := by
  have h1 := E.wipe1 j
  exact (h1.wipe1 i)
theorem zip_take {e : PyData → PyData → PyData} : ∀ {ds es : List PyData} {i : Nat} {d1 d2 : PyData}, ds[i]? = some d1 → es[i]? = some d2 → (List.zipWith e ds es).take (i + 1) = (List.zipWith e ds es).take i ++ [e d1 d2] := by
  intro ds es i d1 d2 h1 h2
  rw [List.take_add_one]
  congr 1
  rw [List.getElem?_zipWith, h1, h2]
  rfl
theorem evt_isi_not {ds : List PyData} (h : EvI K te σ H (.d b (.tuple ds))) : EvT (tNot (tB (tCB (rIsi K) (tCons te (tCons (tC (.ty "tuple")) tNil))))) σ H false := et_not (a := true) (evt_B (evi_isiT (r := true) (by decide +kernel) h))
/-- [te for x, y in zip(t, u)], t and u tuples of one length -/
theorem evi_lcZ {j1 j2 : Nat} {ds es : List PyData} {t : TA} (e : PyData → PyData → PyData) (hl : ds.length = es.length) (E : En K H σ ks) (hj : j1 ≠ j2) (h : EvIA K t σ H [.d b1 (.tuple ds), .d b2 (.tuple es)]) (hz : ds.length ≤ 40000)
    (hb : ∀ (i : Nat) d1 d2 σ2 H2, ds[i]? = some d1 → es[i]? = some d2 → Ex H H2 → En K H2 σ2 ((ks.set j1 (some (.d b1 d1))).set j2 (some (.d b2 d2))) → EvI K te σ2 H2 (.d b (e d1 d2))) :
    EvI K (tLc (RZ.iZipA K t) (gTup K 2 (gNames [j1, j2])) tYes te [j1, j2]) σ H (.l b (List.zipWith e ds es)) := fun H0 e0 Q q =>
  ev2 h H0 e0 _ fun v w H1 e1 hv hw => by
    obtain ⟨p, xs, rfl, t1, a1⟩ := Rp.tup_eq hv
    obtain ⟨p2, ys, rfl, t2, a2⟩ := Rp.tup_eq hw
    refine ⟨p, p2, xs, ys, rfl, .inr ⟨t1.sq, t2.sq, fun Dl hD => ?_⟩⟩
    refine ⟨fun i m H' => m = ds.length - i ∧ i ≤ ds.length ∧ Cq b K H1 Dl ((List.zipWith e ds es).take i) H', ⟨ds.length, rfl, Nat.zero_le _, hD, Ex.new hD, [], upd_same, .nil⟩, ?_⟩
    rintro i m H2 ⟨rfl, hi, c⟩
    have x1 := ex_t c.2.1 t1.sq
    have x2 := ex_t c.2.1 t2.sq
    by_cases hlt : i < ds.length
    · obtain ⟨d1, hd1⟩ : ∃ d1, ds[i]? = some d1 := ⟨_, List.getElem?_eq_getElem hlt⟩
      obtain ⟨d2, hd2⟩ : ∃ d2, es[i]? = some d2 := ⟨_, List.getElem?_eq_getElem (by omega)⟩
      obtain ⟨u1, hu1, r1⟩ := a1.get hd1
      obtain ⟨u2, hu2, r2⟩ := a2.get hd2
      refine .inr ⟨⟨xs, ys, u1, u2, x1, x2, hu1, hu2⟩, fun H' => Cq b K H1 Dl ((List.zipWith e ds es).take (i + 1)) H', fun H' p' => ⟨ds.length - (i + 1), by omega, rfl, hlt, p'⟩, ?_⟩
      rintro vv H3 ⟨Tp, z1, z2, rfl, hT, rfl, g1, g2⟩
      have ez1 : z1 = u1 := by have := g1 xs x1; rw [hu1] at this; exact (Option.some.inj this).symm
      have ez2 : z2 = u2 := by have := g2 ys x2; rw [hu2] at this; exact (Option.some.inj this).symm
      subst ez1 ez2
      have ex3 : Ex H2 (upd H2 Tp (.tup [z1, z2])) := Ex.new hT
      have ex : Ex H (upd H2 Tp (.tup [z1, z2])) := ((e0.trans e1).trans c.2.1).trans ex3
      have E2 := (((E.ex ex).wipe2 j1 j2).set j1 (show Is K _ z1 (.d b1 d1) from Rp.tx (Tx.of (c.2.1.trans ex3)) r1)).set j2 (show Is K _ z2 (.d b2 d2) from Rp.tx (Tx.of (c.2.1.trans ex3)) r2)
      have ek : ((((ks.set j2 none).set j1 none).set j1 (some (.d b1 d1))).set j2 (some (.d b2 d2)) : List (Option Kd)) = (ks.set j1 (some (.d b1 d1))).set j2 (some (.d b2 d2)) := by
        rw [set_set, List.set_comm _ _ hj, set_set, List.set_comm _ _ hj.symm]
      rw [ek] at E2
      have c3 : Cq b K H1 Dl ((List.zipWith e ds es).take i) (upd H2 Tp (.tup [z1, z2])) := by
        obtain ⟨c1, c2, zs, c3, c4⟩ := c
        exact ⟨c1, c2.trans ex3, zs, ex3 _ _ c3, c4.tx (Tx.of ex3)⟩
      refine ⟨Tp, [z1, z2], rfl, st_of upd_same, rfl, z1, [z2], rfl, z2, [], rfl, rfl, ?_⟩
      refine ⟨?_, cq_turn c3 ?_ evt_yes (fun _ => hb i d1 d2 _ _ hd1 hd2 ex E2) _ fun H4 c4 => ?_⟩
      · show (((((σ.set j2 none).set j1 none).set j1 (some z1)).set j2 (some z2)).set j2 none).set j1 none = (σ.set j2 none).set j1 none
        rw [set_set, set_set, List.set_comm _ _ hj.symm, set_set, List.set_comm _ _ hj, set_set]
      · rw [List.length_take]
        omega
      · show Cq b K H1 Dl ((List.zipWith e ds es).take (i + 1)) H4
        rw [zip_take hd1 hd2]
        exact c4
    · have ei : i = ds.length := by omega
      refine .inl ⟨⟨xs, ys, x1, x2, .inl (by rw [a1.len]; omega)⟩, ?_⟩
      rw [List.take_of_length_le (by rw [List.length_zipWith]; omega)] at c
      obtain ⟨c1, c2, zs, c3, c4⟩ := c
      exact q _ H2 (e1.trans c2) ⟨Dl, zs, rfl, c3, c4⟩
end
end Bk

set_option Elab.async false
set_option linter.all false
set_option maxRecDepth 100000
set_option maxHeartbeats 4000000
set_option autoImplicit false
namespace Bk
open PySem PySem.Spec PyProof.Rows L2 Evl
section
variable {P : Program} {w : World} {K : PySem.W.Frag} {mg : Str → Option Value} {base : Heap}
theorem sc_trimmed : FnScope ["marks", "count"] ["marks"] (defScope s_trimmed) := ⟨rfl, rfl, rfl, by decide +kernel, rfl, by decide +kernel, by decide +kernel⟩
theorem c_trimmed (T : Txt K mg) : Callee P w K mg base 1 "trimmed" ["marks"] (spF K (fun ns : List Int => [.q false (ns.map .int)]) (fun ns _ => ns.length ≤ 1000) fun ns => .d false (dInts (trim ns))) := by
  obtain ⟨fd, F⟩ := T.f_trimmed
  refine callee_of F T.g_trimmed (fun _ _ _ _ _ _ us hl => match us, hl with | [_], _ => rfl) (F.ok sc_trimmed (fun _ => rfl) fun cdv A outer s H Q E ns hr hp => ⟨_, (pss_cons (ps_set (i := 1) sc_trimmed.nd rfl (Or.inl rfl) (pe_callB call_len_seq (by rfl) T.z_len PySem.boot_len (pa_cons (pv 0) pa_nil)))
      (pss_cons (ps_while PassesOwn.never (PW.pt (pw_and (pt_cmpR op_gt (pv 1) pe_int (nomark _)) (pw_and1 (pt_cmpR (op_eqD hr.units) (pe_ix ix_seq (pv 0) (pe_op op_sub (pv 1) pe_int) (fun _ _ => rfl)) pe_int (nomark _))))) (pss_one (ps_aug (i := 1) sc_trimmed.nd rfl (Or.inl rfl) pe_int ip_sub)))
      (pss_one (ps_ret (pe_callTy call_tuple_of (by rfl) T.z_tuple (by decide +kernel) (pa_cons (pe_slice (SlR.or sl_list sl_tupA) (pv 0) po_none (po_some (pv 1))) pa_nil)))))), fun σ En0 nx => ?_⟩)
  have En0 : En K H σ [some (.q false (ns.map .int)), none] := En0
  refine q_setI En0 (evi_len (evi_var En0 rfl)) fun σ1 H1 e1 En1 => ?_
  rw [List.length_map] at En1
  refine q_whileI En1 (fun m ks => ks = [some (.q false (ns.map .int)), some (dI (m : Int))] ∧ m ≤ ns.length ∧ trim (ns.take m) = trim ns) ns.length ⟨rfl, Nat.le_refl _, by rw [List.take_length]⟩ fun m ks σ2 H2 ⟨ek, hm, ht⟩ e2 En2 => ?_
  subst ek
  cases m with
  | zero =>
    refine ⟨false, et_is (et_and (evt_of (evi_cmp (evi_var En2 rfl) (evi_int (b := true)))) (b := false) fun h => absurd (of_decide_eq_true h) (by decide)) rfl, fun h => (by cases h), fun _ H3 e3 En3 => ?_⟩
    · refine s_retI (evi_tupQ (evi_slQ (evi_var En3 rfl) evo_none (evo_some (evi_var En3 rfl)))) fun v H4 e4 y => nx v H4 ((e1.trans e3).trans e4) ?_
      rw [cutD_to, ← List.map_take] at y
      rw [← ht]
      exact y
  | succ m =>
    obtain ⟨x, hx⟩ : ∃ x, ns[m]? = some x := ⟨ns[m], List.getElem?_eq_getElem (by omega)⟩
    have hx2 : (ns.map PyData.int)[m]? = some (.int x) := by rw [List.getElem?_map, hx]; rfl
    refine ⟨decide (x = 0), et_is (et_and (evt_of (evi_cmp (evi_var En2 rfl) (evi_int (b := true)))) fun _ => evt_of (evi_eq (evi_ix (evi_var En2 rfl) (evi_op0 (evi_var En2 rfl) (evi_int (b := true))) (atI_at (j := m) (by omega) hx2)) (evi_int (b := true)) (ok_int _).sh (ok_int _).sh)) ?_, fun h H3 e3 En3 => ?_, fun h H3 e3 En3 => ?_⟩
    · rw [eqv_int, decide_eq_true (show (0 : Int) < ((m + 1 : Nat) : Int) by omega), Bool.true_and]
    · have x0 := of_decide_eq_true h
      subst x0
      refine s_augI En3 rfl (evi_int (b := true)) fun σ4 H4 e4 En4 => ⟨m, Nat.lt_succ_self m, e3.trans e4, _, ⟨rfl, by omega, trim_take hx ht⟩, ?_⟩
      have e : ((m + 1 : Nat) : Int) - 1 = (m : Int) := by omega
      rw [e] at En4
      exact En4
    · refine s_retI (evi_tupQ (evi_slQ (evi_var En3 rfl) evo_none (evo_some (evi_var En3 rfl)))) fun v H4 e4 y => nx v H4 ((e1.trans e3).trans e4) ?_
      rw [cutD_to, ← List.map_take] at y
      rw [trim_done (of_decide_eq_false h) hx ht] at y
      exact y
end
end Bk

set_option Elab.async false
set_option linter.all false
set_option maxRecDepth 100000
set_option maxHeartbeats 4000000
set_option autoImplicit false
namespace Bk
open PySem PySem.Spec PyProof.Rows L2 Evl
section
variable {P : Program} {w : World} {K : PySem.W.Frag} {mg : Str → Option Value} {base : Heap}
theorem sc_is_number : FnScope ["value", "least", "most"] ["value", "least", "most"] (defScope s_is_number) := ⟨rfl, rfl, rfl, by decide +kernel, rfl, by decide +kernel, by decide +kernel⟩
def inR (a b i : Int) : Bool := decide (a ≤ i) && decide (i ≤ b)
theorem c_is_number (T : Txt K mg) : Callee P w K mg base 1 "is_number" ["value", "least", "most"] (spF K (fun p : Int × Int × Int => [dI p.1, dI p.2.1, dI p.2.2]) (fun _ _ => True) fun p => dB (inR p.2.1 p.2.2 p.1)) := by
  obtain ⟨fd, F⟩ := T.f_is_number
  refine callee_of F T.g_is_number (fun _ _ _ _ _ _ us hl => match us, hl with | [_, _, _], _ => rfl) (F.ok sc_is_number (fun _ => rfl) fun cdv A outer s H Q E p hr hp => ⟨_, (pss_one (ps_ret (pe_and (pe_callB call_isi (by rfl) T.z_isinstance (by decide +kernel) (pa_cons (pv 0) (pa_cons (pe_bltn (v := .ty "int") (by rfl) T.z_int (by decide +kernel) rfl) pa_nil))) (pe_and (pe_not (pe_callB call_isi (by rfl) T.z_isinstance (by decide +kernel) (pa_cons (pv 0) (pa_cons (pe_bltn (v := .ty "bool") (by rfl) T.z_bool (by decide +kernel) rfl) pa_nil)))) (pe_one (pe_chain op_le op_le (pv 1) (pv 0) (pv 2))))))), fun σ En0 nx => ?_⟩)
  obtain ⟨i, a, b⟩ := p
  have En0 : En K H σ [some (dI i), some (dI a), some (dI b)] := En0
  exact s_retI ((evi_and (evi_isiI (r := true) (by decide +kernel) (evi_var En0 rfl)) fun _ => evi_and (evi_not (evi_isiI (r := false) (by decide +kernel) (evi_var En0 rfl))) fun _ => evi_chain (evi_var En0 rfl) (evi_var En0 rfl) (evi_var En0 rfl))) nx
theorem sc_is_tuple : FnScope ["value", "count", "least", "most", "one"] ["value", "count", "least", "most"] (defScope s_is_tuple) := ⟨rfl, rfl, rfl, by decide +kernel, rfl, by decide +kernel, by decide +kernel⟩
def rngD (a b : Int) : PyData → PyData
  | .int i => .bool (inR a b i)
  | _ => .none
theorem rngD_map (a b : Int) (ns : List Int) : (ns.map PyData.int).map (rngD a b) = (ns.map (inR a b)).map PyData.bool := by
  rw [List.map_map, List.map_map]
  rfl
theorem all_id {α : Type} (f : α → Bool) (l : List α) : (l.map f).all id = l.all f := by
  rw [List.all_map]
  rfl
theorem c_is_tuple (T : Txt K mg) : Callee P w K mg base 2 "is_tuple" ["value", "count", "least", "most"] (spF K (fun p : List Int × Int × Int × Int => [.d false (dInts p.1), dI p.2.1, dI p.2.2.1, dI p.2.2.2]) (fun p _ => p.1.length ≤ 1000) fun p => dB (decide ((p.1.length : Int) = p.2.1) && p.1.all (inR p.2.2.1 p.2.2.2))) := by
  obtain ⟨fd, F⟩ := T.f_is_tuple
  refine callee_of F T.g_is_tuple (fun _ _ _ _ _ _ us hl => match us, hl with | [_, _, _, _], _ => rfl) (F.ok sc_is_tuple (fun _ => rfl) fun cdv A outer s H Q E p hr hp => ⟨_, (pss_one (ps_ret (pe_and (pe_callB call_isi (by rfl) T.z_isinstance (by decide +kernel) (pa_cons (pv 0) (pa_cons (pe_bltn (v := .ty "tuple") (by rfl) T.z_tuple (by decide +kernel) rfl) pa_nil))) (pe_and (pe_cmpR (op_eqD hr.units) (pe_callB call_len_seq (by rfl) T.z_len PySem.boot_len (pa_cons (pv 0) pa_nil)) (pv 1) (nomark _)) (pe_one (pe_callB (cr_all rfl) (by rfl) T.z_all (by decide +kernel) (pa_cons (pe_lc (own := [("one", 4)]) (te := (tCall _ [] E0 (tCons (tVar 4) (tCons (tVar 2) (tCons (tVar 3) tNil))))) (tt := tYes) rfl sc_is_tuple.nd (pi_tup (pv 0)) (blkOk_by (N := ["value", "count", "least", "most", "one"]) (sc := defScope s_is_tuple) (by decide +kernel)) (fun _ _ _ _ _ => (pg_name (i := 4) sc_is_tuple.nd rfl (Or.inl rfl))) (fun _ _ _ _ _ => pts_nil) (fun _ _ _ _ _ => (pe_C (c_is_number T) hr (by decide) (by rfl) (pa_cons (pv 4) (pa_cons (pv 2) (pa_cons (pv 3) pa_nil)))))) pa_nil))))))), fun σ En0 nx => ?_⟩)
  obtain ⟨ns, n, a, b⟩ := p
  have En0 : En K H σ [some (.d false (dInts ns)), some (dI n), some (dI a), some (dI b), none] := En0
  have hl : (ns.map PyData.int).length = ns.length := List.length_map ..
  refine s_retI (k := dB (true && (PyData.eqv (.int ((ns.map PyData.int).length : Int)) (.int n) && (ns.map (inR a b)).all id))) (evi_and (evi_isiT (r := true) (by decide +kernel) (evi_var En0 rfl)) fun _ => evi_and (evi_eq (evi_len (EvI.dq (evi_var En0 rfl))) (evi_var En0 rfl) (ok_int _).sh (ok_int _).sh) fun _ =>
    evi_all (b := true) (EvI.eq (evi_lcT1 (rngD a b) En0 (evi_var En0 rfl) (by rw [hl]; exact Nat.le_trans hp (by decide)) fun d σ2 H2 hd e2 En2 => ?_) (by rw [rngD_map]))) fun v H' e y => nx v H' e ?_
  · obtain ⟨i, hi, ed⟩ := List.mem_map.mp hd
    subst ed
    exact evi_call (i, a, b) (evia_cons (EvI.strong (evi_var En2 rfl)) (evia_cons (evi_var En2 rfl) (evia_cons (evi_var En2 rfl) evia_nil))) fun _ _ => trivial
  · rw [eqv_int, all_id, Bool.true_and, hl] at y
    exact y
theorem sc_backward : FnScope ["row", "move"] ["row"] (defScope s_backward) := ⟨rfl, rfl, rfl, by decide +kernel, rfl, by decide +kernel, by decide +kernel⟩
theorem c_backward (T : Txt K mg) : Callee P w K mg base 1 "backward" ["row"] (spF K (fun r : Row => [.d true (dRow r)]) (fun _ _ => True) fun r => .d true (dRow r.bwd)) := by
  obtain ⟨fd, F⟩ := T.f_backward
  refine callee_of F T.g_backward (fun _ _ _ _ _ _ us hl => match us, hl with | [_], _ => rfl) (F.ok sc_backward (fun _ => rfl) fun cdv A outer s H Q E r hr hp => ⟨_, (pss_cons (ps_if (pt_cmpR (op_eqD hr.units) (pe_ix ix_seq (pv 0) pe_int (fun _ _ => rfl)) pe_str (nomark _)) (pss_one (ps_ret (pe_tup (pa_cons pe_str (pa_cons (pe_ix ix_seq (pv 0) pe_int (fun _ _ => rfl)) (pa_cons (pe_ix ix_seq (pv 0) pe_int (fun _ _ => rfl)) (pa_cons (pe_ix ix_seq (pv 0) pe_int (fun _ _ => rfl)) (pa_cons (pe_ix ix_seq (pv 0) pe_int (fun _ _ => rfl)) pa_nil)))))))) pss_nil)
      (pss_one (ps_ret (pe_tup (pa_cons pe_str (pa_cons (pe_ix ix_seq (pv 0) pe_int (fun _ _ => rfl)) (pa_cons (pe_callTy call_tuple_of (by rfl) T.z_tuple (by decide +kernel) (pa_cons (pe_lc (own := [("move", 1)]) (te := (tUn _ (tVar 1))) (tt := tYes) rfl sc_backward.nd (pi_tup (pe_ix ix_seq (pv 0) pe_int (fun _ _ => rfl))) (blkOk_by (N := ["row", "move"]) (sc := defScope s_backward) (by decide +kernel)) (fun _ _ _ _ _ => (pg_name (i := 1) sc_backward.nd rfl (Or.inl rfl))) (fun _ _ _ _ _ => pts_nil) (fun _ _ _ _ _ => (pe_un un_neg (pv 1)))) pa_nil)) (pa_cons (pe_ix ix_seq (pv 0) pe_int (fun _ _ => rfl)) pa_nil)))))))), fun σ En0 nx => ?_⟩)
  have En0 : En K H σ [some (.d true (dRow r)), none] := En0
  cases r with
  | wr q a b t =>
    have En0 : En K H σ [some (.d true (.tuple [.str "write", .int q, dInts [a], dInts [b], .int t])), none] := En0
    refine q_whenI En0 (et_is (evt_of (evi_eq (evi_at (n := 0) (evi_var En0 rfl) rfl) (evi_str (b := true)) ok_write.sh ok_write.sh)) (b := true) (eqv_self rfl)) (fun _ H1 e1 En1 => ?_) fun h => by cases h
    refine s_retI (evi_tup (b := true) (ds := [.str "write", .int t, dInts [b], dInts [a], .int q]) (evia_cons evi_str (evia_cons (evi_at (n := 4) (evi_var En1 rfl) rfl) (evia_cons (evi_at (n := 3) (evi_var En1 rfl) rfl) (evia_cons (evi_at (n := 2) (evi_var En1 rfl) rfl) (evia_cons (evi_at (n := 1) (evi_var En1 rfl) rfl) evia_nil))))) (by show 5 ≤ 100000; decide)) fun v H' e y => nx v H' (e1.trans e) y
  | mv q d t =>
    have En0 : En K H σ [some (.d true (.tuple [.str "move", .int q, dInts [d], .int t])), none] := En0
    refine q_whenI En0 (et_is (evt_of (evi_eq (evi_at (n := 0) (evi_var En0 rfl) rfl) (evi_str (b := true)) ok_move.sh ok_write.sh)) (b := false) (by rw [eqv_str]; exact eq_write.2.2.1.symm ▸ (by decide +kernel))) (fun h => by cases h) fun _ H1 e1 En1 => ?_
    refine s_retI (evi_tup (b := true) (ds := [.str "move", .int t, dInts [-d], .int q]) (evia_cons evi_str (evia_cons (evi_at (n := 3) (evi_var En1 rfl) rfl) (evia_cons (evi_tupL (EvI.eq (evi_lcT1 (fun x => match x with | .int i => PyData.int (-i) | _ => .none) En1 (evi_at (n := 2) (evi_var En1 rfl) rfl) (by show 1 ≤ 40000; decide) fun x σ2 H2 hx e2 En2 => ?_) rfl)) (evia_cons (evi_at (n := 1) (evi_var En1 rfl) rfl) evia_nil)))) (by show 4 ≤ 100000; decide)) fun v H' e y => nx v H' (e1.trans e) y
    have ex : x = .int d := List.mem_singleton.mp hx
    subst ex
    exact evi_neg (evi_var En2 rfl)
end
end Bk

set_option Elab.async false
set_option linter.all false
set_option maxRecDepth 100000
set_option maxHeartbeats 4000000
set_option autoImplicit false
namespace Bk
open PySem PySem.Spec PyProof.Rows L2 Evl
section
variable {P : Program} {w : World} {K : PySem.W.Frag} {mg : Str → Option Value} {base : Heap}
theorem sc_head_letter : FnScope ["marks", "state", "mark"] ["marks", "state", "mark"] (defScope s_head_letter) := ⟨rfl, rfl, rfl, by decide +kernel, rfl, by decide +kernel, by decide +kernel⟩
theorem c_head_letter (T : Txt K mg) : Callee P w K mg base 1 "head_letter" ["marks", "state", "mark"] (spF K (fun p : Int × Int × Int => [dI p.1, dI p.2.1, dI p.2.2]) (fun p _ => 0 ≤ p.1 ∧ p.1 ≤ 4) fun p => dI (hl p.1 p.2.1 p.2.2)) := by
  obtain ⟨fd, F⟩ := T.f_head_letter
  refine callee_of F T.g_head_letter (fun _ _ _ _ _ _ us hl => match us, hl with | [_, _, _], _ => rfl) (F.ok sc_head_letter (fun _ => rfl) fun cdv A outer s H Q E p hr hp => ⟨_, (pss_one (ps_ret (pe_op op_add (pe_op op_mul (pv 0) (pe_op op_add (pv 1) pe_int)) (pv 2)))), fun σ En0 nx => ?_⟩)
  obtain ⟨m, q, a⟩ := p
  have En0 : En K H σ [some (dI m), some (dI q), some (dI a)] := En0
  exact s_retI (evi_op0 (evi_op (evi_var En0 rfl) (evi_op0 (evi_var En0 rfl) (evi_int (b := true))) (.inl (by obtain ⟨h1, h2⟩ := hp; constructor <;> omega))) (evi_var En0 rfl)) nx
theorem sc_line_of : FnScope ["marks", "state", "tape", "left", "mark", "right", "cells", "one"] ["marks", "state", "tape"] (defScope s_line_of) := ⟨rfl, rfl, rfl, by decide +kernel, rfl, by decide +kernel, by decide +kernel⟩
def cellD : PyData → PyData
  | .int i => dTri (0, i, 0)
  | _ => .none
theorem cellD_map (l : List Int) : (l.map PyData.int).map cellD = (Z l).map dTri := by
  unfold Z
  rw [List.map_map, List.map_map]
  rfl
theorem c_line_of (T : Txt K mg) : Callee P w K mg base 2 "line_of" ["marks", "state", "tape"] (spF K (fun p : Int × Cfg => [dI p.1, dI p.2.q, .d false (dTape p.2.l p.2.a p.2.r)]) (fun p _ => (0 ≤ p.1 ∧ p.1 ≤ 4) ∧ p.2.size ≤ 1000) fun p => .d false (dLine (down p.1 p.2))) := by
  obtain ⟨fd, F⟩ := T.f_line_of
  refine callee_of F T.g_line_of (fun _ _ _ _ _ _ us hl => match us, hl with | [_, _, _], _ => rfl) (F.ok sc_line_of (fun _ => rfl) fun cdv A outer s H Q E p hr hp => ⟨_, (pss_cons (ps_asg (pv 2) (pg_tup (by rfl) (pgs_cons (pg_name (i := 3) sc_line_of.nd rfl (Or.inl rfl)) (pgs_cons (pg_name (i := 4) sc_line_of.nd rfl (Or.inl rfl)) (pgs_cons (pg_name (i := 5) sc_line_of.nd rfl (Or.inl rfl)) pgs_nil)))))
      (pss_cons (ps_set (i := 6) sc_line_of.nd rfl (Or.inl rfl) (pe_op op_cat (pe_lc (own := [("one", 7)]) (te := (tTup (tCons (tC _) (tCons (tVar 7) (tCons (tC _) tNil))))) (tt := tYes) rfl sc_line_of.nd (pi_tup (pe_revT (pv 3))) (blkOk_by (N := ["marks", "state", "tape", "left", "mark", "right", "cells", "one"]) (sc := defScope s_line_of) (by decide +kernel)) (fun _ _ _ _ _ => (pg_name (i := 7) sc_line_of.nd rfl (Or.inl rfl))) (fun _ _ _ _ _ => pts_nil) (fun _ _ _ _ _ => (pe_tup (pa_cons pe_int (pa_cons (pv 7) (pa_cons pe_int pa_nil)))))) (pe_lst (pa_cons (pe_tup (pa_cons pe_int (pa_cons (pe_C (c_head_letter T) hr (by decide) (by rfl) (pa_cons (pv 0) (pa_cons (pv 1) (pa_cons (pv 4) pa_nil)))) (pa_cons pe_int pa_nil)))) pa_nil))))
      (pss_one (ps_ret (pe_callTy call_tuple_of (by rfl) T.z_tuple (by decide +kernel) (pa_cons (pe_op op_cat (pv 6) (pe_lc (own := [("one", 7)]) (te := (tTup (tCons (tC _) (tCons (tVar 7) (tCons (tC _) tNil))))) (tt := tYes) rfl sc_line_of.nd (pi_tup (pv 5)) (blkOk_by (N := ["marks", "state", "tape", "left", "mark", "right", "cells", "one"]) (sc := defScope s_line_of) (by decide +kernel)) (fun _ _ _ _ _ => (pg_name (i := 7) sc_line_of.nd rfl (Or.inl rfl))) (fun _ _ _ _ _ => pts_nil) (fun _ _ _ _ _ => (pe_tup (pa_cons pe_int (pa_cons (pv 7) (pa_cons pe_int pa_nil))))))) pa_nil)))))), fun σ En0 nx => ?_⟩)
  obtain ⟨m, q, l, a, r⟩ := p
  obtain ⟨hm, hz⟩ := hp
  unfold Cfg.size at hz
  simp only at hm hz
  have En0 : En K H σ [some (dI m), some (dI q), some (.d false (.tuple [dInts l, .int a, dInts r])), none, none, none, none, none] := En0
  refine q_tupI (is := [3, 4, 5]) En0 (evi_var En0 rfl) rfl rfl fun σ1 H1 e1 En1 => ?_
  have En1 : En K H1 σ1 [some (dI m), some (dI q), some (.d false (.tuple [dInts l, .int a, dInts r])), some (.d false (dInts l)), some (.d false (.int a)), some (.d false (dInts r)), none, none] := En1
  have ll : (l.map PyData.int).reverse.length ≤ 40000 := by rw [List.length_reverse, List.length_map]; omega
  have lr : (r.map PyData.int).length ≤ 40000 := by rw [List.length_map]; omega
  refine q_setI (k := .l false ((Z l.reverse).map dTri ++ [dTri (0, hl m q a, 0)])) En1 (evi_catL (EvI.eq (evi_lcT1 (b := false) cellD En1 (evi_revT (evi_var En1 rfl)) ll fun x σ2 H2 hx e2 En2 => ?_) (by rw [← List.map_reverse, cellD_map]))
    (evi_list1 (evi_tri (evi_int (b := true)) (evi_call (m, q, a) (evia_cons (evi_var En1 rfl) (evia_cons (evi_var En1 rfl) (evia_cons (EvI.strong (evi_var En1 rfl)) evia_nil))) fun _ _ => hm) (evi_int (b := true)))) ?_) fun σ3 H3 e3 En3 => ?_
  · rw [← List.map_reverse] at hx
    obtain ⟨i, hi, ed⟩ := List.mem_map.mp hx
    subst ed
    exact evi_tri (evi_int (b := true)) (evi_var En2 rfl) (evi_int (b := true))
  · rw [List.length_map, Z_len, List.length_reverse, List.length_singleton]
    omega
  · refine s_retI (evi_tupL (b := false) (evi_catL (evi_var En3 rfl) (EvI.eq (evi_lcT1 (b := false) cellD En3 (evi_var En3 rfl) lr fun x σ2 H2 hx e2 En2 => ?_) (by rw [cellD_map])) ?_)) fun v H' e y => nx v H' ((e1.trans e3).trans e) ?_
    · obtain ⟨i, hi, ed⟩ := List.mem_map.mp hx
      subst ed
      exact evi_tri (evi_int (b := true)) (evi_var En2 rfl) (evi_int (b := true))
    · rw [List.length_append, List.length_map, List.length_map, Z_len, Z_len, List.length_reverse, List.length_singleton]
      omega
    · show Is K H' v (.d false (.tuple ((Z l.reverse ++ (0, hl m q a, 0) :: Z r).map dTri)))
      rw [List.map_append, List.map_cons]
      rw [List.append_assoc] at y
      exact y
theorem sc_is_triple : FnScope ["value", "bounds", "one", "bound"] ["value", "bounds"] (defScope s_is_triple) := ⟨rfl, rfl, rfl, by decide +kernel, rfl, by decide +kernel, by decide +kernel⟩
def pairR : PyData → PyData → PyData
  | .int i, .int j => .bool (inR 0 (j - 1) i)
  | _, _ => .none
def inT (t bd : Tri) : Bool := inR 0 (bd.1 - 1) t.1 && (inR 0 (bd.2.1 - 1) t.2.1 && inR 0 (bd.2.2 - 1) t.2.2)
theorem c_is_triple (T : Txt K mg) : Callee P w K mg base 2 "_is_triple" ["value", "bounds"] (spF K (fun p : Tri × Tri => [.d false (dTri p.1), .d false (dTri p.2)]) (fun _ _ => True) fun p => dB (inT p.1 p.2)) := by
  obtain ⟨fd, F⟩ := T.f_is_triple
  refine callee_of F T.g_is_triple (fun _ _ _ _ _ _ us hl => match us, hl with | [_, _], _ => rfl) (F.ok sc_is_triple (fun _ => rfl) fun cdv A outer s H Q E p hr hp => ⟨_, (pss_cons (ps_if (PW.pt (pw_or (pt_not (pt_val (pe_callB call_isi (by rfl) T.z_isinstance (by decide +kernel) (pa_cons (pv 0) (pa_cons (pe_bltn (v := .ty "tuple") (by rfl) T.z_tuple (by decide +kernel) rfl) pa_nil))))) (pw_or1 (pt_cmpR (op_neD hr.units) (pe_callB call_len_seq (by rfl) T.z_len PySem.boot_len (pa_cons (pv 0) pa_nil)) pe_int (nomark _))))) (pss_one (ps_ret pe_bl)) pss_nil)
      (pss_one (ps_ret (pe_callB (cr_all rfl) (by rfl) T.z_all (by decide +kernel) (pa_cons (pe_lc (own := [("one", 2), ("bound", 3)]) (g := gTup K 2 (gNames [2, 3])) (te := (tCall _ [] E0 (tCons (tVar 2) (tCons (tC _) (tCons (tOp _ (tVar 3) (tC _)) tNil))))) (tt := tYes) rfl sc_is_triple.nd (RZ.pi_zipA (by rfl) T.z_zip (pa_cons (pv 0) (pa_cons (pv 1) pa_nil))) (blkOk_by (N := ["value", "bounds", "one", "bound"]) (sc := defScope s_is_triple) (by decide +kernel)) (fun _ _ _ _ _ => (pg_tup (by rfl) (pgs_cons (pg_name (i := 2) sc_is_triple.nd rfl (Or.inl rfl)) (pgs_cons (pg_name (i := 3) sc_is_triple.nd rfl (Or.inl rfl)) pgs_nil)))) (fun _ _ _ _ _ => pts_nil) (fun _ _ _ _ _ => (pe_C (c_is_number T) hr (by decide) (by rfl) (pa_cons (pv 2) (pa_cons pe_int (pa_cons (pe_op op_sub (pv 3) pe_int) pa_nil)))))) pa_nil))))), fun σ En0 nx => ?_⟩)
  obtain ⟨⟨a, b, c⟩, ⟨x, y, z⟩⟩ := p
  have En0 : En K H σ [some (.d false (.tuple [.int a, .int b, .int c])), some (.d false (.tuple [.int x, .int y, .int z])), none, none] := En0
  refine q_whenI En0 (et_is (et_or (evt_isi_not (evi_var En0 rfl)) fun _ => evt_of (evi_ne (evi_len (EvI.dq (evi_var En0 rfl))) (evi_int (b := true)) (ok_int _).sh (ok_int _).sh)) (b := false) ?_) (fun h => by cases h) fun _ H1 e1 En1 => ?_
  · show (false || !PyData.eqv (.int 3) (.int 3)) = false
    rw [eqv_int]
    rfl
  · refine s_retI (evi_all (b := true) (bs := [inR 0 (x - 1) a, inR 0 (y - 1) b, inR 0 (z - 1) c]) (evi_lcZ (ks := [some (.d false (.tuple [.int a, .int b, .int c])), some (.d false (.tuple [.int x, .int y, .int z])), none, none]) pairR (ds := [.int a, .int b, .int c]) (es := [.int x, .int y, .int z]) rfl En1 (by decide) (evia_cons (evi_var En1 rfl) (evia_cons (evi_var En1 rfl) evia_nil)) (by show 3 ≤ 40000; decide) fun i d1 d2 σ2 H2 h1 h2 e2 En2 => ?_)) fun v H' e yy => nx v H' (e1.trans e) ?_
    · obtain ⟨i1, i2, rfl, rfl⟩ : ∃ i1 i2, d1 = .int i1 ∧ d2 = .int i2 := by
        match i, h1, h2 with
        | 0, h1, h2 => exact ⟨_, _, (Option.some.inj h1).symm, (Option.some.inj h2).symm⟩
        | 1, h1, h2 => exact ⟨_, _, (Option.some.inj h1).symm, (Option.some.inj h2).symm⟩
        | 2, h1, h2 => exact ⟨_, _, (Option.some.inj h1).symm, (Option.some.inj h2).symm⟩
        | n + 3, h1, h2 => cases h1
      exact evi_call (i1, 0, i2 - 1) (evia_cons (EvI.strong (evi_var En2 rfl)) (evia_cons (evi_int (b := true)) (evia_cons (evi_op0 (evi_var En2 rfl) (evi_int (b := true))) evia_nil))) fun _ _ => trivial
    · have e3 : [inR 0 (x - 1) a, inR 0 (y - 1) b, inR 0 (z - 1) c].all id = inT (a, b, c) (x, y, z) := by
        show (inR 0 (x - 1) a && (inR 0 (y - 1) b && (inR 0 (z - 1) c && true))) = _
        rw [Bool.and_true]
        rfl
      rw [e3] at yy
      exact yy
end
end Bk

set_option Elab.async false
set_option linter.all false
set_option maxRecDepth 100000
set_option maxHeartbeats 4000000
set_option autoImplicit false
namespace Bk
open PySem PySem.Spec PyProof.Rows L2 Evl
section
variable {P : Program} {w : World} {K : PySem.W.Frag} {mg : Str → Option Value} {base : Heap}
theorem sc_check_sizes : FnScope ["sizes", "one"] ["sizes"] (defScope s_check_sizes) := ⟨rfl, rfl, rfl, by decide +kernel, rfl, by decide +kernel, by decide +kernel⟩
def posD : PyData → PyData
  | .int i => .bool (inR 1 40000 i)
  | _ => .none
theorem c_check_sizes (T : Txt K mg) : Callee P w K mg base 2 "check_sizes" ["sizes"] (spF K (fun t : Tri => [.d false (dTri t)]) (fun t _ => (1 ≤ t.1 ∧ t.1 ≤ 10) ∧ (1 ≤ t.2.1 ∧ t.2.1 ≤ 100) ∧ 1 ≤ t.2.2 ∧ t.2.2 ≤ 10) fun _ => .v .non) := by
  obtain ⟨fd, F⟩ := T.f_check_sizes
  obtain ⟨tM, h_MOST_TRIPLES⟩ := T.i_MOST_TRIPLES
  refine callee_of F T.g_check_sizes (fun _ _ _ _ _ _ us hl => match us, hl with | [_], _ => rfl) (F.ok sc_check_sizes (fun _ => rfl) fun cdv A outer s H Q E t hr hp => ⟨_, (pss_cons (ps_if (PW.pt (pw_or (pt_not (pt_val (pe_callB call_isi (by rfl) T.z_isinstance (by decide +kernel) (pa_cons (pv 0) (pa_cons (pe_bltn (v := .ty "tuple") (by rfl) T.z_tuple (by decide +kernel) rfl) pa_nil))))) (pw_or (pt_cmpR (op_neD hr.units) (pe_callB call_len_seq (by rfl) T.z_len PySem.boot_len (pa_cons (pv 0) pa_nil)) pe_int (nomark _)) (pw_or1 (pt_not (pt_val (pe_callB (cr_all rfl) (by rfl) T.z_all (by decide +kernel) (pa_cons (pe_lc (own := [("one", 1)]) (te := (tCall _ [] E0 (tCons (tVar 1) (tCons (tC _) (tCons (tC _) tNil))))) (tt := tYes) rfl sc_check_sizes.nd (pi_tup (pv 0)) (blkOk_by (N := ["sizes", "one"]) (sc := defScope s_check_sizes) (by decide +kernel)) (fun _ _ _ _ _ => (pg_name (i := 1) sc_check_sizes.nd rfl (Or.inl rfl))) (fun _ _ _ _ _ => pts_nil) (fun _ _ _ _ _ => (pe_C (c_is_number T) hr (by decide) (by rfl) (pa_cons (pv 1) (pa_cons pe_int (pa_cons (pe_glob (v := .int 40000) rfl h_MOST_TRIPLES ⟨_, rfl⟩) pa_nil)))))) pa_nil)))))))) pss_never pss_nil)
      (pss_one (ps_if (pt_cmpR op_gt (pe_op op_mul (pe_op op_mul (pe_ix ix_seq (pv 0) pe_int (fun _ _ => rfl)) (pe_ix ix_seq (pv 0) pe_int (fun _ _ => rfl))) (pe_ix ix_seq (pv 0) pe_int (fun _ _ => rfl))) (pe_glob (v := .int 40000) rfl h_MOST_TRIPLES ⟨_, rfl⟩) (nomark _)) pss_never pss_nil))), fun σ En0 nx => ?_⟩)
  obtain ⟨a, b, c⟩ := t
  obtain ⟨⟨a1, a2⟩, ⟨b1, b2⟩, c1, c2⟩ := hp
  simp only at a1 a2 b1 b2 c1 c2
  have En0 : En K H σ [some (.d false (.tuple [.int a, .int b, .int c])), none] := En0
  have hab : a * b ≤ 10 * b := Int.mul_le_mul_of_nonneg_right a2 (by omega)
  have hab0 : 1 * b ≤ a * b := Int.mul_le_mul_of_nonneg_right a1 (by omega)
  have habc : a * b * c ≤ a * b * 10 := Int.mul_le_mul_of_nonneg_left c2 (by omega)
  refine q_whenI En0 (et_is (et_or (evt_isi_not (evi_var En0 rfl)) fun _ => et_or (evt_of (evi_ne (evi_len (EvI.dq (evi_var En0 rfl))) (evi_int (b := true)) (ok_int _).sh (ok_int _).sh)) fun _ => et_not (evt_B (evi_all (b := true) (bs := [inR 1 40000 a, inR 1 40000 b, inR 1 40000 c]) (evi_lcT1 (ds := [.int a, .int b, .int c]) posD En0 (evi_var En0 rfl) (by show 3 ≤ 40000; decide) fun d σ2 H2 hd e2 En2 => ?_)))) (b := false) ?_) (fun h => by cases h) fun _ H1 e1 En1 => ?_
  · obtain ⟨i, rfl⟩ : ∃ i, d = .int i := by
      simp only [List.mem_cons, List.not_mem_nil, or_false] at hd
      rcases hd with h | h | h <;> exact ⟨_, h⟩
    exact evi_call (i, 1, 40000) (evia_cons (EvI.strong (evi_var En2 rfl)) (evia_cons (evi_int (b := true)) (evia_cons (evi_k (k := dI 40000) (.int _)) evia_nil))) fun _ _ => trivial
  · have r1 : ∀ i : Int, 1 ≤ i → i ≤ 40000 → inR 1 40000 i = true := fun i h1 h2 => by
      unfold inR
      rw [decide_eq_true h1, decide_eq_true h2]
      rfl
    rw [r1 a a1 (by omega), r1 b b1 (by omega), r1 c c1 (by omega)]
    show (false || (!PyData.eqv (.int 3) (.int 3) || false)) = false
    rw [eqv_int]
    rfl
  · refine s_whenI En1 (et_is (evt_of (evi_cmp (evi_op (evi_op (evi_at (n := 0) (evi_var En1 rfl) rfl) (evi_at (n := 1) (evi_var En1 rfl) rfl) (.inl (by constructor <;> omega))) (evi_at (n := 2) (evi_var En1 rfl) rfl) (.inl (by constructor <;> omega))) (evi_k (k := dI 40000) (.int _)))) (b := false) (decide_eq_false (by omega))) (fun h => by cases h) fun _ H2 e2 _ => ?_
    exact nx .non H2 (e1.trans e2) rfl
theorem sc_trimmed_line : FnScope ["row", "begin", "end"] ["row"] (defScope s_trimmed_line) := ⟨rfl, rfl, rfl, by decide +kernel, rfl, by decide +kernel, by decide +kernel⟩
theorem map_get {α : Type} {f : α → PyData} {l : List α} {i : Nat} {a : α} (h : l[i]? = some a) : (l.map f)[i]? = some (f a) := by
  rw [List.getElem?_map, h]
  rfl
theorem c_trimmed_line (T : Txt K mg) : Callee P w K mg base 1 "_trimmed_line" ["row"] (spF K (fun L : List Tri => [.q false (L.map dTri)]) (fun L _ => L.length ≤ 1000) fun L => .d false (dLine (trimQ L))) := by
  obtain ⟨fd, F⟩ := T.f_trimmed_line
  refine callee_of F T.g_trimmed_line (fun _ _ _ _ _ _ us hl => match us, hl with | [_], _ => rfl) (F.ok sc_trimmed_line (fun _ => rfl) fun cdv A outer s H Q E L hr hp => ⟨_, (pss_cons (ps_set (i := 1) sc_trimmed_line.nd rfl (Or.inl rfl) pe_int)
      (pss_cons (ps_set (i := 2) sc_trimmed_line.nd rfl (Or.inl rfl) (pe_callB call_len_seq (by rfl) T.z_len PySem.boot_len (pa_cons (pv 0) pa_nil)))
      (pss_cons (ps_while PassesOwn.never (PW.pt (pw_and (pt_cmpR op_lt (pv 1) (pv 2) (nomark _)) (pw_and1 (pt_cmpR (op_eqD hr.units) (pe_ix ix_seq (pv 0) (pv 1) (fun _ _ => rfl)) (pe_glob (v := .ref (He.ga K "QUIET")) rfl T.g_QUIET rfl) (nomark _))))) (pss_one (ps_aug (i := 1) sc_trimmed_line.nd rfl (Or.inl rfl) pe_int ip_add)))
      (pss_cons (ps_while PassesOwn.never (PW.pt (pw_and (pt_cmpR op_gt (pv 2) (pv 1) (nomark _)) (pw_and1 (pt_cmpR (op_eqD hr.units) (pe_ix ix_seq (pv 0) (pe_op op_sub (pv 2) pe_int) (fun _ _ => rfl)) (pe_glob (v := .ref (He.ga K "QUIET")) rfl T.g_QUIET rfl) (nomark _))))) (pss_one (ps_aug (i := 2) sc_trimmed_line.nd rfl (Or.inl rfl) pe_int ip_sub)))
      (pss_one (ps_ret (pe_callTy call_tuple_of (by rfl) T.z_tuple (by decide +kernel) (pa_cons (pe_slice (SlR.or sl_list sl_tupA) (pv 0) (po_some (pv 1)) (po_some (pv 2))) pa_nil)))))))), fun σ En0 nx => ?_⟩)
  have En0 : En K H σ [some (.q false (L.map dTri)), none, none] := En0
  have quiet : ∀ H1, Is K H1 (.ref (He.ga K "QUIET")) (.d false (dTri tq)) := fun H1 => .tup (show TpB false K H1 _ _ from T.q H1) (.cons (.int 0) (.cons (.int 0) (.cons (.int 0) .nil)))
  refine q_setI En0 (evi_int (b := true)) fun σ1 H1 e1 En1 => ?_
  refine q_setI En1 (evi_len (evi_var En1 rfl)) fun σ2 H2 e2 En2 => ?_
  rw [List.length_map] at En2
  refine q_whileI En2 (fun m ks => ∃ n : Nat, ks = [some (.q false (L.map dTri)), some (dI (n : Int)), some (dI (L.length : Int))] ∧ m + n = L.length ∧ ltrim (L.drop n) = ltrim L) L.length ⟨0, rfl, Nat.add_zero _, rfl⟩ fun m ks σ3 H3 ⟨n, ek, hm, ht⟩ e3 En3 => ?_
  subst ek
  obtain ⟨x, hx⟩ : ∃ x, x = (L[n]?).getD tq := ⟨_, rfl⟩
  have gx : n < L.length → L[n]? = some x := fun h => by rw [hx, List.getElem?_eq_getElem h]; rfl
  refine ⟨decide ((n : Int) < (L.length : Int)) && PyData.eqv (dTri x) (dTri tq), et_and (evt_of (evi_cmp (evi_var En3 rfl) (evi_var En3 rfl))) fun h => evt_of (evi_eq (evi_ix (evi_var En3 rfl) (evi_var En3 rfl) (atI_at (j := n) rfl (map_get (gx (by have := of_decide_eq_true h; omega))))) (evi_k (quiet _)) (ok_tri _).sh (ok_tri _).sh), fun h H4 e4 En4 => ?_, fun h H4 e4 En4 => ?_⟩
  · rw [Bool.and_eq_true, decide_eq_true_iff, eqv_tri, decide_eq_true_iff] at h
    obtain ⟨h1, h2⟩ := h
    subst h2
    refine s_augI En4 rfl (evi_int (b := true)) fun σ5 H5 e5 En5 => ⟨m - 1, by omega, e4.trans e5, _, ⟨n + 1, rfl, by omega, ltrim_drop (gx (by omega)) ht⟩, ?_⟩
    have e : (n : Int) + 1 = ((n + 1 : Nat) : Int) := by omega
    rw [e] at En5
    exact En5
  · -- behind the first loop
    have hn : n ≤ L.length := by omega
    have hd : L.drop n = ltrim L := by
      by_cases hlt : n < L.length
      · rw [decide_eq_true (show (n : Int) < (L.length : Int) by omega), Bool.true_and, eqv_tri, decide_eq_false_iff_not] at h
        exact ltrim_done h (gx hlt) ht
      · rw [← ht, List.drop_of_length_le (by omega)]
        rfl
    clear h hm ht
    refine q_whileI En4 (fun m ks => ∃ k : Nat, ks = [some (.q false (L.map dTri)), some (dI (n : Int)), some (dI ((n + k : Nat) : Int))] ∧ m = k ∧ n + k ≤ L.length ∧ rtrim ((L.drop n).take k) = rtrim (L.drop n)) (L.length - n) ⟨L.length - n, by rw [show n + (L.length - n) = L.length by omega], rfl, by omega, by rw [List.take_of_length_le (by rw [List.length_drop]; exact Nat.le_refl _)]⟩ fun m ks σ5 H5 ⟨k, ek, hm, hk, ht⟩ e5 En5 => ?_
    subst ek hm
    obtain ⟨y, hy⟩ : ∃ y, y = (L[n + m - 1]?).getD tq := ⟨_, rfl⟩
    have gy : 0 < m → L[n + m - 1]? = some y := fun h => by rw [hy, List.getElem?_eq_getElem (by omega)]; rfl
    refine ⟨decide ((n : Int) < ((n + m : Nat) : Int)) && PyData.eqv (dTri y) (dTri tq), et_and (evt_of (evi_cmp (evi_var En5 rfl) (evi_var En5 rfl))) fun h => ?_, fun h H6 e6 En6 => ?_, fun h H6 e6 En6 => ?_⟩
    · have h := of_decide_eq_true h
      exact evt_of (evi_eq (evi_ix (evi_var En5 rfl) (evi_op0 (evi_var En5 rfl) (evi_int (b := true))) (atI_at (j := n + m - 1) (by omega) (map_get (gy (by omega))))) (evi_k (quiet _)) (ok_tri _).sh (ok_tri _).sh)
    · rw [Bool.and_eq_true, decide_eq_true_iff, eqv_tri, decide_eq_true_iff] at h
      obtain ⟨h1, h2⟩ := h
      subst h2
      obtain ⟨j, hj⟩ : ∃ j, m = j + 1 := ⟨m - 1, by omega⟩
      subst hj
      have g : (L.drop n)[j]? = some tq := by rw [List.getElem?_drop]; exact gy (by omega)
      refine s_augI En6 rfl (evi_int (b := true)) fun σ7 H7 e7 En7 => ⟨j, by omega, e6.trans e7, _, ⟨j, rfl, rfl, by omega, rtrim_take g ht⟩, ?_⟩
      have e : ((n + (j + 1) : Nat) : Int) - 1 = ((n + j : Nat) : Int) := by omega
      rw [e] at En7
      exact En7
    · have hr : (L.drop n).take m = rtrim (L.drop n) := by
        cases m with
        | zero => rw [← ht]; rfl
        | succ j =>
          have g : (L.drop n)[j]? = some y := by rw [List.getElem?_drop]; exact gy (by omega)
          rw [decide_eq_true (show (n : Int) < ((n + (j + 1) : Nat) : Int) by omega), Bool.true_and, eqv_tri, decide_eq_false_iff_not] at h
          exact rtrim_done h g ht
      refine s_retI (evi_tupQ (evi_slQ (evi_var En6 rfl) (evo_some (evi_var En6 rfl)) (evo_some (evi_var En6 rfl)))) fun v H7 e7 yy => nx v H7 (((((e1.trans e2).trans e4)).trans e6).trans e7) ?_
      rw [cutD_mid (by rw [List.length_map]; exact hk) (by omega), ← List.map_drop, ← List.map_take, show n + m - n = m by omega, hr, hd] at yy
      exact yy
end
end Bk

set_option Elab.async false
set_option linter.all false
set_option maxRecDepth 100000
set_option maxHeartbeats 4000000
set_option autoImplicit false
namespace Bk
open PySem PySem.Spec PyProof.Rows L2 Evl
section
variable {P : Program} {w : World} {K : PySem.W.Frag} {mg : Str → Option Value} {base : Heap}
theorem sc_trimmed_tape : FnScope ["left", "mark", "right"] ["left", "mark", "right"] (defScope s_trimmed_tape) := ⟨rfl, rfl, rfl, by decide +kernel, rfl, by decide +kernel, by decide +kernel⟩
theorem c_trimmed_tape (T : Txt K mg) : Callee P w K mg base 2 "trimmed_tape" ["left", "mark", "right"] (spF K (fun p : List Int × Int × List Int => [.q false (p.1.map .int), dI p.2.1, .q false (p.2.2.map .int)]) (fun p _ => p.1.length ≤ 1000 ∧ p.2.2.length ≤ 1000) fun p => .d false (dTape (trim p.1) p.2.1 (trim p.2.2))) := by
  obtain ⟨fd, F⟩ := T.f_trimmed_tape
  refine callee_of F T.g_trimmed_tape (fun _ _ _ _ _ _ us hl => match us, hl with | [_, _, _], _ => rfl) (F.ok sc_trimmed_tape (fun _ => rfl) fun cdv A outer s H Q E p hr hp => ⟨_, (pss_one (ps_ret (pe_tup (pa_cons (pe_C (c_trimmed T) hr (by decide) (by rfl) (pa_cons (pv 0) pa_nil)) (pa_cons (pv 1) (pa_cons (pe_C (c_trimmed T) hr (by decide) (by rfl) (pa_cons (pv 2) pa_nil)) pa_nil)))))), fun σ En0 nx => ?_⟩)
  obtain ⟨l, a, r⟩ := p
  have En0 : En K H σ [some (.q false (l.map .int)), some (dI a), some (.q false (r.map .int))] := En0
  exact s_retI (evi_tup3 (evi_call l (evia_cons (evi_var En0 rfl) evia_nil) fun _ _ => hp.1) (EvI.strong (evi_var En0 rfl)) (evi_call r (evia_cons (evi_var En0 rfl) evia_nil) fun _ _ => hp.2)) nx
theorem sc_moved_tape : FnScope ["tape", "move", "left", "mark", "right"] ["tape", "move"] (defScope s_moved_tape) := ⟨rfl, rfl, rfl, by decide +kernel, rfl, by decide +kernel, by decide +kernel⟩
theorem headD_get (r : List Int) : (r.map PyData.int ++ [PyData.int 0])[0]? = some (.int (r.headD 0)) := by cases r <;> rfl
theorem cut1 (r : List Int) : cutD (r.map PyData.int) (some 1) none = r.tail.map PyData.int := by
  rw [show (1 : Int) = ((1 : Nat) : Int) from rfl, cutD_from]
  cases r <;> rfl
theorem c_moved_tape (T : Txt K mg) : Callee P w K mg base 2 "moved_tape" ["tape", "move"] (spF K (fun p : (List Int × Int × List Int) × Int => [.d false (dTape p.1.1 p.1.2.1 p.1.2.2), dI p.2]) (fun p _ => p.1.1.length ≤ 900 ∧ p.1.2.2.length ≤ 900)
    fun p => .d false (dTape (movedT p.2 p.1.1 p.1.2.1 p.1.2.2).1 (movedT p.2 p.1.1 p.1.2.1 p.1.2.2).2.1 (movedT p.2 p.1.1 p.1.2.1 p.1.2.2).2.2)) := by
  obtain ⟨fd, F⟩ := T.f_moved_tape
  refine callee_of F T.g_moved_tape (fun _ _ _ _ _ _ us hl => match us, hl with | [_, _], _ => rfl) (F.ok sc_moved_tape (fun _ => rfl) fun cdv A outer s H Q E p hr hp => ⟨_, (pss_cons (ps_asg (pv 0) (pg_tup (by rfl) (pgs_cons (pg_name (i := 2) sc_moved_tape.nd rfl (Or.inl rfl)) (pgs_cons (pg_name (i := 3) sc_moved_tape.nd rfl (Or.inl rfl)) (pgs_cons (pg_name (i := 4) sc_moved_tape.nd rfl (Or.inl rfl)) pgs_nil)))))
      (pss_cons (ps_if (pt_cmpR (op_eqD hr.units) (pv 1) pe_int (nomark _)) (pss_one (ps_ret (pe_tup (pa_cons (pe_C (c_trimmed T) hr (by decide) (by rfl) (pa_cons (pe_op op_catA (pe_tup (pa_cons (pv 3) pa_nil)) (pv 2)) pa_nil)) (pa_cons (pe_ix ix_seq (pe_op op_catA (pv 4) (pe_tup (pa_cons pe_int pa_nil))) pe_int (fun _ _ => rfl)) (pa_cons (pe_slice (SlR.or sl_list sl_tupA) (pv 4) (po_some pe_int) po_none) pa_nil)))))) pss_nil)
      (pss_cons (ps_if (pt_cmpR (op_eqD hr.units) (pv 1) (pe_un un_neg pe_int) (nomark _)) (pss_one (ps_ret (pe_tup (pa_cons (pe_slice (SlR.or sl_list sl_tupA) (pv 2) (po_some pe_int) po_none) (pa_cons (pe_ix ix_seq (pe_op op_catA (pv 2) (pe_tup (pa_cons pe_int pa_nil))) pe_int (fun _ _ => rfl)) (pa_cons (pe_C (c_trimmed T) hr (by decide) (by rfl) (pa_cons (pe_op op_catA (pe_tup (pa_cons (pv 3) pa_nil)) (pv 4)) pa_nil)) pa_nil)))))) pss_nil)
      (pss_one (ps_ret (pv 0)))))), fun σ En0 nx => ?_⟩)
  obtain ⟨⟨l, a, r⟩, d⟩ := p
  obtain ⟨h1, h2⟩ := hp
  simp only at h1 h2
  have En0 : En K H σ [some (.d false (.tuple [dInts l, .int a, dInts r])), some (dI d), none, none, none] := En0
  refine q_tupI (is := [2, 3, 4]) En0 (evi_var En0 rfl) rfl rfl fun σ1 H1 e1 En1 => ?_
  have En1 : En K H1 σ1 [some (.d false (.tuple [dInts l, .int a, dInts r])), some (dI d), some (.d false (dInts l)), some (.d false (.int a)), some (.d false (dInts r))] := En1
  -- the mark in front of a side, cut
  have push : ∀ (l : List Int), l.length ≤ 900 → (1 : Nat) + (l.map PyData.int).length ≤ 100000 := fun l h => by rw [List.length_map]; omega
  have app1 : ∀ (l : List Int), l.length ≤ 900 → (l.map PyData.int).length + 1 ≤ 100000 := fun l h => by rw [List.length_map]; omega
  refine q_whenI En1 (et_is (evt_of (evi_eq (evi_var En1 rfl) (evi_int (b := true)) (ok_int _).sh (ok_int _).sh)) (b := decide (d = 1)) (eqv_int _ _)) (fun h H2 e2 En2 => ?_) fun h H2 e2 En2 => ?_
  · have h := of_decide_eq_true h
    subst h
    refine s_retI (evi_tup3 (evi_call (a :: l) (evia_cons (EvI.dq (evi_catT (evi_tup1 (evi_var En2 rfl)) (evi_var En2 rfl) (push l h1))) evia_nil) fun _ _ => by show l.length + 1 ≤ 1000; omega) (evi_ix (EvI.dq (evi_catT (evi_var En2 rfl) (evi_tup1 (evi_int (b := false))) (app1 r h2))) (evi_int (b := true)) (atI_at (j := 0) rfl (headD_get r)))
      (EvI.eq (evi_slT (evi_var En2 rfl) (evo_some (K := K) (evi_int (b := true))) evo_none) (by rw [cut1]; rfl))) fun v H3 e3 y => nx v H3 ((e1.trans e2).trans e3) y
  · have h := of_decide_eq_false h
    refine q_whenI En2 (et_is (evt_of (evi_eq (evi_var En2 rfl) (evi_neg (evi_int (b := true))) (ok_int _).sh (ok_int _).sh)) (b := decide (d = -1)) (eqv_int _ _)) (fun h' H3 e3 En3 => ?_) fun h' H3 e3 En3 => ?_
    · have h' := of_decide_eq_true h'
      subst h'
      refine s_retI (evi_tup3 (EvI.eq (evi_slT (evi_var En3 rfl) (evo_some (K := K) (evi_int (b := true))) evo_none) (by rw [cut1]; rfl)) (evi_ix (EvI.dq (evi_catT (evi_var En3 rfl) (evi_tup1 (evi_int (b := false))) (app1 l h1))) (evi_int (b := true)) (atI_at (j := 0) rfl (headD_get l)))
        (evi_call (a :: r) (evia_cons (EvI.dq (evi_catT (evi_tup1 (evi_var En3 rfl)) (evi_var En3 rfl) (push r h2))) evia_nil) fun _ _ => by show r.length + 1 ≤ 1000; omega)) fun v H4 e4 y => nx v H4 (((e1.trans e2).trans e3).trans e4) y
    · have h' := of_decide_eq_false h'
      refine s_retI (evi_var En3 rfl) fun v H4 e4 y => nx v H4 (((e1.trans e2).trans e3).trans e4) ?_
      have em : movedT d l a r = (l, a, r) := by unfold movedT; rw [if_neg h, if_neg h']
      show Is K H4 v (.d false (dTape (movedT d l a r).1 (movedT d l a r).2.1 (movedT d l a r).2.2))
      rw [em]
      exact y
theorem sc_tape_in : FnScope ["marks", "line", "heads", "at", "letters", "cell", "tape"] ["marks", "line"] (defScope s_tape_in) := ⟨rfl, rfl, rfl, by decide +kernel, rfl, by decide +kernel, by decide +kernel⟩
def dST : Option Cfg → PyData
  | none => .none
  | some c => .tuple [.int c.q, dTape c.l c.a c.r]
def headF (m : Int) (L : List Tri) : PyData → Bool
  | .int i => decide (m ≤ ((L[i.toNat]?).getD tq).2.1)
  | _ => false
theorem heads_keep (m : Int) (L : List Tri) : keep (headF m L) (fun d => d) (rngs (L.length : Int).toNat) = (headsOf m L).map fun (i : Nat) => PyData.int (i : Int) := by
  unfold keep rngs headsOf
  rw [List.map_id', List.filter_map, Int.toNat_natCast]
  rfl
def midD : PyData → PyData
  | .tuple [_, b, _] => b
  | _ => .none
theorem midD_map (L : List Tri) : (L.map dTri).map midD = (L.map mid).map PyData.int := by
  rw [List.map_map, List.map_map]
  rfl
theorem c_tape_in (T : Txt K mg) : Callee P w K mg base 3 "tape_in" ["marks", "line"] (spF K (fun p : Int × List Tri => [dI p.1, .d false (dLine p.2)]) (fun p _ => (1 ≤ p.1 ∧ p.1 ≤ 4) ∧ p.2.length ≤ 900) fun p => .d false (dST (tapeM p.1 p.2))) := by
  obtain ⟨fd, F⟩ := T.f_tape_in
  refine callee_of F T.g_tape_in (fun _ _ _ _ _ _ us hl => match us, hl with | [_, _], _ => rfl) (F.ok sc_tape_in (fun _ => rfl) fun cdv A outer s H Q E p hr hp => ⟨_, (pss_cons (ps_setLc (i := 2) (own := [("at", 3)]) (te := (tVar 3)) (tt := (tTest (tOp _ (tOp (rIx K) (tOp (rIx K) (tVar 1) (tVar 3)) (tC _)) (tVar 0)))) rfl sc_tape_in.nd rfl rfl (sw_true rfl rfl rfl (by decide +kernel)) (pi_range1 rfl T.z_range (pa_cons (pe_callB call_len_seq (by rfl) T.z_len PySem.boot_len (pa_cons (pv 1) pa_nil)) pa_nil)) (blkOk_by (N := ["marks", "line", "heads", "at", "letters", "cell", "tape"]) (sc := defScope s_tape_in) (by decide +kernel)) (fun _ _ _ _ _ => (pg_name (i := 3) sc_tape_in.nd rfl (Or.inl rfl))) (fun _ _ _ _ _ => pts_one (pt_cmpR op_ge (pe_ix ix_seq (pe_ix ix_seq (pv 1) (pv 3) (fun _ _ => rfl)) pe_int (fun _ _ => rfl)) (pv 0) (nomark _))) (fun _ _ _ _ _ => (pv 3)))
      (pss_cons (ps_if (pt_cmpR (op_neD hr.units) (pe_callB call_len_seq (by rfl) T.z_len PySem.boot_len (pa_cons (pv 2) pa_nil)) pe_int (nomark _)) (pss_one (ps_ret pe_non)) pss_nil)
      (pss_cons (ps_set (i := 3) sc_tape_in.nd rfl (Or.inl rfl) (pe_ix ix_seq (pv 2) pe_int (fun _ _ => rfl)))
      (pss_cons (ps_setLc (i := 4) (own := [("cell", 5)]) (te := (tOp (rIx K) (tVar 5) (tC _))) (tt := tYes) rfl sc_tape_in.nd rfl rfl (sw_true rfl rfl rfl (by decide +kernel)) (pi_tup (pv 1)) (blkOk_by (N := ["marks", "line", "heads", "at", "letters", "cell", "tape"]) (sc := defScope s_tape_in) (by decide +kernel)) (fun _ _ _ _ _ => (pg_name (i := 5) sc_tape_in.nd rfl (Or.inl rfl))) (fun _ _ _ _ _ => pts_nil) (fun _ _ _ _ _ => (pe_ix ix_seq (pv 5) pe_int (fun _ _ => rfl))))
      (pss_cons (ps_set (i := 6) sc_tape_in.nd rfl (Or.inl rfl) (pe_C (c_trimmed_tape T) hr (by decide) (by rfl) (pa_cons (pe_revL (pe_slice (SlR.or sl_list sl_tupA) (pv 4) po_none (po_some (pv 3)))) (pa_cons (pe_op op_mod (pe_ix ix_seq (pv 4) (pv 3) (fun _ _ => rfl)) (pv 0)) (pa_cons (pe_slice (SlR.or sl_list sl_tupA) (pv 4) (po_some (pe_op op_add (pv 3) pe_int)) po_none) pa_nil)))))
      (pss_one (ps_ret (pe_tup (pa_cons (pe_op op_sub (pe_op op_fdiv (pe_ix ix_seq (pv 4) (pv 3) (fun _ _ => rfl)) (pv 0)) pe_int) (pa_cons (pv 6) pa_nil)))))))))), fun σ En0 nx => ?_⟩)
  obtain ⟨m, L⟩ := p
  obtain ⟨⟨m1, m2⟩, hL⟩ := hp
  simp only at m1 m2 hL
  have En0 : En K H σ [some (dI m), some (.d false (.tuple (L.map dTri))), none, none, none, none, none] := En0
  have lL : (L.map dTri).length = L.length := List.length_map ..
  refine q_setI (k := .l false ((headsOf m L).map fun (i : Nat) => PyData.int (i : Int))) En0 (EvI.eq (evi_lcR (b := false) (n := (L.length : Int)) (headF m L) (fun d => d) En0 (by rw [← lL]; exact evia_cons (evi_len (EvI.dq (evi_var En0 rfl))) evia_nil) (by omega) fun i σ2 H2 hi e2 En2 => ?_) (by rw [heads_keep])) fun σ1 H1 e1 En1 => ?_
  · have hi2 : L[i]? = some ((L[i]?).getD tq) := by rw [List.getElem?_eq_getElem (by omega)]; rfl
    exact ⟨evt_of (evi_cmp (g := fun i j => decide (j ≤ i)) (evi_at (n := 1) (d := .int ((L[i]?).getD tq).2.1) (EvI.weak (evi_ix (EvI.dq (evi_var En2 rfl)) (evi_var En2 rfl) (atI_nat (map_get hi2)))) rfl) (evi_var En2 rfl)), fun _ => EvI.strong (evi_var En2 rfl)⟩
  · have lh : ((headsOf m L).map fun (i : Nat) => PyData.int (i : Int)).length = (headsOf m L).length := List.length_map ..
    refine q_whenI En1 (evt_of (evi_ne (evi_len (EvI.lq (evi_var En1 rfl))) (evi_int (b := true)) (ok_int _).sh (ok_int _).sh)) (fun h H2 e2 En2 => ?_) fun h H2 e2 En2 => ?_
    · refine s_retI (evi_non (K := K) (b := false)) fun v H3 e3 y => nx v H3 ((e1.trans e2).trans e3) ?_
      rw [lh, eqv_int] at h
      have e : tapeM m L = none := by
        unfold tapeM
        split
        · rename_i i hi
          rw [hi] at h
          cases h
        · rfl
      show Is K H3 v (.d false (dST (tapeM m L)))
      rw [e]
      exact y
    · rw [lh, eqv_int, Bool.not_eq_false', decide_eq_true_iff] at h
      obtain ⟨i, hi⟩ : ∃ i, headsOf m L = [i] := by
        cases e : headsOf m L with
        | nil => rw [e] at h; cases h
        | cons a t =>
          cases t with
          | nil => exact ⟨a, rfl⟩
          | cons b t => rw [e] at h; simp at h; omega
      have hlt : i < L.length := by
        have : i ∈ headsOf m L := by rw [hi]; exact List.mem_singleton.mpr rfl
        exact List.mem_range.mp (List.mem_filter.mp this).1
      rw [hi] at En2
      have gi : L[i]? = some ((L[i]?).getD tq) := by rw [List.getElem?_eq_getElem hlt]; rfl
      have gm : ((L.map mid).map PyData.int)[i]? = some (.int (mid ((L[i]?).getD tq))) := by rw [← midD_map, List.getElem?_map, List.getElem?_map, gi]; rfl
      refine q_setI En2 (evi_ix (d := .int (i : Int)) (EvI.lq (evi_var En2 rfl)) (evi_int (b := true)) (atI_at (j := 0) rfl rfl)) fun σ3 H3 e3 En3 => ?_
      refine q_setI (k := .l false ((L.map mid).map PyData.int)) En3 (EvI.eq (evi_lcT1 (b := false) midD En3 (evi_var En3 rfl) (by omega) fun d σ4 H4 hd e4 En4 => ?_) (by rw [midD_map])) fun σ4 H4 e4 En4 => ?_
      · obtain ⟨t, ht, ed⟩ := List.mem_map.mp hd
        subst ed
        exact evi_at (n := 1) (evi_var En4 rfl) rfl
      · refine q_setI En4 (evi_call (((L.map mid).take i).reverse, mid ((L[i]?).getD tq) % m, (L.map mid).drop (i + 1)) (evia_cons (EvI.lq (EvI.eq (evi_rev (evi_slL (evi_var En4 rfl) evo_none (evo_some (evi_var En4 rfl)))) (by rw [cutD_to, ← List.map_take, ← List.map_reverse])))
          (evia_cons (evi_op (evi_ix (EvI.lq (evi_var En4 rfl)) (evi_var En4 rfl) (atI_nat gm)) (evi_var En4 rfl) (by omega)) (evia_cons (EvI.lq (EvI.eq (evi_slL (evi_var En4 rfl) (evo_some (evi_op0 (evi_var En4 rfl) (evi_int (b := true)))) evo_none) (by rw [show ((i : Int) + 1) = ((i + 1 : Nat) : Int) by omega, cutD_from, ← List.map_drop]))) evia_nil))) fun _ _ => ?_) fun σ5 H5 e5 En5 => ?_
        · constructor
          · rw [List.length_reverse, List.length_take, List.length_map]; omega
          · rw [List.length_drop, List.length_map]; omega
        · refine s_retI (evi_tup2 (EvI.strong (evi_op0 (evi_op (evi_ix (EvI.lq (evi_var En5 rfl)) (evi_var En5 rfl) (atI_nat gm)) (evi_var En5 rfl) (by show 0 < m ∧ m < 1073741824; omega)) (evi_int (b := true)))) (evi_var En5 rfl)) fun v H6 e6 y => nx v H6 (((((e1.trans e2).trans e3).trans e4).trans e5).trans e6) ?_
          have e : tapeM m L = some ⟨mid ((L[i]?).getD tq) / m - 1, trim ((L.map mid).take i).reverse, mid ((L[i]?).getD tq) % m, trim ((L.map mid).drop (i + 1))⟩ := by
            unfold tapeM
            rw [hi]
          show Is K H6 v (.d false (dST (tapeM m L)))
          rw [e]
          exact y
end
end Bk

set_option Elab.async false
set_option linter.all false
set_option maxRecDepth 100000
set_option maxHeartbeats 4000000
set_option autoImplicit false
/-! An own list that grows; loops over it. -/
namespace Bk
open PySem PySem.Spec PyProof.Rows L2 Evl
section
variable {b b' : Bool} {K : PySem.W.Frag} {σ : L2.St} {H H' H1 : Hp} {ta tb te tl : TE} {tt : TT} {k : Kd} {ks : List (Option Kd)} {D : Ends} {tu tz : TS} {p : Addr}
/-- kinds that stand whatever list or dict is written -/
def stbK : Option Kd → Bool
  | none => true
  | some (.d _ _) => true
  | some (.v _) => true
  | _ => false
def stb (ks : List (Option Kd)) : Bool := ks.all stbK
theorem En.tx (E : En K H σ ks) (hs : stb ks = true) (e : Tx K H H') : En K H' σ ks := by
  refine ⟨E.len, fun i k h => ?_⟩
  obtain ⟨v, h1, h2⟩ := E.get i k h
  have q : stbK (some k) = true := List.all_eq_true.mp hs _ (List.mem_of_getElem? h)
  refine ⟨v, h1, ?_⟩
  cases k with
  | d b d => exact Rp.tx e h2
  | v w => exact h2
  | l b ds => cases q
  | q b ds => cases q
theorem En.fix {i : Nat} (E : En K H σ ks) (h : ks[i]? = some (some k)) : ∃ v, Is K H v k ∧ En K H σ (ks.set i (some (.v v))) := by
  obtain ⟨v, h1, h2⟩ := E.get i k h
  refine ⟨v, h2, ⟨by rw [List.length_set, E.len], fun j k' e => ?_⟩⟩
  by_cases hj : i = j
  · subst hj
    have hi : i < ks.length := (List.getElem?_eq_some_iff.mp h).1
    rw [List.getElem?_set_self hi] at e
    cases e
    exact ⟨v, h1, rfl⟩
  · rw [List.getElem?_set_ne hj] at e
    exact E.get j k' e
theorem evi_fix {v : V} (h : EvI K te σ H (.v v)) (hv : Is K H1 v k) (e : Ex H1 H) : EvI K te σ H k := fun H2 a Q q => h.evV H2 a _ fun H3 x => q v H3 x (hv.ex (e.trans (a.trans x)))
/-- what was made since H1, at p -/
structure Own (K : PySem.W.Frag) (H1 H : Hp) (p : Addr) (b : Bool) (rs : List PyData) : Prop where
  fr : H1 p = none
  ex : Ex H1 H
  at_ : ∃ xs, H p = some (.lst xs) ∧ RpA b K H xs rs
theorem Own.mono {rs : List PyData} (O : Own K H1 H p b rs) (e : Ex H H') : Own K H1 H' p b rs := by
  obtain ⟨xs, h1, h2⟩ := O.at_
  exact ⟨O.fr, O.ex.trans e, xs, e _ _ h1, h2.tx (Tx.of e)⟩
theorem Own.eq {rs rs' : List PyData} (O : Own K H1 H p b rs) (e : rs = rs') : Own K H1 H p b rs' := e ▸ O
theorem evi_own {rs : List PyData} (h : EvI K te σ H (.v (.ref p))) (O : Own K H1 H p b rs) : EvI K te σ H (.l b rs) := fun H2 a Q q => h.evV H2 a _ fun H3 x => by
  obtain ⟨xs, h1, h2⟩ := O.at_
  exact q _ H3 x ⟨p, xs, rfl, (a.trans x) _ _ h1, h2.tx (Tx.of (a.trans x))⟩
theorem tx_lst {xs ys : List V} (h : H p = some (.lst xs)) : Tx K H (upd H p (.lst ys)) := Tx.upd h ⟨fun _ z => (by cases z), fun _ _ z => (by cases z)⟩
/-- found.append(e) -/
theorem s_appI {rs : List PyData} {r : PyData} (E : En K H σ ks) (hs : stb ks = true) (O : Own K H1 H p b rs) (ha : EvI K ta σ H (.v (.ref p))) (h : EvI K te σ H (.d b r)) (hz : rs.length < 100000)
    (nx : ∀ H', Own K H1 H' p b (rs ++ [r]) → En K H' σ ks → D.nx σ H') : tDrop (tBM K "list" rAppend ta (tCons te tNil)) D σ H := ha.evV H (Ex.refl H) _ fun H2 e2 => by
  obtain ⟨xs, h1, h2⟩ := O.at_
  refine ⟨Or.inl ⟨rfl, xs, sq_of (e2 p _ h1)⟩, h H2 e2 _ fun v H3 e3 y => ?_⟩
  have hp : H3 p = some (.lst xs) := (e2.trans e3) p _ h1
  refine ⟨p, xs, v, rfl, rfl, hp, sz_lt (by rw [h2.len]; exact hz), nx _ ⟨O.fr, Ex.mut (O.ex.trans (e2.trans e3)) O.fr, _, upd_same, ?_⟩ ((E.ex (e2.trans e3)).tx hs (tx_lst hp))⟩
  exact ((h2.tx (Tx.of (e2.trans e3))).app (.cons y .nil)).tx (tx_lst hp)
theorem q_appI {rs : List PyData} {r : PyData} (E : En K H σ ks) (hs : stb ks = true) (O : Own K H1 H p b rs) (ha : EvI K ta σ H (.v (.ref p))) (h : EvI K te σ H (.d b r)) (hz : rs.length < 100000)
    (nx : ∀ H', Own K H1 H' p b (rs ++ [r]) → En K H' σ ks → tz D σ H') : tSeq (tDrop (tBM K "list" rAppend ta (tCons te tNil))) tz D σ H := s_appI (D := { D with nx := tz D }) E hs O ha h hz nx
/-- found.extend([..]) -/
theorem s_extI {rs es : List PyData} (E : En K H σ ks) (hs : stb ks = true) (O : Own K H1 H p b rs) (ha : EvI K ta σ H (.v (.ref p))) (h : EvI K te σ H (.l b es)) (hz : rs.length + es.length ≤ 100000)
    (nx : ∀ H', Own K H1 H' p b (rs ++ es) → En K H' σ ks → D.nx σ H') : tDrop (tBM K "list" rExtend ta (tCons te tNil)) D σ H := ha.evV H (Ex.refl H) _ fun H2 e2 => by
  obtain ⟨xs, h1, h2⟩ := O.at_
  refine ⟨Or.inl ⟨rfl, xs, sq_of (e2 p _ h1)⟩, h H2 e2 _ fun v H3 e3 ⟨q, ys, ev, hq, a2⟩ => ?_⟩
  have hp : H3 p = some (.lst xs) := (e2.trans e3) p _ h1
  refine ⟨p, q, xs, ys, rfl, by rw [ev], hp, hq, sz_of (by rw [h2.len, a2.len]; exact hz), nx _ ⟨O.fr, Ex.mut (O.ex.trans (e2.trans e3)) O.fr, _, upd_same, ?_⟩ ((E.ex (e2.trans e3)).tx hs (tx_lst hp))⟩
  exact ((h2.tx (Tx.of (e2.trans e3))).app a2).tx (tx_lst hp)
/-- found = [] -/
theorem q_newI {i : Nat} (b : Bool) (E : En K H σ ks) (nx : ∀ p σ' H', Own K H H' p b [] → En K H' σ' (ks.set i (some (.v (.ref p)))) → tz D σ' H') : tSeq (tAsg (tLst tNil) (gName i)) tz D σ H :=
  ⟨sz_of (Nat.zero_le _), fun p hp => nx p _ _ ⟨hp, Ex.new hp, [], upd_same, .nil⟩ ((E.ex (Ex.new hp)).set i rfl)⟩
/-! loops beside it -/
def Pm (K : PySem.W.Frag) (H1 : Hp) (p : Addr) (b : Bool) (rs : Nat → List PyData) (W : Nat → List (Option Kd) → Prop) (i : Nat) (σ : L2.St) (H : Hp) : Prop := Own K H1 H p b (rs i) ∧ ∃ ks, W i ks ∧ En K H σ ks
theorem s_forRM {t : TA} {j : Nat} {n : Int} (rs : Nat → List PyData) (W : Nat → List (Option Kd) → Prop) (O : Own K H1 H p b (rs 0)) (E : En K H σ ks) (h : EvIA K t σ H [.d b' (.int n)]) (hn : 0 ≤ n ∧ n ≤ 100000) (h0 : W 0 ks)
    (hs : ∀ (i : Nat) ks' σ' H', (i : Int) < n → W i ks' → Own K H1 H' p b (rs i) → En K H' σ' (ks'.set j (some (dI (i : Int)))) → tu { D with nx := Pm K H1 p b rs W (i + 1), ct := Pm K H1 p b rs W (i + 1), bk := D.nx } σ' H')
    (hd : ∀ ks' σ' H', W n.toNat ks' → Own K H1 H' p b (rs n.toNat) → En K H' σ' ks' → D.nx σ' H') : tFor (iRng1 t) (gName j) tu D σ H := by
  have hA : EvA t σ H [.int n] := fun H1 e Q q => h H1 e _ fun vs H2 x y => by
    cases y with
    | cons y1 y =>
      cases y
      rw [Rp.int_eq y1]
      exact q H2 x
  exact s_forR1 hA hn (Pm K H1 p b rs W) (fun H1 e => ⟨O.mono e, ks, h0, E.ex e⟩) (fun i σ' H' hi ⟨o, ks', w, E'⟩ => hs i ks' _ H' hi w o (E'.set j (.int _))) fun σ' H' ⟨o, ks', w, E'⟩ => hd ks' σ' H' w o E'
theorem q_forRM {t : TA} {j : Nat} {n : Int} (rs : Nat → List PyData) (W : Nat → List (Option Kd) → Prop) (O : Own K H1 H p b (rs 0)) (E : En K H σ ks) (h : EvIA K t σ H [.d b' (.int n)]) (hn : 0 ≤ n ∧ n ≤ 100000) (h0 : W 0 ks)
    (hs : ∀ (i : Nat) ks' σ' H', (i : Int) < n → W i ks' → Own K H1 H' p b (rs i) → En K H' σ' (ks'.set j (some (dI (i : Int)))) → tu { D with nx := Pm K H1 p b rs W (i + 1), ct := Pm K H1 p b rs W (i + 1), bk := tz D } σ' H')
    (hd : ∀ ks' σ' H', W n.toNat ks' → Own K H1 H' p b (rs n.toNat) → En K H' σ' ks' → tz D σ' H') : tSeq (tFor (iRng1 t) (gName j) tu) tz D σ H := s_forRM (D := { D with nx := tz D }) rs W O E h hn h0 hs hd
theorem s_forR2M {b2 : Bool} {t : TA} {j : Nat} {lo n : Int} (rs : Nat → List PyData) (W : Nat → List (Option Kd) → Prop) (O : Own K H1 H p b (rs 0)) (E : En K H σ ks) (h : EvIA K t σ H [.d b' (.int lo), .d b2 (.int n)]) (hn : 0 ≤ lo ∧ lo ≤ 100000 ∧ -100000 ≤ n ∧ n ≤ 100000) (h0 : W 0 ks)
    (hs : ∀ (i : Nat) ks' σ' H', lo + (i : Int) < n → W i ks' → Own K H1 H' p b (rs i) → En K H' σ' (ks'.set j (some (dI (lo + (i : Int))))) → tu { D with nx := Pm K H1 p b rs W (i + 1), ct := Pm K H1 p b rs W (i + 1), bk := D.nx } σ' H')
    (hd : ∀ ks' σ' H', W (n - lo).toNat ks' → Own K H1 H' p b (rs (n - lo).toNat) → En K H' σ' ks' → D.nx σ' H') : tFor (iRng2 t) (gName j) tu D σ H := by
  have hA : EvA t σ H [.int lo, .int n] := fun H1 e Q q => h H1 e _ fun vs H2 x y => by
    cases y with
    | cons y1 y =>
      cases y with
      | cons y2 y =>
        cases y
        rw [Rp.int_eq y1, Rp.int_eq y2]
        exact q H2 x
  exact s_forR2 hA hn (Pm K H1 p b rs W) (fun H1 e => ⟨O.mono e, ks, h0, E.ex e⟩) (fun i σ' H' hi ⟨o, ks', w, E'⟩ => hs i ks' _ H' hi w o (E'.set j (.int _))) fun σ' H' ⟨o, ks', w, E'⟩ => hd ks' σ' H' w o E'
theorem q_forR2M {b2 : Bool} {t : TA} {j : Nat} {lo n : Int} (rs : Nat → List PyData) (W : Nat → List (Option Kd) → Prop) (O : Own K H1 H p b (rs 0)) (E : En K H σ ks) (h : EvIA K t σ H [.d b' (.int lo), .d b2 (.int n)]) (hn : 0 ≤ lo ∧ lo ≤ 100000 ∧ -100000 ≤ n ∧ n ≤ 100000) (h0 : W 0 ks)
    (hs : ∀ (i : Nat) ks' σ' H', lo + (i : Int) < n → W i ks' → Own K H1 H' p b (rs i) → En K H' σ' (ks'.set j (some (dI (lo + (i : Int))))) → tu { D with nx := Pm K H1 p b rs W (i + 1), ct := Pm K H1 p b rs W (i + 1), bk := tz D } σ' H')
    (hd : ∀ ks' σ' H', W (n - lo).toNat ks' → Own K H1 H' p b (rs (n - lo).toNat) → En K H' σ' ks' → tz D σ' H') : tSeq (tFor (iRng2 t) (gName j) tu) tz D σ H := s_forR2M (D := { D with nx := tz D }) rs W O E h hn h0 hs hd
theorem range_map_succ (f : Nat → PyData) (n : Nat) : (List.range (n + 1)).map f = (List.range n).map f ++ [f n] := by
  rw [List.range_succ, List.map_append]
  rfl
/-- [[..], [..]][i] -/
theorem evi_pick {ds es : List PyData} {i : Bool} (h1 : EvI K ta σ H (.l b ds)) (h2 : EvI K tb σ H (.l b es)) (h3 : EvI K te σ H (.d b' (.int (if i then 1 else 0)))) : EvI K (tOp (rIx K) (tLst (tCons ta (tCons tb tNil))) te) σ H (.l b (if i then es else ds)) := fun H0 e0 Q q =>
  h1 H0 e0 _ fun v H2 e2 hv => h2 H2 (e0.trans e2) _ fun w H3 e3 hw => ⟨sz_of (by show 2 ≤ 100000; decide), fun l hl => h3.ev _ ((e0.trans e2).trans (e3.trans (Ex.new hl))) _ fun H4 e4 => by
    have hl4 : SqL K H4 l [v, w] := sq_of (e4 _ _ upd_same)
    have ex : Ex H3 H4 := (Ex.new hl).trans e4
    refine .inl ⟨l, [v, w], _, if i then w else v, rfl, rfl, hl4, by cases i <;> rfl, q _ H4 ((e2.trans e3).trans ex) ?_⟩
    cases i with
    | false => exact hv.ex (e3.trans ex)
    | true => exact hw.ex ex⟩
end
end Bk

set_option Elab.async false
set_option linter.all false
set_option maxRecDepth 100000
set_option maxHeartbeats 4000000
set_option autoImplicit false
namespace Bk
open PySem PySem.Spec PyProof.Rows L2 Evl
section
variable {P : Program} {w : World} {K : PySem.W.Frag} {mg : Str → Option Value} {base : Heap}
theorem sc_law_cell : FnScope ["_law_script", "_law_k"] ["_law_script", "_law_k"] (defScope s_law_cell) := ⟨rfl, rfl, rfl, by decide +kernel, rfl, by decide +kernel, by decide +kernel⟩
def lcell (ns : List Int) (k : Nat) : Int := (ns[k]?).getD 0
theorem c_law_cell (T : Txt K mg) : Callee P w K mg base 1 "_law_cell" ["_law_script", "_law_k"] (spF K (fun p : List Int × Nat => [.q false (p.1.map .int), dI (p.2 : Int)]) (fun _ _ => True) fun p => dI (lcell p.1 p.2)) := by
  obtain ⟨fd, F⟩ := T.f_law_cell
  refine callee_of F T.g_law_cell (fun _ _ _ _ _ _ us hl => match us, hl with | [_, _], _ => rfl) (F.ok sc_law_cell (fun _ => rfl) fun cdv A outer s H Q E p hr hp => ⟨_, (pss_cons (ps_if (pt_cmpR op_lt (pv 1) (pe_callB call_len_seq (by rfl) T.z_len PySem.boot_len (pa_cons (pv 0) pa_nil)) (nomark _)) (pss_one (ps_ret (pe_ix ix_seq (pv 0) (pv 1) (fun _ _ => rfl)))) pss_nil)
      (pss_one (ps_ret pe_int))), fun σ En0 nx => ?_⟩)
  obtain ⟨ns, k⟩ := p
  have En0 : En K H σ [some (.q false (ns.map .int)), some (dI (k : Int))] := En0
  refine q_whenI En0 (evt_of (evi_cmp (evi_var En0 rfl) (evi_len (evi_var En0 rfl)))) (fun h H1 e1 En1 => ?_) fun h H1 e1 En1 => ?_
  · have h := of_decide_eq_true h
    rw [List.length_map] at h
    have hk : k < ns.length := by omega
    have g : ns[k]? = some ns[k] := List.getElem?_eq_getElem hk
    refine s_retI (k := dI ns[k]) (EvI.strong (evi_ix (evi_var En1 rfl) (evi_var En1 rfl) (atI_nat (map_get g)))) fun v H' e y => nx v H' (e1.trans e) ?_
    unfold lcell
    show Is K H' v (dI ((ns[k]?).getD 0))
    rw [g]
    exact y
  · have h := of_decide_eq_false h
    rw [List.length_map] at h
    refine s_retI (evi_int (K := K) (b := true)) fun v H' e y => nx v H' (e1.trans e) ?_
    show Is K H' v (dI ((ns[k]?).getD 0))
    rw [List.getElem?_eq_none (by omega)]
    exact y
theorem sc_law_mixed : FnScope ["_law_cell_here", "_law_k", "_law_first", "_law_second"] ["_law_cell_here", "_law_k"] (defScope s_law_mixed) := ⟨rfl, rfl, rfl, by decide +kernel, rfl, by decide +kernel, by decide +kernel⟩
def lmix1 (c k : Int) : Int := (c * 48271 + k * 69621 + 11) % 2147483647
def lmixed (c k : Int) : Int := (lmix1 c k * 16807 + (k + 3) * 40692 + 5) % 2147483563 / 5
theorem c_law_mixed (T : Txt K mg) : Callee P w K mg base 1 "_law_mixed" ["_law_cell_here", "_law_k"] (spF K (fun p : Int × Int => [dI p.1, dI p.2]) (fun _ _ => True) fun p => dI (lmixed p.1 p.2)) := by
  obtain ⟨fd, F⟩ := T.f_law_mixed
  refine callee_of F T.g_law_mixed (fun _ _ _ _ _ _ us hl => match us, hl with | [_, _], _ => rfl) (F.ok sc_law_mixed (fun _ => rfl) fun cdv A outer s H Q E p hr hp => ⟨_, (pss_cons (ps_set (i := 2) sc_law_mixed.nd rfl (Or.inl rfl) (pe_op op_mod (pe_callTy call_int1 (by rfl) T.z_int (by decide +kernel) (pa_cons (pe_op op_add (pe_op op_add (pe_op op_mul (pe_callTy call_int1 (by rfl) T.z_int (by decide +kernel) (pa_cons (pv 0) pa_nil)) pe_int) (pe_op op_mul (pv 1) pe_int)) pe_int) pa_nil)) pe_int))
      (pss_cons (ps_set (i := 3) sc_law_mixed.nd rfl (Or.inl rfl) (pe_op op_mod (pe_callTy call_int1 (by rfl) T.z_int (by decide +kernel) (pa_cons (pe_op op_add (pe_op op_add (pe_op op_mul (pv 2) pe_int) (pe_op op_mul (pe_op op_add (pv 1) pe_int) pe_int)) pe_int) pa_nil)) pe_int))
      (pss_one (ps_ret (pe_op op_fdiv (pv 3) pe_int))))), fun σ En0 nx => ?_⟩)
  obtain ⟨c, k⟩ := p
  have En0 : En K H σ [some (dI c), some (dI k), none, none] := En0
  have cm : ∀ i j : Int, (-(2 ^ 64) < j ∧ j < 2 ^ 64) → CMul i j := fun i j h => .inr h
  refine q_setI (k := dI (lmix1 c k)) En0 (evi_op (evi_int1 (evi_op0 (evi_op0 (evi_op (evi_int1 (evi_var En0 rfl)) (evi_int (b := true)) (cm _ _ (by decide))) (evi_op (evi_var En0 rfl) (evi_int (b := true)) (cm _ _ (by decide)))) (evi_int (b := true)))) (evi_int (b := true)) (by decide)) fun σ1 H1 e1 En1 => ?_
  refine q_setI (k := dI ((lmix1 c k * 16807 + (k + 3) * 40692 + 5) % 2147483563)) En1 (evi_op (evi_int1 (evi_op0 (evi_op0 (evi_op (evi_var En1 rfl) (evi_int (b := true)) (cm _ _ (by decide))) (evi_op (evi_op0 (evi_var En1 rfl) (evi_int (b := true))) (evi_int (b := true)) (cm _ _ (by decide)))) (evi_int (b := true)))) (evi_int (b := true)) (by decide)) fun σ2 H2 e2 En2 => ?_
  exact s_retI (evi_op (evi_var En2 rfl) (evi_int (b := true)) ⟨by decide, by decide⟩) fun v H' e y => nx v H' ((e1.trans e2).trans e) y
theorem sc_law_digits : FnScope ["_law_cell_here", "_law_count", "_law_many", "_law_digits_here", "_law_k"] ["_law_cell_here", "_law_count", "_law_many"] (defScope s_law_digits) := ⟨rfl, rfl, rfl, by decide +kernel, rfl, by decide +kernel, by decide +kernel⟩
def dstate (m : Int) : Int → Nat → Int
  | c, 0 => c
  | c, n + 1 => dstate m c n / m
def ldigits (c : Int) (n : Nat) (m : Int) : List Int := if c < 10 ^ 18 then (List.range n).map fun (k : Nat) => lmixed c (k : Int) % m else (List.range n).map fun (k : Nat) => dstate m c k % m
theorem ldigits_len (c : Int) (n : Nat) (m : Int) : (ldigits c n m).length = n := by
  unfold ldigits
  split <;> rw [List.length_map, List.length_range]
theorem ldigits_nn {c : Int} {n : Nat} {m : Int} (hm : 0 < m) : ∀ x ∈ ldigits c n m, 0 ≤ x := by
  intro x hx
  unfold ldigits at hx
  split at hx <;>
  · obtain ⟨k, _, e⟩ := List.mem_map.mp hx
    rw [← e]
    exact Int.emod_nonneg _ (by omega)
theorem c_law_digits (T : Txt K mg) : Callee P w K mg base 2 "_law_digits" ["_law_cell_here", "_law_count", "_law_many"] (spF K (fun p : Int × Nat × Int => [dI p.1, dI (p.2.1 : Int), dI p.2.2]) (fun p _ => p.2.1 ≤ 1000 ∧ 0 < p.2.2 ∧ p.2.2 ≤ 1000) fun p => .l true ((ldigits p.1 p.2.1 p.2.2).map .int)) := by
  obtain ⟨fd, F⟩ := T.f_law_digits
  refine callee_of F T.g_law_digits (fun _ _ _ _ _ _ us hl => match us, hl with | [_, _, _], _ => rfl) (F.ok sc_law_digits (fun _ => rfl) fun cdv A outer s H Q E p hr hp => ⟨_, (pss_cons (ps_set (i := 3) sc_law_digits.nd rfl (Or.inl rfl) (pe_lst pa_nil))
      (pss_cons (ps_if (pt_cmpR op_lt (pv 0) (pe_op op_pow pe_int pe_int) (nomark _)) (pss_cons (ps_for PassesOwn.never rfl (pi_range1 rfl T.z_range (pa_cons (pv 1) pa_nil)) (pg_name (i := 4) sc_law_digits.nd rfl (Or.inl rfl)) (pss_one (ps_expr (pe_bm PySem.F.plainAttrs_list PySem.F.slot_list_append PySem.F.type_list_append mt_append (pv 3) (pa_cons (pe_op op_mod (pe_callTy call_int1 (by rfl) T.z_int (by decide +kernel) (pa_cons (pe_C (c_law_mixed T) hr (by decide) (by rfl) (pa_cons (pv 0) (pa_cons (pv 4) pa_nil))) pa_nil)) (pv 2)) pa_nil)))))
      (pss_one (ps_ret (pv 3)))) pss_nil)
      (pss_cons (ps_for PassesOwn.never rfl (pi_range1 rfl T.z_range (pa_cons (pv 1) pa_nil)) (pg_name (i := 4) sc_law_digits.nd rfl (Or.inl rfl)) (pss_cons (ps_expr (pe_bm PySem.F.plainAttrs_list PySem.F.slot_list_append PySem.F.type_list_append mt_append (pv 3) (pa_cons (pe_op op_mod (pe_callTy call_int1 (by rfl) T.z_int (by decide +kernel) (pa_cons (pv 0) pa_nil)) (pv 2)) pa_nil)))
      (pss_one (ps_set (i := 0) sc_law_digits.nd rfl (Or.inl rfl) (pe_op op_fdiv (pv 0) (pv 2))))))
      (pss_one (ps_ret (pv 3)))))), fun σ En0 nx => ?_⟩)
  obtain ⟨c, n, m⟩ := p
  obtain ⟨hn, hm, hm2⟩ := hp
  simp only at hn hm hm2
  have En0 : En K H σ [some (dI c), some (dI (n : Int)), some (dI m), none, none] := En0
  refine q_newI true En0 fun p σ1 H1 O1 En1 => ?_
  have En1 : En K H1 σ1 [some (dI c), some (dI (n : Int)), some (dI m), some (.v (.ref p)), none] := En1
  refine q_whenI En1 (evt_of (evi_cmp (evi_var En1 rfl) (evi_op (evi_int (b := true)) (evi_int (b := true)) ⟨by decide, by decide, by decide⟩))) (fun h H2 e2 En2 => ?_) fun h H2 e2 En2 => ?_
  · have h : c < 10 ^ 18 := of_decide_eq_true h
    refine q_forRM (fun i => (List.range i).map fun (k : Nat) => PyData.int (lmixed c (k : Int) % m)) (fun _ ks => ∃ o, ks = [some (dI c), some (dI (n : Int)), some (dI m), some (.v (.ref p)), o] ∧ stbK o = true) (O1.mono e2) En2 (evia_cons (evi_var En2 rfl) evia_nil) (by omega) ⟨_, rfl, rfl⟩ (fun i ks' σ' H' hi ⟨o, ek, ho⟩ O En3 => ?_) fun ks' σ' H' ⟨o, ek, ho⟩ O En3 => ?_
    · subst ek
      have En3 : En K H' σ' [some (dI c), some (dI (n : Int)), some (dI m), some (.v (.ref p)), some (dI (i : Int))] := En3
      refine s_appI En3 rfl O (evi_var En3 rfl) (evi_op (C := fun _ j => 0 < j) (evi_int1 (evi_call (c, (i : Int)) (evia_cons (evi_var En3 rfl) (evia_cons (evi_var En3 rfl) evia_nil)) fun _ _ => trivial)) (evi_var En3 rfl) hm) (by rw [List.length_map, List.length_range]; omega) fun H4 O4 En4 => ⟨?_, _, ⟨_, rfl, rfl⟩, En4⟩
      exact O4.eq (range_map_succ _ i).symm
    · subst ek
      refine s_retI (evi_own (evi_var En3 rfl) O) fun v H4 e4 y => nx v H4 (O.ex.trans e4) ?_
      show Is K H4 v (.l true ((ldigits c n m).map PyData.int))
      unfold ldigits
      rw [if_pos h, List.map_map]
      rw [Int.toNat_natCast] at y
      exact y
  · have h : ¬ c < 10 ^ 18 := of_decide_eq_false h
    refine q_forRM (fun i => (List.range i).map fun (k : Nat) => PyData.int (dstate m c k % m)) (fun i ks => ∃ o, ks = [some (dI (dstate m c i)), some (dI (n : Int)), some (dI m), some (.v (.ref p)), o] ∧ stbK o = true) (O1.mono e2) En2 (evia_cons (evi_var En2 rfl) evia_nil) (by omega) ⟨_, rfl, rfl⟩ (fun i ks' σ' H' hi ⟨o, ek, ho⟩ O En3 => ?_) fun ks' σ' H' ⟨o, ek, ho⟩ O En3 => ?_
    · subst ek
      have En3 : En K H' σ' [some (dI (dstate m c i)), some (dI (n : Int)), some (dI m), some (.v (.ref p)), some (dI (i : Int))] := En3
      refine q_appI En3 rfl O (evi_var En3 rfl) (evi_op (C := fun _ j => 0 < j) (evi_int1 (evi_var En3 rfl)) (evi_var En3 rfl) hm) (by rw [List.length_map, List.length_range]; omega) fun H4 O4 En4 => ?_
      refine s_setI En4 (evi_op (C := CDiv) (evi_var En4 rfl) (evi_var En4 rfl) (by constructor <;> omega)) fun σ5 H5 e5 En5 => ⟨?_, _, ⟨_, rfl, rfl⟩, En5⟩
      exact (O4.mono e5).eq (range_map_succ _ i).symm
    · subst ek
      refine s_retI (evi_own (evi_var En3 rfl) O) fun v H4 e4 y => nx v H4 (O.ex.trans e4) ?_
      show Is K H4 v (.l true ((ldigits c n m).map PyData.int))
      unfold ldigits
      rw [if_neg h, List.map_map]
      rw [Int.toNat_natCast] at y
      exact y
end
end Bk

set_option Elab.async false
set_option linter.all false
set_option maxRecDepth 100000
set_option maxHeartbeats 4000000
set_option autoImplicit false
namespace Bk
open PySem PySem.Spec PyProof.Rows L2 Evl
section
variable {P : Program} {w : World} {K : PySem.W.Frag} {mg : Str → Option Value} {base : Heap}
theorem sc_law_mark : FnScope ["_law_digit", "_law_marks"] ["_law_digit", "_law_marks"] (defScope s_law_mark) := ⟨rfl, rfl, rfl, by decide +kernel, rfl, by decide +kernel, by decide +kernel⟩
theorem c_law_mark (T : Txt K mg) : Callee P w K mg base 1 "_law_mark" ["_law_digit", "_law_marks"] (spF K (fun p : Int × Int => [dI p.1, dI p.2]) (fun p _ => 2 ≤ p.2 ∧ p.2 ≤ 4) fun p => dI (p.1 % p.2)) := by
  obtain ⟨fd, F⟩ := T.f_law_mark
  refine callee_of F T.g_law_mark (fun _ _ _ _ _ _ us hl => match us, hl with | [_, _], _ => rfl) (F.ok sc_law_mark (fun _ => rfl) fun cdv A outer s H Q E p hr hp => ⟨_, (pss_cons (ps_if (pt_cmpR op_gt (pv 1) pe_int (nomark _)) (pss_one (ps_ret (pe_ix ix_seq (pe_lst (pa_cons pe_int (pa_cons pe_int (pa_cons pe_int (pa_cons (pe_op op_sub (pv 1) pe_int) pa_nil))))) (pe_op op_mod (pv 0) pe_int) (fun _ _ => rfl)))) pss_nil)
      (pss_one (ps_ret (pe_op op_mod (pv 0) (pv 1))))), fun σ En0 nx => ?_⟩)
  obtain ⟨c, m⟩ := p
  obtain ⟨h1, h2⟩ := hp
  simp only at h1 h2
  have En0 : En K H σ [some (dI c), some (dI m)] := En0
  refine q_whenI En0 (et_is (evt_of (evi_cmp (evi_var En0 rfl) (evi_int (b := true)))) (b := false) (decide_eq_false (by omega))) (fun h => by cases h) fun _ H1 e1 En1 => ?_
  exact s_retI (evi_op (C := fun _ j => 0 < j) (evi_var En1 rfl) (evi_var En1 rfl) (by omega)) fun v H' e y => nx v H' (e1.trans e) y
theorem sc_law_trim : FnScope ["_law_row_here", "_law_end", "_law_k"] ["_law_row_here"] (defScope s_law_trim) := ⟨rfl, rfl, rfl, by decide +kernel, rfl, by decide +kernel, by decide +kernel⟩
theorem c_law_trim (T : Txt K mg) : Callee P w K mg base 1 "_law_trim" ["_law_row_here"] (spF K (fun ns : List Int => [.q false (ns.map .int)]) (fun ns _ => ns.length ≤ 1000) fun ns => .d false (dInts (trim ns))) := by
  obtain ⟨fd, F⟩ := T.f_law_trim
  refine callee_of F T.g_law_trim (fun _ _ _ _ _ _ us hl => match us, hl with | [_], _ => rfl) (F.ok sc_law_trim (fun _ => rfl) fun cdv A outer s H Q E ns hr hp => ⟨_, (pss_cons (ps_set (i := 1) sc_law_trim.nd rfl (Or.inl rfl) (pe_callB call_len_seq (by rfl) T.z_len PySem.boot_len (pa_cons (pv 0) pa_nil)))
      (pss_cons (ps_for PassesOwn.never rfl (pi_range1 rfl T.z_range (pa_cons (pe_callB call_len_seq (by rfl) T.z_len PySem.boot_len (pa_cons (pv 0) pa_nil)) pa_nil)) (pg_name (i := 2) sc_law_trim.nd rfl (Or.inl rfl)) (pss_one (ps_if (PW.pt (pw_and (pt_cmpR op_gt (pv 1) pe_int (nomark _)) (pw_and1 (pt_cmpR (op_eqD hr.units) (pe_ix ix_seq (pv 0) (pe_op op_sub (pv 1) pe_int) (fun _ _ => rfl)) pe_int (nomark _))))) (pss_one (ps_set (i := 1) sc_law_trim.nd rfl (Or.inl rfl) (pe_op op_sub (pv 1) pe_int))) pss_nil)))
      (pss_one (ps_ret (pe_callTy call_tuple_of (by rfl) T.z_tuple (by decide +kernel) (pa_cons (pe_slice (SlR.or sl_list sl_tupA) (pv 0) po_none (po_some (pv 1))) pa_nil)))))), fun σ En0 nx => ?_⟩)
  have En0 : En K H σ [some (.q false (ns.map .int)), none, none] := En0
  refine q_setI En0 (evi_len (evi_var En0 rfl)) fun σ1 H1 e1 En1 => ?_
  rw [List.length_map] at En1
  refine q_forRI (n := (ns.length : Int)) En1 (EvIA.mono (Ex.refl _) (evia_cons (EvI.eq (evi_len (evi_var En1 rfl)) (by rw [List.length_map])) evia_nil)) (by omega) (fun i ks => ∃ (e : Nat) (o : Option Kd), ks = [some (.q false (ns.map .int)), some (dI (e : Int)), o] ∧ e ≤ ns.length ∧ trim (ns.take e) = trim ns ∧ (e + i = ns.length ∨ e = 0 ∨ ∃ x, ns[e - 1]? = some x ∧ x ≠ 0)) ⟨ns.length, _, rfl, Nat.le_refl _, by rw [List.take_length], .inl (by omega)⟩ (fun i ks' σ' H' hi ⟨e, o, ek, he, ht, hw⟩ ex En2 => ?_) fun ks' σ' H' ⟨e, o, ek, he, ht, hw⟩ ex En2 => ?_
  · subst ek
    have En2 : En K H' σ' [some (.q false (ns.map .int)), some (dI (e : Int)), some (dI (i : Int))] := En2
    cases e with
    | zero =>
      refine s_whenI En2 (et_is (et_and (evt_of (evi_cmp (evi_var En2 rfl) (evi_int (b := true)))) (b := false) fun h => absurd (of_decide_eq_true h) (by decide)) rfl) (fun h => by cases h) fun _ H3 e3 En3 => ⟨ex.trans e3, _, ⟨0, some (dI (i : Int)), rfl, Nat.zero_le _, ht, .inr (.inl rfl)⟩, En3⟩
    | succ m =>
      obtain ⟨x, hx⟩ : ∃ x, ns[m]? = some x := ⟨ns[m], List.getElem?_eq_getElem (by omega)⟩
      refine s_whenI (c := decide (x = 0)) En2 (et_is (et_and (evt_of (evi_cmp (evi_var En2 rfl) (evi_int (b := true)))) fun _ => evt_of (evi_eq (evi_ix (evi_var En2 rfl) (evi_op0 (evi_var En2 rfl) (evi_int (b := true))) (atI_at (j := m) (by omega) (map_get hx))) (evi_int (b := true)) (ok_int _).sh (ok_int _).sh)) ?_) (fun h H3 e3 En3 => ?_) fun h H3 e3 En3 => ?_
      · rw [eqv_int, decide_eq_true (show (0 : Int) < ((m + 1 : Nat) : Int) by omega), Bool.true_and]
      · have x0 := of_decide_eq_true h
        subst x0
        refine s_setI En3 (evi_op0 (evi_var En3 rfl) (evi_int (b := true))) fun σ4 H4 e4 En4 => ⟨ex.trans (e3.trans e4), _, ⟨m, some (dI (i : Int)), rfl, by omega, trim_take hx ht, ?_⟩, ?_⟩
        · rcases hw with hw | hw | ⟨y, hy, hy0⟩
          · exact .inl (by omega)
          · exact absurd hw (by omega)
          · rw [show m + 1 - 1 = m by omega, hx] at hy
            exact absurd (Option.some.inj hy).symm hy0
        · have e : ((m + 1 : Nat) : Int) - 1 = (m : Int) := by omega
          rw [e] at En4
          exact En4
      · refine ⟨ex.trans e3, _, ⟨m + 1, some (dI (i : Int)), rfl, he, ht, .inr (.inr ⟨x, hx, of_decide_eq_false h⟩)⟩, En3⟩
  · subst ek
    rw [Int.toNat_natCast] at hw
    have hr : ns.take e = trim ns := by
      cases e with
      | zero => rw [← ht]; rfl
      | succ m =>
        rcases hw with hw | hw | ⟨y, hy, hy0⟩
        · omega
        · omega
        · exact trim_done hy0 hy ht
    refine s_retI (evi_tupQ (evi_slQ (evi_var En2 rfl) evo_none (evo_some (evi_var En2 rfl)))) fun v H4 e4 y => nx v H4 ((e1.trans ex).trans e4) ?_
    rw [cutD_to, ← List.map_take, hr] at y
    exact y
theorem sc_law_moved : FnScope ["_law_tape", "_law_move", "_law_left", "_law_mark_here", "_law_right"] ["_law_tape", "_law_move"] (defScope s_law_moved) := ⟨rfl, rfl, rfl, by decide +kernel, rfl, by decide +kernel, by decide +kernel⟩
theorem c_law_moved (T : Txt K mg) : Callee P w K mg base 2 "_law_moved" ["_law_tape", "_law_move"] (spF K (fun p : (List Int × Int × List Int) × Int => [.d false (dTape p.1.1 p.1.2.1 p.1.2.2), dI p.2]) (fun p _ => p.1.1.length ≤ 900 ∧ p.1.2.2.length ≤ 900)
    fun p => .d false (dTape (movedT p.2 p.1.1 p.1.2.1 p.1.2.2).1 (movedT p.2 p.1.1 p.1.2.1 p.1.2.2).2.1 (movedT p.2 p.1.1 p.1.2.1 p.1.2.2).2.2)) := by
  obtain ⟨fd, F⟩ := T.f_law_moved
  refine callee_of F T.g_law_moved (fun _ _ _ _ _ _ us hl => match us, hl with | [_, _], _ => rfl) (F.ok sc_law_moved (fun _ => rfl) fun cdv A outer s H Q E p hr hp => ⟨_, (pss_cons (ps_asg (pv 0) (pg_tup (by rfl) (pgs_cons (pg_name (i := 2) sc_law_moved.nd rfl (Or.inl rfl)) (pgs_cons (pg_name (i := 3) sc_law_moved.nd rfl (Or.inl rfl)) (pgs_cons (pg_name (i := 4) sc_law_moved.nd rfl (Or.inl rfl)) pgs_nil)))))
      (pss_cons (ps_if (pt_cmpR (op_eqD hr.units) (pv 1) pe_int (nomark _)) (pss_one (ps_ret (pe_tup (pa_cons (pe_C (c_law_trim T) hr (by decide) (by rfl) (pa_cons (pe_op op_catA (pe_tup (pa_cons (pv 3) pa_nil)) (pv 2)) pa_nil)) (pa_cons (pe_ix ix_seq (pe_op op_catA (pv 4) (pe_tup (pa_cons pe_int pa_nil))) pe_int (fun _ _ => rfl)) (pa_cons (pe_slice (SlR.or sl_list sl_tupA) (pv 4) (po_some pe_int) po_none) pa_nil)))))) pss_nil)
      (pss_cons (ps_if (pt_cmpR (op_eqD hr.units) (pv 1) (pe_un un_neg pe_int) (nomark _)) (pss_one (ps_ret (pe_tup (pa_cons (pe_slice (SlR.or sl_list sl_tupA) (pv 2) (po_some pe_int) po_none) (pa_cons (pe_ix ix_seq (pe_op op_catA (pv 2) (pe_tup (pa_cons pe_int pa_nil))) pe_int (fun _ _ => rfl)) (pa_cons (pe_C (c_law_trim T) hr (by decide) (by rfl) (pa_cons (pe_op op_catA (pe_tup (pa_cons (pv 3) pa_nil)) (pv 4)) pa_nil)) pa_nil)))))) pss_nil)
      (pss_one (ps_ret (pv 0)))))), fun σ En0 nx => ?_⟩)
  obtain ⟨⟨l, a, r⟩, d⟩ := p
  obtain ⟨h1, h2⟩ := hp
  simp only at h1 h2
  have En0 : En K H σ [some (.d false (.tuple [dInts l, .int a, dInts r])), some (dI d), none, none, none] := En0
  refine q_tupI (is := [2, 3, 4]) En0 (evi_var En0 rfl) rfl rfl fun σ1 H1 e1 En1 => ?_
  have En1 : En K H1 σ1 [some (.d false (.tuple [dInts l, .int a, dInts r])), some (dI d), some (.d false (dInts l)), some (.d false (.int a)), some (.d false (dInts r))] := En1
  have push : ∀ (l : List Int), l.length ≤ 900 → (1 : Nat) + (l.map PyData.int).length ≤ 100000 := fun l h => by rw [List.length_map]; omega
  have app1 : ∀ (l : List Int), l.length ≤ 900 → (l.map PyData.int).length + 1 ≤ 100000 := fun l h => by rw [List.length_map]; omega
  refine q_whenI En1 (et_is (evt_of (evi_eq (evi_var En1 rfl) (evi_int (b := true)) (ok_int _).sh (ok_int _).sh)) (b := decide (d = 1)) (eqv_int _ _)) (fun h H2 e2 En2 => ?_) fun h H2 e2 En2 => ?_
  · have h := of_decide_eq_true h
    subst h
    refine s_retI (evi_tup3 (evi_call (a :: l) (evia_cons (EvI.dq (evi_catT (evi_tup1 (evi_var En2 rfl)) (evi_var En2 rfl) (push l h1))) evia_nil) fun _ _ => by show l.length + 1 ≤ 1000; omega) (evi_ix (EvI.dq (evi_catT (evi_var En2 rfl) (evi_tup1 (evi_int (b := false))) (app1 r h2))) (evi_int (b := true)) (atI_at (j := 0) rfl (headD_get r)))
      (EvI.eq (evi_slT (evi_var En2 rfl) (evo_some (K := K) (evi_int (b := true))) evo_none) (by rw [cut1]; rfl))) fun v H3 e3 y => nx v H3 ((e1.trans e2).trans e3) y
  · have h := of_decide_eq_false h
    refine q_whenI En2 (et_is (evt_of (evi_eq (evi_var En2 rfl) (evi_neg (evi_int (b := true))) (ok_int _).sh (ok_int _).sh)) (b := decide (d = -1)) (eqv_int _ _)) (fun h' H3 e3 En3 => ?_) fun h' H3 e3 En3 => ?_
    · have h' := of_decide_eq_true h'
      subst h'
      refine s_retI (evi_tup3 (EvI.eq (evi_slT (evi_var En3 rfl) (evo_some (K := K) (evi_int (b := true))) evo_none) (by rw [cut1]; rfl)) (evi_ix (EvI.dq (evi_catT (evi_var En3 rfl) (evi_tup1 (evi_int (b := false))) (app1 l h1))) (evi_int (b := true)) (atI_at (j := 0) rfl (headD_get l)))
        (evi_call (a :: r) (evia_cons (EvI.dq (evi_catT (evi_tup1 (evi_var En3 rfl)) (evi_var En3 rfl) (push r h2))) evia_nil) fun _ _ => by show r.length + 1 ≤ 1000; omega)) fun v H4 e4 y => nx v H4 (((e1.trans e2).trans e3).trans e4) y
    · have h' := of_decide_eq_false h'
      refine s_retI (evi_var En3 rfl) fun v H4 e4 y => nx v H4 (((e1.trans e2).trans e3).trans e4) ?_
      have em : movedT d l a r = (l, a, r) := by unfold movedT; rw [if_neg h, if_neg h']
      show Is K H4 v (.d false (dTape (movedT d l a r).1 (movedT d l a r).2.1 (movedT d l a r).2.2))
      rw [em]
      exact y
theorem sc_law_row : FnScope ["_law_digits_here", "_law_sizes_here", "_law_tapes", "_law_marks", "_law_states", "_law_state", "_law_following", "_law_k", "_law_reads", "_law_writes"] ["_law_digits_here", "_law_sizes_here"] (defScope s_law_row) := ⟨rfl, rfl, rfl, by decide +kernel, rfl, by decide +kernel, by decide +kernel⟩
def lrow (ds : List Int) (m s : Int) : Row := if (lcell ds 2) % 3 = 0 then .mv (lcell ds 0 % s) (lcell ds 3 % 3 - 1) (lcell ds 1 % s) else .wr (lcell ds 0 % s) (lcell ds 3 % m) (lcell ds 6 % m) (lcell ds 1 % s)
theorem lrow_ok {ds : List Int} {m s : Int} (hm : 0 < m) (hs : 0 < s) : (lrow ds m s).ok m s := by
  have e := fun (x y : Int) (h : 0 < y) => And.intro (Int.emod_nonneg x (show y ≠ 0 by omega)) (Int.emod_lt_of_pos x h)
  unfold lrow
  split
  · have := e (lcell ds 3) 3 (by decide)
    exact ⟨e _ _ hs, by omega, e _ _ hs⟩
  · exact ⟨e _ _ hs, e _ _ hm, e _ _ hm, e _ _ hs⟩
theorem lcell_get {ds : List Int} {i : Nat} (h : i < ds.length) : (ds.map PyData.int)[i]? = some (.int (lcell ds i)) := by
  rw [List.getElem?_map, List.getElem?_eq_getElem h]
  unfold lcell
  rw [List.getElem?_eq_getElem h]
  rfl
theorem one_rng (f : PyData → PyData) : (rngs (1 : Int).toNat).map f = [f (.int 0)] := rfl
theorem c_law_row (T : Txt K mg) : Callee P w K mg base 2 "_law_row" ["_law_digits_here", "_law_sizes_here"] (spF K (fun p : List Int × Int × Int => [.l true (p.1.map .int), .d true (.tuple [.int 1, .int p.2.1, .int p.2.2])]) (fun p _ => p.1.length = 10 ∧ (2 ≤ p.2.1 ∧ p.2.1 ≤ 4) ∧ 1 ≤ p.2.2 ∧ p.2.2 ≤ 5) fun p => .d true (dRow (lrow p.1 p.2.1 p.2.2))) := by
  obtain ⟨fd, F⟩ := T.f_law_row
  refine callee_of F T.g_law_row (fun _ _ _ _ _ _ us hl => match us, hl with | [_, _], _ => rfl) (F.ok sc_law_row (fun _ => rfl) fun cdv A outer s H Q E p hr hp => ⟨_, (pss_cons (ps_asg (pv 1) (pg_tup (by rfl) (pgs_cons (pg_name (i := 2) sc_law_row.nd rfl (Or.inl rfl)) (pgs_cons (pg_name (i := 3) sc_law_row.nd rfl (Or.inr rfl)) (pgs_cons (pg_name (i := 4) sc_law_row.nd rfl (Or.inl rfl)) pgs_nil)))))
      (pss_cons (ps_par (i := 5) (j := 6) rfl sc_law_row.nd rfl rfl (by decide) rfl rfl (pa_cons (pe_op op_mod (pe_ix ix_seq (pv 0) pe_int (fun _ _ => rfl)) (pv 4)) (pa_cons (pe_op op_mod (pe_ix ix_seq (pv 0) pe_int (fun _ _ => rfl)) (pv 4)) pa_nil)) (by rfl))
      (pss_cons (ps_if (pt_cmpR (op_eqD hr.units) (pe_op op_mod (pe_ix ix_seq (pv 0) pe_int (fun _ _ => rfl)) pe_int) pe_int (nomark _)) (pss_one (ps_ret (pe_tup (pa_cons pe_str (pa_cons (pv 5) (pa_cons (pe_callTy call_tuple_of (by rfl) T.z_tuple (by decide +kernel) (pa_cons (pe_lc (own := [("_law_k", 7)]) (te := (tOp _ (tOp _ (tOp (rIx K) (tVar 0) (tOp _ (tC _) (tVar 7))) (tC _)) (tC _))) (tt := tYes) rfl sc_law_row.nd (pi_range1 rfl T.z_range (pa_cons (pv 2) pa_nil)) (blkOk_by (N := ["_law_digits_here", "_law_sizes_here", "_law_tapes", "_law_marks", "_law_states", "_law_state", "_law_following", "_law_k", "_law_reads", "_law_writes"]) (sc := defScope s_law_row) (by decide +kernel)) (fun _ _ _ _ _ => (pg_name (i := 7) sc_law_row.nd rfl (Or.inl rfl))) (fun _ _ _ _ _ => pts_nil) (fun _ _ _ _ _ => (pe_op op_sub (pe_op op_mod (pe_ix ix_seq (pv 0) (pe_op op_add pe_int (pv 7)) (fun _ _ => rfl)) pe_int) pe_int))) pa_nil)) (pa_cons (pv 6) pa_nil))))))) pss_nil)
      (pss_cons (ps_set (i := 8) sc_law_row.nd rfl (Or.inl rfl) (pe_callTy call_tuple_of (by rfl) T.z_tuple (by decide +kernel) (pa_cons (pe_lc (own := [("_law_k", 7)]) (te := (tCall _ [] E0 (tCons (tOp (rIx K) (tVar 0) (tOp _ (tC _) (tVar 7))) (tCons (tVar 3) tNil)))) (tt := tYes) rfl sc_law_row.nd (pi_range1 rfl T.z_range (pa_cons (pv 2) pa_nil)) (blkOk_by (N := ["_law_digits_here", "_law_sizes_here", "_law_tapes", "_law_marks", "_law_states", "_law_state", "_law_following", "_law_k", "_law_reads", "_law_writes"]) (sc := defScope s_law_row) (by decide +kernel)) (fun _ _ _ _ _ => (pg_name (i := 7) sc_law_row.nd rfl (Or.inl rfl))) (fun _ _ _ _ _ => pts_nil) (fun _ _ _ _ _ => (pe_C (c_law_mark T) hr (by decide) (by rfl) (pa_cons (pe_ix ix_seq (pv 0) (pe_op op_add pe_int (pv 7)) (fun _ _ => rfl)) (pa_cons (pv 3) pa_nil))))) pa_nil)))
      (pss_cons (ps_set (i := 9) sc_law_row.nd rfl (Or.inl rfl) (pe_callTy call_tuple_of (by rfl) T.z_tuple (by decide +kernel) (pa_cons (pe_lc (own := [("_law_k", 7)]) (te := (tCall _ [] E0 (tCons (tOp (rIx K) (tVar 0) (tOp _ (tC _) (tVar 7))) (tCons (tVar 3) tNil)))) (tt := tYes) rfl sc_law_row.nd (pi_range1 rfl T.z_range (pa_cons (pv 2) pa_nil)) (blkOk_by (N := ["_law_digits_here", "_law_sizes_here", "_law_tapes", "_law_marks", "_law_states", "_law_state", "_law_following", "_law_k", "_law_reads", "_law_writes"]) (sc := defScope s_law_row) (by decide +kernel)) (fun _ _ _ _ _ => (pg_name (i := 7) sc_law_row.nd rfl (Or.inl rfl))) (fun _ _ _ _ _ => pts_nil) (fun _ _ _ _ _ => (pe_C (c_law_mark T) hr (by decide) (by rfl) (pa_cons (pe_ix ix_seq (pv 0) (pe_op op_add pe_int (pv 7)) (fun _ _ => rfl)) (pa_cons (pv 3) pa_nil))))) pa_nil)))
      (pss_one (ps_ret (pe_tup (pa_cons pe_str (pa_cons (pv 5) (pa_cons (pv 8) (pa_cons (pv 9) (pa_cons (pv 6) pa_nil))))))))))))), fun σ En0 nx => ?_⟩)
  obtain ⟨ds, m, s⟩ := p
  obtain ⟨hl, ⟨m2, m4⟩, s1, s5⟩ := hp
  simp only at hl m2 m4 s1 s5
  have En0 : En K H σ [some (.l true (ds.map .int)), some (.d true (.tuple [.int 1, .int m, .int s])), none, none, none, none, none, none, none, none] := En0
  refine q_tupI (is := [2, 3, 4]) En0 (evi_var En0 rfl) rfl rfl fun σ1 H1 e1 En1 => ?_
  have En1 : En K H1 σ1 [some (.l true (ds.map .int)), some (.d true (.tuple [.int 1, .int m, .int s])), some (.d true (.int 1)), some (.d true (.int m)), some (.d true (.int s)), none, none, none, none, none] := En1
  have g := fun (i : Nat) (h : i < 10) => lcell_get (ds := ds) (i := i) (by omega)
  refine q_parI En1 (evia_cons (evi_op (C := fun _ j => 0 < j) (evi_ix (EvI.lq (evi_var En1 rfl)) (evi_int (b := true)) (atI_at (j := 0) rfl (g 0 (by decide)))) (evi_var En1 rfl) (by omega)) (evia_cons (evi_op (C := fun _ j => 0 < j) (evi_ix (EvI.lq (evi_var En1 rfl)) (evi_int (b := true)) (atI_at (j := 1) rfl (g 1 (by decide)))) (evi_var En1 rfl) (by omega)) evia_nil)) fun σ2 H2 e2 En2 => ?_
  refine q_whenI (c := decide (lcell ds 2 % 3 = 0)) En2 (et_is (evt_of (evi_eq (evi_op (C := fun _ j => 0 < j) (evi_ix (EvI.lq (evi_var En2 rfl)) (evi_int (b := true)) (atI_at (j := 2) rfl (g 2 (by decide)))) (evi_int (b := true)) (by decide)) (evi_int (b := true)) (ok_int _).sh (ok_int _).sh)) (eqv_int _ _)) (fun h H3 e3 En3 => ?_) fun h H3 e3 En3 => ?_
  · have h := of_decide_eq_true h
    refine s_retI (evi_tup (b := true) (ds := [.str "move", .int (lcell ds 0 % s), dInts [lcell ds 3 % 3 - 1], .int (lcell ds 1 % s)]) (evia_cons evi_str (evia_cons (evi_var En3 rfl) (evia_cons (evi_tupL (EvI.eq (evi_lcR1 (n := 1) (fun _ => .int (lcell ds 3 % 3 - 1)) En3 (evia_cons (evi_var En3 rfl) evia_nil) (by decide) fun i σ4 H4 hi e4 En4 => ?_) (by rw [one_rng]; rfl))) (evia_cons (evi_var En3 rfl) evia_nil)))) (by show 4 ≤ 100000; decide)) fun v H' e y => nx v H' (((e1.trans e2).trans e3).trans e) ?_
    · have hi0 : i = 0 := by omega
      subst hi0
      exact evi_op0 (evi_op (C := fun _ j => 0 < j) (evi_ix (EvI.lq (evi_var En4 rfl)) (evi_op0 (evi_int (b := true)) (evi_var En4 rfl)) (atI_at (j := 3) rfl (g 3 (by decide)))) (evi_int (b := true)) (by decide)) (evi_int (b := true))
    · show Is K H' v (.d true (dRow (lrow ds m s)))
      unfold lrow
      rw [if_pos h]
      exact y
  · have h := of_decide_eq_false h
    refine q_setI (k := .d true (dInts [lcell ds 3 % m])) En3 (evi_tupL (EvI.eq (evi_lcR1 (n := 1) (fun _ => .int (lcell ds 3 % m)) En3 (evia_cons (evi_var En3 rfl) evia_nil) (by decide) fun i σ4 H4 hi e4 En4 => ?_) (by rw [one_rng]; rfl))) fun σ4 H4 e4 En4 => ?_
    · have hi0 : i = 0 := by omega
      subst hi0
      exact evi_call (lcell ds 3, m) (evia_cons (evi_ix (EvI.lq (evi_var En4 rfl)) (evi_op0 (evi_int (b := true)) (evi_var En4 rfl)) (atI_at (j := 3) rfl (g 3 (by decide)))) (evia_cons (evi_var En4 rfl) evia_nil)) fun _ _ => ⟨m2, m4⟩
    refine q_setI (k := .d true (dInts [lcell ds 6 % m])) En4 (evi_tupL (EvI.eq (evi_lcR1 (n := 1) (fun _ => .int (lcell ds 6 % m)) En4 (evia_cons (evi_var En4 rfl) evia_nil) (by decide) fun i σ5 H5 hi e5 En5 => ?_) (by rw [one_rng]; rfl))) fun σ5 H5 e5 En5 => ?_
    · have hi0 : i = 0 := by omega
      subst hi0
      exact evi_call (lcell ds 6, m) (evia_cons (evi_ix (EvI.lq (evi_var En5 rfl)) (evi_op0 (evi_int (b := true)) (evi_var En5 rfl)) (atI_at (j := 6) rfl (g 6 (by decide)))) (evia_cons (evi_var En5 rfl) evia_nil)) fun _ _ => ⟨m2, m4⟩
    refine s_retI (evi_tup (b := true) (ds := [.str "write", .int (lcell ds 0 % s), dInts [lcell ds 3 % m], dInts [lcell ds 6 % m], .int (lcell ds 1 % s)]) (evia_cons evi_str (evia_cons (evi_var En5 rfl) (evia_cons (evi_var En5 rfl) (evia_cons (evi_var En5 rfl) (evia_cons (evi_var En5 rfl) evia_nil))))) (by show 5 ≤ 100000; decide)) fun v H' e y => nx v H' (((((e1.trans e2).trans e3).trans e4).trans e5).trans e) ?_
    show Is K H' v (.d true (dRow (lrow ds m s)))
    unfold lrow
    rw [if_neg h]
    exact y
end
end Bk

set_option Elab.async false
set_option linter.all false
set_option maxRecDepth 100000
set_option maxHeartbeats 4000000
set_option autoImplicit false
namespace Bk
open PySem PySem.Spec PyProof.Rows L2 Evl
/-! ### rows as data -/
def rowDs : Row → List PyData
  | .wr q a b t => [.str "write", .int q, dInts [a], dInts [b], .int t]
  | .mv q d t => [.str "move", .int q, dInts [d], .int t]
def Row.tag : Row → Str
  | .wr _ _ _ _ => "write"
  | .mv _ _ _ => "move"
def Row.isWr : Row → Bool
  | .wr _ _ _ _ => true
  | .mv _ _ _ => false
theorem dRow_eq (r : Row) : dRow r = .tuple (rowDs r) := by cases r <;> rfl
theorem row_tag (r : Row) : atI (rowDs r) 0 = some (.str r.tag) := by cases r <;> rfl
theorem row_st (r : Row) : atI (rowDs r) 1 = some (.int r.st) := by cases r <;> rfl
theorem row_nx (r : Row) : atI (rowDs r) (-1) = some (.int r.nx) := by cases r <;> rfl
theorem ok_tag (r : Row) : okD 0 (.str r.tag) := by
  cases r
  · exact ok_write
  · exact ok_move
theorem tag_wr (r : Row) : PyData.eqv (.str r.tag) (.str "write") = r.isWr := by
  cases r
  · exact eqv_self rfl
  · rw [eqv_str]
    exact (by decide +kernel : decide (("move" : Str) = "write") = false)
theorem tag_mv (r : Row) : PyData.eqv (.str r.tag) (.str "move") = !r.isWr := by
  cases r
  · rw [eqv_str]
    exact (by decide +kernel : decide (("write" : Str) = "move") = false)
  · exact eqv_self rfl
section
variable {b : Bool} {K : PySem.W.Frag} {te : TE} {σ : L2.St} {H : Hp}
theorem q_ifSetI {D : Ends} {tt : TT} {tz : TS} {ks : List (Option Kd)} {i : Nat} {c : Bool} {k : Kd} (E : En K H σ ks) (h : EvT tt σ H c) (h1 : c = true → EvI K te σ H k) (h2 : c = false → ks[i]? = some (some k)) (nx : ∀ σ' H', Ex H H' → En K H' σ' (ks.set i (some k)) → tz D σ' H') : tSeq (tIfS tt (tAsg te (gName i)) tNext) tz D σ H := by
  refine q_whenI (c := c) E h (fun hc H1 e1 E1 => ?_) fun hc H1 e1 E1 => ?_
  · exact s_setI E1 ((h1 hc).mono e1) fun σ' H' e E' => nx σ' H' (e1.trans e) E'
  · refine nx σ H1 e1 ?_
    have q := h2 hc
    have e : ks.set i (some k) = ks := by
      apply List.ext_getElem?
      intro j
      by_cases hj : i = j
      · subst hj
        rw [q, List.getElem?_set_self (List.getElem?_eq_some_iff.mp q).1]
      · rw [List.getElem?_set_ne hj]
    rw [e]
    exact E1
theorem evi_row {r : Row} (h : EvI K te σ H (.d b (dRow r))) : EvI K te σ H (.q b (rowDs r)) := EvI.dq (h.eq (by rw [dRow_eq]))
end
/-! ### clashes -/
def clB : Bool → Row → Row → Bool
  | true, r, r' => r.bwd.cl r'.bwd
  | false, r, r' => r.cl r'
def cAt (bk : Bool) (rows : List Row) (i j : Nat) : Bool := match rows[i]?, rows[j]? with
  | some r, some r' => clB bk r r'
  | _, _ => false
def inn (bk : Bool) (rows : List Row) (i : Nat) : Option Nat := (List.range (rows.length - (i + 1))).find? fun k => cAt bk rows i (i + 1 + k)
def lclash (bk : Bool) (rows : List Row) : PyData := match (List.range rows.length).find? fun i => (inn bk rows i).isSome with
  | none => .none
  | some i => match inn bk rows i with
    | some k => .tuple [.int (i : Int), .int ((i + 1 + k : Nat) : Int)]
    | none => .none
theorem find_range_none {p : Nat → Bool} {n : Nat} : (List.range n).find? p = none ↔ ∀ i < n, p i = false := by
  rw [List.find?_eq_none]
  constructor
  · intro h i hi
    have := h i (List.mem_range.mpr hi)
    cases q : p i with
    | true => exact absurd q this
    | false => rfl
  · intro h i hi
    rw [h i (List.mem_range.mp hi)]
    exact Bool.false_ne_true
theorem find_range_some {p : Nat → Bool} {n i : Nat} (hi : i < n) (h : p i = true) (hl : ∀ j < i, p j = false) : (List.range n).find? p = some i := by
  rw [List.find?_range_eq_some]
  refine ⟨h, List.mem_range.mpr hi, fun j hj => ?_⟩
  rw [hl j hj]
  rfl
theorem lclash_at {bk : Bool} {rows : List Row} {i k : Nat} (hi : i < rows.length) (hk : k < rows.length - (i + 1)) (h1 : ∀ i' < i, inn bk rows i' = none) (h2 : ∀ k' < k, cAt bk rows i (i + 1 + k') = false) (h : cAt bk rows i (i + 1 + k) = true) : lclash bk rows = .tuple [.int (i : Int), .int ((i + 1 + k : Nat) : Int)] := by
  have e1 : inn bk rows i = some k := find_range_some hk h h2
  have e2 : (List.range rows.length).find? (fun i => (inn bk rows i).isSome) = some i := find_range_some hi (by rw [e1]; rfl) fun j hj => by rw [h1 j hj]; rfl
  unfold lclash
  simp only [e2, e1]
theorem lclash_no {bk : Bool} {rows : List Row} (h1 : ∀ i' < rows.length, inn bk rows i' = none) : lclash bk rows = .none := by
  have e2 : (List.range rows.length).find? (fun i => (inn bk rows i).isSome) = none := find_range_none.mpr fun i hi => by rw [h1 i hi]; rfl
  unfold lclash
  simp only [e2]
theorem lclash_none {bk : Bool} {rows : List Row} (h : isNone (lclash bk rows) = true) : rows.Pairwise fun r r' => clB bk r r' = false := by
  have e2 : ∀ i < rows.length, inn bk rows i = none := by
    unfold lclash at h
    split at h
    · rename_i e
      intro i hi
      have := find_range_none.mp e i hi
      cases q : inn bk rows i with
      | none => rfl
      | some k => rw [q] at this; cases this
    · rename_i i e
      have q := List.find?_some e
      cases q2 : inn bk rows i with
      | none => rw [q2] at q; cases q
      | some k => rw [q2] at h; cases h
  rw [List.pairwise_iff_getElem]
  intro i j hi hj hij
  have q := find_range_none.mp (e2 i hi) (j - (i + 1)) (by omega)
  rw [show i + 1 + (j - (i + 1)) = j by omega] at q
  unfold cAt at q
  rw [List.getElem?_eq_getElem hi, List.getElem?_eq_getElem hj] at q
  exact q
def endsD (bk : Bool) (r r' : Row) : List PyData := if bk then [.int r.nx, .int r'.nx] else [.int r.st, .int r'.st]
def keyD (bk : Bool) : Row → Row → PyData × PyData
  | .wr _ a c _, .wr _ a' c' _ => if bk then (dInts [c], dInts [c']) else (dInts [a], dInts [a'])
  | _, _ => (.int 0, .int 0)
theorem ok_key (bk : Bool) (r r' : Row) : okD 1 (keyD bk r r').1 ∧ okD 1 (keyD bk r r').2 := by
  cases r <;> cases r' <;> cases bk <;> exact ⟨by first | exact ok_ints _ | exact (ok_int _).up, by first | exact ok_ints _ | exact (ok_int _).up⟩
def endD (bk : Bool) (r : Row) : Int := if bk then r.nx else r.st
theorem endsD_eq (bk : Bool) (r r' : Row) : endsD bk r r' = [.int (endD bk r), .int (endD bk r')] := by cases bk <;> rfl
theorem cl_test (bk : Bool) (r r' : Row) : (PyData.eqv (.int (endD bk r)) (.int (endD bk r')) && PyData.eqv (keyD bk r r').1 (keyD bk r r').2) = clB bk r r' := by
  have one : ∀ a a' : Int, decide ([a] = [a']) = decide (a = a') := fun a a' => by simp
  rw [eqv_int]
  cases r with
  | wr q a c t =>
    cases r' with
    | wr q' a' c' t' =>
      cases bk
      · show (decide (q = q') && PyData.eqv (dInts [a]) (dInts [a'])) = decide (q = q' ∧ a = a')
        rw [eqv_ints, one, Bool.decide_and]
      · show (decide (t = t') && PyData.eqv (dInts [c]) (dInts [c'])) = decide (t = t' ∧ c = c')
        rw [eqv_ints, one, Bool.decide_and]
    | mv q' d t' =>
      cases bk <;> exact (congrArg _ (eqv_self rfl)).trans (Bool.and_true _)
  | mv q d t =>
    cases r' with
    | wr q' a' c' t' => cases bk <;> exact (congrArg _ (eqv_self rfl)).trans (Bool.and_true _)
    | mv q' d t' => cases bk <;> exact (congrArg _ (eqv_self rfl)).trans (Bool.and_true _)
section
variable {P : Program} {w : World} {K : PySem.W.Frag} {mg : Str → Option Value} {base : Heap}
theorem sc_law_clash : FnScope ["_law_rows_here", "_law_is_back", "_law_first", "_law_second", "_law_one", "_law_two", "_law_ends", "_law_keys"] ["_law_rows_here", "_law_is_back"] (defScope s_law_clash) := ⟨rfl, rfl, rfl, by decide +kernel, rfl, by decide +kernel, by decide +kernel⟩
theorem c_law_clash (T : Txt K mg) : Callee P w K mg base 1 "_law_clash" ["_law_rows_here", "_law_is_back"] (spF K (fun p : List Row × Bool => [.l true (p.1.map dRow), dB p.2]) (fun p _ => p.1.length ≤ 1000) fun p => .d false (lclash p.2 p.1)) := by
  obtain ⟨fd, F⟩ := T.f_law_clash
  refine callee_of F T.g_law_clash (fun _ _ _ _ _ _ us hl => match us, hl with | [_, _], _ => rfl) (F.ok sc_law_clash (fun _ => rfl) fun cdv A outer s H Q E p hr hp => ⟨_, (pss_cons (ps_for PassesOwn.never rfl (pi_range1 rfl T.z_range (pa_cons (pe_callB call_len_seq (by rfl) T.z_len PySem.boot_len (pa_cons (pv 0) pa_nil)) pa_nil)) (pg_name (i := 2) sc_law_clash.nd rfl (Or.inl rfl)) (pss_one (ps_for PassesOwn.never rfl (pi_range2 rfl T.z_range (pa_cons (pe_op op_add (pv 2) pe_int) (pa_cons (pe_callB call_len_seq (by rfl) T.z_len PySem.boot_len (pa_cons (pv 0) pa_nil)) pa_nil))) (pg_name (i := 3) sc_law_clash.nd rfl (Or.inl rfl)) (pss_cons (ps_par (i := 4) (j := 5) rfl sc_law_clash.nd rfl rfl (by decide) rfl rfl (pa_cons (pe_ix ix_seq (pv 0) (pv 2) (fun _ _ => rfl)) (pa_cons (pe_ix ix_seq (pv 0) (pv 3) (fun _ _ => rfl)) pa_nil)) (by rfl))
      (pss_cons (ps_set (i := 6) sc_law_clash.nd rfl (Or.inl rfl) (pe_ix ix_seq (pe_lst (pa_cons (pe_lst (pa_cons (pe_ix ix_seq (pv 4) pe_int (fun _ _ => rfl)) (pa_cons (pe_ix ix_seq (pv 5) pe_int (fun _ _ => rfl)) pa_nil))) (pa_cons (pe_lst (pa_cons (pe_ix ix_seq (pv 4) (pe_un un_neg pe_int) (fun _ _ => rfl)) (pa_cons (pe_ix ix_seq (pv 5) (pe_un un_neg pe_int) (fun _ _ => rfl)) pa_nil))) pa_nil))) (pe_callTy call_int1 (by rfl) T.z_int (by decide +kernel) (pa_cons (pv 1) pa_nil)) (fun _ _ => rfl)))
      (pss_cons (ps_set (i := 7) sc_law_clash.nd rfl (Or.inl rfl) (pe_lst (pa_cons pe_int (pa_cons pe_int pa_nil))))
      (pss_cons (ps_if (PW.pt (pw_and (pt_cmpR (op_eqD hr.units) (pe_ix ix_seq (pv 4) pe_int (fun _ _ => rfl)) pe_str (nomark _)) (pw_and1 (pt_cmpR (op_eqD hr.units) (pe_ix ix_seq (pv 5) pe_int (fun _ _ => rfl)) pe_str (nomark _))))) (pss_one (ps_set (i := 7) sc_law_clash.nd rfl (Or.inl rfl) (pe_ix ix_seq (pe_lst (pa_cons (pe_lst (pa_cons (pe_ix ix_seq (pv 4) pe_int (fun _ _ => rfl)) (pa_cons (pe_ix ix_seq (pv 5) pe_int (fun _ _ => rfl)) pa_nil))) (pa_cons (pe_lst (pa_cons (pe_ix ix_seq (pv 4) pe_int (fun _ _ => rfl)) (pa_cons (pe_ix ix_seq (pv 5) pe_int (fun _ _ => rfl)) pa_nil))) pa_nil))) (pe_callTy call_int1 (by rfl) T.z_int (by decide +kernel) (pa_cons (pv 1) pa_nil)) (fun _ _ => rfl)))) pss_nil)
      (pss_one (ps_if (PW.pt (pw_and (pt_cmpR (op_eqD hr.units) (pe_ix ix_seq (pv 6) pe_int (fun _ _ => rfl)) (pe_ix ix_seq (pv 6) pe_int (fun _ _ => rfl)) (nomark _)) (pw_and1 (pt_cmpR (op_eqD hr.units) (pe_ix ix_seq (pv 7) pe_int (fun _ _ => rfl)) (pe_ix ix_seq (pv 7) pe_int (fun _ _ => rfl)) (nomark _))))) (pss_one (ps_ret (pe_tup (pa_cons (pv 2) (pa_cons (pv 3) pa_nil))))) pss_nil)))))))))
      (pss_one (ps_ret pe_non))), fun σ En0 nx => ?_⟩)
  obtain ⟨rows, bk⟩ := p
  simp only at hp
  have En0 : En K H σ [some (.l true (rows.map dRow)), some (dB bk), none, none, none, none, none, none] := En0
  have lr : (rows.map dRow).length = rows.length := List.length_map ..
  refine q_forRI (n := (rows.length : Int)) En0 (evia_cons (EvI.eq (evi_len (EvI.lq (evi_var En0 rfl))) (by rw [lr])) evia_nil) (by omega) (fun i ks => ∃ o2 o3 o4 o5 o6 o7, ks = [some (.l true (rows.map dRow)), some (dB bk), o2, o3, o4, o5, o6, o7] ∧ ∀ i' < i, inn bk rows i' = none) ⟨_, _, _, _, _, _, rfl, fun _ h => absurd h (Nat.not_lt_zero _)⟩ (fun i ks' σ' H' hi ⟨o2, o3, o4, o5, o6, o7, ek, hw⟩ ex En1 => ?_) fun ks' σ' H' ⟨o2, o3, o4, o5, o6, o7, ek, hw⟩ ex En1 => ?_
  · subst ek
    have En1 : En K H' σ' [some (.l true (rows.map dRow)), some (dB bk), some (dI (i : Int)), o3, o4, o5, o6, o7] := En1
    have hi : i < rows.length := by omega
    refine s_forR2I (lo := (i : Int) + 1) (n := (rows.length : Int)) En1 (evia_cons (evi_op0 (evi_var En1 rfl) (evi_int (b := true))) (evia_cons (EvI.eq (evi_len (EvI.lq (evi_var En1 rfl))) (by rw [lr])) evia_nil)) (by omega) (fun k ks => ∃ o3 o4 o5 o6 o7, ks = [some (.l true (rows.map dRow)), some (dB bk), some (dI (i : Int)), o3, o4, o5, o6, o7] ∧ ∀ k' < k, cAt bk rows i (i + 1 + k') = false) ⟨_, _, _, _, _, rfl, fun _ h => absurd h (Nat.not_lt_zero _)⟩ (fun k ks' σ2 H2 hk ⟨o3, o4, o5, o6, o7, ek, hw2⟩ ex2 En2 => ?_) fun ks' σ2 H2 ⟨o3, o4, o5, o6, o7, ek, hw2⟩ ex2 En2 => ?_
    · subst ek
      have En2 : En K H2 σ2 [some (.l true (rows.map dRow)), some (dB bk), some (dI (i : Int)), some (dI ((i : Int) + 1 + (k : Int))), o4, o5, o6, o7] := En2
      have hj : i + 1 + k < rows.length := by omega
      obtain ⟨r, hr1⟩ : ∃ r, rows[i]? = some r := ⟨_, List.getElem?_eq_getElem hi⟩
      obtain ⟨r', hr2⟩ : ∃ r', rows[i + 1 + k]? = some r' := ⟨_, List.getElem?_eq_getElem hj⟩
      have ec : cAt bk rows i (i + 1 + k) = clB bk r r' := by unfold cAt; rw [hr1, hr2]
      refine q_parI (k1 := .d true (dRow r)) (k2 := .d true (dRow r')) En2 (evia_cons (evi_ix (EvI.lq (evi_var En2 rfl)) (evi_var En2 rfl) (atI_nat (map_get hr1))) (evia_cons (evi_ix (EvI.lq (evi_var En2 rfl)) (evi_var En2 rfl) (atI_at (j := i + 1 + k) (by omega) (map_get hr2))) evia_nil)) fun σ3 H3 e3 En3 => ?_
      refine q_setI (k := .l true [.int (endD bk r), .int (endD bk r')]) En3 (EvI.eq (evi_pick (b := true) (i := bk) (evi_lst (b := true) (ds := [.int r.st, .int r'.st]) (evia_cons (evi_ix (evi_row (evi_var En3 rfl)) (evi_int (b := true)) (row_st r)) (evia_cons (evi_ix (evi_row (evi_var En3 rfl)) (evi_int (b := true)) (row_st r')) evia_nil)) (by show 2 ≤ 100000; decide)) (evi_lst (b := true) (ds := [.int r.nx, .int r'.nx]) (evia_cons (evi_ix (evi_row (evi_var En3 rfl)) (evi_neg (evi_int (b := true))) (row_nx r)) (evia_cons (evi_ix (evi_row (evi_var En3 rfl)) (evi_neg (evi_int (b := true))) (row_nx r')) evia_nil)) (by show 2 ≤ 100000; decide)) (evi_intB (evi_var En3 rfl))) (by cases bk <;> rfl)) fun σ4 H4 e4 En4 => ?_
      refine q_setI (k := .l true [.int 0, .int 0]) En4 (evi_lst (b := true) (ds := [.int 0, .int 0]) (evia_cons (evi_int (b := true)) (evia_cons (evi_int (b := true)) evia_nil)) (by show 2 ≤ 100000; decide)) fun σ5 H5 e5 En5 => ?_
      have ex5 : Ex H H5 := (ex.trans (ex2.trans e3)).trans (e4.trans e5)
      have En5 : En K H5 σ5 [some (.l true (rows.map dRow)), some (dB bk), some (dI (i : Int)), some (dI ((i : Int) + 1 + (k : Int))), some (.d true (dRow r)), some (.d true (dRow r')), some (.l true [.int (endD bk r), .int (endD bk r')]), some (.l true [.int 0, .int 0])] := En5
      refine q_ifSetI (c := r.isWr && r'.isWr) (k := .l true [(keyD bk r r').1, (keyD bk r r').2]) En5 (et_and (et_is (evt_of (evi_eq (evi_ix (evi_row (evi_var En5 rfl)) (evi_int (b := true)) (row_tag r)) (evi_str (b := true)) (ok_tag r).sh ok_write.sh)) (tag_wr r)) fun _ => et_is (evt_of (evi_eq (evi_ix (evi_row (evi_var En5 rfl)) (evi_int (b := true)) (row_tag r')) (evi_str (b := true)) (ok_tag r').sh ok_write.sh)) (tag_wr r')) (fun h => ?_) (fun h => ?_) fun σ6 H6 e6 En6 => ?_
      · cases r with
        | mv q d t => cases h
        | wr q a c t =>
          cases r' with
          | mv q' d' t' => cases h
          | wr q' a' c' t' =>
            exact EvI.eq (evi_pick (b := true) (i := bk) (evi_lst (b := true) (ds := [dInts [a], dInts [a']]) (evia_cons (evi_at (n := 2) (evi_var En5 rfl) rfl) (evia_cons (evi_at (n := 2) (evi_var En5 rfl) rfl) evia_nil)) (by show 2 ≤ 100000; decide)) (evi_lst (b := true) (ds := [dInts [c], dInts [c']]) (evia_cons (evi_at (n := 3) (evi_var En5 rfl) rfl) (evia_cons (evi_at (n := 3) (evi_var En5 rfl) rfl) evia_nil)) (by show 2 ≤ 100000; decide)) (evi_intB (evi_var En5 rfl))) (by cases bk <;> rfl)
      · have e : keyD bk r r' = (.int 0, .int 0) := by
          cases r <;> cases r' <;> first | rfl | cases h
        rw [e]
        rfl
      have En6 : En K H6 σ6 [some (.l true (rows.map dRow)), some (dB bk), some (dI (i : Int)), some (dI ((i : Int) + 1 + (k : Int))), some (.d true (dRow r)), some (.d true (dRow r')), some (.l true [.int (endD bk r), .int (endD bk r')]), some (.l true [(keyD bk r r').1, (keyD bk r r').2])] := En6
      refine s_whenI (c := clB bk r r') En6 (et_is (et_and (evt_of (evi_eq (evi_ix (EvI.lq (evi_var En6 rfl)) (evi_int (b := true)) (atI_at (j := 0) rfl rfl)) (evi_ix (EvI.lq (evi_var En6 rfl)) (evi_int (b := true)) (atI_at (j := 1) rfl rfl)) (ok_int _).sh (ok_int _).sh)) fun _ => evt_of (evi_eq (evi_ix (EvI.lq (evi_var En6 rfl)) (evi_int (b := true)) (atI_at (j := 0) rfl rfl)) (evi_ix (EvI.lq (evi_var En6 rfl)) (evi_int (b := true)) (atI_at (j := 1) rfl rfl)) (ok_key bk r r').1.sh (ok_key bk r r').2.sh)) (cl_test bk r r')) (fun h H7 e7 En7 => ?_) fun h H7 e7 En7 => ?_
      · refine s_retI (evi_tup2 (b := false) (EvI.strong (evi_var En7 rfl)) (EvI.strong (evi_var En7 rfl))) fun v H8 e8 y => nx v H8 ((ex5.trans e6).trans (e7.trans e8)) ?_
        show Is K H8 v (.d false (lclash bk rows))
        rw [lclash_at hi (by omega) hw hw2 (ec.trans h), show ((i + 1 + k : Nat) : Int) = (i : Int) + 1 + (k : Int) by omega]
        exact y
      · refine ⟨(ex2.trans e3).trans ((e4.trans e5).trans (e6.trans e7)), _, ⟨_, _, _, _, _, rfl, fun k' hk' => ?_⟩, En7⟩
        by_cases hlt : k' < k
        · exact hw2 k' hlt
        · have : k' = k := by omega
          subst this
          exact ec.trans h
    · subst ek
      refine ⟨ex.trans ex2, _, ⟨_, _, _, _, _, _, rfl, fun i' hi' => ?_⟩, En2⟩
      by_cases h : i' < i
      · exact hw i' h
      · have : i' = i := by omega
        subst this
        exact find_range_none.mpr fun k hk => hw2 k (by omega)
  · subst ek
    refine s_retI (K := K) (evi_non (b := false)) fun v H2 e2 y => nx v H2 (ex.trans e2) ?_
    show Is K H2 v (.d false (lclash bk rows))
    rw [lclash_no fun i hi => hw i (by omega)]
    exact y
end
end Bk

set_option Elab.async false
set_option linter.all false
set_option maxRecDepth 100000
set_option maxHeartbeats 4000000
set_option autoImplicit false
namespace Bk
open PySem PySem.Spec PyProof.Rows L2 Evl
section
variable {P : Program} {w : World} {K : PySem.W.Frag} {mg : Str → Option Value} {base : Heap}
theorem sc_law_rows : FnScope ["_law_numbers", "_law_sizes_here", "_law_is_back", "_law_rows_here", "_law_cell_here", "_law_row_here", "_law_more"] ["_law_numbers", "_law_sizes_here", "_law_is_back"] (defScope s_law_rows) := ⟨rfl, rfl, rfl, by decide +kernel, rfl, by decide +kernel, by decide +kernel⟩
def okR (rows : List Row) : Bool := isNone (lclash false rows) && isNone (lclash true rows)
def lrow1 (m s n : Int) : Row := lrow (ldigits n 10 900) m s
def lstep (m s : Int) (rows : List Row) (n : Int) : List Row := if okR (rows ++ [lrow1 m s n]) then rows ++ [lrow1 m s n] else rows
def lrows (m s : Int) (ns : List Int) : List Row := ns.foldl (lstep m s) []
theorem lrows_snoc (m s : Int) (ns : List Int) (n : Int) : lrows m s (ns ++ [n]) = lstep m s (lrows m s ns) n := by
  unfold lrows
  rw [List.foldl_append]
  rfl
theorem lrows_len (m s : Int) (ns : List Int) : (lrows m s ns).length ≤ ns.length := by
  have h : ∀ (ns : List Int) (rows : List Row), (ns.foldl (lstep m s) rows).length ≤ rows.length + ns.length := by
    intro ns
    induction ns with
    | nil => intro rows; exact Nat.le_refl _
    | cons n ns ih =>
      intro rows
      rw [List.foldl_cons]
      have := ih (lstep m s rows n)
      have h2 : (lstep m s rows n).length ≤ rows.length + 1 := by
        unfold lstep
        split
        · rw [List.length_append]; exact Nat.le_refl _
        · omega
      rw [List.length_cons]
      omega
  have := h ns []
  unfold lrows
  simpa using this
structure RowsOk (m s : Int) (rows : List Row) : Prop where
  ok : ∀ r ∈ rows, r.ok m s
  nf : NoF rows
  nb : NoB rows
theorem okR_nf {rows : List Row} (h : okR rows = true) : NoF rows ∧ NoB rows := by
  unfold okR at h
  rw [Bool.and_eq_true] at h
  refine ⟨lclash_none h.1, ?_⟩
  unfold NoB NoF
  rw [List.pairwise_map]
  exact lclash_none h.2
theorem lrows_ok {m s : Int} (hm : 0 < m) (hs : 0 < s) (ns : List Int) : RowsOk m s (lrows m s ns) := by
  have h : ∀ (ns : List Int) (rows : List Row), RowsOk m s rows → RowsOk m s (ns.foldl (lstep m s) rows) := by
    intro ns
    induction ns with
    | nil => intro rows h; exact h
    | cons n ns ih =>
      intro rows h
      rw [List.foldl_cons]
      refine ih _ ?_
      unfold lstep
      split
      · rename_i hq
        obtain ⟨h1, h2⟩ := okR_nf hq
        refine ⟨fun r hr => ?_, h1, h2⟩
        rcases List.mem_append.mp hr with hr | hr
        · exact h.ok r hr
        · rw [List.mem_singleton.mp hr]
          exact lrow_ok hm hs
      · exact h
  exact h ns [] ⟨fun r hr => (by cases hr), List.Pairwise.nil, List.Pairwise.nil⟩
theorem c_law_rows (T : Txt K mg) : Callee P w K mg base 3 "_law_rows" ["_law_numbers", "_law_sizes_here", "_law_is_back"] (spF K (fun p : List Int × Int × Int => [.l true (p.1.map .int), .d true (.tuple [.int 1, .int p.2.1, .int p.2.2]), dB true]) (fun p _ => p.1.length ≤ 14 ∧ (2 ≤ p.2.1 ∧ p.2.1 ≤ 4) ∧ 1 ≤ p.2.2 ∧ p.2.2 ≤ 5) fun p => .l true ((lrows p.2.1 p.2.2 p.1).map dRow)) := by
  obtain ⟨fd, F⟩ := T.f_law_rows
  refine callee_of F T.g_law_rows (fun _ _ _ _ _ _ us hl => match us, hl with | [_, _, _], _ => rfl) (F.ok sc_law_rows (fun _ => rfl) fun cdv A outer s H Q E p hr hp => ⟨_, (pss_cons (ps_set (i := 3) sc_law_rows.nd rfl (Or.inl rfl) (pe_lst pa_nil))
      (pss_cons (ps_for PassesOwn.never rfl (pi_list (pv 0)) (pg_name (i := 4) sc_law_rows.nd rfl (Or.inl rfl)) (pss_cons (ps_set (i := 5) sc_law_rows.nd rfl (Or.inl rfl) (pe_C (c_law_row T) hr (by decide) (by rfl) (pa_cons (pe_C (c_law_digits T) hr (by decide) (by rfl) (pa_cons (pv 4) (pa_cons pe_int (pa_cons pe_int pa_nil)))) (pa_cons (pv 1) pa_nil))))
      (pss_cons (ps_set (i := 6) sc_law_rows.nd rfl (Or.inl rfl) (pe_op op_cat (pv 3) (pe_lst (pa_cons (pv 5) pa_nil))))
      (pss_one (ps_if (PW.pt (pw_and (pt_cmpR op_isN (pe_C (c_law_clash T) hr (by decide) (by rfl) (pa_cons (pv 6) (pa_cons pe_bl pa_nil))) pe_non (nomark _)) (pw_and1 (PW.pt (pw_or (pt_not (pt_val (pv 2))) (pw_or1 (pt_cmpR op_isN (pe_C (c_law_clash T) hr (by decide) (by rfl) (pa_cons (pv 6) (pa_cons pe_bl pa_nil))) pe_non (nomark _)))))))) (pss_one (ps_set (i := 3) sc_law_rows.nd rfl (Or.inl rfl) (pv 6))) pss_nil)))))
      (pss_one (ps_ret (pv 3))))), fun σ En0 nx => ?_⟩)
  obtain ⟨ns, m, s⟩ := p
  obtain ⟨hl, hm, hs⟩ := hp
  simp only at hl hm hs
  have En0 : En K H σ [some (.l true (ns.map .int)), some (.d true (.tuple [.int 1, .int m, .int s])), some (dB true), none, none, none, none] := En0
  refine q_setI (k := .l true []) En0 (evi_lst (b := true) (ds := []) evia_nil (Nat.zero_le _)) fun σ1 H1 e1 En1 => ?_
  refine q_forLI En1 (evi_var En1 rfl) (fun i ks => ∃ o4 o5 o6, ks = [some (.l true (ns.map .int)), some (.d true (.tuple [.int 1, .int m, .int s])), some (dB true), some (.l true ((lrows m s (ns.take i)).map dRow)), o4, o5, o6]) ⟨_, _, _, rfl⟩ (fun H2 e2 i d ks' σ' H' hd ⟨o4, o5, o6, ek⟩ ex En2 => ?_) fun H2 e2 ks' σ' H' ⟨o4, o5, o6, ek⟩ ex En2 => ?_
  · subst ek
    obtain ⟨n, hn, rfl⟩ : ∃ n, ns[i]? = some n ∧ d = .int n := by
      rw [List.getElem?_map] at hd
      obtain ⟨n, h1, h2⟩ := Option.map_eq_some_iff.mp hd
      exact ⟨n, h1, h2.symm⟩
    have hi := (List.getElem?_eq_some_iff.mp hn).1
    have ll := lrows_len m s (ns.take i)
    rw [List.length_take] at ll
    have et : lrows m s (ns.take (i + 1)) = lstep m s (lrows m s (ns.take i)) n := by rw [List.take_add_one, hn, show (some n).toList = [n] from rfl, lrows_snoc]
    have En2 : En K H' σ' [some (.l true (ns.map .int)), some (.d true (.tuple [.int 1, .int m, .int s])), some (dB true), some (.l true ((lrows m s (ns.take i)).map dRow)), some (dI n), o5, o6] := En2
    refine q_setI (k := .d true (dRow (lrow1 m s n))) En2 (evi_call (ldigits n 10 900, m, s) (evia_cons (evi_call (n, 10, 900) (evia_cons (evi_var En2 rfl) (evia_cons (evi_int (b := true)) (evia_cons (evi_int (b := true)) evia_nil))) fun _ _ => ⟨(by decide : (10 : Nat) ≤ 1000), (by decide : (0 : Int) < 900), (by decide : (900 : Int) ≤ 1000)⟩) (evia_cons (evi_var En2 rfl) evia_nil)) fun _ _ => ⟨ldigits_len _ _ _, hm, hs⟩) fun σ3 H3 e3 En3 => ?_
    refine q_setI (k := .l true ((lrows m s (ns.take i) ++ [lrow1 m s n]).map dRow)) En3 (EvI.eq (evi_catL (evi_var En3 rfl) (evi_list1 (evi_var En3 rfl)) (by rw [List.length_map]; show _ + 1 ≤ 100000; omega)) (by rw [List.map_append]; rfl)) fun σ4 H4 e4 En4 => ?_
    have En4 : En K H4 σ4 [some (.l true (ns.map .int)), some (.d true (.tuple [.int 1, .int m, .int s])), some (dB true), some (.l true ((lrows m s (ns.take i)).map dRow)), some (dI n), some (.d true (dRow (lrow1 m s n))), some (.l true ((lrows m s (ns.take i) ++ [lrow1 m s n]).map dRow))] := En4
    have lm : (lrows m s (ns.take i) ++ [lrow1 m s n]).length ≤ 1000 := by rw [List.length_append]; show _ + 1 ≤ 1000; omega
    refine s_whenI (c := okR (lrows m s (ns.take i) ++ [lrow1 m s n])) En4 (et_is (et_and (evt_of (evi_isN (evi_call (lrows m s (ns.take i) ++ [lrow1 m s n], false) (evia_cons (evi_var En4 rfl) (evia_cons (evi_bl (b := true)) evia_nil)) fun _ _ => lm))) fun _ => et_or (et_not (evt_B (evi_var En4 rfl))) fun _ => evt_of (evi_isN (evi_call (lrows m s (ns.take i) ++ [lrow1 m s n], true) (evia_cons (evi_var En4 rfl) (evia_cons (evi_bl (b := true)) evia_nil)) fun _ _ => lm))) rfl) (fun h H5 e5 En5 => ?_) fun h H5 e5 En5 => ?_
    · refine s_setI En5 (evi_var En5 rfl) fun σ6 H6 e6 En6 => ?_
      have En6 : En K H6 σ6 [some (.l true (ns.map .int)), some (.d true (.tuple [.int 1, .int m, .int s])), some (dB true), some (.l true ((lrows m s (ns.take (i + 1))).map dRow)), some (dI n), some (.d true (dRow (lrow1 m s n))), some (.l true ((lrows m s (ns.take i) ++ [lrow1 m s n]).map dRow))] := by
        rw [et, lstep, if_pos h]
        exact En6
      exact ⟨(ex.trans (e3.trans e4)).trans (e5.trans e6), _, ⟨_, _, _, rfl⟩, En6⟩
    · have En6 : En K H5 σ4 [some (.l true (ns.map .int)), some (.d true (.tuple [.int 1, .int m, .int s])), some (dB true), some (.l true ((lrows m s (ns.take (i + 1))).map dRow)), some (dI n), some (.d true (dRow (lrow1 m s n))), some (.l true ((lrows m s (ns.take i) ++ [lrow1 m s n]).map dRow))] := by
        rw [et, lstep, if_neg (by rw [h]; exact Bool.false_ne_true)]
        exact En5
      exact ⟨(ex.trans (e3.trans e4)).trans e5, _, ⟨_, _, _, rfl⟩, En6⟩
  · subst ek
    rw [List.length_map, List.take_length] at En2
    exact s_retI (evi_var En2 rfl) fun v H3 e3 y => nx v H3 ((e1.trans e2).trans (ex.trans e3)) y
theorem sc_law_configuration : FnScope ["_law_cell_here", "_law_sizes_here", "_law_digits_here", "_law_tapes", "_law_k", "_law_part", "_law_one"] ["_law_cell_here", "_law_sizes_here"] (defScope s_law_configuration) := ⟨rfl, rfl, rfl, by decide +kernel, rfl, by decide +kernel, by decide +kernel⟩
def prt (ds : List Int) (m : Int) : List Int := ((ds.drop 2).take 8).map (· % m)
def lcfg (ds : List Int) (m s : Int) : Cfg := ⟨lcell ds 0 / 4 % s, trim ((prt ds m).take (lcell ds 0 % 4).toNat), lcell (prt ds m) 3, trim (((prt ds m).drop 4).take (lcell ds 1 % 4).toNat)⟩
theorem prt_len {ds : List Int} {m : Int} (h : ds.length = 34) : (prt ds m).length = 8 := by
  unfold prt
  rw [List.length_map, List.length_take, List.length_drop, h]
  rfl
theorem prt_in {ds : List Int} {m : Int} (hm : 0 < m) : ∀ x ∈ prt ds m, 0 ≤ x ∧ x < m := by
  intro x hx
  obtain ⟨y, _, e⟩ := List.mem_map.mp hx
  subst e
  exact ⟨Int.emod_nonneg _ (by omega), Int.emod_lt_of_pos _ hm⟩
theorem lcfg_ok {ds : List Int} {m s : Int} (hm : 0 < m) (hs : 0 < s) : (lcfg ds m s).Ok m s := by
  refine ⟨⟨Int.emod_nonneg _ (by omega), Int.emod_lt_of_pos _ hs⟩, ?_, fun x hx => prt_in hm x (List.mem_of_mem_take (trim_mem hx)), fun x hx => prt_in hm x (List.mem_of_mem_drop (List.mem_of_mem_take (trim_mem hx))), trim_trim _, trim_trim _⟩
  show 0 ≤ lcell (prt ds m) 3 ∧ lcell (prt ds m) 3 < m
  unfold lcell
  cases h : (prt ds m)[3]? with
  | none => exact ⟨Int.le_refl 0, hm⟩
  | some x => exact prt_in hm x (List.mem_of_getElem? h)
theorem mod4 (x : Int) : ∃ n : Nat, x % 4 = (n : Int) ∧ n < 4 ∧ (x % 4).toNat = n := by
  have h1 := Int.emod_nonneg x (show (4 : Int) ≠ 0 by decide)
  have h2 := Int.emod_lt_of_pos x (show (0 : Int) < 4 by decide)
  exact ⟨(x % 4).toNat, by omega, by omega, rfl⟩
theorem lcfg_size (ds : List Int) (m s : Int) : (lcfg ds m s).size ≤ 6 := by
  obtain ⟨n, h1, h2, h3⟩ := mod4 (lcell ds 0)
  obtain ⟨n', h1', h2', h3'⟩ := mod4 (lcell ds 1)
  have a := trim_len ((prt ds m).take (lcell ds 0 % 4).toNat)
  have c := trim_len (((prt ds m).drop 4).take (lcell ds 1 % 4).toNat)
  rw [List.length_take] at a c
  unfold Cfg.size lcfg
  simp only
  omega
theorem c_law_configuration (T : Txt K mg) : Callee P w K mg base 3 "_law_configuration" ["_law_cell_here", "_law_sizes_here"] (spF K (fun p : Int × Int × Int => [dI p.1, .d true (.tuple [.int 1, .int p.2.1, .int p.2.2])]) (fun p _ => (2 ≤ p.2.1 ∧ p.2.1 ≤ 4) ∧ 1 ≤ p.2.2 ∧ p.2.2 ≤ 5) fun p => .d false (dCfg (lcfg (ldigits p.1 34 900) p.2.1 p.2.2))) := by
  obtain ⟨fd, F⟩ := T.f_law_configuration
  refine callee_of F T.g_law_configuration (fun _ _ _ _ _ _ us hl => match us, hl with | [_, _], _ => rfl) (F.ok sc_law_configuration (fun _ => rfl) fun cdv A outer s H Q E p hr hp => ⟨_, (pss_cons (ps_set (i := 2) sc_law_configuration.nd rfl (Or.inl rfl) (pe_C (c_law_digits T) hr (by decide) (by rfl) (pa_cons (pv 0) (pa_cons pe_int (pa_cons pe_int pa_nil)))))
      (pss_cons (ps_set (i := 3) sc_law_configuration.nd rfl (Or.inl rfl) (pe_lst pa_nil))
      (pss_cons (ps_for PassesOwn.never rfl (pi_range1 rfl T.z_range (pa_cons (pe_ix ix_seq (pv 1) pe_int (fun _ _ => rfl)) pa_nil)) (pg_name (i := 4) sc_law_configuration.nd rfl (Or.inl rfl)) (pss_cons (ps_setLc (i := 5) (own := [("_law_one", 6)]) (te := (tCall _ [] E0 (tCons (tVar 6) (tCons (tOp (rIx K) (tVar 1) (tC _)) tNil)))) (tt := tYes) rfl sc_law_configuration.nd rfl rfl (sw_true rfl rfl rfl (by decide +kernel)) (pi_list (pe_slice (SlR.or sl_list sl_tupA) (pv 2) (po_some (pe_op op_add pe_int (pe_op op_mul pe_int (pv 4)))) (po_some (pe_op op_add pe_int (pe_op op_mul pe_int (pv 4)))))) (blkOk_by (N := ["_law_cell_here", "_law_sizes_here", "_law_digits_here", "_law_tapes", "_law_k", "_law_part", "_law_one"]) (sc := defScope s_law_configuration) (by decide +kernel)) (fun _ _ _ _ _ => (pg_name (i := 6) sc_law_configuration.nd rfl (Or.inl rfl))) (fun _ _ _ _ _ => pts_nil) (fun _ _ _ _ _ => (pe_C (c_law_mark T) hr (by decide) (by rfl) (pa_cons (pv 6) (pa_cons (pe_ix ix_seq (pv 1) pe_int (fun _ _ => rfl)) pa_nil)))))
      (pss_one (ps_expr (pe_bm PySem.F.plainAttrs_list PySem.F.slot_list_append PySem.F.type_list_append mt_append (pv 3) (pa_cons (pe_tup (pa_cons (pe_C (c_law_trim T) hr (by decide) (by rfl) (pa_cons (pe_slice (SlR.or sl_list sl_tupA) (pv 5) po_none (po_some (pe_op op_mod (pe_ix ix_seq (pv 2) pe_int (fun _ _ => rfl)) pe_int))) pa_nil)) (pa_cons (pe_ix ix_seq (pv 5) pe_int (fun _ _ => rfl)) (pa_cons (pe_C (c_law_trim T) hr (by decide) (by rfl) (pa_cons (pe_slice (SlR.or sl_list sl_tupA) (pv 5) (po_some pe_int) (po_some (pe_op op_add pe_int (pe_op op_mod (pe_ix ix_seq (pv 2) pe_int (fun _ _ => rfl)) pe_int)))) pa_nil)) pa_nil)))) pa_nil))))))
      (pss_one (ps_ret (pe_tup (pa_cons (pe_op op_mod (pe_op op_fdiv (pe_ix ix_seq (pv 2) pe_int (fun _ _ => rfl)) pe_int) (pe_ix ix_seq (pv 1) pe_int (fun _ _ => rfl))) (pa_cons (pe_callTy call_tuple_of (by rfl) T.z_tuple (by decide +kernel) (pa_cons (pv 3) pa_nil)) pa_nil)))))))), fun σ En0 nx => ?_⟩)
  obtain ⟨cell, m, s⟩ := p
  obtain ⟨hm, hs⟩ := hp
  simp only at hm hs
  have En0 : En K H σ [some (dI cell), some (.d true (.tuple [.int 1, .int m, .int s])), none, none, none, none, none] := En0
  obtain ⟨ds, eds⟩ : ∃ ds, ds = ldigits cell 34 900 := ⟨_, rfl⟩
  have ld : ds.length = 34 := by rw [eds]; exact ldigits_len _ _ _
  have g := fun (i : Nat) (h : i < 34) => lcell_get (ds := ds) (i := i) (by omega)
  refine q_setI (k := .l true (ds.map .int)) En0 (EvI.eq (evi_call (cell, 34, 900) (evia_cons (evi_var En0 rfl) (evia_cons (evi_int (b := true)) (evia_cons (evi_int (b := true)) evia_nil))) fun _ _ => ⟨(by decide : (34 : Nat) ≤ 1000), (by decide : (0 : Int) < 900), (by decide : (900 : Int) ≤ 1000)⟩) (by rw [eds])) fun σ1 H1 e1 En1 => ?_
  obtain ⟨vd, hvd, En1⟩ := En1.fix (i := 2) rfl
  have En1 : En K H1 σ1 [some (dI cell), some (.d true (.tuple [.int 1, .int m, .int s])), some (.v vd), none, none, none, none] := En1
  refine q_newI false En1 fun p σ2 H2 O2 En2 => ?_
  have En2 : En K H2 σ2 [some (dI cell), some (.d true (.tuple [.int 1, .int m, .int s])), some (.v vd), some (.v (.ref p)), none, none, none] := En2
  refine q_forRM (n := 1) (fun i => (List.range i).map fun _ => dTape (lcfg ds m s).l (lcfg ds m s).a (lcfg ds m s).r) (fun _ ks => ∃ o, ks = [some (dI cell), some (.d true (.tuple [.int 1, .int m, .int s])), some (.v vd), some (.v (.ref p)), o, none, none] ∧ stbK o = true) O2 En2 (evia_cons (evi_at (n := 0) (evi_var En2 rfl) rfl) evia_nil) (by decide) ⟨_, rfl, rfl⟩ (fun i ks' σ' H' hi ⟨o, ek, ho⟩ O En3 => ?_) fun ks' σ' H' ⟨o, ek, ho⟩ O En3 => ?_
  · subst ek
    have hi0 : i = 0 := by omega
    subst hi0
    have En3 : En K H' σ' [some (dI cell), some (.d true (.tuple [.int 1, .int m, .int s])), some (.v vd), some (.v (.ref p)), some (dI ((0 : Nat) : Int)), none, none] := En3
    have dig : ∀ {H9 : Hp} {σ9 : L2.St} {ks : List (Option Kd)}, En K H9 σ9 ks → ks[2]? = some (some (.v vd)) → Ex H1 H9 → EvI K (tVar 2) σ9 H9 (.l true (ds.map .int)) := fun E9 h9 e9 => evi_fix (evi_var E9 h9) hvd e9
    have lp : (prt ds m).length = 8 := prt_len ld
    have gp := fun (i : Nat) (h : i < 8) => lcell_get (ds := prt ds m) (i := i) (by omega)
    refine q_setI (k := .l true ((prt ds m).map .int)) En3 (EvI.eq (evi_lcL1 (b := true) (b' := true) (ds := ((ds.drop 2).take 8).map PyData.int) (fun d => match d with | .int i => .int (i % m) | _ => .none) En3 (EvI.eq (evi_slL (dig En3 rfl O.ex) (evo_some (K := K) (evi_op0 (evi_int (b := true)) (evi_op (evi_int (b := true)) (evi_var En3 rfl) (.inl (by decide))))) (evo_some (K := K) (evi_op0 (evi_int (b := true)) (evi_op (evi_int (b := true)) (evi_var En3 rfl) (.inl (by decide)))))) ?_) ?_ fun d σ4 H4 hd e4 En4 => ?_) ?_) fun σ4 H4 e4 En4 => ?_
    · rw [show (2 : Int) + 8 * ((0 : Nat) : Int) = ((2 : Nat) : Int) by decide, show (10 : Int) + 8 * ((0 : Nat) : Int) = ((10 : Nat) : Int) by decide, cutD_mid (by rw [List.length_map]; omega) (by decide), ← List.map_drop, ← List.map_take]
    · rw [List.length_map, List.length_take]; omega
    · obtain ⟨i, hi, ed⟩ := List.mem_map.mp hd
      subst ed
      exact evi_call (i, m) (evia_cons (evi_var En4 rfl) (evia_cons (evi_at (n := 1) (evi_var En4 rfl) rfl) evia_nil)) fun _ _ => hm
    · unfold prt
      rw [List.map_map, List.map_map]
      rfl
    · have En4 : En K H4 σ4 [some (dI cell), some (.d true (.tuple [.int 1, .int m, .int s])), some (.v vd), some (.v (.ref p)), some (dI ((0 : Nat) : Int)), some (.l true ((prt ds m).map .int)), none] := En4
      have ex4 : Ex H1 H4 := O.ex.trans e4
      obtain ⟨n0, h0, h0l, h0t⟩ := mod4 (lcell ds 0)
      obtain ⟨n1, h1, h1l, h1t⟩ := mod4 (lcell ds 1)
      have En5 : En K H4 σ4 [some (dI cell), some (.d true (.tuple [.int 1, .int m, .int s])), some (.v vd), some (.v (.ref p)), some (dI ((0 : Nat) : Int)), none, none] := En4.drop 5
      have md : ∀ i : Nat, i < 34 → EvI K (tOp (rI (fun _ j => 0 < j) fun i j => .int (i % j)) (tOp (rIx K) (tVar 2) (tC (.int (i : Int)))) (tC (.int 4))) σ4 H4 (dI (lcell ds i % 4)) := fun i h => evi_op (C := fun _ j => 0 < j) (evi_ix (EvI.lq (dig En4 rfl ex4)) (evi_int (b := true)) (atI_at (j := i) rfl (g i h))) (evi_int (b := true)) (by decide)
      refine s_appI (r := dTape (lcfg ds m s).l (lcfg ds m s).a (lcfg ds m s).r) En5 rfl (O.mono e4) (evi_var En5 rfl) (evi_tup3 (b := false) (evi_call ((prt ds m).take n0) (evia_cons (EvI.lq (EvI.weakL (b := true) (EvI.eq (evi_slL (evi_var En4 rfl) evo_none (evo_some (K := K) (md 0 (by decide)))) ?_))) evia_nil) fun _ _ => ?_) (EvI.strong (evi_ix (EvI.lq (evi_var En4 rfl)) (evi_int (b := true)) (atI_at (j := 3) rfl (gp 3 (by decide)))))
        (evi_call (((prt ds m).drop 4).take n1) (evia_cons (EvI.lq (EvI.weakL (b := true) (EvI.eq (evi_slL (evi_var En4 rfl) (evo_some (K := K) (evi_int (b := true))) (evo_some (K := K) (evi_op0 (evi_int (b := true)) (md 1 (by decide))))) ?_))) evia_nil) fun _ _ => ?_) |>.eq ?_) (by rw [List.length_map, List.length_range]; decide) fun H6 O6 En6 => ⟨O6.eq (range_map_succ _ 0).symm, _, ⟨_, rfl, rfl⟩, En6⟩
      · rw [h0, cutD_to, ← List.map_take]
      · rw [List.length_take]; omega
      · rw [h1, show (4 : Int) = ((4 : Nat) : Int) from rfl, ← Int.natCast_add, cutD_mid (by rw [List.length_map]; omega) (by omega), ← List.map_drop, ← List.map_take, show 4 + n1 - 4 = n1 by omega]
      · rw [List.length_take, List.length_drop]; omega
      · show Kd.d false _ = Kd.d false (dTape (trim ((prt ds m).take (lcell ds 0 % 4).toNat)) _ (trim (((prt ds m).drop 4).take (lcell ds 1 % 4).toNat)))
        rw [h0t, h1t]
        rfl
  · subst ek
    have En4 : En K H' σ' [some (dI cell), some (.d true (.tuple [.int 1, .int m, .int s])), some (.v vd), some (.v (.ref p)), o, none, none] := En3
    refine s_retI (evi_tup2 (b := false) (EvI.strong (evi_op (C := fun _ j => 0 < j) (evi_op (C := CDiv) (evi_ix (EvI.lq (evi_fix (evi_var En4 rfl) hvd O.ex)) (evi_int (b := true)) (atI_at (j := 0) rfl (g 0 (by decide)))) (evi_int (b := true)) ⟨by decide, by decide⟩) (evi_at (n := 2) (evi_var En4 rfl) rfl) (by omega))) (evi_tupL (evi_own (evi_var En4 rfl) O))) fun v H5 e5 y => nx v H5 ((e1.trans O.ex).trans e5) ?_
    show Is K H5 v (.d false (dCfg (lcfg (ldigits cell 34 900) m s)))
    rw [← eds]
    exact y
end
end Bk

set_option Elab.async false
set_option linter.all false
set_option maxRecDepth 100000
set_option maxHeartbeats 4000000
set_option autoImplicit false
namespace Bk
open PySem PySem.Spec PyProof.Rows L2 Evl
section
variable {P : Program} {w : World} {K : PySem.W.Frag} {mg : Str → Option Value} {base : Heap}
theorem sc_law_after : FnScope ["_law_rows_here", "_law_configuration_here", "_law_state", "_law_tapes", "_law_heads", "_law_tape", "_law_row_here", "_law_k"] ["_law_rows_here", "_law_configuration_here"] (defScope s_law_after) := ⟨rfl, rfl, rfl, by decide +kernel, rfl, by decide +kernel, by decide +kernel⟩
theorem find_step {rows : List Row} {c : Cfg} {i : Nat} {r : Row} (h : rows[i]? = some r) (ha : applies c r = false) (hf : (rows.drop i).find? (applies c) = rows.find? (applies c)) : (rows.drop (i + 1)).find? (applies c) = rows.find? (applies c) := by
  obtain ⟨hi, e⟩ := List.getElem?_eq_some_iff.mp h
  rw [← hf, List.drop_eq_getElem_cons hi, e, List.find?_cons, ha]
theorem find_at {rows : List Row} {c : Cfg} {i : Nat} {r : Row} (h : rows[i]? = some r) (ha : applies c r = true) (hf : (rows.drop i).find? (applies c) = rows.find? (applies c)) : after rows c = some (r.act c) := by
  obtain ⟨hi, e⟩ := List.getElem?_eq_some_iff.mp h
  unfold after
  rw [← hf, List.drop_eq_getElem_cons hi, e, List.find?_cons, ha]
  rfl
theorem c_law_after (T : Txt K mg) : Callee P w K mg base 3 "_law_after" ["_law_rows_here", "_law_configuration_here"] (spF K (fun p : List Row × Cfg => [.l true (p.1.map dRow), .d false (dCfg p.2)]) (fun p _ => p.1.length ≤ 1000 ∧ p.2.size ≤ 900) fun p => .d false (dOpt (after p.1 p.2))) := by
  obtain ⟨fd, F⟩ := T.f_law_after
  refine callee_of F T.g_law_after (fun _ _ _ _ _ _ us hl => match us, hl with | [_, _], _ => rfl) (F.ok sc_law_after (fun _ => rfl) fun cdv A outer s H Q E p hr hp => ⟨_, (pss_cons (ps_asg (pv 1) (pg_tup (by rfl) (pgs_cons (pg_name (i := 2) sc_law_after.nd rfl (Or.inl rfl)) (pgs_cons (pg_name (i := 3) sc_law_after.nd rfl (Or.inr rfl)) pgs_nil))))
      (pss_cons (ps_set (i := 4) sc_law_after.nd rfl (Or.inl rfl) (pe_callTy call_tuple_of (by rfl) T.z_tuple (by decide +kernel) (pa_cons (pe_lc (own := [("_law_tape", 5)]) (te := (tOp (rIx K) (tVar 5) (tC _))) (tt := tYes) rfl sc_law_after.nd (pi_tup (pv 3)) (blkOk_by (N := ["_law_rows_here", "_law_configuration_here", "_law_state", "_law_tapes", "_law_heads", "_law_tape", "_law_row_here", "_law_k"]) (sc := defScope s_law_after) (by decide +kernel)) (fun _ _ _ _ _ => (pg_name (i := 5) sc_law_after.nd rfl (Or.inl rfl))) (fun _ _ _ _ _ => pts_nil) (fun _ _ _ _ _ => (pe_ix ix_seq (pv 5) pe_int (fun _ _ => rfl)))) pa_nil)))
      (pss_cons (ps_for PassesOwn.never rfl (pi_list (pv 0)) (pg_name (i := 6) sc_law_after.nd rfl (Or.inr rfl)) (pss_cons (ps_if (PW.pt (pw_and (pt_cmpR (op_eqD hr.units) (pe_ix ix_seq (pv 6) pe_int (fun _ _ => rfl)) (pv 2) (nomark _)) (pw_and1 (pt_cmpR (op_eqD hr.units) (pe_ix ix_seq (pv 6) pe_int (fun _ _ => rfl)) pe_str (nomark _))))) (pss_one (ps_ret (pe_tup (pa_cons (pe_ix ix_seq (pv 6) pe_int (fun _ _ => rfl)) (pa_cons (pe_callTy call_tuple_of (by rfl) T.z_tuple (by decide +kernel) (pa_cons (pe_lc (own := [("_law_k", 7)]) (te := (tCall _ [] E0 (tCons (tOp (rIx K) (tVar 3) (tVar 7)) (tCons (tOp (rIx K) (tOp (rIx K) (tVar 6) (tC _)) (tVar 7)) tNil)))) (tt := tYes) rfl sc_law_after.nd (pi_range1 rfl T.z_range (pa_cons (pe_callB call_len_seq (by rfl) T.z_len PySem.boot_len (pa_cons (pv 3) pa_nil)) pa_nil)) (blkOk_by (N := ["_law_rows_here", "_law_configuration_here", "_law_state", "_law_tapes", "_law_heads", "_law_tape", "_law_row_here", "_law_k"]) (sc := defScope s_law_after) (by decide +kernel)) (fun _ _ _ _ _ => (pg_name (i := 7) sc_law_after.nd rfl (Or.inl rfl))) (fun _ _ _ _ _ => pts_nil) (fun _ _ _ _ _ => (pe_C (c_law_moved T) hr (by decide) (by rfl) (pa_cons (pe_ix ix_seq (pv 3) (pv 7) (fun _ _ => rfl)) (pa_cons (pe_ix ix_seq (pe_ix ix_seq (pv 6) pe_int (fun _ _ => rfl)) (pv 7) (fun _ _ => rfl)) pa_nil))))) pa_nil)) pa_nil))))) pss_nil)
      (pss_one (ps_if (PW.pt (pw_and (pt_cmpR (op_eqD hr.units) (pe_ix ix_seq (pv 6) pe_int (fun _ _ => rfl)) (pv 2) (nomark _)) (pw_and1 (pt_cmpR (op_eqD hr.units) (pe_ix ix_seq (pv 6) pe_int (fun _ _ => rfl)) (pv 4) (nomark _))))) (pss_one (ps_ret (pe_tup (pa_cons (pe_ix ix_seq (pv 6) pe_int (fun _ _ => rfl)) (pa_cons (pe_callTy call_tuple_of (by rfl) T.z_tuple (by decide +kernel) (pa_cons (pe_lc (own := [("_law_k", 7)]) (te := (tTup (tCons (tOp (rIx K) (tOp (rIx K) (tVar 3) (tVar 7)) (tC _)) (tCons (tOp (rIx K) (tOp (rIx K) (tVar 6) (tC _)) (tVar 7)) (tCons (tOp (rIx K) (tOp (rIx K) (tVar 3) (tVar 7)) (tC _)) tNil))))) (tt := tYes) rfl sc_law_after.nd (pi_range1 rfl T.z_range (pa_cons (pe_callB call_len_seq (by rfl) T.z_len PySem.boot_len (pa_cons (pv 3) pa_nil)) pa_nil)) (blkOk_by (N := ["_law_rows_here", "_law_configuration_here", "_law_state", "_law_tapes", "_law_heads", "_law_tape", "_law_row_here", "_law_k"]) (sc := defScope s_law_after) (by decide +kernel)) (fun _ _ _ _ _ => (pg_name (i := 7) sc_law_after.nd rfl (Or.inl rfl))) (fun _ _ _ _ _ => pts_nil) (fun _ _ _ _ _ => (pe_tup (pa_cons (pe_ix ix_seq (pe_ix ix_seq (pv 3) (pv 7) (fun _ _ => rfl)) pe_int (fun _ _ => rfl)) (pa_cons (pe_ix ix_seq (pe_ix ix_seq (pv 6) pe_int (fun _ _ => rfl)) (pv 7) (fun _ _ => rfl)) (pa_cons (pe_ix ix_seq (pe_ix ix_seq (pv 3) (pv 7) (fun _ _ => rfl)) pe_int (fun _ _ => rfl)) pa_nil)))))) pa_nil)) pa_nil))))) pss_nil))))
      (pss_one (ps_ret pe_non))))), fun σ En0 nx => ?_⟩)
  obtain ⟨rows, c⟩ := p
  obtain ⟨hl, hz⟩ := hp
  unfold Cfg.size at hz
  simp only at hl hz
  have En0 : En K H σ [some (.l true (rows.map dRow)), some (.d false (.tuple [.int c.q, .tuple [dTape c.l c.a c.r]])), none, none, none, none, none, none] := En0
  refine q_tupI (is := [2, 3]) En0 (evi_var En0 rfl) rfl rfl fun σ1 H1 e1 En1 => ?_
  have En1 : En K H1 σ1 [some (.l true (rows.map dRow)), some (.d false (.tuple [.int c.q, .tuple [dTape c.l c.a c.r]])), some (.d false (.int c.q)), some (.d false (.tuple [dTape c.l c.a c.r])), none, none, none, none] := En1
  refine q_setI (k := .d false (dInts [c.a])) En1 (evi_tupL (EvI.eq (evi_lcT1 (b := false) (fun _ => .int c.a) En1 (evi_var En1 rfl) (by show 1 ≤ 40000; decide) fun d σ2 H2 hd e2 En2 => ?_) rfl)) fun σ2 H2 e2 En2 => ?_
  · rw [List.mem_singleton.mp hd] at En2
    exact evi_at (n := 1) (evi_var En2 rfl) rfl
  refine q_forLI En2 (evi_var En2 rfl) (fun i ks => ∃ o6 o7, ks = [some (.l true (rows.map dRow)), some (.d false (.tuple [.int c.q, .tuple [dTape c.l c.a c.r]])), some (.d false (.int c.q)), some (.d false (.tuple [dTape c.l c.a c.r])), some (.d false (dInts [c.a])), none, o6, o7] ∧ (rows.drop i).find? (applies c) = rows.find? (applies c)) ⟨_, _, rfl, rfl⟩ (fun H3 e3 i d ks' σ' H' hd ⟨o6, o7, ek, hw⟩ ex En3 => ?_) fun H3 e3 ks' σ' H' ⟨o6, o7, ek, hw⟩ ex En3 => ?_
  · subst ek
    obtain ⟨r, hr1, rfl⟩ : ∃ r, rows[i]? = some r ∧ d = dRow r := by
      rw [List.getElem?_map] at hd
      obtain ⟨n, h1, h2⟩ := Option.map_eq_some_iff.mp hd
      exact ⟨n, h1, h2.symm⟩
    have ex0 : Ex H H' := (e1.trans e2).trans (e3.trans ex)
    have En3 : En K H' σ' [some (.l true (rows.map dRow)), some (.d false (.tuple [.int c.q, .tuple [dTape c.l c.a c.r]])), some (.d false (.int c.q)), some (.d false (.tuple [dTape c.l c.a c.r])), some (.d false (dInts [c.a])), none, some (.d true (dRow r)), o7] := En3
    have stq : EvT (tTest (tOp (rEqD K) (tOp (rIx K) (tVar 6) (tC (.int 1))) (tVar 2))) σ' H' (decide (r.st = c.q)) := et_is (evt_of (evi_eq (evi_ix (evi_row (evi_var En3 rfl)) (evi_int (b := true)) (row_st r)) (evi_var En3 rfl) (ok_int _).sh (ok_int _).sh)) (eqv_int _ _)
    refine q_whenI (c := decide (r.st = c.q) && !r.isWr) En3 (et_and stq fun _ => et_is (evt_of (evi_eq (evi_ix (evi_row (evi_var En3 rfl)) (evi_int (b := true)) (row_tag r)) (evi_str (b := true)) (ok_tag r).sh ok_move.sh)) (tag_mv r)) (fun h H4 e4 En4 => ?_) fun h H4 e4 En4 => ?_
    · rw [Bool.and_eq_true, decide_eq_true_iff] at h
      cases r with
      | wr q a b t => cases h.2
      | mv q d t =>
        have hq : q = c.q := h.1
        refine s_retI (evi_tup2 (b := false) (d1 := .int t) (EvI.weak (evi_at (n := 3) (evi_var En4 rfl) rfl)) (evi_tupL (EvI.eq (evi_lcR1 (b := false) (n := 1) (fun _ => dTape (movedT d c.l c.a c.r).1 (movedT d c.l c.a c.r).2.1 (movedT d c.l c.a c.r).2.2) En4 (evia_cons (evi_len (ds := [dTape c.l c.a c.r]) (EvI.dq (evi_var En4 rfl))) evia_nil) (by decide) fun i σ5 H5 hi e5 En5 => ?_) (by rw [one_rng])))) fun v H5 e5 y => nx v H5 (ex0.trans (e4.trans e5)) ?_
        · have hi0 : i = 0 := by omega
          subst hi0
          exact evi_call ((c.l, c.a, c.r), d) (evia_cons (evi_ix (EvI.dq (evi_var En5 rfl)) (evi_var En5 rfl) (atI_at (j := 0) rfl rfl)) (evia_cons (evi_ix (EvI.dq (evi_at (n := 2) (evi_var En5 rfl) rfl)) (evi_var En5 rfl) (atI_at (j := 0) rfl rfl)) evia_nil)) fun _ _ => by constructor <;> (simp only; omega)
        · show Is K H5 v (.d false (dOpt (after rows c)))
          rw [find_at hr1 (decide_eq_true hq) hw]
          exact y
    · refine s_whenI (c := applies c r) En4 ?_ (fun h2 H5 e5 En5 => ?_) fun h2 H5 e5 En5 => ?_
      · cases r with
        | wr q a b t =>
          refine et_is (et_and (EvT.mono e4 stq) fun _ => evt_of (evi_eq (evi_at (n := 2) (evi_var En4 rfl) rfl) (evi_var En4 rfl) (ok_ints _).sh (ok_ints _).sh)) ?_
          rw [eqv_ints, ← Bool.decide_and]
          show decide (q = c.q ∧ [a] = [c.a]) = decide (q = c.q ∧ a = c.a)
          simp
        | mv q d t =>
          have hq : decide (q = c.q) = false := by
            have h : (decide (q = c.q) && true) = false := h
            rw [Bool.and_true] at h
            exact h
          exact et_is (et_and (b := true) (EvT.mono e4 stq) fun hh => absurd (show decide (q = c.q) = true from hh) (by rw [hq]; exact Bool.false_ne_true)) (by show (decide (q = c.q) && true) = decide (q = c.q); rw [Bool.and_true])
      · cases r with
        | mv q d t =>
          have h : (decide (q = c.q) && true) = false := h
          rw [Bool.and_true] at h
          exact absurd ((show decide (q = c.q) = true from h2)) (by rw [h]; exact Bool.false_ne_true)
        | wr q a b t =>
          refine s_retI (evi_tup2 (b := false) (d1 := .int t) (EvI.weak (evi_at (n := 4) (evi_var En5 rfl) rfl)) (evi_tupL (EvI.eq (evi_lcR1 (b := false) (n := 1) (fun _ => dTape c.l b c.r) En5 (evia_cons (evi_len (ds := [dTape c.l c.a c.r]) (EvI.dq (evi_var En5 rfl))) evia_nil) (by decide) fun i σ5 H5 hi e5 En6 => ?_) (by rw [one_rng])))) fun v H6 e6 y => nx v H6 (ex0.trans (e4.trans (e5.trans e6))) ?_
          · have hi0 : i = 0 := by omega
            subst hi0
            have tp : EvI K (tOp (rIx K) (tVar 3) (tVar 7)) σ5 H5 (.d false (.tuple [dInts c.l, .int c.a, dInts c.r])) := evi_ix (EvI.dq (evi_var En6 rfl)) (evi_var En6 rfl) (atI_at (j := 0) rfl rfl)
            exact evi_tup3 (evi_at (n := 0) tp rfl) (EvI.weak (evi_ix (EvI.dq (evi_at (n := 3) (evi_var En6 rfl) rfl)) (evi_var En6 rfl) (atI_at (j := 0) rfl rfl))) (evi_at (n := 2) tp rfl)
          · show Is K H6 v (.d false (dOpt (after rows c)))
            rw [find_at hr1 h2 hw]
            exact y
      · exact ⟨ex.trans (e4.trans e5), _, ⟨_, _, rfl, find_step hr1 h2 hw⟩, En5⟩
  · subst ek
    refine s_retI (K := K) (evi_non (b := false)) fun v H4 e4 y => nx v H4 ((e1.trans e2).trans ((e3.trans ex).trans e4)) ?_
    show Is K H4 v (.d false (dOpt (after rows c)))
    have ea : after rows c = none := by
      unfold after
      rw [← hw, List.length_map, List.drop_length]
      rfl
    rw [ea]
    exact y
end
end Bk

set_option Elab.async false
set_option linter.all false
set_option maxRecDepth 100000
set_option maxHeartbeats 4000000
set_option autoImplicit false
namespace Bk
open PySem PySem.Spec PyProof.Rows L2 Evl
abbrev kT (t : Tri) : List Key := [.inl t.1, .inl t.2.1, .inl t.2.2]
/-- a dict that holds what C tells -/
def RuleAt (K : PySem.W.Frag) (H : Hp) (a : Addr) (C : Tri → Tri → Prop) : Prop := ∃ kvs, H a = some (.dT kvs) ∧ ∀ k c, C k c → ∃ v, valV kvs (kT k) = some v ∧ Rp true K H v (dTri c)
abbrev partsF (vs : V) (ar as : Addr) : List (Str × V) := [("sizes", vs), ("_rule", .ref ar), ("_sources", .ref as)]
def PartsAt (K : PySem.W.Frag) (H : Hp) (p : Addr) (C : Tri → Tri → Prop) : Prop := ∃ dx vs ar as, H p = some (.ins (He.ga K "Parts") dx (partsF vs ar as)) ∧ RuleAt K H ar C ∧ RuleAt K H as fun c k => C k c
section
variable {b : Bool} {K : PySem.W.Frag} {td ty : TE} {σ : L2.St} {H H' : Hp} {a p : Addr} {C : Tri → Tri → Prop}
theorem RuleAt.ex (R : RuleAt K H a C) (e : Ex H H') : RuleAt K H' a C := by
  obtain ⟨kvs, h1, h2⟩ := R
  refine ⟨kvs, e _ _ h1, fun k c hc => ?_⟩
  obtain ⟨v, h3, h4⟩ := h2 k c hc
  exact ⟨v, h3, h4.tx (Tx.of e)⟩
theorem PartsAt.ex (R : PartsAt K H p C) (e : Ex H H') : PartsAt K H' p C := by
  obtain ⟨dx, vs, ar, as, h1, h2, h3⟩ := R
  exact ⟨dx, vs, ar, as, e _ _ h1, h2.ex e, h3.ex e⟩
theorem rp_tri {v : V} {t : Tri} (h : Rp b K H v (dTri t)) : ∃ c, v = .ref c ∧ TpB b K H c ((kT t).map kV) := by
  obtain ⟨c, xs, e, h1, h2⟩ := Rp.tup_eq h
  have ex : xs = [.int t.1, .int t.2.1, .int t.2.2] := RpA.ints_eq (ns := [t.1, t.2.1, t.2.2]) h2
  subst ex
  exact ⟨c, e, h1⟩
theorem evi_rule {k c : Tri} (hd : EvI K td σ H (.v (.ref a))) (R : RuleAt K H a C) (hy : EvI K ty σ H (.d b (dTri k))) (hc : C k c) : EvI K (tDGq K td ty) σ H (.d true (dTri c)) := fun H1 e Q q =>
  hd.evV H1 e _ fun H2 x => hy H2 (e.trans x) _ fun v H3 x3 yv => by
    obtain ⟨kvs, h1, h2⟩ := R.ex (e.trans (x.trans x3))
    obtain ⟨u, h3, h4⟩ := h2 k c hc
    obtain ⟨cc, rfl, h5⟩ := rp_tri yv
    exact ⟨a, u, rfl, ⟨kvs, kT k, cc, .inl h1, rfl, h5.sq, h3.symm⟩, q u H3 (x.trans x3) h4⟩
end
section
variable {P : Program} {w : World} {K : PySem.W.Frag} {mg : Str → Option Value} {base : Heap}
theorem quiet_is (T : Txt K mg) (H1 : Hp) : Is K H1 (.ref (He.ga K "QUIET")) (.d false (dTri tq)) := .tup (show TpB false K H1 _ _ from T.q H1) (.cons (.int 0) (.cons (.int 0) (.cons (.int 0) .nil)))
theorem sc_Parts_following : FnScope ["self", "row", "wide", "found", "k"] ["self", "row"] (defScope s_Parts_following) := ⟨rfl, rfl, rfl, by decide +kernel, rfl, by decide +kernel, by decide +kernel⟩
theorem c_Parts_following (T : Txt K mg) : CalleeM P w K mg base 1 (He.ga K "Parts") "_following" ["self", "row"] (spF K (fun p : Addr × (Tri → Tri → Prop) × List Tri × List Tri => [.v (.ref p.1), .d false (dLine p.2.2.1)]) (fun p H => PartsAt K H p.1 p.2.1 ∧ All2 p.2.1 (gather (tq :: p.2.2.1 ++ [tq])) p.2.2.2 ∧ p.2.2.1.length ≤ 950) fun p => .d false (dLine p.2.2.2)) := by
  obtain ⟨fd, F⟩ := T.f_Parts_following
  refine calleeM_of F T.cl_Parts T.m_Parts_following (fun _ _ _ _ _ _ us hl => match us, hl with | [_, _], _ => rfl) (F.ok sc_Parts_following (fun _ => rfl) fun cdv A outer s H Q E p hr hp => ?_)
  have hu := hu_of hr
  refine ⟨_, (pss_cons (ps_set (i := 2) sc_Parts_following.nd rfl (Or.inl rfl) (pe_op op_catA (pe_op op_catA (pe_tup (pa_cons (pe_glob (v := .ref (He.ga K "QUIET")) rfl T.g_QUIET rfl) pa_nil)) (pe_callTy call_tuple_of (by rfl) T.z_tuple (by decide +kernel) (pa_cons (pv 1) pa_nil))) (pe_tup (pa_cons (pe_glob (v := .ref (He.ga K "QUIET")) rfl T.g_QUIET rfl) pa_nil))))
      (pss_cons (ps_set (i := 3) sc_Parts_following.nd rfl (Or.inl rfl) (pe_lst pa_nil))
      (pss_cons (ps_for PassesOwn.never rfl (pi_range2 rfl T.z_range (pa_cons pe_int (pa_cons (pe_op op_sub (pe_callB call_len_seq (by rfl) T.z_len PySem.boot_len (pa_cons (pv 2) pa_nil)) pe_int) pa_nil))) (pg_name (i := 4) sc_Parts_following.nd rfl (Or.inl rfl)) (pss_one (ps_expr (pe_bm PySem.F.plainAttrs_list PySem.F.slot_list_append PySem.F.type_list_append mt_append (pv 3) (pa_cons (pe_dq hu (pe_fld (pv 0) rfl) (pe_tup (pa_cons (pe_ix ix_seq (pe_ix ix_seq (pv 2) (pe_op op_sub (pv 4) pe_int) (fun _ _ => rfl)) pe_int (fun _ _ => rfl)) (pa_cons (pe_ix ix_seq (pe_ix ix_seq (pv 2) (pv 4) (fun _ _ => rfl)) pe_int (fun _ _ => rfl)) (pa_cons (pe_ix ix_seq (pe_ix ix_seq (pv 2) (pe_op op_add (pv 4) pe_int) (fun _ _ => rfl)) pe_int (fun _ _ => rfl)) pa_nil)))) (fun _ _ => rfl)) pa_nil)))))
      (pss_one (ps_ret (pe_callTy call_tuple_of (by rfl) T.z_tuple (by decide +kernel) (pa_cons (pv 3) pa_nil))))))), fun σ En0 nx => ?_⟩
  obtain ⟨p, C, R, cs⟩ := p
  obtain ⟨PA, hA, hR⟩ := hp
  simp only at PA hA hR
  have En0 : En K H σ [some (.v (.ref p)), some (.d false (.tuple (R.map dTri))), none, none, none] := En0
  have lR : (R.map dTri).length = R.length := List.length_map ..
  have qk := fun (H9 : Hp) (σ9 : L2.St) => evi_k (σ := σ9) (H := H9) (quiet_is (K := K) T H9)
  refine q_setI (k := .d false (dLine (tq :: R ++ [tq]))) En0 (EvI.eq (evi_catT (evi_catT (evi_tup1 (evi_k (quiet_is T H))) (evi_tupT (evi_var En0 rfl)) (by rw [lR]; show 1 + _ ≤ _; omega)) (evi_tup1 (evi_k (quiet_is T H))) (by rw [List.length_append, lR]; show 1 + R.length + 1 ≤ _; omega)) ?_) fun σ1 H1 e1 En1 => ?_
  · unfold dLine
    rw [List.map_append]
    rfl
  obtain ⟨Wd, eW⟩ : ∃ Wd, Wd = tq :: R ++ [tq] := ⟨_, rfl⟩
  rw [← eW] at En1 hA
  have lW : Wd.length = R.length + 2 := by rw [eW, List.length_append, List.length_cons]; rfl
  have lc : R.length = cs.length := by rw [← hA.len, gather_len, lW]; omega
  refine q_newI false En1 fun l σ2 H2 O2 En2 => ?_
  have En2 : En K H2 σ2 [some (.v (.ref p)), some (.d false (.tuple (R.map dTri))), some (.d false (.tuple (Wd.map dTri))), some (.v (.ref l)), none] := En2
  refine q_forR2M (lo := 1) (n := (Wd.length : Int) - 1) (fun i => (cs.take i).map dTri) (fun _ ks => ∃ o, ks = [some (.v (.ref p)), some (.d false (.tuple (R.map dTri))), some (.d false (.tuple (Wd.map dTri))), some (.v (.ref l)), o] ∧ stbK o = true) O2 En2 (evia_cons (evi_int (b := true)) (evia_cons (evi_op0 (EvI.eq (evi_len (EvI.dq (evi_var En2 rfl))) (by rw [List.length_map])) (evi_int (b := true))) evia_nil)) (by omega) ⟨_, rfl, rfl⟩ (fun i ks' σ' H' hi ⟨o, ek, ho⟩ O En3 => ?_) fun ks' σ' H' ⟨o, ek, ho⟩ O En3 => ?_
  · subst ek
    have En3 : En K H' σ' [some (.v (.ref p)), some (.d false (.tuple (R.map dTri))), some (.d false (.tuple (Wd.map dTri))), some (.v (.ref l)), some (dI (1 + (i : Int)))] := En3
    have hi : i + 2 < Wd.length := by omega
    obtain ⟨x, hx⟩ : ∃ x, Wd[i]? = some x := ⟨_, List.getElem?_eq_getElem (by omega)⟩
    obtain ⟨y, hy⟩ : ∃ x, Wd[i + 1]? = some x := ⟨_, List.getElem?_eq_getElem (by omega)⟩
    obtain ⟨z, hz⟩ : ∃ x, Wd[i + 2]? = some x := ⟨_, List.getElem?_eq_getElem (by omega)⟩
    obtain ⟨c, hc1, hc2⟩ := hA.get (gather_get Wd i hx hy hz)
    obtain ⟨dx, vs, ar, as, hp, hr1, hr2⟩ := PA.ex (e1.trans O.ex)
    refine s_appI (r := dTri c) En3 rfl O (evi_var En3 rfl) (EvI.weak (evi_rule (evi_fld (evi_var En3 rfl) hp T.cl_Parts T.n_Parts_rule rfl fun _ _ => rfl) hr1 (evi_tri (b := true) (evi_at (n := 2) (evi_ix (EvI.dq (evi_var En3 rfl)) (evi_op0 (evi_var En3 rfl) (evi_int (b := true))) (atI_at (j := i) (by omega) (map_get hx))) rfl) (evi_at (n := 1) (evi_ix (EvI.dq (evi_var En3 rfl)) (evi_var En3 rfl) (atI_at (j := i + 1) (by omega) (map_get hy))) rfl) (evi_at (n := 0) (evi_ix (EvI.dq (evi_var En3 rfl)) (evi_op0 (evi_var En3 rfl) (evi_int (b := true))) (atI_at (j := i + 2) (by omega) (map_get hz))) rfl)) hc2)) (by rw [List.length_map, List.length_take]; omega) fun H4 O4 En4 => ⟨O4.eq ?_, _, ⟨_, rfl, rfl⟩, En4⟩
    show _ = (cs.take (i + 1)).map dTri
    rw [List.take_add_one, hc1, List.map_append]
    rfl
  · subst ek
    refine s_retI (evi_tupL (evi_own (evi_var En3 rfl) O)) fun v H4 e4 yy => nx v H4 (e1.trans (O.ex.trans e4)) ?_
    rw [show ((Wd.length : Int) - 1 - 1).toNat = cs.length by omega, List.take_length] at yy
    exact yy
end
end Bk

set_option Elab.async false
set_option linter.all false
set_option maxRecDepth 100000
set_option maxHeartbeats 4000000
set_option autoImplicit false
namespace Bk
open PySem PySem.Spec PyProof.Rows L2 Evl
section
variable {P : Program} {w : World} {K : PySem.W.Frag} {mg : Str → Option Value} {base : Heap}
abbrev LC : Type := Addr × (Tri → Tri → Prop) × List Tri × List Tri
theorem sc_Parts_step : FnScope ["self", "configuration"] ["self", "configuration"] (defScope s_Parts_step) := ⟨rfl, rfl, rfl, by decide +kernel, rfl, by decide +kernel, by decide +kernel⟩
theorem c_Parts_step (T : Txt K mg) : CalleeM P w K mg base 2 (He.ga K "Parts") "step" ["self", "configuration"] (spF K (fun p : LC => [.v (.ref p.1), .d false (dLine p.2.2.1)]) (fun p H => PartsAt K H p.1 p.2.1 ∧ StepR p.2.1 p.2.2.1 p.2.2.2 ∧ p.2.2.1.length ≤ 900) fun p => .d false (dLine p.2.2.2)) := by
  obtain ⟨fd, F⟩ := T.f_Parts_step
  refine calleeM_of F T.cl_Parts T.m_Parts_step (fun _ _ _ _ _ _ us hl => match us, hl with | [_, _], _ => rfl) (F.ok sc_Parts_step (fun _ => rfl) fun cdv A outer s H Q E p hr hp => ?_)
  have hu := hu_of hr
  refine ⟨_, (pss_one (ps_ret (pe_C (c_trimmed_line T) hr (by decide) (by rfl) (pa_cons (pe_M (pv 0) (c_Parts_following T) hr (by decide) (pa_cons (pe_op op_catA (pe_op op_catA (pe_tup (pa_cons (pe_glob (v := .ref (He.ga K "QUIET")) rfl T.g_QUIET rfl) pa_nil)) (pv 1)) (pe_tup (pa_cons (pe_glob (v := .ref (He.ga K "QUIET")) rfl T.g_QUIET rfl) pa_nil))) pa_nil)) pa_nil)))), fun σ En0 nx => ?_⟩
  obtain ⟨p, C, L, L'⟩ := p
  obtain ⟨PA, ⟨cs, hA, eL⟩, hL⟩ := hp
  simp only at PA hA eL hL
  subst eL
  have lL : (L.map dTri).length = L.length := List.length_map ..
  have En0 : En K H σ [some (.v (.ref p)), some (.d false (.tuple (L.map dTri)))] := En0
  obtain ⟨dx, vs, ar, as, hp0, hr1, hr2⟩ := id PA
  have lcs : cs.length ≤ 1000 := by
    have := hA.len
    rw [gather_len] at this
    unfold wide at this
    simp only [List.length_append, List.length_cons, List.length_nil] at this
    omega
  refine s_retI (evi_call cs (evia_cons (EvI.dq (ds := cs.map dTri) (evi_meth (kr := [.d false (dLine (tq :: L ++ [tq]))]) (p, C, tq :: L ++ [tq], cs) (evi_var En0 rfl) hp0 rfl (evia_cons (EvI.eq (evi_catT (evi_catT (evi_tup1 (evi_k (quiet_is T H))) (evi_var En0 rfl) (by rw [lL]; show 1 + _ ≤ _; omega)) (evi_tup1 (evi_k (quiet_is T H))) (by rw [List.length_append, lL]; show 1 + L.length + 1 ≤ _; omega)) ?_) evia_nil) rfl fun H1 e1 => ⟨PA.ex e1, ?_, ?_⟩)) evia_nil) fun _ _ => lcs) nx
  · unfold dLine
    rw [List.map_append]
    rfl
  · have e : tq :: (tq :: L ++ [tq]) ++ [tq] = wide L := by
      unfold wide
      simp
    show All2 C (gather (tq :: (tq :: L ++ [tq]) ++ [tq])) cs
    rw [e]
    exact hA
  · show (tq :: L ++ [tq]).length ≤ 950
    simp only [List.length_append, List.length_cons, List.length_nil]
    omega
theorem sc_Parts_back : FnScope ["self", "configuration", "sources", "cell", "found", "k"] ["self", "configuration"] (defScope s_Parts_back) := ⟨rfl, rfl, rfl, by decide +kernel, rfl, by decide +kernel, by decide +kernel⟩
def InjR (C : Tri → Tri → Prop) : Prop := ∀ k k' c, C k c → C k' c → k = k'
noncomputable def src (C : Tri → Tri → Prop) (c : Tri) : Tri := Classical.epsilon fun k => C k c
theorem src_eq {C : Tri → Tri → Prop} (hi : InjR C) {k c : Tri} (h : C k c) : src C c = k := hi _ _ c (Classical.epsilon_spec (p := fun k => C k c) ⟨k, h⟩) h
noncomputable def srcD (C : Tri → Tri → Prop) : PyData → PyData
  | .tuple [.int a, .int b, .int c] => dTri (src C (a, b, c))
  | _ => .none
theorem src_map {C : Tri → Tri → Prop} (hi : InjR C) : ∀ {L ks : List Tri}, All2 (fun c k => C k c) L ks → (L.map dTri).map (srcD C) = ks.map dTri
  | [], [], _ => rfl
  | c :: L, k :: ks, h => by
    rw [List.map_cons, List.map_cons, List.map_cons, src_map hi h.2]
    congr 1
    exact congrArg dTri (src_eq hi h.1)
  | [], _ :: _, h => h.elim
  | _ :: _, [], h => h.elim
theorem all2_mem {C : Tri → Tri → Prop} : ∀ {L ks : List Tri}, All2 (fun c k => C k c) L ks → ∀ c ∈ L, ∃ k, C k c
  | [], _, _, _, hc => by cases hc
  | c :: L, k :: ks, h, c', hc => by
    rcases List.mem_cons.mp hc with e | hc
    · exact ⟨k, e ▸ h.1⟩
    · exact all2_mem h.2 c' hc
  | _ :: _, [], h, _, _ => h.elim
theorem c_Parts_back (T : Txt K mg) : CalleeM P w K mg base 2 (He.ga K "Parts") "back" ["self", "configuration"] (spF K (fun p : LC => [.v (.ref p.1), .d false (dLine p.2.2.1)]) (fun p H => PartsAt K H p.1 p.2.1 ∧ InjR p.2.1 ∧ BackR p.2.1 p.2.2.1 p.2.2.2 ∧ p.2.2.1.length ≤ 900) fun p => .d false (dLine p.2.2.2)) := by
  obtain ⟨fd, F⟩ := T.f_Parts_back
  refine calleeM_of F T.cl_Parts T.m_Parts_back (fun _ _ _ _ _ _ us hl => match us, hl with | [_, _], _ => rfl) (F.ok sc_Parts_back (fun _ => rfl) fun cdv A outer s H Q E p hr hp => ?_)
  have hu := hu_of hr
  refine ⟨_, (pss_cons (ps_setLc (i := 2) (own := [("cell", 3)]) (te := (tDGq K (tFld K (tVar 0) _) (tVar 3))) (tt := tYes) rfl sc_Parts_back.nd rfl rfl (sw_true rfl rfl rfl (by decide +kernel)) (pi_tup (pe_op op_catA (pe_op op_catA (pe_tup (pa_cons (pe_glob (v := .ref (He.ga K "QUIET")) rfl T.g_QUIET rfl) (pa_cons (pe_glob (v := .ref (He.ga K "QUIET")) rfl T.g_QUIET rfl) pa_nil))) (pv 1)) (pe_tup (pa_cons (pe_glob (v := .ref (He.ga K "QUIET")) rfl T.g_QUIET rfl) (pa_cons (pe_glob (v := .ref (He.ga K "QUIET")) rfl T.g_QUIET rfl) pa_nil))))) (blkOk_by (N := ["self", "configuration", "sources", "cell", "found", "k"]) (sc := defScope s_Parts_back) (by decide +kernel)) (fun _ _ _ _ _ => (pg_name (i := 3) sc_Parts_back.nd rfl (Or.inl rfl))) (fun _ _ _ _ _ => pts_nil) (fun _ _ _ _ _ => (pe_dq hu (pe_fld (pv 0) rfl) (pv 3) (fun _ _ => rfl))))
      (pss_cons (ps_set (i := 4) sc_Parts_back.nd rfl (Or.inl rfl) (pe_lst pa_nil))
      (pss_cons (ps_for PassesOwn.never rfl (pi_range2 rfl T.z_range (pa_cons pe_int (pa_cons (pe_op op_sub (pe_callB call_len_seq (by rfl) T.z_len PySem.boot_len (pa_cons (pv 2) pa_nil)) pe_int) pa_nil))) (pg_name (i := 5) sc_Parts_back.nd rfl (Or.inl rfl)) (pss_one (ps_expr (pe_bm PySem.F.plainAttrs_list PySem.F.slot_list_append PySem.F.type_list_append mt_append (pv 4) (pa_cons (pe_tup (pa_cons (pe_ix ix_seq (pe_ix ix_seq (pv 2) (pe_op op_sub (pv 5) pe_int) (fun _ _ => rfl)) pe_int (fun _ _ => rfl)) (pa_cons (pe_ix ix_seq (pe_ix ix_seq (pv 2) (pv 5) (fun _ _ => rfl)) pe_int (fun _ _ => rfl)) (pa_cons (pe_ix ix_seq (pe_ix ix_seq (pv 2) (pe_op op_add (pv 5) pe_int) (fun _ _ => rfl)) pe_int (fun _ _ => rfl)) pa_nil)))) pa_nil)))))
      (pss_one (ps_ret (pe_C (c_trimmed_line T) hr (by decide) (by rfl) (pa_cons (pv 4) pa_nil))))))), fun σ En0 nx => ?_⟩
  obtain ⟨p, C, L, L'⟩ := p
  obtain ⟨PA, hi, ⟨ks, hA, eL⟩, hL⟩ := hp
  simp only at PA hi hA eL hL
  subst eL
  have lL : (L.map dTri).length = L.length := List.length_map ..
  have lw : (wide L).length = L.length + 4 := by
    unfold wide
    simp only [List.length_append, List.length_cons, List.length_nil]
  have lk : ks.length = L.length + 4 := by rw [← hA.len, lw]
  have En0 : En K H σ [some (.v (.ref p)), some (.d false (.tuple (L.map dTri))), none, none, none, none] := En0
  refine q_setI (k := .l true (ks.map dTri)) En0 (EvI.eq (evi_lcT1 (b := true) (b' := false) (ds := (wide L).map dTri) (srcD C) En0 (EvI.eq (evi_catT (evi_catT (evi_tup2 (evi_k (quiet_is T H)) (evi_k (quiet_is T H))) (evi_var En0 rfl) (by rw [lL]; show 2 + _ ≤ _; omega)) (evi_tup2 (evi_k (quiet_is T H)) (evi_k (quiet_is T H))) (by rw [List.length_append, lL]; show 2 + L.length + 2 ≤ _; omega)) ?_) (by rw [List.length_map, lw]; omega) fun d σ2 H2 hd e2 En2 => ?_) (by rw [src_map hi hA])) fun σ1 H1 e1 En1 => ?_
  · unfold wide
    rw [List.map_append]
    rfl
  · obtain ⟨⟨a, b, c⟩, hc, ed⟩ := List.mem_map.mp hd
    subst ed
    obtain ⟨k, hk⟩ := all2_mem hA _ hc
    obtain ⟨dx, vs, ar, as, hp0, hr1, hr2⟩ := PA.ex e2
    have e : src C (a, b, c) = k := src_eq hi hk
    show EvI K _ σ2 H2 (.d true (dTri (src C (a, b, c))))
    rw [e]
    exact evi_rule (b := false) (evi_fld (evi_var En2 rfl) hp0 T.cl_Parts T.n_Parts_sources rfl fun _ _ => rfl) hr2 (evi_var En2 rfl) hk
  obtain ⟨vk, hvk, En1⟩ := En1.fix (i := 2) rfl
  refine q_newI false En1 fun l σ2 H2 O2 En2 => ?_
  have En2 : En K H2 σ2 [some (.v (.ref p)), some (.d false (.tuple (L.map dTri))), some (.v vk), none, some (.v (.ref l)), none] := En2
  refine q_forR2M (lo := 1) (n := (ks.length : Int) - 1) (fun i => ((gather ks).take i).map dTri) (fun _ kk => ∃ o, kk = [some (.v (.ref p)), some (.d false (.tuple (L.map dTri))), some (.v vk), none, some (.v (.ref l)), o] ∧ stbK o = true) O2 En2 (evia_cons (evi_int (b := true)) (evia_cons (evi_op0 (EvI.eq (evi_len (EvI.lq (evi_fix (evi_var En2 rfl) hvk O2.ex))) (by rw [List.length_map])) (evi_int (b := true))) evia_nil)) (by omega) ⟨_, rfl, rfl⟩ (fun i ks' σ' H' hi ⟨o, ek, ho⟩ O En3 => ?_) fun ks' σ' H' ⟨o, ek, ho⟩ O En3 => ?_
  · subst ek
    have En3 : En K H' σ' _ := En3
    have hi : i + 2 < ks.length := by omega
    obtain ⟨x, hx⟩ : ∃ x, ks[i]? = some x := ⟨_, List.getElem?_eq_getElem (by omega)⟩
    obtain ⟨y, hy⟩ : ∃ x, ks[i + 1]? = some x := ⟨_, List.getElem?_eq_getElem (by omega)⟩
    obtain ⟨z, hz⟩ : ∃ x, ks[i + 2]? = some x := ⟨_, List.getElem?_eq_getElem (by omega)⟩
    have gg := gather_get ks i hx hy hz
    have En3 : En K H' σ' [some (.v (.ref p)), some (.d false (.tuple (L.map dTri))), some (.v vk), none, some (.v (.ref l)), some (dI (1 + (i : Int)))] := En3
    have so : EvI K (tVar 2) σ' H' (.l true (ks.map dTri)) := evi_fix (evi_var En3 rfl) hvk O.ex
    refine s_appI (r := dTri (x.2.2, y.2.1, z.1)) En3 rfl O (evi_var En3 rfl) (evi_tri (b := false) (evi_at (n := 2) (evi_ix (EvI.lq so) (evi_op0 (evi_var En3 rfl) (evi_int (b := true))) (atI_at (j := i) (by omega) (map_get hx))) rfl) (evi_at (n := 1) (evi_ix (EvI.lq so) (evi_var En3 rfl) (atI_at (j := i + 1) (by omega) (map_get hy))) rfl) (evi_at (n := 0) (evi_ix (EvI.lq so) (evi_op0 (evi_var En3 rfl) (evi_int (b := true))) (atI_at (j := i + 2) (by omega) (map_get hz))) rfl)) (by rw [List.length_map, List.length_take]; omega) fun H4 O4 En4 => ⟨O4.eq ?_, _, ⟨_, rfl, rfl⟩, En4⟩
    show _ = ((gather ks).take (i + 1)).map dTri
    rw [List.take_add_one, gg, List.map_append]
    rfl
  · subst ek
    have lg : (gather ks).length = L.length + 2 := by rw [gather_len, lk]; omega
    refine s_retI (evi_call (gather ks) (evia_cons (EvI.lq (EvI.eq (evi_own (evi_var En3 rfl) O) ?_)) evia_nil) fun _ _ => by rw [lg]; omega) fun v H4 e4 yy => nx v H4 (e1.trans (O.ex.trans e4)) yy
    rw [show ((ks.length : Int) - 1 - 1).toNat = (gather ks).length by omega, List.take_length]
abbrev LP : Type := Addr × (Tri → Tri → Prop) × (Nat → List Tri) × Nat
theorem sc_Parts_run : FnScope ["self", "configuration", "steps", "_"] ["self", "configuration", "steps"] (defScope s_Parts_run) := ⟨rfl, rfl, rfl, by decide +kernel, rfl, by decide +kernel, by decide +kernel⟩
theorem c_Parts_run (T : Txt K mg) : CalleeM P w K mg base 3 (He.ga K "Parts") "run" ["self", "configuration", "steps"] (spF K (fun p : LP => [.v (.ref p.1), .d false (dLine (p.2.2.1 0)), dI (p.2.2.2 : Int)]) (fun p H => PartsAt K H p.1 p.2.1 ∧ (∀ i < p.2.2.2, StepR p.2.1 (p.2.2.1 i) (p.2.2.1 (i + 1)) ∧ (p.2.2.1 i).length ≤ 900) ∧ p.2.2.2 ≤ 1000) fun p => .d false (dLine (p.2.2.1 p.2.2.2))) := by
  obtain ⟨fd, F⟩ := T.f_Parts_run
  refine calleeM_of F T.cl_Parts T.m_Parts_run (fun _ _ _ _ _ _ us hl => match us, hl with | [_, _, _], _ => rfl) (F.ok sc_Parts_run (fun _ => rfl) fun cdv A outer s H Q E p hr hp => ⟨_, (pss_cons (ps_for PassesOwn.never rfl (pi_range1 rfl T.z_range (pa_cons (pv 2) pa_nil)) (pg_name (i := 3) sc_Parts_run.nd rfl (Or.inl rfl)) (pss_one (ps_set (i := 1) sc_Parts_run.nd rfl (Or.inl rfl) (pe_M (pv 0) (c_Parts_step T) hr (by decide) (pa_cons (pv 1) pa_nil)))))
      (pss_one (ps_ret (pv 1)))), fun σ En0 nx => ?_⟩)
  obtain ⟨p, C, f, n⟩ := p
  obtain ⟨PA, hS, hn⟩ := hp
  simp only at PA hS hn
  have En0 : En K H σ [some (.v (.ref p)), some (.d false (dLine (f 0))), some (dI (n : Int)), none] := En0
  refine q_forRI En0 (evia_cons (evi_var En0 rfl) evia_nil) (by omega) (fun i ks => ∃ o, ks = [some (.v (.ref p)), some (.d false (dLine (f i))), some (dI (n : Int)), o]) ⟨_, rfl⟩ (fun i ks' σ' H' hi ⟨o, ek⟩ ex En1 => ?_) fun ks' σ' H' ⟨o, ek⟩ ex En1 => ?_
  · subst ek
    have hi : i < n := by omega
    obtain ⟨dx, vs, ar, as, hp0, hr1, hr2⟩ := PA.ex ex
    have En1 : En K H' σ' [some (.v (.ref p)), some (.d false (dLine (f i))), some (dI (n : Int)), some (dI (i : Int))] := En1
    exact s_setI (k := .d false (dLine (f (i + 1)))) En1 (evi_meth (kr := [.d false (dLine (f i))]) (p, C, f i, f (i + 1)) (evi_var En1 rfl) hp0 rfl (evia_cons (evi_var En1 rfl) evia_nil) rfl fun H1 e1 => ⟨PA.ex (ex.trans e1), hS i hi⟩) fun σ2 H2 e2 En2 => ⟨ex.trans e2, _, ⟨_, rfl⟩, En2⟩
  · subst ek
    exact s_retI (evi_var En1 rfl) fun v H2 e2 y => nx v H2 (ex.trans e2) y
theorem sc_Parts_run_back : FnScope ["self", "configuration", "steps", "_"] ["self", "configuration", "steps"] (defScope s_Parts_run_back) := ⟨rfl, rfl, rfl, by decide +kernel, rfl, by decide +kernel, by decide +kernel⟩
theorem c_Parts_run_back (T : Txt K mg) : CalleeM P w K mg base 3 (He.ga K "Parts") "run_back" ["self", "configuration", "steps"] (spF K (fun p : LP => [.v (.ref p.1), .d false (dLine (p.2.2.1 0)), dI (p.2.2.2 : Int)]) (fun p H => PartsAt K H p.1 p.2.1 ∧ InjR p.2.1 ∧ (∀ i < p.2.2.2, BackR p.2.1 (p.2.2.1 i) (p.2.2.1 (i + 1)) ∧ (p.2.2.1 i).length ≤ 900) ∧ p.2.2.2 ≤ 1000) fun p => .d false (dLine (p.2.2.1 p.2.2.2))) := by
  obtain ⟨fd, F⟩ := T.f_Parts_run_back
  refine calleeM_of F T.cl_Parts T.m_Parts_run_back (fun _ _ _ _ _ _ us hl => match us, hl with | [_, _, _], _ => rfl) (F.ok sc_Parts_run_back (fun _ => rfl) fun cdv A outer s H Q E p hr hp => ⟨_, (pss_cons (ps_for PassesOwn.never rfl (pi_range1 rfl T.z_range (pa_cons (pv 2) pa_nil)) (pg_name (i := 3) sc_Parts_run_back.nd rfl (Or.inl rfl)) (pss_one (ps_set (i := 1) sc_Parts_run_back.nd rfl (Or.inl rfl) (pe_M (pv 0) (c_Parts_back T) hr (by decide) (pa_cons (pv 1) pa_nil)))))
      (pss_one (ps_ret (pv 1)))), fun σ En0 nx => ?_⟩)
  obtain ⟨p, C, f, n⟩ := p
  obtain ⟨PA, hinj, hS, hn⟩ := hp
  simp only at PA hS hn hinj
  have En0 : En K H σ [some (.v (.ref p)), some (.d false (dLine (f 0))), some (dI (n : Int)), none] := En0
  refine q_forRI En0 (evia_cons (evi_var En0 rfl) evia_nil) (by omega) (fun i ks => ∃ o, ks = [some (.v (.ref p)), some (.d false (dLine (f i))), some (dI (n : Int)), o]) ⟨_, rfl⟩ (fun i ks' σ' H' hi ⟨o, ek⟩ ex En1 => ?_) fun ks' σ' H' ⟨o, ek⟩ ex En1 => ?_
  · subst ek
    have hi : i < n := by omega
    obtain ⟨dx, vs, ar, as, hp0, hr1, hr2⟩ := PA.ex ex
    have En1 : En K H' σ' [some (.v (.ref p)), some (.d false (dLine (f i))), some (dI (n : Int)), some (dI (i : Int))] := En1
    exact s_setI (k := .d false (dLine (f (i + 1)))) En1 (evi_meth (kr := [.d false (dLine (f i))]) (p, C, f i, f (i + 1)) (evi_var En1 rfl) hp0 rfl (evia_cons (evi_var En1 rfl) evia_nil) rfl fun H1 e1 => ⟨PA.ex (ex.trans e1), hinj, hS i hi⟩) fun σ2 H2 e2 En2 => ⟨ex.trans e2, _, ⟨_, rfl⟩, En2⟩
  · subst ek
    exact s_retI (evi_var En1 rfl) fun v H2 e2 y => nx v H2 (ex.trans e2) y
end
end Bk

set_option Elab.async false
set_option linter.all false
set_option maxRecDepth 100000
set_option maxHeartbeats 4000000
set_option autoImplicit false
/-! Dicts by kinds; the heap without what is being made. -/
namespace Bk
open PySem PySem.Spec PyProof.Rows L2 Evl
abbrev kI (ns : List Int) : List Key := ns.map .inl
theorem kI_kV (ns : List Int) : (kI ns).map kV = ns.map V.int := by
  rw [List.map_map]
  rfl
/-- the heap without ps -/
def gh (H : Hp) (ps : List Addr) : Hp := fun a => if a ∈ ps then none else H a
/-- nothing that a kind speaks of -/
def HO.odd : HO → Bool
  | .lst _ | .tup _ | .frz _ _ => false
  | _ => true
section
variable {b b' : Bool} {K : PySem.W.Frag} {σ : L2.St} {H H' H1 : Hp} {ta tb td ty tv tl : TE} {tt : TT} {k : Kd} {ks : List (Option Kd)} {D : Ends} {tu tz : TS} {a p : Addr} {ps : List Addr}
theorem gh_in (h : p ∈ ps) : gh H ps p = none := if_pos h
theorem gh_ne (h : p ∉ ps) : gh H ps p = H p := if_neg h
theorem gh_ex : Ex (gh H ps) H := fun a o h => by
  unfold gh at h
  split at h
  · cases h
  · exact h
theorem gh_mono (e : Ex H H') : Ex (gh H ps) (gh H' ps) := fun a o h => by
  unfold gh at h ⊢
  split at h
  · cases h
  · rename_i q
    rw [if_neg q]
    exact e _ _ h
theorem gh_upd {o : HO} (h : p ∈ ps) : gh (upd H p o) ps = gh H ps := by
  funext x
  unfold gh
  split
  · rfl
  · rename_i q
    exact upd_ne fun e => q (e ▸ h)
theorem gh_up (e : Ex H1 H) (h : ∀ p ∈ ps, H1 p = none) : Ex H1 (gh H ps) := fun x o q => by
  rw [gh_ne fun z => by rw [h x z] at q; cases q]
  exact e _ _ q
/-- what stands at ps is no list, no tuple -/
def Odd (H : Hp) (ps : List Addr) : Prop := ∀ p ∈ ps, ∃ o, H p = some o ∧ HO.odd o = true
theorem Odd.mono (h : Odd H ps) (e : Ex H H') : Odd H' ps := fun p hp => by
  obtain ⟨o, h1, h2⟩ := h p hp
  exact ⟨o, e _ _ h1, h2⟩
theorem Odd.upd {o : HO} (h : Odd H ps) (ho : HO.odd o = true) : Odd (upd H p o) ps := fun q hq => by
  obtain ⟨u, h1, h2⟩ := h q hq
  by_cases e : q = p
  · subst e
    exact ⟨o, upd_same, ho⟩
  · exact ⟨u, (upd_ne e).trans h1, h2⟩
theorem gh_tx (h : Odd H ps) : Tx K H (gh H ps) := by
  refine ⟨fun a xs e => ?_, fun a o xs e => ?_⟩
  · rw [gh_ne fun z => by obtain ⟨u, h1, h2⟩ := h a z; rw [e] at h1; cases h1; cases h2]
    exact e
  · rw [gh_ne fun z => by obtain ⟨u, h1, h2⟩ := h a z; rw [e] at h1; cases h1; cases h2]
    exact e
theorem gh_sl {xs : List V} (h : Odd H ps) (e : SqL K H a xs) : SqL K (gh H ps) a xs := by
  rcases e with (e | ⟨o, e⟩) | e
  · refine .inl (.inl ?_)
    rw [gh_ne fun z => by obtain ⟨u, h1, h2⟩ := h a z; rw [e] at h1; cases h1; cases h2]
    exact e
  · refine .inl (.inr ⟨o, ?_⟩)
    rw [gh_ne fun z => by obtain ⟨u, h1, h2⟩ := h a z; rw [e] at h1; cases h1; cases h2]
    exact e
  · exact .inr e
theorem Is.gh {v : V} (h : Odd H ps) : ∀ {k : Kd}, Is K H v k → Is K (gh H ps) v k
  | .d _ _, q => Rp.tx (gh_tx h) q
  | .l _ _, ⟨p, xs, h1, h2, h3⟩ => ⟨p, xs, h1, by
      rw [gh_ne fun z => by obtain ⟨u, q1, q2⟩ := h p z; rw [h2] at q1; cases q1; cases q2]
      exact h2, h3.tx (gh_tx h)⟩
  | .q _ _, ⟨p, xs, h1, h2, h3⟩ => ⟨p, xs, h1, h2.imp (gh_sl h) (fun z => (gh_tx h).sq z), h3.tx (gh_tx h)⟩
  | .v _, q => q
theorem En.gh (h : Odd H ps) (E : En K H σ ks) : En K (gh H ps) σ ks := ⟨E.len, fun i k e => by
  obtain ⟨v, h1, h2⟩ := E.get i k e
  exact ⟨v, h1, h2.gh h⟩⟩
/-- a thing that is being written: the slots stand -/
theorem En.mut {o : HO} (h : Odd H ps) (hp : p ∈ ps) (E : En K H σ ks) : En K (upd H p o) σ ks := by
  have q := E.gh h
  rw [← gh_upd (o := o) hp] at q
  exact q.ex gh_ex
theorem Is.mut {o : HO} {v : V} (h : Odd H ps) (hp : p ∈ ps) (E : Is K H v k) : Is K (upd H p o) v k := by
  have q := E.gh h
  rw [← gh_upd (o := o) hp] at q
  exact q.ex gh_ex
theorem TpB.trk {xs : List V} (h : TpB true K H a xs) : H a = some (.tup xs) := by
  unfold TpB at h
  rw [if_pos rfl] at h
  exact h
theorem rp_ints {v : V} {ns : List Int} (h : Rp b K H v (dInts ns)) : ∃ c, v = .ref c ∧ TpB b K H c ((kI ns).map kV) := by
  obtain ⟨c, xs, e, h1, h2⟩ := Rp.tup_eq h
  rw [RpA.ints_eq h2] at h1
  exact ⟨c, e, by rw [kI_kV]; exact h1⟩
/-! ### dicts whose keys are tuples of ints -/
theorem evi_inT {neg : Bool} {ns : List Int} {kvs : List (List Key × V)} (hy : EvI K ty σ H (.d b (dInts ns))) (hd : EvI K td σ H (.v (.ref a))) (ha : H a = some (.dT kvs)) : EvI K (tDIq K neg ty td) σ H (dB (if neg then !(valV kvs (kI ns)).isSome else (valV kvs (kI ns)).isSome)) := fun H1 e Q q =>
  hy H1 e _ fun v H2 x yv => hd.evV H2 (e.trans x) _ fun H3 x3 => by
    obtain ⟨c, rfl, h5⟩ := rp_ints (Rp.tx (Tx.of x3) yv)
    exact ⟨a, _, rfl, ⟨kvs, kI ns, c, .inl ((e.trans (x.trans x3)) _ _ ha), rfl, h5.sq, rfl⟩, q _ H3 (x.trans x3) (.bl _)⟩
theorem evi_getT {ns : List Int} {kvs : List (List Key × V)} {v : V} (hd : EvI K td σ H (.v (.ref a))) (ha : H a = some (.dT kvs)) (hy : EvI K ty σ H (.d b (dInts ns))) (hv : valV kvs (kI ns) = some v) (hk : ∀ H1, Ex H H1 → Is K H1 v k) : EvI K (tDGq K td ty) σ H k := fun H1 e Q q =>
  hd.evV H1 e _ fun H2 x => hy H2 (e.trans x) _ fun u H3 x3 yv => by
    obtain ⟨c, rfl, h5⟩ := rp_ints yv
    exact ⟨a, v, rfl, ⟨kvs, kI ns, c, .inl ((e.trans (x.trans x3)) _ _ ha), rfl, h5.sq, hv.symm⟩, q v H3 (x.trans x3) (hk H3 (e.trans (x.trans x3)))⟩
theorem evi_get1T {ns : List Int} {kvs : List (List Key × V)} (hd : EvI K td σ H (.v (.ref a))) (ha : H a = some (.dT kvs)) (hy : EvI K ty σ H (.d b (dInts ns))) (hk : ∀ H1, Ex H H1 → Is K H1 ((valV kvs (kI ns)).getD .non) k) : EvI K (tDG1q K td ty) σ H k := fun H1 e Q q =>
  hd.evV H1 e _ fun H2 x => ⟨a, rfl, .inr ⟨kvs, .inl ((e.trans x) _ _ ha)⟩, hy H2 (e.trans x) _ fun u H3 x3 yv => by
    obtain ⟨c, rfl, h5⟩ := rp_ints yv
    exact ⟨_, ⟨kvs, kI ns, c, .inl ((e.trans (x.trans x3)) _ _ ha), rfl, h5.sq, rfl⟩, q _ H3 (x.trans x3) (hk H3 (e.trans (x.trans x3)))⟩⟩
/-- d[t] = e -/
theorem s_putT {ns : List Int} {kvs : List (List Key × V)} (hv : EvI K tv σ H k) (hd : EvI K td σ H (.v (.ref a))) (ha : H a = some (.dT kvs)) (hy : EvI K ty σ H (.d true (dInts ns))) (hz : kvs.length < 100000)
    (nx : ∀ v H', Ex H H' → Is K H' v k → D.nx σ (upd H' a (.dT (putK kvs (kI ns) v)))) : sDPut td ty tv D σ H :=
  hv H (Ex.refl H) _ fun v H1 e1 yv => hd.evV H1 e1 _ fun H2 e2 => hy H2 (e1.trans e2) _ fun u H3 e3 yu => by
    obtain ⟨c, rfl, h5⟩ := rp_ints yu
    exact ⟨a, _, rfl, DPut.t ((e1.trans (e2.trans e3)) _ _ ha) h5.trk (sz_lt hz), nx v H3 (e1.trans (e2.trans e3)) (yv.ex (e2.trans e3))⟩
/-! ### dicts whose keys are ints -/
theorem evi_inK {i : Int} {kvs : List (Key × V)} (hy : EvI K ty σ H (.d b (.int i))) (hd : EvI K td σ H (.v (.ref a))) (ha : H a = some (.dK kvs)) : EvI K (tDIn ty td) σ H (dB (valV kvs (.inl i)).isSome) := fun H1 e Q q =>
  hy.ev H1 e _ fun H2 x => hd.evV H2 (e.trans x) _ fun H3 x3 => ⟨a, _, rfl, DGet.k (k := .inl i) ((e.trans (x.trans x3)) _ _ ha), q _ H3 (x.trans x3) (.bl _)⟩
theorem evi_ninK {i : Int} {kvs : List (Key × V)} (hy : EvI K ty σ H (.d b (.int i))) (hd : EvI K td σ H (.v (.ref a))) (ha : H a = some (.dK kvs)) : EvI K (tDNotIn ty td) σ H (dB (!(valV kvs (.inl i)).isSome)) := fun H1 e Q q =>
  hy.ev H1 e _ fun H2 x => hd.evV H2 (e.trans x) _ fun H3 x3 => ⟨a, _, rfl, DGet.k (k := .inl i) ((e.trans (x.trans x3)) _ _ ha), q _ H3 (x.trans x3) (.bl _)⟩
/-- whether it is being walked or not -/
theorem evi_getK {i : Int} {kvs : List (Key × V)} {v : V} (hd : EvI K td σ H (.v (.ref a))) (ha : Rd H a (.dK kvs)) (hy : EvI K ty σ H (.d b (.int i))) (hv : valV kvs (.inl i) = some v) (hk : ∀ H1, Ex H H1 → Is K H1 v k) : EvI K (tDGet td ty) σ H k := fun H1 e Q q =>
  hd.evV H1 e _ fun H2 x => hy.ev H2 (e.trans x) _ fun H3 x3 =>
    ⟨a, v, rfl, .inl ⟨kvs, .inl i, ex_rd (e.trans (x.trans x3)) ha, rfl, hv.symm⟩, q v H3 (x.trans x3) (hk H3 (e.trans (x.trans x3)))⟩
theorem s_putK {i : Int} {kvs : List (Key × V)} (hv : EvI K tv σ H k) (hd : EvI K td σ H (.v (.ref a))) (ha : H a = some (.dK kvs)) (hy : EvI K ty σ H (.d b (.int i))) (hz : kvs.length < 100000)
    (nx : ∀ v H', Ex H H' → Is K H' v k → D.nx σ (upd H' a (.dK (putK kvs (.inl i) v)))) : sDPut td ty tv D σ H :=
  hv H (Ex.refl H) _ fun v H1 e1 yv => hd.evV H1 e1 _ fun H2 e2 => hy.ev H2 (e1.trans e2) _ fun H3 e3 =>
    ⟨a, _, rfl, DPut.k (k := .inl i) ((e1.trans (e2.trans e3)) _ _ ha) (sz_lt hz), nx v H3 (e1.trans (e2.trans e3)) (yv.ex (e2.trans e3))⟩
/-- d = {} -/
theorem q_newT {i : Nat} (E : En K H σ ks) (nx : ∀ p σ' H', H p = none → Ex H H' → H' p = some (.dT []) → En K H' σ' (ks.set i (some (.v (.ref p)))) → tz D σ' H') : tSeq (tAsg tDNewT (gName i)) tz D σ H :=
  fun p hp => nx p _ _ hp (Ex.new hp) upd_same ((E.ex (Ex.new hp)).set i rfl)
theorem q_newK {i : Nat} (E : En K H σ ks) (nx : ∀ p σ' H', H p = none → Ex H H' → H' p = some (.dK []) → En K H' σ' (ks.set i (some (.v (.ref p)))) → tz D σ' H') : tSeq (tAsg tDNewK (gName i)) tz D σ H :=
  fun p hp => nx p _ _ hp (Ex.new hp) upd_same ((E.ex (Ex.new hp)).set i rfl)
end
end Bk

set_option Elab.async false
set_option linter.all false
set_option maxRecDepth 100000
set_option maxHeartbeats 4000000
set_option autoImplicit false
namespace Bk
open PySem PySem.Spec PyProof.Rows L2 Evl
theorem noF_ix {rows : List Row} (h : NoF rows) {i j : Nat} {r r' : Row} (hi : rows[i]? = some r) (hj : rows[j]? = some r') (hn : i ≠ j) : r.cl r' = false := by
  obtain ⟨h1, e1⟩ := List.getElem?_eq_some_iff.mp hi
  obtain ⟨h2, e2⟩ := List.getElem?_eq_some_iff.mp hj
  have q := List.pairwise_iff_getElem.mp h
  rcases Nat.lt_or_gt_of_ne hn with hlt | hlt
  · have := q i j h1 h2 hlt
    rw [e1, e2] at this
    exact this
  · have := q j i h2 h1 hlt
    rw [e1, e2, Row.cl_symm] at this
    exact this
/-- indexes of rows of one state -/
structure Among (rows : List Row) (is : List Nat) (q : Int) : Prop where
  nd : is.Nodup
  at_ : ∀ j ∈ is, ∃ r, rows[j]? = some r ∧ r.st = q
def natD (j : Nat) : PyData := .int (j : Int)
def rowAt (rows : List Row) (j : Nat) : Row := (rows[j]?).getD (.mv 0 0 0)
def mvD (rows : List Row) : PyData → PyData
  | .int i => .bool (!(rowAt rows i.toNat).isWr)
  | _ => .none
theorem mvD_map (rows : List Row) (is : List Nat) : (is.map natD).map (mvD rows) = (is.map fun j => !(rowAt rows j).isWr).map PyData.bool := by
  rw [List.map_map, List.map_map]
  rfl
theorem rowAt_eq {rows : List Row} {j : Nat} {r : Row} (h : rows[j]? = some r) : rowAt rows j = r := by
  unfold rowAt
  rw [h]
  rfl
theorem among_wr {rows : List Row} {is : List Nat} {q : Int} (hN : NoF rows) (A : Among rows is q) (h2 : 2 ≤ is.length) : ∀ j ∈ is, (rowAt rows j).isWr = true := by
  intro j hj
  obtain ⟨r, h1, h3⟩ := A.at_ j hj
  rw [rowAt_eq h1]
  cases r with
  | wr _ _ _ _ => rfl
  | mv q' d t =>
    exfalso
    obtain ⟨j', hj', hne⟩ : ∃ j' ∈ is, j' ≠ j := by
      match is, h2, hj, A.nd with
      | a :: c :: l, _, hj, nd =>
        by_cases e : a = j
        · refine ⟨c, List.mem_cons_of_mem _ List.mem_cons_self, fun e2 => ?_⟩
          rw [List.nodup_cons] at nd
          exact nd.1 (by rw [e, ← e2]; exact List.mem_cons_self)
        · exact ⟨a, List.mem_cons_self, e⟩
    obtain ⟨r', h1', h3'⟩ := A.at_ j' hj'
    have q := noF_ix hN h1 h1' (fun e => hne e.symm)
    have e : decide (q' = r'.st) = true := decide_eq_true ((show q' = _ from h3).trans h3'.symm)
    have q2 : (Row.mv q' d t).cl r' = decide (q' = r'.st) := by cases r' <;> rfl
    rw [q2, e] at q
    cases q
section
variable {P : Program} {w : World} {K : PySem.W.Frag} {mg : Str → Option Value} {base : Heap}
theorem sc_clash_among : FnScope ["rows", "indexes", "at", "first", "other", "found", "known", "reads"] ["rows", "indexes"] (defScope s_clash_among) := ⟨rfl, rfl, rfl, by decide +kernel, rfl, by decide +kernel, by decide +kernel⟩
theorem c_clash_among (T : Txt K mg) : Callee P w K mg base 1 "_clash_among" ["rows", "indexes"] (spF K (fun p : List Row × List Nat × Int => [.l true (p.1.map dRow), .l true (p.2.1.map natD)]) (fun p _ => (NoF p.1 ∧ Among p.1 p.2.1 p.2.2) ∧ p.2.1.length ≤ 1000) fun _ => .d false .none) := by
  obtain ⟨fd, F⟩ := T.f_clash_among
  refine callee_of F T.g_clash_among (fun _ _ _ _ _ _ us hl => match us, hl with | [_, _], _ => rfl) (F.ok sc_clash_among (fun _ => rfl) fun cdv A outer s H Q E p hr hp => ?_)
  have hu := hu_of hr
  refine ⟨_, (pss_cons (ps_if (pt_cmpR op_lt (pe_callB call_len_seq (by rfl) T.z_len PySem.boot_len (pa_cons (pv 1) pa_nil)) pe_int (nomark _)) (pss_one (ps_ret pe_non)) pss_nil)
      (pss_cons (ps_if (pt_val (pe_callB (cr_any rfl) (by rfl) T.z_any (by decide +kernel) (pa_cons (pe_lc (own := [("at", 2)]) (te := (tOp (rEqD K) (tOp (rIx K) (tOp (rIx K) (tVar 0) (tVar 2)) (tC _)) (tC _))) (tt := tYes) rfl sc_clash_among.nd (pi_list (pv 1)) (blkOk_by (N := ["rows", "indexes", "at", "first", "other", "found", "known", "reads"]) (sc := defScope s_clash_among) (by decide +kernel)) (fun _ _ _ _ _ => (pg_name (i := 2) sc_clash_among.nd rfl (Or.inl rfl))) (fun _ _ _ _ _ => pts_nil) (fun _ _ _ _ _ => (pe_cmpR (op_eqD hr.units) (pe_ix ix_seq (pe_ix ix_seq (pv 0) (pv 2) (fun _ _ => rfl)) pe_int (fun _ _ => rfl)) pe_str (nomark _)))) pa_nil))) (pss_cons (ps_set (i := 3) sc_clash_among.nd rfl (Or.inl rfl) (pe_ix ix_seq (pv 0) (pe_ix ix_seq (pv 1) pe_int (fun _ _ => rfl)) (fun _ _ => rfl)))
      (pss_one (ps_for PassesOwn.never rfl (pi_list (pe_slice (SlR.or sl_list sl_tupA) (pv 1) (po_some pe_int) po_none)) (pg_name (i := 4) sc_clash_among.nd rfl (Or.inl rfl)) (pss_one (ps_if (PW.pt (pw_or (pt_cmpR (op_eqD hr.units) (pe_ix ix_seq (pv 3) pe_int (fun _ _ => rfl)) pe_str (nomark _)) (pw_or (pt_cmpR (op_eqD hr.units) (pe_ix ix_seq (pe_ix ix_seq (pv 0) (pv 4) (fun _ _ => rfl)) pe_int (fun _ _ => rfl)) pe_str (nomark _)) (pw_or1 (pt_cmpR (op_eqD hr.units) (pe_ix ix_seq (pe_ix ix_seq (pv 0) (pv 4) (fun _ _ => rfl)) pe_int (fun _ _ => rfl)) (pe_ix ix_seq (pv 3) pe_int (fun _ _ => rfl)) (nomark _)))))) (pss_one (ps_ret (pe_tup (pa_cons (pe_ix ix_seq (pv 1) pe_int (fun _ _ => rfl)) (pa_cons (pv 4) pa_nil))))) pss_nil))))) pss_nil)
      (pss_cons (ps_set (i := 5) sc_clash_among.nd rfl (Or.inl rfl) pe_non)
      (pss_cons (ps_set (i := 6) sc_clash_among.nd rfl (Or.inl rfl) pe_dnewT)
      (pss_cons (ps_for PassesOwn.never rfl (pi_list (pv 1)) (pg_name (i := 2) sc_clash_among.nd rfl (Or.inl rfl)) (pss_cons (ps_set (i := 7) sc_clash_among.nd rfl (Or.inl rfl) (pe_ix ix_seq (pe_ix ix_seq (pv 0) (pv 2) (fun _ _ => rfl)) pe_int (fun _ _ => rfl)))
      (pss_one (ps_if (pt_cmp (pc_dninq hu (pv 7) (pv 6))) (pss_one (ps_dput hu (pv 6) (pv 7) (pv 2) rfl)) pss_never))))
      (pss_one (ps_ret (pv 5)))))))), fun σ En0 nx => ?_⟩
  obtain ⟨rows, is, q⟩ := p
  obtain ⟨⟨hN, hA⟩, hl⟩ := hp
  simp only at hN hA hl
  have En0 : En K H σ [some (.l true (rows.map dRow)), some (.l true (is.map natD)), none, none, none, none, none, none] := En0
  have lm : (is.map natD).length = is.length := List.length_map ..
  refine q_whenI En0 (evt_of (evi_cmp (evi_len (EvI.lq (evi_var En0 rfl))) (evi_int (b := true)))) (fun h H1 e1 En1 => ?_) fun h H1 e1 En1 => ?_
  · exact s_retI (evi_non (b := false)) fun v H2 e2 y => nx v H2 (e1.trans e2) y
  have h2 : 2 ≤ is.length := by
    have := of_decide_eq_false h
    omega
  have hw := among_wr hN hA h2
  refine q_whenI En1 (et_is (evt_of (evi_any (b := true) (EvI.eq (evi_lcL1 (b := true) (mvD rows) En1 (evi_var En1 rfl) (by omega) fun d σ2 H2 hd e2 En2 => ?_) (by rw [mvD_map])))) (b := false) ?_) (fun h => by cases h) fun _ H2 e2 En2 => ?_
  · obtain ⟨j, hj, ed⟩ := List.mem_map.mp hd
    subst ed
    obtain ⟨r, hr1, hr2⟩ := hA.at_ j hj
    have e : mvD rows (natD j) = .bool (!r.isWr) := by
      show PyData.bool (!(rowAt rows ((j : Int)).toNat).isWr) = _
      rw [Int.toNat_natCast, rowAt_eq hr1]
    rw [e, ← tag_mv r]
    exact evi_eq (evi_ix (evi_row (evi_ix (EvI.lq (evi_var En2 rfl)) (evi_var En2 rfl) (atI_nat (map_get hr1)))) (evi_int (b := true)) (row_tag r)) (evi_str (b := true)) (ok_tag r).sh ok_move.sh
  · rw [List.any_map, List.any_eq_false]
    intro j hj
    show ¬ (!(rowAt rows j).isWr) = true
    rw [hw j hj]
    exact Bool.false_ne_true
  refine q_setI (k := .d false .none) En2 (evi_non (b := false)) fun σ3 H3 e3 En3 => ?_
  have ex3 : Ex H H3 := e1.trans (e2.trans e3)
  obtain ⟨vr, hvr, En3⟩ := En3.fix (i := 0) rfl
  obtain ⟨vi, hvi, En3⟩ := En3.fix (i := 1) rfl
  have En3 : En K H3 σ3 [some (.v vr), some (.v vi), none, none, none, some (.d false .none), none, none] := En3
  obtain ⟨pi, xs, ei, hi1, hi2⟩ := hvi
  have exs : xs = (is.map fun (j : Nat) => (j : Int)).map V.int := RpA.ints_eq (b := true) (K := K) (H := H3) (by rw [List.map_map]; exact hi2)
  subst ei
  refine q_newT En3 fun kd σ4 H4 hk e4 hkd En4 => ?_
  have En4 : En K H4 σ4 [some (.v vr), some (.v (.ref pi)), none, none, none, some (.d false .none), some (.v (.ref kd)), none] := En4
  refine q_forLn (EvI.evV (evi_var En4 rfl)) (sq_of (e4 _ _ hi1)) (fun i σ' H' => Ex H3 H' ∧ (∃ o2 o7, stbK o2 = true ∧ stbK o7 = true ∧ En K H' σ' [some (.v vr), some (.v (.ref pi)), o2, none, none, some (.d false .none), some (.v (.ref kd)), o7]) ∧ ∃ kvs, H' kd = some (.dT kvs) ∧ kvs.length ≤ i ∧ ∀ k, (valV kvs k).isSome = true → ∃ (i' j : Nat) (a : Int) (r : Row), i' < i ∧ is[i']? = some j ∧ rows[j]? = some r ∧ r.rd = some a ∧ k = kI [a])
    (fun H5 e5 => ⟨e4.trans e5, ⟨_, _, rfl, rfl, En4.ex e5⟩, [], e5 _ _ hkd, Nat.le_refl _, fun k hk => by cases hk⟩) (fun i σ' H' _ ⟨ex, _⟩ => sq_of (ex _ _ hi1)) (fun i x σ' H' hx ⟨ex, ⟨o2, o7, _, _, En5⟩, kvs, hkv, hlen, hkeys⟩ => ?_) fun σ' H' ⟨ex, ⟨o2, o7, _, _, En5⟩, _⟩ => ?_
  · obtain ⟨j, hj, rfl⟩ : ∃ j : Nat, is[i]? = some j ∧ x = .int (j : Int) := by
      rw [exs, List.getElem?_map, List.getElem?_map] at hx
      cases q : is[i]? with
      | none => rw [q] at hx; cases hx
      | some j => rw [q] at hx; cases hx; exact ⟨j, rfl, rfl⟩
    have hi : i < is.length := (List.getElem?_eq_some_iff.mp hj).1
    have En6 : En K H' (σ'.set 2 (some (.int (j : Int)))) [some (.v vr), some (.v (.ref pi)), some (dI (j : Int)), none, none, some (.d false .none), some (.v (.ref kd)), o7] := En5.set 2 (k := dI (j : Int)) (.int _)
    obtain ⟨r, hr1, hr2⟩ := hA.at_ j (List.mem_of_getElem? hj)
    have rw_ : r.isWr = true := by
      have := hw j (List.mem_of_getElem? hj)
      rw [rowAt_eq hr1] at this
      exact this
    obtain ⟨a, ha⟩ : ∃ a, r.rd = some a ∧ (rowDs r)[2]? = some (dInts [a]) := by
      cases r with
      | wr q a c t => exact ⟨a, rfl, rfl⟩
      | mv q d t => cases rw_
    refine q_setI (k := .d true (dInts [a])) En6 (evi_ix (evi_row (evi_ix (EvI.lq (evi_fix (evi_var En6 rfl) hvr ex)) (evi_var En6 rfl) (atI_nat (map_get hr1)))) (evi_int (b := true)) (atI_at (j := 2) rfl ha.2)) fun σ7 H7 e7 En7 => ?_
    have En7 : En K H7 σ7 [some (.v vr), some (.v (.ref pi)), some (dI (j : Int)), none, none, some (.d false .none), some (.v (.ref kd)), some (.d true (dInts [a]))] := En7
    have none_ : valV kvs (kI [a]) = none := by
      cases hq : valV kvs (kI [a]) with
      | none => rfl
      | some v =>
        exfalso
        obtain ⟨i', j', a', r', hlt, hj', hr', ha', ek⟩ := hkeys (kI [a]) (by rw [hq]; rfl)
        have ea : a = a' := by
          have : (Sum.inl a : Key) = Sum.inl a' := (List.cons.inj ek).1
          exact Sum.inl.inj this
        subst ea
        have hne : j' ≠ j := fun e => by
          subst e
          have h1 := (List.getElem?_eq_some_iff.mp hj')
          have h2 := (List.getElem?_eq_some_iff.mp hj)
          obtain ⟨l1, e1⟩ := h1
          obtain ⟨l2, e2⟩ := h2
          exact List.pairwise_iff_getElem.mp hA.nd i' i l1 l2 hlt (e1.trans e2.symm)
        have c := noF_ix hN hr' hr1 hne
        have c2 : r'.cl r = true := by
          rw [Row.cl_iff]
          obtain ⟨r2, q1, q2⟩ := hA.at_ j' (List.mem_of_getElem? hj')
          rw [hr'] at q1
          cases q1
          exact ⟨q2.trans hr2.symm, .inr (.inr (ha'.trans ha.1.symm))⟩
        rw [c] at c2
        cases c2
    refine s_ifI (c := true) En7 (et_is (evt_B (evi_inT (neg := true) (evi_var En7 rfl) (evi_var En7 rfl) (e7 _ _ hkv))) (by rw [none_]; rfl)) (fun _ H8 e8 En8 => ?_) fun h => by cases h
    refine s_putT (evi_var En8 rfl) (evi_var En8 rfl) ((e7.trans e8) _ _ hkv) (evi_var En8 rfl) (by omega) fun v H9 e9 yv => ⟨?_, ⟨some (dI (j : Int)), some (.d true (dInts [a])), rfl, rfl, ?_⟩, _, upd_same, ?_, fun k hk2 => ?_⟩
    · exact Ex.mut (ex.trans (e7.trans (e8.trans e9))) hk
    · exact (En8.ex e9).mut (ps := [kd]) (fun p hp => ⟨.dT kvs, by rw [List.mem_singleton.mp hp]; exact (e7.trans (e8.trans e9)) _ _ hkv, rfl⟩) List.mem_cons_self
    · have := length_putK kvs (kI [a]) v
      omega
    · rw [valV_put] at hk2
      by_cases e : k = kI [a]
      · exact ⟨i, j, a, r, Nat.lt_succ_self i, hj, hr1, ha.1, e⟩
      · rw [if_neg e] at hk2
        obtain ⟨i', j', a', r', hlt, h⟩ := hkeys k hk2
        exact ⟨i', j', a', r', Nat.lt_succ_of_lt hlt, h⟩
  · exact s_retI (evi_var En5 rfl) fun v H6 e6 y => nx v H6 (ex3.trans (ex.trans e6)) y
end
end Bk

set_option Elab.async false
set_option linter.all false
set_option maxRecDepth 100000
set_option maxHeartbeats 4000000
set_option autoImplicit false
namespace Bk
open PySem PySem.Spec PyProof.Rows L2 Evl
/-- the lists of indexes by the state, i rows seen -/
structure ByS (H3 H' : Hp) (rows : List Row) (i : Nat) (q : Int) (v : V) (p : Addr) (js : List Nat) : Prop where
  ev : v = .ref p
  fr : H3 p = none
  at_ : H' p = some (.lst (js.map fun (j : Nat) => V.int (j : Int)))
  ne : js ≠ []
  len : js.length ≤ i
  nd : js.Nodup
  st : ∀ j ∈ js, j < i ∧ ∃ r, rows[j]? = some r ∧ r.st = q
def BySt (H3 H' : Hp) (rows : List Row) (i : Nat) (kvs : List (Key × V)) : Prop := kvs.length ≤ i ∧ ∀ key v, valV kvs key = some v → ∃ (q : Int) (p : Addr) (js : List Nat), key = .inl q ∧ ByS H3 H' rows i q v p js
theorem vints_inj {js js' : List Nat} (h : (js.map fun (j : Nat) => V.int (j : Int)) = js'.map fun (j : Nat) => V.int (j : Int)) : js = js' := by
  have hi : ∀ a b : Nat, V.int (a : Int) = V.int (b : Int) → a = b := fun a b e => by
    have := V.int.inj e
    omega
  induction js generalizing js' with
  | nil => cases js' with
    | nil => rfl
    | cons b m => cases h
  | cons a l ih => cases js' with
    | nil => cases h
    | cons b m =>
      rw [List.map_cons, List.map_cons, List.cons.injEq] at h
      rw [hi _ _ h.1, ih h.2]
theorem ByS.mono {H3 H' H2 : Hp} {rows : List Row} {i k : Nat} {q : Int} {v : V} {p : Addr} {js : List Nat} (B : ByS H3 H' rows i q v p js) (e : H2 p = H' p) (hk : i ≤ k) : ByS H3 H2 rows k q v p js :=
  ⟨B.ev, B.fr, e.trans B.at_, B.ne, Nat.le_trans B.len hk, B.nd, fun j hj => ⟨Nat.lt_of_lt_of_le (B.st j hj).1 hk, (B.st j hj).2⟩⟩
/-- one row more, its list there -/
theorem bys_old {H3 H' : Hp} {rows : List Row} {i : Nat} {kvs : List (Key × V)} {q : Int} {v : V} {p : Addr} {js : List Nat} {r : Row} (S : BySt H3 H' rows i kvs) (B : ByS H3 H' rows i q v p js) (hk : valV kvs (.inl q) = some v) (hr : rows[i]? = some r) (hq : r.st = q) :
    BySt H3 (upd H' p (.lst ((js ++ [i]).map fun (j : Nat) => V.int (j : Int)))) rows (i + 1) kvs := by
  refine ⟨Nat.le_succ_of_le S.1, fun key v' hv => ?_⟩
  obtain ⟨q', p', js', ek, B'⟩ := S.2 key v' hv
  by_cases e : q' = q
  · subst e ek
    rw [hk] at hv
    cases hv
    refine ⟨q', p, js ++ [i], rfl, B.ev, B.fr, upd_same, by simp, ?_, ?_, fun j hj => ?_⟩
    · rw [List.length_append]
      have := B.len
      show _ + 1 ≤ _
      omega
    · rw [List.nodup_append]
      refine ⟨B.nd, by simp, fun a ha b hb => ?_⟩
      have h1 := (B.st a ha).1
      have h2 := List.mem_singleton.mp hb
      omega
    · rcases List.mem_append.mp hj with hj | hj
      · exact ⟨Nat.lt_succ_of_lt (B.st j hj).1, (B.st j hj).2⟩
      · rw [List.mem_singleton.mp hj]
        exact ⟨Nat.lt_succ_self i, r, hr, hq⟩
  · refine ⟨q', p', js', ek, B'.mono (upd_ne fun ep => ?_) (Nat.le_succ i)⟩
    subst ep
    have h1 := B'.at_.symm.trans B.at_
    have h2 := vints_inj (HO.lst.inj (Option.some.inj h1))
    subst h2
    obtain ⟨j, hj⟩ := List.exists_mem_of_ne_nil _ B.ne
    obtain ⟨_, r1, g1, g2⟩ := B.st j hj
    obtain ⟨_, r2, g3, g4⟩ := B'.st j hj
    rw [g1] at g3
    cases g3
    exact e (g4.symm.trans g2)
theorem bys_new {H3 H' H2 : Hp} {rows : List Row} {i : Nat} {kvs : List (Key × V)} {l : Addr} {r : Row} (S : BySt H3 H' rows i kvs) (hl : H' l = none) (hl3 : H3 l = none) (h2 : ∀ p o, H' p = some (.lst o) → H2 p = some (.lst o)) (hn : valV kvs (.inl r.st) = none) (hr : rows[i]? = some r) (hz : H2 l = some (.lst [.int (i : Int)])) :
    BySt H3 H2 rows (i + 1) (putK kvs (.inl r.st) (.ref l)) := by
  refine ⟨by have := length_putK kvs (.inl r.st) (.ref l); have := S.1; omega, fun key v hv => ?_⟩
  rw [valV_put] at hv
  by_cases e : key = .inl r.st
  · rw [if_pos e] at hv
    cases hv
    refine ⟨r.st, l, [i], e, rfl, hl3, hz, by simp, by show 1 ≤ i + 1; omega, by simp, fun j hj => ?_⟩
    rw [List.mem_singleton.mp hj]
    exact ⟨Nat.lt_succ_self i, r, hr, rfl⟩
  · rw [if_neg e] at hv
    obtain ⟨q', p', js', ek, B'⟩ := S.2 key v hv
    exact ⟨q', p', js', ek, B'.mono ((h2 _ _ B'.at_).trans B'.at_.symm) (Nat.le_succ i)⟩
section
variable {b : Bool} {K : PySem.W.Frag} {σ : L2.St} {H : Hp} {td ty tx : TE} {t : TA} {k1 : Kd} {D : Ends} {Dd : Addr}
theorem ev1 (h : EvIA K t σ H [k1]) : ∀ H1, Ex H H1 → ∀ Q : List V → Hp → Prop, (∀ v H2, Ex H1 H2 → Is K H2 v k1 → Q [v] H2) → t σ H1 Q := fun H1 e Q q => h H1 e _ fun vs H2 x y => by
  cases y with
  | cons y1 y =>
    cases y
    exact q _ H2 x y1
theorem s_setdApp {kvs : List (Key × V)} {q i : Int} (hd : EvI K td σ H (.v (.ref Dd))) (hD : H Dd = some (.dK kvs)) (hz : kvs.length < 100000) (hy : EvI K ty σ H (.d b (.int q))) (hx : ∀ H', Ev tx σ H' (.int i))
    (h1 : ∀ v H', valV kvs (.inl q) = some v → Ex H H' → ∃ p xs, v = .ref p ∧ H' p = some (.lst xs) ∧ xs.length < 100000 ∧ D.nx σ (upd H' p (.lst (xs ++ [.int i]))))
    (h2 : ∀ l H2 H5, valV kvs (.inl q) = none → Ex H H2 → H2 l = none → Ex (upd (upd H2 l (.lst [])) Dd (.dK (putK kvs (.inl q) (.ref l)))) H5 → D.nx σ (upd H5 l (.lst [.int i]))) :
    tDrop (tBM K "list" rAppend (tDSetd td ty (tLst tNil)) (tCons tx tNil)) D σ H :=
  hd.evV H (Ex.refl H) _ fun H1 e1 => ⟨Dd, rfl, .inl ⟨kvs, .inl (e1 _ _ hD)⟩, hy.ev H1 e1 _ fun H2 e2 => ⟨sz_of (Nat.zero_le _), fun l hl => by
    have hD2 : H2 Dd = some (.dK kvs) := (e1.trans e2) _ _ hD
    have hDl : Dd ≠ l := fun e => by rw [e, hl] at hD2; cases hD2
    refine ⟨kvs, .inl q, (upd_ne hDl).trans hD2, rfl, sz_lt hz, fun v hv => ?_, fun hn => ?_⟩
    · have ex : Ex H (upd H2 l (.lst [])) := (e1.trans e2).trans (Ex.new hl)
      obtain ⟨p0, xs0, ev0, hp0, _, _⟩ := h1 v _ hv ex
      refine ⟨by rw [ev0]; exact Or.inl ⟨rfl, xs0, sq_of hp0⟩, (hx _) _ (Ex.refl _) _ fun H4 e4 => ?_⟩
      obtain ⟨p, xs, ev, hp, hlen, k⟩ := h1 v H4 hv (ex.trans e4)
      exact ⟨p, xs, .int i, ev, rfl, hp, sz_lt hlen, k⟩
    · have hl3 : upd (upd H2 l (.lst [])) Dd (.dK (putK kvs (.inl q) (.ref l))) l = some (.lst []) := (upd_ne hDl.symm).trans upd_same
      refine ⟨Or.inl ⟨rfl, [], sq_of hl3⟩, (hx _) _ (Ex.refl _) _ fun H4 e4 => ?_⟩
      exact ⟨l, [], .int i, rfl, rfl, e4 _ _ hl3, by decide, h2 l H2 H4 hn (e1.trans e2) hl e4⟩⟩⟩
end
section
variable {P : Program} {w : World} {K : PySem.W.Frag} {mg : Str → Option Value} {base : Heap}
theorem sc_first_clash : FnScope ["rows", "by_state", "at", "row", "found", "state", "pair"] ["rows"] (defScope s_first_clash) := ⟨rfl, rfl, rfl, by decide +kernel, rfl, by decide +kernel, by decide +kernel⟩
theorem c_first_clash (T : Txt K mg) : Callee P w K mg base 2 "first_clash" ["rows"] (spF K (fun rows : List Row => [.l true (rows.map dRow)]) (fun rows _ => NoF rows ∧ rows.length ≤ 1000) fun _ => .d false .none) := by
  obtain ⟨fd, F⟩ := T.f_first_clash
  refine callee_of F T.g_first_clash (fun _ _ _ _ _ _ us hl => match us, hl with | [_], _ => rfl) (F.ok sc_first_clash (fun _ => rfl) fun cdv A outer s H Q E rows hr hp => ?_)
  have hu := hu_of hr
  refine ⟨_, (pss_cons (ps_set (i := 1) sc_first_clash.nd rfl (Or.inl rfl) pe_dnewK)
      (pss_cons (ps_for PassesOwn.never rfl (pi_enum (by rfl) T.z_enumerate (pa_cons (pv 0) pa_nil)) (pg_tup (by rfl) (pgs_cons (pg_name (i := 2) sc_first_clash.nd rfl (Or.inl rfl)) (pgs_cons (pg_name (i := 3) sc_first_clash.nd rfl (Or.inl rfl)) pgs_nil))) (pss_one (ps_expr (pe_bm PySem.F.plainAttrs_list PySem.F.slot_list_append PySem.F.type_list_append mt_append (pe_dsetd (pv 1) (pe_ix ix_seq (pv 3) pe_int (fun _ _ => rfl)) (pe_lst pa_nil) ⟨rfl, rfl, rfl, rfl⟩) (pa_cons (pv 2) pa_nil)))))
      (pss_cons (ps_set (i := 4) sc_first_clash.nd rfl (Or.inl rfl) pe_non)
      (pss_cons (ps_lock (ps_for PassesOwn.never rfl (pi_keys (pv 1)) (pg_name (i := 5) sc_first_clash.nd rfl (Or.inl rfl)) (pss_cons (ps_set (i := 6) sc_first_clash.nd rfl (Or.inl rfl) (pe_C (c_clash_among T) hr (by decide) (by rfl) (pa_cons (pv 0) (pa_cons (pe_dget hu (pv 1) (pv 5) (fun _ _ => rfl)) pa_nil))))
      (pss_one (ps_if (PW.pt (pw_and (pt_cmpR op_notN (pv 6) pe_non (nomark _)) (pw_and1 (PW.pt (pw_or (pt_cmpR op_isN (pv 4) pe_non (nomark _)) (pw_or1 (pt_cmpR (op_ltT hr.units0) (pv 6) (pv 4) (nomark _)))))))) (pss_one (ps_set (i := 4) sc_first_clash.nd rfl (Or.inl rfl) (pv 6))) pss_nil)))))
      (pss_one (ps_ret (pv 4))))))), fun σ En0 nx => ?_⟩
  obtain ⟨hN, hlr⟩ := hp
  have En0 : En K H σ [some (.l true (rows.map dRow)), none, none, none, none, none, none] := En0
  obtain ⟨vr, hvr, En0⟩ := En0.fix (i := 0) rfl
  obtain ⟨pr, xs, er, hx1, hx2⟩ := id hvr
  subst er
  have lx : xs.length = rows.length := by rw [hx2.len, List.length_map]
  have En0 : En K H σ [some (.v (.ref pr)), none, none, none, none, none, none] := En0
  refine q_newK En0 fun D σ1 H1 hD e1 hD1 En1 => ?_
  have En1 : En K H1 σ1 [some (.v (.ref pr)), some (.v (.ref D)), none, none, none, none, none] := En1
  -- the first loop
  show tFor (iEnum K (tCons (tVar 0) tNil)) _ _ _ σ1 H1
  show iEnum K (tCons (tVar 0) tNil) σ1 H1 _
  unfold iEnum
  refine ev1 (K := K) (H := H1) (k1 := .v (.ref pr)) (t := tCons (tVar 0) tNil) (σ := σ1) (evia_cons (evi_var En1 rfl) evia_nil) H1 (Ex.refl _) _ fun v0 H2 e2 hv0 => ?_
  refine ⟨pr, xs, by rw [show v0 = .ref pr from hv0], sq_of ((e1.trans e2) _ _ hx1), for_it walk_enum (fun i σ' H' => Ex H H' ∧ (∃ o2 o3, stbK o2 = true ∧ stbK o3 = true ∧ En K H' σ' [some (.v (.ref pr)), some (.v (.ref D)), o2, o3, none, none, none]) ∧ ∃ kvs, H' D = some (.dK kvs) ∧ BySt H H' rows i kvs)
    ⟨e1.trans e2, ⟨_, _, rfl, rfl, En1.ex e2⟩, [], e2 _ _ hD1, Nat.le_refl _, fun k v h => by cases h⟩ (fun i σ' H' _ ⟨ex, _⟩ => sq_of (ex _ _ hx1)) (fun i x σ' H' H4 hi ⟨ex, ⟨o2, o3, so2, so3, En3⟩, kvs, hkv, hS⟩ ⟨T1, y1, y2, ex1, hT, eH, ey1, hy2⟩ => ?_) fun σ' H' ⟨ex, ⟨o2, o3, so2, so3, En3⟩, kvs, hkv, hS⟩ => ?_⟩
  · subst ex1 eH
    cases ey1
    obtain ⟨d, hd, hy2'⟩ := hx2.getV hy2
    obtain ⟨r, hr1, rfl⟩ : ∃ r, rows[i]? = some r ∧ d = dRow r := by
      rw [List.getElem?_map] at hd
      obtain ⟨n, h1, h2⟩ := Option.map_eq_some_iff.mp hd
      exact ⟨n, h1, h2.symm⟩
    have eT : Ex H' (upd H' T1 (.tup [.int (i : Nat), y2])) := Ex.new hT
    have hS4 : BySt H (upd H' T1 (.tup [.int (i : Nat), y2])) rows i kvs := ⟨hS.1, fun key v hv => by
      obtain ⟨q, p, js, ek, B⟩ := hS.2 key v hv
      exact ⟨q, p, js, ek, B.mono ((eT _ _ B.at_).trans B.at_.symm) (Nat.le_refl _)⟩⟩
    generalize eH5 : upd H' T1 (.tup [.int (i : Nat), y2]) = H5 at eT hS4
    have ex5 : Ex H H5 := ex.trans eT
    refine ⟨T1, [.int (i : Nat), y2], rfl, st_of (by rw [← eH5]; exact upd_same), rfl, _, _, rfl, _, _, rfl, rfl, ?_⟩
    have En5 : En K H5 ((σ'.set 2 (some (.int (i : Nat)))).set 3 (some y2)) [some (.v (.ref pr)), some (.v (.ref D)), some (dI (i : Int)), some (.d true (dRow r)), none, none, none] := ((En3.ex eT).set 2 (k := dI (i : Int)) (.int _)).set 3 (k := .d true (dRow r)) (Rp.tx (Tx.of ex5) hy2')
    obtain ⟨vv, g1, g2⟩ := En5.get 2 _ rfl
    cases (show vv = _ from Rp.int_eq g2)
    have stb5 : stb [some (.v (.ref pr)), some (.v (.ref D)), some (dI (i : Int)), some (.d true (dRow r)), none, none, none] = true := rfl
    refine s_setdApp (kvs := kvs) (q := r.st) (evi_var En5 rfl) (eT _ _ hkv) (by have := hS.1; omega) (evi_ix (evi_row (evi_var En5 rfl)) (evi_int (b := true)) (row_st r)) (fun H9 => ev_var g1) (fun v H6 hv e6 => ?_) fun l H6 H7 hn e6 hl e7 => ?_
    · obtain ⟨q, p, js, ek, B⟩ := hS4.2 _ _ hv
      cases ek
      have hp6 : H6 p = some (.lst (js.map fun (j : Nat) => V.int (j : Int))) := e6 _ _ B.at_
      refine ⟨p, _, B.ev, hp6, by rw [List.length_map]; have := B.len; omega, ?_⟩
      have hS6 : BySt H H6 rows i kvs := ⟨hS4.1, fun key v hv => by
        obtain ⟨q, p, js, ek, B⟩ := hS4.2 key v hv
        exact ⟨q, p, js, ek, B.mono ((e6 _ _ B.at_).trans B.at_.symm) (Nat.le_refl _)⟩⟩
      have B6 : ByS H H6 rows i r.st v p js := B.mono (hp6.trans B.at_.symm) (Nat.le_refl _)
      have z := bys_old hS6 B6 hv hr1 rfl
      rw [List.map_append] at z
      refine ⟨Ex.mut (ex5.trans e6) B.fr, ⟨some (dI (i : Int)), some (.d true (dRow r)), rfl, rfl, (En5.ex e6).tx stb5 (tx_lst hp6)⟩, kvs, (upd_ne fun e => ?_).trans (e6 _ _ (eT _ _ hkv)), z⟩
      rw [← e, (eT.trans e6) _ _ hkv] at hp6
      cases hp6
    · have hD6 : H6 D = some (.dK kvs) := (eT.trans e6) _ _ hkv
      have hDl : D ≠ l := fun e => by rw [e, hl] at hD6; cases hD6
      have hl7 : H7 l = some (.lst []) := e7 _ _ ((upd_ne hDl.symm).trans upd_same)
      have hl5 : H5 l = none := fresh_back e6 hl
      have hl0 : H l = none := fresh_back (ex5.trans e6) hl
      have up : Ex H6 (upd H6 l (.lst [])) := Ex.new hl
      have keep : ∀ p o, H5 p = some (.lst o) → upd H7 l (.lst [.int (i : Int)]) p = some (.lst o) := fun p o h => by
        have hp : p ≠ l := fun e => by rw [e, hl5] at h; cases h
        have hpD : p ≠ D := fun e => by rw [e, eT _ _ hkv] at h; cases h
        rw [upd_ne hp]
        exact e7 _ _ ((upd_ne hpD).trans (up _ _ (e6 _ _ h)))
      refine ⟨Ex.mut (Ex.trans ?_ e7) hl0, ⟨some (dI (i : Int)), some (.d true (dRow r)), rfl, rfl, ?_⟩, _, (upd_ne hDl).trans (e7 _ _ upd_same), bys_new hS4 hl5 hl0 keep hn hr1 upd_same⟩
      · exact Ex.mut ((ex5.trans e6).trans up) hD
      · refine En.tx ?_ stb5 (tx_lst hl7)
        refine En.ex ?_ e7
        exact ((En5.ex e6).ex up).tx stb5 (Tx.upd ((upd_ne hDl).trans hD6) ⟨fun _ z => (by cases z), fun _ _ z => (by cases z)⟩)
  · rw [lx] at hS
    refine q_setI (k := .d false .none) En3 (evi_non (b := false)) fun σ4 H4 e4 En4 => ?_
    have En4 : En K H4 σ4 [some (.v (.ref pr)), some (.v (.ref D)), o2, o3, some (.d false .none), none, none] := En4
    have hkv4 : H4 D = some (.dK kvs) := e4 _ _ hkv
    have ex4 : Ex H H4 := ex.trans e4
    refine ⟨D, .dK kvs, hkv4, trivial, fun od => ?_⟩
    have ex5 : Ex H (upd H4 D (.frz od (.dK kvs))) := Ex.mut ex4 hD
    have En5 : En K (upd H4 D (.frz od (.dK kvs))) σ4 [some (.v (.ref pr)), some (.v (.ref D)), o2, o3, some (.d false .none), none, none] := En4.mut (ps := [D]) (fun p hp => ⟨.dK kvs, by rw [List.mem_singleton.mp hp]; exact hkv4, rfl⟩) List.mem_cons_self
    have keep : ∀ p o, H' p = some (.lst o) → upd H4 D (.frz od (.dK kvs)) p = some (.lst o) := fun p o h => by
      rw [upd_ne fun e => by rw [e, hkv] at h; cases h]
      exact e4 _ _ h
    show iKeys (tVar 1) σ4 (upd H4 D (.frz od (.dK kvs))) _
    unfold iKeys
    refine (evi_var En5 rfl : EvI K (tVar 1) σ4 (upd H4 D (.frz od (.dK kvs))) (.v (.ref D))).evV _ (Ex.refl _) _ fun H6 e6 => ?_
    refine ⟨D, od, rfl, .inl ⟨kvs, e6 _ _ upd_same, for_it walk_keys (fun _ σ7 H7 => Ex (upd H4 D (.frz od (.dK kvs))) H7 ∧ ∃ o5 o6, En K H7 σ7 [some (.v (.ref pr)), some (.v (.ref D)), o2, o3, some (.d false .none), o5, o6]) ⟨e6, _, _, En5.ex e6⟩ (fun i σ7 H7 _ ⟨e7, _⟩ => e7 _ _ upd_same) (fun i x σ7 H7 H8 hi ⟨e7, o5, o6, En7⟩ ⟨eH, key, v, hkvi, exk⟩ => ?_) fun σ7 H7 ⟨e7, o5, o6, En7⟩ => ?_⟩⟩
    · subst eH
      obtain ⟨v', hv'⟩ : ∃ v', valV kvs key = some v' := by
        have : (valV kvs key).isSome = true := by
          rw [← valV_any, List.any_eq_true]
          exact ⟨(key, v), List.mem_of_getElem? hkvi, decide_eq_true rfl⟩
        exact Option.isSome_iff_exists.mp this
      obtain ⟨q, p, js, ek, B⟩ := hS.2 key v' hv'
      subst ek
      subst exk
      have En8 : En K H8 (σ7.set 5 (some (.int q))) [some (.v (.ref pr)), some (.v (.ref D)), o2, o3, some (.d false .none), some (dI q), o6] := En7.set 5 (k := dI q) (.int _)
      have hp8 : H8 p = some (.lst (js.map fun (j : Nat) => V.int (j : Int))) := e7 _ _ (keep _ _ B.at_)
      refine q_setI (k := .d false .none) En8 (evi_call (rows, js, q) (evia_cons (evi_fix (evi_var En8 rfl) hvr (ex5.trans e7)) (evia_cons (evi_getK (k := .l true (js.map natD)) (v := v') (evi_var En8 rfl) (.inr ⟨od, e7 _ _ upd_same⟩) (evi_var En8 rfl) hv' fun H9 e9 => ?_) evia_nil)) fun _ _ => ⟨⟨hN, B.nd, fun j hj => (B.st j hj).2⟩, ?_⟩) fun σ9 H9 e9 En9 => ?_
      · rw [B.ev]
        refine ⟨p, _, rfl, e9 _ _ hp8, ?_⟩
        have z := RpA.ints (b := true) (K := K) (H := H9) (js.map fun (j : Nat) => (j : Int))
        rw [List.map_map, List.map_map] at z
        exact z
      · have := B.len
        show js.length ≤ 1000
        omega
      · refine s_whenI (c := false) En9 (et_is (et_and (b := true) (evt_of (evi_notN (evi_var En9 rfl))) fun h => by cases h) rfl) (fun h => by cases h) fun _ H10 e10 En10 => ⟨e7.trans (e9.trans e10), _, _, En10⟩
    · have hD7 : H7 D = some (.frz od (.dK kvs)) := e7 _ _ upd_same
      refine ⟨hD7, ?_⟩
      have ex7 : Ex H (upd H7 D (.dK kvs)) := Ex.mut (ex5.trans e7) hD
      have z : EvI K (tVar 4) σ7 (upd H7 D (.dK kvs)) (.d false .none) := by
        obtain ⟨v, g1, g2⟩ := En7.get 4 _ rfl
        have g2 : v = .non := Rp.non_eq g2
        subst g2
        exact fun H9 e9 Q q => ⟨.non, g1, q _ H9 (Ex.refl _) .non⟩
      exact s_retI z fun v H9 e9 y => nx v H9 (ex7.trans e9) y
end
end Bk

set_option Elab.async false
set_option linter.all false
set_option maxRecDepth 100000
set_option maxHeartbeats 4000000
set_option autoImplicit false
/-! Promises whose answer is told by a word of the heap; objects that are made. -/
namespace Bk
open PySem PySem.Spec PyProof.Rows L2 Evl
/-- .. the answer by a word -/
def spR (K : PySem.W.Frag) {α : Type} (ks : α → List Kd) (pre : α → Hp → Prop) (post : α → V → Hp → Prop) : Sp := fun vs H Q _ => ∃ a : α, IsA K H vs (ks a) ∧ pre a H ∧ ∀ v H', Ex H H' → post a v H' → Q v H'
/-- an __init__: H1 the heap without the new thing -/
def spI (K : PySem.W.Frag) (C : Addr) {α : Type} (ks : α → List Kd) (pre : α → Hp → Prop) (At : α → Addr → Hp → Prop) : Sp := fun vs H Q _ => ∃ (a : α) (p dx : Addr) (H1 : Hp) (rest : List V), vs = .ref p :: rest ∧ H1 p = none ∧ Ex H1 H ∧ H p = some (.ins C dx []) ∧ IsA K H1 rest (ks a) ∧ pre a H1 ∧ ∀ H', Ex H1 H' → At a p H' → Q .non H'
theorem FnP.okR {P : Program} {w : World} {K : PySem.W.Frag} {mg : Str → Option Value} {base : Heap} {x qual : Str} {st : Stmt} {f : Addr} {fd : FuncData} {N ps : List Str} {k : Nat} {α : Type} {ks : α → List Kd} {pre : α → Hp → Prop} {post : α → V → Hp → Prop}
    (F : FnP K x qual st f fd) (S : FnScope N ps (defScope st)) (len : ∀ a, (ks a).length = ps.length)
    (hbody : ∀ (cdv : Value) (A : Around) (outer : List Env) (s : Shared) (H : Hp) (Q : VK) (E : XK) (a : α), Room k (A.deeper (envOfC qual (defScope st) s.heap.objs.size f cdv)) → pre a H →
      ∃ t, PSs (cxOf CX0 P w K mg base N qual (defScope st) f cdv A outer s H E).nox (defBody st) t ∧
        ∀ σ : L2.St, En K H σ ((ks a).map some ++ List.replicate (N.length - (ks a).length) none) → (∀ v H', Ex H H' → post a v H' → Q v H') → t { nx := fun _ H' => Q .non H', rt := Q } σ H) :
    FnOk P w K mg base CX0 (k + 1) f fd ps (spR K ks pre post) := by
  refine FunD.ok F S (fun vs H Q E h => ?_) (fun cdv A outer s H vs Q E hr h => ?_)
  · obtain ⟨a, h1, _⟩ := h
    rw [h1.len, len]
  · obtain ⟨a, h1, h2, h3⟩ := h
    obtain ⟨t, q1, q2⟩ := hbody cdv A outer s H Q E a hr h2
    exact ⟨t, q1.nox, q2 _ (En.start h1) h3⟩
theorem FnP.okI {P : Program} {w : World} {K : PySem.W.Frag} {mg : Str → Option Value} {base : Heap} {x qual : Str} {st : Stmt} {f C : Addr} {fd : FuncData} {N ps : List Str} {k : Nat} {α : Type} {ks : α → List Kd} {pre : α → Hp → Prop} {At : α → Addr → Hp → Prop}
    (F : FnP K x qual st f fd) (S : FnScope N ps (defScope st)) (len : ∀ a, (ks a).length + 1 = ps.length)
    (hbody : ∀ (cdv : Value) (A : Around) (outer : List Env) (s : Shared) (H : Hp) (Q : VK) (E : XK) (a : α) (p dx : Addr) (H1 : Hp), Room k (A.deeper (envOfC qual (defScope st) s.heap.objs.size f cdv)) → pre a H1 → H1 p = none → Ex H1 H → H p = some (.ins C dx []) →
      ∃ t, PSs (cxOf CX0 P w K mg base N qual (defScope st) f cdv A outer s H E).nox (defBody st) t ∧
        ∀ σ : L2.St, En K H1 σ (some (.v (.ref p)) :: ((ks a).map some ++ List.replicate (N.length - ((ks a).length + 1)) none)) → (∀ H', Ex H1 H' → At a p H' → Q .non H') → t { nx := fun _ H' => Q .non H', rt := Q } σ H) :
    FnOk P w K mg base CX0 (k + 1) f fd ps (spI K C ks pre At) := by
  refine FunD.ok F S (fun vs H Q E h => ?_) (fun cdv A outer s H vs Q E hr h => ?_)
  · obtain ⟨a, p, dx, H1, rest, ev, _, _, _, h1, _⟩ := h
    rw [ev, List.length_cons, h1.len, len]
  · obtain ⟨a, p, dx, H1, rest, ev, h0, ex, hp, h1, h2, h3⟩ := h
    subst ev
    obtain ⟨t, q1, q2⟩ := hbody cdv A outer s H Q E a p dx H1 hr h2 h0 ex hp
    refine ⟨t, q1.nox, q2 _ ?_ h3⟩
    have z := En.start (N := N) (K := K) (H := H1) (vs := .ref p :: rest) (ks := .v (.ref p) :: ks a) (.cons rfl h1)
    exact z
/-- what evaluates to what a word tells -/
def EvP (te : TE) (σ : L2.St) (H : Hp) (P : V → Hp → Prop) : Prop := ∀ H1, Ex H H1 → ∀ Q : VK, (∀ v H2, Ex H1 H2 → P v H2 → Q v H2) → te σ H1 Q
section
variable {b b' : Bool} {K : PySem.W.Frag} {σ : L2.St} {H H' H1 : Hp} {ta td ty tv tl : TE} {tt : TT} {k : Kd} {ks : List (Option Kd)} {D : Ends} {tu tz : TS} {a p C : Addr} {t : TA}
theorem EvI.evp {te : TE} (h : EvI K te σ H k) : EvP te σ H fun v H2 => Is K H2 v k := h
theorem evp_call {α : Type} {kf : α → List Kd} {pre : α → Hp → Prop} {post : α → V → Hp → Prop} {E : XK} (a : α) (h : EvIA K t σ H (kf a)) (hp : ∀ H1, Ex H H1 → pre a H1) : EvP (tCall (spR K kf pre post) [] E t) σ H (post a) := fun H1 e Q q =>
  h H1 e _ fun vs H2 x y => ⟨a, by rw [List.append_nil]; exact y, hp H2 (e.trans x), fun v H3 x' y' => q v H3 (x.trans x') y'⟩
/-- C(..) -/
theorem evp_make {α : Type} {kf : α → List Kd} {pre : α → Hp → Prop} {At : α → Addr → Hp → Prop} {E : XK} (a : α) (h : EvIA K t σ H (kf a)) (hp : ∀ H1, Ex H H1 → pre a H1) : EvP (tMake C (spI K C kf pre At) [] E t) σ H fun v H2 => ∃ x, v = .ref x ∧ At a x H2 := fun H1 e Q q =>
  h H1 e _ fun vs H2 x y => fun o dx ho hdx hne => by
    have e1 : Ex H2 (upd H2 dx (.own o)) := Ex.new hdx
    have ho2 : upd H2 dx (.own o) o = none := (upd_ne (Ne.symm hne)).trans ho
    have e2 := e1.trans (Ex.new (o := .ins C dx []) ho2)
    exact ⟨a, o, dx, H2, vs, by rw [List.append_nil], ho, e2, upd_same, y, hp H2 (e.trans x), fun H3 e3 hA => ⟨rfl, q _ H3 (x.trans e3) ⟨o, rfl, hA⟩⟩⟩
theorem q_setP {i : Nat} {P : V → Hp → Prop} {te : TE} (E : En K H σ ks) (h : EvP te σ H P) (nx : ∀ v σ' H', Ex H H' → P v H' → En K H' σ' (ks.set i (some (.v v))) → tz D σ' H') : tSeq (tAsg te (gName i)) tz D σ H :=
  h H (Ex.refl H) _ fun v H1 e y => nx v _ H1 e y ((E.ex e).set i rfl)
theorem s_retP {P : V → Hp → Prop} {te : TE} (h : EvP te σ H P) (nx : ∀ v H', Ex H H' → P v H' → D.rt v H') : tRet te D σ H := h H (Ex.refl H) _ nx
theorem odd1 {o : HO} (h : H p = some o) (ho : HO.odd o = true) : Odd H [p] := fun q hq => ⟨o, by rw [List.mem_singleton.mp hq]; exact h, ho⟩
/-- o.f = e; what else stands is told of the heap without o -/
theorem s_fldP {dx : Addr} {f : Str} {fs : List (Str × V)} {P : V → Hp → Prop} (hp : H p = some (.ins C dx fs)) (ha : EvI K ta σ H (.v (.ref p))) (hv : EvP tv σ H P) (c : Cls K C) (n : NoAttr K C f) (hl : fs.length < 1000)
    (nx : ∀ v H2 H', Ex H H2 → P v H2 → H2 p = some (.ins C dx fs) → Ex (gh H2 [p]) (gh H' [p]) → H' p = some (.ins C dx (putF f v fs)) → D.nx σ H') : sFld K ta tv f D σ H :=
  hv H (Ex.refl H) _ fun v H2 e2 y => ha.evV H2 e2 _ fun H3 e3 => by
    refine ⟨p, C, dx, fs, rfl, (e2.trans e3) _ _ hp, c, n, hl, nx v H2 _ e2 y (e2 _ _ hp) ?_ upd_same⟩
    rw [gh_upd List.mem_cons_self]
    exact gh_mono e3
theorem q_fldP {dx : Addr} {f : Str} {fs : List (Str × V)} {P : V → Hp → Prop} (hp : H p = some (.ins C dx fs)) (ha : EvI K ta σ H (.v (.ref p))) (hv : EvP tv σ H P) (c : Cls K C) (n : NoAttr K C f) (hl : fs.length < 1000)
    (nx : ∀ v H2 H', Ex H H2 → P v H2 → H2 p = some (.ins C dx fs) → Ex (gh H2 [p]) (gh H' [p]) → H' p = some (.ins C dx (putF f v fs)) → tz D σ H') : tSeq (sFld K ta tv f) tz D σ H := s_fldP (D := { D with nx := tz D }) hp ha hv c n hl nx
end
end Bk

set_option Elab.async false
set_option linter.all false
set_option maxRecDepth 100000
set_option maxHeartbeats 4000000
set_option autoImplicit false
namespace Bk
open PySem PySem.Spec PyProof.Rows L2 Evl
/-! ### the tables -/
def TW (K : PySem.W.Frag) (H : Hp) (rows : List Row) (q a : Int) : Option V → Prop
  | none => ∀ b u, .wr q a b u ∉ rows
  | some e => ∃ b u, .wr q a b u ∈ rows ∧ Rp true K H e (.tuple [dInts [b], .int u])
structure TEnt (K : PySem.W.Frag) (H3 H : Hp) (rows : List Row) (q : Int) (v : V) (t : Addr) (m n : V) (wd : Addr) (wk : List (List Key × V)) : Prop where
  ev : v = .ref t
  tp : H t = some (.tup [m, n, .ref wd])
  dt : H wd = some (.dT wk)
  fr : H3 wd = none
  wl : wk.length ≤ rows.length
  c : (∃ d u, .mv q d u ∈ rows ∧ Rp true K H m (dInts [d]) ∧ n = .int u) ∨ (m = .non ∧ (∀ r ∈ rows, r.st = q → r.isWr = true) ∧ ∀ a, TW K H rows q a (valV wk (kI [a])))
structure Tab (K : PySem.W.Frag) (H3 H : Hp) (rows : List Row) (kvs : List (Key × V)) : Prop where
  key : ∀ key v, valV kvs key = some v → ∃ q t m n wd wk, key = .inl q ∧ TEnt K H3 H rows q v t m n wd wk
  no : ∀ q, valV kvs (.inl q) = none → ∀ r ∈ rows, r.st ≠ q
  inj : ∀ q q' t t' m m' n n' wd, valV kvs (.inl q) = some (.ref t) → H t = some (.tup [m, n, .ref wd]) → valV kvs (.inl q') = some (.ref t') → H t' = some (.tup [m', n', .ref wd]) → q = q'
section
variable {K : PySem.W.Frag} {H3 H H' : Hp} {rows : List Row} {kvs : List (Key × V)} {q : Int} {v : V} {t wd : Addr} {m n : V} {wk : List (List Key × V)} {r : Row}
theorem TW.mono {a : Int} {o : Option V} (h : TW K H rows q a o) (e : Tx K H H') : TW K H' rows q a o := by
  cases o with
  | none => exact h
  | some v => obtain ⟨b, u, h1, h2⟩ := h; exact ⟨b, u, h1, h2.tx e⟩
theorem TEnt.mono (B : TEnt K H3 H rows q v t m n wd wk) (e : Tx K H H') (hw : H' wd = H wd) : TEnt K H3 H' rows q v t m n wd wk :=
  ⟨B.ev, e.t _ _ B.tp, hw.trans B.dt, B.fr, B.wl, B.c.imp (fun ⟨d, u, h1, h2, h3⟩ => ⟨d, u, h1, h2.tx e, h3⟩) fun ⟨h1, h2, h3⟩ => ⟨h1, h2, fun a => (h3 a).mono e⟩⟩
theorem TW.more {a : Int} {o : Option V} (h : TW K H rows q a o) (hr : ∀ b u, r ≠ .wr q a b u) : TW K H (rows ++ [r]) q a o := by
  cases o with
  | none =>
    intro b u hm
    rcases List.mem_append.mp hm with hm | hm
    · exact h b u hm
    · exact hr b u (List.mem_singleton.mp hm).symm
  | some v => obtain ⟨b, u, h1, h2⟩ := h; exact ⟨b, u, List.mem_append_left _ h1, h2⟩
theorem TEnt.more (B : TEnt K H3 H rows q v t m n wd wk) (hr : r.st ≠ q) : TEnt K H3 H (rows ++ [r]) q v t m n wd wk :=
  ⟨B.ev, B.tp, B.dt, B.fr, by rw [List.length_append]; exact Nat.le_add_right_of_le B.wl, B.c.imp (fun ⟨d, u, h1, h2⟩ => ⟨d, u, List.mem_append_left _ h1, h2⟩) fun ⟨h1, h2, h3⟩ => ⟨h1, fun r' hr' hq => by
    rcases List.mem_append.mp hr' with hr' | hr'
    · exact h2 r' hr' hq
    · rw [List.mem_singleton.mp hr'] at hq
      exact absurd hq hr, fun a => (h3 a).more fun b u e => hr (by rw [e]; rfl)⟩⟩
theorem TEnt.uniq {wd' : Addr} {m' n' : V} (B : TEnt K H3 H rows q v t m n wd wk) (h : H t = some (.tup [m', n', .ref wd'])) : m' = m ∧ n' = n ∧ wd' = wd := by
  have := B.tp.symm.trans h
  simp only [Option.some.injEq, HO.tup.injEq, List.cons.injEq, V.ref.injEq, and_true] at this
  exact ⟨this.1.symm, this.2.1.symm, this.2.2.symm⟩
/-- everything stands: the table stands -/
theorem Tab.mono (B : Tab K H3 H rows kvs) (e : Tx K H H') (hw : ∀ a wk, H a = some (.dT wk) → H' a = some (.dT wk)) : Tab K H3 H' rows kvs := by
  refine ⟨fun key v hv => ?_, B.no, fun q q' t t' m m' n n' wd h1 h2 h3 h4 => ?_⟩
  · obtain ⟨q, t, m, n, wd, wk, ek, E⟩ := B.key key v hv
    exact ⟨q, t, m, n, wd, wk, ek, E.mono e ((hw _ _ E.dt).trans E.dt.symm)⟩
  · obtain ⟨q1, t1, m1, n1, wd1, wk1, ek1, E1⟩ := B.key _ _ h1
    obtain ⟨q2, t2, m2, n2, wd2, wk2, ek2, E2⟩ := B.key _ _ h3
    cases E1.ev
    cases E2.ev
    have z1 := (E1.mono e ((hw _ _ E1.dt).trans E1.dt.symm)).uniq h2
    have z2 := (E2.mono e ((hw _ _ E2.dt).trans E2.dt.symm)).uniq h4
    refine B.inj q q' t t' m1 m2 n1 n2 wd h1 ?_ h3 ?_
    · rw [z1.2.2]; exact E1.tp
    · rw [z2.2.2]; exact E2.tp
/-- a new entry at a key that may stand or not -/
theorem Tab.put (B : Tab K H3 H rows kvs) (e : Tx K H H') (hw : ∀ a wk, H a = some (.dT wk) → H' a = some (.dT wk)) {rows' : List Row} (hfr : H wd = none) (Ee : TEnt K H3 H' rows' q (.ref t) t m n wd wk)
    (hm : ∀ q' v' t' m' n' wd' wk', q' ≠ q → TEnt K H3 H' rows q' v' t' m' n' wd' wk' → TEnt K H3 H' rows' q' v' t' m' n' wd' wk') (hn : ∀ q', q' ≠ q → (∀ r ∈ rows, r.st ≠ q') → ∀ r ∈ rows', r.st ≠ q') : Tab K H3 H' rows' (putK kvs (.inl q) (.ref t)) := by
  have M := B.mono e hw
  have old : ∀ q', q' ≠ q → ∀ t' m' n', valV kvs (.inl q') = some (.ref t') → H' t' ≠ some (.tup [m', n', .ref wd]) := fun q' hq t' m' n' hv ht => by
    obtain ⟨q1, t1, m1, n1, wd1, wk1, ek1, E1⟩ := B.key _ _ hv
    cases E1.ev
    have E1' := E1.mono e ((hw _ _ E1.dt).trans E1.dt.symm)
    have z := E1'.uniq ht
    have h := E1.dt
    rw [← z.2.2, hfr] at h
    cases h
  refine ⟨fun key v hv => ?_, fun q' hv => ?_, fun q1 q2 t1 t2 m1 m2 n1 n2 wd1 h1 h2 h3 h4 => ?_⟩
  · rw [valV_put] at hv
    by_cases ek : key = .inl q
    · rw [if_pos ek] at hv
      cases hv
      exact ⟨q, t, m, n, wd, wk, ek, Ee⟩
    · rw [if_neg ek] at hv
      obtain ⟨q', t', m', n', wd', wk', ek', E'⟩ := M.key key v hv
      exact ⟨q', t', m', n', wd', wk', ek', hm _ _ _ _ _ _ _ (fun z => ek (by rw [ek', z])) E'⟩
  · rw [valV_put] at hv
    by_cases ek : (.inl q' : Key) = .inl q
    · rw [if_pos ek] at hv
      cases hv
    · rw [if_neg ek] at hv
      exact hn q' (fun z => ek (by rw [z])) (B.no q' hv)
  · rw [valV_put] at h1 h3
    by_cases k1 : q1 = q
    · by_cases k2 : q2 = q
      · rw [k1, k2]
      · rw [if_pos (by rw [k1])] at h1
        rw [if_neg (fun z => k2 (Sum.inl.inj z))] at h3
        cases h1
        have z := Ee.uniq h2
        rw [z.2.2] at h4
        exact absurd h4 (old q2 k2 t2 m2 n2 h3)
    · rw [if_neg (fun z => k1 (Sum.inl.inj z))] at h1
      by_cases k2 : q2 = q
      · rw [if_pos (by rw [k2])] at h3
        cases h3
        have z := Ee.uniq h4
        rw [z.2.2] at h2
        exact absurd h2 (old q1 k1 t1 m1 n1 h1)
      · rw [if_neg (fun z => k2 (Sum.inl.inj z))] at h3
        exact M.inj q1 q2 t1 t2 m1 m2 n1 n2 wd1 h1 h2 h3 h4
/-- one row written into its entry -/
theorem Tab.wr (B : Tab K H3 H rows kvs) {a b u : Int} {e : V} (hv : valV kvs (.inl q) = some v) (E : TEnt K H3 H rows q v t m n wd wk) (hm : m = .non) (hq : (∀ r ∈ rows, r.st = q → r.isWr = true) ∧ ∀ a, TW K H rows q a (valV wk (kI [a]))) (he : Rp true K H e (.tuple [dInts [b], .int u])) :
    Tab K H3 (upd H wd (.dT (putK wk (kI [a]) e))) (rows ++ [.wr q a b u]) kvs := by
  have tx : Tx K H (upd H wd (.dT (putK wk (kI [a]) e))) := Tx.upd E.dt ⟨fun _ z => (by cases z), fun _ _ z => (by cases z)⟩
  have tne : ∀ t xs, H t = some (.tup xs) → t ≠ wd := fun t xs h z => by rw [z, E.dt] at h; cases h
  refine ⟨fun key v' hv' => ?_, fun q' hv' r' hr' => ?_, fun q1 q2 t1 t2 m1 m2 n1 n2 wd1 h1 h2 h3 h4 => ?_⟩
  · obtain ⟨q', t', m', n', wd', wk', ek', E'⟩ := B.key key v' hv'
    subst ek'
    by_cases k : q' = q
    · subst k
      rw [hv] at hv'
      cases hv'
      refine ⟨q', t, m, n, wd, putK wk (kI [a]) e, rfl, E.ev, tx.t _ _ E.tp, upd_same, E.fr, ?_, .inr ⟨hm, fun r hr hs => ?_, fun a' => ?_⟩⟩
      · have := length_putK wk (kI [a]) e
        have := E.wl
        rw [List.length_append]
        show _ ≤ _ + 1
        omega
      · rcases List.mem_append.mp hr with hr | hr
        · exact hq.1 r hr hs
        · rw [List.mem_singleton.mp hr]
          rfl
      · rw [valV_put]
        by_cases ka : a' = a
        · subst ka
          rw [if_pos rfl]
          exact ⟨b, u, List.mem_append_right _ List.mem_cons_self, he.tx tx⟩
        · rw [if_neg (show ¬ kI [a'] = kI [a] from fun z => ka (Sum.inl.inj (List.cons.inj z).1))]
          refine ((hq.2 a').mono tx).more fun b' u' z => ka ?_
          injection z with z1 z2 z3 z4
          exact z2.symm
    · refine ⟨q', t', m', n', wd', wk', rfl, (E'.mono tx (upd_ne fun z => k ?_)).more fun z => k z.symm⟩
      have hv2 := hv
      rw [E.ev] at hv2
      rw [E'.ev] at hv'
      exact B.inj q' q t' t m' m n' n wd hv' (by rw [← z]; exact E'.tp) hv2 E.tp
  · rcases List.mem_append.mp hr' with hr' | hr'
    · exact B.no q' hv' r' hr'
    · rw [List.mem_singleton.mp hr']
      intro z
      have z : q = q' := z
      rw [z, hv'] at hv
      cases hv
  · obtain ⟨q1', t1', m1', n1', wd1', wk1, ek1, E1⟩ := B.key _ _ h1
    obtain ⟨q2', t2', m2', n2', wd2', wk2, ek2, E2⟩ := B.key _ _ h3
    cases E1.ev
    cases E2.ev
    rw [upd_ne (tne _ _ E1.tp)] at h2
    rw [upd_ne (tne _ _ E2.tp)] at h4
    exact B.inj q1 q2 t1 t2 m1 m2 n1 n2 wd1 h1 h2 h3 h4
end
end Bk

set_option Elab.async false
set_option linter.all false
set_option maxRecDepth 100000
set_option maxHeartbeats 4000000
set_option autoImplicit false
namespace Bk
open PySem PySem.Spec PyProof.Rows L2 Evl
section
variable {b b' : Bool} {K : PySem.W.Frag} {σ : L2.St} {H H' H1 : Hp} {ta tb td ty tv tx : TE} {k k1 k2 : Kd} {ks : List (Option Kd)} {D : Ends} {tz : TS} {a t : Addr}
theorem s_putKP {i : Int} {kvs : List (Key × V)} {P : V → Hp → Prop} (hv : EvP tv σ H P) (hd : EvI K td σ H (.v (.ref a))) (ha : H a = some (.dK kvs)) (hy : EvI K ty σ H (.d b (.int i))) (hz : kvs.length < 100000)
    (nx : ∀ v H2 H', Ex H H2 → P v H2 → Ex H2 H' → D.nx σ (upd H' a (.dK (putK kvs (.inl i) v)))) : sDPut td ty tv D σ H :=
  hv H (Ex.refl H) _ fun v H1 e1 yv => hd.evV H1 e1 _ fun H2 e2 => hy.ev H2 (e1.trans e2) _ fun H3 e3 =>
    ⟨a, _, rfl, DPut.k (k := .inl i) ((e1.trans (e2.trans e3)) _ _ ha) (sz_lt hz), nx v H1 H3 e1 yv (e2.trans e3)⟩
def TupD (K : PySem.W.Frag) (H : Hp) (k1 k2 : Kd) (v : V) (H2 : Hp) : Prop := ∃ t m n l, v = .ref t ∧ H2 t = some (.tup [m, n, .ref l]) ∧ H2 l = some (.dT []) ∧ H l = none ∧ Is K H2 m k1 ∧ Is K H2 n k2
theorem evp_tupD (h1 : EvI K ta σ H k1) (h2 : EvI K tb σ H k2) : EvP (tTup (tCons ta (tCons tb (tCons tDNewT tNil)))) σ H (TupD K H k1 k2) := fun H1 e Q q =>
  h1 H1 e _ fun m H2 e2 ym => h2 H2 (e.trans e2) _ fun n H3 e3 yn => fun l hl => ⟨sz_of (by show 3 ≤ 100000; decide), fun p hp => by
    have el : Ex H3 (upd H3 l (.dT [])) := Ex.new hl
    have ep : Ex (upd H3 l (.dT [])) (upd (upd H3 l (.dT [])) p (.tup [m, n, .ref l])) := Ex.new hp
    refine q _ _ (e2.trans (e3.trans (el.trans ep))) ⟨p, m, n, l, rfl, upd_same, ep _ _ upd_same, fresh_back (e.trans (e2.trans e3)) hl, ym.ex (e3.trans (el.trans ep)), yn.ex (el.trans ep)⟩⟩
theorem q_setdJ {kvs : List (Key × V)} {q : Int} {P : V → Hp → Prop} (M : Hp → Prop) (hd : EvI K td σ H (.v (.ref a))) (hD : H a = some (.dK kvs)) (hz : kvs.length < 100000) (hy : EvI K ty σ H (.d b (.int q))) (hx : EvP tx σ H P)
    (h1 : ∀ v H', valV kvs (.inl q) = some v → Ex H H' → M H') (h2 : ∀ z H2, valV kvs (.inl q) = none → Ex H H2 → P z H2 → M (upd H2 a (.dK (putK kvs (.inl q) z)))) (nx : ∀ H', M H' → tz D σ H') :
    tSeq (tDrop (tDSetd td ty tx)) tz D σ H :=
  hd.evV H (Ex.refl H) _ fun H1 e1 => ⟨a, rfl, .inl ⟨kvs, .inl (e1 _ _ hD)⟩, hy.ev H1 e1 _ fun H2 e2 => hx H2 (e1.trans e2) _ fun z H3 e3 y =>
    ⟨kvs, .inl q, (e1.trans (e2.trans e3)) _ _ hD, rfl, sz_lt hz, fun v hv => nx _ (h1 v H3 hv (e1.trans (e2.trans e3))), fun hn => nx _ (h2 z H3 hn (e1.trans (e2.trans e3)) y)⟩⟩
theorem evi_ixV {xs : List V} {i : Nat} {w : V} (ha : EvI K ta σ H (.v (.ref t))) (ht : H t = some (.tup xs)) (hx : xs[i]? = some w) : EvI K (tOp (rIx K) ta (tC (.int (i : Int)))) σ H (.v w) := fun H1 e Q q =>
  ha.evV H1 e _ fun H2 x => .inr (.inl ⟨t, xs, (i : Int), w, rfl, rfl, st_of ((e.trans x) _ _ ht), atI_nat hx, q _ H2 x rfl⟩)
end
def TableAt (K : PySem.W.Frag) (H : Hp) (a : Addr) (rows : List Row) : Prop := ∃ kvs, H a = some (.dK kvs) ∧ Tab K (fun _ => none) H rows kvs
theorem Tab.forget {K : PySem.W.Frag} {H3 H : Hp} {rows : List Row} {kvs : List (Key × V)} (B : Tab K H3 H rows kvs) : Tab K (fun _ => none) H rows kvs :=
  ⟨fun key v hv => by
    obtain ⟨q, t, m, n, wd, wk, ek, E⟩ := B.key key v hv
    exact ⟨q, t, m, n, wd, wk, ek, E.ev, E.tp, E.dt, rfl, E.wl, E.c⟩, B.no, B.inj⟩
section
variable {P : Program} {w : World} {K : PySem.W.Frag} {mg : Str → Option Value} {base : Heap}
theorem sc_table_of : FnScope ["rows", "found", "row"] ["rows"] (defScope s_table_of) := ⟨rfl, rfl, rfl, by decide +kernel, rfl, by decide +kernel, by decide +kernel⟩
theorem noF_last {rows : List Row} {r r' : Row} (h : NoF (rows ++ [r])) (hr : r' ∈ rows) : r'.cl r = false := by
  unfold NoF at h
  rw [List.pairwise_append] at h
  exact h.2.2 r' hr r List.mem_cons_self
theorem c_table_of (T : Txt K mg) : Callee P w K mg base 1 "_table_of" ["rows"] (spR K (fun rows : List Row => [.l true (rows.map dRow)]) (fun rows _ => NoF rows ∧ rows.length ≤ 1000) fun rows v H => ∃ a, v = .ref a ∧ TableAt K H a rows) := by
  obtain ⟨fd, F⟩ := T.f_table_of
  refine callee_of F T.g_table_of (fun _ _ _ _ _ _ us hl => match us, hl with | [_], _ => rfl) (F.okR sc_table_of (fun _ => rfl) fun cdv A outer s H Q E rows hr hp => ?_)
  have hu := hu_of hr
  refine ⟨_, (pss_cons (ps_set (i := 1) sc_table_of.nd rfl (Or.inl rfl) pe_dnewK)
      (pss_cons (ps_for PassesOwn.never rfl (pi_list (pv 0)) (pg_name (i := 2) sc_table_of.nd rfl (Or.inl rfl)) (pss_one (ps_if (pt_cmpR (op_eqD hr.units) (pe_ix ix_seq (pv 2) pe_int (fun _ _ => rfl)) pe_str (nomark _)) (pss_one (ps_dput hu (pv 1) (pe_ix ix_seq (pv 2) pe_int (fun _ _ => rfl)) (pe_tup (pa_cons (pe_ix ix_seq (pv 2) pe_int (fun _ _ => rfl)) (pa_cons (pe_ix ix_seq (pv 2) pe_int (fun _ _ => rfl)) (pa_cons pe_dnewT pa_nil)))) rfl)) (pss_cons (ps_expr (pe_dsetd (pv 1) (pe_ix ix_seq (pv 2) pe_int (fun _ _ => rfl)) (pe_tup (pa_cons pe_non (pa_cons pe_non (pa_cons pe_dnewT pa_nil)))) ⟨rfl, rfl, rfl, rfl⟩))
      (pss_one (ps_dput hu (pe_ix ix_seq (pe_dget hu (pv 1) (pe_ix ix_seq (pv 2) pe_int (fun _ _ => rfl)) (fun _ _ => rfl)) pe_int (fun _ _ => rfl)) (pe_ix ix_seq (pv 2) pe_int (fun _ _ => rfl)) (pe_tup (pa_cons (pe_ix ix_seq (pv 2) pe_int (fun _ _ => rfl)) (pa_cons (pe_ix ix_seq (pv 2) pe_int (fun _ _ => rfl)) pa_nil))) rfl))))))
      (pss_one (ps_ret (pv 1))))), fun σ En0 nx => ?_⟩
  obtain ⟨hN, hlr⟩ := hp
  have En0 : En K H σ [some (.l true (rows.map dRow)), none, none] := En0
  obtain ⟨vr, hvr, En0⟩ := En0.fix (i := 0) rfl
  obtain ⟨pr, xs, er, hx1, hx2⟩ := id hvr
  subst er
  have lx : xs.length = rows.length := by rw [hx2.len, List.length_map]
  have En0 : En K H σ [some (.v (.ref pr)), none, none] := En0
  refine q_newK En0 fun D σ1 H1 hD e1 hD1 En1 => ?_
  have En1 : En K H1 σ1 [some (.v (.ref pr)), some (.v (.ref D)), none] := En1
  refine q_forLn (EvI.evV (evi_var En1 rfl)) (sq_of (e1 _ _ hx1)) (fun i σ' H' => Ex H H' ∧ (∃ o2, stbK o2 = true ∧ En K H' σ' [some (.v (.ref pr)), some (.v (.ref D)), o2]) ∧ ∃ kvs, H' D = some (.dK kvs) ∧ kvs.length ≤ i ∧ Tab K H H' (rows.take i) kvs)
    (fun H2 e2 => ⟨e1.trans e2, ⟨_, rfl, En1.ex e2⟩, [], e2 _ _ hD1, Nat.le_refl _, ⟨fun k v h => (by cases h), fun q _ r hr => (by cases hr), fun q q' t t' m m' n n' wd h => (by cases h)⟩⟩) (fun i σ' H' _ ⟨ex, _⟩ => sq_of (ex _ _ hx1)) (fun i x σ' H' hx ⟨ex, ⟨o2, so2, En3⟩, kvs, hkv, hlen, hT⟩ => ?_) fun σ' H' ⟨ex, ⟨o2, so2, En3⟩, kvs, hkv, hlen, hT⟩ => ?_
  · obtain ⟨d, hd, hx'⟩ := hx2.getV hx
    obtain ⟨r, hr1, rfl⟩ : ∃ r, rows[i]? = some r ∧ d = dRow r := by
      rw [List.getElem?_map] at hd
      obtain ⟨n, h1, h2⟩ := Option.map_eq_some_iff.mp hd
      exact ⟨n, h1, h2.symm⟩
    have hi : i < rows.length := (List.getElem?_eq_some_iff.mp hr1).1
    have et : rows.take (i + 1) = rows.take i ++ [r] := by rw [List.take_add_one, hr1]; rfl
    have hNt : NoF (rows.take i ++ [r]) := by
      rw [← et]
      exact List.Pairwise.sublist (List.take_sublist _ _) hN
    have En4 : En K H' (σ'.set 2 (some x)) [some (.v (.ref pr)), some (.v (.ref D)), some (.d true (dRow r))] := En3.set 2 (k := .d true (dRow r)) (Rp.tx (Tx.of ex) hx')
    generalize eσ : σ'.set 2 (some x) = σ4 at En4
    have stb4 : stb [some (.v (.ref pr)), some (.v (.ref D)), some (.d true (dRow r))] = true := rfl
    have dk : ∀ {H8 : Hp} {o : HO} {kvs : List (Key × V)}, H8 D = some (.dK kvs) → Tx K H8 (upd H8 D o) := fun h => Tx.upd h ⟨fun _ z => (by cases z), fun _ _ z => (by cases z)⟩
    have dw : ∀ {H8 : Hp} {o : HO} {kvs : List (Key × V)}, H8 D = some (.dK kvs) → ∀ a wk, H8 a = some (.dT wk) → upd H8 D o a = some (.dT wk) := fun h a wk h2 => (upd_ne fun z => by rw [z, h] at h2; cases h2).trans h2
    refine s_ifI (c := !r.isWr) En4 (et_is (evt_of (evi_eq (evi_ix (evi_row (evi_var En4 rfl)) (evi_int (b := true)) (row_tag r)) (evi_str (b := true)) (ok_tag r).sh ok_move.sh)) (tag_mv r)) (fun h H5 e5 En5 => ?_) fun h H5 e5 En5 => ?_
    · cases r with
      | wr q a c t => cases h
      | mv q d u =>
        refine s_putKP (kvs := kvs) (i := q) (evp_tupD (k1 := .d true (dInts [d])) (k2 := dI u) (evi_at (n := 2) (evi_var En5 rfl) rfl) (evi_at (n := 3) (evi_var En5 rfl) rfl)) (evi_var En5 rfl) (e5 _ _ hkv) (evi_at (n := 1) (evi_var En5 rfl) rfl) (by omega) fun v H6 H7 e6 ⟨t, m, n, l, ev, ht, hl, hl0, im, iN⟩ e7 => ?_
        subst ev
        have hD7 : H7 D = some (.dK kvs) := (e5.trans (e6.trans e7)) _ _ hkv
        have hl5 : H' l = none := fresh_back e5 hl0
        have ex7 : Ex H' H7 := e5.trans (e6.trans e7)
        refine ⟨Ex.mut (ex.trans ex7) hD, ⟨_, rfl, (En5.ex (e6.trans e7)).tx stb4 (dk hD7)⟩, _, upd_same, by have := length_putK kvs (.inl q) (.ref t); omega, ?_⟩
        rw [et]
        refine Tab.put (wd := l) (m := m) (n := n) (wk := []) hT ((Tx.of ex7).trans (dk hD7)) (fun a wk h => dw hD7 _ _ (ex7 _ _ h)) hl5 ⟨rfl, (dk hD7).t _ _ (e7 _ _ ht), dw hD7 _ _ (e7 _ _ hl), fresh_back ex hl5, Nat.zero_le _, .inl ⟨d, u, List.mem_append_right _ List.mem_cons_self, (Rp.tx (Tx.of e7) im).tx (dk hD7), Rp.int_eq iN⟩⟩ (fun q' v' t' m' n' wd' wk' hq B => B.more fun z => hq z.symm) fun q' hq h r hr => ?_
        rcases List.mem_append.mp hr with hr | hr
        · exact h r hr
        · rw [List.mem_singleton.mp hr]
          exact fun z => hq z.symm
    · cases r with
      | mv q d t => cases h
      | wr q a c u =>
        have hno : ∀ d u', Row.mv q d u' ∉ rows.take i := fun d u' hm => by
          have z := noF_last hNt hm
          have z2 : (Row.mv q d u').cl (Row.wr q a c u) = decide (q = q) := rfl
          rw [z2, decide_eq_true rfl] at z
          cases z
        refine q_setdJ (kvs := kvs) (q := q) (fun H8 => Ex H H8 ∧ Tx K H5 H8 ∧ ∃ kvs8, H8 D = some (.dK kvs8) ∧ kvs8.length ≤ i + 1 ∧ Tab K H H8 (rows.take i) kvs8 ∧ ∃ v t m n wd wk, valV kvs8 (.inl q) = some v ∧ TEnt K H H8 (rows.take i) q v t m n wd wk) (evi_var En5 rfl) (e5 _ _ hkv) (by omega) (evi_at (n := 1) (evi_var En5 rfl) rfl) (evp_tupD (K := K) (k1 := .d true .none) (k2 := .d true .none) (evi_non (b := true)) (evi_non (b := true))) (fun v H6 hv e6 => ?_) (fun z H6 hn e6 ⟨t, m, n, l, ev, ht, hl, hl0, im, iN⟩ => ?_) fun H8 ⟨ex8, tx8, kvs8, hkv8, hlen8, hT8, v, t, m, n, wd, wk, hv8, E8⟩ => ?_
        · have hT6 := hT.mono (Tx.of (e5.trans e6)) (fun a wk h => (e5.trans e6) _ _ h)
          obtain ⟨q', t, m, n, wd, wk, ek, E6⟩ := hT6.key _ _ hv
          cases ek
          exact ⟨ex.trans (e5.trans e6), Tx.of e6, kvs, (e5.trans e6) _ _ hkv, by omega, hT6, v, t, m, n, wd, wk, hv, E6⟩
        · subst ev
          have im := Rp.non_eq im
          subst im
          have hD6 : H6 D = some (.dK kvs) := (e5.trans e6) _ _ hkv
          have hl5 : H' l = none := fresh_back e5 hl0
          have hnr := hT.no q hn
          have Ee : TEnt K H (upd H6 D (.dK (putK kvs (.inl q) (.ref t)))) (rows.take i) q (.ref t) t .non n l [] := ⟨rfl, (dk hD6).t _ _ ht, dw hD6 _ _ hl, fresh_back ex hl5, Nat.zero_le _, .inr ⟨rfl, fun r hr hq => absurd hq (hnr r hr), fun a' b u hm => hnr _ hm rfl⟩⟩
          refine ⟨Ex.mut (ex.trans (e5.trans e6)) hD, (Tx.of e6).trans (dk hD6), _, upd_same, by have := length_putK kvs (.inl q) (.ref t); omega, Tab.put (wd := l) hT ((Tx.of (e5.trans e6)).trans (dk hD6)) (fun a wk h => dw hD6 _ _ ((e5.trans e6) _ _ h)) hl5 Ee (fun q' v' t' m' n' wd' wk' hq B => B) fun q' hq h => h, _, t, .non, n, l, [], by rw [valV_put, if_pos rfl], Ee⟩
        · have En8 : En K H8 σ4 [some (.v (.ref pr)), some (.v (.ref D)), some (.d true (dRow (.wr q a c u)))] := En5.tx stb4 tx8
          obtain ⟨hm, hq⟩ : m = .non ∧ ((∀ r ∈ rows.take i, r.st = q → r.isWr = true) ∧ ∀ a, TW K H8 (rows.take i) q a (valV wk (kI [a]))) := by
            rcases E8.c with ⟨d, u', hm, _⟩ | ⟨h1, h2, h3⟩
            · exact absurd hm (hno d u')
            · exact ⟨h1, h2, h3⟩
          have wl := E8.wl
          rw [List.length_take] at wl
          refine s_putT (ns := [a]) (kvs := wk) (k := .d true (.tuple [dInts [c], .int u])) (evi_tup2 (evi_at (n := 3) (evi_var En8 rfl) rfl) (evi_at (n := 4) (evi_var En8 rfl) rfl)) (evi_ixV (i := 2) (xs := [m, n, .ref wd]) (evi_getK (k := .v (.ref t)) (evi_var En8 rfl) (.inl hkv8) (evi_at (n := 1) (evi_var En8 rfl) rfl) hv8 fun _ _ => E8.ev) E8.tp rfl) E8.dt (evi_at (n := 2) (evi_var En8 rfl) rfl) (by omega) fun e H9 e9 ye => ?_
          have hT9 := hT8.mono (Tx.of e9) (fun a wk h => e9 _ _ h)
          have E9 := E8.mono (Tx.of e9) ((e9 _ _ E8.dt).trans E8.dt.symm)
          have q9 : ∀ a, TW K H9 (rows.take i) q a (valV wk (kI [a])) := fun a => (hq.2 a).mono (Tx.of e9)
          refine ⟨Ex.mut (ex8.trans e9) E9.fr, ⟨_, rfl, (En8.ex e9).mut (ps := [wd]) (odd1 E9.dt rfl) List.mem_cons_self⟩, kvs8, (upd_ne fun z => ?_).trans (e9 _ _ hkv8), hlen8, ?_⟩
          · have h := E9.dt
            rw [← z, e9 _ _ hkv8] at h
            cases h
          · rw [et]
            exact hT9.wr hv8 E9 hm ⟨hq.1, q9⟩ ye
  · refine s_retI (evi_var En3 rfl) fun v H4 e4 y => nx v H4 (ex.trans e4) ⟨D, y, kvs, e4 _ _ hkv, ?_⟩
    rw [lx, List.take_length] at hT
    exact (hT.mono (Tx.of e4) fun a wk h => e4 _ _ h).forget
end
end Bk

set_option Elab.async false
set_option linter.all false
set_option maxRecDepth 100000
set_option maxHeartbeats 4000000
set_option autoImplicit false
namespace Bk
open PySem PySem.Spec PyProof.Rows L2 Evl
section
variable {b b' : Bool} {K : PySem.W.Frag} {σ : L2.St} {H H' H1 : Hp} {te td ty tv tx : TE} {k k1 k2 : Kd} {ks : List (Option Kd)} {D : Ends} {tz : TS} {a t : Addr}
theorem q_tupV {is : List Nat} {n : Nat} {vs : List V} {l : List Kd} (E : En K H σ ks) (h : EvI K te σ H (.v (.ref t))) (ht : H t = some (.tup vs)) (hl : IsA K H vs l) (hn : l.length = n) (hi : is.length = n) (nx : ∀ σ' H', Ex H H' → En K H' σ' (setAll ks is l) → tz D σ' H') :
    tSeq (tAsg te (gTup K n (gNames is))) tz D σ H :=
  h.evV H (Ex.refl H) _ fun H1 e => ⟨t, vs, rfl, st_of (e _ _ ht), by rw [hl.len, hn], gNames_ok is (hl.ex e) (by rw [hi, hn]) (E.ex e) fun σ' E' => nx σ' H1 e E'⟩
theorem evi_get1 {ns : List Int} {kvs : List (List Key × V)} (hd : EvI K td σ H (.v (.ref a))) (ha : H a = some (.dT kvs)) (hy : EvI K ty σ H (.d true (dInts ns))) (hk : ∀ H1, Ex H H1 → Is K H1 ((valV kvs (kI ns)).getD .non) k) : EvI K (tDGet1 td ty) σ H k := fun H1 e Q q =>
  hd.evV H1 e _ fun H2 x => ⟨a, rfl, .inr ⟨kvs, .inl ((e.trans x) _ _ ha)⟩, hy H2 (e.trans x) _ fun u H3 x3 yv => by
    obtain ⟨c, rfl, h5⟩ := rp_ints yv
    exact ⟨_, DGet.t ((e.trans (x.trans x3)) _ _ ha) h5.trk, q _ H3 (x.trans x3) (hk H3 (e.trans (x.trans x3)))⟩⟩
end
theorem TableAt.ex {K : PySem.W.Frag} {H H' : Hp} {a : Addr} {rows : List Row} (h : TableAt K H a rows) (e : Ex H H') : TableAt K H' a rows := by
  obtain ⟨kvs, h1, h2⟩ := h
  exact ⟨kvs, e _ _ h1, h2.mono (Tx.of e) fun a wk h => e _ _ h⟩
section
variable {P : Program} {w : World} {K : PySem.W.Frag} {mg : Str → Option Value} {base : Heap}
theorem sc_taken : FnScope ["table", "configuration", "state", "tapes", "moves", "following", "writing", "tape", "move", "entry", "mark"] ["table", "configuration"] (defScope s_taken) := ⟨rfl, rfl, rfl, by decide +kernel, rfl, by decide +kernel, by decide +kernel⟩
theorem c_taken (T : Txt K mg) : Callee P w K mg base 3 "_taken" ["table", "configuration"] (spF K (fun p : Addr × List Row × Cfg => [.v (.ref p.1), .d false (dCfg p.2.2)]) (fun p H => TableAt K H p.1 p.2.1 ∧ NoF p.2.1 ∧ p.2.2.size ≤ 900) fun p => .d false (dOpt (after p.2.1 p.2.2))) := by
  obtain ⟨fd, F⟩ := T.f_taken
  refine callee_of F T.g_taken (fun _ _ _ _ _ _ us hl => match us, hl with | [_, _], _ => rfl) (F.ok sc_taken (fun _ => rfl) fun cdv A outer s H Q E p hr hp => ?_)
  have hu := hu_of hr
  refine ⟨_, (pss_cons (ps_asg (pv 1) (pg_tup (by rfl) (pgs_cons (pg_name (i := 2) sc_taken.nd rfl (Or.inl rfl)) (pgs_cons (pg_name (i := 3) sc_taken.nd rfl (Or.inl rfl)) pgs_nil))))
      (pss_cons (ps_if (pt_cmp (pc_dnotin hu (pv 2) (pv 0))) (pss_one (ps_ret pe_non)) pss_nil)
      (pss_cons (ps_asg (pe_dget hu (pv 0) (pv 2) (fun _ _ => rfl)) (pg_tup (by rfl) (pgs_cons (pg_name (i := 4) sc_taken.nd rfl (Or.inl rfl)) (pgs_cons (pg_name (i := 5) sc_taken.nd rfl (Or.inl rfl)) (pgs_cons (pg_name (i := 6) sc_taken.nd rfl (Or.inl rfl)) pgs_nil)))))
      (pss_cons (ps_if (pt_cmpR op_notN (pv 4) pe_non (nomark _)) (pss_one (ps_ret (pe_tup (pa_cons (pv 5) (pa_cons (pe_callTy call_tuple_of (by rfl) T.z_tuple (by decide +kernel) (pa_cons (pe_lc (own := [("tape", 7), ("move", 8)]) (g := gTup K 2 (gNames [7, 8])) (te := (tCall _ [] E0 (tCons (tVar 7) (tCons (tVar 8) tNil)))) (tt := tYes) rfl sc_taken.nd (RZ.pi_zipA (by rfl) T.z_zip (pa_cons (pv 3) (pa_cons (pv 4) pa_nil))) (blkOk_by (N := ["table", "configuration", "state", "tapes", "moves", "following", "writing", "tape", "move", "entry", "mark"]) (sc := defScope s_taken) (by decide +kernel)) (fun _ _ _ _ _ => (pg_tup (by rfl) (pgs_cons (pg_name (i := 7) sc_taken.nd rfl (Or.inl rfl)) (pgs_cons (pg_name (i := 8) sc_taken.nd rfl (Or.inl rfl)) pgs_nil)))) (fun _ _ _ _ _ => pts_nil) (fun _ _ _ _ _ => (pe_C (c_moved_tape T) hr (by decide) (by rfl) (pa_cons (pv 7) (pa_cons (pv 8) pa_nil))))) pa_nil)) pa_nil))))) pss_nil)
      (pss_cons (ps_set (i := 9) sc_taken.nd rfl (Or.inl rfl) (pe_dget1 hu (pv 6) (pe_callTy call_tuple_of (by rfl) T.z_tuple (by decide +kernel) (pa_cons (pe_lc (own := [("tape", 7)]) (te := (tOp (rIx K) (tVar 7) (tC _))) (tt := tYes) rfl sc_taken.nd (pi_tup (pv 3)) (blkOk_by (N := ["table", "configuration", "state", "tapes", "moves", "following", "writing", "tape", "move", "entry", "mark"]) (sc := defScope s_taken) (by decide +kernel)) (fun _ _ _ _ _ => (pg_name (i := 7) sc_taken.nd rfl (Or.inl rfl))) (fun _ _ _ _ _ => pts_nil) (fun _ _ _ _ _ => (pe_ix ix_seq (pv 7) pe_int (fun _ _ => rfl)))) pa_nil)) ⟨rfl, rfl, rfl, rfl⟩))
      (pss_cons (ps_if (pt_cmpR op_isN (pv 9) pe_non (nomark _)) (pss_one (ps_ret pe_non)) pss_nil)
      (pss_one (ps_ret (pe_tup (pa_cons (pe_ix ix_seq (pv 9) pe_int (fun _ _ => rfl)) (pa_cons (pe_callTy call_tuple_of (by rfl) T.z_tuple (by decide +kernel) (pa_cons (pe_lc (own := [("tape", 7), ("mark", 10)]) (g := gTup K 2 (gNames [7, 10])) (te := (tTup (tCons (tOp (rIx K) (tVar 7) (tC _)) (tCons (tVar 10) (tCons (tOp (rIx K) (tVar 7) (tC _)) tNil))))) (tt := tYes) rfl sc_taken.nd (RZ.pi_zipA (by rfl) T.z_zip (pa_cons (pv 3) (pa_cons (pe_ix ix_seq (pv 9) pe_int (fun _ _ => rfl)) pa_nil))) (blkOk_by (N := ["table", "configuration", "state", "tapes", "moves", "following", "writing", "tape", "move", "entry", "mark"]) (sc := defScope s_taken) (by decide +kernel)) (fun _ _ _ _ _ => (pg_tup (by rfl) (pgs_cons (pg_name (i := 7) sc_taken.nd rfl (Or.inl rfl)) (pgs_cons (pg_name (i := 10) sc_taken.nd rfl (Or.inl rfl)) pgs_nil)))) (fun _ _ _ _ _ => pts_nil) (fun _ _ _ _ _ => (pe_tup (pa_cons (pe_ix ix_seq (pv 7) pe_int (fun _ _ => rfl)) (pa_cons (pv 10) (pa_cons (pe_ix ix_seq (pv 7) pe_int (fun _ _ => rfl)) pa_nil)))))) pa_nil)) pa_nil))))))))))), fun σ En0 nx => ?_⟩
  obtain ⟨a, rows, c⟩ := p
  obtain ⟨⟨kvs, hkv, hT⟩, hN, hz⟩ := hp
  simp only at hkv hT hN hz
  unfold Cfg.size at hz
  have En0 : En K H σ [some (.v (.ref a)), some (.d false (.tuple [.int c.q, .tuple [dTape c.l c.a c.r]])), none, none, none, none, none, none, none, none, none] := En0
  refine q_tupI (is := [2, 3]) En0 (evi_var En0 rfl) rfl rfl fun σ1 H1 e1 En1 => ?_
  have En1 : En K H1 σ1 [some (.v (.ref a)), some (.d false (.tuple [.int c.q, .tuple [dTape c.l c.a c.r]])), some (.d false (.int c.q)), some (.d false (.tuple [dTape c.l c.a c.r])), none, none, none, none, none, none, none] := En1
  refine q_whenI (c := !(valV kvs (.inl c.q)).isSome) En1 (evt_B (evi_ninK (evi_var En1 rfl) (evi_var En1 rfl) (e1 _ _ hkv))) (fun h H2 e2 En2 => ?_) fun h H2 e2 En2 => ?_
  · have hn : valV kvs (.inl c.q) = none := by
      cases q : valV kvs (.inl c.q) with
      | none => rfl
      | some v => rw [q] at h; cases h
    have ea : after rows c = none := after_none.mpr fun r hr => by
      cases q : applies c r with
      | false => rfl
      | true => exact absurd (applies_st q) (hT.no _ hn r hr)
    refine s_retI (K := K) (evi_non (b := false)) fun v H3 e3 y => nx v H3 (e1.trans (e2.trans e3)) ?_
    show Is K H3 v (.d false (dOpt (after rows c)))
    rw [ea]
    exact y
  · obtain ⟨v, hv⟩ : ∃ v, valV kvs (.inl c.q) = some v := by
      cases q : valV kvs (.inl c.q) with
      | none => rw [q] at h; cases h
      | some v => exact ⟨v, rfl⟩
    have ex2 : Ex H H2 := e1.trans e2
    have hT2 := hT.mono (Tx.of ex2) fun a wk h => ex2 _ _ h
    obtain ⟨q, t, m, n, wd, wk, ek, B⟩ := hT2.key _ _ hv
    cases ek
    rcases B.c with ⟨d, u, hm, im, iN⟩ | ⟨im, hw, hq⟩
    · refine q_tupV (is := [4, 5, 6]) (l := [.d true (dInts [d]), dI u, .v (.ref wd)]) En2 (evi_getK (k := .v (.ref t)) (evi_var En2 rfl) (.inl (ex2 _ _ hkv)) (evi_var En2 rfl) hv fun _ _ => B.ev) B.tp (.cons im (.cons (by rw [iN]; exact .int u) (.cons rfl .nil))) rfl rfl fun σ3 H3 e3 En3 => ?_
      have En3 : En K H3 σ3 [some (.v (.ref a)), some (.d false (.tuple [.int c.q, .tuple [dTape c.l c.a c.r]])), some (.d false (.int c.q)), some (.d false (.tuple [dTape c.l c.a c.r])), some (.d true (dInts [d])), some (dI u), some (.v (.ref wd)), none, none, none, none] := En3
      refine q_whenI (c := true) En3 (et_is (evt_of (evi_notN (evi_var En3 rfl))) rfl) (fun _ H4 e4 En4 => ?_) fun h => by cases h
      refine s_retI (evi_tup2 (b := false) (d1 := .int u) (EvI.weak (evi_var En4 rfl)) (evi_tupL (evi_lcZ (b := false) (b1 := false) (b2 := true) (ds := [dTape c.l c.a c.r]) (es := [.int d]) (fun _ _ => dTape (movedT d c.l c.a c.r).1 (movedT d c.l c.a c.r).2.1 (movedT d c.l c.a c.r).2.2) rfl En4 (by decide) (evia_cons (evi_var En4 rfl) (evia_cons (evi_var En4 rfl) evia_nil)) (by show 1 ≤ 40000; decide) fun i d1 d2 σ5 H5 h1 h2 e5 En5 => ?_))) fun v' H5 e5 y => nx v' H5 (ex2.trans (e3.trans (e4.trans e5))) ?_
      · have hi : i = 0 := by have := (List.getElem?_eq_some_iff.mp h1).1; simp at this; exact this
        subst hi
        cases h1
        cases h2
        exact evi_call ((c.l, c.a, c.r), d) (evia_cons (evi_var En5 rfl) (evia_cons (evi_var En5 rfl) evia_nil)) fun _ _ => by constructor <;> (simp only; omega)
      · show Is K H5 v' (.d false (dOpt (after rows c)))
        rw [after_of hN hm (show applies c (.mv c.q d u) = true from decide_eq_true rfl)]
        exact y
    · subst im
      refine q_tupV (is := [4, 5, 6]) (l := [.d true .none, .v n, .v (.ref wd)]) En2 (evi_getK (k := .v (.ref t)) (evi_var En2 rfl) (.inl (ex2 _ _ hkv)) (evi_var En2 rfl) hv fun _ _ => B.ev) B.tp (.cons .non (.cons rfl (.cons rfl .nil))) rfl rfl fun σ3 H3 e3 En3 => ?_
      have En3 : En K H3 σ3 [some (.v (.ref a)), some (.d false (.tuple [.int c.q, .tuple [dTape c.l c.a c.r]])), some (.d false (.int c.q)), some (.d false (.tuple [dTape c.l c.a c.r])), some (.d true .none), some (.v n), some (.v (.ref wd)), none, none, none, none] := En3
      refine q_whenI (c := false) En3 (et_is (evt_of (evi_notN (evi_var En3 rfl))) rfl) (fun h => by cases h) fun _ H4 e4 En4 => ?_
      have hw4 : H4 wd = some (.dT wk) := (e3.trans e4) _ _ B.dt
      have hq4 := (hq c.a).mono (Tx.of (e3.trans e4))
      have key : EvI K (tCB (rTupOf K) (tCons (tLc (iTup K (tVar 3)) (gName 7) tYes (tOp (rIx K) (tVar 7) (tC (.int 1))) [7]) tNil)) σ3 H4 (.d true (dInts [c.a])) := evi_tupL (EvI.eq (evi_lcT1 (b := true) (b' := false) (fun _ => .int c.a) En4 (evi_var En4 rfl) (by show 1 ≤ 40000; decide) fun d σ5 H5 hd e5 En5 => by
        rw [List.mem_singleton.mp hd] at En5
        exact EvI.strong (evi_at (n := 1) (evi_var En5 rfl) rfl)) rfl)
      cases hv2 : valV wk (kI [c.a]) with
      | none =>
        rw [hv2] at hq4
        refine q_setI (k := .d true .none) En4 (evi_get1 (evi_var En4 rfl) hw4 key fun H5 _ => by rw [hv2]; exact .non) fun σ5 H5 e5 En5 => ?_
        refine q_whenI (c := true) En5 (et_is (evt_of (evi_isN (evi_var En5 rfl))) rfl) (fun _ H6 e6 En6 => ?_) fun h => by cases h
        have ea : after rows c = none := after_none.mpr fun r hr => by
          cases q : applies c r with
          | false => rfl
          | true =>
            have h1 := hw r hr (applies_st q)
            cases r with
            | mv _ _ _ => cases h1
            | wr q' a' b u =>
              have q2 := of_decide_eq_true q
              rw [q2.1, q2.2] at hr
              exact absurd hr (hq4 b u)
        refine s_retI (K := K) (evi_non (b := false)) fun v H7 e7 y => nx v H7 (ex2.trans (e3.trans (e4.trans (e5.trans (e6.trans e7))))) ?_
        show Is K H7 v (.d false (dOpt (after rows c)))
        rw [ea]
        exact y
      | some e =>
        rw [hv2] at hq4
        obtain ⟨b, u, hm, he⟩ := hq4
        refine q_setI (k := .d true (.tuple [dInts [b], .int u])) En4 (evi_get1 (evi_var En4 rfl) hw4 key fun H5 e5 => by rw [hv2]; exact he.tx (Tx.of e5)) fun σ5 H5 e5 En5 => ?_
        refine q_whenI (c := false) En5 (et_is (evt_of (evi_isN (evi_var En5 rfl))) rfl) (fun h => by cases h) fun _ H6 e6 En6 => ?_
        have En6 : En K H6 σ5 [some (.v (.ref a)), some (.d false (.tuple [.int c.q, .tuple [dTape c.l c.a c.r]])), some (.d false (.int c.q)), some (.d false (.tuple [dTape c.l c.a c.r])), some (.d true .none), some (.v n), some (.v (.ref wd)), none, none, some (.d true (.tuple [dInts [b], .int u])), none] := En6
        refine s_retI (evi_tup2 (b := false) (d1 := .int u) (EvI.weak (evi_at (n := 1) (evi_var En6 rfl) rfl)) (evi_tupL (evi_lcZ (b := false) (b1 := false) (b2 := true) (ds := [dTape c.l c.a c.r]) (es := [.int b]) (fun _ _ => dTape c.l b c.r) rfl En6 (by decide) (evia_cons (evi_var En6 rfl) (evia_cons (evi_at (n := 0) (evi_var En6 rfl) rfl) evia_nil)) (by show 1 ≤ 40000; decide) fun i d1 d2 σ7 H7 h1 h2 e7 En7 => ?_))) fun v' H7 e7 y => nx v' H7 (ex2.trans (e3.trans (e4.trans (e5.trans (e6.trans e7))))) ?_
        · have hi : i = 0 := by have := (List.getElem?_eq_some_iff.mp h1).1; simp at this; exact this
          subst hi
          cases h1
          cases h2
          exact evi_tup3 (evi_at (n := 0) (evi_var En7 rfl) rfl) (EvI.strong (evi_var En7 rfl)) (evi_at (n := 2) (evi_var En7 rfl) rfl)
        · show Is K H7 v' (.d false (dOpt (after rows c)))
          rw [after_of hN hm (show applies c (.wr c.q c.a b u) = true from decide_eq_true ⟨rfl, rfl⟩)]
          exact y
end
end Bk

set_option Elab.async false
set_option linter.all false
set_option maxRecDepth 100000
set_option maxHeartbeats 4000000
set_option autoImplicit false
namespace Bk
open PySem PySem.Spec PyProof.Rows L2 Evl
abbrev sevF (m s : Int) (lr a : Addr) (vn : V) : List (Str × V) := [("tapes", .int 1), ("marks", .int m), ("states", .int s), ("_rows", .ref lr), ("_back_clash", .non), ("_by_state", .ref a), ("_by_next", vn)]
def SeveralAt (K : PySem.W.Frag) (H : Hp) (p : Addr) (m s : Int) (rows : List Row) : Prop := ∃ dx lr a vn, H p = some (.ins (He.ga K "Several") dx (sevF m s lr a vn)) ∧ Is K H (.ref lr) (.l true (rows.map dRow)) ∧ TableAt K H a rows
theorem SeveralAt.ex {K : PySem.W.Frag} {H H' : Hp} {p : Addr} {m s : Int} {rows : List Row} (h : SeveralAt K H p m s rows) (e : Ex H H') : SeveralAt K H' p m s rows := by
  obtain ⟨dx, lr, a, vn, h1, h2, h3⟩ := h
  exact ⟨dx, lr, a, vn, e _ _ h1, h2.ex e, h3.ex e⟩
theorem TableAt.gh {K : PySem.W.Frag} {H : Hp} {a : Addr} {ps : List Addr} {rows : List Row} (h : TableAt K H a rows) (hs : Odd H ps) (hp : ∀ p ∈ ps, ∃ C dx fs, H p = some (.ins C dx fs)) : TableAt K (gh H ps) a rows := by
  obtain ⟨kvs, h1, h2⟩ := h
  refine ⟨kvs, ?_, h2.mono (gh_tx hs) fun a wk h => ?_⟩
  · rw [gh_ne fun z => by obtain ⟨C, dx, fs, q⟩ := hp _ z; rw [h1] at q; cases q]
    exact h1
  · rw [gh_ne fun z => by obtain ⟨C, dx, fs, q⟩ := hp _ z; rw [h] at q; cases q]
    exact h
theorem inR_t {a b i : Int} (h1 : a ≤ i) (h2 : i ≤ b) : inR a b i = true := by
  unfold inR
  rw [decide_eq_true h1, decide_eq_true h2]
  rfl
def bwdD : PyData → PyData
  | .tuple [.str _, q, a, b, t] => .tuple [.str "write", t, b, a, q]
  | .tuple [.str _, q, .tuple [.int d], t] => .tuple [.str "move", t, dInts [-d], q]
  | _ => .none
theorem bwdD_eq (r : Row) : bwdD (dRow r) = dRow r.bwd := by cases r <;> rfl
theorem bwdD_map (rows : List Row) : (rows.map dRow).map bwdD = (rows.map Row.bwd).map dRow := by
  rw [List.map_map, List.map_map]
  exact List.map_congr_left fun r _ => bwdD_eq r
section
variable {P : Program} {w : World} {K : PySem.W.Frag} {mg : Str → Option Value} {base : Heap}
theorem sc_Several_is_row : FnScope ["self", "row"] ["self", "row"] (defScope s_Several_is_row) := ⟨rfl, rfl, rfl, by decide +kernel, rfl, by decide +kernel, by decide +kernel⟩
def SevF (K : PySem.W.Frag) (H : Hp) (p : Addr) (m s : Int) : Prop := ∃ dx fs, H p = some (.ins (He.ga K "Several") dx fs) ∧ fs.lookup ("tapes" : Str) = some (V.int 1) ∧ fs.lookup ("marks" : Str) = some (V.int m) ∧ fs.lookup ("states" : Str) = some (V.int s)
theorem c_Several_is_row (T : Txt K mg) : CalleeM P w K mg base 3 (He.ga K "Several") "_is_row" ["self", "row"] (spF K (fun p : Addr × Int × Int × Row => [.v (.ref p.1), .d true (dRow p.2.2.2)]) (fun p H => SevF K H p.1 p.2.1 p.2.2.1 ∧ p.2.2.2.ok p.2.1 p.2.2.1) fun p => dB true) := by
  obtain ⟨fd, F⟩ := T.f_Several_is_row
  refine calleeM_of F T.cl_Several T.m_Several_is_row (fun _ _ _ _ _ _ us hl => match us, hl with | [_, _], _ => rfl) (F.ok sc_Several_is_row (fun _ => rfl) fun cdv A outer s H Q E p hr hp => ⟨_, (pss_cons (ps_if (PW.pt (pw_or (pt_not (pt_val (pe_callB call_isi (by rfl) T.z_isinstance (by decide +kernel) (pa_cons (pv 1) (pa_cons (pe_bltn (v := .ty "tuple") (by rfl) T.z_tuple (by decide +kernel) rfl) pa_nil))))) (pw_or1 (pt_cmpR op_lt (pe_callB call_len_seq (by rfl) T.z_len PySem.boot_len (pa_cons (pv 1) pa_nil)) pe_int (nomark _))))) (pss_one (ps_ret pe_bl)) pss_nil)
      (pss_cons (ps_if (PW.pt (pw_or (pt_not (pt_val (pe_C (c_is_number T) hr (by decide) (by rfl) (pa_cons (pe_ix ix_seq (pv 1) pe_int (fun _ _ => rfl)) (pa_cons pe_int (pa_cons (pe_op op_sub (pe_fld (pv 0) rfl) pe_int) pa_nil)))))) (pw_or1 (pt_not (pt_val (pe_C (c_is_number T) hr (by decide) (by rfl) (pa_cons (pe_ix ix_seq (pv 1) (pe_un un_neg pe_int) (fun _ _ => rfl)) (pa_cons pe_int (pa_cons (pe_op op_sub (pe_fld (pv 0) rfl) pe_int) pa_nil))))))))) (pss_one (ps_ret pe_bl)) pss_nil)
      (pss_cons (ps_if (pt_cmpR (op_eqD hr.units) (pe_ix ix_seq (pv 1) pe_int (fun _ _ => rfl)) pe_str (nomark _)) (pss_one (ps_ret (pe_and (pe_cmpR (op_eqD hr.units) (pe_callB call_len_seq (by rfl) T.z_len PySem.boot_len (pa_cons (pv 1) pa_nil)) pe_int (nomark _)) (pe_one (pe_C (c_is_tuple T) hr (by decide) (by rfl) (pa_cons (pe_ix ix_seq (pv 1) pe_int (fun _ _ => rfl)) (pa_cons (pe_fld (pv 0) rfl) (pa_cons (pe_un un_neg pe_int) (pa_cons pe_int pa_nil))))))))) pss_nil)
      (pss_cons (ps_if (PW.pt (pw_or (pt_cmpR (op_neD hr.units) (pe_ix ix_seq (pv 1) pe_int (fun _ _ => rfl)) pe_str (nomark _)) (pw_or1 (pt_cmpR (op_neD hr.units) (pe_callB call_len_seq (by rfl) T.z_len PySem.boot_len (pa_cons (pv 1) pa_nil)) pe_int (nomark _))))) (pss_one (ps_ret pe_bl)) pss_nil)
      (pss_one (ps_ret (pe_and (pe_C (c_is_tuple T) hr (by decide) (by rfl) (pa_cons (pe_ix ix_seq (pv 1) pe_int (fun _ _ => rfl)) (pa_cons (pe_fld (pv 0) rfl) (pa_cons pe_int (pa_cons (pe_op op_sub (pe_fld (pv 0) rfl) pe_int) pa_nil))))) (pe_one (pe_C (c_is_tuple T) hr (by decide) (by rfl) (pa_cons (pe_ix ix_seq (pv 1) pe_int (fun _ _ => rfl)) (pa_cons (pe_fld (pv 0) rfl) (pa_cons pe_int (pa_cons (pe_op op_sub (pe_fld (pv 0) rfl) pe_int) pa_nil))))))))))))), fun σ En0 nx => ?_⟩)
  obtain ⟨p, m, s, r⟩ := p
  obtain ⟨⟨dx, fs, hp0, f1, f2, f3⟩, ho⟩ := hp
  simp only at hp0 f1 f2 f3 ho
  have En0 : En K H σ [some (.v (.ref p)), some (.d true (dRow r))] := En0
  have hst := Row.ok_st ho
  have fl : ∀ {H9 : Hp} {σ9 : L2.St}, Ex H H9 → En K H9 σ9 [some (.v (.ref p)), some (.d true (dRow r))] → ∀ {f : Str} {i : Int}, NoAttr K (He.ga K "Several") f → fs.lookup f = some (.int i) → EvI K (tFld K (tVar 0) f) σ9 H9 (dI i) := fun e9 E9 f i n hl => evi_fld (evi_var E9 rfl) (e9 _ _ hp0) T.cl_Several n hl fun _ _ => .int i
  cases r with
  | mv q d t =>
    obtain ⟨hq, hd, ht⟩ := ho
    refine q_whenI En0 (et_is (et_or (evt_isi_not (evi_var En0 rfl)) fun _ => evt_of (evi_cmp (g := fun i j => decide (i < j)) (evi_len (ds := [.str "move", .int q, dInts [d], .int t]) (EvI.dq (evi_var En0 rfl))) (evi_int (b := true)))) (b := false) rfl) (fun h => by cases h) fun _ H1 e1 En1 => ?_
    refine q_whenI En1 (et_is (et_or (et_not (evt_B (evi_call (q, 0, s - 1) (evia_cons (evi_at (n := 1) (evi_var En1 rfl) rfl) (evia_cons (evi_int (b := true)) (evia_cons (evi_op0 (fl e1 En1 T.n_Several_states f3) (evi_int (b := true))) evia_nil))) fun _ _ => trivial))) fun _ => et_not (evt_B (evi_call (t, 0, s - 1) (evia_cons (evi_ix (EvI.dq (evi_var En1 rfl)) (evi_neg (evi_int (b := true))) (row_nx (.mv q d t))) (evia_cons (evi_int (b := true)) (evia_cons (evi_op0 (fl e1 En1 T.n_Several_states f3) (evi_int (b := true))) evia_nil))) fun _ _ => trivial))) (b := false) (by simp only; rw [inR_t hq.1 (by omega), inR_t ht.1 (by omega)]; rfl)) (fun h => by cases h) fun _ H2 e2 En2 => ?_
    refine q_whenI En2 (et_is (evt_of (evi_eq (evi_at (n := 0) (evi_var En2 rfl) rfl) (evi_str (b := true)) ok_move.sh ok_move.sh)) (b := true) (eqv_self rfl)) (fun _ H3 e3 En3 => ?_) fun h => by cases h
    refine s_retI (evi_and (i := true) (EvI.eq (evi_eq (evi_len (ds := [.str "move", .int q, dInts [d], .int t]) (EvI.dq (evi_var En3 rfl))) (evi_int (b := true)) (ok_int _).sh (ok_int _).sh) (by rw [eqv_int]; rfl)) fun _ => evi_call ([d], 1, -1, 1) (evia_cons (EvI.weak (evi_at (n := 2) (evi_var En3 rfl) rfl)) (evia_cons (fl (e1.trans (e2.trans e3)) En3 T.n_Several_tapes f1) (evia_cons (evi_neg (evi_int (b := true))) (evia_cons (evi_int (b := true)) evia_nil)))) fun _ _ => by show 1 ≤ 1000; decide) fun v H' e y => nx v H' (e1.trans (e2.trans (e3.trans e))) ?_
    have e : (true && (decide ((([d] : List Int).length : Int) = 1) && [d].all (inR (-1) 1))) = true := by
      show (true && (true && (inR (-1) 1 d && true))) = true
      rw [inR_t hd.1 hd.2]
      rfl
    rw [← e]
    exact y
  | wr q a c t =>
    obtain ⟨hq, ha, hc, ht⟩ := ho
    refine q_whenI En0 (et_is (et_or (evt_isi_not (evi_var En0 rfl)) fun _ => evt_of (evi_cmp (g := fun i j => decide (i < j)) (evi_len (ds := [.str "write", .int q, dInts [a], dInts [c], .int t]) (EvI.dq (evi_var En0 rfl))) (evi_int (b := true)))) (b := false) rfl) (fun h => by cases h) fun _ H1 e1 En1 => ?_
    refine q_whenI En1 (et_is (et_or (et_not (evt_B (evi_call (q, 0, s - 1) (evia_cons (evi_at (n := 1) (evi_var En1 rfl) rfl) (evia_cons (evi_int (b := true)) (evia_cons (evi_op0 (fl e1 En1 T.n_Several_states f3) (evi_int (b := true))) evia_nil))) fun _ _ => trivial))) fun _ => et_not (evt_B (evi_call (t, 0, s - 1) (evia_cons (evi_ix (EvI.dq (evi_var En1 rfl)) (evi_neg (evi_int (b := true))) (row_nx (.wr q a c t))) (evia_cons (evi_int (b := true)) (evia_cons (evi_op0 (fl e1 En1 T.n_Several_states f3) (evi_int (b := true))) evia_nil))) fun _ _ => trivial))) (b := false) (by simp only; rw [inR_t hq.1 (by omega), inR_t ht.1 (by omega)]; rfl)) (fun h => by cases h) fun _ H2 e2 En2 => ?_
    refine q_whenI En2 (et_is (evt_of (evi_eq (evi_at (n := 0) (evi_var En2 rfl) rfl) (evi_str (b := true)) ok_write.sh ok_move.sh)) (b := false) (by rw [eqv_str]; decide +kernel)) (fun h => by cases h) fun _ H3 e3 En3 => ?_
    refine q_whenI En3 (et_is (et_or (evt_of (evi_ne (evi_at (n := 0) (evi_var En3 rfl) rfl) (evi_str (b := true)) ok_write.sh ok_write.sh)) fun _ => evt_of (evi_ne (evi_len (ds := [.str "write", .int q, dInts [a], dInts [c], .int t]) (EvI.dq (evi_var En3 rfl))) (evi_int (b := true)) (ok_int _).sh (ok_int _).sh)) (b := false) (by rw [eqv_self rfl, eqv_int]; rfl)) (fun h => by cases h) fun _ H4 e4 En4 => ?_
    refine s_retI (evi_and (evi_call ([a], 1, 0, m - 1) (evia_cons (EvI.weak (evi_at (n := 2) (evi_var En4 rfl) rfl)) (evia_cons (fl (e1.trans (e2.trans (e3.trans e4))) En4 T.n_Several_tapes f1) (evia_cons (evi_int (b := true)) (evia_cons (evi_op0 (fl (e1.trans (e2.trans (e3.trans e4))) En4 T.n_Several_marks f2) (evi_int (b := true))) evia_nil)))) fun _ _ => by show 1 ≤ 1000; decide) fun _ => (evi_call ([c], 1, 0, m - 1) (evia_cons (EvI.weak (evi_at (n := 3) (evi_var En4 rfl) rfl)) (evia_cons (fl (e1.trans (e2.trans (e3.trans e4))) En4 T.n_Several_tapes f1) (evia_cons (evi_int (b := true)) (evia_cons (evi_op0 (fl (e1.trans (e2.trans (e3.trans e4))) En4 T.n_Several_marks f2) (evi_int (b := true))) evia_nil)))) fun _ _ => by show 1 ≤ 1000; decide)) fun v H' e y => nx v H' (e1.trans (e2.trans (e3.trans (e4.trans e)))) ?_
    have e : ((decide ((([a] : List Int).length : Int) = 1) && [a].all (inR 0 (m - 1))) && (decide ((([c] : List Int).length : Int) = 1) && [c].all (inR 0 (m - 1)))) = true := by
      show ((true && (inR 0 (m - 1) a && true)) && (true && (inR 0 (m - 1) c && true))) = true
      rw [inR_t ha.1 (by omega), inR_t hc.1 (by omega)]
      rfl
    rw [← e]
    exact y
theorem sc_Several_table : FnScope ["self"] ["self"] (defScope s_Several_table) := ⟨rfl, rfl, rfl, by decide +kernel, rfl, by decide +kernel, by decide +kernel⟩
theorem c_Several_table (T : Txt K mg) : CalleeM P w K mg base 1 (He.ga K "Several") "table" ["self"] (spF K (fun p : Addr × Int × Int × List Row => [.v (.ref p.1)]) (fun p H => SeveralAt K H p.1 p.2.1 p.2.2.1 p.2.2.2) fun p => .l true (p.2.2.2.map dRow)) := by
  obtain ⟨fd, F⟩ := T.f_Several_table
  refine calleeM_of F T.cl_Several T.m_Several_table (fun _ _ _ _ _ _ us hl => match us, hl with | [_], _ => rfl) (F.ok sc_Several_table (fun _ => rfl) fun cdv A outer s H Q E p hr hp => ⟨_, (pss_one (ps_ret (pe_callTy call_list_of (by rfl) T.z_list (by decide +kernel) (pa_cons (pe_fld (pv 0) rfl) pa_nil)))), fun σ En0 nx => ?_⟩)
  obtain ⟨p, m, s, rows⟩ := p
  obtain ⟨dx, lr, a, vn, h1, h2, h3⟩ := hp
  have En0 : En K H σ [some (.v (.ref p))] := En0
  exact s_retI (evi_listOf (EvI.lq (evi_fld (k := .l true (rows.map dRow)) (evi_var En0 rfl) h1 T.cl_Several T.n_Several_rows rfl fun H1 e1 => h2.ex e1))) nx
theorem sc_Several_back_clash : FnScope ["self"] ["self"] (defScope s_Several_back_clash) := ⟨rfl, rfl, rfl, by decide +kernel, rfl, by decide +kernel, by decide +kernel⟩
theorem c_Several_back_clash (T : Txt K mg) : CalleeM P w K mg base 1 (He.ga K "Several") "back_clash" ["self"] (spF K (fun p : Addr × Int × Int × List Row => [.v (.ref p.1)]) (fun p H => SeveralAt K H p.1 p.2.1 p.2.2.1 p.2.2.2) fun p => .d false .none) := by
  obtain ⟨fd, F⟩ := T.f_Several_back_clash
  refine calleeM_of F T.cl_Several T.m_Several_back_clash (fun _ _ _ _ _ _ us hl => match us, hl with | [_], _ => rfl) (F.ok sc_Several_back_clash (fun _ => rfl) fun cdv A outer s H Q E p hr hp => ⟨_, (pss_one (ps_ret (pe_fld (pv 0) rfl))), fun σ En0 nx => ?_⟩)
  obtain ⟨p, m, s, rows⟩ := p
  obtain ⟨dx, lr, a, vn, h1, h2, h3⟩ := hp
  have En0 : En K H σ [some (.v (.ref p))] := En0
  exact s_retI (evi_fld (k := .d false .none) (evi_var En0 rfl) h1 T.cl_Several T.n_Several_back_clash rfl fun H1 e1 => .non) nx
theorem sc_Several_step : FnScope ["self", "configuration"] ["self", "configuration"] (defScope s_Several_step) := ⟨rfl, rfl, rfl, by decide +kernel, rfl, by decide +kernel, by decide +kernel⟩
theorem c_Several_step (T : Txt K mg) : CalleeM P w K mg base 4 (He.ga K "Several") "step" ["self", "configuration"] (spF K (fun p : Addr × Int × Int × List Row × Cfg => [.v (.ref p.1), .d false (dCfg p.2.2.2.2)]) (fun p H => SeveralAt K H p.1 p.2.1 p.2.2.1 p.2.2.2.1 ∧ NoF p.2.2.2.1 ∧ p.2.2.2.2.size ≤ 900) fun p => .d false (dOpt (after p.2.2.2.1 p.2.2.2.2))) := by
  obtain ⟨fd, F⟩ := T.f_Several_step
  refine calleeM_of F T.cl_Several T.m_Several_step (fun _ _ _ _ _ _ us hl => match us, hl with | [_, _], _ => rfl) (F.ok sc_Several_step (fun _ => rfl) fun cdv A outer s H Q E p hr hp => ⟨_, (pss_one (ps_ret (pe_C (c_taken T) hr (by decide) (by rfl) (pa_cons (pe_fld (pv 0) rfl) (pa_cons (pv 1) pa_nil))))), fun σ En0 nx => ?_⟩)
  obtain ⟨p, m, s, rows, c⟩ := p
  obtain ⟨⟨dx, lr, a, vn, h1, h2, h3⟩, hN, hz⟩ := hp
  have En0 : En K H σ [some (.v (.ref p)), some (.d false (dCfg c))] := En0
  exact s_retI (evi_call (a, rows, c) (evia_cons (evi_fld (k := .v (.ref a)) (evi_var En0 rfl) h1 T.cl_Several T.n_Several_by_state rfl fun H1 e1 => rfl) (evia_cons (evi_var En0 rfl) evia_nil)) fun H1 e1 => ⟨h3.ex e1, hN, hz⟩) nx
theorem sc_clash : FnScope ["machine"] ["machine"] (defScope s_clash) := ⟨rfl, rfl, rfl, by decide +kernel, rfl, by decide +kernel, by decide +kernel⟩
theorem c_clash (T : Txt K mg) : Callee P w K mg base 2 "clash" ["machine"] (spF K (fun p : Addr × Int × Int × List Row => [.v (.ref p.1)]) (fun p H => SeveralAt K H p.1 p.2.1 p.2.2.1 p.2.2.2) fun p => .d false .none) := by
  obtain ⟨fd, F⟩ := T.f_clash
  refine callee_of F T.g_clash (fun _ _ _ _ _ _ us hl => match us, hl with | [_], _ => rfl) (F.ok sc_clash (fun _ => rfl) fun cdv A outer s H Q E p hr hp => ⟨_, (pss_one (ps_ret (pe_M0 (pv 0) (c_Several_back_clash T) hr (by decide)))), fun σ En0 nx => ?_⟩)
  obtain ⟨p, m, s, rows⟩ := p
  have PA := hp
  obtain ⟨dx, lr, a, vn, h1, h2, h3⟩ := hp
  have En0 : En K H σ [some (.v (.ref p))] := En0
  exact s_retI (evi_meth (kr := []) (p, m, s, rows) (evi_var En0 rfl) h1 rfl evia_nil rfl fun H1 e1 => PA.ex e1) nx
end
end Bk

set_option Elab.async false
set_option linter.all false
set_option maxRecDepth 100000
set_option maxHeartbeats 4000000
set_option autoImplicit false
namespace Bk
open PySem PySem.Spec PyProof.Rows L2 Evl
section
variable {P : Program} {w : World} {K : PySem.W.Frag} {mg : Str → Option Value} {base : Heap}
theorem odd_ins {H : Hp} {p C dx : Addr} {fs : List (Str × V)} (h : H p = some (.ins C dx fs)) : Odd H [p] := odd1 h rfl
theorem ins_all {H : Hp} {p C dx : Addr} {fs : List (Str × V)} (h : H p = some (.ins C dx fs)) : ∀ q ∈ [p], ∃ C dx fs, H q = some (.ins C dx fs) := fun q hq => ⟨C, dx, fs, by rw [List.mem_singleton.mp hq]; exact h⟩
theorem evp_newK {σ : L2.St} {H : Hp} : EvP tDNewK σ H fun _ _ => True := fun H1 _ Q q => fun p hp => q _ _ (Ex.new hp) trivial
theorem sc_Several_init : FnScope ["self", "tapes", "marks", "states", "rows", "row", "pair"] ["self", "tapes", "marks", "states", "rows"] (defScope s_Several_init) := ⟨rfl, rfl, rfl, by decide +kernel, rfl, by decide +kernel, by decide +kernel⟩
theorem c_Several_init (T : Txt K mg) : CalleeI P w K mg base 4 "Several" (He.ga K "Several") ["self", "tapes", "marks", "states", "rows"] (spI K (He.ga K "Several") (fun p : Int × Int × List Row => [dI 1, dI p.1, dI p.2.1, .l true (p.2.2.map dRow)]) (fun p _ => Good p.1 p.2.1 p.2.2 ∧ p.2.2.length ≤ 1000) fun p x H => SeveralAt K H x p.1 p.2.1 p.2.2) := by
  obtain ⟨fd, F⟩ := T.f_Several_init
  obtain ⟨tM1, h_MOST_TAPES⟩ := T.i_MOST_TAPES
  obtain ⟨tM2, h_MOST_MARKS⟩ := T.i_MOST_MARKS
  obtain ⟨tM3, h_MOST_STATES⟩ := T.i_MOST_STATES
  obtain ⟨tM4, h_MOST_ROWS⟩ := T.i_MOST_ROWS
  refine calleeI_of F T.mk_Several T.g_Several (fun _ _ _ _ _ _ us hl => match us, hl with | [_, _, _, _, _], _ => rfl) (F.okI sc_Several_init (fun _ => rfl) fun cdv A outer s H Q E p self dx H1 hr hp hfr hex hself => ?_)
  refine ⟨_, (pss_cons (ps_if (PW.pt (pw_or (pt_not (pt_val (pe_C (c_is_number T) hr (by decide) (by rfl) (pa_cons (pv 1) (pa_cons pe_int (pa_cons (pe_glob (v := .int 4) rfl h_MOST_TAPES ⟨_, rfl⟩) pa_nil)))))) (pw_or1 (pt_not (pt_val (pe_C (c_is_number T) hr (by decide) (by rfl) (pa_cons (pv 2) (pa_cons pe_int (pa_cons (pe_glob (v := .int 400) rfl h_MOST_MARKS ⟨_, rfl⟩) pa_nil))))))))) pss_never pss_nil)
      (pss_cons (ps_if (PW.pt (pw_or (pt_not (pt_val (pe_C (c_is_number T) hr (by decide) (by rfl) (pa_cons (pv 3) (pa_cons pe_int (pa_cons (pe_glob (v := .int 5000) rfl h_MOST_STATES ⟨_, rfl⟩) pa_nil)))))) (pw_or1 (pt_cmpR op_gt (pe_callB call_len_seq (by rfl) T.z_len PySem.boot_len (pa_cons (pv 4) pa_nil)) (pe_glob (v := .int 20000) rfl h_MOST_ROWS ⟨_, rfl⟩) (nomark _))))) pss_never pss_nil)
      (pss_cons (ps_fld (pv 0) (pv 1) rfl)
      (pss_cons (ps_fld (pv 0) (pv 2) rfl)
      (pss_cons (ps_fld (pv 0) (pv 3) rfl)
      (pss_cons (ps_fld (pv 0) (pe_callTy call_list_of (by rfl) T.z_list (by decide +kernel) (pa_cons (pv 4) pa_nil)) rfl)
      (pss_cons (ps_if (pt_not (pt_val (pe_callB (cr_all rfl) (by rfl) T.z_all (by decide +kernel) (pa_cons (pe_lc (own := [("row", 5)]) (te := (tMeth _ _ _ [] E0 (tVar 0) (tCons (tVar 5) tNil))) (tt := tYes) rfl sc_Several_init.nd (pi_list (pe_fld (pv 0) rfl)) (blkOk_by (N := ["self", "tapes", "marks", "states", "rows", "row", "pair"]) (sc := defScope s_Several_init) (by decide +kernel)) (fun _ _ _ _ _ => (pg_name (i := 5) sc_Several_init.nd rfl (Or.inl rfl))) (fun _ _ _ _ _ => pts_nil) (fun _ _ _ _ _ => (pe_M (pv 0) (c_Several_is_row T) hr (by decide) (pa_cons (pv 5) pa_nil)))) pa_nil)))) pss_never pss_nil)
      (pss_cons (ps_set (i := 6) sc_Several_init.nd rfl (Or.inl rfl) (pe_C (c_first_clash T) hr (by decide) (by rfl) (pa_cons (pe_fld (pv 0) rfl) pa_nil)))
      (pss_cons (ps_if (pt_cmpR op_notN (pv 6) pe_non (nomark _)) pss_never pss_nil)
      (pss_cons (ps_fld (pv 0) (pe_C (c_first_clash T) hr (by decide) (by rfl) (pa_cons (pe_lc (own := [("row", 5)]) (te := (tCall _ [] E0 (tCons (tVar 5) tNil))) (tt := tYes) rfl sc_Several_init.nd (pi_list (pe_fld (pv 0) rfl)) (blkOk_by (N := ["self", "tapes", "marks", "states", "rows", "row", "pair"]) (sc := defScope s_Several_init) (by decide +kernel)) (fun _ _ _ _ _ => (pg_name (i := 5) sc_Several_init.nd rfl (Or.inl rfl))) (fun _ _ _ _ _ => pts_nil) (fun _ _ _ _ _ => (pe_C (c_backward T) hr (by decide) (by rfl) (pa_cons (pv 5) pa_nil)))) pa_nil)) rfl)
      (pss_cons (ps_fld (pv 0) (pe_C (c_table_of T) hr (by decide) (by rfl) (pa_cons (pe_fld (pv 0) rfl) pa_nil)) rfl)
      (pss_cons (ps_fld (pv 0) pe_dnewK rfl)
      (pss_one (ps_if (pt_cmpR op_isN (pe_fld (pv 0) rfl) pe_non (nomark _)) (pss_one (ps_fld (pv 0) (pe_C (c_table_of T) hr (by decide) (by rfl) (pa_cons (pe_lc (own := [("row", 5)]) (te := (tCall _ [] E0 (tCons (tVar 5) tNil))) (tt := tYes) rfl sc_Several_init.nd (pi_list (pe_fld (pv 0) rfl)) (blkOk_by (N := ["self", "tapes", "marks", "states", "rows", "row", "pair"]) (sc := defScope s_Several_init) (by decide +kernel)) (fun _ _ _ _ _ => (pg_name (i := 5) sc_Several_init.nd rfl (Or.inl rfl))) (fun _ _ _ _ _ => pts_nil) (fun _ _ _ _ _ => (pe_C (c_backward T) hr (by decide) (by rfl) (pa_cons (pv 5) pa_nil)))) pa_nil)) rfl)) pss_nil)))))))))))))), fun σ En0 nx => ?_⟩
  obtain ⟨m, s, rows⟩ := p
  obtain ⟨G, hlr⟩ := hp
  simp only at G hlr
  have G2 := G.m2
  have G4 := G.m4
  have S1 := G.s1
  have S5 := G.s5
  have lrw : (rows.map dRow).length = rows.length := List.length_map ..
  have cls := T.cl_Several
  have En0 : En K H1 σ [some (.v (.ref self)), some (dI 1), some (dI m), some (dI s), some (.l true (rows.map dRow)), none, none] := En0
  have EG : Ex H1 (gh H [self]) := gh_up hex fun q hq => by rw [List.mem_singleton.mp hq]; exact hfr
  have E0 := (En0.ex EG).ex gh_ex
  -- the sizes
  refine q_whenI E0 (et_is (et_or (et_not (evt_B (evi_call (1, 1, 4) (evia_cons (evi_var E0 rfl) (evia_cons (evi_int (b := true)) (evia_cons (evi_k (k := dI 4) (.int _)) evia_nil))) fun _ _ => trivial))) fun _ => et_not (evt_B (evi_call (m, 2, 400) (evia_cons (evi_var E0 rfl) (evia_cons (evi_int (b := true)) (evia_cons (evi_k (k := dI 400) (.int _)) evia_nil))) fun _ _ => trivial))) (b := false) (by simp only; rw [inR_t (by omega) (by omega), inR_t (by omega) (by omega)]; rfl)) (fun h => by cases h) fun _ H2 e2 E2 => ?_
  refine q_whenI E2 (et_is (et_or (et_not (evt_B (evi_call (s, 1, 5000) (evia_cons (evi_var E2 rfl) (evia_cons (evi_int (b := true)) (evia_cons (evi_k (k := dI 5000) (.int _)) evia_nil))) fun _ _ => trivial))) fun _ => evt_of (evi_cmp (g := fun i j => decide (j < i)) (EvI.eq (evi_len (EvI.lq (evi_var E2 rfl))) (by rw [lrw])) (evi_k (k := dI 20000) (.int _)))) (b := false) (by simp only; rw [inR_t (by omega) (by omega), decide_eq_false (by omega)]; rfl)) (fun h => by cases h) fun _ H3 e3 E3 => ?_
  have h3 : H3 self = some (.ins (He.ga K "Several") dx []) := (e2.trans e3) _ _ hself
  have EG3 : Ex H1 (gh H3 [self]) := EG.trans (gh_mono (e2.trans e3))
  have EG3' := E3.gh (odd_ins h3)
  clear E0 E2 E3 En0
  -- the fields
  refine q_fldP h3 (evi_var (EG3'.ex gh_ex) rfl) (EvI.evp (evi_var (EG3'.ex gh_ex) rfl)) cls T.n_Several_tapes (by decide) fun v4 H4a H4 e4 y4 _ g4 h4 => ?_
  have y4 := Is.toInt y4
  subst y4
  have h4 : H4 self = some (.ins (He.ga K "Several") dx [("tapes", .int 1)]) := h4
  have EG4 := EG3.trans ((gh_mono e4).trans g4)
  have E4 := EG3'.ex ((gh_mono e4).trans g4)
  clear EG3' EG3
  refine q_fldP h4 (evi_var (E4.ex gh_ex) rfl) (EvI.evp (evi_var (E4.ex gh_ex) rfl)) cls T.n_Several_marks (by show 1 < 1000; decide) fun v5 H5a H5 e5 y5 _ g5 h5 => ?_
  have y5 := Is.toInt y5
  subst y5
  have h5 : H5 self = some (.ins (He.ga K "Several") dx [("tapes", .int 1), ("marks", .int m)]) := h5
  have EG5 := EG4.trans ((gh_mono e5).trans g5)
  have E5 := E4.ex ((gh_mono e5).trans g5)
  clear E4 EG4
  refine q_fldP h5 (evi_var (E5.ex gh_ex) rfl) (EvI.evp (evi_var (E5.ex gh_ex) rfl)) cls T.n_Several_states (by show 2 < 1000; decide) fun v6 H6a H6 e6 y6 _ g6 h6 => ?_
  have y6 := Is.toInt y6
  subst y6
  have h6 : H6 self = some (.ins (He.ga K "Several") dx [("tapes", .int 1), ("marks", .int m), ("states", .int s)]) := h6
  have EG6 := EG5.trans ((gh_mono e6).trans g6)
  have E6 := E5.ex ((gh_mono e6).trans g6)
  clear E5 EG5
  refine q_fldP h6 (evi_var (E6.ex gh_ex) rfl) (EvI.evp (evi_listOf (EvI.lq (evi_var (E6.ex gh_ex) rfl)))) cls T.n_Several_rows (by show 3 < 1000; decide) fun vr H7a H7 e7 y7 h7a g7 h7 => ?_
  have R7 : Is K (gh H7 [self]) vr (.l true (rows.map dRow)) := (Is.gh (odd_ins h7a) y7).ex g7
  have EG7 := EG6.trans ((gh_mono e7).trans g7)
  have E7 := E6.ex ((gh_mono e7).trans g7)
  clear E6 EG6
  obtain ⟨lr, _, elr, _, _⟩ := id R7
  subst elr
  have hF7 : H7 self = some (.ins (He.ga K "Several") dx [("tapes", .int 1), ("marks", .int m), ("states", .int s), ("_rows", .ref lr)]) := h7
  clear h7
  -- rows are rows
  refine q_whenI (E7.ex gh_ex) (et_is (et_not (evt_B (evi_all (b := true) (bs := rows.map fun _ => true) (EvI.eq (evi_lcL1 (b := true) (b' := true) (fun _ => .bool true) (E7.ex gh_ex) (evi_fld (k := .l true (rows.map dRow)) (evi_var (E7.ex gh_ex) rfl) hF7 cls T.n_Several_rows rfl fun H8 e8 => R7.ex (gh_ex.trans e8)) (by rw [lrw]; omega) fun d σ8 H8 hd e8 En8 => ?_) (by rw [List.map_map, List.map_map]; rfl))))) (b := false) ?_) (fun h => by cases h) fun _ H8 e8 E8 => ?_
  · obtain ⟨r, hr1, ed⟩ := List.mem_map.mp hd
    subst ed
    exact evi_meth (kr := [.d true (dRow r)]) (self, m, s, r) (evi_var En8 rfl) (e8 _ _ hF7) rfl (evia_cons (evi_var En8 rfl) evia_nil) rfl fun H9 e9 => ⟨⟨dx, _, e9 _ _ (e8 _ _ hF7), rfl, rfl, rfl⟩, G.ok r hr1⟩
  · rw [all_id]
    have : rows.all (fun _ => true) = true := by rw [List.all_eq_true]; exact fun _ _ => rfl
    rw [this]
    rfl
  have hF8 := e8 _ _ hF7
  have R8 := R7.ex (gh_mono e8)
  -- no clash
  refine q_setI (k := .d false .none) E8 (evi_call rows (evia_cons (evi_fld (k := .l true (rows.map dRow)) (evi_var E8 rfl) hF8 cls T.n_Several_rows rfl fun H9 e9 => R8.ex (gh_ex.trans e9)) evia_nil) fun _ _ => ⟨G.nf, hlr⟩) fun σ9 H9 e9 E9 => ?_
  refine q_whenI (c := false) E9 (et_is (evt_of (evi_notN (evi_var E9 rfl))) rfl) (fun h => by cases h) fun _ H10 e10 E10 => ?_
  have e810 := e8.trans (e9.trans e10)
  have h10 : H10 self = _ := e810 _ _ hF7
  have E10 := E10.gh (odd_ins h10)
  have EG10 := EG7.trans (gh_mono e810)
  have R10 := R7.ex (gh_mono (ps := [self]) e810)
  clear E7 E8 E9 EG7 R8 hF8
  have lb : (rows.map Row.bwd).length ≤ 1000 := by rw [List.length_map]; exact hlr
  have E10' := E10.ex gh_ex
  refine q_fldP h10 (evi_var E10' rfl) (EvI.evp (evi_call (rows.map Row.bwd) (evia_cons (EvI.eq (evi_lcL1 (b := true) (b' := true) bwdD E10' (evi_fld (k := .l true (rows.map dRow)) (evi_var E10' rfl) h10 cls T.n_Several_rows rfl fun H9 e9 => R10.ex (gh_ex.trans e9)) (by rw [lrw]; omega) fun d σ8 H8 hd e8 En8 => by
      obtain ⟨r, hr1, ed⟩ := List.mem_map.mp hd
      subst ed
      rw [bwdD_eq]
      exact evi_call r (evia_cons (evi_var En8 rfl) evia_nil) fun _ _ => trivial) (by rw [bwdD_map])) evia_nil) fun _ _ => ⟨G.nb, lb⟩)) cls T.n_Several_back_clash (by show 4 < 1000; decide) fun v11 H11a H11 e11 y11 _ g11 h11 => ?_
  have y11 : v11 = .non := Rp.non_eq y11
  subst y11
  have h11 : H11 self = some (.ins (He.ga K "Several") dx [("tapes", .int 1), ("marks", .int m), ("states", .int s), ("_rows", .ref lr), ("_back_clash", .non)]) := h11
  have EG11 := EG10.trans ((gh_mono e11).trans g11)
  have E11 := E10.ex ((gh_mono e11).trans g11)
  have R11 := R10.ex ((gh_mono e11).trans g11)
  clear E10 E10' EG10 R10
  have E11' := E11.ex gh_ex
  refine q_fldP h11 (evi_var E11' rfl) (evp_call rows (evia_cons (evi_fld (k := .l true (rows.map dRow)) (evi_var E11' rfl) h11 cls T.n_Several_rows rfl fun H9 e9 => R11.ex (gh_ex.trans e9)) evia_nil) fun _ _ => ⟨G.nf, hlr⟩) cls T.n_Several_by_state (by show 5 < 1000; decide) fun v12 H12a H12 e12 ⟨a, ea, ta⟩ h12a g12 h12 => ?_
  subst ea
  have h12 : H12 self = some (.ins (He.ga K "Several") dx [("tapes", .int 1), ("marks", .int m), ("states", .int s), ("_rows", .ref lr), ("_back_clash", .non), ("_by_state", .ref a)]) := h12
  have EG12 := EG11.trans ((gh_mono e12).trans g12)
  have E12 := E11.ex ((gh_mono e12).trans g12)
  have R12 := R11.ex ((gh_mono e12).trans g12)
  have T12 := (ta.gh (odd_ins h12a) (ins_all h12a)).ex g12
  clear E11 E11' EG11 R11
  refine q_fldP h12 (evi_var (E12.ex gh_ex) rfl) evp_newK cls T.n_Several_by_next (by show 6 < 1000; decide) fun vn H13a H13 e13 _ _ g13 h13 => ?_
  have h13 : H13 self = some (.ins (He.ga K "Several") dx [("tapes", .int 1), ("marks", .int m), ("states", .int s), ("_rows", .ref lr), ("_back_clash", .non), ("_by_state", .ref a), ("_by_next", vn)]) := h13
  have EG13 := EG12.trans ((gh_mono e13).trans g13)
  have E13 := E12.ex ((gh_mono e13).trans g13)
  have R13 := R12.ex ((gh_mono e13).trans g13)
  have T13 := T12.ex ((gh_mono e13).trans g13)
  clear E12 EG12 R12 T12
  have E13' := E13.ex gh_ex
  refine s_whenI (c := true) E13' (et_is (evt_of (evi_isN (evi_fld (k := .d false .none) (evi_var E13' rfl) h13 cls T.n_Several_back_clash rfl fun _ _ => .non))) rfl) (fun _ H14 e14 E14 => ?_) fun h => by cases h
  have h14 := e14 _ _ h13
  have R14 := R13.ex (gh_mono (ps := [self]) e14)
  refine s_fldP h14 (evi_var E14 rfl) (evp_call (rows.map Row.bwd) (evia_cons (EvI.eq (evi_lcL1 (b := true) (b' := true) bwdD E14 (evi_fld (k := .l true (rows.map dRow)) (evi_var E14 rfl) h14 cls T.n_Several_rows rfl fun H9 e9 => R14.ex (gh_ex.trans e9)) (by rw [lrw]; omega) fun d σ8 H8 hd e8 En8 => by
      obtain ⟨r, hr1, ed⟩ := List.mem_map.mp hd
      subst ed
      rw [bwdD_eq]
      exact evi_call r (evia_cons (evi_var En8 rfl) evia_nil) fun _ _ => trivial) (by rw [bwdD_map])) evia_nil) fun _ _ => ⟨G.nb, lb⟩) cls T.n_Several_by_next (by show 7 < 1000; decide) fun v15 H15a H15 e15 _ _ g15 h15 => ?_
  have eg := (gh_mono (ps := [self]) e14).trans ((gh_mono e15).trans g15)
  exact nx H15 ((EG13.trans eg).trans gh_ex) ⟨dx, lr, a, v15, h15, R13.ex (eg.trans gh_ex), T13.ex (eg.trans gh_ex)⟩
end
end Bk

set_option Elab.async false
set_option linter.all false
set_option maxRecDepth 100000
set_option maxHeartbeats 4000000
set_option autoImplicit false
namespace Bk
open PySem PySem.Spec PyProof.Rows L2 Evl
def tri1 (i j : Int) (c : Nat) : List Tri := (List.range c).map fun (k : Nat) => (i, j, (k : Int))
def tri2 (i : Int) (c : Nat) : Nat → List Tri
  | 0 => []
  | j + 1 => tri2 i c j ++ tri1 i (j : Int) c
def tri3 (b c : Nat) : Nat → List Tri
  | 0 => []
  | i + 1 => tri3 b c i ++ tri2 (i : Int) c b
theorem tri2_len (i : Int) (c j : Nat) : (tri2 i c j).length = j * c := by
  induction j with
  | zero => rw [Nat.zero_mul]; rfl
  | succ j ih => rw [tri2, List.length_append, ih, tri1, List.length_map, List.length_range, Nat.succ_mul]
theorem tri3_len (b c i : Nat) : (tri3 b c i).length = i * (b * c) := by
  induction i with
  | zero => rw [Nat.zero_mul]; rfl
  | succ i ih => rw [tri3, List.length_append, ih, tri2_len, Nat.succ_mul]
theorem tri_bound {a b c i j : Nat} (ha : a ≤ 10) (hb : b ≤ 100) (hc : c ≤ 10) (hi : i ≤ a) (hj : j ≤ b) : i * (b * c) + j * c ≤ 11000 := by
  have h1 : b * c ≤ 100 * 10 := Nat.mul_le_mul hb hc
  have h2 : i * (b * c) ≤ 10 * (100 * 10) := Nat.mul_le_mul (by omega) h1
  have h3 : j * c ≤ 100 * 10 := Nat.mul_le_mul (by omega) hc
  omega
section
variable {P : Program} {w : World} {K : PySem.W.Frag} {mg : Str → Option Value} {base : Heap}
theorem sc_all_triples : FnScope ["bounds", "found", "first", "second", "third"] ["bounds"] (defScope s_all_triples) := ⟨rfl, rfl, rfl, by decide +kernel, rfl, by decide +kernel, by decide +kernel⟩
def tripD (i j : Int) : PyData → PyData
  | .int k => dTri (i, j, k)
  | _ => .none
theorem tripD_map (i j : Int) (c : Nat) : (rngs c).map (tripD i j) = (tri1 i j c).map dTri := by
  unfold rngs tri1
  rw [List.map_map, List.map_map]
  rfl
theorem c_all_triples (T : Txt K mg) : Callee P w K mg base 1 "_all_triples" ["bounds"] (spF K (fun p : Nat × Nat × Nat => [.d false (dTri ((p.1 : Int), (p.2.1 : Int), (p.2.2 : Int)))]) (fun p _ => p.1 ≤ 10 ∧ p.2.1 ≤ 100 ∧ p.2.2 ≤ 10) fun p => .l true ((tri3 p.2.1 p.2.2 p.1).map dTri)) := by
  obtain ⟨fd, F⟩ := T.f_all_triples
  refine callee_of F T.g_all_triples (fun _ _ _ _ _ _ us hl => match us, hl with | [_], _ => rfl) (F.ok sc_all_triples (fun _ => rfl) fun cdv A outer s H Q E p hr hp => ⟨_, (pss_cons (ps_set (i := 1) sc_all_triples.nd rfl (Or.inl rfl) (pe_lst pa_nil))
      (pss_cons (ps_for PassesOwn.never rfl (pi_range1 rfl T.z_range (pa_cons (pe_ix ix_seq (pv 0) pe_int (fun _ _ => rfl)) pa_nil)) (pg_name (i := 2) sc_all_triples.nd rfl (Or.inr rfl)) (pss_one (ps_for PassesOwn.never rfl (pi_range1 rfl T.z_range (pa_cons (pe_ix ix_seq (pv 0) pe_int (fun _ _ => rfl)) pa_nil)) (pg_name (i := 3) sc_all_triples.nd rfl (Or.inr rfl)) (pss_one (ps_expr (pe_bm PySem.F.plainAttrs_list PySem.F.slot_list_extend PySem.F.type_list_extend mt_extend (pv 1) (pa_cons (pe_lc (own := [("third", 4)]) (te := (tTup (tCons (tVar 2) (tCons (tVar 3) (tCons (tVar 4) tNil))))) (tt := tYes) rfl sc_all_triples.nd (pi_range1 rfl T.z_range (pa_cons (pe_ix ix_seq (pv 0) pe_int (fun _ _ => rfl)) pa_nil)) (blkOk_by (N := ["bounds", "found", "first", "second", "third"]) (sc := defScope s_all_triples) (by decide +kernel)) (fun _ _ _ _ _ => (pg_name (i := 4) sc_all_triples.nd rfl (Or.inl rfl))) (fun _ _ _ _ _ => pts_nil) (fun _ _ _ _ _ => (pe_tup (pa_cons (pv 2) (pa_cons (pv 3) (pa_cons (pv 4) pa_nil)))))) pa_nil)))))))
      (pss_one (ps_ret (pv 1))))), fun σ En0 nx => ?_⟩)
  obtain ⟨a, b, c⟩ := p
  obtain ⟨ha, hb, hc⟩ := hp
  simp only at ha hb hc
  have En0 : En K H σ [some (.d false (.tuple [.int (a : Int), .int (b : Int), .int (c : Int)])), none, none, none, none] := En0
  refine q_newI true En0 fun l σ1 H1 O1 En1 => ?_
  have En1 : En K H1 σ1 [some (.d false (.tuple [.int (a : Int), .int (b : Int), .int (c : Int)])), some (.v (.ref l)), none, none, none] := En1
  have W : Nat → List (Option Kd) → Prop := fun _ _ => True
  refine q_forRM (n := (a : Int)) (fun i => (tri3 b c i).map dTri) (fun _ ks => ∃ o2 o3, ks = [some (.d false (.tuple [.int (a : Int), .int (b : Int), .int (c : Int)])), some (.v (.ref l)), o2, o3, none] ∧ stbK o2 = true ∧ stbK o3 = true) O1 En1 (evia_cons (evi_at (n := 0) (evi_var En1 rfl) rfl) evia_nil) (by omega) ⟨_, _, rfl, rfl, rfl⟩ (fun i ks' σ' H' hi ⟨o2, o3, ek, s2, s3⟩ O En2 => ?_) fun ks' σ' H' ⟨o2, o3, ek, s2, s3⟩ O En2 => ?_
  · subst ek
    have hi : i < a := by omega
    have En2 : En K H' σ' [some (.d false (.tuple [.int (a : Int), .int (b : Int), .int (c : Int)])), some (.v (.ref l)), some (dI (i : Int)), o3, none] := En2
    refine s_forRM (n := (b : Int)) (fun j => (tri3 b c i ++ tri2 (i : Int) c j).map dTri) (fun _ ks => ∃ o3, ks = [some (.d false (.tuple [.int (a : Int), .int (b : Int), .int (c : Int)])), some (.v (.ref l)), some (dI (i : Int)), o3, none] ∧ stbK o3 = true) (O.eq (by rw [tri2, List.append_nil])) En2 (evia_cons (evi_at (n := 1) (evi_var En2 rfl) rfl) evia_nil) (by omega) ⟨_, rfl, s3⟩ (fun j ks' σ2 H2 hj ⟨o3, ek, s3⟩ O2 En3 => ?_) fun ks' σ2 H2 ⟨o3, ek, s3⟩ O2 En3 => ?_
    · subst ek
      have hj : j < b := by omega
      have En3 : En K H2 σ2 [some (.d false (.tuple [.int (a : Int), .int (b : Int), .int (c : Int)])), some (.v (.ref l)), some (dI (i : Int)), some (dI (j : Int)), none] := En3
      have bd := tri_bound ha hb hc (Nat.le_of_lt hi) (Nat.le_of_lt hj)
      refine s_extI (es := (tri1 (i : Int) (j : Int) c).map dTri) En3 rfl O2 (evi_var En3 rfl) (EvI.eq (evi_lcR1 (b := true) (n := (c : Int)) (tripD (i : Int) (j : Int)) En3 (evia_cons (evi_at (n := 2) (evi_var En3 rfl) rfl) evia_nil) (by omega) fun k σ4 H4 hk e4 En4 => evi_tri (evi_var En4 rfl) (evi_var En4 rfl) (evi_var En4 rfl)) (by rw [Int.toNat_natCast, tripD_map])) ?_ fun H4 O4 En4 => ⟨O4.eq ?_, _, ⟨some (dI (j : Int)), rfl, rfl⟩, En4⟩
      · rw [List.length_map, List.length_map, List.length_append, tri3_len, tri2_len, tri1, List.length_map, List.length_range]
        omega
      · show _ = (tri3 b c i ++ tri2 (i : Int) c (j + 1)).map dTri
        rw [← List.map_append, List.append_assoc]
        rfl
    · subst ek
      refine ⟨O2.eq ?_, _, ⟨some (dI (i : Int)), o3, rfl, rfl, s3⟩, En3⟩
      rw [Int.toNat_natCast]
      rfl
  · subst ek
    rw [Int.toNat_natCast] at O
    exact s_retI (evi_own (evi_var En2 rfl) O) fun v H4 e4 y => nx v H4 (O.ex.trans e4) y
end
/-! ### the changes -/
section
variable {b b' : Bool} {K : PySem.W.Frag} {σ : L2.St} {H H' H1 : Hp} {td ty : TE} {k : Kd} {a : Addr}
theorem evi_getR {ns : List Int} {kvs : List (List Key × V)} {v : V} (hd : EvI K td σ H (.v (.ref a))) (ha : Rd H a (.dT kvs)) (hy : EvI K ty σ H (.d b (dInts ns))) (hv : valV kvs (kI ns) = some v) (hk : ∀ H1, Ex H H1 → Is K H1 v k) : EvI K (tDGq K td ty) σ H k := fun H1 e Q q =>
  hd.evV H1 e _ fun H2 x => hy H2 (e.trans x) _ fun u H3 x3 yv => by
    obtain ⟨c, rfl, h5⟩ := rp_ints yv
    exact ⟨a, v, rfl, ⟨kvs, kI ns, c, ex_rd (e.trans (x.trans x3)) ha, rfl, h5.sq, hv.symm⟩, q v H3 (x.trans x3) (hk H3 (e.trans (x.trans x3)))⟩
/-- {k: v for ..} over a walk -/
theorem dcT_it {J : It} {n : Nat} {G : Hp → Prop} {Y : Nat → Hp → V → Hp → Prop} (w : Walk J n G Y) {g : TG} {tk tv : TE} {vs : List Nat} {D : Addr} {Qd : Hp → Prop} (Pv : Nat → Hp → Prop) (h0 : Pv 0 (upd H1 D (.dT []))) (hG : ∀ i H, i ≤ n → Pv i H → G H)
    (hs : ∀ i x H H', i < n → Pv i H → Y i H x H' → g x (wipe σ vs) H' fun σ2 H2 => wipe σ2 vs = wipe σ vs ∧ tk σ2 H2 fun y H4 => tv σ2 H4 fun z H5 => ∃ kvs k c, y = .ref c ∧ H5 c = some (.tup (k.map kV)) ∧ H5 D = some (.dT kvs) ∧ kvs.length < sizeLine ∧ Pv (i + 1) (upd H5 D (.dT (putK kvs k z)))) (hd : ∀ H, Pv n H → Qd H) :
    ∃ W : Nat → Nat → Hp → Prop, (∃ m, W 0 m (upd H1 D (.dT []))) ∧ ∀ i m H, W i m H →
      (J.stop i H ∧ Qd H) ∨ (J.go i H ∧ ∃ Nx : Hp → Prop, (∀ H', Nx H' → ∃ m', m' < m ∧ W (i + 1) m' H') ∧ ∀ x H', J.yld i H x H' → g x (wipe σ vs) H' fun σ2 H2 => wipe σ2 vs = wipe σ vs ∧
        tk σ2 H2 fun y H4 => tv σ2 H4 fun z H5 => ∃ kvs k c, y = .ref c ∧ H5 c = some (.tup (k.map kV)) ∧ H5 D = some (.dT kvs) ∧ kvs.length < sizeLine ∧ Nx (upd H5 D (.dT (putK kvs k z)))) := by
  refine ⟨fun i m H => m = n - i ∧ i ≤ n ∧ Pv i H, ⟨n, by simp, Nat.zero_le _, h0⟩, ?_⟩
  rintro i m H ⟨rfl, hi, p⟩
  have q := hG i H hi p
  by_cases hlt : i < n
  · exact .inr ⟨w.goes i H hlt q, Pv (i + 1), fun H' p' => ⟨n - (i + 1), by omega, rfl, hlt, p'⟩, fun x H' y => hs i x H H' hlt p (w.yields i H x H' hlt q y)⟩
  · have e : i = n := by omega
    subst e
    exact .inl ⟨w.stops H q, hd H p⟩
end
/-- a dict of changes: within C, at least Dn -/
structure ChD (K : PySem.W.Frag) (H : Hp) (kvs : List (List Key × V)) (C Dn : Tri → Tri → Prop) : Prop where
  sound : ∀ kk v, valV kvs kk = some v → ∃ k c, kk = kT k ∧ C k c ∧ Rp true K H v (dTri c)
  compl : ∀ k c, Dn k c → ∃ v, valV kvs (kT k) = some v ∧ Rp true K H v (dTri c)
  nd : (kvs.map (·.1)).Nodup
theorem kT_inj {k k' : Tri} (h : kT k = kT k') : k = k' := by
  obtain ⟨a, b, c⟩ := k
  obtain ⟨a', b', c'⟩ := k'
  simp only [kT, List.cons.injEq, Sum.inl.injEq, and_true] at h
  rw [h.1, h.2.1, h.2.2]
theorem putK_nodup {κ : Type} [DecidableEq κ] {kvs : List (κ × V)} {k : κ} {v : V} (h : (kvs.map (·.1)).Nodup) : ((putK kvs k v).map (·.1)).Nodup := by
  cases q : valV kvs k with
  | none =>
    rw [putK_new v q, List.map_append, List.nodup_append]
    refine ⟨h, by simp, fun a ha b hb e => ?_⟩
    have hb : b = k := List.mem_singleton.mp hb
    subst hb e
    obtain ⟨p, hp, ep⟩ := List.mem_map.mp ha
    have : (kvs.any fun kv => decide (kv.1 = a)) = true := List.any_eq_true.mpr ⟨p, hp, decide_eq_true ep⟩
    rw [valV_any, q] at this
    cases this
  | some u =>
    have e : (putK kvs k v).map (·.1) = kvs.map (·.1) := by
      unfold putK
      rw [valV_any, q, if_pos (show (some u).isSome = true from rfl), List.map_map]
      refine List.map_congr_left fun p _ => ?_
      show (if p.1 = k then (p.1, v) else p).1 = p.1
      split <;> rfl
    rw [e]
    exact h
section
variable {K : PySem.W.Frag} {H H' : Hp} {kvs : List (List Key × V)} {C Dn Dn' : Tri → Tri → Prop}
theorem ChD.mono (B : ChD K H kvs C Dn) (e : Tx K H H') : ChD K H' kvs C Dn :=
  ⟨fun kk v h => by
    obtain ⟨k, c, h1, h2, h3⟩ := B.sound kk v h
    exact ⟨k, c, h1, h2, h3.tx e⟩, fun k c h => by
    obtain ⟨v, h1, h2⟩ := B.compl k c h
    exact ⟨v, h1, h2.tx e⟩, B.nd⟩
theorem ChD.less (B : ChD K H kvs C Dn) (h : ∀ k c, Dn' k c → Dn k c) : ChD K H kvs C Dn' := ⟨B.sound, fun k c q => B.compl k c (h k c q), B.nd⟩
def FunR (C : Tri → Tri → Prop) : Prop := ∀ k c c', C k c → C k c' → c = c'
theorem ChD.put (B : ChD K H kvs C Dn) (hf : FunR C) (hD : ∀ k c, Dn k c → C k c) {k0 c0 : Tri} {v : V} (hc : C k0 c0) (hv : Rp true K H v (dTri c0)) : ChD K H (putK kvs (kT k0) v) C fun k c => Dn k c ∨ (k = k0 ∧ c = c0) := by
  refine ⟨fun kk u h => ?_, fun k c h => ?_, putK_nodup B.nd⟩
  · rw [valV_put] at h
    by_cases e : kk = kT k0
    · rw [if_pos e] at h
      cases h
      exact ⟨k0, c0, e, hc, hv⟩
    · rw [if_neg e] at h
      exact B.sound kk u h
  · rw [valV_put]
    by_cases e : kT k = kT k0
    · rw [if_pos e]
      have e2 := kT_inj e
      subst e2
      refine ⟨v, rfl, ?_⟩
      rcases h with h | ⟨_, h⟩
      · rw [hf k c c0 (hD _ _ h) hc]
        exact hv
      · rw [h]
        exact hv
    · rw [if_neg e]
      rcases h with h | ⟨h, _⟩
      · exact B.compl k c h
      · rw [h] at e
        exact absurd rfl e
end
end Bk

set_option Elab.async false
set_option linter.all false
set_option maxRecDepth 100000
set_option maxHeartbeats 4000000
set_option autoImplicit false
namespace Bk
open PySem PySem.Spec PyProof.Rows L2 Evl
/-- a def that writes: the word of the heap ahead and behind -/
def spM (K : PySem.W.Frag) {α : Type} (ks : α → List Kd) (pre : α → Hp → Prop) (post : α → Hp → Hp → Prop) : Sp := fun vs H Q _ => ∃ a : α, IsA K H vs (ks a) ∧ pre a H ∧ ∀ H', post a H H' → Q .non H'
theorem FnP.okM {P : Program} {w : World} {K : PySem.W.Frag} {mg : Str → Option Value} {base : Heap} {x qual : Str} {st : Stmt} {f : Addr} {fd : FuncData} {N ps : List Str} {k : Nat} {α : Type} {ks : α → List Kd} {pre : α → Hp → Prop} {post : α → Hp → Hp → Prop}
    (F : FnP K x qual st f fd) (S : FnScope N ps (defScope st)) (len : ∀ a, (ks a).length = ps.length)
    (hbody : ∀ (cdv : Value) (A : Around) (outer : List Env) (s : Shared) (H : Hp) (Q : VK) (E : XK) (a : α), Room k (A.deeper (envOfC qual (defScope st) s.heap.objs.size f cdv)) → pre a H →
      ∃ t, PSs (cxOf CX0 P w K mg base N qual (defScope st) f cdv A outer s H E).nox (defBody st) t ∧
        ∀ σ : L2.St, En K H σ ((ks a).map some ++ List.replicate (N.length - (ks a).length) none) → (∀ H', post a H H' → Q .non H') → t { nx := fun _ H' => Q .non H', rt := Q } σ H) :
    FnOk P w K mg base CX0 (k + 1) f fd ps (spM K ks pre post) := by
  refine FunD.ok F S (fun vs H Q E h => ?_) (fun cdv A outer s H vs Q E hr h => ?_)
  · obtain ⟨a, h1, _⟩ := h
    rw [h1.len, len]
  · obtain ⟨a, h1, h2, h3⟩ := h
    obtain ⟨t, q1, q2⟩ := hbody cdv A outer s H Q E a hr h2
    exact ⟨t, q1.nox, q2 _ (En.start h1) h3⟩
section
variable {b : Bool} {K : PySem.W.Frag} {σ : L2.St} {H H' : Hp} {ta td ty tv : TE} {k : Kd} {a p dx C : Addr} {t : TA} {D : Ends} {tz : TS}
theorem s_methM {α : Type} {kf : α → List Kd} {pre : α → Hp → Prop} {post : α → Hp → Hp → Prop} {E : XK} {m : Str} {fs : List (Str × V)} {kr : List Kd} (a : α) (ho : EvI K ta σ H (.v (.ref p))) (hp : H p = some (.ins C dx fs)) (hm : fs.lookup m = none)
    (h : EvIA K t σ H kr) (ek : kf a = .v (.ref p) :: kr) (hpre : ∀ H1, Ex H H1 → pre a H1) (nx : ∀ H1 H', Ex H H1 → post a H1 H' → D.nx σ H') : tDrop (tMeth C m (spM K kf pre post) [] E ta t) D σ H :=
  ho.evV H (Ex.refl H) _ fun H2 x => ⟨p, dx, fs, rfl, x _ _ hp, hm, h H2 x _ fun vs H3 x' y => ⟨a, by rw [List.append_nil, ek]; exact .cons rfl y, hpre H3 (x.trans x'), fun H4 x2 => nx H3 H4 (x.trans x') x2⟩⟩
theorem q_putT {ns : List Int} {kvs : List (List Key × V)} (hv : EvI K tv σ H k) (hd : EvI K td σ H (.v (.ref a))) (ha : H a = some (.dT kvs)) (hy : EvI K ty σ H (.d true (dInts ns))) (hz : kvs.length < 100000)
    (nx : ∀ v H', Ex H H' → Is K H' v k → tz D σ (upd H' a (.dT (putK kvs (kI ns) v)))) : tSeq (sDPut td ty tv) tz D σ H := s_putT (D := { D with nx := tz D }) hv hd ha hy hz nx
theorem tx_dT {kvs : List (List Key × V)} {o : HO} (h : H a = some (.dT kvs)) : Tx K H (upd H a o) := Tx.upd h ⟨fun _ z => (by cases z), fun _ _ z => (by cases z)⟩
end
def RowChA (m q d t a : Int) (k v : Tri) : Prop := (d = 0 ∧ k = (0, hl m q a, 0) ∧ v = (0, hl m t a, 0)) ∨
       (d = 1 ∧ ((k = (0, hl m q a, 0) ∧ v = (0, a, t + 1)) ∨ (k = (t + 1, a, 0) ∧ v = (0, hl m t a, 0)))) ∨
       (d = -1 ∧ ((k = (0, hl m q a, 0) ∧ v = (t + 1, a, 0)) ∨ (k = (0, a, t + 1) ∧ v = (0, hl m t a, 0))))
structure AM where
  self : Addr
  ch : Addr
  mach : Addr
  m : Int
  s : Int
  q : Int
  d : Int
  t : Int
  C : Tri → Tri → Prop
  Dn : Tri → Tri → Prop
  B : Nat
def AM.Dn' (a : AM) (k c : Tri) : Prop := a.Dn k c ∨ RowCh a.m k c (.mv a.q a.d a.t)
def UpperIs (K : PySem.W.Frag) (H : Hp) (self mach : Addr) : Prop := ∃ dx fs, H self = some (.ins (He.ga K "PartStair") dx fs) ∧ fs.lookup ("upper" : Str) = some (.ref mach) ∧ fs.lookup ("_add_move" : Str) = none
section
variable {P : Program} {w : World} {K : PySem.W.Frag} {mg : Str → Option Value} {base : Heap}
theorem sc_PartStair_add_move : FnScope ["self", "changes", "row", "_", "state", "moves", "following", "marks", "mark", "here", "there"] ["self", "changes", "row"] (defScope s_PartStair_add_move) := ⟨rfl, rfl, rfl, by decide +kernel, rfl, by decide +kernel, by decide +kernel⟩
theorem c_PartStair_add_move (T : Txt K mg) : CalleeM P w K mg base 2 (He.ga K "PartStair") "_add_move" ["self", "changes", "row"] (spM K (fun p : AM => [.v (.ref p.self), .v (.ref p.ch), .d true (dRow (.mv p.q p.d p.t))])
    (fun p H => UpperIs K H p.self p.mach ∧ SevF K H p.mach p.m p.s ∧ (2 ≤ p.m ∧ p.m ≤ 4) ∧ (-1 ≤ p.d ∧ p.d ≤ 1) ∧ (∃ kvs, H p.ch = some (.dT kvs) ∧ ChD K H kvs p.C p.Dn ∧ kvs.length ≤ p.B) ∧ FunR p.C ∧ (∀ k c, p.Dn' k c → p.C k c) ∧ p.B ≤ 50000)
    fun p H H' => Ex (gh H [p.ch]) (gh H' [p.ch]) ∧ ∃ kvs, H' p.ch = some (.dT kvs) ∧ ChD K H' kvs p.C p.Dn' ∧ kvs.length ≤ p.B + 8) := by
  obtain ⟨fd, F⟩ := T.f_PartStair_add_move
  refine calleeM_of F T.cl_PartStair T.m_PartStair_add_move (fun _ _ _ _ _ _ us hl => match us, hl with | [_, _, _], _ => rfl) (F.okM sc_PartStair_add_move (fun _ => rfl) fun cdv A outer st H Q E p hr hp => ?_)
  have hu := hu_of hr
  refine ⟨_, (pss_cons (ps_asg (pv 2) (pg_tup (by rfl) (pgs_cons (pg_name (i := 3) sc_PartStair_add_move.nd rfl (Or.inl rfl)) (pgs_cons (pg_name (i := 4) sc_PartStair_add_move.nd rfl (Or.inl rfl)) (pgs_cons (pg_name (i := 5) sc_PartStair_add_move.nd rfl (Or.inl rfl)) (pgs_cons (pg_name (i := 6) sc_PartStair_add_move.nd rfl (Or.inl rfl)) pgs_nil))))))
      (pss_cons (ps_set (i := 7) sc_PartStair_add_move.nd rfl (Or.inl rfl) (pe_fld (pe_fld (pv 0) rfl) rfl))
      (pss_one (ps_for PassesOwn.never rfl (pi_range1 rfl T.z_range (pa_cons (pv 7) pa_nil)) (pg_name (i := 8) sc_PartStair_add_move.nd rfl (Or.inl rfl)) (pss_cons (ps_set (i := 9) sc_PartStair_add_move.nd rfl (Or.inl rfl) (pe_tup (pa_cons pe_int (pa_cons (pe_C (c_head_letter T) hr (by decide) (by rfl) (pa_cons (pv 7) (pa_cons (pv 4) (pa_cons (pv 8) pa_nil)))) (pa_cons pe_int pa_nil)))))
      (pss_cons (ps_set (i := 10) sc_PartStair_add_move.nd rfl (Or.inl rfl) (pe_tup (pa_cons pe_int (pa_cons (pe_C (c_head_letter T) hr (by decide) (by rfl) (pa_cons (pv 7) (pa_cons (pv 6) (pa_cons (pv 8) pa_nil)))) (pa_cons pe_int pa_nil)))))
      (pss_one (ps_if (pt_cmpR (op_eqD hr.units) (pe_ix ix_seq (pv 5) pe_int (fun _ _ => rfl)) pe_int (nomark _)) (pss_one (ps_dput hu (pv 1) (pv 9) (pv 10) rfl)) (pss_one (ps_if (pt_cmpR (op_eqD hr.units) (pe_ix ix_seq (pv 5) pe_int (fun _ _ => rfl)) pe_int (nomark _)) (pss_cons (ps_dput hu (pv 1) (pv 9) (pe_tup (pa_cons pe_int (pa_cons (pv 8) (pa_cons (pe_op op_add (pv 6) pe_int) pa_nil)))) rfl)
      (pss_one (ps_dput hu (pv 1) (pe_tup (pa_cons (pe_op op_add (pv 6) pe_int) (pa_cons (pv 8) (pa_cons pe_int pa_nil)))) (pv 10) rfl))) (pss_cons (ps_dput hu (pv 1) (pv 9) (pe_tup (pa_cons (pe_op op_add (pv 6) pe_int) (pa_cons (pv 8) (pa_cons pe_int pa_nil)))) rfl)
      (pss_one (ps_dput hu (pv 1) (pe_tup (pa_cons pe_int (pa_cons (pv 8) (pa_cons (pe_op op_add (pv 6) pe_int) pa_nil)))) (pv 10) rfl))))))))))))), fun σ En0 nx => ?_⟩
  obtain ⟨self, ch, mach, m, s, q, d, t, C, Dn, B⟩ := p
  obtain ⟨⟨dx, fs, hs1, hs2, hs3⟩, ⟨dx2, fs2, hm1, hm2, hm3, hm4⟩, ⟨m2, m4⟩, ⟨d1, d2⟩, ⟨kvs, hch, hB, hlen⟩, hf, hC, hBB⟩ := hp
  simp only at hs1 hs2 hm1 hm2 hm3 hm4 m2 m4 d1 d2 hch hB hlen hf hC hBB
  unfold AM.Dn' at nx hC
  simp only at nx hC
  have En0 : En K H σ [some (.v (.ref self)), some (.v (.ref ch)), some (.d true (.tuple [.str "move", .int q, dInts [d], .int t])), none, none, none, none, none, none, none, none] := En0
  refine q_tupI (is := [3, 4, 5, 6]) En0 (evi_var En0 rfl) rfl rfl fun σ1 H1 e1 En1 => ?_
  have En1 : En K H1 σ1 [some (.v (.ref self)), some (.v (.ref ch)), some (.d true (.tuple [.str "move", .int q, dInts [d], .int t])), some (.d true (.str "move")), some (dI q), some (.d true (dInts [d])), some (dI t), none, none, none, none] := En1
  refine q_setI (k := dI m) En1 (evi_fld (evi_fld (k := .v (.ref mach)) (evi_var En1 rfl) (e1 _ _ hs1) T.cl_PartStair T.n_PartStair_upper hs2 fun _ _ => rfl) (e1 _ _ hm1) T.cl_Several T.n_Several_marks hm3 fun _ _ => .int m) fun σ2 H2 e2 En2 => ?_
  have En2 : En K H2 σ2 [some (.v (.ref self)), some (.v (.ref ch)), some (.d true (.tuple [.str "move", .int q, dInts [d], .int t])), some (.d true (.str "move")), some (dI q), some (.d true (dInts [d])), some (dI t), some (dI m), none, none, none] := En2
  have ex2 := e1.trans e2
  refine s_forR1 (n := m) (fun H3 e3 Q3 q3 => (evia_cons (evi_var En2 rfl : EvI K (tVar 7) σ2 H2 (dI m)) evia_nil) H3 e3 _ fun vs H4 x y => by
      cases y with
      | cons y1 y =>
        cases y
        rw [Rp.int_eq y1]
        exact q3 H4 x) (by omega)
    (fun i σ' H' => Ex (gh H [ch]) (gh H' [ch]) ∧ (∃ o8 o9 o10, stbK o8 = true ∧ stbK o9 = true ∧ stbK o10 = true ∧ En K H' σ' [some (.v (.ref self)), some (.v (.ref ch)), some (.d true (.tuple [.str "move", .int q, dInts [d], .int t])), some (.d true (.str "move")), some (dI q), some (.d true (dInts [d])), some (dI t), some (dI m), o8, o9, o10]) ∧ ∃ kvs, H' ch = some (.dT kvs) ∧ ChD K H' kvs C (fun k c => Dn k c ∨ ∃ a : Int, (0 ≤ a ∧ a < (i : Int)) ∧ RowChA m q d t a k c) ∧ kvs.length ≤ B + 2 * i)
    (fun H3 e3 => ⟨gh_mono (ex2.trans e3), ⟨_, _, _, rfl, rfl, rfl, En2.ex e3⟩, kvs, (ex2.trans e3) _ _ hch, (hB.mono (Tx.of (ex2.trans e3))).less fun k c h => h.elim id fun ⟨a, ha, _⟩ => absurd ha.2 (by omega), by omega⟩)
    (fun i σ' H' hi ⟨ex, ⟨o8, o9, o10, s8, s9, s10, En3⟩, kvs, hch, hB, hlen⟩ => ?_) fun σ' H' ⟨ex, _, kvs, hch, hB, hlen⟩ => ?_
  · have En3 : En K H' (σ'.set 8 (some (.int (i : Int)))) [some (.v (.ref self)), some (.v (.ref ch)), some (.d true (.tuple [.str "move", .int q, dInts [d], .int t])), some (.d true (.str "move")), some (dI q), some (.d true (dInts [d])), some (dI t), some (dI m), some (dI (i : Int)), o9, o10] := En3.set 8 (k := dI (i : Int)) (.int _)
    refine q_setI (k := .d true (dTri (0, hl m q (i : Int), 0))) En3 (evi_tri (evi_int (b := true)) (evi_call (m, q, (i : Int)) (evia_cons (evi_var En3 rfl) (evia_cons (evi_var En3 rfl) (evia_cons (evi_var En3 rfl) evia_nil))) fun _ _ => by constructor <;> (simp only; omega)) (evi_int (b := true))) fun σ4 H4 e4 En4 => ?_
    refine q_setI (k := .d true (dTri (0, hl m t (i : Int), 0))) En4 (evi_tri (evi_int (b := true)) (evi_call (m, t, (i : Int)) (evia_cons (evi_var En4 rfl) (evia_cons (evi_var En4 rfl) (evia_cons (evi_var En4 rfl) evia_nil))) fun _ _ => by constructor <;> (simp only; omega)) (evi_int (b := true))) fun σ5 H5 e5 En5 => ?_
    have En5 : En K H5 σ5 [some (.v (.ref self)), some (.v (.ref ch)), some (.d true (.tuple [.str "move", .int q, dInts [d], .int t])), some (.d true (.str "move")), some (dI q), some (.d true (dInts [d])), some (dI t), some (dI m), some (dI (i : Int)), some (.d true (dTri (0, hl m q (i : Int), 0))), some (.d true (dTri (0, hl m t (i : Int), 0)))] := En5
    have ex5 := e4.trans e5
    have hin : ∀ k c, RowChA m q d t (i : Int) k c → C k c := fun k c h => hC k c (.inr ⟨(i : Int), by omega, h⟩)
    have hDn : ∀ k c, (Dn k c ∨ ∃ a : Int, (0 ≤ a ∧ a < (i : Int)) ∧ RowChA m q d t a k c) → C k c := fun k c h => hC k c (h.imp id fun ⟨a, ha, hh⟩ => ⟨a, by omega, hh⟩)
    have split : ∀ k c, (Dn k c ∨ ∃ a : Int, (0 ≤ a ∧ a < ((i + 1 : Nat) : Int)) ∧ RowChA m q d t a k c) → (Dn k c ∨ ∃ a : Int, (0 ≤ a ∧ a < (i : Int)) ∧ RowChA m q d t a k c) ∨ RowChA m q d t (i : Int) k c := fun k c h => by
      rcases h with h | ⟨a, ha, hh⟩
      · exact .inl (.inl h)
      · by_cases e : a = (i : Int)
        · rw [e] at hh
          exact .inr hh
        · exact .inl (.inr ⟨a, by omega, hh⟩)
    have d0 : EvI K (tOp (rIx K) (tVar 5) (tC (.int 0))) σ5 H5 (.d true (.int d)) := evi_at (n := 0) (evi_var En5 rfl) rfl
    refine s_ifI (c := decide (d = 0)) En5 (et_is (evt_of (evi_eq d0 (evi_int (b := true)) (ok_int _).sh (ok_int _).sh)) (eqv_int _ _)) (fun h H6 e6 En6 => ?_) fun h H6 e6 En6 => ?_
    · have h := of_decide_eq_true h
      have ex6 := ex5.trans e6
      refine s_putT (ns := [0, hl m q (i : Int), 0]) (kvs := kvs) (k := .d true (dTri (0, hl m t (i : Int), 0))) (evi_var En6 rfl) (evi_var En6 rfl) (ex6 _ _ hch) (evi_var En6 rfl) (by omega) fun v H7 e7 y => ?_
      have hch7 := (ex6.trans e7) _ _ hch
      have B7 := ((hB.mono (Tx.of (ex6.trans e7))).put hf hDn (hin _ _ (.inl ⟨h, rfl, rfl⟩)) y).mono (tx_dT (o := .dT (putK kvs (kI [0, hl m q (i : Int), 0]) v)) hch7)
      refine ⟨?_, ⟨_, _, _, rfl, rfl, rfl, (En6.ex e7).mut (ps := [ch]) (odd1 hch7 rfl) List.mem_cons_self⟩, _, upd_same, B7.less fun k c hk => ?_, ?_⟩
      · rw [gh_upd List.mem_cons_self]
        exact ex.trans (gh_mono (ex6.trans e7))
      · rcases split k c hk with hk | ⟨_, h1, h2⟩ | ⟨hk, _⟩ | ⟨hk, _⟩
        · exact .inl hk
        · exact .inr ⟨h1, h2⟩
        · omega
        · omega
      · have := length_putK kvs (kI [0, hl m q (i : Int), 0]) v
        omega
    · have h := of_decide_eq_false h
      refine s_ifI (c := decide (d = 1)) En6 (et_is (evt_of (evi_eq (d0.mono e6) (evi_int (b := true)) (ok_int _).sh (ok_int _).sh)) (eqv_int _ _)) (fun h1 H7 e7 En7 => ?_) fun h1 H7 e7 En7 => ?_
      · have h1 := of_decide_eq_true h1
        have ex7 := ex5.trans (e6.trans e7)
        refine q_putT (ns := [0, hl m q (i : Int), 0]) (kvs := kvs) (k := .d true (dTri (0, (i : Int), t + 1))) (evi_tri (evi_int (b := true)) (evi_var En7 rfl) (evi_op0 (evi_var En7 rfl) (evi_int (b := true)))) (evi_var En7 rfl) (ex7 _ _ hch) (evi_var En7 rfl) (by omega) fun v H8 e8 y => ?_
        have hch8 := (ex7.trans e8) _ _ hch
        have B8 : ChD K (upd H8 ch (.dT (putK kvs (kI [0, hl m q (i : Int), 0]) v))) (putK kvs (kI [0, hl m q (i : Int), 0]) v) C _ := ((hB.mono (Tx.of (ex7.trans e8))).put hf hDn (hin _ _ (.inr (.inl ⟨h1, .inl ⟨rfl, rfl⟩⟩))) y).mono (tx_dT (o := .dT (putK kvs (kI [0, hl m q (i : Int), 0]) v)) hch8)
        have En8 := (En7.ex e8).mut (o := .dT (putK kvs (kI [0, hl m q (i : Int), 0]) v)) (ps := [ch]) (odd1 hch8 rfl) List.mem_cons_self
        have l8 := length_putK kvs (kI [0, hl m q (i : Int), 0]) v
        have g8 : gh (upd H8 ch (.dT (putK kvs (kI [0, hl m q (i : Int), 0]) v))) [ch] = gh H8 [ch] := gh_upd List.mem_cons_self
        have u8 : upd H8 ch (.dT (putK kvs (kI [0, hl m q (i : Int), 0]) v)) ch = some (.dT (putK kvs (kI [0, hl m q (i : Int), 0]) v)) := upd_same
        generalize upd H8 ch (.dT (putK kvs (kI [0, hl m q (i : Int), 0]) v)) = H9 at B8 En8 g8 u8
        generalize putK kvs (kI [0, hl m q (i : Int), 0]) v = kvs8 at B8 l8 u8
        refine s_putT (ns := [t + 1, (i : Int), 0]) (kvs := kvs8) (k := .d true (dTri (0, hl m t (i : Int), 0))) (evi_var En8 rfl) (evi_var En8 rfl) u8 (evi_tri (evi_op0 (evi_var En8 rfl) (evi_int (b := true))) (evi_var En8 rfl) (evi_int (b := true))) (by omega) fun v2 H10 e10 y2 => ?_
        have hch10 := e10 _ _ u8
        have B10 := ((B8.mono (Tx.of e10)).put hf (fun k c hk => hk.elim (hDn k c) fun ⟨e1, e2⟩ => by rw [e1, e2]; exact hin _ _ (.inr (.inl ⟨h1, .inl ⟨rfl, rfl⟩⟩))) (hin _ _ (.inr (.inl ⟨h1, .inr ⟨rfl, rfl⟩⟩))) y2).mono (tx_dT (o := .dT (putK kvs8 (kI [t + 1, (i : Int), 0]) v2)) hch10)
        refine ⟨?_, ⟨_, _, _, rfl, rfl, rfl, (En8.ex e10).mut (ps := [ch]) (odd1 hch10 rfl) List.mem_cons_self⟩, _, upd_same, B10.less fun k c hk => ?_, ?_⟩
        · rw [gh_upd List.mem_cons_self]
          refine (ex.trans (gh_mono (ex7.trans e8))).trans ?_
          rw [← g8]
          exact gh_mono e10
        · rcases split k c hk with hk | ⟨hk, _⟩ | ⟨_, hk | hk⟩ | ⟨hk, _⟩
          · exact .inl (.inl hk)
          · omega
          · exact .inl (.inr hk)
          · exact .inr hk
          · omega
        · have := length_putK kvs8 (kI [t + 1, (i : Int), 0]) v2
          omega
      · have h1 := of_decide_eq_false h1
        have hd : d = -1 := by omega
        have ex7 := ex5.trans (e6.trans e7)
        refine q_putT (ns := [0, hl m q (i : Int), 0]) (kvs := kvs) (k := .d true (dTri (t + 1, (i : Int), 0))) (evi_tri (evi_op0 (evi_var En7 rfl) (evi_int (b := true))) (evi_var En7 rfl) (evi_int (b := true))) (evi_var En7 rfl) (ex7 _ _ hch) (evi_var En7 rfl) (by omega) fun v H8 e8 y => ?_
        have hch8 := (ex7.trans e8) _ _ hch
        have B8 : ChD K (upd H8 ch (.dT (putK kvs (kI [0, hl m q (i : Int), 0]) v))) (putK kvs (kI [0, hl m q (i : Int), 0]) v) C _ := ((hB.mono (Tx.of (ex7.trans e8))).put hf hDn (hin _ _ (.inr (.inr ⟨hd, .inl ⟨rfl, rfl⟩⟩))) y).mono (tx_dT (o := .dT (putK kvs (kI [0, hl m q (i : Int), 0]) v)) hch8)
        have En8 := (En7.ex e8).mut (o := .dT (putK kvs (kI [0, hl m q (i : Int), 0]) v)) (ps := [ch]) (odd1 hch8 rfl) List.mem_cons_self
        have l8 := length_putK kvs (kI [0, hl m q (i : Int), 0]) v
        have g8 : gh (upd H8 ch (.dT (putK kvs (kI [0, hl m q (i : Int), 0]) v))) [ch] = gh H8 [ch] := gh_upd List.mem_cons_self
        have u8 : upd H8 ch (.dT (putK kvs (kI [0, hl m q (i : Int), 0]) v)) ch = some (.dT (putK kvs (kI [0, hl m q (i : Int), 0]) v)) := upd_same
        generalize upd H8 ch (.dT (putK kvs (kI [0, hl m q (i : Int), 0]) v)) = H9 at B8 En8 g8 u8
        generalize putK kvs (kI [0, hl m q (i : Int), 0]) v = kvs8 at B8 l8 u8
        refine s_putT (ns := [0, (i : Int), t + 1]) (kvs := kvs8) (k := .d true (dTri (0, hl m t (i : Int), 0))) (evi_var En8 rfl) (evi_var En8 rfl) u8 (evi_tri (evi_int (b := true)) (evi_var En8 rfl) (evi_op0 (evi_var En8 rfl) (evi_int (b := true)))) (by omega) fun v2 H10 e10 y2 => ?_
        have hch10 := e10 _ _ u8
        have B10 := ((B8.mono (Tx.of e10)).put hf (fun k c hk => hk.elim (hDn k c) fun ⟨e1, e2⟩ => by rw [e1, e2]; exact hin _ _ (.inr (.inr ⟨hd, .inl ⟨rfl, rfl⟩⟩))) (hin _ _ (.inr (.inr ⟨hd, .inr ⟨rfl, rfl⟩⟩))) y2).mono (tx_dT (o := .dT (putK kvs8 (kI [0, (i : Int), t + 1]) v2)) hch10)
        refine ⟨?_, ⟨_, _, _, rfl, rfl, rfl, (En8.ex e10).mut (ps := [ch]) (odd1 hch10 rfl) List.mem_cons_self⟩, _, upd_same, B10.less fun k c hk => ?_, ?_⟩
        · rw [gh_upd List.mem_cons_self]
          refine (ex.trans (gh_mono (ex7.trans e8))).trans ?_
          rw [← g8]
          exact gh_mono e10
        · rcases split k c hk with hk | ⟨hk, _⟩ | ⟨hk, _⟩ | ⟨_, hk | hk⟩
          · exact .inl (.inl hk)
          · omega
          · omega
          · exact .inl (.inr hk)
          · exact .inr hk
        · have := length_putK kvs8 (kI [0, (i : Int), t + 1]) v2
          omega
  · refine nx H' ⟨ex, kvs, hch, hB.less fun k c hk => ?_, by omega⟩
    refine hk.imp id fun ⟨a, ha, hh⟩ => ⟨a, by omega, hh⟩
end
end Bk

set_option Elab.async false
set_option linter.all false
set_option maxRecDepth 100000
set_option maxHeartbeats 4000000
set_option autoImplicit false
namespace Bk
open PySem PySem.Spec PyProof.Rows L2 Evl
/-! ### the sources, i changes seen -/
structure SrcS (K : PySem.W.Frag) (H : Hp) (kvs : List (List Key × V)) (C : Tri → Tri → Prop) (sk : List (List Key × V)) (i : Nat) : Prop where
  s1 : ∀ kk u, valV sk kk = some u → ∃ (i' : Nat) (k c : Tri) (v0 : V), i' < i ∧ kvs[i']? = some (kT k, v0) ∧ C k c ∧ kk = kT c
  s2 : ∀ (i' : Nat) (k c : Tri) (v0 : V), i' < i → kvs[i']? = some (kT k, v0) → C k c → ∃ u, valV sk (kT c) = some u ∧ Rp true K H u (dTri k)
def RulS (K : PySem.W.Frag) (H : Hp) (kvs : List (List Key × V)) (C : Tri → Tri → Prop) (rk : List (List Key × V)) (i : Nat) : Prop := ∀ (i' : Nat) (k c : Tri) (v0 : V), i' < i → kvs[i']? = some (kT k, v0) → C k c → ∃ u, valV rk (kT k) = some u ∧ Rp true K H u (dTri c)
section
variable {K : PySem.W.Frag} {H H' : Hp} {kvs sk rk : List (List Key × V)} {C : Tri → Tri → Prop} {i : Nat} {k0 c0 : Tri} {v0 u0 : V}
theorem SrcS.mono (S : SrcS K H kvs C sk i) (e : Tx K H H') : SrcS K H' kvs C sk i := ⟨S.s1, fun i' k c v0 h1 h2 h3 => by
  obtain ⟨u, h4, h5⟩ := S.s2 i' k c v0 h1 h2 h3
  exact ⟨u, h4, h5.tx e⟩⟩
theorem SrcS.put (S : SrcS K H kvs C sk i) (hf : FunR C) (hi : InjR C) (h : kvs[i]? = some (kT k0, v0)) (hc : C k0 c0) (hu : Rp true K H u0 (dTri k0)) : SrcS K H kvs C (putK sk (kT c0) u0) (i + 1) := by
  refine ⟨fun kk u hk => ?_, fun i' k c v1 h1 h2 h3 => ?_⟩
  · rw [valV_put] at hk
    by_cases e : kk = kT c0
    · exact ⟨i, k0, c0, v0, Nat.lt_succ_self i, h, hc, e⟩
    · rw [if_neg e] at hk
      obtain ⟨i', k, c, v1, q1, q2⟩ := S.s1 kk u hk
      exact ⟨i', k, c, v1, Nat.lt_succ_of_lt q1, q2⟩
  · rw [valV_put]
    by_cases e : kT c = kT c0
    · rw [if_pos e]
      have e2 := kT_inj e
      subst e2
      have e3 := hi _ _ _ h3 hc
      subst e3
      exact ⟨u0, rfl, hu⟩
    · rw [if_neg e]
      by_cases ei : i' = i
      · subst ei
        rw [h] at h2
        simp only [Option.some.injEq, Prod.mk.injEq] at h2
        have e2 := kT_inj h2.1
        subst e2
        exact absurd (congrArg kT (hf _ _ _ h3 hc)) e
      · exact S.s2 i' k c v1 (by omega) h2 h3
theorem nd_ix {kk : List Key} {v v' : V} {i' : Nat} (hn : (kvs.map (·.1)).Nodup) (h : kvs[i]? = some (kk, v)) (h' : kvs[i']? = some (kk, v')) (hl : i' < i) : False := by
  obtain ⟨l1, e1⟩ := List.getElem?_eq_some_iff.mp h
  obtain ⟨l2, e2⟩ := List.getElem?_eq_some_iff.mp h'
  have q := List.pairwise_iff_getElem.mp hn i' i (by rw [List.length_map]; exact l2) (by rw [List.length_map]; exact l1) hl
  rw [List.getElem_map, List.getElem_map, e1, e2] at q
  exact q rfl
theorem SrcS.fresh (S : SrcS K H kvs C sk i) (hi : InjR C) (hn : (kvs.map (·.1)).Nodup) (h : kvs[i]? = some (kT k0, v0)) (hc : C k0 c0) : valV sk (kT c0) = none := by
  cases q : valV sk (kT c0) with
  | none => rfl
  | some u =>
    exfalso
    obtain ⟨i', k, c, v1, q1, q2, q3, q4⟩ := S.s1 _ u q
    have e := kT_inj q4
    subst e
    have e3 := hi _ _ _ q3 hc
    subst e3
    exact nd_ix hn h q2 q1
theorem valV_ix {kk : List Key} {v : V} (h : valV kvs kk = some v) : ∃ i : Nat, kvs[i]? = some (kk, v) := by
  unfold valV at h
  obtain ⟨p, hp, e⟩ := Option.map_eq_some_iff.mp h
  have h1 := List.mem_of_find?_eq_some hp
  have h2 : p.1 = kk := by simpa using List.find?_some hp
  obtain ⟨i, hi⟩ := List.getElem?_of_mem h1
  exact ⟨i, by rw [hi, ← h2, ← e]⟩
theorem ix_valV {kk : List Key} {v : V} (h : kvs[i]? = some (kk, v)) : ∃ u, valV kvs kk = some u := by
  have : (valV kvs kk).isSome = true := by
    rw [← valV_any, List.any_eq_true]
    exact ⟨(kk, v), List.mem_of_getElem? h, decide_eq_true rfl⟩
  exact Option.isSome_iff_exists.mp this
theorem SrcS.final (S : SrcS K H kvs C sk kvs.length) {Dn : Tri → Tri → Prop} (B : ChD K H kvs C Dn) {k c : Tri} (hd : Dn k c) (hc : C k c) : ∃ u, valV sk (kT c) = some u ∧ Rp true K H u (dTri k) := by
  obtain ⟨v, h1, _⟩ := B.compl k c hd
  obtain ⟨i, hi⟩ := valV_ix h1
  exact S.s2 i k c v (List.getElem?_eq_some_iff.mp hi).1 hi hc
theorem RulS.mono (S : RulS K H kvs C rk i) (e : Tx K H H') : RulS K H' kvs C rk i := fun i' k c v0 h1 h2 h3 => by
  obtain ⟨u, h4, h5⟩ := S i' k c v0 h1 h2 h3
  exact ⟨u, h4, h5.tx e⟩
theorem RulS.put (S : RulS K H kvs C rk i) (hf : FunR C) (h : kvs[i]? = some (kT k0, v0)) (hc : C k0 c0) (hu : Rp true K H u0 (dTri c0)) : RulS K H kvs C (putK rk (kT k0) u0) (i + 1) := by
  intro i' k c v1 h1 h2 h3
  rw [valV_put]
  by_cases e : kT k = kT k0
  · rw [if_pos e]
    have e2 := kT_inj e
    subst e2
    have e3 := hf _ _ _ h3 hc
    subst e3
    exact ⟨u0, rfl, hu⟩
  · rw [if_neg e]
    by_cases ei : i' = i
    · subst ei
      rw [h] at h2
      simp only [Option.some.injEq, Prod.mk.injEq] at h2
      exact absurd h2.1.symm e
    · exact S i' k c v1 (by omega) h2 h3
theorem RulS.final (S : RulS K H kvs C rk kvs.length) {Dn : Tri → Tri → Prop} (B : ChD K H kvs C Dn) {k c : Tri} (hd : Dn k c) (hc : C k c) : ∃ u, valV rk (kT k) = some u ∧ Rp true K H u (dTri c) := by
  obtain ⟨v, h1, _⟩ := B.compl k c hd
  obtain ⟨i, hi⟩ := valV_ix h1
  exact S i k c v (List.getElem?_eq_some_iff.mp hi).1 hi hc
theorem rp_key {q : Addr} {k : Tri} (h : H q = some (.tup ((kT k).map kV))) : Rp true K H (.ref q) (dTri k) := .tup (TpB.mk h) (RpA.ints [k.1, k.2.1, k.2.2])
end
/-! ### what a dict does not hold -/
def noKey (kvs : List (List Key × V)) : PyData → Bool
  | .tuple [.int a, .int b, .int c] => !(valV kvs (kT (a, b, c))).isSome
  | _ => false
theorem noKey_tri (kvs : List (List Key × V)) (t : Tri) : noKey kvs (dTri t) = !(valV kvs (kT t)).isSome := rfl
theorem keep_no {kvs : List (List Key × V)} {ts : List Tri} {d : PyData} (h : d ∈ keep (noKey kvs) (fun d => d) (ts.map dTri)) : ∃ t, d = dTri t ∧ valV kvs (kT t) = none := by
  unfold keep at h
  obtain ⟨d', h1, h2⟩ := List.mem_map.mp h
  subst h2
  rw [List.mem_filter] at h1
  obtain ⟨t, _, e⟩ := List.mem_map.mp h1.1
  subst e
  refine ⟨t, rfl, ?_⟩
  have q := h1.2
  rw [noKey_tri] at q
  cases z : valV kvs (kT t) with
  | none => rfl
  | some u => rw [z] at q; cases q
/-- self._rule = {..}: the changes copied -/
def CopyOf (K : PySem.W.Frag) (H0 : Hp) (kvs : List (List Key × V)) (C : Tri → Tri → Prop) (v : V) (H2 : Hp) : Prop := ∃ R rk, v = .ref R ∧ H0 R = none ∧ H2 R = some (.dT rk) ∧ rk.length ≤ kvs.length ∧ RulS K H2 kvs C rk kvs.length
theorem evp_copy {K : PySem.W.Frag} {σ : L2.St} {H : Hp} {ks : List (Option Kd)} {jc jk : Nat} {ch : Addr} {kvs : List (List Key × V)} {C Dn : Tri → Tri → Prop} (E : En K H σ ks) (hs : stb ks = true) (hch : H ch = some (.dT kvs)) (hjc : ks[jc]? = some (some (.v (.ref ch)))) (hjk : jk < ks.length) (hne : jk ≠ jc) (B : ChD K H kvs C Dn) (hf : FunR C) (hl : kvs.length ≤ 50000) :
    EvP (tLockE (tDcT (iKeys (tVar jc)) (gName jk) (tVar jk) (tDGq K (tVar jc) (tVar jk)) [jk])) σ H (CopyOf K H kvs C) := fun H1 e Q q => by
  have hch1 := e _ _ hch
  refine ⟨ch, .dT kvs, hch1, trivial, fun od => ?_⟩
  have En1 : En K (upd H1 ch (.frz od (.dT kvs))) σ ks := (E.ex e).tx hs (tx_dT hch1)
  have B1 := (B.mono (Tx.of e)).mono (tx_dT (o := .frz od (.dT kvs)) hch1)
  have G1 : Ex (gh H1 [ch]) (upd H1 ch (.frz od (.dT kvs))) := by
    rw [← gh_upd (H := H1) (o := .frz od (.dT kvs)) List.mem_cons_self]
    exact gh_ex
  have u1 : upd H1 ch (.frz od (.dT kvs)) ch = some (.frz od (.dT kvs)) := upd_same
  have n1 : ∀ a, upd H1 ch (.frz od (.dT kvs)) a = none → H1 a = none := fun a h => by
    by_cases ha : a = ch
    · rw [ha, u1] at h; cases h
    · rw [upd_ne ha] at h; exact h
  generalize upd H1 ch (.frz od (.dT kvs)) = Hb at En1 B1 G1 u1 n1
  show iKeys (tVar jc) σ Hb _
  unfold iKeys
  refine (evi_var En1 hjc : EvI K (tVar jc) σ Hb (.v (.ref ch))).evV _ (Ex.refl _) _ fun H2 e2 => ?_
  refine ⟨ch, od, rfl, .inr ⟨kvs, e2 _ _ u1, fun R hR => ?_⟩⟩
  have eR : Ex H2 (upd H2 R (.dT [])) := Ex.new hR
  refine dcT_it walk_keysT (fun i H' => Ex Hb (gh H' [R]) ∧ ∃ rk, H' R = some (.dT rk) ∧ rk.length ≤ i ∧ RulS K H' kvs C rk i) ⟨?_, [], upd_same, Nat.le_refl _, fun i' k c v0 h => absurd h (Nat.not_lt_zero _)⟩ (fun i H' _ h => gh_ex _ _ (h.1 _ _ u1)) (fun i x H' H'' hi ⟨ex, rk, hrk, hrl, hS⟩ ⟨eH, kk, v, qa, hk1, exq, hqa⟩ => ?_) fun H' ⟨ex, rk, hrk, hrl, hS⟩ => ?_
  · rw [gh_upd List.mem_cons_self]
    exact gh_up e2 fun p hp => by rw [List.mem_singleton.mp hp]; exact fresh_back e2 hR
  · subst eH exq
    obtain ⟨u, hu⟩ := ix_valV hk1
    obtain ⟨k, c, ek, hc, hr⟩ := B1.sound kk u hu
    subst ek
    have ex' : Ex Hb H'' := ex.trans gh_ex
    have E2 : En K H'' ((wipe σ [jk]).set jk (some (.ref qa))) (ks.set jk (some (.d true (dTri k)))) := by
      have z := ((En1.ex ex').wipe1 jk).set jk (show Is K H'' (.ref qa) (.d true (dTri k)) from rp_key hqa)
      rw [set_set] at z
      exact z
    refine ⟨?_, ?_⟩
    · show ((σ.set jk none).set jk (some (.ref qa))).set jk none = σ.set jk none
      rw [set_set, set_set]
    · have hjk2 : (ks.set jk (some (.d true (dTri k))))[jk]? = some (some (.d true (dTri k))) := List.getElem?_set_self hjk
      have hjc2 : (ks.set jk (some (.d true (dTri k))))[jc]? = some (some (.v (.ref ch))) := by rw [List.getElem?_set_ne hne]; exact hjc
      refine (evi_var E2 hjk2 : EvI K (tVar jk) _ H'' (.d true (dTri k))) H'' (Ex.refl _) _ fun y H4 e4 iy => ?_
      refine (evi_getR (b := true) (ns := [k.1, k.2.1, k.2.2]) (k := .d true (dTri c)) ((evi_var E2 hjc2 : EvI K (tVar jc) _ H'' (.v (.ref ch))).mono e4) (.inr ⟨od, e4 _ _ (ex' _ _ u1)⟩) ((evi_var E2 hjk2 : EvI K (tVar jk) _ H'' (.d true (dTri k))).mono e4) hu fun H5 e5 => hr.tx (Tx.of (ex'.trans (e4.trans e5)))) H4 (Ex.refl _) _ fun z H5 e5 iz => ?_
      obtain ⟨ca, rfl, hca⟩ := rp_tri iy
      have hR5 := (e4.trans e5) _ _ hrk
      refine ⟨rk, kT k, ca, rfl, e5 _ _ hca.trk, hR5, sz_lt (by omega), ?_, _, upd_same, by have := length_putK rk (kT k) z; omega, ((hS.mono (Tx.of (e4.trans e5))).put hf hk1 hc iz).mono (tx_dT hR5)⟩
      rw [gh_upd List.mem_cons_self]
      exact ex.trans (gh_mono (e4.trans e5))
  · have hch' : H' ch = some (.frz od (.dT kvs)) := gh_ex _ _ (ex _ _ u1)
    have hRc : R ≠ ch := fun z => by rw [z, hch'] at hrk; cases hrk
    have tx' : Tx K H' (upd H' ch (.dT kvs)) := by
      refine ⟨fun a xs h => ?_, fun a o xs h => ?_⟩
      · rw [upd_ne fun z => by rw [z, hch'] at h; cases h]; exact h
      · rw [upd_ne fun z => by rw [z, hch'] at h; cases h]; exact h
    refine ⟨hch', q _ _ (fun a o h => ?_) ⟨R, rk, rfl, fresh_back (e) (n1 R (fresh_back e2 hR)), (upd_ne hRc).trans hrk, hrl, hS.mono tx'⟩⟩
    by_cases ha : a = ch
    · rw [ha, hch1] at h
      cases h
      rw [ha]
      exact upd_same
    · rw [upd_ne ha]
      exact gh_ex _ _ (ex _ _ (G1 _ _ (by rw [gh_ne (by simpa using ha)]; exact h)))
end Bk

set_option Elab.async false
set_option linter.all false
set_option maxRecDepth 100000
set_option maxHeartbeats 4000000
set_option autoImplicit false
namespace Bk
open PySem PySem.Spec PyProof.Rows L2 Evl
structure PIn where
  a : Nat
  b : Nat
  c : Nat
  ch : Addr
  C : Tri → Tri → Prop
structure PInOk (p : PIn) : Prop where
  a : 1 ≤ p.a ∧ p.a ≤ 10
  b : 1 ≤ p.b ∧ p.b ≤ 100
  c : 1 ≤ p.c ∧ p.c ≤ 10
  f : FunR p.C
  i : InjR p.C
  q : p.C tq tq
  inb : ∀ k v, p.C k v → inT k ((p.c : Int), (p.b : Int), (p.a : Int)) = true ∧ inT v ((p.a : Int), (p.b : Int), (p.c : Int)) = true
theorem keep_kl (f : PyData → Bool) (ds : List PyData) (n : Nat) (h : ds.length ≤ n) : (keep f (fun d => d) ds).length ≤ n := Nat.le_trans (keep_len _ _ _) h
section
variable {P : Program} {w : World} {K : PySem.W.Frag} {mg : Str → Option Value} {base : Heap}
theorem sc_Parts_init : FnScope ["self", "sizes", "changes", "a", "b", "c", "sources", "key", "value", "left", "triple", "free", "cell"] ["self", "sizes", "changes"] (defScope s_Parts_init) := ⟨rfl, rfl, rfl, by decide +kernel, rfl, by decide +kernel, by decide +kernel⟩
theorem c_Parts_init (T : Txt K mg) : CalleeI P w K mg base 3 "Parts" (He.ga K "Parts") ["self", "sizes", "changes"] (spI K (He.ga K "Parts") (fun p : PIn => [.d true (dTri ((p.a : Int), (p.b : Int), (p.c : Int))), .v (.ref p.ch)]) (fun p H => PInOk p ∧ ∃ kvs, H p.ch = some (.dT kvs) ∧ ChD K H kvs p.C p.C ∧ kvs.length ≤ 1000) fun p x H => PartsAt K H x p.C) := by
  obtain ⟨fd, F⟩ := T.f_Parts_init
  refine calleeI_of F T.mk_Parts T.g_Parts (fun _ _ _ _ _ _ us hl => match us, hl with | [_, _, _], _ => rfl) (F.okI sc_Parts_init (fun _ => rfl) fun cdv A outer s H Q E p self dx H1 hr hp hfr hex hself => ?_)
  have hu := hu_of hr
  refine ⟨_, (pss_cons (ps_expr (pe_C (c_check_sizes T) hr (by decide) (by rfl) (pa_cons (pv 1) pa_nil)))
      (pss_cons (ps_asg (pv 1) (pg_tup (by rfl) (pgs_cons (pg_name (i := 3) sc_Parts_init.nd rfl (Or.inl rfl)) (pgs_cons (pg_name (i := 4) sc_Parts_init.nd rfl (Or.inl rfl)) (pgs_cons (pg_name (i := 5) sc_Parts_init.nd rfl (Or.inl rfl)) pgs_nil)))))
      (pss_cons (ps_if (pt_cmpR (op_neD hr.units) (pe_dq1 hu (pv 2) (pe_glob (v := .ref (He.ga K "QUIET")) rfl T.g_QUIET rfl) ⟨rfl, rfl, rfl, rfl⟩) (pe_glob (v := .ref (He.ga K "QUIET")) rfl T.g_QUIET rfl) (nomark _)) pss_never pss_nil)
      (pss_cons (ps_set (i := 6) sc_Parts_init.nd rfl (Or.inr rfl) pe_dnewT)
      (pss_cons (ps_lock (ps_for PassesOwn.never rfl (pi_keys (pv 2)) (pg_name (i := 7) sc_Parts_init.nd rfl (Or.inl rfl)) (pss_cons (ps_set (i := 8) sc_Parts_init.nd rfl (Or.inl rfl) (pe_dq hu (pv 2) (pv 7) (fun _ _ => rfl)))
      (pss_cons (ps_if (PW.pt (pw_or (pt_not (pt_val (pe_C (c_is_triple T) hr (by decide) (by rfl) (pa_cons (pv 7) (pa_cons (pe_tup (pa_cons (pv 5) (pa_cons (pv 4) (pa_cons (pv 3) pa_nil)))) pa_nil))))) (pw_or1 (pt_not (pt_val (pe_C (c_is_triple T) hr (by decide) (by rfl) (pa_cons (pv 8) (pa_cons (pv 1) pa_nil)))))))) pss_never pss_nil)
      (pss_cons (ps_if (pt_cmp (pc_dinq hu (pv 8) (pv 6))) pss_never pss_nil)
      (pss_one (ps_dput hu (pv 6) (pv 8) (pv 7) rfl)))))))
      (pss_cons (ps_fld (pv 0) (pv 1) rfl)
      (pss_cons (ps_fld (pv 0) (pe_lock (pe_dcT (own := [("key", 7)]) (tk := (tVar 7)) (tv := (tDGq K (tVar 2) (tVar 7))) hr.units0 rfl sc_Parts_init.nd (pi_keys (pv 2)) (blkOk_by (N := ["self", "sizes", "changes", "a", "b", "c", "sources", "key", "value", "left", "triple", "free", "cell"]) (sc := defScope s_Parts_init) (by decide +kernel)) (fun _ _ _ _ _ => (pg_name (i := 7) sc_Parts_init.nd rfl (Or.inl rfl))) (fun _ _ _ _ _ => (pv 7)) (fun _ _ _ _ _ => (pe_dq hu (pv 2) (pv 7) (fun _ _ => rfl))))) rfl)
      (pss_cons (ps_fld (pv 0) (pv 6) rfl)
      (pss_cons (ps_setLc (i := 9) (own := [("triple", 10)]) (te := (tVar 10)) (tt := (tB (tDIq K true (tVar 10) (tFld K (tVar 0) _)))) rfl sc_Parts_init.nd rfl rfl (sw_true rfl rfl rfl (by decide +kernel)) (pi_list (pe_C (c_all_triples T) hr (by decide) (by rfl) (pa_cons (pe_tup (pa_cons (pv 5) (pa_cons (pv 4) (pa_cons (pv 3) pa_nil)))) pa_nil))) (blkOk_by (N := ["self", "sizes", "changes", "a", "b", "c", "sources", "key", "value", "left", "triple", "free", "cell"]) (sc := defScope s_Parts_init) (by decide +kernel)) (fun _ _ _ _ _ => (pg_name (i := 10) sc_Parts_init.nd rfl (Or.inl rfl))) (fun _ _ _ _ _ => pts_one (pt_cmp (pc_dninq hu (pv 10) (pe_fld (pv 0) rfl)))) (fun _ _ _ _ _ => (pv 10)))
      (pss_cons (ps_setLc (i := 11) (own := [("cell", 12)]) (te := (tVar 12)) (tt := (tB (tDIq K true (tVar 12) (tVar 6)))) rfl sc_Parts_init.nd rfl rfl (sw_true rfl rfl rfl (by decide +kernel)) (pi_list (pe_C (c_all_triples T) hr (by decide) (by rfl) (pa_cons (pv 1) pa_nil))) (blkOk_by (N := ["self", "sizes", "changes", "a", "b", "c", "sources", "key", "value", "left", "triple", "free", "cell"]) (sc := defScope s_Parts_init) (by decide +kernel)) (fun _ _ _ _ _ => (pg_name (i := 12) sc_Parts_init.nd rfl (Or.inl rfl))) (fun _ _ _ _ _ => pts_one (pt_cmp (pc_dninq hu (pv 12) (pv 6)))) (fun _ _ _ _ _ => (pv 12)))
      (pss_one (ps_for PassesOwn.never rfl (RZ.pi_zipA (by rfl) T.z_zip (pa_cons (pv 9) (pa_cons (pv 11) pa_nil))) (pg_tup (by rfl) (pgs_cons (pg_name (i := 10) sc_Parts_init.nd rfl (Or.inl rfl)) (pgs_cons (pg_name (i := 12) sc_Parts_init.nd rfl (Or.inl rfl)) pgs_nil))) (pss_cons (ps_dput hu (pe_fld (pv 0) rfl) (pv 10) (pv 12) rfl)
      (pss_one (ps_dput hu (pe_fld (pv 0) rfl) (pv 12) (pv 10) rfl))))))))))))))), fun σ En0 nx => ?_⟩
  obtain ⟨a, b, c, ch, C⟩ := p
  obtain ⟨⟨ha, hb, hc, hf, hi, hq, hin⟩, kvs, hch1, hB1, hlen⟩ := hp
  simp only at ha hb hc hf hi hq hin hch1 hB1 hlen
  have cls := T.cl_Parts
  have En0 : En K H1 σ [some (.v (.ref self)), some (.d true (.tuple [.int (a : Int), .int (b : Int), .int (c : Int)])), some (.v (.ref ch)), none, none, none, none, none, none, none, none, none, none] := En0
  have EG : Ex H1 (gh H [self]) := gh_up hex fun q hq => by rw [List.mem_singleton.mp hq]; exact hfr
  have E0 := (En0.ex EG).ex gh_ex
  refine q_drop (EvI.evV (evi_call ((a : Int), (b : Int), (c : Int)) (evia_cons (EvI.weak (evi_var E0 rfl)) evia_nil) fun _ _ => ⟨by constructor <;> (simp only; omega), by constructor <;> (simp only; omega), by constructor <;> (simp only; omega)⟩)) fun H2 e2 => ?_
  have E2 := E0.ex e2
  refine q_tupI (is := [3, 4, 5]) E2 (evi_var E2 rfl) rfl rfl fun σ3 H3 e3 E3 => ?_
  have E3 : En K H3 σ3 [some (.v (.ref self)), some (.d true (.tuple [.int (a : Int), .int (b : Int), .int (c : Int)])), some (.v (.ref ch)), some (dI (a : Int)), some (dI (b : Int)), some (dI (c : Int)), none, none, none, none, none, none, none] := E3
  have ex3 : Ex H1 H3 := hex.trans (e2.trans e3)
  have hB3 := hB1.mono (Tx.of ex3)
  obtain ⟨v0, hv0, hr0⟩ := hB3.compl tq tq hq
  refine q_whenI (c := false) E3 (et_is (evt_of (evi_ne (b := false) (b' := false) (evi_get1T (k := .d false (dTri tq)) (ns := [0, 0, 0]) (evi_var E3 rfl) (ex3 _ _ hch1) (evi_k (quiet_is T H3)) fun H9 e9 => by rw [show valV kvs (kI [0, 0, 0]) = some v0 from hv0]; exact (hr0.tx (Tx.of e9)).weak) (evi_k (quiet_is T H3)) (ok_tri _).sh (ok_tri _).sh)) (by rw [eqv_self (pd_tri _)]; rfl)) (fun h => by cases h) fun _ H4 e4 E4 => ?_
  refine q_newT E4 fun S σ5 H5 hS4 e5 hS5 E5 => ?_
  have E5 : En K H5 σ5 [some (.v (.ref self)), some (.d true (.tuple [.int (a : Int), .int (b : Int), .int (c : Int)])), some (.v (.ref ch)), some (dI (a : Int)), some (dI (b : Int)), some (dI (c : Int)), some (.v (.ref S)), none, none, none, none, none, none] := E5
  have ex5 : Ex H1 H5 := ex3.trans (e4.trans e5)
  have hch5 := ex5 _ _ hch1
  have hself5 : H5 self = some (.ins (He.ga K "Parts") dx []) := (e2.trans (e3.trans (e4.trans e5))) _ _ hself
  have hS1 : H1 S = none := fresh_back (ex3.trans e4) hS4
  have hSc : S ≠ ch := fun z => by rw [z, hch1] at hS1; cases hS1
  have hB5 := hB1.mono (Tx.of ex5)
  -- the loop, the changes locked
  refine ⟨ch, .dT kvs, hch5, trivial, fun od => ?_⟩
  have Eb : En K (upd H5 ch (.frz od (.dT kvs))) σ5 _ := E5.tx rfl (tx_dT hch5)
  have Bb := hB5.mono (tx_dT (o := .frz od (.dT kvs)) hch5)
  have ub : upd H5 ch (.frz od (.dT kvs)) ch = some (.frz od (.dT kvs)) := upd_same
  have uS : upd H5 ch (.frz od (.dT kvs)) S = some (.dT []) := (upd_ne hSc).trans hS5
  have gb : Ex (gh H5 [ch, S]) (gh (upd H5 ch (.frz od (.dT kvs))) [S]) := fun x o h => by
    have hx : x ∉ [ch, S] := fun z => by rw [gh_in z] at h; cases h
    rw [gh_ne hx] at h
    simp only [List.mem_cons, List.not_mem_nil, or_false, not_or] at hx
    rw [gh_ne (by simpa using hx.2), upd_ne hx.1]
    exact h
  generalize upd H5 ch (.frz od (.dT kvs)) = Hb at Eb Bb ub uS gb
  show iKeys (tVar 2) σ5 Hb _
  unfold iKeys
  refine (evi_var Eb rfl : EvI K (tVar 2) σ5 Hb (.v (.ref ch))).evV _ (Ex.refl _) _ fun H6 e6 => ?_
  refine ⟨ch, od, rfl, .inr ⟨kvs, e6 _ _ ub, for_it walk_keysT (fun i σ' H' => Ex (gh Hb [S]) H' ∧ (∃ o7 o8, stbK o7 = true ∧ stbK o8 = true ∧ En K H' σ' [some (.v (.ref self)), some (.d true (.tuple [.int (a : Int), .int (b : Int), .int (c : Int)])), some (.v (.ref ch)), some (dI (a : Int)), some (dI (b : Int)), some (dI (c : Int)), some (.v (.ref S)), o7, o8, none, none, none, none]) ∧ ∃ sk, H' S = some (.dT sk) ∧ sk.length ≤ i ∧ SrcS K H' kvs C sk i)
    ⟨gh_ex.trans e6, ⟨_, _, rfl, rfl, Eb.ex e6⟩, [], e6 _ _ uS, Nat.le_refl _, fun kk u h => (by cases h), fun i' k c v0 h => absurd h (Nat.not_lt_zero _)⟩ (fun i σ' H' _ h => h.1 _ _ (by rw [gh_ne (by simpa using fun z => hSc z.symm)]; exact ub)) (fun i x σ' H' H'' hlt ⟨ex, ⟨o7, o8, s7, s8, En7⟩, sk, hsk, hsl, hS⟩ ⟨eH, kk, v, qa, hk1, exq, hqa⟩ => ?_) fun σ' H' ⟨ex, ⟨o7, o8, s7, s8, En7⟩, sk, hsk, hsl, hS⟩ => ?_⟩⟩
  · subst eH exq
    obtain ⟨u, hu2⟩ := ix_valV hk1
    obtain ⟨k, w0, ek, hkc, hrw⟩ := Bb.sound kk u hu2
    subst ek
    have hch7 : H'' ch = some (.frz od (.dT kvs)) := ex _ _ (by rw [gh_ne (by simpa using fun z => hSc z.symm)]; exact ub)
    have txb : Tx K Hb H'' := (gh_tx (fun p hp => ⟨.dT [], by rw [List.mem_singleton.mp hp]; exact uS, rfl⟩)).trans (Tx.of ex)
    have E8 : En K H'' (σ'.set 7 (some (.ref qa))) [some (.v (.ref self)), some (.d true (.tuple [.int (a : Int), .int (b : Int), .int (c : Int)])), some (.v (.ref ch)), some (dI (a : Int)), some (dI (b : Int)), some (dI (c : Int)), some (.v (.ref S)), some (.d true (dTri k)), o8, none, none, none, none] := En7.set 7 (k := .d true (dTri k)) (rp_key hqa)
    refine q_setI (k := .d true (dTri w0)) E8 (evi_getR (b := true) (ns := [k.1, k.2.1, k.2.2]) (evi_var E8 rfl) (.inr ⟨od, hch7⟩) (evi_var E8 rfl) hu2 fun H9 e9 => (hrw.tx txb).tx (Tx.of e9)) fun σ9 H9 e9 E9 => ?_
    have E9 : En K H9 σ9 [some (.v (.ref self)), some (.d true (.tuple [.int (a : Int), .int (b : Int), .int (c : Int)])), some (.v (.ref ch)), some (dI (a : Int)), some (dI (b : Int)), some (dI (c : Int)), some (.v (.ref S)), some (.d true (dTri k)), some (.d true (dTri w0)), none, none, none, none] := E9
    obtain ⟨in1, in2⟩ := hin k w0 hkc
    refine q_whenI E9 (et_is (et_or (et_not (evt_B (evi_call (k, ((c : Int), (b : Int), (a : Int))) (evia_cons (EvI.weak (evi_var E9 rfl)) (evia_cons (evi_tri (b := false) (evi_var E9 rfl) (evi_var E9 rfl) (evi_var E9 rfl)) evia_nil)) fun _ _ => trivial))) fun _ => et_not (evt_B (evi_call (w0, ((a : Int), (b : Int), (c : Int))) (evia_cons (EvI.weak (evi_var E9 rfl)) (evia_cons (EvI.weak (evi_var E9 rfl)) evia_nil)) fun _ _ => trivial))) (b := false) (by simp only; rw [in1, in2]; rfl)) (fun h => by cases h) fun _ H10 e10 E10 => ?_
    have hsk10 := (e9.trans e10) _ _ hsk
    have nofr := hS.fresh hi hB1.nd hk1 hkc
    refine q_whenI (c := false) E10 (et_is (evt_B (evi_inT (neg := false) (ns := [w0.1, w0.2.1, w0.2.2]) (evi_var E10 rfl) (evi_var E10 rfl) hsk10)) (by rw [show valV sk (kI [w0.1, w0.2.1, w0.2.2]) = none from nofr]; rfl)) (fun h => by cases h) fun _ H11 e11 E11 => ?_
    have ex911 := e9.trans (e10.trans e11)
    refine s_putT (ns := [w0.1, w0.2.1, w0.2.2]) (kvs := sk) (k := .d true (dTri k)) (evi_var E11 rfl) (evi_var E11 rfl) (ex911 _ _ hsk) (evi_var E11 rfl) (by omega) fun v2 H12 e12 y2 => ?_
    have hsk12 := (ex911.trans e12) _ _ hsk
    refine ⟨Ex.mut (ex.trans (ex911.trans e12)) (gh_in List.mem_cons_self), ⟨some (.d true (dTri k)), some (.d true (dTri w0)), rfl, rfl, (E11.ex e12).tx ?_ (tx_dT hsk12)⟩, _, upd_same, ?_, ((hS.mono (Tx.of (ex911.trans e12))).put hf hi hk1 hkc y2).mono (tx_dT hsk12)⟩
    · rfl
    · have := length_putK sk (kI [w0.1, w0.2.1, w0.2.2]) v2
      omega
  · have hch7 : H' ch = some (.frz od (.dT kvs)) := ex _ _ (by rw [gh_ne (by simpa using fun z => hSc z.symm)]; exact ub)
    refine ⟨hch7, ?_⟩
    have tx7 : Tx K H' (upd H' ch (.dT kvs)) := by
      refine ⟨fun a xs h => ?_, fun a o xs h => ?_⟩
      · rw [upd_ne fun z => by rw [z, hch7] at h; cases h]; exact h
      · rw [upd_ne fun z => by rw [z, hch7] at h; cases h]; exact h
    have st7 : stb [some (.v (.ref self)), some (.d true (.tuple [.int (a : Int), .int (b : Int), .int (c : Int)])), some (.v (.ref ch)), some (dI (a : Int)), some (dI (b : Int)), some (dI (c : Int)), some (.v (.ref S)), o7, o8, none, none, none, none] = true := by
      show (true && (true && (true && (true && (true && (true && (true && (stbK o7 && (stbK o8 && (true && (true && (true && (true && true))))))))))))) = true
      rw [s7, s8]
      rfl
    have E8 := En7.tx st7 tx7
    have hS8 := hS.mono tx7
    have hsk8 : upd H' ch (.dT kvs) S = some (.dT sk) := (upd_ne hSc).trans hsk
    have hch8 : upd H' ch (.dT kvs) ch = some (.dT kvs) := upd_same
    have Gx : Ex (gh H5 [ch, S]) (upd H' ch (.dT kvs)) := (Ex.mut (gb.trans ex) (gh_in List.mem_cons_self))
    generalize upd H' ch (.dT kvs) = H8 at E8 hS8 hsk8 hch8 Gx
    clear hS hsk ex tx7 hch7 En7 Eb Bb ub uS gb e6
    have Ex8 : Ex H1 H8 := fun x o h => by
      by_cases hx : x = ch
      · rw [hx, hch1] at h
        cases h
        rw [hx]
        exact hch8
      · refine Gx x o ?_
        rw [gh_ne (by simp only [List.mem_cons, List.not_mem_nil, or_false, not_or]; exact ⟨hx, fun z => (by rw [z, hS1] at h; cases h)⟩)]
        exact ex5 x o h
    have hself8 : H8 self = some (.ins (He.ga K "Parts") dx []) := by
      refine Gx _ _ ?_
      rw [gh_ne (by simp only [List.mem_cons, List.not_mem_nil, or_false, not_or]; exact ⟨fun z => (by rw [z, hch5] at hself5; cases hself5), fun z => (by rw [z, hS5] at hself5; cases hself5)⟩)]
      exact hself5
    have nself : ∀ {H : Hp} {x : Addr} {o : List (List Key × V)} {fs : List (Str × V)}, H self = some (.ins (He.ga K "Parts") dx fs) → H x = some (.dT o) → gh H [self] x = some (.dT o) := fun hs hx => by
      rw [gh_ne (by simpa using fun z => by rw [z, hs] at hx; cases hx)]
      exact hx
    have od8 := odd_ins hself8
    have eS := nself hself8 hsk8
    have eC := nself hself8 hch8
    have SG := hS8.mono (gh_tx od8)
    have EGn := E8.gh od8
    have ExG : Ex H1 (gh H8 [self]) := gh_up Ex8 fun q hq => by rw [List.mem_singleton.mp hq]; exact hfr
    refine q_fldP hself8 (evi_var E8 rfl) (EvI.evp (evi_var E8 rfl)) cls T.n_Parts_sizes (by decide) fun vs H9a H9 e9 y9 h9a g9 h9 => ?_
    have h9 : H9 self = some (.ins (He.ga K "Parts") dx [("sizes", vs)]) := h9
    have G9 := (gh_mono (ps := [self]) e9).trans g9
    clear y9 h9a e9 g9 E8 hS8
    have E9 := EGn.ex (G9.trans gh_ex)
    refine q_fldP h9 (evi_var E9 rfl) (evp_copy (jc := 2) (jk := 7) (C := C) (Dn := C) E9 st7 ((G9.trans gh_ex) _ _ eC) rfl (show 7 < 13 by decide) (by decide) (hB1.mono (Tx.of (ExG.trans (G9.trans gh_ex)))) hf (by omega)) cls T.n_Parts_rule (by show 1 < 1000; decide) fun v10 H10a H10 e10 ⟨R, rk, ev, hR0, hR, hrl, hRS⟩ h10a g10 h10 => ?_
    subst ev
    have h10 : H10 self = some (.ins (He.ga K "Parts") dx [("sizes", vs), ("_rule", .ref R)]) := h10
    have G10 := (gh_mono (ps := [self]) e10).trans g10
    have eR := g10 _ _ (nself h10a hR)
    have RG := (hRS.mono (gh_tx (odd_ins h10a))).mono (Tx.of g10)
    have hRS_ : R ≠ S := fun z => by rw [z, (G9.trans gh_ex) _ _ eS] at hR0; cases hR0
    have hR1 : H1 R = none := fresh_back (ExG.trans (G9.trans gh_ex)) hR0
    have G810 := G9.trans G10
    clear hRS e10 g10 G9 h10a G10
    have E10 := EGn.ex (G810.trans gh_ex)
    refine q_fldP h10 (evi_var E10 rfl) (EvI.evp (evi_var E10 rfl)) cls T.n_Parts_sources (by show 2 < 1000; decide) fun v11 H11a H11 e11 y11 h11a g11 h11 => ?_
    have y11 : v11 = .ref S := y11
    subst y11
    have h11 : H11 self = some (.ins (He.ga K "Parts") dx (partsF vs R S)) := h11
    have G11 := (gh_mono (ps := [self]) e11).trans g11
    have G811 := G810.trans G11
    have E11 := EGn.ex (G811.trans gh_ex)
    have eS11 : H11 S = some (.dT sk) := gh_ex _ _ (G811 _ _ eS)
    have eR11 : H11 R = some (.dT rk) := gh_ex _ _ (G11 _ _ eR)
    have S11 := SG.mono (Tx.of (G811.trans gh_ex))
    have R11 := RG.mono (Tx.of (G11.trans gh_ex))
    have Ex11 := ExG.trans (G811.trans gh_ex)
    clear E10 g11 y11 e11 h11a
    -- what is left over
    have lt : ∀ x y z : Nat, x ≤ 10 → y ≤ 100 → z ≤ 10 → ((tri3 y z x).map dTri).length ≤ 11000 := fun x y z h1 h2 h3 => by
      rw [List.length_map, tri3_len]
      have := tri_bound h1 h2 h3 (Nat.le_refl x) (Nat.zero_le y)
      omega
    refine q_setI (k := .l true (keep (noKey rk) (fun d => d) ((tri3 b a c).map dTri))) E11 (evi_lcL (b := true) (b' := true) (noKey rk) (fun d => d) E11 (evi_call (c, b, a) (evia_cons (evi_tri (b := false) (evi_var E11 rfl) (evi_var E11 rfl) (evi_var E11 rfl)) evia_nil) fun _ _ => ⟨hc.2, hb.2, ha.2⟩) (Nat.le_trans (lt c b a hc.2 hb.2 ha.2) (by decide)) fun d σ2 H2 hd e2 En2 => ?_) fun σ12 H12 e12 E12 => ?_
    · obtain ⟨t, _, ed⟩ := List.mem_map.mp hd
      subst ed
      exact ⟨evt_B (evi_inT (neg := true) (ns := [t.1, t.2.1, t.2.2]) (evi_var En2 rfl) (evi_fld (k := .v (.ref R)) (evi_var En2 rfl) (e2 _ _ h11) cls T.n_Parts_rule rfl fun _ _ => rfl) (e2 _ _ eR11)), fun _ => evi_var En2 rfl⟩
    refine q_setI (k := .l true (keep (noKey sk) (fun d => d) ((tri3 b c a).map dTri))) E12 (evi_lcL (b := true) (b' := true) (noKey sk) (fun d => d) E12 (evi_call (a, b, c) (evia_cons (EvI.weak (evi_var E12 rfl)) evia_nil) fun _ _ => ⟨ha.2, hb.2, hc.2⟩) (Nat.le_trans (lt a b c ha.2 hb.2 hc.2) (by decide)) fun d σ2 H2 hd e2 En2 => ?_) fun σ13 H13 e13 E13 => ?_
    · obtain ⟨t, _, ed⟩ := List.mem_map.mp hd
      subst ed
      exact ⟨evt_B (evi_inT (neg := true) (ns := [t.1, t.2.1, t.2.2]) (evi_var En2 rfl) (evi_var En2 rfl) ((e12.trans e2) _ _ eS11)), fun _ => evi_var En2 rfl⟩
    have ex13 := e12.trans e13
    obtain ⟨vL, hvL, E13⟩ := E13.fix (i := 9) rfl
    obtain ⟨vF, hvF, E13⟩ := E13.fix (i := 11) rfl
    have E13 : En K H13 σ13 [some (.v (.ref self)), some (.d true (.tuple [.int (a : Int), .int (b : Int), .int (c : Int)])), some (.v (.ref ch)), some (dI (a : Int)), some (dI (b : Int)), some (dI (c : Int)), some (.v (.ref S)), o7, o8, some (.v vL), none, some (.v vF), none] := E13
    have h13 := ex13 _ _ h11
    have eS13 := ex13 _ _ eS11
    have eR13 := ex13 _ _ eR11
    have S13 := S11.mono (Tx.of ex13)
    have R13 := R11.mono (Tx.of ex13)
    have Ex13 : Ex H1 (gh H13 [R, S]) := gh_up (Ex11.trans ex13) fun q hq => by
      simp only [List.mem_cons, List.not_mem_nil, or_false] at hq
      rcases hq with e | e
      · rw [e]; exact hR1
      · rw [e]; exact hS1
    have od13 : Odd H13 [R, S] := fun q hq => by
      simp only [List.mem_cons, List.not_mem_nil, or_false] at hq
      rcases hq with e | e
      · rw [e]; exact ⟨_, eR13, rfl⟩
      · rw [e]; exact ⟨_, eS13, rfl⟩
    have sg : gh H13 [R, S] self = some (.ins (He.ga K "Parts") dx (partsF vs R S)) := by
      rw [gh_ne (by simp only [List.mem_cons, List.not_mem_nil, or_false, not_or]; exact ⟨fun z => (by rw [z, eR13] at h13; cases h13), fun z => (by rw [z, eS13] at h13; cases h13)⟩)]
      exact h13
    obtain ⟨pL, xL, eL, hL1, hL2⟩ := Is.gh od13 hvL
    obtain ⟨pF, xF, eF, hF1, hF2⟩ := Is.gh od13 hvF
    subst eL eF
    have RG13 := R13.mono (gh_tx (K := K) od13)
    have SG13 := S13.mono (gh_tx (K := K) od13)
    have BG13 := hB1.mono (Tx.of Ex13)
    have gex : Ex (gh H13 [R, S]) H13 := gh_ex
    generalize eG : gh H13 [R, S] = G at Ex13 sg hL1 hL2 hF1 hF2 RG13 SG13 BG13 gex
    have GR : G R = none := by rw [← eG]; exact gh_in List.mem_cons_self
    have GS : G S = none := by rw [← eG]; exact gh_in (List.mem_cons_of_mem _ List.mem_cons_self)
    have lL : xL.length ≤ 11000 := by rw [hL2.len]; exact keep_kl _ _ _ (lt c b a hc.2 hb.2 ha.2)
    show RZ.iZipA K (tCons (tVar 9) (tCons (tVar 11) tNil)) σ13 H13 _
    unfold RZ.iZipA
    refine ev2 (K := K) (H := H13) (σ := σ13) (k1 := .v (.ref pL)) (k2 := .v (.ref pF)) (t := tCons (tVar 9) (tCons (tVar 11) tNil)) (evia_cons (evi_var E13 rfl) (evia_cons (evi_var E13 rfl) evia_nil)) H13 (Ex.refl _) _ fun v1 v2 H14 e14 hv1 hv2 => ?_
    refine ⟨pL, pF, xL, xF, by rw [show v1 = .ref pL from hv1, show v2 = .ref pF from hv2], .inl ⟨sq_of ((gex.trans e14) _ _ hL1), sq_of ((gex.trans e14) _ _ hF1), for_it (walk_zip rfl) (fun i σ' H' => Ex G H' ∧ (∃ o10 o12, stbK o10 = true ∧ stbK o12 = true ∧ En K H' σ' [some (.v (.ref self)), some (.d true (.tuple [.int (a : Int), .int (b : Int), .int (c : Int)])), some (.v (.ref ch)), some (dI (a : Int)), some (dI (b : Int)), some (dI (c : Int)), some (.v (.ref S)), o7, o8, some (.v (.ref pL)), o10, some (.v (.ref pF)), o12]) ∧ (∃ rk', H' R = some (.dT rk') ∧ rk'.length ≤ 1000 + i ∧ ∀ k c, C k c → valV rk' (kT k) = valV rk (kT k)) ∧ ∃ sk', H' S = some (.dT sk') ∧ sk'.length ≤ 1000 + i ∧ ∀ k c, C k c → valV sk' (kT c) = valV sk (kT c))
      ⟨gex.trans e14, ⟨_, _, rfl, rfl, E13.ex e14⟩, ⟨rk, e14 _ _ eR13, by omega, fun k c _ => rfl⟩, ⟨sk, e14 _ _ eS13, by omega, fun k c _ => rfl⟩⟩ (fun i σ' H' _ h => ⟨sq_of (h.1 _ _ hL1), sq_of (h.1 _ _ hF1)⟩) (fun i x σ' H' H'' hlt ⟨ex, ⟨o10, o12, s10, s12, En15⟩, ⟨rk', hrk', hrl', hr'⟩, sk', hsk', hsl', hs'⟩ ⟨T1, y1, y2, ex1, hT, eH, hy1, hy2⟩ => ?_) fun σ' H' ⟨ex, _, ⟨rk', hrk', hrl', hr'⟩, sk', hsk', hsl', hs'⟩ => ?_⟩⟩
    · subst ex1 eH
      obtain ⟨d1, hd1, r1⟩ := hL2.getV hy1
      obtain ⟨d2, hd2, r2⟩ := hF2.getV hy2
      obtain ⟨t1, rfl, n1⟩ := keep_no (List.mem_of_getElem? hd1)
      obtain ⟨t2, rfl, n2⟩ := keep_no (List.mem_of_getElem? hd2)
      have hlt2 : i < 11000 := by omega
      have eT : Ex H' (upd H' T1 (.tup [y1, y2])) := Ex.new hT
      refine ⟨T1, [y1, y2], rfl, st_of upd_same, rfl, y1, [y2], rfl, y2, [], rfl, rfl, ?_⟩
      generalize upd H' T1 (.tup [y1, y2]) = H16 at eT
      have ex16 := ex.trans eT
      have E16 : En K H16 ((σ'.set 10 (some y1)).set 12 (some y2)) [some (.v (.ref self)), some (.d true (.tuple [.int (a : Int), .int (b : Int), .int (c : Int)])), some (.v (.ref ch)), some (dI (a : Int)), some (dI (b : Int)), some (dI (c : Int)), some (.v (.ref S)), o7, o8, some (.v (.ref pL)), some (.d true (dTri t1)), some (.v (.ref pF)), some (.d true (dTri t2))] := ((En15.ex eT).set 10 (k := .d true (dTri t1)) (Rp.tx (Tx.of ex16) r1)).set 12 (k := .d true (dTri t2)) (Rp.tx (Tx.of ex16) r2)
      have st16 : stb [some (.v (.ref self)), some (.d true (.tuple [.int (a : Int), .int (b : Int), .int (c : Int)])), some (.v (.ref ch)), some (dI (a : Int)), some (dI (b : Int)), some (dI (c : Int)), some (.v (.ref S)), o7, o8, some (.v (.ref pL)), some (.d true (dTri t1)), some (.v (.ref pF)), some (.d true (dTri t2))] = true := by
        show (true && (true && (true && (true && (true && (true && (true && (stbK o7 && (stbK o8 && (true && (true && (true && (true && true))))))))))))) = true
        rw [s7, s8]
        rfl
      refine q_putT (ns := [t1.1, t1.2.1, t1.2.2]) (kvs := rk') (k := .d true (dTri t2)) (evi_var E16 rfl) (evi_fld (k := .v (.ref R)) (evi_var E16 rfl) (ex16 _ _ sg) cls T.n_Parts_rule rfl fun _ _ => rfl) (eT _ _ hrk') (evi_var E16 rfl) (by omega) fun v3 H17 e17 y3 => ?_
      have hrk17 := (eT.trans e17) _ _ hrk'
      have hsk17 := (eT.trans e17) _ _ hsk'
      have E18 := (E16.ex e17).tx (H' := upd H17 R (.dT (putK rk' (kI [t1.1, t1.2.1, t1.2.2]) v3))) st16 (tx_dT hrk17)
      have ex18 : Ex G (upd H17 R (.dT (putK rk' (kI [t1.1, t1.2.1, t1.2.2]) v3))) := Ex.mut (ex16.trans e17) GR
      have uR : upd H17 R (.dT (putK rk' (kI [t1.1, t1.2.1, t1.2.2]) v3)) R = some (.dT (putK rk' (kI [t1.1, t1.2.1, t1.2.2]) v3)) := upd_same
      have uS : upd H17 R (.dT (putK rk' (kI [t1.1, t1.2.1, t1.2.2]) v3)) S = some (.dT sk') := (upd_ne (Ne.symm hRS_)).trans hsk17
      generalize upd H17 R (.dT (putK rk' (kI [t1.1, t1.2.1, t1.2.2]) v3)) = H18 at E18 ex18 uR uS
      refine s_putT (ns := [t2.1, t2.2.1, t2.2.2]) (kvs := sk') (k := .d true (dTri t1)) (evi_var E18 rfl) (evi_fld (k := .v (.ref S)) (evi_var E18 rfl) (ex18 _ _ sg) cls T.n_Parts_sources rfl fun _ _ => rfl) uS (evi_var E18 rfl) (by omega) fun v4 H19 e19 y4 => ?_
      have hsk19 := e19 _ _ uS
      refine ⟨Ex.mut (ex18.trans e19) GS, ⟨some (.d true (dTri t1)), some (.d true (dTri t2)), rfl, rfl, (E18.ex e19).tx st16 (tx_dT hsk19)⟩, ⟨_, (upd_ne hRS_).trans (e19 _ _ uR), ?_, fun k c hkc => ?_⟩, _, upd_same, ?_, fun k c hkc => ?_⟩
      · have := length_putK rk' (kI [t1.1, t1.2.1, t1.2.2]) v3
        omega
      · rw [valV_put, if_neg fun z => ?_]
        · exact hr' k c hkc
        · obtain ⟨u, q1, _⟩ := RG13.final BG13 hkc hkc
          have z2 : k = t1 := kT_inj z
          rw [z2, n1] at q1
          cases q1
      · have := length_putK sk' (kI [t2.1, t2.2.1, t2.2.2]) v4
        omega
      · rw [valV_put, if_neg fun z => ?_]
        · exact hs' k c hkc
        · obtain ⟨u, q1, _⟩ := SG13.final BG13 hkc hkc
          have z2 : c = t2 := kT_inj z
          rw [z2, n2] at q1
          cases q1
    · refine nx H' (Ex13.trans ex) ⟨dx, vs, R, S, ex _ _ sg, ⟨rk', hrk', fun k c hkc => ?_⟩, ⟨sk', hsk', fun c k hkc => ?_⟩⟩
      · obtain ⟨u, q1, q2⟩ := RG13.final BG13 hkc hkc
        exact ⟨u, (hr' k c hkc).trans q1, q2.tx (Tx.of ex)⟩
      · obtain ⟨u, q1, q2⟩ := SG13.final BG13 hkc hkc
        exact ⟨u, (hs' k c hkc).trans q1, q2.tx (Tx.of ex)⟩
end
end Bk

set_option Elab.async false
set_option linter.all false
set_option maxRecDepth 100000
set_option maxHeartbeats 4000000
set_option autoImplicit false
namespace Bk
open PySem PySem.Spec PyProof.Rows L2 Evl
abbrev stairF (mach low : Addr) : List (Str × V) := [("upper", .ref mach), ("lower", .ref low)]
def StairAt (K : PySem.W.Frag) (H : Hp) (x : Addr) (m s : Int) (rows : List Row) (low : Addr) : Prop := ∃ dx mach, H x = some (.ins (He.ga K "PartStair") dx (stairF mach low)) ∧ SeveralAt K H mach m s rows ∧ PartsAt K H low (Ch m rows)
theorem StairAt.ex {K : PySem.W.Frag} {H H' : Hp} {x low : Addr} {m s : Int} {rows : List Row} (h : StairAt K H x m s rows low) (e : Ex H H') : StairAt K H' x m s rows low := by
  obtain ⟨dx, mach, h1, h2, h3⟩ := h
  exact ⟨dx, mach, e _ _ h1, h2.ex e, h3.ex e⟩
section
variable {P : Program} {w : World} {K : PySem.W.Frag} {mg : Str → Option Value} {base : Heap}
theorem sc_PartStair_down : FnScope ["self", "configuration"] ["self", "configuration"] (defScope s_PartStair_down) := ⟨rfl, rfl, rfl, by decide +kernel, rfl, by decide +kernel, by decide +kernel⟩
structure SA where
  x : Addr
  m : Int
  s : Int
  rows : List Row
  low : Addr
abbrev SA.At (K : PySem.W.Frag) (H : Hp) (a : SA) : Prop := StairAt K H a.x a.m a.s a.rows a.low ∧ 2 ≤ a.m ∧ a.m ≤ 4
theorem c_PartStair_down (T : Txt K mg) : CalleeM P w K mg base 3 (He.ga K "PartStair") "down" ["self", "configuration"] (spF K (fun p : SA × Cfg => [.v (.ref p.1.x), .d false (dCfg p.2)]) (fun p H => p.1.At K H ∧ p.2.size ≤ 1000) fun p => .d false (dLine (down p.1.m p.2))) := by
  obtain ⟨fd, F⟩ := T.f_PartStair_down
  refine calleeM_of F T.cl_PartStair T.m_PartStair_down (fun _ _ _ _ _ _ us hl => match us, hl with | [_, _], _ => rfl) (F.ok sc_PartStair_down (fun _ => rfl) fun cdv A outer s H Q E p hr hp => ⟨_, (pss_one (ps_ret (pe_C (c_line_of T) hr (by decide) (by rfl) (pa_cons (pe_fld (pe_fld (pv 0) rfl) rfl) (pa_cons (pe_ix ix_seq (pv 1) pe_int (fun _ _ => rfl)) (pa_cons (pe_ix ix_seq (pe_ix ix_seq (pv 1) pe_int (fun _ _ => rfl)) pe_int (fun _ _ => rfl)) pa_nil)))))), fun σ En0 nx => ?_⟩)
  obtain ⟨⟨x, m, s, rows, low⟩, c⟩ := p
  obtain ⟨⟨⟨dx, mach, h1, ⟨dx2, lr, a, vn, h2, _, _⟩, _⟩, m2, m4⟩, hz⟩ := hp
  simp only at h1 h2 m2 m4 hz
  have En0 : En K H σ [some (.v (.ref x)), some (.d false (dCfg c))] := En0
  exact s_retI (evi_call (m, c) (evia_cons (evi_fld (evi_fld (k := .v (.ref mach)) (evi_var En0 rfl) h1 T.cl_PartStair T.n_PartStair_upper rfl fun _ _ => rfl) h2 T.cl_Several T.n_Several_marks rfl fun _ _ => .int m) (evia_cons (EvI.strong (evi_at (n := 0) (evi_var En0 rfl) rfl)) (evia_cons (evi_ix (EvI.dq (evi_at (n := 1) (evi_var En0 rfl) rfl)) (evi_int (b := true)) (atI_at (j := 0) rfl rfl)) evia_nil))) fun _ _ => ⟨by constructor <;> (simp only; omega), hz⟩) nx
theorem sc_PartStair_up : FnScope ["self", "configuration", "cell", "found"] ["self", "configuration"] (defScope s_PartStair_up) := ⟨rfl, rfl, rfl, by decide +kernel, rfl, by decide +kernel, by decide +kernel⟩
def qD : PyData → PyData
  | .tuple [.int a, _, .int c] => .bool (decide (a = 0) && decide (c = 0))
  | _ => .none
theorem qD_map (L : List Tri) : (L.map dTri).map qD = (L.map fun x => decide (x.1 = 0) && decide (x.2.2 = 0)).map PyData.bool := by
  rw [List.map_map, List.map_map]
  rfl
theorem c_PartStair_up (T : Txt K mg) : CalleeM P w K mg base 4 (He.ga K "PartStair") "up" ["self", "configuration"] (spF K (fun p : SA × List Tri => [.v (.ref p.1.x), .d false (dLine p.2)]) (fun p H => p.1.At K H ∧ p.2.length ≤ 900) fun p => .d false (dOpt (upM p.1.m p.2))) := by
  obtain ⟨fd, F⟩ := T.f_PartStair_up
  refine calleeM_of F T.cl_PartStair T.m_PartStair_up (fun _ _ _ _ _ _ us hl => match us, hl with | [_, _], _ => rfl) (F.ok sc_PartStair_up (fun _ => rfl) fun cdv A outer s H Q E p hr hp => ⟨_, (pss_cons (ps_if (pt_not (pt_val (pe_callB (cr_all rfl) (by rfl) T.z_all (by decide +kernel) (pa_cons (pe_lc (own := [("cell", 2)]) (te := (tAndV (tOp (rEqD K) (tOp (rIx K) (tVar 2) (tC _)) (tC _)) (tOp (rEqD K) (tOp (rIx K) (tVar 2) (tC _)) (tC _)))) (tt := tYes) rfl sc_PartStair_up.nd (pi_tup (pv 1)) (blkOk_by (N := ["self", "configuration", "cell", "found"]) (sc := defScope s_PartStair_up) (by decide +kernel)) (fun _ _ _ _ _ => (pg_name (i := 2) sc_PartStair_up.nd rfl (Or.inl rfl))) (fun _ _ _ _ _ => pts_nil) (fun _ _ _ _ _ => (pe_and (pe_cmpR (op_eqD hr.units) (pe_ix ix_seq (pv 2) pe_int (fun _ _ => rfl)) pe_int (nomark _)) (pe_one (pe_cmpR (op_eqD hr.units) (pe_ix ix_seq (pv 2) pe_int (fun _ _ => rfl)) pe_int (nomark _)))))) pa_nil)))) (pss_one (ps_ret pe_non)) pss_nil)
      (pss_cons (ps_set (i := 3) sc_PartStair_up.nd rfl (Or.inl rfl) (pe_C (c_tape_in T) hr (by decide) (by rfl) (pa_cons (pe_fld (pe_fld (pv 0) rfl) rfl) (pa_cons (pv 1) pa_nil))))
      (pss_one (ps_ret (pe_ifExp (pt_cmpR op_isN (pv 3) pe_non (nomark _)) pe_non (pe_tup (pa_cons (pe_ix ix_seq (pv 3) pe_int (fun _ _ => rfl)) (pa_cons (pe_tup (pa_cons (pe_ix ix_seq (pv 3) pe_int (fun _ _ => rfl)) pa_nil)) pa_nil)))))))), fun σ En0 nx => ?_⟩)
  obtain ⟨⟨x, m, s, rows, low⟩, L⟩ := p
  obtain ⟨⟨⟨dx, mach, h1, ⟨dx2, lr, a, vn, h2, _, _⟩, _⟩, m2, m4⟩, hz⟩ := hp
  simp only at h1 h2 m2 m4 hz
  have En0 : En K H σ [some (.v (.ref x)), some (.d false (.tuple (L.map dTri))), none, none] := En0
  refine q_whenI (c := !quietQ L) En0 (et_is (et_not (evt_B (evi_all (b := true) (EvI.eq (evi_lcT1 (b := true) (b' := false) qD En0 (evi_var En0 rfl) (by rw [List.length_map]; omega) fun d σ2 H2 hd e2 En2 => ?_) (by rw [qD_map]))))) (by rw [all_id]; rfl)) (fun h H1 e1 En1 => ?_) fun h H1 e1 En1 => ?_
  · obtain ⟨⟨i, j, k⟩, _, ed⟩ := List.mem_map.mp hd
    subst ed
    show EvI K _ σ2 H2 (.d true (.bool (decide (i = 0) && decide (k = 0))))
    rw [← eqv_int, ← eqv_int]
    exact evi_and (evi_eq (evi_at (n := 0) (evi_var En2 rfl) rfl) (evi_int (b := true)) (ok_int _).sh (ok_int _).sh) fun _ => evi_eq (evi_at (n := 2) (evi_var En2 rfl) rfl) (evi_int (b := true)) (ok_int _).sh (ok_int _).sh
  · refine s_retI (K := K) (evi_non (b := false)) fun v H2 e2 y => nx v H2 (e1.trans e2) ?_
    have hq : quietQ L = false := by cases q : quietQ L with
      | false => rfl
      | true => rw [q] at h; cases h
    show Is K H2 v (.d false (dOpt (upM m L)))
    unfold upM
    rw [hq]
    exact y
  · have hq : quietQ L = true := by cases q : quietQ L with
      | true => rfl
      | false => rw [q] at h; cases h
    refine q_setI (k := .d false (dST (tapeM m L))) En1 (evi_call (m, L) (evia_cons (evi_fld (evi_fld (k := .v (.ref mach)) (evi_var En1 rfl) (e1 _ _ h1) T.cl_PartStair T.n_PartStair_upper rfl fun _ _ => rfl) (e1 _ _ h2) T.cl_Several T.n_Several_marks rfl fun _ _ => .int m) (evia_cons (evi_var En1 rfl) evia_nil)) fun _ _ => ⟨by constructor <;> (simp only; omega), hz⟩) fun σ2 H2 e2 En2 => ?_
    have eU : upM m L = tapeM m L := by unfold upM; rw [hq]; rfl
    cases ht : tapeM m L with
    | none =>
      rw [ht] at En2 eU
      have En2 : En K H2 σ2 [some (.v (.ref x)), some (.d false (.tuple (L.map dTri))), none, some (.d false .none)] := En2
      refine s_retI (K := K) (k := .d false .none) (evi_if (c := true) (et_is (evt_of (evi_isN (evi_var En2 rfl))) rfl) (fun _ => evi_non (b := false)) fun h => by cases h) fun v H3 e3 y => nx v H3 (e1.trans (e2.trans e3)) ?_
      show Is K H3 v (.d false (dOpt (upM m L)))
      rw [eU]
      exact y
    | some c =>
      rw [ht] at En2 eU
      have En2 : En K H2 σ2 [some (.v (.ref x)), some (.d false (.tuple (L.map dTri))), none, some (.d false (.tuple [.int c.q, dTape c.l c.a c.r]))] := En2
      refine s_retI (k := .d false (dCfg c)) (evi_if (c := false) (et_is (evt_of (evi_isN (evi_var En2 rfl))) rfl) (fun h => by cases h) fun _ => evi_tup2 (evi_at (n := 0) (evi_var En2 rfl) rfl) (evi_tup1 (evi_at (n := 1) (evi_var En2 rfl) rfl))) fun v H3 e3 y => nx v H3 (e1.trans (e2.trans e3)) ?_
      show Is K H3 v (.d false (dOpt (upM m L)))
      rw [eU]
      exact y
theorem sc_PartStair_pace : FnScope ["self", "configuration", "after", "row"] ["self", "configuration"] (defScope s_PartStair_pace) := ⟨rfl, rfl, rfl, by decide +kernel, rfl, by decide +kernel, by decide +kernel⟩
theorem c_PartStair_pace (T : Txt K mg) : CalleeM P w K mg base 5 (He.ga K "PartStair") "pace" ["self", "configuration"] (spF K (fun p : SA × Cfg => [.v (.ref p.1.x), .d false (dCfg p.2)]) (fun p H => p.1.At K H ∧ NoF p.1.rows ∧ p.2.size ≤ 900) fun p => dI (paceM p.1.rows p.2)) := by
  obtain ⟨fd, F⟩ := T.f_PartStair_pace
  refine calleeM_of F T.cl_PartStair T.m_PartStair_pace (fun _ _ _ _ _ _ us hl => match us, hl with | [_, _], _ => rfl) (F.ok sc_PartStair_pace (fun _ => rfl) fun cdv A outer s H Q E p hr hp => ⟨_, (pss_cons (ps_set (i := 2) sc_PartStair_pace.nd rfl (Or.inl rfl) (pe_M (pe_fld (pv 0) rfl) (c_Several_step T) hr (by decide) (pa_cons (pv 1) pa_nil)))
      (pss_cons (ps_if (pt_cmpR op_isN (pv 2) pe_non (nomark _)) (pss_one (ps_ret pe_int)) pss_nil)
      (pss_cons (ps_for PassesOwn.never rfl (pi_list (pe_M0 (pe_fld (pv 0) rfl) (c_Several_table T) hr (by decide))) (pg_name (i := 3) sc_PartStair_pace.nd rfl (Or.inl rfl)) (pss_one (ps_if (PW.pt (pw_and (pt_cmpR (op_eqD hr.units) (pe_ix ix_seq (pv 3) pe_int (fun _ _ => rfl)) (pe_ix ix_seq (pv 1) pe_int (fun _ _ => rfl)) (nomark _)) (pw_and (pt_cmpR (op_eqD hr.units) (pe_ix ix_seq (pv 3) pe_int (fun _ _ => rfl)) pe_str (nomark _)) (pw_and1 (pt_cmpR (op_neD hr.units) (pe_ix ix_seq (pv 3) pe_int (fun _ _ => rfl)) (pe_tup (pa_cons pe_int pa_nil)) (nomark _)))))) (pss_one (ps_ret pe_int)) pss_nil)))
      (pss_one (ps_ret pe_int))))), fun σ En0 nx => ?_⟩)
  obtain ⟨⟨x, m, s, rows, low⟩, c⟩ := p
  obtain ⟨⟨⟨dx, mach, h1, hS, _⟩, m2, m4⟩, hN, hz⟩ := hp
  simp only at h1 hS m2 m4 hN hz
  have hS0 := hS
  obtain ⟨dx2, lr, a, vn, h2, _, _⟩ := hS0
  have En0 : En K H σ [some (.v (.ref x)), some (.d false (dCfg c)), none, none] := En0
  refine q_setI (k := .d false (dOpt (after rows c))) En0 (evi_meth (kr := [.d false (dCfg c)]) (mach, m, s, rows, c) (evi_fld (k := .v (.ref mach)) (evi_var En0 rfl) h1 T.cl_PartStair T.n_PartStair_upper rfl fun _ _ => rfl) h2 rfl (evia_cons (evi_var En0 rfl) evia_nil) rfl fun H1 e1 => ⟨hS.ex e1, hN, hz⟩) fun σ1 H1 e1 En1 => ?_
  have En1 : En K H1 σ1 [some (.v (.ref x)), some (.d false (dCfg c)), some (.d false (dOpt (after rows c))), none] := En1
  refine q_whenI (c := (after rows c).isNone) En1 (et_is (evt_of (evi_isN (evi_var En1 rfl))) (isNone_opt _)) (fun h H2 e2 En2 => ?_) fun h H2 e2 En2 => ?_
  · refine s_retI (K := K) (k := dI 0) evi_int fun v H3 e3 y => nx v H3 (e1.trans (e2.trans e3)) ?_
    have e : paceM rows c = 0 := by unfold paceM; rw [Option.isNone_iff_eq_none.mp h]
    show Is K H3 v (dI (paceM rows c))
    rw [e]
    exact y
  · have ex2 := e1.trans e2
    have e : paceM rows c = if rows.any (goes c) then 2 else 1 := by
      unfold paceM
      cases q : after rows c with
      | none => rw [q] at h; cases h
      | some c' => rfl
    refine q_forLI En2 (evi_meth (kr := []) (mach, m, s, rows) (evi_fld (k := .v (.ref mach)) (evi_var En2 rfl) (ex2 _ _ h1) T.cl_PartStair T.n_PartStair_upper rfl fun _ _ => rfl) (ex2 _ _ h2) rfl evia_nil rfl fun H3 e3 => hS.ex (ex2.trans e3)) (fun i ks => ∃ o, ks = [some (.v (.ref x)), some (.d false (dCfg c)), some (.d false (dOpt (after rows c))), o] ∧ (rows.drop i).any (goes c) = rows.any (goes c)) ⟨_, rfl, rfl⟩ (fun H3 e3 i d ks' σ' H' hd ⟨o, ek, hw⟩ ex En3 => ?_) fun H3 e3 ks' σ' H' ⟨o, ek, hw⟩ ex En3 => ?_
    · subst ek
      obtain ⟨r, hr1, rfl⟩ : ∃ r, rows[i]? = some r ∧ d = dRow r := by
        rw [List.getElem?_map] at hd
        obtain ⟨n, h1, h2⟩ := Option.map_eq_some_iff.mp hd
        exact ⟨n, h1, h2.symm⟩
      obtain ⟨hi, ei⟩ := List.getElem?_eq_some_iff.mp hr1
      have hdrop : rows.drop i = r :: rows.drop (i + 1) := by rw [List.drop_eq_getElem_cons hi, ei]
      rw [hdrop, List.any_cons] at hw
      have En3 : En K H' σ' [some (.v (.ref x)), some (.d false (dCfg c)), some (.d false (dOpt (after rows c))), some (.d true (dRow r))] := En3
      have one : ∀ a a' : Int, decide ([a] = [a']) = decide (a = a') := fun a a' => by simp
      refine s_whenI (c := goes c r) En3 ?_ (fun hg H4 e4 En4 => ?_) fun hg H4 e4 En4 => ?_
      · cases r with
        | wr q a' b t =>
          exact et_is (et_and (evt_of (evi_eq (evi_at (n := 1) (evi_var En3 rfl) rfl) (evi_at (n := 0) (evi_var En3 rfl) rfl) (ok_int _).sh (ok_int _).sh)) fun _ => et_and (a := false) (b := true) (et_is (evt_of (evi_eq (evi_ix (evi_row (evi_var En3 rfl)) (evi_int (b := true)) (row_tag (.wr q a' b t))) (evi_str (b := true)) (ok_tag (.wr q a' b t)).sh ok_move.sh)) (tag_mv (.wr q a' b t))) fun h => by cases h) (by show (_ && (false && true)) = false; rw [Bool.false_and, Bool.and_false])
        | mv q d t =>
          refine et_is (et_and (evt_of (evi_eq (evi_at (n := 1) (evi_var En3 rfl) rfl) (evi_at (n := 0) (evi_var En3 rfl) rfl) (ok_int _).sh (ok_int _).sh)) fun _ => et_and (a := true) (et_is (evt_of (evi_eq (evi_ix (evi_row (evi_var En3 rfl)) (evi_int (b := true)) (row_tag (.mv q d t))) (evi_str (b := true)) (ok_tag (.mv q d t)).sh ok_move.sh)) (tag_mv (.mv q d t))) fun _ => evt_of (evi_ne (evi_at (n := 2) (evi_var En3 rfl) rfl) (evi_tup1 (b := true) (d1 := .int 0) (evi_int (b := true))) (ok_ints [d]).sh (ok_ints [0]).sh)) ?_
          show (PyData.eqv (.int q) (.int c.q) && (true && !PyData.eqv (dInts [d]) (dInts [0]))) = decide (q = c.q ∧ d ≠ 0)
          rw [eqv_int, eqv_ints, one, Bool.true_and, Bool.decide_and, decide_not]
      · refine s_retI (K := K) (k := dI 2) evi_int fun v H5 e5 y => nx v H5 (ex2.trans (e3.trans (ex.trans (e4.trans e5)))) ?_
        show Is K H5 v (dI (paceM rows c))
        rw [e, ← hw, hg]
        exact y
      · rw [hg, Bool.false_or] at hw
        exact ⟨ex.trans e4, _, ⟨some (.d true (dRow r)), rfl, hw⟩, En4⟩
    · subst ek
      rw [List.length_map, List.drop_length] at hw
      refine s_retI (K := K) (k := dI 1) evi_int fun v H5 e5 y => nx v H5 (ex2.trans (e3.trans (ex.trans e5))) ?_
      show Is K H5 v (dI (paceM rows c))
      rw [e, ← hw]
      exact y
end
end Bk

set_option Elab.async false
set_option linter.all false
set_option maxRecDepth 100000
set_option maxHeartbeats 4000000
set_option autoImplicit false
namespace Bk
open PySem PySem.Spec PyProof.Rows L2 Evl
/-- the changes without rows -/
def BaseOf (K : PySem.W.Frag) (H : Hp) (C : Tri → Tri → Prop) (m : Int) (v : V) (H2 : Hp) : Prop := ∃ D ck, v = .ref D ∧ H D = none ∧ H2 D = some (.dT ck) ∧ ck.length ≤ m.toNat ∧ ChD K H2 ck C (Base m)
theorem evp_base {K : PySem.W.Frag} {σ : L2.St} {H : Hp} {ks : List (Option Kd)} {jm jk : Nat} {m : Int} {C : Tri → Tri → Prop} (E : En K H σ ks) (hjm : ks[jm]? = some (some (dI m))) (hjk : jk < ks.length) (hm : 0 ≤ m ∧ m ≤ 1000) (hf : FunR C) (hC : ∀ k c, Base m k c → C k c) :
    EvP (tDcT (iRng1 (tCons (tVar jm) tNil)) (gName jk) (tTup (tCons (tC (.int 0)) (tCons (tVar jk) (tCons (tC (.int 0)) tNil)))) (tTup (tCons (tC (.int 0)) (tCons (tVar jk) (tCons (tC (.int 0)) tNil)))) [jk]) σ H (BaseOf K H C m) := fun H1 e Q q => by
  have En1 := E.ex e
  show iRng1 (tCons (tVar jm) tNil) σ H1 _
  unfold iRng1
  refine ev1 (K := K) (H := H1) (k1 := dI m) (t := tCons (tVar jm) tNil) (σ := σ) (evia_cons (evi_var En1 hjm) evia_nil) H1 (Ex.refl _) _ fun v H2 e2 hv => ?_
  refine ⟨m, by rw [Rp.int_eq hv], by omega, by omega, fun R hR => ?_⟩
  have En2 := En1.ex e2
  refine dcT_it walk_range (fun i H' => Ex H2 (gh H' [R]) ∧ ∃ rk, H' R = some (.dT rk) ∧ rk.length ≤ i ∧ ChD K H' rk C (fun k c => ∃ a : Int, (0 ≤ a ∧ a < (i : Int)) ∧ k = (0, a, 0) ∧ c = (0, a, 0))) ⟨?_, [], upd_same, Nat.le_refl _, ⟨fun kk v h => (by cases h), fun k c ⟨a, ha, _⟩ => absurd ha.2 (by omega), List.nodup_nil⟩⟩ (fun _ _ _ _ => trivial) (fun i x H' H'' hi ⟨ex, rk, hrk, hrl, hB⟩ ⟨eH, exq⟩ => ?_) fun H' ⟨ex, rk, hrk, hrl, hB⟩ => ?_
  · exact gh_up (Ex.new hR) fun p hp => by rw [List.mem_singleton.mp hp]; exact hR
  · subst eH
    have hx : x = .int (i : Int) := by
      rw [exq]
      show V.int (0 + (i : Int)) = _
      rw [Int.zero_add]
    subst hx
    have ex' : Ex H2 H'' := ex.trans gh_ex
    have E2 : En K H'' ((wipe σ [jk]).set jk (some (.int (i : Int)))) (ks.set jk (some (dI (i : Int)))) := by
      have z := ((En2.ex ex').wipe1 jk).set jk (show Is K H'' (.int (i : Int)) (dI (i : Int)) from .int _)
      rw [set_set] at z
      exact z
    have hjk2 : (ks.set jk (some (dI (i : Int))))[jk]? = some (some (dI (i : Int))) := List.getElem?_set_self hjk
    have tri : EvI K (tTup (tCons (tC (.int 0)) (tCons (tVar jk) (tCons (tC (.int 0)) tNil)))) ((wipe σ [jk]).set jk (some (.int (i : Int)))) H'' (.d true (dTri (0, (i : Int), 0))) := evi_tri (evi_int (b := true)) (evi_var E2 hjk2) (evi_int (b := true))
    refine ⟨?_, ?_⟩
    · show ((σ.set jk none).set jk (some _)).set jk none = σ.set jk none
      rw [set_set, set_set]
    · refine tri H'' (Ex.refl _) _ fun y H4 e4 iy => ?_
      refine (tri.mono e4) H4 (Ex.refl _) _ fun z H5 e5 iz => ?_
      obtain ⟨ca, rfl, hca⟩ := rp_tri iy
      have hR5 := (e4.trans e5) _ _ hrk
      have hin : C (0, (i : Int), 0) (0, (i : Int), 0) := hC _ _ ⟨(i : Int), by omega, rfl, rfl⟩
      refine ⟨rk, kT (0, (i : Int), 0), ca, rfl, e5 _ _ hca.trk, hR5, sz_lt (by omega), ?_, _, upd_same, by have := length_putK rk (kT (0, (i : Int), 0)) z; omega, ?_⟩
      · rw [gh_upd List.mem_cons_self]
        exact ex.trans (gh_mono (e4.trans e5))
      · refine (((hB.mono (Tx.of (e4.trans e5))).put hf (fun k c ⟨a, ha, h⟩ => hC k c ⟨a, by omega, h⟩) hin iz).mono (tx_dT hR5)).less fun k c ⟨a, ha, h1, h2⟩ => ?_
        by_cases ea : a = (i : Int)
        · rw [ea] at h1 h2
          exact .inr ⟨h1, h2⟩
        · exact .inl ⟨a, by omega, h1, h2⟩
  · exact q _ _ (e2.trans (ex.trans gh_ex)) ⟨R, rk, rfl, fresh_back (e.trans e2) hR, hrk, hrl, hB.less fun k c ⟨a, ha, h⟩ => ⟨a, by omega, h⟩⟩
theorem _root_.L2.Evl.Ex.ghx {H1 H H' : Hp} {p : Addr} (e : Ex H1 H) (hp : H1 p = none) (g : Ex (gh H [p]) (gh H' [p])) : Ex H1 H' := (gh_up e fun q hq => by rw [List.mem_singleton.mp hq]; exact hp).trans (g.trans gh_ex)
theorem PartsAt.gh {K : PySem.W.Frag} {H : Hp} {p self dx C' : Addr} {v : V} {C : Tri → Tri → Prop} (h : PartsAt K H p C) (hs : H self = some (.ins C' dx [("upper", v)])) : PartsAt K (gh H [self]) p C := by
  obtain ⟨dx1, vs, ar, as, h1, ⟨rk, h2, h3⟩, sk, h4, h5⟩ := h
  have od := odd_ins hs
  have ne : ∀ a o, H a = some o → (∀ C dx, o ≠ .ins C dx [("upper", v)]) → Bk.gh H [self] a = some o := fun a o ha hn => by
    rw [gh_ne (by simpa using fun z => by rw [z, hs] at ha; exact hn _ _ (Option.some.inj ha).symm)]
    exact ha
  refine ⟨dx1, vs, ar, as, ne _ _ h1 fun C dx z => by simp at z, ⟨rk, ne _ _ h2 fun C dx z => (by cases z), fun k c hc => ?_⟩, sk, ne _ _ h4 fun C dx z => (by cases z), fun k c hc => ?_⟩
  · obtain ⟨u, q1, q2⟩ := h3 k c hc
    exact ⟨u, q1, q2.tx (gh_tx od)⟩
  · obtain ⟨u, q1, q2⟩ := h5 k c hc
    exact ⟨u, q1, q2.tx (gh_tx od)⟩
theorem inTri_T {a b c : Int} {t : Tri} (h : inTri a b c t) : inT t (a, b, c) = true := by
  unfold inT
  obtain ⟨h1, h2, h3⟩ := h
  simp only
  rw [inR_t h1.1 (by omega), inR_t h2.1 (by omega), inR_t h3.1 (by omega)]
  rfl
theorem sizes_ok {m s : Int} (m2 : 2 ≤ m) (m4 : m ≤ 4) (s1 : 1 ≤ s) (s5 : s ≤ 5) : (6 ≤ m * (s + 1) - 0 ∨ True) ∧ 4 ≤ m * (s + 1) ∧ m * (s + 1) ≤ 24 ∧ m * (s + 1) * (s + 1) ≤ 144 ∧ 0 ≤ m * (s + 1) * (s + 1) ∧ m * (s + 1) * (s + 1) * (s + 1) ≤ 864 := by
  have step : ∀ p B : Int, 0 ≤ p → p ≤ B → 0 ≤ B → 0 ≤ p * (s + 1) ∧ p * (s + 1) ≤ B * 6 := fun p B h0 h1 h2 => ⟨Int.mul_nonneg h0 (by omega), Int.mul_le_mul h1 (by omega) (by omega) h2⟩
  have a0 : 2 * 2 ≤ m * (s + 1) := Int.mul_le_mul m2 (by omega) (by omega) (by omega)
  obtain ⟨a1, a2⟩ := step m 4 (by omega) m4 (by decide)
  obtain ⟨b1, b2⟩ := step _ _ a1 a2 (by decide)
  obtain ⟨c1, c2⟩ := step _ _ b1 b2 (by decide)
  exact ⟨.inr trivial, a0, a2, b2, b1, c2⟩
section
variable {P : Program} {w : World} {K : PySem.W.Frag} {mg : Str → Option Value} {base : Heap}
theorem sc_PartStair_init : FnScope ["self", "machine", "marks", "states", "pair", "changes", "mark", "row", "key"] ["self", "machine"] (defScope s_PartStair_init) := ⟨rfl, rfl, rfl, by decide +kernel, rfl, by decide +kernel, by decide +kernel⟩
structure SI where
  mach : Addr
  m : Int
  s : Int
  rows : List Row
theorem c_PartStair_init (T : Txt K mg) : CalleeI P w K mg base 5 "PartStair" (He.ga K "PartStair") ["self", "machine"] (spI K (He.ga K "PartStair") (fun p : SI => [.v (.ref p.mach)]) (fun p H => SeveralAt K H p.mach p.m p.s p.rows ∧ Good p.m p.s p.rows ∧ p.rows.length ≤ 14) fun p x H => ∃ low, StairAt K H x p.m p.s p.rows low) := by
  obtain ⟨fd, F⟩ := T.f_PartStair_init
  obtain ⟨tM, h_MOST_TRIPLES⟩ := T.i_MOST_TRIPLES
  refine calleeI_of F T.mk_PartStair T.g_PartStair (fun _ _ _ _ _ _ us hl => match us, hl with | [_, _], _ => rfl) (F.okI sc_PartStair_init (fun _ => rfl) fun cdv A outer st H Q E p self dx H1 hr hp hfr hex hself => ?_)
  have hu := hu_of hr
  refine ⟨_, (pss_cons (ps_if (pt_cmpR (op_neD hr.units) (pe_fld (pv 1) rfl) pe_int (nomark _)) pss_never pss_nil)
      (pss_cons (ps_par (i := 2) (j := 3) rfl sc_PartStair_init.nd rfl rfl (by decide) rfl rfl (pa_cons (pe_fld (pv 1) rfl) (pa_cons (pe_fld (pv 1) rfl) pa_nil)) (by rfl))
      (pss_cons (ps_if (pt_cmpR op_gt (pe_op op_mul (pe_op op_mul (pe_op op_mul (pv 2) (pe_op op_add (pv 3) pe_int)) (pe_op op_add (pv 3) pe_int)) (pe_op op_add (pv 3) pe_int)) (pe_glob (v := .int 40000) rfl h_MOST_TRIPLES ⟨_, rfl⟩) (nomark _)) pss_never pss_nil)
      (pss_cons (ps_set (i := 4) sc_PartStair_init.nd rfl (Or.inl rfl) (pe_C (c_clash T) hr (by decide) (by rfl) (pa_cons (pv 1) pa_nil)))
      (pss_cons (ps_if (pt_cmpR op_notN (pv 4) pe_non (nomark _)) pss_never pss_nil)
      (pss_cons (ps_fld (pv 0) (pv 1) rfl)
      (pss_cons (ps_setDcT (i := 5) (own := [("mark", 6)]) (tk := (tTup (tCons (tC _) (tCons (tVar 6) (tCons (tC _) tNil))))) (tv := (tTup (tCons (tC _) (tCons (tVar 6) (tCons (tC _) tNil))))) hr.units0 rfl sc_PartStair_init.nd rfl rfl (sw_trueD rfl rfl rfl (by decide +kernel)) (pi_range1 rfl T.z_range (pa_cons (pv 2) pa_nil)) (blkOk_by (N := ["self", "machine", "marks", "states", "pair", "changes", "mark", "row", "key"]) (sc := defScope s_PartStair_init) (by decide +kernel)) (fun _ _ _ _ _ => (pg_name (i := 6) sc_PartStair_init.nd rfl (Or.inl rfl))) (fun _ _ _ _ _ => (pe_tup (pa_cons pe_int (pa_cons (pv 6) (pa_cons pe_int pa_nil))))) (fun _ _ _ _ _ => (pe_tup (pa_cons pe_int (pa_cons (pv 6) (pa_cons pe_int pa_nil))))))
      (pss_cons (ps_for PassesOwn.never rfl (pi_list (pe_M0 (pv 1) (c_Several_table T) hr (by decide))) (pg_name (i := 7) sc_PartStair_init.nd rfl (Or.inl rfl)) (pss_one (ps_if (pt_cmpR (op_eqD hr.units) (pe_ix ix_seq (pv 7) pe_int (fun _ _ => rfl)) pe_str (nomark _)) (pss_cons (ps_set (i := 8) sc_PartStair_init.nd rfl (Or.inl rfl) (pe_tup (pa_cons pe_int (pa_cons (pe_C (c_head_letter T) hr (by decide) (by rfl) (pa_cons (pv 2) (pa_cons (pe_ix ix_seq (pv 7) pe_int (fun _ _ => rfl)) (pa_cons (pe_ix ix_seq (pe_ix ix_seq (pv 7) pe_int (fun _ _ => rfl)) pe_int (fun _ _ => rfl)) pa_nil)))) (pa_cons pe_int pa_nil)))))
      (pss_one (ps_dput hu (pv 5) (pv 8) (pe_tup (pa_cons pe_int (pa_cons (pe_C (c_head_letter T) hr (by decide) (by rfl) (pa_cons (pv 2) (pa_cons (pe_ix ix_seq (pv 7) pe_int (fun _ _ => rfl)) (pa_cons (pe_ix ix_seq (pe_ix ix_seq (pv 7) pe_int (fun _ _ => rfl)) pe_int (fun _ _ => rfl)) pa_nil)))) (pa_cons pe_int pa_nil)))) rfl))) (pss_one (ps_expr (pe_M (pv 0) (c_PartStair_add_move T) hr (by decide) (pa_cons (pv 5) (pa_cons (pv 7) pa_nil))))))))
      (pss_one (ps_fld (pv 0) (pe_I (c_Parts_init T) hr (by decide) (by rfl) (pa_cons (pe_tup (pa_cons (pe_op op_add (pv 3) pe_int) (pa_cons (pe_op op_mul (pv 2) (pe_op op_add (pv 3) pe_int)) (pa_cons (pe_op op_add (pv 3) pe_int) pa_nil)))) (pa_cons (pv 5) pa_nil))) rfl)))))))))), fun σ En0 nx => ?_⟩
  obtain ⟨mach, m, s, rows⟩ := p
  obtain ⟨hS, G, hlr⟩ := hp
  simp only at hS G hlr
  have m2 := G.m2
  have m4 := G.m4
  have s1 := G.s1
  have s5 := G.s5
  obtain ⟨_, z1, z2, z3, z4, z5⟩ := sizes_ok m2 m4 s1 s5
  have cls := T.cl_PartStair
  have En0 : En K H1 σ [some (.v (.ref self)), some (.v (.ref mach)), none, none, none, none, none, none, none] := En0
  have E0 := En0.ex hex
  have SF := fun {H9 : Hp} (e9 : Ex H1 H9) => hS.ex e9
  have fld : ∀ {H9 : Hp} {σ9 : L2.St} {ks : List (Option Kd)}, Ex H1 H9 → En K H9 σ9 ks → ks[1]? = some (some (.v (.ref mach))) → EvI K (tFld K (tVar 1) "tapes") σ9 H9 (dI 1) ∧ EvI K (tFld K (tVar 1) "marks") σ9 H9 (dI m) ∧ EvI K (tFld K (tVar 1) "states") σ9 H9 (dI s) := fun e9 E9 h9 => by
    obtain ⟨dx2, lr, a, vn, h2, _, _⟩ := hS.ex e9
    exact ⟨evi_fld (evi_var E9 h9) h2 T.cl_Several T.n_Several_tapes rfl fun _ _ => .int _, evi_fld (evi_var E9 h9) h2 T.cl_Several T.n_Several_marks rfl fun _ _ => .int _, evi_fld (evi_var E9 h9) h2 T.cl_Several T.n_Several_states rfl fun _ _ => .int _⟩
  refine q_whenI (c := false) E0 (et_is (evt_of (evi_ne (fld hex E0 rfl).1 (evi_int (b := true)) (ok_int _).sh (ok_int _).sh)) (by rw [eqv_int]; rfl)) (fun h => by cases h) fun _ H2 e2 E2 => ?_
  refine q_parI E2 (evia_cons (fld (hex.trans e2) E2 rfl).2.1 (evia_cons (fld (hex.trans e2) E2 rfl).2.2 evia_nil)) fun σ3 H3 e3 E3 => ?_
  have E3 : En K H3 σ3 [some (.v (.ref self)), some (.v (.ref mach)), some (dI m), some (dI s), none, none, none, none, none] := E3
  have sp1 : EvI K (tOp (rI0 fun i j => .int (i + j)) (tVar 3) (tC (.int 1))) σ3 H3 (dI (s + 1)) := evi_op0 (evi_var E3 rfl) (evi_int (b := true))
  refine q_whenI (c := false) E3 (et_is (evt_of (evi_cmp (g := fun i j => decide (j < i)) (evi_op (evi_op (evi_op (evi_var E3 rfl) sp1 (.inr (by constructor <;> omega))) sp1 (.inr (by constructor <;> omega))) sp1 (.inr (by constructor <;> omega))) (evi_k (k := dI 40000) (.int _)))) (decide_eq_false (by omega))) (fun h => by cases h) fun _ H4 e4 E4 => ?_
  have ex4 := hex.trans (e2.trans (e3.trans e4))
  refine q_setI (k := .d false .none) E4 (evi_call (mach, m, s, rows) (evia_cons (evi_var E4 rfl) evia_nil) fun H9 e9 => hS.ex (ex4.trans e9)) fun σ5 H5 e5 E5 => ?_
  refine q_whenI (c := false) E5 (et_is (evt_of (evi_notN (evi_var E5 rfl))) rfl) (fun h => by cases h) fun _ H6 e6 E6 => ?_
  have h6 : H6 self = some (.ins (He.ga K "PartStair") dx []) := (e2.trans (e3.trans (e4.trans (e5.trans e6)))) _ _ hself
  have EG6 : Ex H1 (gh H6 [self]) := gh_up (ex4.trans (e5.trans e6)) fun q hq => by rw [List.mem_singleton.mp hq]; exact hfr
  have E6g := E6.gh (odd_ins h6)
  refine q_fldP h6 (evi_var E6 rfl) (EvI.evp (evi_var E6 rfl)) cls T.n_PartStair_upper (by decide) fun v7 H7a H7 e7 y7 _ g7 h7 => ?_
  have y7 : v7 = .ref mach := y7
  subst y7
  have h7 : H7 self = some (.ins (He.ga K "PartStair") dx [("upper", .ref mach)]) := h7
  have g67 := (gh_mono (ps := [self]) e7).trans g7
  have E7 := E6g.ex (g67.trans gh_ex)
  have Ex7 : Ex H1 H7 := EG6.trans (g67.trans gh_ex)
  clear E0 E2 E3 E4 E5 E6 E6g EG6 g67 g7
  -- the changes
  have fC : FunR (Ch m rows) := fun k c c' h h' => ch_fun G h h'
  refine q_setP E7 (evp_base (jm := 2) (jk := 6) (m := m) (C := Ch m rows) E7 rfl (by show 6 < 9; decide) (by omega) fC fun k c h => .inl h) fun v8 σ8 H8 e8 ⟨D, ck, ev, hD, hck, hcl, hB⟩ E8 => ?_
  subst ev
  have E8 : En K H8 σ8 [some (.v (.ref self)), some (.v (.ref mach)), some (dI m), some (dI s), some (.d false .none), some (.v (.ref D)), none, none, none] := E8
  have hD1 : H1 D = none := fresh_back Ex7 hD
  -- the rows
  have Ex8 := Ex7.trans e8
  have h8 := e8 _ _ h7
  obtain ⟨dx2, lr, ta, vn, hm8, _, _⟩ := hS.ex Ex8
  show tFor (iList K _) _ _ _ σ8 H8
  show iList K _ σ8 H8 _
  unfold iList
  refine (evi_meth (kr := []) (mach, m, s, rows) (evi_var E8 rfl) hm8 rfl evia_nil rfl fun H9 e9 => hS.ex (Ex8.trans e9) : EvI K _ σ8 H8 (.l true (rows.map dRow))) H8 (Ex.refl _) _ fun vl H9 e9 ⟨pl, xs, el, hxl, hxs⟩ => ?_
  subst el
  have lx : xs.length = rows.length := by rw [hxs.len, List.length_map]
  have hck9 := e9 _ _ hck
  have od9 : Odd H9 [D] := odd1 hck9 rfl
  have ExG : Ex H1 (gh H9 [D]) := gh_up (Ex8.trans e9) fun q hq => by rw [List.mem_singleton.mp hq]; exact hD1
  have ExS : Ex (gh H7 []) (gh H9 [D]) := gh_up ((gh_ex).trans (e8.trans e9)) fun q hq => by
    rw [List.mem_singleton.mp hq]
    exact (gh_ne (by simp)).trans hD
  have hsG : gh H9 [D] self = some (.ins (He.ga K "PartStair") dx [("upper", .ref mach)]) := ExS _ _ ((gh_ne (by simp)).trans h7)
  have hlG : gh H9 [D] pl = some (.lst xs) := by
    rw [gh_ne (by simpa using fun z => by rw [z, hck9] at hxl; cases hxl)]
    exact hxl
  have hxG := hxs.tx (gh_tx (K := K) od9)
  have gex : Ex (gh H9 [D]) H9 := gh_ex
  have GD : gh H9 [D] D = none := gh_in List.mem_cons_self
  generalize eG : gh H9 [D] = G9 at ExG hsG hlG hxG gex GD
  clear ExS
  refine ⟨pl, rfl, ⟨xs, sq_of hxl⟩, for_it walk_list (fun i σ' H' => Ex G9 H' ∧ (∃ o7 o8, stbK o7 = true ∧ stbK o8 = true ∧ En K H' σ' [some (.v (.ref self)), some (.v (.ref mach)), some (dI m), some (dI s), some (.d false .none), some (.v (.ref D)), none, o7, o8]) ∧ ∃ ck, H' D = some (.dT ck) ∧ ck.length ≤ 4 + 8 * i ∧ ChD K H' ck (Ch m rows) fun k c => Base m k c ∨ ∃ r ∈ rows.take i, RowCh m k c r)
    ⟨gex, ⟨_, _, rfl, rfl, E8.ex e9⟩, ck, hck9, by omega, (hB.mono (Tx.of e9)).less fun k c h => h.elim id fun ⟨r, hr, _⟩ => by cases hr⟩ (fun i σ' H' _ h => sq_of (h.1 _ _ hlG)) (fun i x σ' H' H'' hlt ⟨ex, ⟨o7, o8, s7, s8, En9⟩, ck, hck, hcl, hB⟩ ⟨eH, hx⟩ => ?_) fun σ' H' ⟨ex, ⟨o7, o8, s7, s8, En9⟩, ck, hck, hcl, hB⟩ => ?_⟩
  · subst eH
    obtain ⟨d, hd, hx'⟩ := hxG.getV hx
    obtain ⟨r, hr1, rfl⟩ : ∃ r, rows[i]? = some r ∧ d = dRow r := by
      rw [List.getElem?_map] at hd
      obtain ⟨n, h1, h2⟩ := Option.map_eq_some_iff.mp hd
      exact ⟨n, h1, h2.symm⟩
    have hi : i < rows.length := (List.getElem?_eq_some_iff.mp hr1).1
    have hrm : r ∈ rows := List.mem_of_getElem? hr1
    have et : rows.take (i + 1) = rows.take i ++ [r] := by rw [List.take_add_one, hr1]; rfl
    have more : ∀ k c, (Base m k c ∨ ∃ r ∈ rows.take (i + 1), RowCh m k c r) → (Base m k c ∨ ∃ r ∈ rows.take i, RowCh m k c r) ∨ RowCh m k c r := fun k c h => by
      rcases h with h | ⟨r', h1, h2⟩
      · exact .inl (.inl h)
      · rw [et] at h1
        rcases List.mem_append.mp h1 with h1 | h1
        · exact .inl (.inr ⟨r', h1, h2⟩)
        · rw [List.mem_singleton.mp h1] at h2
          exact .inr h2
    have hDn : ∀ k c, (Base m k c ∨ ∃ r ∈ rows.take i, RowCh m k c r) → Ch m rows k c := fun k c h => h.imp id fun ⟨r', h1, h2⟩ => ⟨r', List.mem_of_mem_take h1, h2⟩
    have hrC : ∀ k c, RowCh m k c r → Ch m rows k c := fun k c h => .inr ⟨r, hrm, h⟩
    have E10 : En K H'' (σ'.set 7 (some x)) [some (.v (.ref self)), some (.v (.ref mach)), some (dI m), some (dI s), some (.d false .none), some (.v (.ref D)), none, some (.d true (dRow r)), o8] := En9.set 7 (k := .d true (dRow r)) (Rp.tx (Tx.of ex) hx')
    refine s_ifI (c := r.isWr) E10 (et_is (evt_of (evi_eq (evi_ix (evi_row (evi_var E10 rfl)) (evi_int (b := true)) (row_tag r)) (evi_str (b := true)) (ok_tag r).sh ok_write.sh)) (tag_wr r)) (fun h H11 e11 E11 => ?_) fun h H11 e11 E11 => ?_
    · cases r with
      | mv q d t => cases h
      | wr q a b t =>
        have row : ∀ {σ : L2.St} {H : Hp} {ks : List (Option Kd)}, En K H σ ks → ks[7]? = some (some (.d true (dRow (.wr q a b t)))) → EvI K (tVar 7) σ H (.d true (.tuple [.str "write", .int q, dInts [a], dInts [b], .int t])) := fun E h => evi_var E h
        refine q_setI (k := .d true (dTri (0, hl m q a, 0))) E11 (evi_tri (evi_int (b := true)) (evi_call (m, q, a) (evia_cons (evi_var E11 rfl) (evia_cons (evi_at (n := 1) (row E11 rfl) rfl) (evia_cons (evi_ix (EvI.dq (evi_at (n := 2) (row E11 rfl) rfl)) (evi_int (b := true)) (atI_at (j := 0) rfl rfl)) evia_nil))) fun _ _ => by constructor <;> (simp only; omega)) (evi_int (b := true))) fun σ12 H12 e12 E12 => ?_
        have E12 : En K H12 σ12 [some (.v (.ref self)), some (.v (.ref mach)), some (dI m), some (dI s), some (.d false .none), some (.v (.ref D)), none, some (.d true (dRow (.wr q a b t))), some (.d true (dTri (0, hl m q a, 0)))] := E12
        refine s_putT (ns := [0, hl m q a, 0]) (kvs := ck) (k := .d true (dTri (0, hl m t b, 0))) (evi_tri (evi_int (b := true)) (evi_call (m, t, b) (evia_cons (evi_var E12 rfl) (evia_cons (evi_at (n := 4) (row E12 rfl) rfl) (evia_cons (evi_ix (EvI.dq (evi_at (n := 3) (row E12 rfl) rfl)) (evi_int (b := true)) (atI_at (j := 0) rfl rfl)) evia_nil))) fun _ _ => by constructor <;> (simp only; omega)) (evi_int (b := true))) (evi_var E12 rfl) ((e11.trans e12) _ _ hck) (evi_var E12 rfl) (by omega) fun v H13 e13 y => ?_
        have e113 := e11.trans (e12.trans e13)
        have hck13 := e113 _ _ hck
        refine ⟨Ex.mut (ex.trans e113) GD, ⟨some (.d true (dRow (.wr q a b t))), some (.d true (dTri (0, hl m q a, 0))), rfl, rfl, (E12.ex e13).tx rfl (tx_dT hck13)⟩, _, upd_same, ?_, (((hB.mono (Tx.of e113)).put fC hDn (hrC (0, hl m q a, 0) _ ⟨rfl, rfl⟩) y).mono (tx_dT hck13)).less fun k c hk => (more k c hk).imp id fun h => h⟩
        have := length_putK ck (kI [0, hl m q a, 0]) v
        omega
    · cases r with
      | wr q a b t => cases h
      | mv q d t =>
        have ro := G.ok _ hrm
        have exm := ex.trans e11
        refine s_methM (kr := [.v (.ref D), .d true (dRow (.mv q d t))]) ({ self := self, ch := D, mach := mach, m := m, s := s, q := q, d := d, t := t, C := Ch m rows, Dn := fun k c => Base m k c ∨ ∃ r ∈ rows.take i, RowCh m k c r, B := 4 + 8 * i } : AM) (evi_var E11 rfl) (exm _ _ hsG) rfl (evia_cons (evi_var E11 rfl) (evia_cons (evi_var E11 rfl) evia_nil)) rfl (fun H12 e12 => ?_) fun H12 H13 e12 ⟨g13, ck', hck', hB', hcl'⟩ => ?_
        · obtain ⟨dx3, lr3, ta3, vn3, hm3, _, _⟩ := hS.ex (ExG.trans (exm.trans e12))
          refine ⟨⟨dx, _, (exm.trans e12) _ _ hsG, rfl, rfl⟩, ⟨dx3, _, hm3, rfl, rfl, rfl⟩, ⟨m2, m4⟩, ro.2.1, ⟨ck, (e11.trans e12) _ _ hck, hB.mono (Tx.of (e11.trans e12)), hcl⟩, fC, fun k c h => h.elim (hDn k c) (hrC k c), by simp only; omega⟩
        · have g13 : Ex (gh H12 [D]) (gh H13 [D]) := g13
          have gG : Ex G9 (gh H12 [D]) := gh_up (exm.trans e12) fun q hq => by rw [List.mem_singleton.mp hq]; exact GD
          refine ⟨(gG.trans g13).trans gh_ex, ⟨some (.d true (dRow (.mv q d t))), o8, rfl, s8, ?_⟩, ck', hck', by simp only at hcl'; omega, hB'.less fun k c hk => more k c hk⟩
          exact (((E11.ex e12).gh (odd1 ((e11.trans e12) _ _ hck) rfl)).ex g13).ex gh_ex
  · rw [lx, List.take_length] at hB
    rw [lx] at hcl
    have hsH := ex _ _ hsG
    have bA : (((s + 1).toNat : Nat) : Int) = s + 1 := by omega
    have bB : (((m * (s + 1)).toNat : Nat) : Int) = m * (s + 1) := by omega
    have sp2 : EvI K (tOp (rI0 fun i j => .int (i + j)) (tVar 3) (tC (.int 1))) σ' H' (dI (s + 1)) := evi_op0 (evi_var En9 rfl) (evi_int (b := true))
    dsimp only
    refine s_fldP (P := fun v H2 => ∃ x, v = .ref x ∧ PartsAt K H2 x (Ch m rows)) hsH (evi_var En9 rfl) ?_ cls T.n_PartStair_lower (by show 1 < 1000; decide) fun v10 H10a H10 e10 ⟨low, ev, hP⟩ h10a g10 h10 => ?_
    · refine evp_make ({ a := (s + 1).toNat, b := (m * (s + 1)).toNat, c := (s + 1).toNat, ch := D, C := Ch m rows } : PIn) ?_ ?_
      · refine evia_cons (EvI.eq (evi_tri (b := true) sp2 (evi_op (C := CMul) (g := fun i j => i * j) (evi_var En9 rfl) sp2 (.inr (by constructor <;> omega))) sp2) ?_) (evia_cons (evi_var En9 rfl) evia_nil)
        simp only [bA, bB]
      · intro H9 e9
        refine ⟨⟨?_, ?_, ?_, fC, fun k k' c h h' => ch_inj G h h', .inl ⟨0, by omega, rfl, rfl⟩, fun k v h => ?_⟩, ck, e9 _ _ hck, ?_, ?_⟩
        · simp only; omega
        · simp only; omega
        · simp only; omega
        · obtain ⟨i1, i2⟩ := ch_in G h
          simp only [bA, bB]
          exact ⟨inTri_T i1, inTri_T i2⟩
        · exact (hB.mono (Tx.of e9)).less fun k c h => h
        · omega
    · subst ev
      refine nx H10 ((ExG.trans (ex.trans e10)).ghx hfr g10) ⟨low, dx, mach, h10, ?_, ?_⟩
      · exact hS.ex ((ExG.trans (ex.trans e10)).ghx hfr g10)
      · exact (hP.gh h10a).ex (g10.trans gh_ex)
end
end Bk

set_option Elab.async false
set_option linter.all false
set_option maxRecDepth 100000
set_option maxHeartbeats 4000000
set_option autoImplicit false
namespace Bk
open PySem PySem.Spec PyProof.Rows L2 Evl
section
variable {b : Bool} {K : PySem.W.Frag} {mg : Str → Option Value} {σ : L2.St} {H : Hp} {ta tb tc te : TE} {E : XK} {x low C : Addr} {m s : Int} {rows : List Row} {L L' : List Tri} {c : Cfg} {ks : List (Option Kd)} {D : Ends} {tz : TS}
theorem evi_low (T : Txt K mg) (h : EvI K ta σ H (.v (.ref x))) (S : StairAt K H x m s rows low) : EvI K (tFld K ta "lower") σ H (.v (.ref low)) := by
  obtain ⟨dx, mach, h1, h2, h3⟩ := S
  exact evi_fld h h1 T.cl_PartStair T.n_PartStair_lower rfl fun _ _ => rfl
theorem evi_step (T : Txt K mg) (h : EvI K ta σ H (.v (.ref x))) (S : StairAt K H x m s rows low) (hl : EvI K tb σ H (.d false (dLine L))) (hs : StepR (Ch m rows) L L') (hn : L.length ≤ 900) :
    EvI K (tMeth (He.ga K "Parts") "step" (spF K (fun p : LC => [.v (.ref p.1), .d false (dLine p.2.2.1)]) (fun p H => PartsAt K H p.1 p.2.1 ∧ StepR p.2.1 p.2.2.1 p.2.2.2 ∧ p.2.2.1.length ≤ 900) fun p => .d false (dLine p.2.2.2)) [] E (tFld K ta "lower") (tCons tb tNil)) σ H (.d false (dLine L')) := by
  have PA := S.choose_spec.choose_spec.2.2
  obtain ⟨dx, vs, ar, as, hp, _, _⟩ := id PA
  exact evi_meth (f := fun p : LC => .d false (dLine p.2.2.2)) (kr := [.d false (dLine L)]) ((low, Ch m rows, L, L') : LC) (evi_low T h S) hp rfl (evia_cons hl evia_nil) rfl fun H1 e1 => ⟨PA.ex e1, hs, hn⟩
theorem evi_back (T : Txt K mg) (h : EvI K ta σ H (.v (.ref x))) (S : StairAt K H x m s rows low) (G : Good m s rows) (hl : EvI K tb σ H (.d false (dLine L))) (hs : BackR (Ch m rows) L L') (hn : L.length ≤ 900) :
    EvI K (tMeth (He.ga K "Parts") "back" (spF K (fun p : LC => [.v (.ref p.1), .d false (dLine p.2.2.1)]) (fun p H => PartsAt K H p.1 p.2.1 ∧ InjR p.2.1 ∧ BackR p.2.1 p.2.2.1 p.2.2.2 ∧ p.2.2.1.length ≤ 900) fun p => .d false (dLine p.2.2.2)) [] E (tFld K ta "lower") (tCons tb tNil)) σ H (.d false (dLine L')) := by
  have PA := S.choose_spec.choose_spec.2.2
  obtain ⟨dx, vs, ar, as, hp, _, _⟩ := id PA
  exact evi_meth (f := fun p : LC => .d false (dLine p.2.2.2)) (kr := [.d false (dLine L)]) ((low, Ch m rows, L, L') : LC) (evi_low T h S) hp rfl (evia_cons hl evia_nil) rfl fun H1 e1 => ⟨PA.ex e1, fun k k' c h h' => ch_inj G h h', hs, hn⟩
theorem evi_run (T : Txt K mg) (h : EvI K ta σ H (.v (.ref x))) (S : StairAt K H x m s rows low) {f : Nat → List Tri} {n : Nat} (hl : EvI K tb σ H (.d false (dLine (f 0)))) (hc : EvI K tc σ H (dI (n : Int))) (hs : ∀ i < n, StepR (Ch m rows) (f i) (f (i + 1)) ∧ (f i).length ≤ 900) (hn : n ≤ 1000) :
    EvI K (tMeth (He.ga K "Parts") "run" (spF K (fun p : LP => [.v (.ref p.1), .d false (dLine (p.2.2.1 0)), dI (p.2.2.2 : Int)]) (fun p H => PartsAt K H p.1 p.2.1 ∧ (∀ i < p.2.2.2, StepR p.2.1 (p.2.2.1 i) (p.2.2.1 (i + 1)) ∧ (p.2.2.1 i).length ≤ 900) ∧ p.2.2.2 ≤ 1000) fun p => .d false (dLine (p.2.2.1 p.2.2.2))) [] E (tFld K ta "lower") (tCons tb (tCons tc tNil))) σ H (.d false (dLine (f n))) := by
  have PA := S.choose_spec.choose_spec.2.2
  obtain ⟨dx, vs, ar, as, hp, _, _⟩ := id PA
  exact evi_meth (f := fun p : LP => .d false (dLine (p.2.2.1 p.2.2.2))) (kr := [.d false (dLine (f 0)), dI (n : Int)]) ((low, Ch m rows, f, n) : LP) (evi_low T h S) hp rfl (evia_cons hl (evia_cons hc evia_nil)) rfl fun H1 e1 => ⟨PA.ex e1, hs, hn⟩
theorem evi_runb (T : Txt K mg) (h : EvI K ta σ H (.v (.ref x))) (S : StairAt K H x m s rows low) (G : Good m s rows) {f : Nat → List Tri} {n : Nat} (hl : EvI K tb σ H (.d false (dLine (f 0)))) (hc : EvI K tc σ H (dI (n : Int))) (hs : ∀ i < n, BackR (Ch m rows) (f i) (f (i + 1)) ∧ (f i).length ≤ 900) (hn : n ≤ 1000) :
    EvI K (tMeth (He.ga K "Parts") "run_back" (spF K (fun p : LP => [.v (.ref p.1), .d false (dLine (p.2.2.1 0)), dI (p.2.2.2 : Int)]) (fun p H => PartsAt K H p.1 p.2.1 ∧ InjR p.2.1 ∧ (∀ i < p.2.2.2, BackR p.2.1 (p.2.2.1 i) (p.2.2.1 (i + 1)) ∧ (p.2.2.1 i).length ≤ 900) ∧ p.2.2.2 ≤ 1000) fun p => .d false (dLine (p.2.2.1 p.2.2.2))) [] E (tFld K ta "lower") (tCons tb (tCons tc tNil))) σ H (.d false (dLine (f n))) := by
  have PA := S.choose_spec.choose_spec.2.2
  obtain ⟨dx, vs, ar, as, hp, _, _⟩ := id PA
  exact evi_meth (f := fun p : LP => .d false (dLine (p.2.2.1 p.2.2.2))) (kr := [.d false (dLine (f 0)), dI (n : Int)]) ((low, Ch m rows, f, n) : LP) (evi_low T h S) hp rfl (evia_cons hl (evia_cons hc evia_nil)) rfl fun H1 e1 => ⟨PA.ex e1, fun k k' c h h' => ch_inj G h h', hs, hn⟩
theorem evi_up (T : Txt K mg) (h : EvI K ta σ H (.v (.ref x))) (S : StairAt K H x m s rows low) (G : Good m s rows) (hl : EvI K tb σ H (.d false (dLine L))) (hn : L.length ≤ 900) :
    EvI K (tMeth (He.ga K "PartStair") "up" (spF K (fun p : SA × List Tri => [.v (.ref p.1.x), .d false (dLine p.2)]) (fun p H => p.1.At K H ∧ p.2.length ≤ 900) fun p => .d false (dOpt (upM p.1.m p.2))) [] E ta (tCons tb tNil)) σ H (.d false (dOpt (upM m L))) := by
  obtain ⟨dx, mach, h1, _, _⟩ := id S
  exact evi_meth (f := fun p : SA × List Tri => .d false (dOpt (upM p.1.m p.2))) (kr := [.d false (dLine L)]) ((⟨x, m, s, rows, low⟩, L) : SA × List Tri) h h1 rfl (evia_cons hl evia_nil) rfl fun H1 e1 => ⟨⟨S.ex e1, G.m2, G.m4⟩, hn⟩
theorem evi_down (T : Txt K mg) (h : EvI K ta σ H (.v (.ref x))) (S : StairAt K H x m s rows low) (G : Good m s rows) (hl : EvI K tb σ H (.d false (dCfg c))) (hn : c.size ≤ 1000) :
    EvI K (tMeth (He.ga K "PartStair") "down" (spF K (fun p : SA × Cfg => [.v (.ref p.1.x), .d false (dCfg p.2)]) (fun p H => p.1.At K H ∧ p.2.size ≤ 1000) fun p => .d false (dLine (down p.1.m p.2))) [] E ta (tCons tb tNil)) σ H (.d false (dLine (down m c))) := by
  obtain ⟨dx, mach, h1, _, _⟩ := id S
  exact evi_meth (f := fun p : SA × Cfg => .d false (dLine (down p.1.m p.2))) (kr := [.d false (dCfg c)]) ((⟨x, m, s, rows, low⟩, c) : SA × Cfg) h h1 rfl (evia_cons hl evia_nil) rfl fun H1 e1 => ⟨⟨S.ex e1, G.m2, G.m4⟩, hn⟩
theorem evi_pace (T : Txt K mg) (h : EvI K ta σ H (.v (.ref x))) (S : StairAt K H x m s rows low) (G : Good m s rows) (hl : EvI K tb σ H (.d false (dCfg c))) (hn : c.size ≤ 900) :
    EvI K (tMeth (He.ga K "PartStair") "pace" (spF K (fun p : SA × Cfg => [.v (.ref p.1.x), .d false (dCfg p.2)]) (fun p H => p.1.At K H ∧ NoF p.1.rows ∧ p.2.size ≤ 900) fun p => dI (paceM p.1.rows p.2)) [] E ta (tCons tb tNil)) σ H (dI (paceM rows c)) := by
  obtain ⟨dx, mach, h1, _, _⟩ := id S
  exact evi_meth (f := fun p : SA × Cfg => dI (paceM p.1.rows p.2)) (kr := [.d false (dCfg c)]) ((⟨x, m, s, rows, low⟩, c) : SA × Cfg) h h1 rfl (evia_cons hl evia_nil) rfl fun H1 e1 => ⟨⟨S.ex e1, G.m2, G.m4⟩, G.nf, hn⟩
/-- C(D(..)) -/
theorem evp_make1 {α : Type} {kf : α → List Kd} {pre : α → Hp → Prop} {At : α → Addr → Hp → Prop} {P : Addr → Hp → Prop} (mk : Addr → α) (h : EvP te σ H fun v H2 => ∃ x, v = .ref x ∧ P x H2) (hk : ∀ x, kf (mk x) = [.v (.ref x)]) (hp : ∀ x H1, P x H1 → pre (mk x) H1) : EvP (tMake C (spI K C kf pre At) [] E (tCons te tNil)) σ H fun v H2 => ∃ x y, v = .ref y ∧ At (mk x) y H2 := fun H1 e Q q =>
  h H1 e _ fun v H2 x ⟨y, ey, py⟩ => fun o dx ho hdx hne => by
    subst ey
    have e1 : Ex H2 (upd H2 dx (.own o)) := Ex.new hdx
    have ho2 : upd H2 dx (.own o) o = none := (upd_ne (Ne.symm hne)).trans ho
    have e2 := e1.trans (Ex.new (o := .ins C dx []) ho2)
    exact ⟨mk y, o, dx, H2, [.ref y], rfl, ho, e2, upd_same, by rw [hk]; exact .cons rfl .nil, hp y H2 py, fun H3 e3 hA => ⟨rfl, q _ H3 (x.trans e3) ⟨y, o, rfl, hA⟩⟩⟩
/-- lines, total = [line], 0 -/
theorem q_parNew {i j : Nat} {d : PyData} (En0 : En K H σ ks) (h : EvI K te σ H (.d b d)) (nx : ∀ p σ' H0 H', Ex H H0 → Own K H0 H' p b [d] → En K H' σ' ((ks.set i (some (.v (.ref p)))).set j (some (dI 0))) → tz D σ' H') : tSeq (tPar i j (tCons (tLst (tCons te tNil)) (tCons (tC (.int 0)) tNil))) tz D σ H :=
  h H (Ex.refl H) _ fun v H1 e y => ⟨sz_of (by show 1 ≤ 100000; decide), fun p hp => ⟨_, _, rfl, nx p _ H1 _ e ⟨hp, Ex.new hp, _, upd_same, .cons (Rp.tx (Tx.of (Ex.new hp)) y) .nil⟩ ((((En0.ex e).ex (Ex.new hp)).set i (k := .v (.ref p)) rfl).set j (k := dI 0) (.int 0))⟩⟩
/-- the script's numbers -/
def nums (ns : List Int) : List Int := (ns.drop (HT.sIx ns.length 0 (some 2))).take (HT.sIx ns.length ns.length (some 16) - HT.sIx ns.length 0 (some 2))
theorem nums_len (ns : List Int) : (nums ns).length ≤ 14 := by
  unfold nums
  have h1 : HT.sIx ns.length 0 (some 2) = min 2 ns.length := HT.sIx_nat ns.length 0 2
  have h2 : HT.sIx ns.length ns.length (some 16) = min 16 ns.length := HT.sIx_nat ns.length ns.length 16
  rw [List.length_take, List.length_drop, h1, h2]
  omega
theorem evi_nums {ns : List Int} {a : Addr} {r' : V → Option Int → Option Int → Hp → VK → Prop} (ha : EvI K te σ H (.v (.ref a))) (hS : SqL K H a (ns.map V.int)) : EvI K (tSl (fun x lo hi H Q => rSlL K x lo hi H Q ∨ r' x lo hi H Q) te (tPart (tC (.int 2))) (tPart (tC (.int 16)))) σ H (.l true ((nums ns).map .int)) := fun H1 e Q q =>
  ha.evV H1 e _ fun H2 x => (evo_some (K := K) (σ := σ) (H := H) (evi_int (b := true) (i := 2))) H2 (e.trans x) _ fun H3 x2 => (evo_some (K := K) (σ := σ) (H := H) (evi_int (b := true) (i := 16))) H3 ((e.trans x).trans x2) _ fun H4 x3 =>
    .inl ⟨a, ns.map V.int, rfl, ex_l ((e.trans x).trans (x2.trans x3)) hS, fun p hp => q _ _ ((x.trans (x2.trans x3)).trans (Ex.new hp)) ⟨p, _, rfl, upd_same, by
      have z := (RpA.ints (b := true) (K := K) (H := upd H4 p (.lst (cutV (ns.map V.int) (some 2) (some 16)))) ns).cut (some 2) (some 16)
      have e : cutD (ns.map PyData.int) (some 2) (some 16) = (nums ns).map PyData.int := by
        unfold cutD nums
        rw [List.length_map, List.map_take, List.map_drop]
      rw [e] at z
      exact z⟩⟩
theorem evi_scr {ns : List Int} {a : Addr} (ha : EvI K te σ H (.v (.ref a))) (hS : SqL K H a (ns.map V.int)) : EvI K te σ H (.q false (ns.map .int)) := fun H1 e Q q => ha.evV H1 e _ fun H2 x => q _ H2 x ⟨a, _, rfl, .inl (ex_l (e.trans x) hS), RpA.ints ns⟩
end
/-- a path of lines -/
structure PathOk (C : Tri → Tri → Prop) (f : Nat → List Tri) (n : Nat) : Prop where
  st : ∀ j < n, StepR C (f j) (f (j + 1))
  bk : ∀ j < n, BackR C (f (j + 1)) (f j)
  ln : ∀ j ≤ n, (f j).length ≤ 900
theorem PathOk.snoc {C : Tri → Tri → Prop} {f : Nat → List Tri} {n : Nat} {L : List Tri} (h : PathOk C f n) (hs : StepR C (f n) L) (hb : BackR C L (f n)) (hl : L.length ≤ 900) : PathOk C (fun j => if j ≤ n then f j else L) (n + 1) := by
  refine ⟨fun j hj => ?_, fun j hj => ?_, fun j hj => ?_⟩
  · by_cases e : j < n
    · simp only [if_pos (show j ≤ n by omega), if_pos (show j + 1 ≤ n by omega)]
      exact h.st j e
    · have : j = n := by omega
      subst this
      simp only [if_pos (Nat.le_refl j), if_neg (show ¬ j + 1 ≤ j by omega)]
      exact hs
  · by_cases e : j < n
    · simp only [if_pos (show j ≤ n by omega), if_pos (show j + 1 ≤ n by omega)]
      exact h.bk j e
    · have : j = n := by omega
      subst this
      simp only [if_pos (Nat.le_refl j), if_neg (show ¬ j + 1 ≤ j by omega)]
      exact hb
  · by_cases e : j ≤ n
    · simp only [if_pos e]
      exact h.ln j e
    · simp only [if_neg e]
      exact hl
theorem snoc_old {f : Nat → List Tri} {n j : Nat} {L : List Tri} (h : j ≤ n) : (fun j => if j ≤ n then f j else L) j = f j := if_pos h
theorem snoc_new {f : Nat → List Tri} {n j : Nat} {L : List Tri} (h : ¬ j ≤ n) : (fun j => if j ≤ n then f j else L) j = L := if_neg h
/-- the stair's next steps -/
theorem next_path {m s : Int} {rows : List Row} (G : Good m s rows) {c c' : Cfg} (hc : c.Ok m s) (ha : after rows c = some c') {f : Nat → List Tri} {n : Nat} (hp : PathOk (Ch m rows) f n) (hf : f n = down m c) (hz : c.size ≤ 800) :
    ∃ (p : Nat) (f' : Nat → List Tri), paceM rows c = (p : Int) ∧ (p = 1 ∨ p = 2) ∧ PathOk (Ch m rows) f' (n + p) ∧ (∀ j ≤ n, f' j = f j) ∧ f' (n + p) = down m c' ∧ (∀ j, j + 1 < p → upM m (f' (n + j + 1)) = none) := by
  have hz' : c'.size ≤ c.size + 1 := by
    obtain ⟨r, hr, ap, e⟩ := after_some ha
    rw [e]
    exact Row.act_size c r
  have hd' : (down m c').length ≤ 900 := by rw [down_len]; omega
  rcases stair G hc ha with h | ⟨M, h⟩
  · refine ⟨1, _, h.p, .inl rfl, hp.snoc (L := down m c') (by rw [hf]; exact h.f) (by rw [hf]; exact h.b) hd', fun j hj => snoc_old hj, snoc_new (by omega), fun j hj => by omega⟩
  · have p1 := hp.snoc (L := M) (by rw [hf]; exact h.f1) (by rw [hf]; exact h.b1) (by rw [h.n]; omega)
    have e1 : (fun j => if j ≤ n then f j else M) (n + 1) = M := snoc_new (by omega)
    have p2 := p1.snoc (L := down m c') (by simp only [if_neg (show ¬ n + 1 ≤ n by omega)]; exact h.f2) (by simp only [if_neg (show ¬ n + 1 ≤ n by omega)]; exact h.b2) hd'
    refine ⟨2, _, h.p, .inr rfl, p2, fun j hj => ?_, ?_, fun j hj => ?_⟩
    · simp only [if_pos (show j ≤ n + 1 by omega), if_pos hj]
    · simp only [if_neg (show ¬ n + 2 ≤ n + 1 by omega)]
    · have : j = 0 := by omega
      subst this
      simp only [if_pos (show n + 0 + 1 ≤ n + 1 by omega), if_neg (show ¬ n + 0 + 1 ≤ n by omega)]
      exact h.u
end Bk

set_option Elab.async false
set_option linter.all false
set_option maxRecDepth 100000
set_option maxHeartbeats 4000000
set_option autoImplicit false
namespace Bk
open PySem PySem.Spec PyProof.Rows L2 Evl
theorem lines_ext {f f' : Nat → List Tri} {n : Nat} (h : ∀ j ≤ n, f' j = f j) : (List.range (n + 1)).map (fun j => dLine (f j)) = (List.range (n + 1)).map fun j => dLine (f' j) :=
  List.map_congr_left fun j hj => by rw [h j (by have := List.mem_range.mp hj; omega)]
theorem lines_get {f : Nat → List Tri} {n j : Nat} (h : j ≤ n) : ((List.range (n + 1)).map fun j => dLine (f j))[j]? = some (dLine (f j)) := by
  rw [List.getElem?_map, List.getElem?_range (by omega)]
  rfl
section
variable {P : Program} {w : World} {K : PySem.W.Frag} {mg : Str → Option Value} {base : Heap}
theorem sc_law : FnScope ["_law_script", "_law_number", "_law_sizes_here", "_law_rows_here", "_law_stair", "_law_upper", "_law_line", "_law_lines", "_law_total", "_law_k", "_law_after_here", "_law_pace", "_law_j", "_law_before"] ["_law_script"] (defScope s_law) := ⟨rfl, rfl, rfl, by decide +kernel, rfl, by decide +kernel, by decide +kernel⟩
theorem ok_law (T : Txt K mg) {fd : FuncData} (F : FnP K "law" "law" s_law (He.ga K "law") fd) : FnOk P w K mg base CX0 7 (He.ga K "law") fd ["_law_script"] (spR K (fun p : Addr × List Int => [.v (.ref p.1)]) (fun p H => SqL K H p.1 (p.2.map V.int)) fun _ v _ => v = .bl true) := by
  refine F.okR sc_law (fun _ => rfl) fun cdv A outer st H Q E p hr hp => ?_
  refine ⟨_, (pss_cons (ps_set (i := 1) sc_law.nd rfl (Or.inl rfl) (pe_op op_mod (pe_callTy call_int1 (by rfl) T.z_int (by decide +kernel) (pa_cons (pe_C (c_law_cell T) hr (by decide) (by rfl) (pa_cons (pv 0) (pa_cons pe_int pa_nil))) pa_nil)) pe_int))
      (pss_cons (ps_set (i := 2) sc_law.nd rfl (Or.inl rfl) (pe_tup (pa_cons pe_int (pa_cons (pe_op op_add pe_int (pe_op op_mod (pv 1) pe_int)) (pa_cons (pe_op op_add pe_int (pe_op op_mod (pe_op op_fdiv (pv 1) pe_int) pe_int)) pa_nil)))))
      (pss_cons (ps_set (i := 3) sc_law.nd rfl (Or.inl rfl) (pe_C (c_law_rows T) hr (by decide) (by rfl) (pa_cons (pe_slice (SlR.or sl_list sl_tupA) (pv 0) (po_some pe_int) (po_some pe_int)) (pa_cons (pv 2) (pa_cons pe_bl pa_nil)))))
      (pss_cons (ps_set (i := 4) sc_law.nd rfl (Or.inl rfl) (pe_I (c_PartStair_init T) hr (by decide) (by rfl) (pa_cons (pe_I (c_Several_init T) hr (by decide) (by rfl) (pa_cons pe_int (pa_cons (pe_ix ix_seq (pv 2) pe_int (fun _ _ => rfl)) (pa_cons (pe_ix ix_seq (pv 2) pe_int (fun _ _ => rfl)) (pa_cons (pv 3) pa_nil))))) pa_nil)))
      (pss_cons (ps_set (i := 5) sc_law.nd rfl (Or.inl rfl) (pe_C (c_law_configuration T) hr (by decide) (by rfl) (pa_cons (pe_C (c_law_cell T) hr (by decide) (by rfl) (pa_cons (pv 0) (pa_cons pe_int pa_nil))) (pa_cons (pv 2) pa_nil))))
      (pss_cons (ps_set (i := 6) sc_law.nd rfl (Or.inl rfl) (pe_M (pv 4) (c_PartStair_down T) hr (by decide) (pa_cons (pv 5) pa_nil)))
      (pss_cons (ps_par (i := 7) (j := 8) rfl sc_law.nd rfl rfl (by decide) rfl rfl (pa_cons (pe_lst (pa_cons (pv 6) pa_nil)) (pa_cons pe_int pa_nil)) (by rfl))
      (pss_cons (ps_for PassesOwn.never rfl (pi_range1 rfl T.z_range (pa_cons (pe_op op_mod (pe_op op_fdiv (pv 1) pe_int) pe_int) pa_nil)) (pg_name (i := 9) sc_law.nd rfl (Or.inl rfl)) (pss_cons (ps_set (i := 10) sc_law.nd rfl (Or.inl rfl) (pe_C (c_law_after T) hr (by decide) (by rfl) (pa_cons (pv 3) (pa_cons (pv 5) pa_nil))))
      (pss_cons (ps_set (i := 11) sc_law.nd rfl (Or.inl rfl) (pe_M (pv 4) (c_PartStair_pace T) hr (by decide) (pa_cons (pv 5) pa_nil)))
      (pss_cons (ps_if (pt_cmpR op_isN (pv 10) pe_non (nomark _)) (pss_one (ps_ret (pe_and (pe_cmpR (op_eqD hr.units) (pv 11) pe_int (nomark _)) (pe_one (pe_cmpR (op_eqD hr.units) (pe_M (pe_fld (pv 4) rfl) (c_Parts_run_back T) hr (by decide) (pa_cons (pv 6) (pa_cons (pv 8) pa_nil))) (pe_ix ix_seq (pv 7) pe_int (fun _ _ => rfl)) (nomark _)))))) pss_nil)
      (pss_cons (ps_if (pt_cmpR op_notIn_seq (pv 11) (pe_tup (pa_cons pe_int (pa_cons pe_int pa_nil))) rfl) (pss_one (ps_ret pe_bl)) pss_nil)
      (pss_cons (ps_set (i := 8) sc_law.nd rfl (Or.inl rfl) (pe_op op_add (pv 8) (pv 11)))
      (pss_cons (ps_for PassesOwn.never rfl (pi_range1 rfl T.z_range (pa_cons (pv 11) pa_nil)) (pg_name (i := 12) sc_law.nd rfl (Or.inl rfl)) (pss_cons (ps_set (i := 13) sc_law.nd rfl (Or.inl rfl) (pv 6))
      (pss_cons (ps_set (i := 6) sc_law.nd rfl (Or.inl rfl) (pe_M (pe_fld (pv 4) rfl) (c_Parts_step T) hr (by decide) (pa_cons (pv 6) pa_nil)))
      (pss_cons (ps_expr (pe_bm PySem.F.plainAttrs_list PySem.F.slot_list_append PySem.F.type_list_append mt_append (pv 7) (pa_cons (pv 6) pa_nil)))
      (pss_one (ps_if (PW.pt (pw_or (pt_cmpR (op_neD hr.units) (pe_M (pe_fld (pv 4) rfl) (c_Parts_back T) hr (by decide) (pa_cons (pv 6) pa_nil)) (pv 13) (nomark _)) (pw_or1 (PW.pt (pw_and (pt_cmpR op_lt (pe_op op_add (pv 12) pe_int) (pv 11) (nomark _)) (pw_and1 (pt_cmpR op_notN (pe_M (pv 4) (c_PartStair_up T) hr (by decide) (pa_cons (pv 6) pa_nil)) pe_non (nomark _)))))))) (pss_one (ps_ret pe_bl)) pss_nil))))))
      (pss_cons (ps_if (PW.pt (pw_or (pt_cmpR (op_neD hr.units) (pv 6) (pe_M (pv 4) (c_PartStair_down T) hr (by decide) (pa_cons (pv 10) pa_nil)) (nomark _)) (pw_or1 (pt_cmpR (op_neD hr.units) (pe_M (pv 4) (c_PartStair_up T) hr (by decide) (pa_cons (pv 6) pa_nil)) (pv 10) (nomark _))))) (pss_one (ps_ret pe_bl)) pss_nil)
      (pss_one (ps_set (i := 5) sc_law.nd rfl (Or.inl rfl) (pv 10)))))))))))
      (pss_cons (ps_for PassesOwn.never rfl (pi_range1 rfl T.z_range (pa_cons (pv 8) pa_nil)) (pg_name (i := 9) sc_law.nd rfl (Or.inl rfl)) (pss_one (ps_if (pt_cmpR (op_neD hr.units) (pe_M (pe_fld (pv 4) rfl) (c_Parts_run_back T) hr (by decide) (pa_cons (pv 6) (pa_cons (pv 9) pa_nil))) (pe_ix ix_seq (pv 7) (pe_op op_sub (pv 8) (pv 9)) (fun _ _ => rfl)) (nomark _)) (pss_one (ps_ret pe_bl)) pss_nil)))
      (pss_one (ps_ret (pe_cmpR (op_eqD hr.units) (pe_M (pe_fld (pv 4) rfl) (c_Parts_run T) hr (by decide) (pa_cons (pe_ix ix_seq (pv 7) pe_int (fun _ _ => rfl)) (pa_cons (pv 8) pa_nil))) (pv 6) (nomark _))))))))))))), fun σ En0 nx => ?_⟩
  obtain ⟨a, ns⟩ := p
  have hS : SqL K H a (ns.map V.int) := hp
  have En0 : En K H σ [some (.v (.ref a)), none, none, none, none, none, none, none, none, none, none, none, none, none] := En0
  obtain ⟨n, hn⟩ : ∃ n, n = lcell ns 0 % 9000 := ⟨_, rfl⟩
  have hn0 : 0 ≤ n ∧ n < 9000 := by rw [hn]; omega
  refine q_setI (k := dI n) En0 (EvI.eq (evi_op (C := fun _ j => 0 < j) (evi_int1 (evi_call (ns, 0) (evia_cons (evi_scr (evi_var En0 rfl) hS) (evia_cons (evi_int (b := true)) evia_nil)) fun _ _ => trivial)) (evi_int (b := true)) (by decide)) (by rw [hn])) fun σ1 H1 e1 E1 => ?_
  obtain ⟨m, hm⟩ : ∃ m, m = 2 + n % 3 := ⟨_, rfl⟩
  obtain ⟨s, hs⟩ : ∃ s, s = 1 + n / 3 % 5 := ⟨_, rfl⟩
  have m2 : 2 ≤ m ∧ m ≤ 4 := by omega
  have s1 : 1 ≤ s ∧ s ≤ 5 := by omega
  refine q_setI (k := .d true (.tuple [.int 1, .int m, .int s])) E1 (EvI.eq (evi_tup3 (b := true) (evi_int (b := true)) (evi_op0 (evi_int (b := true)) (evi_op (C := fun _ j => 0 < j) (evi_var E1 rfl) (evi_int (b := true)) (by decide))) (evi_op0 (evi_int (b := true)) (evi_op (C := fun _ j => 0 < j) (evi_op (C := CDiv) (evi_var E1 rfl) (evi_int (b := true)) ⟨by decide, by decide⟩) (evi_int (b := true)) (by decide)))) (by rw [hm, hs])) fun σ2 H2 e2 E2 => ?_
  have ex2 := e1.trans e2
  obtain ⟨rows, hrows⟩ : ∃ rows, rows = lrows m s (nums ns) := ⟨_, rfl⟩
  have RO : RowsOk m s rows := by rw [hrows]; exact lrows_ok (by omega) (by omega) _
  have G : Good m s rows := ⟨m2.1, m2.2, s1.1, s1.2, RO.ok, RO.nf, RO.nb⟩
  have lr : rows.length ≤ 14 := by rw [hrows]; exact Nat.le_trans (lrows_len _ _ _) (nums_len ns)
  refine q_setI (k := .l true (rows.map dRow)) E2 (EvI.eq (evi_call (nums ns, m, s) (evia_cons (evi_nums (evi_var E2 rfl) (ex_l ex2 hS)) (evia_cons (evi_var E2 rfl) (evia_cons (evi_bl (b := true)) evia_nil))) fun _ _ => ⟨nums_len ns, m2, s1⟩) (by rw [hrows])) fun σ3 H3 e3 E3 => ?_
  have E3 : En K H3 σ3 [some (.v (.ref a)), some (dI n), some (.d true (.tuple [.int 1, .int m, .int s])), some (.l true (rows.map dRow)), none, none, none, none, none, none, none, none, none, none] := E3
  have ex3 := ex2.trans e3
  refine q_setP (P := fun v H2 => ∃ y low, v = .ref y ∧ StairAt K H2 y m s rows low) E3 ?_ fun vst σ4 H4 e4 ⟨x, low, evs, hSt⟩ E4 => ?_
  · intro H9 e9 Q9 q9
    refine (evp_make1 (P := fun x H2 => SeveralAt K H2 x m s rows) (fun x => (⟨x, m, s, rows⟩ : SI)) ?_ (fun _ => rfl) fun x H1 hx => ⟨hx, G, lr⟩) H9 e9 Q9 fun v H10 e10 ⟨_, y, ey, low, hy⟩ => q9 v H10 e10 ⟨y, low, ey, hy⟩
    refine evp_make ((m, s, rows) : Int × Int × List Row) ?_ fun H9 e9 => ⟨G, by show rows.length ≤ 1000; omega⟩
    exact evia_cons (evi_int (b := true)) (evia_cons (evi_at (n := 1) (evi_var E3 rfl) rfl) (evia_cons (evi_at (n := 2) (evi_var E3 rfl) rfl) (evia_cons (evi_var E3 rfl) evia_nil)))
  subst evs
  have E4 : En K H4 σ4 [some (.v (.ref a)), some (dI n), some (.d true (.tuple [.int 1, .int m, .int s])), some (.l true (rows.map dRow)), some (.v (.ref x)), none, none, none, none, none, none, none, none, none] := E4
  have ex4 := ex3.trans e4
  obtain ⟨c0, hc0⟩ : ∃ c0, c0 = lcfg (ldigits (lcell ns 1) 34 900) m s := ⟨_, rfl⟩
  have ok0 : c0.Ok m s := by rw [hc0]; exact lcfg_ok (by omega) (by omega)
  have sz0 : c0.size ≤ 6 := by rw [hc0]; exact lcfg_size _ _ _
  refine q_setI (k := .d false (dCfg c0)) E4 (EvI.eq (evi_call (lcell ns 1, m, s) (evia_cons (evi_call (ns, 1) (evia_cons (evi_scr (evi_var E4 rfl) (ex_l ex4 hS)) (evia_cons (evi_int (b := true)) evia_nil)) fun _ _ => trivial) (evia_cons (evi_var E4 rfl) evia_nil)) fun _ _ => ⟨m2, s1⟩) (by rw [hc0])) fun σ5 H5 e5 E5 => ?_
  refine q_setI (k := .d false (dLine (down m c0))) E5 (evi_down T (evi_var E5 rfl) (hSt.ex e5) G (evi_var E5 rfl) (by omega)) fun σ6 H6 e6 E6 => ?_
  have St6 := hSt.ex (e5.trans e6)
  have ex6 := ex4.trans (e5.trans e6)
  obtain ⟨vr, hvr, E6⟩ := E6.fix (i := 3) rfl
  refine q_parNew (b := false) E6 (evi_var E6 rfl) fun Lp σ7 H0 H7 e0 O7 E7 => ?_
  have E7 : En K H7 σ7 [some (.v (.ref a)), some (dI n), some (.d true (.tuple [.int 1, .int m, .int s])), some (.v vr), some (.v (.ref x)), some (.d false (dCfg c0)), some (.d false (dLine (down m c0))), some (.v (.ref Lp)), some (dI 0), none, none, none, none, none] := E7
  clear E1 E2 E3 E4 E5 E6 En0
  -- the machine's steps
  refine q_forR1 (n := n / 15 % 11) (fun H8 e8 Q8 q8 => (evia_cons (evi_op (C := fun _ j => 0 < j) (evi_op (C := CDiv) (evi_var E7 rfl) (evi_int (b := true)) ⟨by decide, by decide⟩) (evi_int (b := true)) (by decide) : EvI K _ σ7 H7 (dI (n / 15 % 11))) evia_nil) H8 e8 _ fun vs H9 x y => by
      cases y with
      | cons y1 y =>
        cases y
        rw [Rp.int_eq y1]
        exact q8 H9 x) (by omega)
    (fun i σ' H' => ∃ (c : Cfg) (f : Nat → List Tri) (t : Nat) (o9 o10 o11 o12 o13 : Option Kd), (stbK o9 = true ∧ stbK o10 = true ∧ stbK o11 = true ∧ stbK o12 = true ∧ stbK o13 = true) ∧ Own K H0 H' Lp false ((List.range (t + 1)).map fun j => dLine (f j)) ∧ En K H' σ' [some (.v (.ref a)), some (dI n), some (.d true (.tuple [.int 1, .int m, .int s])), some (.v vr), some (.v (.ref x)), some (.d false (dCfg c)), some (.d false (dLine (f t))), some (.v (.ref Lp)), some (dI (t : Int)), o9, o10, o11, o12, o13] ∧ c.Ok m s ∧ c.size ≤ 6 + i ∧ t ≤ 2 * i ∧ PathOk (Ch m rows) f t ∧ f t = down m c)
    (fun H8 e8 => ⟨c0, fun _ => down m c0, 0, none, none, none, none, none, ⟨rfl, rfl, rfl, rfl, rfl⟩, O7.mono e8, E7.ex e8, ok0, by omega, by omega, ⟨fun j hj => absurd hj (Nat.not_lt_zero _), fun j hj => absurd hj (Nat.not_lt_zero _), fun j hj => by rw [down_len]; omega⟩, rfl⟩)
    (fun i σ' H' hi ⟨c, f, t, o9, o10, o11, o12, o13, ⟨so9, so10, so11, so12, so13⟩, O, E8, okc, szc, ht, hp, hf⟩ => ?_) fun σ' H' ⟨c, f, t, o9, o10, o11, o12, o13, ⟨so9, so10, so11, so12, so13⟩, O, E8, okc, szc, ht, hp, hf⟩ => ?_
  · have hi10 : i < 11 := by omega
    have E8 : En K H' (σ'.set 9 (some (.int (i : Int)))) [some (.v (.ref a)), some (dI n), some (.d true (.tuple [.int 1, .int m, .int s])), some (.v vr), some (.v (.ref x)), some (.d false (dCfg c)), some (.d false (dLine (f t))), some (.v (.ref Lp)), some (dI (t : Int)), some (dI (i : Int)), o10, o11, o12, o13] := E8.set 9 (k := dI (i : Int)) (.int _)
    have eH := e0.trans O.ex
    refine q_setI (k := .d false (dOpt (after rows c))) E8 (evi_call (rows, c) (evia_cons (evi_fix (evi_var E8 rfl) hvr eH) (evia_cons (evi_var E8 rfl) evia_nil)) fun _ _ => ⟨by show rows.length ≤ 1000; omega, by show c.size ≤ 900; omega⟩) fun σ9 H9 e9 E9 => ?_
    refine q_setI (k := dI (paceM rows c)) E9 (evi_pace T (evi_var E9 rfl) (St6.ex (eH.trans e9)) G (evi_var E9 rfl) (by omega)) fun σ10 H10 e10 E10 => ?_
    have E10 : En K H10 σ10 [some (.v (.ref a)), some (dI n), some (.d true (.tuple [.int 1, .int m, .int s])), some (.v vr), some (.v (.ref x)), some (.d false (dCfg c)), some (.d false (dLine (f t))), some (.v (.ref Lp)), some (dI (t : Int)), some (dI (i : Int)), some (.d false (dOpt (after rows c))), some (dI (paceM rows c)), o12, o13] := E10
    refine q_whenI (c := (after rows c).isNone) E10 (et_is (evt_of (evi_isN (evi_var E10 rfl))) (isNone_opt _)) (fun h H11 e11 E11 => ?_) fun h H11 e11 E11 => ?_
    · have hnone := Option.isNone_iff_eq_none.mp h
      have hp0 : paceM rows c = 0 := by unfold paceM; rw [hnone]
      have e911 := e9.trans (e10.trans e11)
      refine s_retI (k := dB true) (EvI.eq (evi_and (evi_eq (evi_var E11 rfl) (evi_int (b := true)) (ok_int _).sh (ok_int _).sh) fun _ => evi_eq (evi_runb T (evi_var E11 rfl) (St6.ex (eH.trans e911)) G (f := fun i => f (t - i)) (n := t) (evi_var E11 rfl) (evi_var E11 rfl) (fun j hj => ⟨?_, hp.ln _ (by omega)⟩) (by omega)) (evi_ix (EvI.lq (evi_own (evi_var E11 rfl) (O.mono e911))) (evi_int (b := true)) (atI_at (j := 0) rfl (lines_get (Nat.zero_le _)))) (ok_line _).sh (ok_line _).sh) ?_) fun v H12 e12 y => nx v H12 (ex6.trans (eH.trans (e911.trans e12))) (Rp.bl_eq y)
      · have := hp.bk (t - j - 1) (by omega)
        rw [show t - j - 1 + 1 = t - j by omega] at this
        exact this
      · rw [hp0, Nat.sub_self, eqv_self rfl, eqv_self (pd_line _)]
        rfl
    · obtain ⟨c', hc'⟩ : ∃ c', after rows c = some c' := by
        cases q : after rows c with
        | none => rw [q] at h; cases h
        | some c' => exact ⟨c', rfl⟩
      obtain ⟨p, f', hpace, h12, hp', hold, hend, hup⟩ := next_path G okc hc' hp hf (by omega)
      obtain ⟨r0, hr0, ap0, ea0⟩ := after_some hc'
      have okc' : c'.Ok m s := by rw [ea0]; exact Row.act_ok (by omega) (G.ok r0 hr0) okc
      have szc' : c'.size ≤ c.size + 1 := by rw [ea0]; exact Row.act_size c r0
      rw [hc', hpace] at E11
      have E11 : En K H11 σ10 [some (.v (.ref a)), some (dI n), some (.d true (.tuple [.int 1, .int m, .int s])), some (.v vr), some (.v (.ref x)), some (.d false (dCfg c)), some (.d false (dLine (f t))), some (.v (.ref Lp)), some (dI (t : Int)), some (dI (i : Int)), some (.d false (dCfg c')), some (dI (p : Int)), o12, o13] := E11
      refine q_whenI (c := false) E11 (et_is (evt_of (evi_B (K := K) (b := true) (ev_niU (EvI.ev (evi_var E11 rfl)) (eu_tup (ea_cons ev_c (ea_cons ev_c ea_nil)) (by show 2 ≤ 100000; decide)) rfl rfl))) (by rcases h12 with h | h <;> (rw [h]; rfl))) (fun h => by cases h) fun _ H12 e12 E12 => ?_
      refine q_setI (k := dI ((t + p : Nat) : Int)) E12 (EvI.eq (evi_op0 (evi_var E12 rfl) (evi_var E12 rfl)) (by rw [Int.natCast_add])) fun σ13 H13 e13 E13 => ?_
      have e913 := e9.trans (e10.trans (e11.trans (e12.trans e13)))
      have E13 : En K H13 σ13 [some (.v (.ref a)), some (dI n), some (.d true (.tuple [.int 1, .int m, .int s])), some (.v vr), some (.v (.ref x)), some (.d false (dCfg c)), some (.d false (dLine (f t))), some (.v (.ref Lp)), some (dI ((t + p : Nat) : Int)), some (dI (i : Int)), some (.d false (dCfg c')), some (dI (p : Int)), o12, o13] := E13
      refine q_forRM (n := (p : Int)) (fun j => (List.range (t + j + 1)).map fun j => dLine (f' j)) (fun j ks => ∃ o12 o13, ks = [some (.v (.ref a)), some (dI n), some (.d true (.tuple [.int 1, .int m, .int s])), some (.v vr), some (.v (.ref x)), some (.d false (dCfg c)), some (.d false (dLine (f' (t + j)))), some (.v (.ref Lp)), some (dI ((t + p : Nat) : Int)), some (dI (i : Int)), some (.d false (dCfg c')), some (dI (p : Int)), o12, o13] ∧ stbK o12 = true ∧ stbK o13 = true) ((O.mono e913).eq (lines_ext hold)) E13 (evia_cons (evi_var E13 rfl) evia_nil) (by omega) ⟨o12, o13, by rw [show f' (t + 0) = f t from hold t (Nat.le_refl _)], so12, so13⟩ (fun j ks' σ2 H2 hj ⟨o12, o13, ek, so12, so13⟩ O2 E14 => ?_) fun ks' σ2 H2 ⟨o12, o13, ek, so12, so13⟩ O2 E14 => ?_
      · subst ek
        have hj : j < p := by omega
        have E14 : En K H2 σ2 [some (.v (.ref a)), some (dI n), some (.d true (.tuple [.int 1, .int m, .int s])), some (.v vr), some (.v (.ref x)), some (.d false (dCfg c)), some (.d false (dLine (f' (t + j)))), some (.v (.ref Lp)), some (dI ((t + p : Nat) : Int)), some (dI (i : Int)), some (.d false (dCfg c')), some (dI (p : Int)), some (dI (j : Int)), o13] := E14
        refine q_setI (k := .d false (dLine (f' (t + j)))) E14 (evi_var E14 rfl) fun σ15 H15 e15 E15 => ?_
        have St2 := St6.ex (e0.trans O2.ex)
        refine q_setI (k := .d false (dLine (f' (t + j + 1)))) E15 (evi_step T (evi_var E15 rfl) (St2.ex e15) (evi_var E15 rfl) (hp'.st _ (by omega)) (hp'.ln _ (by omega))) fun σ16 H16 e16 E16 => ?_
        have E16 : En K H16 σ16 [some (.v (.ref a)), some (dI n), some (.d true (.tuple [.int 1, .int m, .int s])), some (.v vr), some (.v (.ref x)), some (.d false (dCfg c)), some (.d false (dLine (f' (t + j + 1)))), some (.v (.ref Lp)), some (dI ((t + p : Nat) : Int)), some (dI (i : Int)), some (.d false (dCfg c')), some (dI (p : Int)), some (dI (j : Int)), some (.d false (dLine (f' (t + j))))] := E16
        refine q_appI E16 rfl (O2.mono (e15.trans e16)) (evi_var E16 rfl) (evi_var E16 rfl) (by rw [List.length_map, List.length_range]; omega) fun H17 O17 E17 => ?_
        have St17 := St6.ex (e0.trans O17.ex)
        have ln := hp'.ln (t + j + 1) (by omega)
        refine s_whenI (c := false) E17 (et_is (et_or (evt_of (evi_ne (evi_back T (evi_var E17 rfl) St17 G (evi_var E17 rfl) (hp'.bk _ (by omega)) ln) (evi_var E17 rfl) (ok_line _).sh (ok_line _).sh)) fun _ => et_and (evt_of (evi_cmp (g := fun i j => decide (i < j)) (evi_op0 (evi_var E17 rfl) (evi_int (b := true))) (evi_var E17 rfl))) fun _ => evt_of (evi_notN (evi_up T (evi_var E17 rfl) St17 G (evi_var E17 rfl) ln))) ?_) (fun h => by cases h) fun _ H18 e18 E18 => ⟨(O17.mono e18).eq (range_map_succ _ (t + j + 1)).symm, _, ⟨some (dI (j : Int)), some (.d false (dLine (f' (t + j)))), rfl, rfl, rfl⟩, E18⟩
        rw [eqv_self (pd_line _), isNone_opt]
        by_cases hjp : j + 1 < p
        · rw [hup j hjp]
          show (false || (_ && false)) = false
          rw [Bool.and_false]
          rfl
        · rw [decide_eq_false (show ¬ (j : Int) + 1 < (p : Int) by omega)]
          rfl
      · subst ek
        rw [Int.toNat_natCast] at O2 E14
        have St2 := St6.ex (e0.trans O2.ex)
        have ln := hp'.ln (t + p) (Nat.le_refl _)
        refine q_whenI (c := false) E14 (et_is (et_or (evt_of (evi_ne (evi_var E14 rfl) (evi_down T (evi_var E14 rfl) St2 G (evi_var E14 rfl) (by omega)) (ok_line _).sh (ok_line _).sh)) fun _ => evt_of (evi_ne (evi_up T (evi_var E14 rfl) St2 G (evi_var E14 rfl) ln) (evi_var E14 rfl) (ok_opt _).sh (ok_cfg _).sh)) ?_) (fun h => by cases h) fun _ H17 e17 E17 => ?_
        · rw [hend, up_down (by omega) okc', eqv_self (pd_line _), show dOpt (some c') = dCfg c' from rfl, eqv_self (pd_cfg _)]
          rfl
        · refine s_setI E17 (evi_var E17 rfl) fun σ18 H18 e18 E18 => ⟨c', f', t + p, some (dI (i : Int)), some (.d false (dCfg c')), some (dI (p : Int)), o12, o13, ⟨rfl, rfl, rfl, so12, so13⟩, O2.mono (e17.trans e18), E18, okc', by omega, by omega, hp', hend⟩
  · -- back by every number of steps
    have ht20 : t ≤ 20 := by omega
    have eH := e0.trans O.ex
    refine q_forRI E8 (evia_cons (evi_var E8 rfl) evia_nil) (by omega) (fun _ ks => ∃ o9, ks = [some (.v (.ref a)), some (dI n), some (.d true (.tuple [.int 1, .int m, .int s])), some (.v vr), some (.v (.ref x)), some (.d false (dCfg c)), some (.d false (dLine (f t))), some (.v (.ref Lp)), some (dI (t : Int)), o9, o10, o11, o12, o13]) ⟨_, rfl⟩ (fun k ks' σ2 H2 hk ⟨o9, ek⟩ ex E9 => ?_) fun ks' σ2 H2 ⟨o9, ek⟩ ex E9 => ?_
    · subst ek
      have hk : k < t := by omega
      have E9 : En K H2 σ2 [some (.v (.ref a)), some (dI n), some (.d true (.tuple [.int 1, .int m, .int s])), some (.v vr), some (.v (.ref x)), some (.d false (dCfg c)), some (.d false (dLine (f t))), some (.v (.ref Lp)), some (dI (t : Int)), some (dI (k : Int)), o10, o11, o12, o13] := E9
      refine s_whenI (c := false) E9 (et_is (evt_of (evi_ne (evi_runb T (evi_var E9 rfl) (St6.ex (eH.trans ex)) G (f := fun i => f (t - i)) (n := k) (evi_var E9 rfl) (evi_var E9 rfl) (fun j hj => ⟨?_, hp.ln _ (by omega)⟩) (by omega)) (evi_ix (EvI.lq (evi_own (evi_var E9 rfl) (O.mono ex))) (evi_op0 (evi_var E9 rfl) (evi_var E9 rfl)) (atI_at (j := t - k) (by omega) (lines_get (by omega)))) (ok_line _).sh (ok_line _).sh)) (by rw [eqv_self (pd_line _)]; rfl)) (fun h => by cases h) fun _ H3 e3 E10 => ⟨ex.trans e3, _, ⟨_, rfl⟩, E10⟩
      have := hp.bk (t - j - 1) (by omega)
      rw [show t - j - 1 + 1 = t - j by omega] at this
      exact this
    · subst ek
      refine s_retI (k := dB true) (EvI.eq (evi_eq (evi_run T (evi_var E9 rfl) (St6.ex (eH.trans ex)) (f := f) (n := t) (evi_ix (EvI.lq (evi_own (evi_var E9 rfl) (O.mono ex))) (evi_int (b := true)) (atI_at (j := 0) rfl (lines_get (Nat.zero_le _)))) (evi_var E9 rfl) (fun j hj => ⟨hp.st j hj, hp.ln _ (by omega)⟩) (by omega)) (evi_var E9 rfl) (ok_line _).sh (ok_line _).sh) (by rw [eqv_self (pd_line _)])) fun v H3 e3 y => nx v H3 (ex6.trans (eH.trans (ex.trans e3))) (Rp.bl_eq y)
end
end Bk

set_option Elab.async false
set_option linter.all false
set_option maxRecDepth 100000
set_option maxHeartbeats 0
/-! The end: the head's facts, the law. -/
namespace Bk
open PySem PySem.Spec PyProof.Rows L2
theorem facts {P : Program} {w : World} {K : PySem.W.Frag} {h : Heap} {mg : Str → Option Value} {f : Addr} (X : K.In h) (G : h.Ns mainGlobals mg) (hfa : mg ("law" : Str) = some (.ref f)) (c : obsQ K = (He.valD fn, true)) :
    ∃ fd : FuncData, (∀ (s : Shared) (v : Value), BindsTo s fd ⟨[v], []⟩ [("_law_script", v)]) ∧ ∀ base : Heap, K.In base → base.Ns mainGlobals mg →
      FnOk P w K mg base CX0 7 f fd ["_law_script"] (spR K (fun p : Addr × List Int => [.v (.ref p.1)]) (fun p H => SqL K H p.1 (p.2.map V.int)) fun _ v _ => v = .bl true) := by
  have T : Txt K mg := ⟨(Prod.mk.inj c).1, (Prod.mk.inj c).2, h, X, G⟩
  obtain ⟨fd, F⟩ := T.f_law
  have e := hfa.symm.trans T.g_law
  cases e
  have b := FunD.bindsA (ps := ["_law_script"]) F fun _ _ _ _ _ _ us hl => match us, hl with | [_], _ => rfl
  exact ⟨fd, fun s v => b s [v] rfl, fun base _ _ => ok_law T F⟩
end Bk
open PySem PySem.W PySem.Calls PyProof.Rows
theorem PySem.Challenge.cw_backstair_k63_whole_a_line_does_both_way_holds : PySem.Challenge.rw_backstair_k63_whole_a_line_does_both_way.Holds := by
  w_on; o_law
  refine HandSHeadRun.head_any (r := OpenLaw.row PySem.Challenge.rw_backstair_k63_whole_a_line_does_both_way) (q := view (OpenLaw.row PySem.Challenge.rw_backstair_k63_whole_a_line_does_both_way).prog [55]) (H := Bk.hk) (ob := Bk.ob) (M := 6000) (loose := Bk.names) (d := HandSHeadRun.topDef (OpenLaw.row PySem.Challenge.rw_backstair_k63_whole_a_line_does_both_way).prog 55) (kwd := []) Bk.ob_eq
    (by kernel_rfl) (fun s => by kernel_rfl) Bk.run (by kernel_rfl) (by kernel_rfl) (by kernel_rfl) (by rfl) (by first | assumption | decide +kernel) (by decide +kernel) ⟨rfl, rfl, rfl, rfl, rfl, by decide +kernel⟩ ?hw ?hc
  case hw => w_witness2
  case hc =>
    refine L2.walk_ofE (l := PySem.Challenge.rw_backstair_k63_whole_a_line_does_both_way) (n := 63) (k := 7) (x := "_law_script") (CX := L2.CX0) rfl (by decide) (by kernel_rfl) ⟨rfl, by decide, by decide⟩ ?F (fun _ _ _ _ z => z)
    intro w mg fa h Y G hmg0
    obtain ⟨K, KX, c⟩ := Y
    have hmg : mg ("law" : PySem.Str) = some (.ref fa) := by
      have e : (HandSHeadRun.topDef (OpenLaw.row PySem.Challenge.rw_backstair_k63_whole_a_line_does_both_way).prog 55).name = ("law" : PySem.Str) := by kernel_rfl
      rw [← e]
      exact hmg0
    obtain ⟨fd, hb, hF⟩ := Bk.facts (P := (PySem.Challenge.rw_backstair_k63_whole_a_line_does_both_way).prog) (w := w) KX G hmg c
    exact ⟨K, fd, _, KX, hb, fun H a ns hl _ hS => ⟨(a, ns), .cons rfl .nil, hS, fun v H' _ hv => hv⟩, hF⟩

