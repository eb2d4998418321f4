import PyProof.Rows.All
import Wide.All
import OpenK.AllK
import Wide.FinOn
import HandS.ForMost
import HandS.Defaults
import HandS.HeadHook2
import KE.KStateDown
import HandS.Head0
import HandS.Head1
import HandS.Head2
import HandS.HeadEnd
import HandS.HeadHook1
import HandS.IsInst
import HandS.Deep
import HandS.TupAny
import HandS.Sort
import KE.KDictKeyed
import HandS.DictTup
import HandS.DictComp
import HandS.TupLen
import KE.SortKeyHeap
import HandS.SortKw
import HandS.Keys
import HandS.Walk
import HandS.Star
import HandS.Zip
import HandS.Codes
import HandS.Conv
import PySem.Challenge.RW_backwardrow_k67_whole_both_makings_of_al
set_option Elab.async false
set_option linter.all false
set_option maxRecDepth 100000
/-! The text by places (printed by gen_text.py). -/
namespace BR
open PySem PySem.Spec PyProof.Rows L2
def top (i : Nat) : Stmt := PySem.Challenge.pw_backwardrow_k67_whole_both_makings_of_al.main.body.getD i (.Pass ⟨0, 0, 0, 0⟩)
abbrev FnP (K : PySem.W.Frag) (x q : Str) (st : Stmt) (dvs : List V) (f : Addr) (fd : FuncData) : Prop := FunD K x q (defArgs st) (defBody st) (defScope st) dvs [] f fd
abbrev s_is_integer : Stmt := top 10
theorem sc_is_integer : FnScope ["value"] ["value"] (defScope s_is_integer) := ⟨rfl, rfl, rfl, by decide +kernel, rfl, by decide +kernel, by decide +kernel⟩
abbrev s_is_within : Stmt := top 11
theorem sc_is_within : FnScope ["value", "least", "most"] ["value", "least", "most"] (defScope s_is_within) := ⟨rfl, rfl, rfl, by decide +kernel, rfl, by decide +kernel, by decide +kernel⟩
abbrev s_is_letter : Stmt := top 12
theorem sc_is_letter : FnScope ["value", "letters"] ["value", "letters"] (defScope s_is_letter) := ⟨rfl, rfl, rfl, by decide +kernel, rfl, by decide +kernel, by decide +kernel⟩
abbrev s_is_word : Stmt := top 13
theorem sc_is_word : FnScope ["value", "letters", "each"] ["value", "letters"] (defScope s_is_word) := ⟨rfl, rfl, rfl, by decide +kernel, rfl, by decide +kernel, by decide +kernel⟩
abbrev s_need_word : Stmt := top 14
theorem sc_need_word : FnScope ["value", "letters", "part"] ["value", "letters", "part"] (defScope s_need_word) := ⟨rfl, rfl, rfl, by decide +kernel, rfl, by decide +kernel, by decide +kernel⟩
abbrev s_pairs_in : Stmt := top 15
theorem sc_pairs_in : FnScope ["value", "each"] ["value"] (defScope s_pairs_in) := ⟨rfl, rfl, rfl, by decide +kernel, rfl, by decide +kernel, by decide +kernel⟩
abbrev s_need_row : Stmt := top 21
theorem sc_need_row : FnScope ["value", "part"] ["value", "part"] (defScope s_need_row) := ⟨rfl, rfl, rfl, by decide +kernel, rfl, by decide +kernel, by decide +kernel⟩
abbrev s_need_two_ways : Stmt := top 25
theorem sc_need_two_ways : FnScope ["row"] ["row"] (defScope s_need_two_ways) := ⟨rfl, rfl, rfl, by decide +kernel, rfl, by decide +kernel, by decide +kernel⟩
abbrev s_ow_init : Stmt := inClass (top 26) 0
theorem sc_ow_init : FnScope ["self", "row"] ["self", "row"] (defScope s_ow_init) := ⟨rfl, rfl, rfl, by decide +kernel, rfl, by decide +kernel, by decide +kernel⟩
abbrev s_ow_begin : Stmt := inClass (top 26) 1
theorem sc_ow_begin : FnScope ["self", "letter"] ["self", "letter"] (defScope s_ow_begin) := ⟨rfl, rfl, rfl, by decide +kernel, rfl, by decide +kernel, by decide +kernel⟩
abbrev s_ow_next : Stmt := inClass (top 26) 2
theorem sc_ow_next : FnScope ["self", "left", "own", "right"] ["self", "left", "own", "right"] (defScope s_ow_next) := ⟨rfl, rfl, rfl, by decide +kernel, rfl, by decide +kernel, by decide +kernel⟩
abbrev s_ow_says : Stmt := inClass (top 26) 3
theorem sc_ow_says : FnScope ["self", "worth"] ["self", "worth"] (defScope s_ow_says) := ⟨rfl, rfl, rfl, by decide +kernel, rfl, by decide +kernel, by decide +kernel⟩
abbrev s_two_ticks : Stmt := top 29
theorem sc_two_ticks : FnScope ["row", "p", "q", "x", "beside"] ["row", "p", "q", "x"] (defScope s_two_ticks) := ⟨rfl, rfl, rfl, by decide +kernel, rfl, by decide +kernel, by decide +kernel⟩
abbrev s_tw_init : Stmt := inClass (top 30) 0
theorem sc_tw_init : FnScope ["self", "row"] ["self", "row"] (defScope s_tw_init) := ⟨rfl, rfl, rfl, by decide +kernel, rfl, by decide +kernel, by decide +kernel⟩
abbrev s_tw_begin : Stmt := inClass (top 30) 1
theorem sc_tw_begin : FnScope ["self", "letter"] ["self", "letter"] (defScope s_tw_begin) := ⟨rfl, rfl, rfl, by decide +kernel, rfl, by decide +kernel, by decide +kernel⟩
abbrev s_tw_next : Stmt := inClass (top 30) 2
theorem sc_tw_next : FnScope ["self", "left", "own", "right", "here", "folded", "before", "behind", "after", "deeper"] ["self", "left", "own", "right"] (defScope s_tw_next) := ⟨rfl, rfl, rfl, by decide +kernel, rfl, by decide +kernel, by decide +kernel⟩
abbrev s_tw_says : Stmt := inClass (top 30) 3
theorem sc_tw_says : FnScope ["self", "worth", "here", "folded"] ["self", "worth"] (defScope s_tw_says) := ⟨rfl, rfl, rfl, by decide +kernel, rfl, by decide +kernel, by decide +kernel⟩
abbrev s_begun : Stmt := top 39
theorem sc_begun : FnScope ["row", "word", "letter"] ["row", "word"] (defScope s_begun) := ⟨rfl, rfl, rfl, by decide +kernel, rfl, by decide +kernel, by decide +kernel⟩
abbrev s_ticked : Stmt := top 40
theorem sc_ticked : FnScope ["row", "worths", "low", "high", "beside", "cells", "at"] ["row", "worths", "low", "high"] (defScope s_ticked) := ⟨rfl, rfl, rfl, by decide +kernel, rfl, by decide +kernel, by decide +kernel⟩
abbrev s_worth_in : Stmt := top 41
theorem sc_worth_in : FnScope ["row", "word", "cell", "tick", "low", "high", "worths", "_", "cut_low", "cut_high"] ["row", "word", "cell", "tick"] (defScope s_worth_in) := ⟨rfl, rfl, rfl, by decide +kernel, rfl, by decide +kernel, by decide +kernel⟩
abbrev s_seat_in : Stmt := top 42
theorem sc_seat_in : FnScope ["row", "many"] ["row", "many"] (defScope s_seat_in) := ⟨rfl, rfl, rfl, by decide +kernel, rfl, by decide +kernel, by decide +kernel⟩
abbrev s_due_in : Stmt := top 43
theorem sc_due_in : FnScope ["row", "many"] ["row", "many"] (defScope s_due_in) := ⟨rfl, rfl, rfl, by decide +kernel, rfl, by decide +kernel, by decide +kernel⟩
abbrev s_said_in : Stmt := top 44
theorem sc_said_in : FnScope ["row", "word", "tick"] ["row", "word", "tick"] (defScope s_said_in) := ⟨rfl, rfl, rfl, by decide +kernel, rfl, by decide +kernel, by decide +kernel⟩
abbrev s_told_in : Stmt := top 45
theorem sc_told_in : FnScope ["row", "word"] ["row", "word"] (defScope s_told_in) := ⟨rfl, rfl, rfl, by decide +kernel, rfl, by decide +kernel, by decide +kernel⟩
abbrev s_need_both : Stmt := top 46
theorem sc_need_both : FnScope ["row", "word"] ["row", "word"] (defScope s_need_both) := ⟨rfl, rfl, rfl, by decide +kernel, rfl, by decide +kernel, by decide +kernel⟩
abbrev s_told : Stmt := top 47
theorem sc_told : FnScope ["row", "word"] ["row", "word"] (defScope s_told) := ⟨rfl, rfl, rfl, by decide +kernel, rfl, by decide +kernel, by decide +kernel⟩
abbrev s_key_order : Stmt := top 60
theorem sc_key_order : FnScope ["key", "each"] ["key"] (defScope s_key_order) := ⟨rfl, rfl, rfl, by decide +kernel, rfl, by decide +kernel, by decide +kernel⟩
abbrev s_is_key : Stmt := top 61
theorem sc_is_key : FnScope ["value", "ways", "worths", "each"] ["value", "ways", "worths"] (defScope s_is_key) := ⟨rfl, rfl, rfl, by decide +kernel, rfl, by decide +kernel, by decide +kernel⟩
abbrev s_rules_from : Stmt := top 62
theorem sc_rules_from : FnScope ["value", "ways", "worths", "pairs", "found", "key", "own"] ["value", "ways", "worths"] (defScope s_rules_from) := ⟨rfl, rfl, rfl, by decide +kernel, rfl, by decide +kernel, by decide +kernel⟩
abbrev s_worths_from : Stmt := top 63
theorem sc_worths_from : FnScope ["value", "worths", "each"] ["value", "worths"] (defScope s_worths_from) := ⟨rfl, rfl, rfl, by decide +kernel, rfl, by decide +kernel, by decide +kernel⟩
abbrev s_tb_init : Stmt := inClass (top 64) 0
theorem sc_tb_init : FnScope ["self", "ways", "letters", "worths", "rules", "yes"] ["self", "ways", "letters", "worths", "rules", "yes"] (defScope s_tb_init) := ⟨rfl, rfl, rfl, by decide +kernel, rfl, by decide +kernel, by decide +kernel⟩
abbrev s_tb_begin : Stmt := inClass (top 64) 2
theorem sc_tb_begin : FnScope ["self", "letter"] ["self", "letter"] (defScope s_tb_begin) := ⟨rfl, rfl, rfl, by decide +kernel, rfl, by decide +kernel, by decide +kernel⟩
abbrev s_tb_next : Stmt := inClass (top 64) 3
theorem sc_tb_next : FnScope ["self", "left", "own", "right", "key"] ["self", "left", "own", "right"] (defScope s_tb_next) := ⟨rfl, rfl, rfl, by decide +kernel, rfl, by decide +kernel, by decide +kernel⟩
abbrev s_tb_says : Stmt := inClass (top 64) 4
theorem sc_tb_says : FnScope ["self", "worth"] ["self", "worth"] (defScope s_tb_says) := ⟨rfl, rfl, rfl, by decide +kernel, rfl, by decide +kernel, by decide +kernel⟩
abbrev s_law_loom : Stmt := top 66
theorem sc_law_loom : FnScope ["_law_script", "_law_cell"] ["_law_script"] (defScope s_law_loom) := ⟨rfl, rfl, rfl, by decide +kernel, rfl, by decide +kernel, by decide +kernel⟩
abbrev s_law_weave : Stmt := top 67
theorem sc_law_weave : FnScope ["_law_loom_here", "_law_many", "_law_rest", "_law_at", "_law_cell", "_law_mixed"] ["_law_loom_here", "_law_many"] (defScope s_law_weave) := ⟨rfl, rfl, rfl, by decide +kernel, rfl, by decide +kernel, by decide +kernel⟩
abbrev s_law_one : Stmt := top 68
theorem sc_law_one : FnScope ["_law_loom_here", "_law_some"] ["_law_loom_here", "_law_some"] (defScope s_law_one) := ⟨rfl, rfl, rfl, by decide +kernel, rfl, by decide +kernel, by decide +kernel⟩
abbrev s_law_table : Stmt := top 69
theorem sc_law_table : FnScope ["_law_loom_here", "_law_ways", "_law_letters", "_law_worths", "_law_rules", "_law_some", "_law_often", "_law_left", "_law_own", "_law_right_here", "_law_worth"] ["_law_loom_here", "_law_ways", "_law_letters", "_law_worths"] (defScope s_law_table) := ⟨rfl, rfl, rfl, by decide +kernel, rfl, by decide +kernel, by decide +kernel⟩
abbrev s_law_due : Stmt := top 70
theorem sc_law_due : FnScope ["_law_ways", "_law_rules", "_law_yes", "_law_word", "_law_ticks", "_law_cells", "_law_tick", "_law_wide", "_law_at", "_law_own"] ["_law_ways", "_law_rules", "_law_yes", "_law_word", "_law_ticks"] (defScope s_law_due) := ⟨rfl, rfl, rfl, by decide +kernel, rfl, by decide +kernel, by decide +kernel⟩
abbrev s_law_words : Stmt := top 71
theorem sc_law_words : FnScope ["_law_letters", "_law_most", "_law_found", "_law_last", "_law_many", "_law_longer", "_law_word", "_law_letter"] ["_law_letters", "_law_most"] (defScope s_law_words) := ⟨rfl, rfl, rfl, by decide +kernel, rfl, by decide +kernel, by decide +kernel⟩
abbrev s_law_ticked : Stmt := top 72
theorem sc_law_ticked : FnScope ["_law_row", "_law_cells", "_law_found", "_law_at", "_law_own", "_law_left", "_law_right_here"] ["_law_row", "_law_cells"] (defScope s_law_ticked) := ⟨rfl, rfl, rfl, by decide +kernel, rfl, by decide +kernel, by decide +kernel⟩
abbrev s_law_says : Stmt := top 73
theorem sc_law_says : FnScope ["_law_row", "_law_word", "_law_ticks", "_law_cells", "_law_tick", "_law_letter"] ["_law_row", "_law_word", "_law_ticks"] (defScope s_law_says) := ⟨rfl, rfl, rfl, by decide +kernel, rfl, by decide +kernel, by decide +kernel⟩
abbrev s_law_told : Stmt := top 74
theorem sc_law_told : FnScope ["_law_row", "_law_word"] ["_law_row", "_law_word"] (defScope s_law_told) := ⟨rfl, rfl, rfl, by decide +kernel, rfl, by decide +kernel, by decide +kernel⟩
abbrev s_law_right : Stmt := top 75
theorem sc_law_right : FnScope ["_law_loom_here", "_law_ways", "_law_letters", "_law_worths", "_law_most", "_law_rules", "_law_yes", "_law_table_here", "_law_made", "_law_words_here", "_law_turn", "_law_word", "_law_due_here", "_law_place"] ["_law_loom_here", "_law_ways", "_law_letters", "_law_worths", "_law_most"] (defScope s_law_right) := ⟨rfl, rfl, rfl, by decide +kernel, rfl, by decide +kernel, by decide +kernel⟩
abbrev s_law : Stmt := top 76
theorem sc_law : FnScope ["_law_script", "_law_loom_here", "_law_letters", "_law_worths"] ["_law_script"] (defScope s_law) := ⟨rfl, rfl, rfl, by decide +kernel, rfl, by decide +kernel, by decide +kernel⟩
end BR
set_option Elab.async false
set_option linter.all false
set_option maxRecDepth 100000
set_option maxHeartbeats 0
/-! The head: the top by one kernel run, the facts that the walk asks for (printed by gen_head.py). -/
namespace BR
open PySem PySem.Spec PyProof.Rows L2
def d_is_integer : He.DefD := ⟨("is_integer", none), "is_integer", "is_integer", defArgs s_is_integer, defBody s_is_integer, defScope s_is_integer, [], []⟩
def d_is_within : He.DefD := ⟨("is_within", none), "is_within", "is_within", defArgs s_is_within, defBody s_is_within, defScope s_is_within, [], []⟩
def d_is_letter : He.DefD := ⟨("is_letter", none), "is_letter", "is_letter", defArgs s_is_letter, defBody s_is_letter, defScope s_is_letter, [], []⟩
def d_is_word : He.DefD := ⟨("is_word", none), "is_word", "is_word", defArgs s_is_word, defBody s_is_word, defScope s_is_word, [], []⟩
def d_need_word : He.DefD := ⟨("need_word", none), "need_word", "need_word", defArgs s_need_word, defBody s_need_word, defScope s_need_word, [], []⟩
def d_pairs_in : He.DefD := ⟨("pairs_in", none), "pairs_in", "pairs_in", defArgs s_pairs_in, defBody s_pairs_in, defScope s_pairs_in, [], []⟩
def d_need_row : He.DefD := ⟨("need_row", none), "need_row", "need_row", defArgs s_need_row, defBody s_need_row, defScope s_need_row, [.str "row"], []⟩
def d_need_two_ways : He.DefD := ⟨("need_two_ways", none), "need_two_ways", "need_two_ways", defArgs s_need_two_ways, defBody s_need_two_ways, defScope s_need_two_ways, [], []⟩
def d_ow_init : He.DefD := ⟨("OneWay", some "__init__"), "__init__", "OneWay.__init__", defArgs s_ow_init, defBody s_ow_init, defScope s_ow_init, [], []⟩
def d_ow_begin : He.DefD := ⟨("OneWay", some "begin"), "begin", "OneWay.begin", defArgs s_ow_begin, defBody s_ow_begin, defScope s_ow_begin, [], []⟩
def d_ow_next : He.DefD := ⟨("OneWay", some "next"), "next", "OneWay.next", defArgs s_ow_next, defBody s_ow_next, defScope s_ow_next, [], []⟩
def d_ow_says : He.DefD := ⟨("OneWay", some "says"), "says", "OneWay.says", defArgs s_ow_says, defBody s_ow_says, defScope s_ow_says, [], []⟩
def d_two_ticks : He.DefD := ⟨("two_ticks", none), "two_ticks", "two_ticks", defArgs s_two_ticks, defBody s_two_ticks, defScope s_two_ticks, [], []⟩
def d_tw_init : He.DefD := ⟨("TwoWays", some "__init__"), "__init__", "TwoWays.__init__", defArgs s_tw_init, defBody s_tw_init, defScope s_tw_init, [], []⟩
def d_tw_begin : He.DefD := ⟨("TwoWays", some "begin"), "begin", "TwoWays.begin", defArgs s_tw_begin, defBody s_tw_begin, defScope s_tw_begin, [], []⟩
def d_tw_next : He.DefD := ⟨("TwoWays", some "next"), "next", "TwoWays.next", defArgs s_tw_next, defBody s_tw_next, defScope s_tw_next, [], []⟩
def d_tw_says : He.DefD := ⟨("TwoWays", some "says"), "says", "TwoWays.says", defArgs s_tw_says, defBody s_tw_says, defScope s_tw_says, [], []⟩
def d_begun : He.DefD := ⟨("begun", none), "begun", "begun", defArgs s_begun, defBody s_begun, defScope s_begun, [], []⟩
def d_ticked : He.DefD := ⟨("ticked", none), "ticked", "ticked", defArgs s_ticked, defBody s_ticked, defScope s_ticked, [.int 0, .int 0], []⟩
def d_worth_in : He.DefD := ⟨("worth_in", none), "worth_in", "worth_in", defArgs s_worth_in, defBody s_worth_in, defScope s_worth_in, [], []⟩
def d_seat_in : He.DefD := ⟨("seat_in", none), "seat_in", "seat_in", defArgs s_seat_in, defBody s_seat_in, defScope s_seat_in, [], []⟩
def d_due_in : He.DefD := ⟨("due_in", none), "due_in", "due_in", defArgs s_due_in, defBody s_due_in, defScope s_due_in, [], []⟩
def d_said_in : He.DefD := ⟨("said_in", none), "said_in", "said_in", defArgs s_said_in, defBody s_said_in, defScope s_said_in, [], []⟩
def d_told_in : He.DefD := ⟨("told_in", none), "told_in", "told_in", defArgs s_told_in, defBody s_told_in, defScope s_told_in, [], []⟩
def d_need_both : He.DefD := ⟨("need_both", none), "need_both", "need_both", defArgs s_need_both, defBody s_need_both, defScope s_need_both, [], []⟩
def d_told : He.DefD := ⟨("told", none), "told", "told", defArgs s_told, defBody s_told, defScope s_told, [], []⟩
def d_key_order : He.DefD := ⟨("key_order", none), "key_order", "key_order", defArgs s_key_order, defBody s_key_order, defScope s_key_order, [], []⟩
def d_is_key : He.DefD := ⟨("is_key", none), "is_key", "is_key", defArgs s_is_key, defBody s_is_key, defScope s_is_key, [], []⟩
def d_rules_from : He.DefD := ⟨("rules_from", none), "rules_from", "rules_from", defArgs s_rules_from, defBody s_rules_from, defScope s_rules_from, [], []⟩
def d_worths_from : He.DefD := ⟨("worths_from", none), "worths_from", "worths_from", defArgs s_worths_from, defBody s_worths_from, defScope s_worths_from, [], []⟩
def d_tb_init : He.DefD := ⟨("Table", some "__init__"), "__init__", "Table.__init__", defArgs s_tb_init, defBody s_tb_init, defScope s_tb_init, [], []⟩
def d_tb_begin : He.DefD := ⟨("Table", some "begin"), "begin", "Table.begin", defArgs s_tb_begin, defBody s_tb_begin, defScope s_tb_begin, [], []⟩
def d_tb_next : He.DefD := ⟨("Table", some "next"), "next", "Table.next", defArgs s_tb_next, defBody s_tb_next, defScope s_tb_next, [], []⟩
def d_tb_says : He.DefD := ⟨("Table", some "says"), "says", "Table.says", defArgs s_tb_says, defBody s_tb_says, defScope s_tb_says, [], []⟩
def d_law_loom : He.DefD := ⟨("_law_loom", none), "_law_loom", "_law_loom", defArgs s_law_loom, defBody s_law_loom, defScope s_law_loom, [], []⟩
def d_law_weave : He.DefD := ⟨("_law_weave", none), "_law_weave", "_law_weave", defArgs s_law_weave, defBody s_law_weave, defScope s_law_weave, [], []⟩
def d_law_one : He.DefD := ⟨("_law_one", none), "_law_one", "_law_one", defArgs s_law_one, defBody s_law_one, defScope s_law_one, [], []⟩
def d_law_table : He.DefD := ⟨("_law_table", none), "_law_table", "_law_table", defArgs s_law_table, defBody s_law_table, defScope s_law_table, [], []⟩
def d_law_due : He.DefD := ⟨("_law_due", none), "_law_due", "_law_due", defArgs s_law_due, defBody s_law_due, defScope s_law_due, [], []⟩
def d_law_words : He.DefD := ⟨("_law_words", none), "_law_words", "_law_words", defArgs s_law_words, defBody s_law_words, defScope s_law_words, [], []⟩
def d_law_ticked : He.DefD := ⟨("_law_ticked", none), "_law_ticked", "_law_ticked", defArgs s_law_ticked, defBody s_law_ticked, defScope s_law_ticked, [], []⟩
def d_law_says : He.DefD := ⟨("_law_says", none), "_law_says", "_law_says", defArgs s_law_says, defBody s_law_says, defScope s_law_says, [], []⟩
def d_law_told : He.DefD := ⟨("_law_told", none), "_law_told", "_law_told", defArgs s_law_told, defBody s_law_told, defScope s_law_told, [], []⟩
def d_law_right : He.DefD := ⟨("_law_right", none), "_law_right", "_law_right", defArgs s_law_right, defBody s_law_right, defScope s_law_right, [], []⟩
def d_law : He.DefD := ⟨("law", none), "law", "law", defArgs s_law, defBody s_law, defScope s_law, [], []⟩
def fns : List He.DefD := [d_is_integer, d_is_within, d_is_letter, d_is_word, d_need_word, d_pairs_in, d_need_row, d_need_two_ways, d_ow_init, d_ow_begin, d_ow_next, d_ow_says, d_two_ticks, d_tw_init, d_tw_begin, d_tw_next, d_tw_says, d_begun, d_ticked, d_worth_in, d_seat_in, d_due_in, d_said_in, d_told_in, d_need_both, d_told, d_key_order, d_is_key, d_rules_from, d_worths_from, d_tb_init, d_tb_begin, d_tb_next, d_tb_says, d_law_loom, d_law_weave, d_law_one, d_law_table, d_law_due, d_law_words, d_law_ticked, d_law_says, d_law_told, d_law_right, d_law]
def fa0 : List He.Fa := [.glo "is_integer", .glo "is_within", .glo "is_letter", .glo "is_word", .glo "need_word", .glo "pairs_in", .glo "need_row", .glo "need_two_ways", .glo "two_ticks", .glo "begun", .glo "ticked", .glo "worth_in", .glo "seat_in", .glo "due_in", .glo "said_in", .glo "told_in", .glo "need_both", .glo "told", .glo "key_order", .glo "is_key", .glo "rules_from", .glo "worths_from", .glo "_law_loom", .glo "_law_weave", .glo "_law_one", .glo "_law_table", .glo "_law_due", .glo "_law_words", .glo "_law_ticked", .glo "_law_says", .glo "_law_told", .glo "_law_right", .glo "law", .glo "Row", .glo "OneWay"]
def fa1 : List He.Fa := [.glo "TwoWays", .glo "Table", .glo "BEYOND", .free "isinstance", .free "int", .free "bool", .free "list", .free "tuple", .free "dict", .free "len", .free "all", .free "range", .free "max", .free "min", .free "set", .free "sorted", .free "enumerate", .free "abs", .free "repr", .int "LONGEST" 200, .int "MOST_LETTERS" 6, .int "ONE_WAY" 1, .int "TWO_WAYS" 2, .int "WAITS" 0, .int "WORKS" 1, .int "MOST_WORTHS" 12, .cls "OneWay", .mkr "OneWay", .noat "OneWay" "row", .noat "OneWay" "letters", .noat "OneWay" "ways", .meth "OneWay" "begin", .meth "OneWay" "next", .meth "OneWay" "says", .cls "TwoWays"]
def fa2 : List He.Fa := [.mkr "TwoWays", .noat "TwoWays" "row", .noat "TwoWays" "letters", .noat "TwoWays" "ways", .meth "TwoWays" "begin", .meth "TwoWays" "next", .meth "TwoWays" "says", .cls "Table", .mkr "Table", .noat "Table" "ways", .noat "Table" "letters", .noat "Table" "worths", .noat "Table" "rules", .noat "Table" "yes", .noat "Table" "by_key", .meth "Table" "begin", .meth "Table" "next", .meth "Table" "says"]
def fas : List He.Fa := fa0 ++ (fa1 ++ (fa2))
def lo0 : List PySem.Str := ["_wall", "RowError", "BadWord", "BadRow", "BadTable", "Misfit", "BadText", "LONGEST", "is_integer", "is_within", "is_letter", "is_word", "need_word", "pairs_in", "MOST_LETTERS", "ONE_WAY", "TWO_WAYS", "Row", "need_row", "WAITS", "WORKS", "need_two_ways", "OneWay", "BEYOND", "two_ticks", "TwoWays", "FIGURES", "MOST_FIGURES", "written", "Scan"]
def lo1 : List PySem.Str := ["scans_of", "scan_at", "begun", "ticked", "worth_in", "seat_in", "due_in", "said_in", "told_in", "need_both", "told", "MOST_WORTHS", "BORDER", "TO", "item_of", "rule_text", "parts_text", "place_taken", "key_taken", "yes_taken", "parts_read", "key_order", "is_key", "rules_from", "worths_from", "Table", "_law_loom", "_law_weave", "_law_one", "_law_table"]
def lo2 : List PySem.Str := ["_law_due", "_law_words", "_law_ticked", "_law_says", "_law_told", "_law_right"]
def loose : List PySem.Str := lo0 ++ (lo1 ++ (lo2))
/-- what isinstance asks of an own class -/
def isiB (K : PySem.W.Frag) (C : Addr) : Bool := He.eqO (PySem.W.findIn K (.ref C) "__class__") (some (some (.builtin "object.__class__"))) &&
  (decide (PySem.W.mroIn K C (.type "object") = some true) && decide (PySem.W.kitOne K (.ref C) (.ref (He.ga K "Row")) = some true))
def exB (K : PySem.W.Frag) : Bool := He.tupB K "BEYOND" [] && (isiB K (He.ga K "OneWay") && (isiB K (He.ga K "TwoWays") && (isiB K (He.ga K "Table") &&
  (He.eqO (PySem.W.specialIn K (.builtin "object.__class__") "__get__") (some (some (.builtin "getset_descriptor.__get__"))) && decide (PySem.W.takesIn K (.builtin "object.__class__") = some true)))))
def hkE : PySem.W.Hook where
  α := Bool × He.AlD
  obs := fun s => (exB (He.frG s.heap.get? (He.asD s.heap.get? 4)), He.obsDG 4 fas fns s.heap.get?)
  val := fun _ => (true, He.valD fns)
  says := fun _ h => ∃ K : PySem.W.Frag, K.In h ∧ He.SaysD fas fns K ∧ exB K = true
  of := fun _ _ e => ⟨_, He.frG_in, congrArg Prod.snd e, congrArg Prod.fst e⟩
  keeps := fun _ _ _ ⟨K, hK, c⟩ k => ⟨K, PySem.W.Frag.In.keeps hK k, c⟩
abbrev RO : PySem.W.OpenRow := PySem.W.OpenLaw.row PySem.Challenge.rw_backwardrow_k67_whole_both_makings_of_al
def obE (s : PySem.W.SharedT) : Bool × He.AlD := (exB (He.frG (HandSHeadRun.getT s) (He.asD (HandSHeadRun.getT s) 4)), He.obsDG 4 fas fns (HandSHeadRun.getT s))
theorem obE_eq (s : PySem.W.SharedT) : obE s = hkE.obs s.abs := by
  have e : HandSHeadRun.getT s = s.abs.heap.get? := funext (HandSHeadRun.getT_eq s)
  unfold obE
  rw [e]
  rfl
theorem run (w : World) : HandSHeadRun.RunEq RO (PySem.W.view RO.prog [76]) hkE obE 6000 loose w := by
  intro os
  kernel_rfl
end BR
set_option Elab.async false
set_option linter.all false
set_option maxRecDepth 100000
/-! Small rules that the layer lacks. -/
namespace BR
open PySem PySem.Spec PyProof.Rows L2
section
variable {X : Cx}
/-- an expression that is never reached -/
theorem pe_never {e : Expr} : PE X e (fun _ _ _ => False) := ⟨fun _ _ _ _ _ _ h => h.elim⟩
theorem pt_never {e : Expr} : PT X e (fun _ _ _ => False) := ⟨fun _ _ _ _ _ _ h => h.elim⟩
/-- a if t else b, where both give the one value and lay nothing -/
def tIfV (tA : TT) (ta tb : TE) : TE := fun σ H Q => tA σ H fun c H1 => ∃ v, (if c = true then ta σ H1 (fun y H2 => y = v ∧ H2 = H1) else tb σ H1 (fun y H2 => y = v ∧ H2 = H1)) ∧ Q v H1
theorem pe_ifV {c a b : Expr} {tA : TT} {ta tb : TE} {pos : Pos} (hc : PT X c tA) (ha : PE X a ta) (hb : PE X b tb) : PE X (.IfExp c a b pos) (tIfV tA ta tb) := by
  refine ⟨fun pins s σ H Q I h => ?_⟩
  refine wpAny_IfExp (thn (hc.run pins s σ H _ I h) fun d s1 ⟨H1, I1, v, q1, q2⟩ => ?_)
  cases d with
  | true => exact thn (ha.run pins s1 σ H1 _ I1 q1) fun u s2 ⟨y, H2, I2, r, e1, e2⟩ => (by subst e1 e2; exact ⟨y, H2, I2, r, q2⟩)
  | false => exact thn (hb.run pins s1 σ H1 _ I1 q1) fun u s2 ⟨y, H2, I2, r, e1, e2⟩ => (by subst e1 e2; exact ⟨y, H2, I2, r, q2⟩)
/-- repr of a bool -/
theorem call_repr_bool : CallR X (.builtin "repr") (fun xs H Q => ∃ b : Bool, xs = [.bl b] ∧ Q (.str (if b then "True" else "False")) H) := by
  intro pins s σ H xs us Q I r h
  obtain ⟨b, rfl, q⟩ := h
  obtain ⟨u, rfl, e⟩ := vals1 r
  cases (show u = Value.bool b from e)
  exact PySem.P.repr_of_bool ⟨.str _, H, I.tok _, ⟨_, rfl⟩, q⟩
/-- x in t, t a tuple of data -/
def rInT (K : PySem.W.Frag) : R2 := fun x y H Q => ∃ d ds, Dp K H x d ∧ Dp K H y (.tuple ds) ∧ SeqAt.shaped d = true ∧ SeqAt.shaped (.tuple ds) = true ∧ Q (.bl (ds.any fun z => PyData.eqv z d)) H
theorem op_inT (hu : X.A.units + 65 < cLine) : OpR X (compareOp .In) (rInT X.K) := by
  intro pins s σ H x y v u Q I rx ry h
  obtain ⟨d, ds, hd, he, sd, se, q⟩ := h
  obtain ⟨as, r1⟩ := Dp.reads I d x v hd rx
  obtain ⟨bs, r2⟩ := Dp.reads I (.tuple ds) y u he ry
  exact SeqAt.in_tuple_reads r2 r1 (SeqAt.canLay_of_shaped se) (SeqAt.canLay_of_shaped sd) (room_in_shaped sd hu) ⟨.bl _, H, I, rfl, q⟩
/-- o.f as a target -/
def gFld (K : PySem.W.Frag) (to : TE) (f : Str) : TG := fun v σ H Q => to σ H fun x H1 => ∃ a C dx fs, x = .ref a ∧ H1 a = some (.ins C dx fs) ∧ Cls K C ∧ NoAttr K C f ∧ fs.length < 1000 ∧ Q σ (upd H1 a (.ins C dx (putF f v fs)))
theorem pg_fld {o : Expr} {to : TE} {f : Str} {pos : Pos} (ho : PE X o to)
    (ha : ∀ v, assign (.Attribute o f pos) X.env v = (do
      let ov ← holding [v] (eval o X.env)
      standAt pos.atName
      holding [v, ov] (setAttr ov f v)
      release [v, ov] []) := by intro _; rfl) : PG X (.Attribute o f pos) (gFld X.K to f) := by
  refine ⟨fun pins s σ H v u Q I r h => ?_⟩
  rw [ha]
  refine wpAny_bind (wpAny_holding (thn (ho.run pins s σ H _ I h) fun ov s1 ⟨x, H1, I1, r1, q1⟩ => ?_))
  obtain ⟨a, C, dx, fs, rfl, ea, c, n, l, q⟩ := q1
  cases (show ov = Value.ref a from r1)
  refine wpAny_bind (wpAny_standAt (wpAny_bind (wpAny_holding ?_)))
  exact setattr_ok I1 ea c n l r fun s3 I3 => wpAny_release ⟨σ, _, I3, q⟩
/-- a range that a name holds, walked -/
def iRngV (te : TE) : TI := fun σ H R => te σ H fun x H1 => ∃ (a : Addr) (lo hi : Int), x = .ref a ∧ H1 a = some (.rng lo hi) ∧ (-(2 ^ 62) ≤ lo ∧ lo < 2 ^ 62 ∧ -(2 ^ 62) ≤ hi ∧ hi < 2 ^ 62) ∧ R (Itr lo (hi - lo).toNat) H1
theorem pi_rng {tg e : Expr} {te : TE} (he : PE X e te) : PI X tg e (iRngV te) := by
  refine ⟨fun pins s σ H R I h => ?_⟩
  refine thn (he.run pins s σ H _ I h) fun v s1 ⟨x, H1, I1, r1, q1⟩ => ?_
  obtain ⟨a, lo, hi, rfl, ea, ⟨h1, h2, h3, h4⟩, q⟩ := q1
  cases (show v = Value.ref a from r1)
  obtain ⟨t, u, w, e⟩ := (show ObjOk X.prog X.w H1 s1.heap a (.rng lo hi) from I1.hok a _ ea)
  refine wpAny_pyIter_range (show IsRange s1.heap a lo hi 1 t u w from e) (small_one h1 h2 h3 h4) ?_
  refine ⟨s1.heap.objs.size, [s1.heap.objs.size], _, _, H1, rfl, I1.kept (t' := s1.toks) fun b o e => Heap.get?_push_of_some _ e, turn_range _ lo (hi - lo).toNat, ?_, fun b hb => ?_, q⟩
  · have e1 : lo + ((0 : Nat) : Int) * 1 = lo := by simp
    have e2 : (((hi - lo).toNat : Nat) : Int) - ((0 : Nat) : Int) = Builtin.Range.rangeSize lo hi 1 := by rw [rangeSize_one]; split <;> omega
    show IsRangeIter _ _ (lo + ((0 : Nat) : Int) * 1) ((((hi - lo).toNat : Nat) : Int) - ((0 : Nat) : Int)) 1
    rw [e1, e2]
    exact Heap.get?_push_size _ rfl
  · have e : b = s1.heap.objs.size := by simpa using hb
    subst e
    exact I1.fpOk (Nat.le_refl _) (I1.hok.fresh (Nat.le_refl _))
/-- a list or a tuple, walked -/
def iSeq (K : PySem.W.Frag) (tl : TE) : TI := fun σ H R => tl σ H fun x H1 => ∃ a, x = .ref a ∧ (((∃ xs, SqL K H1 a xs) ∧ R (Itl K a) H1) ∨ ((∃ xs, SqT K H1 a xs) ∧ R (Itt K a) H1))
theorem pi_seq {tg l : Expr} {tl : TE} (hl : PE X l tl) : PI X tg l (iSeq X.K tl) := by
  refine ⟨fun pins s σ H R I h => ?_⟩
  refine thn (hl.run pins s σ H _ I h) fun v s1 ⟨x, H1, I1, r1, q1⟩ => ?_
  obtain ⟨a, e, q⟩ := q1
  subst e
  cases r1
  have hb : ∀ b ∈ [s1.heap.objs.size], FpOk X pins H1 b := fun b hb => by
    have e : b = s1.heap.objs.size := by simpa using hb
    subst e
    exact I1.fpOk (Nat.le_refl _) (I1.hok.fresh (Nat.le_refl _))
  rcases q with ⟨⟨xs, hq⟩, q⟩ | ⟨⟨xs, hq⟩, q⟩
  · obtain ⟨its, rv, p, hz⟩ := I1.list hq
    refine wpAny_pyIter_list p.isList ?_
    exact ⟨s1.heap.objs.size, [s1.heap.objs.size], _, _, H1, rfl, I1.kept (t' := s1.toks) fun b o e => Heap.get?_push_of_some _ e, turn_list a _, ⟨_, Heap.get?_push_size _ rfl, rfl, rfl⟩, hb, q⟩
  · obtain ⟨its, rv, p, hz⟩ := I1.tuple hq
    refine wpAny_pyIter_tuple (show s1.heap.IsTuple a its.toArray from p) ?_
    exact ⟨s1.heap.objs.size, [s1.heap.objs.size], _, _, H1, rfl, I1.kept (t' := s1.toks) fun b o e => Heap.get?_push_of_some _ e, turn_tuple a _, ⟨_, Heap.get?_push_size _ rfl, rfl, rfl⟩, hb, q⟩
/-- f(k = v, ..), no positional argument -/
theorem pe_callK0 {CX : CXT} {k : Nat} {f : Addr} {fd : FuncData} {ps ks : List Str} {sp : Sp} {E : XK} {x : Str} {p pos : Pos} {kws : List Keyword} {tk : TA} {g : List Value → List Value → List Value} {gV : List V → List V → List V}
    (F : FnOk X.prog X.w X.K X.mg X.base CX k f fd ps sp) (hr : Room k X.A) (hg : Gl X x) (hm : X.mg x = some (.ref f)) (hk : PySem.W.keepIn X.K (.ref f) = true) (hb : KBinds X.K fd ps ks g gV) (hx : Passes CX X E)
    (hkw : PK X kws tk) (hall : (backToKw pos (keywordEach kws X.env)).all (·.1.isSome) = true := by rfl) (hks : (backToKw pos (keywordEach kws X.env)).filterMap (·.1) = ks := by rfl)
    (hdb : (x == ("__debug__" : Str)) = false := by decide)
    (hpl : ((backTo pos (starEach [] X.env)).any (·.1) || (backToKw pos (keywordEach kws X.env)).any (·.1.isNone)) = false := by rfl) :
    PE X (.Call (.Name x p) [] kws pos) (tCallK sp gV E tNil tk) := by
  refine ⟨fun pins s σ H Q I h => ?_⟩
  refine wpAny_Call_Name_kw (ld_glob I hg hm ?_ hdb)
  refine PySem.W.callWith_KW0 (h₀ := X.base) I.ok.mod.kin hk hall ?_ hpl
  refine thn (hkw.run pos pins s σ H _ I h) fun ws s2 ⟨zs, H2, I2, rz, q2⟩ => ⟨I2.kIn, ?_⟩
  rw [hks]
  exact run_fnk (us := []) (vs := []) F hr hb hx I2 .nil rz q2
end
/-! ### defs of the text as they stand -/
/-- a def of the module -/
structure Df (K : PySem.W.Frag) (mg : Str → Option Value) (x : Str) (st : Stmt) (dvs : List V) (ps : List Str) : Prop where
  ex : ∃ (f : Addr) (fd : FuncData) (ds : List Value), FnP K x x st dvs f fd ∧ mg x = some (.ref f) ∧ PySem.W.keepIn K (.ref f) = true ∧ Binds K fd ps ds ∧ Vals dvs ds
/-- a method -/
structure Dm (K : PySem.W.Frag) (C : Addr) (m q : Str) (st : Stmt) (ps : List Str) : Prop where
  ex : ∃ (f : Addr) (fd : FuncData), FnP K m q st [] f fd ∧ Meth K C m f ∧ Binds K fd ps []
/-- a class by its own __init__ -/
structure Dk (K : PySem.W.Frag) (mg : Str → Option Value) (x : Str) (C : Addr) (q : Str) (st : Stmt) (ps : List Str) : Prop where
  ex : ∃ (f : Addr) (fd : FuncData), FnP K "__init__" q st [] f fd ∧ Mk K C f ∧ mg x = some (.ref C) ∧ Binds K fd ps []
structure Cal (P : Program) (w : World) (K : PySem.W.Frag) (mg : Str → Option Value) (base : Heap) (k : Nat) (x : Str) (sp : Sp) (dvs : List V) : Prop where
  ex : ∃ (f : Addr) (fd : FuncData) (ps : List Str) (ds : List Value), FnOk P w K mg base CX0 k f fd ps sp ∧ mg x = some (.ref f) ∧ PySem.W.keepIn K (.ref f) = true ∧ Binds K fd ps ds ∧ Vals dvs ds
structure Met (P : Program) (w : World) (K : PySem.W.Frag) (mg : Str → Option Value) (base : Heap) (k : Nat) (C : Addr) (m : Str) (sp : Sp) : Prop where
  ex : ∃ (f : Addr) (fd : FuncData) (ps : List Str), Meth K C m f ∧ FnOk P w K mg base CX0 k f fd ps sp ∧ Binds K fd ps []
structure Mak (P : Program) (w : World) (K : PySem.W.Frag) (mg : Str → Option Value) (base : Heap) (k : Nat) (x : Str) (C : Addr) (sp : Sp) : Prop where
  ex : ∃ (f : Addr) (fd : FuncData) (ps : List Str), Mk K C f ∧ FnOk P w K mg base CX0 k f fd ps sp ∧ mg x = some (.ref C) ∧ Binds K fd ps []
section
variable {P : Program} {w : World} {K : PySem.W.Frag} {mg : Str → Option Value} {base : Heap}
theorem FunD.ok0 {x qual : Str} {params : Arguments} {body : List Stmt} {scope : Scope} {dvs : List V} {f : Addr} {fd : FuncData} {N ps : List Str} {k : Nat} {sp : Sp} (F : FunD K x qual params body scope dvs [] f fd) (S : FnScope N ps scope) (len : ∀ vs H Q E, sp vs H Q E → vs.length = ps.length)
    (hbody : ∀ (cdv : Value) (A : Around) (outer : List Env) (s : Shared) (H : Hp) (vs : List V) (Q : VK) (E : XK), Room k (A.deeper (envOfC qual scope s.heap.objs.size f cdv)) → sp vs H Q E →
      ∃ t, PSs (cxOf CX0 P w K mg base N qual scope f cdv A outer s H E).nox body t ∧ t { nx := fun _ H' => Q .non H', rt := Q } (start N vs) H) : FnOk P w K mg base CX0 (k + 1) f fd ps sp := by
  refine F.ok S len fun cdv A outer s H vs Q E hr hsp => ?_
  obtain ⟨t, h, q⟩ := hbody cdv A outer s H vs Q E hr hsp
  exact ⟨t, h.nox, q⟩
theorem Df.cal {x : Str} {st : Stmt} {dvs : List V} {N ps : List Str} {k : Nat} {sp : Sp} (D : Df K mg x st dvs ps) (S : FnScope N ps (defScope st)) (len : ∀ vs H Q E, sp vs H Q E → vs.length = ps.length)
    (hbody : ∀ (f : Addr) (cdv : Value) (A : Around) (outer : List Env) (s : Shared) (H : Hp) (vs : List V) (Q : VK) (E : XK), Room k (A.deeper (envOfC x (defScope st) s.heap.objs.size f cdv)) → sp vs H Q E →
      ∃ t, PSs (cxOf CX0 P w K mg base N x (defScope st) f cdv A outer s H E).nox (defBody st) t ∧ t { nx := fun _ H' => Q .non H', rt := Q } (start N vs) H) : Cal P w K mg base (k + 1) x sp dvs := by
  obtain ⟨f, fd, ds, F, hm, kp, b, d⟩ := D.ex
  exact ⟨f, fd, ps, ds, FunD.ok0 F S len (hbody f), hm, kp, b, d⟩
theorem Dm.met {m q : Str} {C : Addr} {st : Stmt} {N ps : List Str} {k : Nat} {sp : Sp} (D : Dm K C m q st ps) (S : FnScope N ps (defScope st)) (len : ∀ vs H Q E, sp vs H Q E → vs.length = ps.length)
    (hbody : ∀ (f : Addr) (cdv : Value) (A : Around) (outer : List Env) (s : Shared) (H : Hp) (vs : List V) (Q : VK) (E : XK), Room k (A.deeper (envOfC q (defScope st) s.heap.objs.size f cdv)) → sp vs H Q E →
      ∃ t, PSs (cxOf CX0 P w K mg base N q (defScope st) f cdv A outer s H E).nox (defBody st) t ∧ t { nx := fun _ H' => Q .non H', rt := Q } (start N vs) H) : Met P w K mg base (k + 1) C m sp := by
  obtain ⟨f, fd, F, hm, b⟩ := D.ex
  exact ⟨f, fd, ps, hm, FunD.ok0 F S len (hbody f), b⟩
theorem Dk.mak {x q : Str} {C : Addr} {st : Stmt} {N ps : List Str} {k : Nat} {sp : Sp} (D : Dk K mg x C q st ps) (S : FnScope N ps (defScope st)) (len : ∀ vs H Q E, sp vs H Q E → vs.length = ps.length)
    (hbody : ∀ (f : Addr) (cdv : Value) (A : Around) (outer : List Env) (s : Shared) (H : Hp) (vs : List V) (Q : VK) (E : XK), Room k (A.deeper (envOfC q (defScope st) s.heap.objs.size f cdv)) → sp vs H Q E →
      ∃ t, PSs (cxOf CX0 P w K mg base N q (defScope st) f cdv A outer s H E).nox (defBody st) t ∧ t { nx := fun _ H' => Q .non H', rt := Q } (start N vs) H) : Mak P w K mg base (k + 1) x C sp := by
  obtain ⟨f, fd, F, M, hm, b⟩ := D.ex
  exact ⟨f, fd, ps, M, FunD.ok0 F S len (hbody f), hm, b⟩
theorem Met.mono {k j : Nat} {C : Addr} {m : Str} {sp : Sp} (c : Met P w K mg base k C m sp) (h : k ≤ j) : Met P w K mg base j C m sp := by
  obtain ⟨f, fd, ps, hm, F, b⟩ := c.ex
  exact ⟨f, fd, ps, hm, F.mono h, b⟩
end
section
variable {X : Cx} {k j : Nat} {C : Addr} {x m : Str} {sp : Sp} {dvs : List V} {p pos apos : Pos} {e o : Expr} {es : List Expr} {ta : TE} {t : TA}
theorem pe_c (c : Cal X.prog X.w X.K X.mg X.base k x sp dvs) (hr : Room j X.A) (ha : PA X (e :: es) t) (hk : k ≤ j := by decide) (hg : Gl X x := by rfl)
    (hdb : (x == ("__debug__" : Str)) = false := by decide) (he : starEach (e :: es) X.env = (false, eval e X.env) :: starEach es X.env := by rfl) (hpl : (backTo pos (starEach es X.env)).any (·.1) = false := by rfl) :
    PE X (.Call (.Name x p) (e :: es) [] pos) (tCall sp dvs E0 t) := by
  obtain ⟨f, fd, ps, ds, F, hm, kp, b, d⟩ := c.ex
  exact pe_call F (hr.mono hk) hg hm kp b d pass0 ha hdb he hpl
theorem pe_mk (c : Mak X.prog X.w X.K X.mg X.base k x C sp) (hr : Room j X.A) (ha : PA X (e :: es) t) (hk : k + 1 ≤ j := by decide) (hg : Gl X x := by rfl)
    (hdb : (x == ("__debug__" : Str)) = false := by decide) (he : starEach (e :: es) X.env = (false, eval e X.env) :: starEach es X.env := by rfl) (hpl : (backTo pos (starEach es X.env)).any (·.1) = false := by rfl) :
    PE X (.Call (.Name x p) (e :: es) [] pos) (tMake C sp [] E0 t) := by
  obtain ⟨f, fd, ps, M, F, hm, b⟩ := c.ex
  exact pe_make M F (hr.mono hk) hg hm b .nil pass0 ha hdb he hpl
theorem pe_mt {pl : Sem Bool} (c : Met X.prog X.w X.K X.mg X.base k C m sp) (cl : Cls X.K C) (hr : Room j X.A) (he : PE X o ta) (ha : PA X (e :: es) t) (hk : k ≤ j := by decide)
    (hst : starEach (e :: es) X.env = (false, eval e X.env) :: starEach es X.env := by rfl) (hpl : (backTo pos (starEach es X.env)).any (·.1) = false := by rfl)
    (ht : eval (.Call (.Attribute o m apos) (e :: es) [] pos) X.env = (do
      let ov ← eval o X.env
      standAt apos.atName
      let (f, first) ← holding [ov] (getMethod ov m pl)
      callWith pos f first (backTo pos (starEach (e :: es) X.env)) (backToKw pos (keywordEach [] X.env))) := by rfl) :
    PE X (.Call (.Attribute o m apos) (e :: es) [] pos) (tMeth C m sp [] E0 ta t) := by
  obtain ⟨f, fd, ps, hm, F, b⟩ := c.ex
  exact pe_meth (pl := pl) he cl hm F (hr.mono hk) b .nil pass0 ha hst hpl ht
end
end BR
set_option Elab.async false
set_option linter.all false
set_option maxRecDepth 100000
/-! What the walks ask of the top (printed by gen_top.py). -/
namespace BR
open PySem PySem.Spec PyProof.Rows L2
def cT (K : PySem.W.Frag) : Addr := He.ga K "Table"
def cO (K : PySem.W.Frag) : Addr := He.ga K "OneWay"
def cW (K : PySem.W.Frag) : Addr := He.ga K "TwoWays"
def cR (K : PySem.W.Frag) : Addr := He.ga K "Row"
def bA (K : PySem.W.Frag) : Addr := He.ga K "BEYOND"
/-- isinstance of a row -/
structure InsR (K : PySem.W.Frag) (C : Addr) : Prop where
  ha : PySem.W.findIn K (.ref C) "__class__" = some (some (.builtin "object.__class__"))
  hn : PySem.W.specialIn K (.builtin "object.__class__") "__get__" = some (some (.builtin "getset_descriptor.__get__"))
  htk : PySem.W.takesIn K (.builtin "object.__class__") = some true
  hm : PySem.W.mroIn K C (.type "object") = some true
  me : PySem.W.kitOne K (.ref C) (.ref (cR K)) = some true
structure Top (K : PySem.W.Frag) (mg : Str → Option Value) : Prop where
  f_isinstance : mg "isinstance" = none
  f_int : mg "int" = none
  f_bool : mg "bool" = none
  f_list : mg "list" = none
  f_tuple : mg "tuple" = none
  f_dict : mg "dict" = none
  f_len : mg "len" = none
  f_all : mg "all" = none
  f_range : mg "range" = none
  f_max : mg "max" = none
  f_min : mg "min" = none
  f_set : mg "set" = none
  f_sorted : mg "sorted" = none
  f_enumerate : mg "enumerate" = none
  f_abs : mg "abs" = none
  f_repr : mg "repr" = none
  i_LONGEST : ∃ t, mg "LONGEST" = some (.int 200 t)
  i_MOST_LETTERS : ∃ t, mg "MOST_LETTERS" = some (.int 6 t)
  i_ONE_WAY : ∃ t, mg "ONE_WAY" = some (.int 1 t)
  i_TWO_WAYS : ∃ t, mg "TWO_WAYS" = some (.int 2 t)
  i_WAITS : ∃ t, mg "WAITS" = some (.int 0 t)
  i_WORKS : ∃ t, mg "WORKS" = some (.int 1 t)
  i_MOST_WORTHS : ∃ t, mg "MOST_WORTHS" = some (.int 12 t)
  bey : mg "BEYOND" = some (.ref (bA K))
  beyT : ∀ H : Hp, SqT K H (bA K) []
  mgRow : mg "Row" = some (.ref (cR K))
  cl_OneWay : Cls K (cO K)
  is_OneWay : InsR K (cO K)
  na_OneWay_row : NoAttr K (cO K) "row"
  na_OneWay_letters : NoAttr K (cO K) "letters"
  na_OneWay_ways : NoAttr K (cO K) "ways"
  cl_TwoWays : Cls K (cW K)
  is_TwoWays : InsR K (cW K)
  na_TwoWays_row : NoAttr K (cW K) "row"
  na_TwoWays_letters : NoAttr K (cW K) "letters"
  na_TwoWays_ways : NoAttr K (cW K) "ways"
  cl_Table : Cls K (cT K)
  is_Table : InsR K (cT K)
  na_Table_ways : NoAttr K (cT K) "ways"
  na_Table_letters : NoAttr K (cT K) "letters"
  na_Table_worths : NoAttr K (cT K) "worths"
  na_Table_rules : NoAttr K (cT K) "rules"
  na_Table_yes : NoAttr K (cT K) "yes"
  na_Table_by_key : NoAttr K (cT K) "by_key"
  d_is_integer : Df K mg "is_integer" s_is_integer [] ["value"]
  d_is_within : Df K mg "is_within" s_is_within [] ["value", "least", "most"]
  d_is_letter : Df K mg "is_letter" s_is_letter [] ["value", "letters"]
  d_is_word : Df K mg "is_word" s_is_word [] ["value", "letters"]
  d_need_word : Df K mg "need_word" s_need_word [] ["value", "letters", "part"]
  d_pairs_in : Df K mg "pairs_in" s_pairs_in [] ["value"]
  d_need_row : Df K mg "need_row" s_need_row [.str "row"] ["value", "part"]
  d_need_two_ways : Df K mg "need_two_ways" s_need_two_ways [] ["row"]
  k_ow_init : Dk K mg "OneWay" (cO K) "OneWay.__init__" s_ow_init ["self", "row"]
  m_ow_begin : Dm K (cO K) "begin" "OneWay.begin" s_ow_begin ["self", "letter"]
  m_ow_next : Dm K (cO K) "next" "OneWay.next" s_ow_next ["self", "left", "own", "right"]
  m_ow_says : Dm K (cO K) "says" "OneWay.says" s_ow_says ["self", "worth"]
  d_two_ticks : Df K mg "two_ticks" s_two_ticks [] ["row", "p", "q", "x"]
  k_tw_init : Dk K mg "TwoWays" (cW K) "TwoWays.__init__" s_tw_init ["self", "row"]
  m_tw_begin : Dm K (cW K) "begin" "TwoWays.begin" s_tw_begin ["self", "letter"]
  m_tw_next : Dm K (cW K) "next" "TwoWays.next" s_tw_next ["self", "left", "own", "right"]
  m_tw_says : Dm K (cW K) "says" "TwoWays.says" s_tw_says ["self", "worth"]
  d_begun : Df K mg "begun" s_begun [] ["row", "word"]
  d_ticked : Df K mg "ticked" s_ticked [.int 0, .int 0] ["row", "worths", "low", "high"]
  d_worth_in : Df K mg "worth_in" s_worth_in [] ["row", "word", "cell", "tick"]
  d_seat_in : Df K mg "seat_in" s_seat_in [] ["row", "many"]
  d_due_in : Df K mg "due_in" s_due_in [] ["row", "many"]
  d_said_in : Df K mg "said_in" s_said_in [] ["row", "word", "tick"]
  d_told_in : Df K mg "told_in" s_told_in [] ["row", "word"]
  d_need_both : Df K mg "need_both" s_need_both [] ["row", "word"]
  d_told : Df K mg "told" s_told [] ["row", "word"]
  d_key_order : Df K mg "key_order" s_key_order [] ["key"]
  d_is_key : Df K mg "is_key" s_is_key [] ["value", "ways", "worths"]
  d_rules_from : Df K mg "rules_from" s_rules_from [] ["value", "ways", "worths"]
  d_worths_from : Df K mg "worths_from" s_worths_from [] ["value", "worths"]
  k_tb_init : Dk K mg "Table" (cT K) "Table.__init__" s_tb_init ["self", "ways", "letters", "worths", "rules", "yes"]
  m_tb_begin : Dm K (cT K) "begin" "Table.begin" s_tb_begin ["self", "letter"]
  m_tb_next : Dm K (cT K) "next" "Table.next" s_tb_next ["self", "left", "own", "right"]
  m_tb_says : Dm K (cT K) "says" "Table.says" s_tb_says ["self", "worth"]
  d_law_loom : Df K mg "_law_loom" s_law_loom [] ["_law_script"]
  d_law_weave : Df K mg "_law_weave" s_law_weave [] ["_law_loom_here", "_law_many"]
  d_law_one : Df K mg "_law_one" s_law_one [] ["_law_loom_here", "_law_some"]
  d_law_table : Df K mg "_law_table" s_law_table [] ["_law_loom_here", "_law_ways", "_law_letters", "_law_worths"]
  d_law_due : Df K mg "_law_due" s_law_due [] ["_law_ways", "_law_rules", "_law_yes", "_law_word", "_law_ticks"]
  d_law_words : Df K mg "_law_words" s_law_words [] ["_law_letters", "_law_most"]
  d_law_ticked : Df K mg "_law_ticked" s_law_ticked [] ["_law_row", "_law_cells"]
  d_law_says : Df K mg "_law_says" s_law_says [] ["_law_row", "_law_word", "_law_ticks"]
  d_law_told : Df K mg "_law_told" s_law_told [] ["_law_row", "_law_word"]
  d_law_right : Df K mg "_law_right" s_law_right [] ["_law_loom_here", "_law_ways", "_law_letters", "_law_worths", "_law_most"]
  d_law : Df K mg "law" s_law [] ["_law_script"]
section
variable {X : Cx}
/-- a whole number of the module -/
theorem pe_gi {x : Str} {i : Int} {pos : Pos} (h : ∃ t, X.mg x = some (.int i t)) (hg : Gl X x := by rfl) (hd : (x == ("__debug__" : Str)) = false := by decide) : PE X (.Name x pos) (tC (.int i)) := by
  obtain ⟨t, h⟩ := h
  exact pe_glob hg h ⟨t, rfl⟩ hd
end
end BR
set_option Elab.async false
set_option linter.all false
set_option maxRecDepth 100000
set_option maxHeartbeats 0
/-! The facts that the walks ask for hold behind the top (printed by gen_top.py). -/
namespace BR
open PySem PySem.Spec PyProof.Rows L2
section
variable {K : PySem.W.Frag} {h : Heap} {mg : Str → Option Value}
theorem is_of {C : Addr} (h1 : isiB K C = true) (h2 : (He.eqO (PySem.W.specialIn K (.builtin "object.__class__") "__get__") (some (some (.builtin "getset_descriptor.__get__"))) && decide (PySem.W.takesIn K (.builtin "object.__class__") = some true)) = true) : InsR K C :=
  ⟨He.eqO_ok (He.ba h1).1, He.eqO_ok (He.ba h2).1, of_decide_eq_true (He.ba h2).2, of_decide_eq_true (He.ba (He.ba h1).2).1, of_decide_eq_true (He.ba (He.ba h1).2).2⟩
theorem is_OneWay (hx : exB K = true) : InsR K (cO K) := is_of (He.ba (He.ba hx).2).1 (He.ba (He.ba (He.ba (He.ba hx).2).2).2).2
theorem is_TwoWays (hx : exB K = true) : InsR K (cW K) := is_of (He.ba (He.ba (He.ba hx).2).2).1 (He.ba (He.ba (He.ba (He.ba hx).2).2).2).2
theorem is_Table (hx : exB K = true) : InsR K (cT K) := is_of (He.ba (He.ba (He.ba (He.ba hx).2).2).2).1 (He.ba (He.ba (He.ba (He.ba hx).2).2).2).2
theorem t_is_integer (X : K.In h) (G : h.Ns mainGlobals mg) (c : He.SaysD fas fns K) : Df K mg "is_integer" s_is_integer [] ["value"] := by
  obtain ⟨fd, F⟩ := c.def_ 0 (d := d_is_integer) rfl
  exact ⟨_, fd, [], F, He.glo_ok X G (c.fact 0 (f := .glo "is_integer") rfl), F.kp, FunD.bindsN F fun _ _ _ _ _ _ us hl => match us, hl with | [_], _ => rfl, .nil⟩
theorem t_is_within (X : K.In h) (G : h.Ns mainGlobals mg) (c : He.SaysD fas fns K) : Df K mg "is_within" s_is_within [] ["value", "least", "most"] := by
  obtain ⟨fd, F⟩ := c.def_ 1 (d := d_is_within) rfl
  exact ⟨_, fd, [], F, He.glo_ok X G (c.fact 1 (f := .glo "is_within") rfl), F.kp, FunD.bindsN F fun _ _ _ _ _ _ us hl => match us, hl with | [_, _, _], _ => rfl, .nil⟩
theorem t_is_letter (X : K.In h) (G : h.Ns mainGlobals mg) (c : He.SaysD fas fns K) : Df K mg "is_letter" s_is_letter [] ["value", "letters"] := by
  obtain ⟨fd, F⟩ := c.def_ 2 (d := d_is_letter) rfl
  exact ⟨_, fd, [], F, He.glo_ok X G (c.fact 2 (f := .glo "is_letter") rfl), F.kp, FunD.bindsN F fun _ _ _ _ _ _ us hl => match us, hl with | [_, _], _ => rfl, .nil⟩
theorem t_is_word (X : K.In h) (G : h.Ns mainGlobals mg) (c : He.SaysD fas fns K) : Df K mg "is_word" s_is_word [] ["value", "letters"] := by
  obtain ⟨fd, F⟩ := c.def_ 3 (d := d_is_word) rfl
  exact ⟨_, fd, [], F, He.glo_ok X G (c.fact 3 (f := .glo "is_word") rfl), F.kp, FunD.bindsN F fun _ _ _ _ _ _ us hl => match us, hl with | [_, _], _ => rfl, .nil⟩
theorem t_need_word (X : K.In h) (G : h.Ns mainGlobals mg) (c : He.SaysD fas fns K) : Df K mg "need_word" s_need_word [] ["value", "letters", "part"] := by
  obtain ⟨fd, F⟩ := c.def_ 4 (d := d_need_word) rfl
  exact ⟨_, fd, [], F, He.glo_ok X G (c.fact 4 (f := .glo "need_word") rfl), F.kp, FunD.bindsN F fun _ _ _ _ _ _ us hl => match us, hl with | [_, _, _], _ => rfl, .nil⟩
theorem t_pairs_in (X : K.In h) (G : h.Ns mainGlobals mg) (c : He.SaysD fas fns K) : Df K mg "pairs_in" s_pairs_in [] ["value"] := by
  obtain ⟨fd, F⟩ := c.def_ 5 (d := d_pairs_in) rfl
  exact ⟨_, fd, [], F, He.glo_ok X G (c.fact 5 (f := .glo "pairs_in") rfl), F.kp, FunD.bindsN F fun _ _ _ _ _ _ us hl => match us, hl with | [_], _ => rfl, .nil⟩
theorem t_need_row (X : K.In h) (G : h.Ns mainGlobals mg) (c : He.SaysD fas fns K) : Df K mg "need_row" s_need_row [.str "row"] ["value", "part"] := by
  obtain ⟨fd, F⟩ := c.def_ 6 (d := d_need_row) rfl
  obtain ⟨ds, hv, hb⟩ := FunD.binds1 (ps := ["value", "part"]) F 1 0 (by intro z; cases z) rfl (fun T _ _ _ _ _ _ us its hl hl2 => match us, its, hl, hl2 with | [_], [_], _, _ => ⟨_, rfl, rfl⟩)
  exact ⟨_, fd, ds, F, He.glo_ok X G (c.fact 6 (f := .glo "need_row") rfl), F.kp, hb, hv⟩
theorem t_need_two_ways (X : K.In h) (G : h.Ns mainGlobals mg) (c : He.SaysD fas fns K) : Df K mg "need_two_ways" s_need_two_ways [] ["row"] := by
  obtain ⟨fd, F⟩ := c.def_ 7 (d := d_need_two_ways) rfl
  exact ⟨_, fd, [], F, He.glo_ok X G (c.fact 7 (f := .glo "need_two_ways") rfl), F.kp, FunD.bindsN F fun _ _ _ _ _ _ us hl => match us, hl with | [_], _ => rfl, .nil⟩
theorem t_ow_init (X : K.In h) (G : h.Ns mainGlobals mg) (c : He.SaysD fas fns K) : Dk K mg "OneWay" (cO K) "OneWay.__init__" s_ow_init ["self", "row"] := by
  obtain ⟨fd, F⟩ := c.def_ 8 (d := d_ow_init) rfl
  exact ⟨_, fd, F, He.mkr_ok (c.fact 62 (f := .mkr "OneWay") rfl), He.glo_ok X G (c.fact 34 (f := .glo "OneWay") rfl), FunD.bindsN F fun _ _ _ _ _ _ us hl => match us, hl with | [_, _], _ => rfl⟩
theorem t_ow_begin (X : K.In h) (G : h.Ns mainGlobals mg) (c : He.SaysD fas fns K) : Dm K (cO K) "begin" "OneWay.begin" s_ow_begin ["self", "letter"] := by
  obtain ⟨fd, F⟩ := c.def_ 9 (d := d_ow_begin) rfl
  exact ⟨_, fd, F, He.meth_ok (c.fact 66 (f := .meth "OneWay" "begin") rfl), FunD.bindsN F fun _ _ _ _ _ _ us hl => match us, hl with | [_, _], _ => rfl⟩
theorem t_ow_next (X : K.In h) (G : h.Ns mainGlobals mg) (c : He.SaysD fas fns K) : Dm K (cO K) "next" "OneWay.next" s_ow_next ["self", "left", "own", "right"] := by
  obtain ⟨fd, F⟩ := c.def_ 10 (d := d_ow_next) rfl
  exact ⟨_, fd, F, He.meth_ok (c.fact 67 (f := .meth "OneWay" "next") rfl), FunD.bindsN F fun _ _ _ _ _ _ us hl => match us, hl with | [_, _, _, _], _ => rfl⟩
theorem t_ow_says (X : K.In h) (G : h.Ns mainGlobals mg) (c : He.SaysD fas fns K) : Dm K (cO K) "says" "OneWay.says" s_ow_says ["self", "worth"] := by
  obtain ⟨fd, F⟩ := c.def_ 11 (d := d_ow_says) rfl
  exact ⟨_, fd, F, He.meth_ok (c.fact 68 (f := .meth "OneWay" "says") rfl), FunD.bindsN F fun _ _ _ _ _ _ us hl => match us, hl with | [_, _], _ => rfl⟩
theorem t_two_ticks (X : K.In h) (G : h.Ns mainGlobals mg) (c : He.SaysD fas fns K) : Df K mg "two_ticks" s_two_ticks [] ["row", "p", "q", "x"] := by
  obtain ⟨fd, F⟩ := c.def_ 12 (d := d_two_ticks) rfl
  exact ⟨_, fd, [], F, He.glo_ok X G (c.fact 8 (f := .glo "two_ticks") rfl), F.kp, FunD.bindsN F fun _ _ _ _ _ _ us hl => match us, hl with | [_, _, _, _], _ => rfl, .nil⟩
theorem t_tw_init (X : K.In h) (G : h.Ns mainGlobals mg) (c : He.SaysD fas fns K) : Dk K mg "TwoWays" (cW K) "TwoWays.__init__" s_tw_init ["self", "row"] := by
  obtain ⟨fd, F⟩ := c.def_ 13 (d := d_tw_init) rfl
  exact ⟨_, fd, F, He.mkr_ok (c.fact 70 (f := .mkr "TwoWays") rfl), He.glo_ok X G (c.fact 35 (f := .glo "TwoWays") rfl), FunD.bindsN F fun _ _ _ _ _ _ us hl => match us, hl with | [_, _], _ => rfl⟩
theorem t_tw_begin (X : K.In h) (G : h.Ns mainGlobals mg) (c : He.SaysD fas fns K) : Dm K (cW K) "begin" "TwoWays.begin" s_tw_begin ["self", "letter"] := by
  obtain ⟨fd, F⟩ := c.def_ 14 (d := d_tw_begin) rfl
  exact ⟨_, fd, F, He.meth_ok (c.fact 74 (f := .meth "TwoWays" "begin") rfl), FunD.bindsN F fun _ _ _ _ _ _ us hl => match us, hl with | [_, _], _ => rfl⟩
theorem t_tw_next (X : K.In h) (G : h.Ns mainGlobals mg) (c : He.SaysD fas fns K) : Dm K (cW K) "next" "TwoWays.next" s_tw_next ["self", "left", "own", "right"] := by
  obtain ⟨fd, F⟩ := c.def_ 15 (d := d_tw_next) rfl
  exact ⟨_, fd, F, He.meth_ok (c.fact 75 (f := .meth "TwoWays" "next") rfl), FunD.bindsN F fun _ _ _ _ _ _ us hl => match us, hl with | [_, _, _, _], _ => rfl⟩
theorem t_tw_says (X : K.In h) (G : h.Ns mainGlobals mg) (c : He.SaysD fas fns K) : Dm K (cW K) "says" "TwoWays.says" s_tw_says ["self", "worth"] := by
  obtain ⟨fd, F⟩ := c.def_ 16 (d := d_tw_says) rfl
  exact ⟨_, fd, F, He.meth_ok (c.fact 76 (f := .meth "TwoWays" "says") rfl), FunD.bindsN F fun _ _ _ _ _ _ us hl => match us, hl with | [_, _], _ => rfl⟩
theorem t_begun (X : K.In h) (G : h.Ns mainGlobals mg) (c : He.SaysD fas fns K) : Df K mg "begun" s_begun [] ["row", "word"] := by
  obtain ⟨fd, F⟩ := c.def_ 17 (d := d_begun) rfl
  exact ⟨_, fd, [], F, He.glo_ok X G (c.fact 9 (f := .glo "begun") rfl), F.kp, FunD.bindsN F fun _ _ _ _ _ _ us hl => match us, hl with | [_, _], _ => rfl, .nil⟩
theorem t_ticked (X : K.In h) (G : h.Ns mainGlobals mg) (c : He.SaysD fas fns K) : Df K mg "ticked" s_ticked [.int 0, .int 0] ["row", "worths", "low", "high"] := by
  obtain ⟨fd, F⟩ := c.def_ 18 (d := d_ticked) rfl
  obtain ⟨ds, hv, hb⟩ := FunD.binds1 (ps := ["row", "worths", "low", "high"]) F 2 0 (by intro z; cases z) rfl (fun T _ _ _ _ _ _ us its hl hl2 => match us, its, hl, hl2 with | [_, _], [_, _], _, _ => ⟨_, rfl, rfl⟩)
  exact ⟨_, fd, ds, F, He.glo_ok X G (c.fact 10 (f := .glo "ticked") rfl), F.kp, hb, hv⟩
theorem t_worth_in (X : K.In h) (G : h.Ns mainGlobals mg) (c : He.SaysD fas fns K) : Df K mg "worth_in" s_worth_in [] ["row", "word", "cell", "tick"] := by
  obtain ⟨fd, F⟩ := c.def_ 19 (d := d_worth_in) rfl
  exact ⟨_, fd, [], F, He.glo_ok X G (c.fact 11 (f := .glo "worth_in") rfl), F.kp, FunD.bindsN F fun _ _ _ _ _ _ us hl => match us, hl with | [_, _, _, _], _ => rfl, .nil⟩
theorem t_seat_in (X : K.In h) (G : h.Ns mainGlobals mg) (c : He.SaysD fas fns K) : Df K mg "seat_in" s_seat_in [] ["row", "many"] := by
  obtain ⟨fd, F⟩ := c.def_ 20 (d := d_seat_in) rfl
  exact ⟨_, fd, [], F, He.glo_ok X G (c.fact 12 (f := .glo "seat_in") rfl), F.kp, FunD.bindsN F fun _ _ _ _ _ _ us hl => match us, hl with | [_, _], _ => rfl, .nil⟩
theorem t_due_in (X : K.In h) (G : h.Ns mainGlobals mg) (c : He.SaysD fas fns K) : Df K mg "due_in" s_due_in [] ["row", "many"] := by
  obtain ⟨fd, F⟩ := c.def_ 21 (d := d_due_in) rfl
  exact ⟨_, fd, [], F, He.glo_ok X G (c.fact 13 (f := .glo "due_in") rfl), F.kp, FunD.bindsN F fun _ _ _ _ _ _ us hl => match us, hl with | [_, _], _ => rfl, .nil⟩
theorem t_said_in (X : K.In h) (G : h.Ns mainGlobals mg) (c : He.SaysD fas fns K) : Df K mg "said_in" s_said_in [] ["row", "word", "tick"] := by
  obtain ⟨fd, F⟩ := c.def_ 22 (d := d_said_in) rfl
  exact ⟨_, fd, [], F, He.glo_ok X G (c.fact 14 (f := .glo "said_in") rfl), F.kp, FunD.bindsN F fun _ _ _ _ _ _ us hl => match us, hl with | [_, _, _], _ => rfl, .nil⟩
theorem t_told_in (X : K.In h) (G : h.Ns mainGlobals mg) (c : He.SaysD fas fns K) : Df K mg "told_in" s_told_in [] ["row", "word"] := by
  obtain ⟨fd, F⟩ := c.def_ 23 (d := d_told_in) rfl
  exact ⟨_, fd, [], F, He.glo_ok X G (c.fact 15 (f := .glo "told_in") rfl), F.kp, FunD.bindsN F fun _ _ _ _ _ _ us hl => match us, hl with | [_, _], _ => rfl, .nil⟩
theorem t_need_both (X : K.In h) (G : h.Ns mainGlobals mg) (c : He.SaysD fas fns K) : Df K mg "need_both" s_need_both [] ["row", "word"] := by
  obtain ⟨fd, F⟩ := c.def_ 24 (d := d_need_both) rfl
  exact ⟨_, fd, [], F, He.glo_ok X G (c.fact 16 (f := .glo "need_both") rfl), F.kp, FunD.bindsN F fun _ _ _ _ _ _ us hl => match us, hl with | [_, _], _ => rfl, .nil⟩
theorem t_told (X : K.In h) (G : h.Ns mainGlobals mg) (c : He.SaysD fas fns K) : Df K mg "told" s_told [] ["row", "word"] := by
  obtain ⟨fd, F⟩ := c.def_ 25 (d := d_told) rfl
  exact ⟨_, fd, [], F, He.glo_ok X G (c.fact 17 (f := .glo "told") rfl), F.kp, FunD.bindsN F fun _ _ _ _ _ _ us hl => match us, hl with | [_, _], _ => rfl, .nil⟩
theorem t_key_order (X : K.In h) (G : h.Ns mainGlobals mg) (c : He.SaysD fas fns K) : Df K mg "key_order" s_key_order [] ["key"] := by
  obtain ⟨fd, F⟩ := c.def_ 26 (d := d_key_order) rfl
  exact ⟨_, fd, [], F, He.glo_ok X G (c.fact 18 (f := .glo "key_order") rfl), F.kp, FunD.bindsN F fun _ _ _ _ _ _ us hl => match us, hl with | [_], _ => rfl, .nil⟩
theorem t_is_key (X : K.In h) (G : h.Ns mainGlobals mg) (c : He.SaysD fas fns K) : Df K mg "is_key" s_is_key [] ["value", "ways", "worths"] := by
  obtain ⟨fd, F⟩ := c.def_ 27 (d := d_is_key) rfl
  exact ⟨_, fd, [], F, He.glo_ok X G (c.fact 19 (f := .glo "is_key") rfl), F.kp, FunD.bindsN F fun _ _ _ _ _ _ us hl => match us, hl with | [_, _, _], _ => rfl, .nil⟩
theorem t_rules_from (X : K.In h) (G : h.Ns mainGlobals mg) (c : He.SaysD fas fns K) : Df K mg "rules_from" s_rules_from [] ["value", "ways", "worths"] := by
  obtain ⟨fd, F⟩ := c.def_ 28 (d := d_rules_from) rfl
  exact ⟨_, fd, [], F, He.glo_ok X G (c.fact 20 (f := .glo "rules_from") rfl), F.kp, FunD.bindsN F fun _ _ _ _ _ _ us hl => match us, hl with | [_, _, _], _ => rfl, .nil⟩
theorem t_worths_from (X : K.In h) (G : h.Ns mainGlobals mg) (c : He.SaysD fas fns K) : Df K mg "worths_from" s_worths_from [] ["value", "worths"] := by
  obtain ⟨fd, F⟩ := c.def_ 29 (d := d_worths_from) rfl
  exact ⟨_, fd, [], F, He.glo_ok X G (c.fact 21 (f := .glo "worths_from") rfl), F.kp, FunD.bindsN F fun _ _ _ _ _ _ us hl => match us, hl with | [_, _], _ => rfl, .nil⟩
theorem t_tb_init (X : K.In h) (G : h.Ns mainGlobals mg) (c : He.SaysD fas fns K) : Dk K mg "Table" (cT K) "Table.__init__" s_tb_init ["self", "ways", "letters", "worths", "rules", "yes"] := by
  obtain ⟨fd, F⟩ := c.def_ 30 (d := d_tb_init) rfl
  exact ⟨_, fd, F, He.mkr_ok (c.fact 78 (f := .mkr "Table") rfl), He.glo_ok X G (c.fact 36 (f := .glo "Table") rfl), FunD.bindsN F fun _ _ _ _ _ _ us hl => match us, hl with | [_, _, _, _, _, _], _ => rfl⟩
theorem t_tb_begin (X : K.In h) (G : h.Ns mainGlobals mg) (c : He.SaysD fas fns K) : Dm K (cT K) "begin" "Table.begin" s_tb_begin ["self", "letter"] := by
  obtain ⟨fd, F⟩ := c.def_ 31 (d := d_tb_begin) rfl
  exact ⟨_, fd, F, He.meth_ok (c.fact 85 (f := .meth "Table" "begin") rfl), FunD.bindsN F fun _ _ _ _ _ _ us hl => match us, hl with | [_, _], _ => rfl⟩
theorem t_tb_next (X : K.In h) (G : h.Ns mainGlobals mg) (c : He.SaysD fas fns K) : Dm K (cT K) "next" "Table.next" s_tb_next ["self", "left", "own", "right"] := by
  obtain ⟨fd, F⟩ := c.def_ 32 (d := d_tb_next) rfl
  exact ⟨_, fd, F, He.meth_ok (c.fact 86 (f := .meth "Table" "next") rfl), FunD.bindsN F fun _ _ _ _ _ _ us hl => match us, hl with | [_, _, _, _], _ => rfl⟩
theorem t_tb_says (X : K.In h) (G : h.Ns mainGlobals mg) (c : He.SaysD fas fns K) : Dm K (cT K) "says" "Table.says" s_tb_says ["self", "worth"] := by
  obtain ⟨fd, F⟩ := c.def_ 33 (d := d_tb_says) rfl
  exact ⟨_, fd, F, He.meth_ok (c.fact 87 (f := .meth "Table" "says") rfl), FunD.bindsN F fun _ _ _ _ _ _ us hl => match us, hl with | [_, _], _ => rfl⟩
theorem t_law_loom (X : K.In h) (G : h.Ns mainGlobals mg) (c : He.SaysD fas fns K) : Df K mg "_law_loom" s_law_loom [] ["_law_script"] := by
  obtain ⟨fd, F⟩ := c.def_ 34 (d := d_law_loom) rfl
  exact ⟨_, fd, [], F, He.glo_ok X G (c.fact 22 (f := .glo "_law_loom") rfl), F.kp, FunD.bindsN F fun _ _ _ _ _ _ us hl => match us, hl with | [_], _ => rfl, .nil⟩
theorem t_law_weave (X : K.In h) (G : h.Ns mainGlobals mg) (c : He.SaysD fas fns K) : Df K mg "_law_weave" s_law_weave [] ["_law_loom_here", "_law_many"] := by
  obtain ⟨fd, F⟩ := c.def_ 35 (d := d_law_weave) rfl
  exact ⟨_, fd, [], F, He.glo_ok X G (c.fact 23 (f := .glo "_law_weave") rfl), F.kp, FunD.bindsN F fun _ _ _ _ _ _ us hl => match us, hl with | [_, _], _ => rfl, .nil⟩
theorem t_law_one (X : K.In h) (G : h.Ns mainGlobals mg) (c : He.SaysD fas fns K) : Df K mg "_law_one" s_law_one [] ["_law_loom_here", "_law_some"] := by
  obtain ⟨fd, F⟩ := c.def_ 36 (d := d_law_one) rfl
  exact ⟨_, fd, [], F, He.glo_ok X G (c.fact 24 (f := .glo "_law_one") rfl), F.kp, FunD.bindsN F fun _ _ _ _ _ _ us hl => match us, hl with | [_, _], _ => rfl, .nil⟩
theorem t_law_table (X : K.In h) (G : h.Ns mainGlobals mg) (c : He.SaysD fas fns K) : Df K mg "_law_table" s_law_table [] ["_law_loom_here", "_law_ways", "_law_letters", "_law_worths"] := by
  obtain ⟨fd, F⟩ := c.def_ 37 (d := d_law_table) rfl
  exact ⟨_, fd, [], F, He.glo_ok X G (c.fact 25 (f := .glo "_law_table") rfl), F.kp, FunD.bindsN F fun _ _ _ _ _ _ us hl => match us, hl with | [_, _, _, _], _ => rfl, .nil⟩
theorem t_law_due (X : K.In h) (G : h.Ns mainGlobals mg) (c : He.SaysD fas fns K) : Df K mg "_law_due" s_law_due [] ["_law_ways", "_law_rules", "_law_yes", "_law_word", "_law_ticks"] := by
  obtain ⟨fd, F⟩ := c.def_ 38 (d := d_law_due) rfl
  exact ⟨_, fd, [], F, He.glo_ok X G (c.fact 26 (f := .glo "_law_due") rfl), F.kp, FunD.bindsN F fun _ _ _ _ _ _ us hl => match us, hl with | [_, _, _, _, _], _ => rfl, .nil⟩
theorem t_law_words (X : K.In h) (G : h.Ns mainGlobals mg) (c : He.SaysD fas fns K) : Df K mg "_law_words" s_law_words [] ["_law_letters", "_law_most"] := by
  obtain ⟨fd, F⟩ := c.def_ 39 (d := d_law_words) rfl
  exact ⟨_, fd, [], F, He.glo_ok X G (c.fact 27 (f := .glo "_law_words") rfl), F.kp, FunD.bindsN F fun _ _ _ _ _ _ us hl => match us, hl with | [_, _], _ => rfl, .nil⟩
theorem t_law_ticked (X : K.In h) (G : h.Ns mainGlobals mg) (c : He.SaysD fas fns K) : Df K mg "_law_ticked" s_law_ticked [] ["_law_row", "_law_cells"] := by
  obtain ⟨fd, F⟩ := c.def_ 40 (d := d_law_ticked) rfl
  exact ⟨_, fd, [], F, He.glo_ok X G (c.fact 28 (f := .glo "_law_ticked") rfl), F.kp, FunD.bindsN F fun _ _ _ _ _ _ us hl => match us, hl with | [_, _], _ => rfl, .nil⟩
theorem t_law_says (X : K.In h) (G : h.Ns mainGlobals mg) (c : He.SaysD fas fns K) : Df K mg "_law_says" s_law_says [] ["_law_row", "_law_word", "_law_ticks"] := by
  obtain ⟨fd, F⟩ := c.def_ 41 (d := d_law_says) rfl
  exact ⟨_, fd, [], F, He.glo_ok X G (c.fact 29 (f := .glo "_law_says") rfl), F.kp, FunD.bindsN F fun _ _ _ _ _ _ us hl => match us, hl with | [_, _, _], _ => rfl, .nil⟩
theorem t_law_told (X : K.In h) (G : h.Ns mainGlobals mg) (c : He.SaysD fas fns K) : Df K mg "_law_told" s_law_told [] ["_law_row", "_law_word"] := by
  obtain ⟨fd, F⟩ := c.def_ 42 (d := d_law_told) rfl
  exact ⟨_, fd, [], F, He.glo_ok X G (c.fact 30 (f := .glo "_law_told") rfl), F.kp, FunD.bindsN F fun _ _ _ _ _ _ us hl => match us, hl with | [_, _], _ => rfl, .nil⟩
theorem t_law_right (X : K.In h) (G : h.Ns mainGlobals mg) (c : He.SaysD fas fns K) : Df K mg "_law_right" s_law_right [] ["_law_loom_here", "_law_ways", "_law_letters", "_law_worths", "_law_most"] := by
  obtain ⟨fd, F⟩ := c.def_ 43 (d := d_law_right) rfl
  exact ⟨_, fd, [], F, He.glo_ok X G (c.fact 31 (f := .glo "_law_right") rfl), F.kp, FunD.bindsN F fun _ _ _ _ _ _ us hl => match us, hl with | [_, _, _, _, _], _ => rfl, .nil⟩
theorem t_law (X : K.In h) (G : h.Ns mainGlobals mg) (c : He.SaysD fas fns K) : Df K mg "law" s_law [] ["_law_script"] := by
  obtain ⟨fd, F⟩ := c.def_ 44 (d := d_law) rfl
  exact ⟨_, fd, [], F, He.glo_ok X G (c.fact 32 (f := .glo "law") rfl), F.kp, FunD.bindsN F fun _ _ _ _ _ _ us hl => match us, hl with | [_], _ => rfl, .nil⟩
theorem top_of (X : K.In h) (G : h.Ns mainGlobals mg) (c : He.SaysD fas fns K) (hx : exB K = true) : Top K mg :=
  ⟨He.free_ok X G (c.fact 38 (f := .free "isinstance") rfl),
   He.free_ok X G (c.fact 39 (f := .free "int") rfl),
   He.free_ok X G (c.fact 40 (f := .free "bool") rfl),
   He.free_ok X G (c.fact 41 (f := .free "list") rfl),
   He.free_ok X G (c.fact 42 (f := .free "tuple") rfl),
   He.free_ok X G (c.fact 43 (f := .free "dict") rfl),
   He.free_ok X G (c.fact 44 (f := .free "len") rfl),
   He.free_ok X G (c.fact 45 (f := .free "all") rfl),
   He.free_ok X G (c.fact 46 (f := .free "range") rfl),
   He.free_ok X G (c.fact 47 (f := .free "max") rfl),
   He.free_ok X G (c.fact 48 (f := .free "min") rfl),
   He.free_ok X G (c.fact 49 (f := .free "set") rfl),
   He.free_ok X G (c.fact 50 (f := .free "sorted") rfl),
   He.free_ok X G (c.fact 51 (f := .free "enumerate") rfl),
   He.free_ok X G (c.fact 52 (f := .free "abs") rfl),
   He.free_ok X G (c.fact 53 (f := .free "repr") rfl),
   He.int_ok X G (c.fact 54 (f := .int "LONGEST" 200) rfl),
   He.int_ok X G (c.fact 55 (f := .int "MOST_LETTERS" 6) rfl),
   He.int_ok X G (c.fact 56 (f := .int "ONE_WAY" 1) rfl),
   He.int_ok X G (c.fact 57 (f := .int "TWO_WAYS" 2) rfl),
   He.int_ok X G (c.fact 58 (f := .int "WAITS" 0) rfl),
   He.int_ok X G (c.fact 59 (f := .int "WORKS" 1) rfl),
   He.int_ok X G (c.fact 60 (f := .int "MOST_WORTHS" 12) rfl),
   He.glo_ok X G (c.fact 37 (f := .glo "BEYOND") rfl),
   fun H => He.tupB_ok (He.ba hx).1 H,
   He.glo_ok X G (c.fact 33 (f := .glo "Row") rfl),
   He.cls_ok (c.fact 61 (f := .cls "OneWay") rfl),
   is_OneWay hx,
   He.noat_ok (c.fact 63 (f := .noat "OneWay" "row") rfl),
   He.noat_ok (c.fact 64 (f := .noat "OneWay" "letters") rfl),
   He.noat_ok (c.fact 65 (f := .noat "OneWay" "ways") rfl),
   He.cls_ok (c.fact 69 (f := .cls "TwoWays") rfl),
   is_TwoWays hx,
   He.noat_ok (c.fact 71 (f := .noat "TwoWays" "row") rfl),
   He.noat_ok (c.fact 72 (f := .noat "TwoWays" "letters") rfl),
   He.noat_ok (c.fact 73 (f := .noat "TwoWays" "ways") rfl),
   He.cls_ok (c.fact 77 (f := .cls "Table") rfl),
   is_Table hx,
   He.noat_ok (c.fact 79 (f := .noat "Table" "ways") rfl),
   He.noat_ok (c.fact 80 (f := .noat "Table" "letters") rfl),
   He.noat_ok (c.fact 81 (f := .noat "Table" "worths") rfl),
   He.noat_ok (c.fact 82 (f := .noat "Table" "rules") rfl),
   He.noat_ok (c.fact 83 (f := .noat "Table" "yes") rfl),
   He.noat_ok (c.fact 84 (f := .noat "Table" "by_key") rfl),
   t_is_integer X G c,
   t_is_within X G c,
   t_is_letter X G c,
   t_is_word X G c,
   t_need_word X G c,
   t_pairs_in X G c,
   t_need_row X G c,
   t_need_two_ways X G c,
   t_ow_init X G c,
   t_ow_begin X G c,
   t_ow_next X G c,
   t_ow_says X G c,
   t_two_ticks X G c,
   t_tw_init X G c,
   t_tw_begin X G c,
   t_tw_next X G c,
   t_tw_says X G c,
   t_begun X G c,
   t_ticked X G c,
   t_worth_in X G c,
   t_seat_in X G c,
   t_due_in X G c,
   t_said_in X G c,
   t_told_in X G c,
   t_need_both X G c,
   t_told X G c,
   t_key_order X G c,
   t_is_key X G c,
   t_rules_from X G c,
   t_worths_from X G c,
   t_tb_init X G c,
   t_tb_begin X G c,
   t_tb_next X G c,
   t_tb_says X G c,
   t_law_loom X G c,
   t_law_weave X G c,
   t_law_one X G c,
   t_law_table X G c,
   t_law_due X G c,
   t_law_words X G c,
   t_law_ticked X G c,
   t_law_says X G c,
   t_law_told X G c,
   t_law_right X G c,
   t_law X G c⟩
end
end BR
set_option Elab.async false
set_option linter.all false
set_option maxRecDepth 100000
set_option maxHeartbeats 4000000
/-! A dict whose keys are flat tuples of ints, texts and None: tracked by what is true of its one object (HO.ext), its keys' tuples tracked beside it. -/
namespace BR
open PySem PySem.Spec PyProof.Rows L2
abbrev LK := List Leaf
/-- an entry: the key, where its tuple stands, the value -/
abbrev DE := LK × Addr × V
def lfV : Leaf → V
  | .none => .non
  | .num i => .int i
  | .text x => .str x
theorem lfV_is {k : Leaf} {u : Value} (r : RelV (lfV k) u) : Leaf.isOf k u = true := by
  cases k with
  | none => obtain rfl : u = Value.none := r; rfl
  | num i =>
    obtain ⟨t, rfl⟩ : ∃ t, u = Value.int i t := r
    exact decide_eq_true rfl
  | text x =>
    obtain ⟨t, rfl⟩ : ∃ t, u = Value.str x t := r
    simp [Leaf.isOf, Value.isStrOf]
theorem lf_items {P : Program} {w : World} : ∀ {ks : LK} {us : List Value}, Vals (ks.map lfV) us → ItemsAre (leafKind P w) ks us
  | [], _, .nil => .nil
  | _ :: _, _, .cons h t => .cons (lfV_is h) (lf_items t)
abbrev knd (P : Program) (w : World) : HeapKind P w LK := tupleKind (leafKind P w)
/-- the raw entries of such a dict -/
abbrev DR : List DE → List (LK × Addr × Value) → Prop := Paired fun p q => p.1 = q.1 ∧ p.2.1 = q.2.1 ∧ RelV p.2.2 q.2.2
def phiD (P : Program) (w : World) (d : Addr) (xs : List DE) (h : Heap) : Prop :=
  xs.length ≤ sizeLine ∧ (d == sysModules) = false ∧ ∃ ys, DR xs ys ∧ ∃ o es ep, h.get? d = some o ∧ o.ExactDict ∧ o.data = .dict es ep ∧ es.toList = ys.map (entryOfKey (knd P w)) ∧ (ys.map (·.1)).Nodup
abbrev dX (P : Program) (w : World) (d : Addr) (xs : List DE) : HO := .ext (phiD P w d xs)
/-- the keys' tuples stand -/
def KAt (H : Hp) (xs : List DE) : Prop := ∀ x ∈ xs, H x.2.1 = some (.tup (x.1.map lfV))
structure DX (P : Program) (w : World) (H : Hp) (d : Addr) (xs : List DE) : Prop where
  at_ : H d = some (dX P w d xs)
  keys : KAt H xs
def valX (xs : List DE) (k : LK) : Option V := (xs.find? fun x => decide (x.1 = k)).map (·.2.2)
def putX (xs : List DE) (k : LK) (b : Addr) (v : V) : List DE := if (valX xs k).isSome = true then xs.map (fun x => if x.1 = k then (x.1, x.2.1, v) else x) else xs ++ [(k, b, v)]
theorem valX_nil {k : LK} : valX [] k = none := rfl
theorem valX_pos {p : DE} {r : List DE} {k : LK} (e : p.1 = k) : valX (p :: r) k = some p.2.2 := by simp [valX, List.find?_cons, e]
theorem valX_neg {p : DE} {r : List DE} {k : LK} (e : ¬ p.1 = k) : valX (p :: r) k = valX r k := by simp [valX, List.find?_cons, e]
theorem DR.val {xs : List DE} {ys : List (LK × Addr × Value)} (r : DR xs ys) (k : LK) : RelO (valX xs k) ((atKey ys k).map (·.2)) := by
  induction r with
  | nil => exact True.intro
  | @cons p q ps qs h t ih =>
    by_cases e : p.1 = k
    · have b : atKey (q :: qs) k = some q.2 := by simp [atKey, List.find?_cons, h.1.symm.trans e]
      rw [valX_pos e, b]
      exact h.2.2
    · have e' : ¬ q.1 = k := fun z => e (h.1.trans z)
      have b : atKey (q :: qs) k = atKey qs k := by simp [atKey, List.find?_cons, e']
      rw [valX_neg e, b]
      exact ih
theorem DR.repl {xs : List DE} {ys : List (LK × Addr × Value)} (r : DR xs ys) (k : LK) {y : V} {u : Value} (ry : RelV y u) : DR (xs.map fun x => if x.1 = k then (x.1, x.2.1, y) else x) (ys.map (putAt k u)) := by
  induction r with
  | nil => exact .nil
  | @cons p q ps qs h t ih =>
    rw [List.map_cons, List.map_cons]
    refine .cons ?_ ih
    unfold putAt
    by_cases e : p.1 = k
    · rw [if_pos e, if_pos (h.1.symm.trans e)]
      exact ⟨h.1, h.2.1, ry⟩
    · rw [if_neg e, if_neg fun z => e (h.1.trans z)]
      exact h
theorem DR.put {xs : List DE} {ys : List (LK × Addr × Value)} (r : DR xs ys) (k : LK) (b : Addr) {y : V} {u : Value} (ry : RelV y u) : DR (putX xs k b y) (storedH ys k b u) := by
  have e : (valX xs k).isSome = (atKey ys k).isSome := by rw [(r.val k).isSome_eq, Option.isSome_map]
  unfold putX storedH
  rw [e]
  split
  · exact r.repl k ry
  · exact Paired.snoc r ⟨rfl, rfl, ry⟩
theorem putX_length (xs : List DE) (k : LK) (b : Addr) (v : V) : (putX xs k b v).length ≤ xs.length + 1 := by
  unfold putX
  split <;> simp
theorem putX_new {xs : List DE} {k : LK} (b : Addr) (v : V) (h : valX xs k = none) : putX xs k b v = xs ++ [(k, b, v)] := by
  unfold putX
  rw [h]
  rfl
section
variable {P : Program} {w : World} {H : Hp} {h : Heap} {d : Addr} {xs : List DE}
theorem key_is {ks : LK} {a : Addr} (ok : HOk P w H h) (e : H a = some (.tup (ks.map lfV))) : (knd P w).is h ks a := by
  obtain ⟨_, its, r, o, h1, h2, n, h3⟩ := (show ObjOk P w H h a (.tup (ks.map lfV)) from ok a _ e)
  exact ⟨o, its.toArray, n, h1, h2, h3, by simpa using lf_items r⟩
/-- the raw facts of a tracked one -/
theorem DX.raw (D : DX P w H d xs) (ok : HOk P w H h) : xs.length ≤ sizeLine ∧ (d == sysModules) = false ∧ ∃ ys, DR xs ys ∧ h.DictOfH (knd P w) d ys := by
  obtain ⟨⟨z, y, ys, r, o, es, ep, h1, h2, h3, h4, h5⟩, _, _⟩ := (show ObjOk P w H h d (dX P w d xs) from ok d _ D.at_)
  refine ⟨z, y, ys, r, o, es, ep, h1, h2, h3, h4, ?_, h5⟩
  have all : ∀ {l : List DE} {m : List (LK × Addr × Value)}, DR l m → KAt H l → ∀ x ∈ m, (knd P w).is h x.1 x.2.1 := by
    intro l m q
    induction q with
    | nil => intro _ x hx; exact nomatch hx
    | @cons p q ps qs hq t ih =>
      intro hk x hx
      rcases List.mem_cons.mp hx with rfl | hx
      · exact key_is ok (by rw [← hq.1, ← hq.2.1]; exact hk p List.mem_cons_self)
      · exact ih (fun a ha => hk a (List.mem_cons_of_mem _ ha)) x hx
  exact all r D.keys
/-- .. and back -/
theorem dX_ok {H' : Hp} {ys : List (LK × Addr × Value)} (z : xs.length ≤ sizeLine) (hd : (d == sysModules) = false) (r : DR xs ys) (D : h.DictOfH (knd P w) d ys) : ObjOk P w H' h d (dX P w d xs) := by
  obtain ⟨o, es, ep, h1, h2, h3, h4, _, h5⟩ := D
  refine ⟨⟨z, hd, ys, r, o, es, ep, h1, h2, h3, h4, h5⟩, ⟨o, h1⟩, fun k k' q st => ?_⟩
  obtain ⟨z', hd', ys', r', o', es', ep', g1, g⟩ := q
  exact ⟨z', hd', ys', r', o', es', ep', st _ g1, g⟩
theorem dX_empty (hb : sysModules < h.objs.size) : ObjOk P w H (h.push { cls := .type "dict", data := .dict #[] }) h.objs.size (dX P w h.objs.size []) :=
  dX_ok (Nat.zero_le _) (by simpa using (Nat.ne_of_lt hb).symm) .nil (Heap.DictOfH.new h)
/-- what stays of it -/
theorem DX.keep {H' : Hp} (D : DX P w H d xs) (k : ∀ b o, H b = some o → (∀ ys, o ≠ .lst ys) → H' b = some o) : DX P w H' d xs :=
  ⟨k _ _ D.at_ (fun _ z => by cases z), fun x hx => k _ _ (D.keys x hx) (fun _ z => by cases z)⟩
end
section
variable {X : Cx} {pins : List (Addr × Obj)} {σ : L2.St} {H : Hp} {s : Shared} {d b : Addr} {xs : List DE} {k : LK} {v : V} {A : Around} {E : Value → Shared → Prop}
theorem DX.typeIs (D : DX X.prog X.w H d xs) (I : Inv X pins σ H s) : s.TypeIs (.ref d) "dict" := by
  obtain ⟨_, _, ys, _, dd⟩ := D.raw I.hok
  exact dd.typeIs
theorem DX.noDict (D : DX X.prog X.w H d xs) (I : Inv X pins σ H s) : ∀ b, Value.ref d = .ref b → ∃ ob, s.heap.get? b = some ob ∧ ob.dict = none := by
  intro b e
  cases e
  obtain ⟨_, _, ys, _, o, es, ep, h1, h2, _⟩ := D.raw I.hok
  exact ⟨o, h1, h2.2.1⟩
/-- {} -/
def tXNew (P : Program) (w : World) : TE := fun _ H Q => ∀ p, H p = none → Q (.ref p) (upd H p (dX P w p []))
theorem pe_xnew {pos : Pos} : PE X (.Dict [] [] pos) (tXNew X.prog X.w) := by
  refine ⟨fun pins s σ H Q I h => ?_⟩
  refine wpAny_Dict_empty ?_
  refine ⟨.ref s.heap.objs.size, _, I.laid (t' := s.toks) (fun b o e => Heap.get?_push_of_some _ e) (Nat.le_refl _) (dX_empty I.big), rfl, h _ (I.hok.fresh (Nat.le_refl _))⟩
/-- d[k] = v -/
theorem x_write {h' : Heap} {t' : Nat} {ys : List (LK × Addr × Value)} {xs' : List DE} (I : Inv X pins σ H s) (D : DX X.prog X.w H d xs) (hs : Heap.SameBut d s.heap h') (z : xs'.length ≤ sizeLine) (r : DR xs' ys) (dd : h'.DictOfH (knd X.prog X.w) d ys) :
    Inv X pins σ (upd H d (dX X.prog X.w d xs')) { s with heap := h', toks := t' } :=
  d_write I (by rw [D.at_]; exact True.intro) hs (let ⟨q, _, _, hq, _⟩ := dd; ⟨q, hq⟩) (dX_ok z (D.raw I.hok).2.1 r dd)
theorem x_setItem {r : Value} {Q : Unit → Shared → Prop} (hu : A.units + 1 < cLine) (I : Inv X pins σ H s) (D : DX X.prog X.w H d xs) (hb : H b = some (.tup (k.map lfV))) (hl : xs.length < sizeLine) (rv : RelV v r)
    (h : ∀ s', Inv X pins σ (upd H d (dX X.prog X.w d (putX xs k b v))) s' → Q () s') : wpAny (model X.prog X.w) A (setItem (.ref d) (.ref b) r) Q E s := by
  obtain ⟨z, _, ys, rel, dd⟩ := D.raw I.hok
  have hl2 := putX_length xs k b v
  exact wpAny_setItem_heap (hsz := by rw [← Paired.length rel]; exact z) (tupleKind_room_in1 hu) (key_is I.hok hb) dd fun h' dd' hs => h _ (x_write I D hs (by omega) (rel.put k b rv) dd')
theorem x_dictSet {r : Value} {Q : Unit → Shared → Prop} (hu : A.units < cLine) (I : Inv X pins σ H s) (D : DX X.prog X.w H d xs) (hb : H b = some (.tup (k.map lfV))) (hl : xs.length < sizeLine) (rv : RelV v r)
    (h : ∀ s', Inv X pins σ (upd H d (dX X.prog X.w d (putX xs k b v))) s' → Q () s') : wpAny (model X.prog X.w) A (dictSet d (.ref b) r) Q E s := by
  obtain ⟨z, _, ys, rel, dd⟩ := D.raw I.hok
  have hl2 := putX_length xs k b v
  exact wpAny_dictSet_heap (hsz := by rw [← Paired.length rel]; exact z) hu (key_is I.hok hb) dd fun h' dd' hs => h _ (x_write I D hs (by omega) (rel.put k b rv) dd')
def sXPut (P : Program) (w : World) (td ty tv : TE) : TS := fun D σ H => tv σ H fun v H1 => td σ H1 fun x H2 => ty σ H2 fun y H3 => ∃ d xs k b, x = .ref d ∧ DX P w H3 d xs ∧ y = .ref b ∧ H3 b = some (.tup (k.map lfV)) ∧ xs.length < sizeLine ∧
  D.nx σ (upd H3 d (dX P w d (putX xs k b v)))
theorem ps_xput {o i value : Expr} {pos pos' : Pos} {td ty tv : TE} (hu : X.A.units + 1 < cLine) (ho : PE X o td) (hi : PE X i ty) (hv : PE X value tv) (hs : swapsWith value (some (.Subscript o i pos')) pos.line X.env = pure false := by rfl) :
    PS X (.Assign [.Subscript o i pos'] value pos) (sXPut X.prog X.w td ty tv) := by
  refine ⟨fun pins s σ H D I h => ?_⟩
  refine wpAny_Assign_Subscript (thn (hv.run pins s σ H _ I h) fun v s1 ⟨x1, H1, I1, r1, q1⟩ => ?_) hs
  refine thn (ho.run pins s1 σ H1 _ I1 q1) fun ov s2 ⟨x2, H2, I2, r2, q2⟩ => ?_
  refine thn (hi.run pins s2 σ H2 _ I2 q2) fun iv s3 ⟨x3, H3, I3, r3, d, xs, k, b, e2, dx, e3, hb, hl, q⟩ => ?_
  subst e2 e3
  cases r2
  cases r3
  exact x_setItem hu I3 dx hb hl r1 fun s4 I4 => ⟨σ, _, I4, q⟩
/-- d[k] -/
def tXGet (P : Program) (w : World) (td ty : TE) : TE := fun σ H Q => td σ H fun x H1 => ty σ H1 fun y H2 => ∃ d xs k b v, x = .ref d ∧ DX P w H2 d xs ∧ y = .ref b ∧ H2 b = some (.tup (k.map lfV)) ∧ valX xs k = some v ∧ Q v H2
theorem pe_xget {o i : Expr} {pos : Pos} {td ty : TE} (hu : X.A.units + 1 < cLine) (ho : PE X o td) (hi : PE X i ty) (hs : NoSl i) : PE X (.Subscript o i pos) (tXGet X.prog X.w td ty) := by
  refine ⟨fun pins s σ H Q I h => ?_⟩
  refine subD_of (T := "dict") (id := "dict.__getitem__") F.slot_dict_getitem.lookup hs (thn (ho.run pins s σ H _ I h) fun ov s1 ⟨x1, H1, I1, r1, q1⟩ => ?_)
  refine thn (hi.run pins s1 σ H1 _ I1 q1) fun iv s2 ⟨x2, H2, I2, r2, d, xs, k, b, v, e1, dx, e2, hb, hv, q⟩ => ?_
  subst e1 e2
  cases r1
  cases r2
  refine ⟨dx.typeIs I2, ?_⟩
  obtain ⟨z, _, ys, rel, dd⟩ := dx.raw I2.hok
  obtain ⟨w', hw, rw'⟩ := RelO.some_of (v := v) (o := (atKey ys k).map (·.2)) (by rw [← hv]; exact rel.val k)
  obtain ⟨p, hp, hp2⟩ := Option.map_eq_some_iff.mp hw
  refine wpAny_getItem_heap (tupleKind_room_in1 hu) (key_is I2.hok hb) dd hp ?_
  rw [hp2]
  exact ⟨v, H2, I2.tok _, rw', q⟩
/-- d.get(k, x) -/
def tXGet2 (P : Program) (w : World) (td ty tx : TE) : TE := fun σ H Q => td σ H fun x H1 => ∃ d xs1, x = .ref d ∧ DX P w H1 d xs1 ∧ ty σ H1 fun y H2 => tx σ H2 fun z H3 => ∃ xs k b, DX P w H3 d xs ∧ y = .ref b ∧ H3 b = some (.tup (k.map lfV)) ∧ Q ((valX xs k).getD z) H3
theorem x_get2 {z : V} {r : Value} {Q : Value → Shared → Prop} (hu : A.units + 1 < cLine) (I : Inv X pins σ H s) (D : DX X.prog X.w H d xs) (hb : H b = some (.tup (k.map lfV))) (rz : RelV z r) (h : ∀ u s', Inv X pins σ H s' → RelV ((valX xs k).getD z) u → Q u s') :
    wpAny (model X.prog X.w) A (call (.builtin "dict.get") [.ref d, .ref b, r]) Q E s := by
  obtain ⟨_, hd, ys, rel, dd⟩ := D.raw I.hok
  refine call_meetsIn F.slot_dict_get dd.typeIs F.entry_dict_get (F.args_dict_get_3 _ _ _) (meetsH_dict_get_default (knd X.prog X.w) d b hd r) ⟨tupleKind_room_in1 hu, k, ys, key_is I.hok hb, dd, ?_⟩
  exact h _ _ (I.tok _) (RelO.getD (rel.val k) rz)
theorem pe_xget2 {o e f : Expr} {apos cpos : Pos} {td ty tx : TE} (hu : X.A.units + 1 < cLine) (ho : PE X o td) (he : PE X e ty) (hf : PE X f tx) (m : M2 X o "get" apos e f cpos) : PE X (.Call (.Attribute o "get" apos) [e, f] [] cpos) (tXGet2 X.prog X.w td ty tx) := by
  constructor
  intro pins s σ H Q I h
  refine wpAny_Call_method (T := "dict") (id := "dict.get") m.base m.few m.line F.plainAttrs_dict F.slot_dict_get F.type_dict_get (thn (ho.run pins s σ H _ I h) fun u s1 g1 => ?_)
  obtain ⟨x, H1, I1, rx, d, xs1, ex, D1, q1⟩ := g1
  subst ex
  cases rx
  refine ⟨D1.typeIs I1, D1.noDict I1, ?_⟩
  rw [m.trees]
  refine Calls.callWith_builtin rfl (Calls.evalArgs_plain (Calls.spliced_cons (thn (he.run pins s1 σ H1 _ I1 q1) fun iv s2 g2 => ?_)))
  obtain ⟨y, H2, I2, ry, q2⟩ := g2
  refine Calls.spliced_cons (thn (hf.run pins s2 σ H2 _ I2 q2) fun fv s3 g3 => Calls.spliced_nil ?_)
  obtain ⟨z, H3, I3, rz, xs, k, b, D3, ey, hb, q3⟩ := g3
  subst ey
  cases ry
  exact x_get2 hu I3 D3 hb rz fun w' s4 I4 rw' => ⟨_, H3, I4, rw', q3⟩
/-- len(d) -/
theorem call_len_x : CallR X (.builtin "len") (fun vs H Q => ∃ d xs, vs = [.ref d] ∧ DX X.prog X.w H d xs ∧ Q (.int ((xs.length : Nat) : Int)) H) := by
  intro pins s σ H vs us Q I r h
  obtain ⟨d, xs, rfl, D, q⟩ := h
  obtain ⟨u, rfl, ru⟩ := vals1 r
  cases ru
  obtain ⟨z, hd, ys, rel, dd⟩ := D.raw I.hok
  have hl : xs.length = ys.length := Paired.length rel
  have hz : ys.length < 2 ^ 63 := by rw [← hl]; exact Nat.lt_of_le_of_lt z line63
  refine call_len_dictH hd dd (by exact_mod_cast hz) ?_
  rw [← hl]
  exact ⟨.int _, H, I.tok _, ⟨_, rfl⟩, q⟩
/-- isinstance(d, dict) -/
theorem call_isi_x : CallR X (.builtin "isinstance") (fun vs H Q => ∃ d xs, vs = [.ref d, .ty "dict"] ∧ DX X.prog X.w H d xs ∧ Q (.bl true) H) := by
  intro pins s σ H vs us Q I r h
  obtain ⟨d, xs, rfl, D, q⟩ := h
  obtain ⟨u, v, rfl, ru, rv⟩ := vals2 r
  cases ru
  cases rv
  obtain ⟨o, h1, h2⟩ := D.typeIs I
  have e : PySem.W.kitOne X.K (.type "dict") (.type "dict") = some true := if_pos (beq_self_eq_true _)
  exact PySem.W.kia_one PySem.W.kitx_dict I.kIn (show ∃ o, s.heap.get? d = some o ∧ o.cls = .type "dict" from ⟨o, h1, h2⟩) e (fun z => nomatch z) fun tk => ⟨.bl true, H, I.tok tk, rfl, q⟩
/-! ### dict(t), t a tuple of pairs that was just made -/
/-- tuple(l): the new tuple told to its object -/
theorem call_tuple_frz : CallR X (.type "tuple") (fun vs H Q => ∃ p ys, vs = [.ref p] ∧ SqL X.K H p ys ∧ ∀ l (o : Obj), H l = none → o.dict = none → Q (.ref l) (upd H l (.frz o (.tup ys)))) := by
  intro pins s σ H vs us Q I r h
  obtain ⟨p, ys, rfl, hq, q⟩ := h
  obtain ⟨u, rfl, ru⟩ := vals1 r
  cases ru
  obtain ⟨its, r', pl, hz⟩ := I.list hq
  have hlen := r'.length
  refine call_tuple_list pl.isList (fun h' kp => ?_) (by simp only [List.size_toArray]; omega)
  have I1 : Inv X pins σ H { s with heap := h' } := I.kept (t' := s.toks) kp
  have I2 : Inv X pins σ (upd H h'.objs.size (.frz { cls := .type "tuple", data := .seq its.toArray } (.tup ys))) { s with heap := h'.push { cls := .type "tuple", data := .seq its.toArray } } :=
    I1.laid (t' := s.toks) (fun b o e => Heap.get?_push_of_some _ e) (Nat.le_refl _)
      (show ObjOk X.prog X.w _ _ _ (.frz { cls := .type "tuple", data := .seq its.toArray } (.tup ys)) from ⟨Heap.get?_push_size _ rfl, hz, its, r', IsTup.new _ _⟩)
  exact ⟨.ref h'.objs.size, _, I2, rfl, q _ _ (I1.hok.fresh (Nat.le_refl _)) rfl⟩
def mergeX (xs more : List DE) : List DE := more.foldl (fun acc e => putX acc e.1 e.2.1 e.2.2) xs
theorem DR.merge {more : List DE} {rs : List (LK × Addr × Value)} (m : DR more rs) : ∀ {xs : List DE} {ys : List (LK × Addr × Value)}, DR xs ys → DR (mergeX xs more) (storedAllH ys rs) := by
  induction m with
  | nil => exact fun r => r
  | @cons p q ps qs h t ih =>
    intro xs ys r
    have r2 := r.put p.1 p.2.1 h.2.2
    have r3 : DR (putX xs p.1 p.2.1 p.2.2) (storedH ys q.1 q.2.1 q.2.2) := by
      rw [← h.1, ← h.2.1]
      exact r2
    exact ih r3
theorem mergeX_length : ∀ (more xs : List DE), (mergeX xs more).length ≤ xs.length + more.length
  | [], xs => Nat.le_refl _
  | e :: r, xs => by
    have h := mergeX_length r (putX xs e.1 e.2.1 e.2.2)
    have h2 := putX_length xs e.1 e.2.1 e.2.2
    show (mergeX (putX xs e.1 e.2.1 e.2.2) r).length ≤ xs.length + (r.length + 1)
    omega
/-- the tuples at ts are the pairs of these entries -/
def PrsAt (K : PySem.W.Frag) (H : Hp) (ts : List Addr) (es : List DE) : Prop := Paired (fun t (e : DE) => SqT K H t [.ref e.2.1, e.2.2]) ts es
theorem prs_raw (I : Inv X pins σ H s) : ∀ {ts : List Addr} {es : List DE}, PrsAt X.K H ts es → ∃ rs : List (LK × Addr × Value), DR es rs ∧ rs.length = ts.length ∧ ∀ (j : Nat) (q : LK × Addr × Value), rs[j]? = some q → ∃ t, ts[j]? = some t ∧ s.heap.IsTuple t #[.ref q.2.1, q.2.2]
  | _, _, .nil => ⟨[], .nil, rfl, fun j q e => by simp at e⟩
  | _, _, .cons (a := t) (b := e) h r => by
    obtain ⟨rs, h1, h2, h3⟩ := prs_raw I r
    obtain ⟨its, rv, ht, _⟩ := I.tuple h
    obtain ⟨u1, u2, rfl, r1, r2⟩ := vals2 rv
    cases r1
    refine ⟨(e.1, e.2.1, u2) :: rs, .cons ⟨rfl, rfl, r2⟩ h1, by simp [h2], fun j q hq => ?_⟩
    cases j with
    | zero =>
      cases hq
      exact ⟨t, rfl, ht⟩
    | succ j => exact h3 j q hq
/-- dict(t) -/
theorem call_dict_t (hu : X.A.units + 2 < cLine) (hc : X.calm = true) : CallR X (.type "dict") (fun vs H Q => ∃ (t : Addr) (o : Obj) (ts : List Addr) (es : List DE), vs = [.ref t] ∧ H t = some (.frz o (.tup (ts.map V.ref))) ∧ o.dict = none ∧ PrsAt X.K H ts es ∧ KAt H es ∧
    ∀ d, H d = none → Q (.ref d) (upd H d (dX X.prog X.w d (mergeX [] es)))) := by
  intro pins s σ H vs us Q I r h
  obtain ⟨t, o, ts, es, rfl, ht, hd, hp, hk, q⟩ := h
  obtain ⟨u, rfl, ru⟩ := vals1 r
  cases ru
  obtain ⟨ho, hz, its, rv, o2, e2, hcls, n, hdat⟩ := (show ObjOk X.prog X.w H s.heap t (.frz o (.tup (ts.map V.ref))) from I.hok t _ ht)
  rw [ho] at e2
  cases e2
  obtain rfl := refs_at rv
  obtain ⟨rs, d1, d2, d3⟩ := prs_raw I hp
  have le : es.length = rs.length := Paired.length d1
  rw [List.length_map] at hz
  have keyAll : ∀ x ∈ rs, (knd X.prog X.w).is s.heap x.1 x.2.1 := by
    intro x hx
    obtain ⟨j, hj⟩ := List.getElem?_of_mem hx
    obtain ⟨e, he, h1, h2, _⟩ := DX.pget d1 hj
    rw [← h1, ← h2]
    exact key_is I.hok (hk e (List.mem_of_getElem? he))
  refine call_dict_pairsH (knd := knd X.prog X.w) (ps := rs) (PairArg.tuple t (ts.map Value.ref).toArray (fun j => ts.getD j 0) (rs.map fun q => (Value.ref q.2.1, q.2.2))) (I.ok.hd hc) ?_ ⟨⟨o, n, ho, hcls, hd, hdat⟩, ?_, fun j k v hj => ?_⟩ ⟨?_, fun i key v hr => ?_⟩ (fun h' hkp x hx => ?_) ?_ fun h' tk dd hkp => ?_
  · exact hu
  · simp [List.size_toArray, d2]
  · rw [List.getElem?_map] at hj
    obtain ⟨y, hy, hy2⟩ := Option.map_eq_some_iff.mp hj
    cases hy2
    obtain ⟨t', ht', hp'⟩ := d3 j y hy
    refine ⟨?_, .inl ?_⟩
    · simp [ht', List.getD_eq_getElem?_getD]
    · simpa [List.getD_eq_getElem?_getD, ht'] using hp'
  · simp
  · have hr2 : (rs.map fun q => (Value.ref q.2.1, q.2.2))[i]? = some (key, v) := hr
    rw [List.getElem?_map] at hr2
    obtain ⟨y, hy, hy2⟩ := Option.map_eq_some_iff.mp hr2
    cases hy2
    exact ⟨y.1, y.2.1, hy, rfl⟩
  · exact tupleKind_stays.stays (fun b ob _ _ eb _ => hkp b ob (Nat.ne_of_lt (Heap.lt_size eb)) (by simp) eb) (keyAll x hx)
  · rw [List.length_map, d2]
    exact hz
  · have I1 : Inv X pins σ (upd H s.heap.objs.size (dX X.prog X.w s.heap.objs.size (mergeX [] es))) { s with heap := h', toks := tk } := by
      refine I.laid (fun b ob eb => hkp b ob (by simp) eb) (Nat.le_refl _) (dX_ok ?_ ?_ (DR.merge d1 .nil) dd)
      · have := mergeX_length es []
        rw [le, d2] at this
        simp at this
        omega
      · have hb := I.big
        simpa using (Nat.ne_of_lt hb).symm
    exact ⟨.ref s.heap.objs.size, _, I1, rfl, q _ (I.hok.fresh (Nat.le_refl _))⟩
end
end BR
set_option Elab.async false
set_option linter.all false
set_option maxRecDepth 100000
set_option maxHeartbeats 4000000
/-! list(d.items()) of such a dict. -/
namespace BR
open PySem PySem.Spec PyProof.Rows L2
section
variable {prog : Program} {w : World} {A : Around} {E : Value → Shared → Prop} {s : Shared} {r d : Addr} {es : Array DictEntry} {ep : Nat}
/-- list(v), v the view of a dict's items -/
theorem list_view {Q : Value → Shared → Prop} (hh : A.handled = none) (hv : s.heap.IsItemsView r d) (hm : DT.Raw s.heap d es ep) (hn : es.size ≤ sizeLine)
    (hQ : ∀ h' tk acc c as, (∀ b o, s.heap.get? b = some o → h'.get? b = some o) → h'.get? s.heap.objs.size = some { cls := .type "list", dict := none, data := .seq acc c, slots := #[] } → as.length = es.size → DT.Made es s.heap.objs.size h' as →
      acc.toList = as.map Value.ref → Q (.ref s.heap.objs.size) { s with heap := h', toks := tk }) : wpAny (model prog w) A (call (.type "list") [.ref r]) Q E s := by
  have hr : r < s.heap.objs.size := let ⟨_, ho, _⟩ := hv; Heap.lt_size ho
  have hd : d < s.heap.objs.size := hm.lt
  refine callType_codes (Q₁ := fun obj s₁ => obj = .ref s.heap.objs.size ∧ s₁ = { s with heap := s.heap.push { cls := .type "list", data := .seq #[] } }) F.called_list (F.typeCall_list_1 _) F.entry_list_init (code_list_new _ ⟨rfl, rfl⟩) fun obj s₁ h₁ => ?_
  obtain ⟨rfl, rfl⟩ := h₁
  have hS : (s.heap.push { cls := .type "list", data := .seq #[] }).get? s.heap.objs.size = some { cls := .type "list", data := .seq #[] } := Heap.get?_push_size _ rfl
  refine ⟨⟨_, hS, rfl⟩, F.args_list_init_2 _ _, ?_⟩
  show wpAny _ _ (do let old ← Builtin.List.listItems (.ref s.heap.objs.size); Builtin.List.listUpdate (.ref s.heap.objs.size) (fun _ => #[]); letGo old.toList.reverse; Builtin.List.listExtendWith (.ref s.heap.objs.size) (.ref r) .none) _ _ _
  refine wpAny_bind ?_
  unfold Builtin.List.listItems
  refine wpAny_bind (wpAny_seqItems hS rfl (wpAny_pure ?_))
  show wpAny _ _ (updateSeq s.heap.objs.size (fun _ => #[]) >>= fun _ => letGo (#[] : Array Value).toList.reverse >>= fun _ => Builtin.List.listExtendWith (.ref s.heap.objs.size) (.ref r) .none) _ _ _
  refine wpAny_bind (wpAny_updateSeq hS rfl ?_)
  have hS2 := Heap.get?_update_self (Obj.mapSeq fun _ => (#[] : Array Value)) hS rfl
  have oth : ∀ b o, s.heap.get? b = some o → ((s.heap.push { cls := .type "list", data := .seq #[] }).update s.heap.objs.size (Obj.mapSeq fun _ => (#[] : Array Value))).get? b = some o := fun b o e =>
    (Heap.get?_update_other _ _ (Nat.ne_of_gt (Heap.lt_size e))).trans (Heap.get?_push_of_some _ e)
  refine wpAny_bind (wpAny_letGo ?_)
  refine DT.extI (A := A.in1) (R := wants (fun r s₂ => r = Value.none ∧ Q (Value.ref s.heap.objs.size) s₂) E) (s := { s with heap := (s.heap.push { cls := .type "list", data := .seq #[] }).update s.heap.objs.size (Obj.mapSeq fun _ => (#[] : Array Value)) }) hh (let ⟨o, ho, x⟩ := hv; ⟨o, oth r o ho, x⟩) (hm.at' fun o e => oth d o e) s.heap.objs.size (Nat.ne_of_gt hr) (Nat.ne_of_lt hd) .none _ hS2 (fun h' tk acc c as hk hS' hl hG hacc => ?_) hn
  exact ⟨rfl, hQ h' tk acc c as (fun b o e => hk b o (Nat.ne_of_lt (Heap.lt_size e)) (oth b o e)) hS' hl (hG.low (Nat.le_of_lt (Heap.lt_size hS2))) hacc⟩
end
theorem refs_vals : ∀ as : List Addr, Vals (as.map V.ref) (as.map Value.ref)
  | [] => .nil
  | _ :: as => .cons rfl (refs_vals as)
theorem paired_of_at {α β : Type} {F : α → β → Prop} : ∀ {xs : List α} {ys : List β}, xs.length = ys.length → (∀ (j : Nat) x y, xs[j]? = some x → ys[j]? = some y → F x y) → Paired F xs ys
  | [], [], _, _ => .nil
  | [], _ :: _, h, _ => by simp at h
  | _ :: _, [], h, _ => by simp at h
  | x :: xs, y :: ys, h, f => .cons (f 0 x y rfl rfl) (paired_of_at (Nat.succ.inj h) fun j a b ha hb => f (j + 1) a b ha hb)
theorem paired_get {α β : Type} {F : α → β → Prop} : ∀ {xs : List α} {ys : List β}, Paired F xs ys → ∀ {j : Nat} {x : α}, xs[j]? = some x → ∃ y, ys[j]? = some y ∧ F x y
  | _, _, .nil, _, _, h => by simp at h
  | _, _, .cons r _, 0, _, h => ⟨_, rfl, by cases h; exact r⟩
  | _, _, .cons _ t, j + 1, _, h => paired_get t (j := j) h
section
variable {X : Cx}
/-- list(e.items()): a new list of new pairs, in the order of the entries -/
def tXItems (P : Program) (w : World) (te : TE) : TE := fun σ H Q => te σ H fun x H1 => ∃ (d : Addr) (xs : List DE), x = .ref d ∧ DX P w H1 d xs ∧
  ∀ (H2 : Hp) (p : Addr) (ts : List Addr), Same H1 H2 → H1 p = none → (∀ t ∈ ts, H1 t = none) → H2 p = some (.lst (ts.map V.ref)) → Paired (fun t (e : DE) => H2 t = some (.tup [.ref e.2.1, e.2.2])) ts xs → Q (.ref p) H2
theorem pe_xitems {e : Expr} {te : TE} {p apos cpos pos : Pos} (hc : X.calm = true) (he : PE X e te) (hg : Gl X "list") (hm : X.mg "list" = none) (hbase : attributeBase e "items" X.env (eval e X.env) = eval e X.env := by rfl) (hline : (apos.endLine == cpos.line) = true := by rfl)
    (hs : starEach [.Call (.Attribute e "items" apos) [] [] cpos] X.env = (false, eval (.Call (.Attribute e "items" apos) [] [] cpos) X.env) :: starEach [] X.env := by rfl) :
    PE X (.Call (.Name "list" p) [.Call (.Attribute e "items" apos) [] [] cpos] [] pos) (tXItems X.prog X.w te) := by
  constructor
  intro pins s σ H Q I hq
  refine wpAny_Call_Name_kw (ld_blt I hg hm (u := .type "list") (by decide +kernel) ?_)
  refine PyProof.Rows.callWith_type1 ?_ hs rfl
  rw [hs]
  show wpAny _ _ (spliced ((false, eval (.Call (.Attribute e "items" apos) [] [] cpos) X.env) :: backTo pos (starEach [] X.env))) _ _ s
  refine Calls.spliced_cons ?_
  refine wpAny_Call_method (T := "dict") (id := "dict.items") hbase rfl hline F.plainAttrs_dict F.slot_dict_items F.type_dict_items (thn (he.run pins s σ H _ I hq) fun u s1 g => ?_)
  obtain ⟨x, H1, I1, rx, d, xs, ex, D, q⟩ := g
  subst ex
  cases rx
  obtain ⟨hz, hs0, ys, rel, o, es, ep, h1, h2, h3, h4, hk, hn⟩ := D.raw I1.hok
  have lk : xs.length = ys.length := Paired.length rel
  have les : es.size = ys.length := size_of_entries h4
  have I2 : Inv X pins σ H1 { s1 with heap := s1.heap.push { cls := .type "dict_items", data := .fields #[.ref d] } } := I1.kept (t' := s1.toks) fun b ob q => Heap.get?_push_of_some _ q
  refine ⟨D.typeIs I1, D.noDict I1, ?_⟩
  show wpAny _ _ (callWith cpos (.builtin "dict.items") [.ref d] [] []) _ X.xe s1
  refine method_meetsIn F.slot_dict_items F.entry_dict_items rfl (PySem.evalArgs_none ⟨rfl, D.typeIs I1, F.args_dict_items_1 _, _, DT.meetsItems hs0, ⟨⟨o, h1, h2, h3⟩, ?_⟩⟩)
  refine Calls.spliced_nil ?_
  refine list_view (es := es) (ep := ep) (I1.ok.hd hc) ⟨_, Heap.get?_push_size _ rfl, rfl, rfl⟩ (DT.Raw.push ⟨o, h1, h2, h3⟩ _) (by omega) fun h' tk acc c as hkp hS hl hG hacc => ?_
  -- the list and the pairs are tracked
  have I3 : Inv X pins σ (upd H1 (s1.heap.push { cls := .type "dict_items", data := .fields #[.ref d] }).objs.size (.lst (as.map V.ref))) { s1 with heap := h', toks := tk } := by
    refine I2.laid hkp (Nat.le_refl _) ?_
    refine ⟨by rw [List.length_map]; omega, acc.toList, c, by rw [hacc]; exact refs_vals as, ?_⟩
    rw [Array.toArray_toList]
    exact hS
  have nd : as.Nodup := List.Pairwise.imp (fun {a b} (h : a < b) => Nat.ne_of_lt h) hG.rise
  have hT : ∀ a ∈ as, (s1.heap.push { cls := .type "dict_items", data := .fields #[.ref d] }).objs.size ≤ a ∧ (upd H1 (s1.heap.push { cls := .type "dict_items", data := .fields #[.ref d] }).objs.size (.lst (as.map V.ref))) a = none ∧
      ∃ vs, (∃ (j : Nat) (e : DE), as[j]? = some a ∧ xs[j]? = some e ∧ vs = [V.ref e.2.1, e.2.2]) ∧ ∀ H2, ObjOk X.prog X.w H2 h' a (.tup vs) := fun a ha => by
    have ab := hG.above a ha
    obtain ⟨j, hj⟩ := List.getElem?_of_mem ha
    have hjx : j < xs.length := by
      have := (List.getElem?_eq_some_iff.mp hj).1
      omega
    refine ⟨Nat.le_of_lt ab, ?_, _, ⟨j, xs[j], hj, List.getElem?_eq_getElem hjx, rfl⟩, fun H2 => ?_⟩
    · rw [upd_ne (Nat.ne_of_gt ab)]
      exact I2.hok.fresh (Nat.le_of_lt ab)
    · obtain ⟨en, f1, f2⟩ := hG.pairs j a hj
      obtain ⟨y, g1, g2⟩ := paired_get rel (List.getElem?_eq_getElem hjx)
      have e3 := entry_at (knd := knd X.prog X.w) h4 j
      rw [f1, g1] at e3
      cases e3
      refine ⟨by show 2 ≤ sizeLine; decide, [.ref y.2.1, y.2.2], ?_, _, f2, rfl, _, rfl⟩
      rw [g2.2.1]
      exact .cons rfl (.cons g2.2.2 .nil)
  obtain ⟨H2, I4, k1, k2⟩ := DX.takeT I2 as _ I3 nd hT
  have newS := I2.hok.fresh (Nat.le_refl (s1.heap.push { cls := .type "dict_items", data := .fields #[.ref d] }).objs.size)
  have s12 : Same H1 H2 := fun b ob e => k1 b ob (by rw [upd_ne (ne_of_none e newS)]; exact e)
  refine ⟨.ref _, H2, I4, rfl, q H2 _ as s12 newS (fun t ht => I2.hok.fresh (Nat.le_of_lt (hG.above t ht))) (k1 _ _ upd_same) ?_⟩
  refine paired_of_at (by omega) fun j t e h5 h6 => ?_
  obtain ⟨vs, ⟨j2, e2, g1, g2, rfl⟩, g3⟩ := k2 t (List.mem_of_getElem? h5)
  have ej : j2 = j := nd_ix nd g1 h5
  subst ej
  rw [g2] at h6
  cases h6
  exact g3
end
end BR
set_option Elab.async false
set_option linter.all false
set_option maxRecDepth 100000
set_option maxHeartbeats 4000000
/-! {k: v for target in iter}, the keys tuples: the new dict is of BRDict's kind. -/
namespace BR
open PySem PySem.Spec PyProof.Rows L2
def tDcX (P : Program) (w : World) (wi : TI) (g : TG) (tk tv : TE) (vs : List Nat) : TE := fun σ H Q => wi σ H fun J H1 => ∀ D, H1 D = none → ∃ W : Nat → Nat → Hp → Prop, (∃ m, W 0 m (upd H1 D (dX P w D []))) ∧ ∀ i m H, W i m H →
  (J.stop i H ∧ Q (.ref D) H) ∨ (J.go i H ∧ ∃ Nx : Hp → Prop, (∀ H', Nx H' → ∃ m', m' < m ∧ W (i + 1) m' H') ∧ ∀ x H', J.yld i H x H' → g x (wipe σ vs) H' fun σ2 H2 => wipe σ2 vs = wipe σ vs ∧
    tk σ2 H2 fun y H3 => tv σ2 H3 fun z H4 => ∃ xs k b, y = .ref b ∧ DX P w H4 D xs ∧ H4 b = some (.tup (k.map lfV)) ∧ xs.length < sizeLine ∧ Nx (upd H4 D (dX P w D (putX xs k b z))))
section
variable {X : Cx}
/-- the block's context behind its start -/
theorem pe_dcX {kx vx tg iter : Expr} {scope : Scope} {own : List (Str × Nat)} {pos : Pos} {wi : TI} {g : TG} {tk tv : TE} (hu : X.A.units < cLine) (hc : X.calm = true) (hN : X.N.Nodup) (hi : PI X tg iter wi) (ok : BlkOk X.N X.env.scope scope own)
    (hg : ∀ (s : Shared) (H : Hp) (C : Addr) (cl : List (Str × Addr)) (fp : List Addr), PG (X.blk s H scope (compEnvC scope cl C X.env) fp) tg g)
    (hk : ∀ (s : Shared) (H : Hp) (C : Addr) (cl : List (Str × Addr)) (fp : List Addr), PE (X.blk s H scope (compEnvC scope cl C X.env) fp) kx tk)
    (he : ∀ (s : Shared) (H : Hp) (C : Addr) (cl : List (Str × Addr)) (fp : List Addr), PE (X.blk s H scope (compEnvC scope cl C X.env) fp) vx tv) (hs : ∀ x, foldedSetIterable iter X.env x = pure x := by intro _; rfl) :
    PE X (.DictComp kx vx [⟨tg, iter, [], 0⟩] scope pos) (tDcX X.prog X.w wi g tk tv (own.map (·.2))) := by
  constructor
  intro pins s σ H Q I h
  rw [arm_eval_DictComp]
  have caught : ∀ y ∈ scope.names, y.2 = .free → ∃ c, X.env.cells.lookup y.1 = some c := fun y hy e => (ok.free y hy e).elim (fun k => I.ok.has _ (.inl k)) fun k => I.ok.has _ (.inr k)
  refine wpAny_comprehension_free rfl hs (closure_ok caught) ok.kind (fun y hy e => by rw [ok.uniq y hy, e]) (thn (hi.run pins s σ H _ I h) fun xv s1 hx => thn hx fun itv s2 h2 => ?_)
  obtain ⟨it, fp, tn, J, H2, rfl, I2, T, st2, f2, walk⟩ := h2
  refine wpAny_newObj_type (newEnv_comp ?_)
  -- the dict, then the block's own frame
  obtain ⟨W, ⟨m0, w0⟩, turn⟩ := walk s2.heap.objs.size (I2.hok.fresh (Nat.le_refl _))
  have I3 : Inv X pins σ (upd H2 s2.heap.objs.size (dX X.prog X.w s2.heap.objs.size [])) { s2 with heap := s2.heap.push { cls := .type "dict", data := .dict #[] } } :=
    I2.laid (t' := s2.toks) (fun b o e => Heap.get?_push_of_some _ e) (Nat.le_refl _) (dX_empty I2.big)
  have kept2 : ∀ b o, s2.heap.get? b = some o → (s2.heap.push { cls := .type "dict", data := .dict #[] }).get? b = some o := fun b o e => Heap.get?_push_of_some _ e
  have f3 : ∀ b ∈ fp, FpOk X pins (upd H2 s2.heap.objs.size (dX X.prog X.w s2.heap.objs.size [])) b ∧ b < ({ s2 with heap := s2.heap.push { cls := .type "dict", data := .dict #[] } } : Shared).heap.objs.size := fun b hb => by
    obtain ⟨o, e, _⟩ := T.obj _ _ st2 b hb
    have lt := Heap.lt_size e
    refine ⟨⟨?_, (f2 b hb).2⟩, by show b < (s2.heap.push _).objs.size; rw [Heap.size_push]; exact Nat.lt_succ_of_lt lt⟩
    rw [upd_ne (Nat.ne_of_lt lt)]
    exact (f2 b hb).1
  have st3 : tn 0 ({ s2 with heap := s2.heap.push { cls := .type "dict", data := .dict #[] } } : Shared).heap := T.keep _ _ _ st2 fun b _ o e => kept2 b o e
  generalize s2.heap.objs.size = D at *
  generalize ({ s2 with heap := s2.heap.push { cls := .type "dict", data := .dict #[] } } : Shared) = s3 at *
  generalize upd H2 D (dX X.prog X.w D []) = H3 at *
  -- the block
  have I4 := block_start I3 ok hN f3
  have rg := hg s3 H3 s3.heap.objs.size (cellsFrom (s3.heap.objs.size + 1) scope.names (cloFrom X.env.cells scope.names [])) fp
  have rk := hk s3 H3 s3.heap.objs.size (cellsFrom (s3.heap.objs.size + 1) scope.names (cloFrom X.env.cells scope.names [])) fp
  have re := he s3 H3 s3.heap.objs.size (cellsFrom (s3.heap.objs.size + 1) scope.names (cloFrom X.env.cells scope.names [])) fp
  show codeAny _ _ (.compStart (.DictComp kx vx [⟨tg, iter, [], 0⟩] scope pos) 0 (.ref it) (.ref D) (compEnvC scope (cellsFrom (s3.heap.objs.size + 1) scope.names (cloFrom X.env.cells scope.names [])) s3.heap.objs.size X.env)) _ { s3 with heap := pushCells (s3.heap.push { cls := .type "dict", data := .dict #[] }) scope.names }
  have st4 : tn 0 ({ s3 with heap := pushCells (s3.heap.push { cls := .type "dict", data := .dict #[] }) scope.names } : Shared).heap := T.keep _ _ _ st3 fun b _ o e => pushCells_keeps _ _ _ _ (Heap.get?_push_of_some _ e)
  generalize hce : compEnvC scope (cellsFrom (s3.heap.objs.size + 1) scope.names (cloFrom X.env.cells scope.names [])) s3.heap.objs.size X.env = ce at *
  have cL : ce.locals = s3.heap.objs.size := by rw [← hce]; rfl
  generalize ({ s3 with heap := pushCells (s3.heap.push { cls := .type "dict", data := .dict #[] }) scope.names } : Shared) = s4 at *
  have walks : ∀ {σ' : L2.St} {H' : Hp} {s' : Shared}, Inv (X.blk s3 H3 scope ce fp) [] σ' H' s' → (∀ b ∈ fp, H' b = none) → ∀ b ∈ fp, FpOk (X.blk s3 H3 scope ce fp) [] H' b := fun {σ' H' s'} I' hn b hb =>
    ⟨hn b hb, (I'.ok.exf b hb).1, I'.ok.exfs b hb, .inl hb, fun x c e => (I'.ok.exf b hb).2 x c e, fun p hp => by simp at hp⟩
  have loop : codeAny (model X.prog X.w) X.A (.compLoop (.DictComp kx vx [⟨tg, iter, [], 0⟩] scope pos) 0 (.ref it) (.ref D) ce) (compPost (model X.prog X.w) X.A X.xe none (EP X pins σ Q) (.ref D) s3.heap.objs.size) s4 := by
    refine compLoop_anyD (fun n s' => ∃ i H', Inv (X.blk s3 H3 scope ce fp) [] (wipe σ (own.map (·.2))) H' s' ∧ tn i s'.heap ∧ (∀ b ∈ fp, H' b = none) ∧ W i n H') ?_ m0 ⟨0, H3, I4, st4, fun b hb => (f3 b hb).1.1, w0⟩
    rintro n s5 ⟨i, H5, I5, st5, n5, w5⟩
    rcases turn i n H5 w5 with ⟨stop, qq⟩ | ⟨go, Nx, hNx, step⟩
    · refine thnF (T.done (X.blk s3 H3 scope ce fp) rfl rfl rfl hc i [] s5 _ H5 (fun _ _ => False) I5 (walks I5 n5) st5 stop) fun r s6 ⟨hr, I6⟩ => ?_
      subst hr
      have I7 : Inv X pins σ H5 s6 := I3.call' (ch := fp) I6.os I6.base I6.hok I6.bare fun b hb => let f := (f3 b hb).1; ⟨f.2.2.2.1, f.2.1, f.2.2.2.2.1, f.2.2.2.2.2⟩
      have nC : H5 s3.heap.objs.size = none := by
        rw [← cL]
        exact I6.free
      obtain ⟨m, hn, _⟩ := I6.loc
      have hn : s6.heap.Ns ce.locals m := hn
      rw [cL] at hn
      have f := I3.fpOk (Nat.le_refl _) nC
      refine ⟨m, hn, fun h'' sb => ⟨.ref D, H5, I7.turned (t' := s6.toks) (fun b o hb e => (sb.2 b hb).trans e) f.1 f.2.1 f.2.2.2.1 f.2.2.2.2.1 f.2.2.2.2.2, rfl, qq⟩⟩
    · refine thnF (T.item (X.blk s3 H3 scope ce fp) rfl rfl rfl hc i [] s5 _ H5 (fun _ _ => False) I5 (walks I5 n5) st5 go) fun r s6 ⟨u, hr, h6⟩ => ?_
      subst hr
      refine thnF h6 fun _ s7 ⟨x, H7, I7, r7, y7, st7, n7⟩ => ?_
      refine thnF (rg.run _ s7 _ H7 x u _ (I7.pinned (walks I7 n7) (T.obj _ _ st7)) r7 (step x H7 y7)) fun _ s8 ⟨σ8, H8, I8, hw8, q8⟩ => ?_
      refine wpAny_pure ?_
      rw [if_pos rfl]
      refine thnF (rk.run _ s8 σ8 H8 _ I8 q8) fun zk s9 ⟨yk, H9, I9, r9, q9⟩ => ?_
      refine thnF (re.run _ s9 σ8 H9 _ I9 q9) fun zv s10 ⟨yv, H10, I10, r10, xs, k, kb, ek, D10, hb10, hz10, nx⟩ => ?_
      subst ek
      cases r9
      refine x_dictSet (X := X.blk s3 H3 scope ce fp) (A := X.A) hu I10 D10 hb10 hz10 r10 fun s11 I11 => ?_
      obtain ⟨m', hm, w'⟩ := hNx _ nx
      have pinned : ∀ b ∈ fp, ∀ o, s7.heap.get? b = some o → s11.heap.get? b = some o ∧ (upd H10 D (dX X.prog X.w D (putX xs k kb yv))) b = none := fun b' hb o e => by
        have z := I11.pin (b', o) (List.mem_append_right _ (List.mem_append_right _ (mem_pinsAt hb e)))
        exact ⟨z.1, z.2.1⟩
      have len8 : (wipe σ (own.map (·.2))).length = σ8.length := by rw [← hw8, wipe_length]
      refine ⟨m', hm, i + 1, _, (I11.unpinned (pins := [])).weak len8 (fun j v e => ?_), T.keep _ _ _ st7 fun b' hb o e => (pinned b' hb o e).1, fun b' hb => ?_, w'⟩
      · rw [← hw8] at e
        exact (wipe_some e).1
      · obtain ⟨o, e, _⟩ := T.obj _ _ st7 b' hb
        exact (pinned b' hb o e).2
  exact codeAny_compStart_dict loop (T.self X.A 0 _ _ _ st4 loop)
/-- over a list that stays -/
theorem dcX_list {P : Program} {w : World} {K : PySem.W.Frag} {a : Addr} {vs0 : List V} {g : TG} {tk tv : TE} {vs : List Nat} {σ : L2.St} {H1 : Hp} {D : Addr} {Qd : Hp → Prop} (Pv : Nat → Hp → Prop) (h0 : Pv 0 (upd H1 D (dX P w D []))) (hl : ∀ i H, i ≤ vs0.length → Pv i H → SqL K H a vs0)
    (hs : ∀ i x H, vs0[i]? = some x → Pv i H → g x (wipe σ vs) H fun σ2 H2 => wipe σ2 vs = wipe σ vs ∧ tk σ2 H2 fun y H3 => tv σ2 H3 fun z H4 => ∃ xs k b, y = .ref b ∧ DX P w H4 D xs ∧ H4 b = some (.tup (k.map lfV)) ∧ xs.length < sizeLine ∧
      Pv (i + 1) (upd H4 D (dX P w D (putX xs k b z)))) (hd : ∀ H, Pv vs0.length H → Qd H) :
    ∃ W : Nat → Nat → Hp → Prop, (∃ m, W 0 m (upd H1 D (dX P w D []))) ∧ ∀ i m H, W i m H →
      ((Itl K a).stop i H ∧ Qd H) ∨ ((Itl K a).go i H ∧ ∃ Nx : Hp → Prop, (∀ H', Nx H' → ∃ m', m' < m ∧ W (i + 1) m' H') ∧ ∀ x H', (Itl K a).yld i H x H' → g x (wipe σ vs) H' fun σ2 H2 => wipe σ2 vs = wipe σ vs ∧
        tk σ2 H2 fun y H3 => tv σ2 H3 fun z H4 => ∃ xs k b, y = .ref b ∧ DX P w H4 D xs ∧ H4 b = some (.tup (k.map lfV)) ∧ xs.length < sizeLine ∧ Nx (upd H4 D (dX P w D (putX xs k b z)))) := by
  refine ⟨fun i m H => m + i = vs0.length ∧ Pv i H, ⟨vs0.length, rfl, h0⟩, ?_⟩
  rintro i m H ⟨em, p⟩
  have q := hl i H (by omega) p
  cases m with
  | zero =>
    have e : i = vs0.length := by omega
    subst e
    exact .inl ⟨⟨vs0, q, Nat.le_refl _⟩, hd H p⟩
  | succ m =>
    have lt : i < vs0.length := by omega
    refine .inr ⟨⟨vs0, vs0[i], q, List.getElem?_eq_getElem lt⟩, Pv (i + 1), fun H' p' => ⟨m, Nat.lt_succ_self m, by omega, p'⟩, fun x H' y => ?_⟩
    obtain ⟨e, y⟩ := y
    subst e
    exact hs i x _ (y vs0 q) p
end
end BR
set_option Elab.async false
set_option linter.all false
set_option maxRecDepth 100000
set_option maxHeartbeats 4000000
/-! sorted(d, key=f): d a dict of BRDict's kind, f a def that gives a new list of ints for each key. -/
namespace BR
open PySem PySem.Spec PyProof.Rows L2
/-- the conditions of FpOk but the first -/
def Own (X : Cx) (pins : List (Addr × Obj)) (b : Addr) : Prop := b ≠ X.env.locals ∧ b ∉ X.fs ∧ (b ∈ X.ex ∨ X.s_0.heap.objs.size ≤ b) ∧ (∀ x c, X.env.cells.lookup x = some c → c ≠ b) ∧ ∀ p ∈ X.pn ++ pins, p.1 ≠ b
section
variable {X : Cx} {pins : List (Addr × Obj)} {σ : L2.St} {H : Hp} {s : Shared} {a kS : Addr}
theorem Own.of (I : Inv X pins σ H s) {b : Addr} (hb : s.heap.objs.size ≤ b) : Own X pins b := (I.fpOk hb (I.hok.fresh hb)).2
/-- a new object that is not tracked, its record kept by a pin -/
theorem Inv.pin2 {oa ok : Obj} (I : Inv X pins σ H s) (fa : Own X pins a) (fk : Own X pins kS) (ha : H a = none) (hk : H kS = none) (ga : s.heap.get? a = some oa) (gk : s.heap.get? kS = some ok) (ca : ∀ v, oa.data ≠ .cell v) (ck : ∀ v, ok.data ≠ .cell v) :
    Inv X (pins ++ [(a, oa), (kS, ok)]) σ H s := I.pins_of fun p hp => by
  rcases List.mem_append.mp hp with hp | hp
  · exact I.pin p (List.mem_append_right _ hp)
  · rcases List.mem_cons.mp hp with rfl | hp
    · exact ⟨ga, ha, fa.1, fa.2.1, ca⟩
    · rw [List.mem_singleton.mp hp]
      exact ⟨gk, hk, fk.1, fk.2.1, ck⟩
theorem seq_not_cell {T : String} {xs : Array Value} {n : Nat} : ∀ v, (seqObj T xs n).data ≠ .cell v := fun _ z => by cases z
/-- the keys' list behind j calls -/
structure SK (X : Cx) (pins : List (Addr × Obj)) (σ : L2.St) (H0 : Hp) (a kS : Addr) (e1 : Nat) (bs : List Addr) (ord : Addr → List Int) (j : Nat) (s' : Shared) (H' : Hp) (kA : Array Value) (e : Nat) (qs : List Addr) : Prop where
  inv : Inv X pins σ H' s'
  same : Same H0 H'
  na : H' a = none
  nk : H' kS = none
  ga : s'.heap.get? a = some (seqObj "list" #[] e1)
  gk : s'.heap.get? kS = some (seqObj "list" kA e)
  ks : kA.toList = qs.map Value.ref
  len : qs.length = j
  at_ : ∀ (i : Nat) (q : Addr), qs[i]? = some q → ∃ b, bs[i]? = some b ∧ H' q = some (.lst ((ord b).map V.int))
/-- one call of the key, and its answer laid by -/
theorem SK.step {k : Nat} {f : Addr} {fd : FuncData} {sp : Sp} {A : Around} {H0 : Hp} {e1 : Nat} {bs : List Addr} {ord : Addr → List Int} {j : Nat} {H' : Hp} {kA : Array Value} {e : Nat} {qs : List Addr} {b : Addr} {Q : ForInStep PUnit → Shared → Prop} {E : Value → Shared → Prop}
    (F : FnOk X.prog X.w X.K X.mg X.base CX0 k f fd ["key"] sp) (hb : Binds X.K fd ["key"] []) (hr : Room k A) (hA : ∀ {s : Shared} {H : Hp}, Env0 X.prog X.w X.K X.mg X.base X.A X.stack s H → Env0 X.prog X.w X.K X.mg X.base A X.stack s H)
    (fa : Own X pins a) (fk : Own X pins kS) (nak : kS ≠ a) (hsz : bs.length ≤ sizeLine) (S : SK X pins σ H0 a kS e1 bs ord j s H' kA e qs) (hj : bs[j]? = some b)
    (hsp : ∀ Q' : VK, (∀ H2 q, Same H' H2 → H2 q = some (.lst ((ord b).map V.int)) → Q' (.ref q) H2) → sp [.ref b] H' Q' E0)
    (h : ∀ s2 H2 kA2 e2 qs2, SK X pins σ H0 a kS e1 bs ord (j + 1) s2 H2 kA2 e2 qs2 → Q (.yield ⟨⟩) s2) (ex : Value → Sem (ForInStep PUnit)) :
    wpAny (model X.prog X.w) A (do
      match ← (call (.ref f) [.ref b]).attempt with
      | .ok k => do
        Builtin.List.listUpdate (.ref kS) (·.push k)
        pure (ForInStep.yield PUnit.unit)
      | .error e => ex e) Q E s := by
  have lj : j < bs.length := (List.getElem?_eq_some_iff.mp hj).1
  have Ip := Inv.pin2 S.inv fa fk S.na S.nk S.ga S.gk seq_not_cell seq_not_cell
  have hsp' := hsp (fun v H2 => ∃ q, v = .ref q ∧ Same H' H2 ∧ H2 q = some (.lst ((ord b).map V.int))) fun H2 q s2 hq => ⟨q, rfl, s2, hq⟩
  refine wpAny_bind (wpAny_attempt (wpAny_mono (Q := EP X (pins ++ [(a, seqObj "list" #[] e1), (kS, seqObj "list" kA e)]) σ fun v H2 => ∃ q, v = .ref q ∧ Same H' H2 ∧ H2 q = some (.lst ((ord b).map V.int))) (E := fun _ _ => False)
    (wpAny_call (codeAny_mono (F.run A X.stack s H' ⟨[.ref b], []⟩ [.ref b] [.ref b] _ E0 hr (hA Ip.env0) (hb s [.ref b] Ip.kIn rfl) (.cons rfl .nil) hsp') fun r s' hq => ?_)) (fun v s' hv => ?_) fun _ _ z => z.elim))
  · cases r with
    | error e => exact hq
    | ok fl =>
      cases fl with
      | ret u => exact Ip.after hq
      | next => exact False.elim hq
      | brk => exact False.elim hq
      | cont => exact False.elim hq
  · obtain ⟨x, H2, I2, rx, q, rfl, s2, hq⟩ := hv
    cases rx
    have pa := I2.pin (a, seqObj "list" #[] e1) (List.mem_append_right _ (List.mem_append_right _ (by simp)))
    have pk := I2.pin (kS, seqObj "list" kA e) (List.mem_append_right _ (List.mem_append_right _ (by simp)))
    have ekA : kA.size = j := by
      have h1 := congrArg List.length S.ks
      rw [Array.length_toList, List.length_map, S.len] at h1
      exact h1
    show wpAny _ _ (Builtin.List.listUpdate (.ref kS) (·.push (.ref q)) >>= fun _ => pure (ForInStep.yield PUnit.unit)) _ _ _
    have sb := Heap.SameBut.update s'.heap kS (Obj.mapSeq (·.push (.ref q)))
    obtain ⟨c2, hc2⟩ : ∃ c2, (s'.heap.update kS (Obj.mapSeq (·.push (.ref q)))).get? kS = some (seqObj "list" (kA.push (.ref q)) c2) := ⟨_, get?_update_seq pk.1 (·.push (.ref q))⟩
    refine wpAny_bind (listUpdate_at pk.1 rfl (wpAny_pure ?_) (by omega) (by rw [Array.size_push]; omega))
    refine h _ H2 (kA.push (.ref q)) c2 (qs ++ [q]) ⟨?_, S.same.trans s2, pa.2.1, pk.2.1, (sb.2 a nak.symm).trans pa.1, hc2, by simp [S.ks], by simp [S.len], fun i q' hi => ?_⟩
    · exact (Inv.pins_of I2 fun p hp => I2.pin p (List.mem_append_right _ (List.mem_append_left _ hp))).turned (t' := s'.toks) (fun b o hb e => (sb.2 b hb).trans e) pk.2.1 fk.1 fk.2.2.1 fk.2.2.2.1 fk.2.2.2.2
    · by_cases hlt : i < qs.length
      · rw [List.getElem?_append_left hlt] at hi
        obtain ⟨b', h1, h2⟩ := S.at_ i q' hi
        exact ⟨b', h1, s2 _ _ h2⟩
      · have ei : i = qs.length := by
          have := (List.getElem?_eq_some_iff.mp hi).1
          simp at this
          omega
        subst ei
        rw [List.getElem?_concat_length] at hi
        cases hi
        exact ⟨b, by rw [S.len]; exact hj, hq⟩
/-- a list's object reads as ints -/
theorem reads_ints {h : Heap} {q : Addr} {ns : List Int} {its : List Value} {n : Nat} (r : Vals (ns.map V.int) its) (e : h.get? q = some { cls := .type "list", data := .seq its.toArray n }) : ∃ as, Reads h (.ref q) (.list (ns.map PyData.int)) as := by
  have all : ∀ {ns : List Int} {its : List Value}, Vals (ns.map V.int) its → ReadsAll h its (ns.map PyData.int) [] := by
    intro ns
    induction ns with
    | nil => intro its r; cases r; exact .nil
    | cons x ns ih =>
      intro its r
      cases r with
      | cons h1 t =>
        obtain ⟨t', rfl⟩ := h1
        exact .cons (.int x t') (ih t)
  exact ⟨_, .list e rfl rfl (all r)⟩
theorem alike_int_lists (ks : List (List Int)) : PySem.W.AllAlike (ks.map fun ns => PyData.list (ns.map PyData.int)) := by
  intro d hd d' hd'
  obtain ⟨x, _, rfl⟩ := List.mem_map.mp hd
  obtain ⟨y, _, rfl⟩ := List.mem_map.mp hd'
  exact PySem.W.alike_ints x y
theorem sort_lists (ks : List (List Int)) : PySem.W.Sortable (ks.map fun ns => PyData.list (ns.map PyData.int)) := .inr fun d hd => by
  obtain ⟨x, _, rfl⟩ := List.mem_map.mp hd
  exact ⟨(fun z => by cases z), (fun xs z => by cases z)⟩
def refA : Value → Addr
  | .ref q => q
  | _ => 0
theorem refs_perm {L : List Value} {bs : List Addr} (h : L.Perm (bs.map Value.ref)) : ∃ out : List Addr, L = out.map Value.ref ∧ out.Perm bs := by
  refine ⟨L.map refA, ?_, ?_⟩
  · rw [List.map_map]
    have e : ∀ v ∈ L, (Value.ref ∘ refA) v = id v := fun v hv => by
      obtain ⟨q, _, rfl⟩ := List.mem_map.mp (h.mem_iff.mp hv)
      rfl
    rw [List.map_congr_left e, List.map_id]
  · have e1 := h.map refA
    rw [List.map_map] at e1
    have e2 : bs.map (refA ∘ Value.ref) = bs := by
      have e3 : refA ∘ Value.ref = id := rfl
      rw [e3, List.map_id]
    rw [e2] at e1
    exact e1
/-- behind all calls: the keys are listed, the items sorted by them -/
theorem SK.done {A : Around} {H0 : Hp} {e1 : Nat} {bs : List Addr} {ord : Addr → List Int} {H' : Hp} {kA : Array Value} {e : Nat} {qs : List Addr} {Pf : PySem.Fin → Shared → Prop} {E : Value → Shared → Prop}
    (hu : A.units + 2 < cLine) (fa : Own X pins a) (fk : Own X pins kS) (nak : kS ≠ a) (hsz : bs.length ≤ sizeLine) (S : SK X pins σ H0 a kS e1 bs ord bs.length s H' kA e qs)
    (h : ∀ s2 H2 (out : List Addr), Inv X pins σ H2 s2 → Same H0 H2 → H0 a = none → H2 a = some (.lst (out.map V.ref)) → out.Perm bs → Pf (.done (.ret .none)) s2) :
    wpAny (model X.prog X.w) A (do
      let keys ← Builtin.List.listItems (.ref kS)
      ksk_end a false (bs.map Value.ref).toArray e1 (.ref kS) keys) Pf E s := by
  have ekA : kA.toList.length = bs.length := by rw [S.ks, List.length_map, S.len]
  have hkz : PySem.W.EachIs (fun v d => ∃ as, Reads s.heap v d as) kA.toList ((bs.map ord).map fun ns => PyData.list (ns.map PyData.int)) := by
    rw [S.ks]
    have all : ∀ (qs : List Addr) (bs : List Addr), qs.length = bs.length → (∀ (i : Nat) (q : Addr), qs[i]? = some q → ∃ b, bs[i]? = some b ∧ H' q = some (.lst ((ord b).map V.int))) →
        PySem.W.EachIs (fun v d => ∃ as, Reads s.heap v d as) (qs.map Value.ref) ((bs.map ord).map fun ns => PyData.list (ns.map PyData.int)) := by
      intro qs
      induction qs with
      | nil =>
        intro bs hl _
        cases bs with
        | nil => exact .nil
        | cons _ _ => simp at hl
      | cons q qs ih =>
        intro bs hl hat
        cases bs with
        | nil => simp at hl
        | cons b bs =>
          refine .cons ?_ (ih bs (Nat.succ.inj hl) fun i q' hi => hat (i + 1) q' hi)
          obtain ⟨b', e1, e2⟩ := hat 0 q rfl
          cases e1
          obtain ⟨its, n, rv, eq, _⟩ := S.inv.lst e2
          exact reads_ints rv eq
    exact all qs bs S.len S.at_
  refine wpAny_bind (listItems_at S.gk rfl ?_)
  have kp : PySem.W.KeepsBut a (PySem.W.hideAll s.heap [kS]) s.heap := fun b o _ eb => PySem.W.of_hideAll _ eb
  refine PySem.W.keyH_end (vs := bs.map Value.ref) (b := false) (h₁ := PySem.W.hideAll s.heap [kS]) kp (PySem.W.hideAll_none _ (by simp)) S.gk S.ga nak
    (PySem.W.SortsAt.data hkz (alike_int_lists _) (sort_lists _) fun d hd => ?_) (by rw [List.length_map, ← ekA, Array.length_toList]) (by rw [List.length_map]; exact hsz) fun h' tk c kp' ga' => ?_
  · obtain ⟨x, hx, rfl⟩ := List.mem_map.mp hd
    have e0 := PySem.W.depth_ints x
    have e1 : (PyData.list (x.map PyData.int)).depth = PyData.depthAll (x.map PyData.int) + 1 := by rw [PyData.depth]
    rw [e1, e0]
    omega
  · have keep : ∀ b o, b ≠ a → b ≠ kS → s.heap.get? b = some o → h'.get? b = some o := fun b o h1 h2 eb => kp' b o h1 (PySem.W.hideAll_get _ eb (by simp [h2]))
    have new : ∀ b u, H' b = some u → b ≠ a ∧ b ≠ kS := fun b u eb => ⟨fun z => (by rw [z, S.na] at eb; cases eb), fun z => (by rw [z, S.nk] at eb; cases eb)⟩
    have I2 : Inv X pins σ H' { s with heap := h', toks := tk } := by
      refine S.inv.step (g' := s.gens) (d' := s.drawn) (ch := [a, kS]) (fun b hb => ?_) (fun b o _ _ hc eb _ => keep b o (fun z => hc (by simp [z])) (fun z => hc (by simp [z])) eb) (fun b o _ _ hc eb _ => ⟨o.slots, keep b o (fun z => hc (by simp [z])) (fun z => hc (by simp [z])) eb⟩)
        (fun _ _ _ _ n => n) (fun b o hc eb => ?_) (fun _ _ eb => eb) (fun _ _ _ eb => eb) (fun b ps eb => ⟨#[], by rw [eb]; simp⟩) (fun m hm => ?_) (fun b u eb => ?_) S.inv.bare
      · rcases List.mem_cons.mp hb with rfl | hb
        · exact ⟨fa.2.2.1, fa.1, fa.2.2.2.1, fa.2.2.2.2⟩
        · rw [List.mem_singleton.mp hb]
          exact ⟨fk.2.2.1, fk.1, fk.2.2.2.1, fk.2.2.2.2⟩
      · exact ⟨o, keep b o (fun z => hc (by simp [z])) (fun z => hc (by simp [z])) eb⟩
      · obtain ⟨o, es, ep, ho, r⟩ := hm
        exact ⟨o, es, ep, keep _ o fa.1.symm fk.1.symm ho, r⟩
      · refine (S.inv.hok b u eb).stay (fun c v hc q => ?_) (fun _ q => q) fun _ _ q => q
        have hn : c ≠ a ∧ c ≠ kS := by
          rcases hc with rfl | hc
          · exact new _ _ eb
          · exact new _ _ hc
        exact keep c v hn.1 hn.2 q
    -- the sorted list is tracked
    obtain ⟨out, eo, po⟩ := refs_perm (bs := bs) (L := PySem.W.sortVals (PySem.W.dataKind s.heap ((bs.map ord).map fun ns => PyData.list (ns.map PyData.int))) false kA.toList (bs.map Value.ref)) (by
      unfold PySem.W.sortVals
      refine ((List.mergeSort_perm _ _).map Prod.snd).trans ?_
      rw [List.map_snd_zip (by rw [List.length_map, ekA]; exact Nat.le_refl _)])
    rw [eo] at ga'
    have I3 : Inv X pins σ (upd H' a (.lst (out.map V.ref))) { s with heap := h', toks := tk } := Inv.take (s := { s with heap := h', toks := tk }) I2 (fun b ob _ eb => eb) ⟨S.na, fa⟩
      ⟨by rw [List.length_map, po.length_eq]; exact hsz, out.map Value.ref, c, refs_vals out, ga'⟩
    have ha0 : H0 a = none := by
      cases q : H0 a with
      | none => rfl
      | some u =>
        have := S.same _ _ q
        rw [S.na] at this
        cases this
    exact h _ _ out I3 (fun b o eb => by rw [upd_ne (new b o (S.same _ _ eb)).1]; exact S.same _ _ eb) ha0 upd_same po
/-- sorted(d, key=f): the keys' tuples in some order -/
def rSortX (P : Program) (w : World) (f : Addr) (ord : Addr → List Int) (sp : Sp) : List V → List V → Hp → VK → Prop := fun vs zs H Q => ∃ (d : Addr) (xs : List DE), vs = [.ref d] ∧ zs = [.ref f] ∧ DX P w H d xs ∧
  (∀ x ∈ xs, ∀ (H1 : Hp) (Q' : VK), Same H H1 → (∀ H2 q, Same H1 H2 → H2 q = some (.lst ((ord x.2.1).map V.int)) → Q' (.ref q) H2) → sp [.ref x.2.1] H1 Q' E0) ∧
  ∀ (H2 : Hp) (p : Addr) (out : List Addr), Same H H2 → H p = none → H2 p = some (.lst (out.map V.ref)) → out.Perm (xs.map fun x => x.2.1) → Q (.ref p) H2
theorem cr_sortedX {k : Nat} {f : Addr} {fd : FuncData} {sp : Sp} {ord : Addr → List Int} (F : FnOk X.prog X.w X.K X.mg X.base CX0 k f fd ["key"] sp) (hb : Binds X.K fd ["key"] []) (hr : Room (k + 2) X.A) (hc : X.calm = true) :
    CallRK X (.builtin "sorted") ["key"] (rSortX X.prog X.w f ord sp) := by
  intro pins s σ H vs zs us ws Q I rv rz h
  obtain ⟨d, xs, rfl, rfl, D, hsp, q⟩ := h
  obtain ⟨u, rfl, ru⟩ := vals1 rv
  obtain ⟨u2, rfl, ru2⟩ := vals1 rz
  cases ru
  cases ru2
  show wpAny _ _ (call (.builtin "sorted") [.ref d] [(Str.ofString "key", .ref f)]) _ _ _
  obtain ⟨hz, hs0, ys, rel, o, es, ep, h1, h2, h3, h4, hk, hn⟩ := D.raw I.hok
  have lk : xs.length = ys.length := Paired.length rel
  have les : es.size = ys.length := size_of_entries h4
  refine call_function_entry_kw kind_sorted plain_sorted entry_sorted (ksk_s1 _ _) ?_
  unfold Builtin.«sorted»
  refine wpAny_bind (m := checkCount "sorted" 1 1 _) (wpAny_pure ?_)
  refine wpAny_bind (PySem.W.kdu_collect (A := X.A.in1) (KdlSrc.rawDict (es := es) (ep := ep) hs0) (I.ok.hd hc) ⟨o, h1, h2, h3⟩ (by omega) fun h' tk acc hkp hacc => ?_)
  have eacc : acc.toList = (xs.map fun x => x.2.1).map Value.ref := by
    refine List.ext_getElem? fun i => ?_
    by_cases hi : i < es.size
    · obtain ⟨v, hv⟩ : ∃ v, acc[i]? = some v := ⟨acc[i]'(by rw [hacc.1]; exact hi), Array.getElem?_eq_getElem _⟩
      obtain ⟨hi2, ev⟩ := hacc.2 i v hv
      obtain ⟨y, hy⟩ : ∃ y, xs[i]? = some y := ⟨xs[i]'(by omega), List.getElem?_eq_getElem _⟩
      obtain ⟨z, g1, g2⟩ := paired_get rel hy
      have e3 := entry_at (knd := knd X.prog X.w) h4 i
      rw [g1, Array.getElem?_eq_getElem hi] at e3
      have e4 := Option.some.inj e3
      rw [Array.getElem?_toList, hv, ev, e4, List.getElem?_map, List.getElem?_map, hy, Option.map_some, Option.map_some, g2.2.1]
      rfl
    · rw [List.getElem?_eq_none (by rw [Array.length_toList, hacc.1]; omega), List.getElem?_eq_none (by simp; omega)]
  rw [eacc]
  have I1 : Inv X pins σ H { s with heap := h', toks := tk } := I.kept hkp
  refine wpAny_bind (wpAny_newList ?_ (by simp; omega))
  refine wpAny_bind (wpAny_holding (wpAny_call_entry_kw slot_list_sort ⟨_, Heap.get?_push_size _ rfl, rfl⟩ entry_list_sort ?_ (ksk_l1 _ _)))
  show wpAny _ _ (Builtin.«list.sort» ⟨[.ref h'.objs.size], [(Str.ofString "key", .ref f)]⟩) _ _ _
  rw [ksk_t1]
  have hA : ∀ {s : Shared} {H : Hp}, Env0 X.prog X.w X.K X.mg X.base X.A X.stack s H → Env0 X.prog X.w X.K X.mg X.base X.A.in1.in1 X.stack s H := fun e => e.in1.in1
  have hrA : Room k X.A.in1.in1 := Room.in1 (Room.in1 hr)
  have lb : (xs.map fun x => x.2.1).length ≤ sizeLine := by rw [List.length_map]; exact hz
  generalize ebs : (xs.map fun x => x.2.1) = bs at *
  -- the list itself: emptied, its record known, not tracked
  have ho : (h'.push { cls := .type "list", data := .seq (bs.map Value.ref).toArray }).get? h'.objs.size = some (seqObj "list" (bs.map Value.ref).toArray 0) := Heap.get?_push_size _ rfl
  have fa := Own.of I1 (b := h'.objs.size) (Nat.le_refl _)
  have na : H h'.objs.size = none := I1.hok.fresh (Nat.le_refl _)
  have nea : ∀ b o, h'.get? b = some o → b ≠ h'.objs.size := fun b o eb => Nat.ne_of_lt (Heap.lt_size eb)
  have lta : h'.objs.size < (h'.push { cls := .type "list", data := .seq (bs.map Value.ref).toArray }).objs.size := Heap.lt_size ho
  generalize h'.objs.size = a at *
  obtain ⟨e1, ho1⟩ : ∃ e1, ((h'.push { cls := .type "list", data := .seq (bs.map Value.ref).toArray }).update a (Obj.mapSeq fun _ => (#[] : Array Value))).get? a = some (seqObj "list" #[] e1) := ⟨_, get?_update_seq ho fun _ => #[]⟩
  unfold ksk_tree
  refine wpAny_bind (listItems_at ho rfl ?_)
  refine wpAny_bind (listUpdate_at ho rfl ?_ (by simpa using lb) (Nat.zero_le _))
  refine wpAny_bind (seqEpoch_at ho1 rfl ?_)
  refine wpAny_bind (wpAny_newTuple ?_ (by simpa using lb))
  refine wpAny_bind (wpAny_newList ?_ (Nat.zero_le _))
  refine wpAny_holding ?_
  generalize e1h : (h'.push { cls := .type "list", data := .seq (bs.map Value.ref).toArray }).update a (Obj.mapSeq fun _ => (#[] : Array Value)) = h1 at *
  have keep1 : ∀ b o, h'.get? b = some o → h1.get? b = some o := fun b o eb => by
    rw [← e1h]
    exact (Heap.get?_update_other _ _ (nea b o eb).symm).trans (Heap.get?_push_of_some _ eb)
  have lta1 : a < h1.objs.size := Heap.lt_size ho1
  have nak : (h1.push { cls := .type "tuple", data := .seq (bs.map Value.ref).toArray }).objs.size ≠ a := Nat.ne_of_gt (by rw [Heap.size_push]; exact Nat.lt_succ_of_lt lta1)
  have I2 : Inv X pins σ H { s with heap := h1, toks := tk } := I1.kept (t' := tk) keep1
  have fk := Own.of I2 (b := (h1.push { cls := .type "tuple", data := .seq (bs.map Value.ref).toArray }).objs.size) (by rw [Heap.size_push]; exact Nat.le_succ _)
  have nk : H (h1.push { cls := .type "tuple", data := .seq (bs.map Value.ref).toArray }).objs.size = none := I2.hok.fresh (by rw [Heap.size_push]; exact Nat.le_succ _)
  have S0 : SK X pins σ H a (h1.push { cls := .type "tuple", data := .seq (bs.map Value.ref).toArray }).objs.size e1 bs ord 0
      { s with heap := (h1.push { cls := .type "tuple", data := .seq (bs.map Value.ref).toArray }).push { cls := .type "list", data := .seq ([] : List Value).toArray }, toks := tk } H #[] 0 [] :=
    ⟨I2.kept (t' := tk) fun b o eb => Heap.get?_push_of_some _ (Heap.get?_push_of_some _ eb), Same.refl _, na, nk, Heap.get?_push_of_some _ (Heap.get?_push_of_some _ ho1), Heap.get?_push_size _ rfl, rfl, rfl, fun i q hi => by simp at hi⟩
  generalize (h1.push { cls := .type "tuple", data := .seq (bs.map Value.ref).toArray }).objs.size = kS at *
  unfold ksk_rest
  refine wpAny_bind (wpAny_rule ?_)
  rw [← Array.forIn_toList]
  refine wpAny_bind (ksk_fold (fun j s' => ∃ H' kA e qs, SK X pins σ H a kS e1 bs ord j s' H' kA e qs) (bs.map Value.ref) 0 _ ⟨H, #[], 0, [], S0⟩ (fun j x s' hx hS => ?_) fun s' hS => ?_)
  · obtain ⟨H', kA, e, qs, S⟩ := hS
    rw [Nat.zero_add] at S ⊢
    rw [List.getElem?_map] at hx
    obtain ⟨b, hbj, rfl⟩ := Option.map_eq_some_iff.mp hx
    refine SK.step F hb hrA hA fa fk nak lb S hbj (fun Q' hQ => ?_) (fun s2 H2 kA2 e2 qs2 S2 => ⟨rfl, H2, kA2, e2, qs2, S2⟩) _
    have hm : b ∈ xs.map fun x => x.2.1 := by
      rw [ebs]
      exact List.mem_of_getElem? hbj
    obtain ⟨x, hx1, rfl⟩ := List.mem_map.mp hm
    exact hsp x hx1 H' Q' S.same hQ
  · obtain ⟨H', kA, e, qs, S⟩ := hS
    rw [Nat.zero_add, List.length_map] at S
    refine SK.done (A := X.A.in1.in1) ?_ fa fk nak lb S fun s2 H2 out I3 s3 h0 hl hp => ?_
    · exact Nat.lt_of_le_of_lt (by show X.A.units + 1 + 1 + 2 ≤ _; exact Nat.le_refl _) (by have := hr.un; omega)
    · refine ⟨.none, rfl, ?_⟩
      refine wpAny_pure ⟨.ref a, rfl, .ref a, H2, I3, rfl, q H2 a out s3 h0 hl hp⟩
end
end BR
set_option linter.all false
/-! The plain mathematics of both makings: strips as lists, ticked by neighbours. -/
namespace BR
section
variable {W : Type}
/-- the left neighbour's worth -/
def prevO (cs : List W) (i : Nat) : Option W := if i = 0 then none else cs[i - 1]?
/-- all cells a tick on -/
def tk (nx : Option W → W → Option W → W) (cs : List W) : List W := cs.mapIdx fun i o => nx (prevO cs i) o cs[i + 1]?
def tks (nx : Option W → W → Option W → W) : Nat → List W → List W
  | 0, cs => cs
  | t + 1, cs => tk nx (tks nx t cs)
theorem tk_len (nx : Option W → W → Option W → W) (cs : List W) : (tk nx cs).length = cs.length := List.length_mapIdx
theorem tks_len (nx : Option W → W → Option W → W) (cs : List W) : ∀ t, (tks nx t cs).length = cs.length
  | 0 => rfl
  | t + 1 => (tk_len nx _).trans (tks_len nx cs t)
theorem tk_get (nx : Option W → W → Option W → W) (cs : List W) (i : Nat) : (tk nx cs)[i]? = cs[i]?.map fun o => nx (prevO cs i) o cs[i + 1]? := List.getElem?_mapIdx
theorem prevO_zero (cs : List W) : prevO cs 0 = none := if_pos rfl
theorem prevO_succ (cs : List W) (i : Nat) : prevO cs (i + 1) = cs[i]? := if_neg (Nat.succ_ne_zero i)
end
/-! ### one way of two ways -/
inductive OW where
  | wt (w : Int)
  | wk (now bef bes : Option Int)
def nx1 (f : Option Int → Int → Option Int → Int) (l : Option OW) (o : OW) (_ : Option OW) : OW :=
  match o with
  | .wt w => match l with
    | none => .wk (some w) none none
    | some (.wk _ b _) => .wk (some w) none b
    | some (.wt _) => .wt w
  | .wk now _ _ => match l with
    | some (.wk _ (some b) s) => .wk (some (f s b now)) now (some b)
    | _ => .wk none now none
def sy1 (y : Int → Bool) : OW → Bool
  | .wk (some v) _ _ => y v
  | _ => false
section
variable (f : Option Int → Int → Option Int → Int) (w : List Int)
/-- the inner worth of cell c at tick t, none from the right border on -/
def u (c t : Nat) : Option Int := (tks f t w)[c]?
theorem u_zero (c : Nat) : u f w c 0 = w[c]? := rfl
theorem u_some {c t : Nat} (h : c < w.length) : ∃ v, u f w c t = some v := by
  refine ⟨(tks f t w)[c]'(by rw [tks_len]; exact h), ?_⟩
  unfold u
  rw [List.getElem?_eq_getElem]
theorem u_next0 (t : Nat) {o : Int} (ho : u f w 0 t = some o) : u f w 0 (t + 1) = some (f none o (u f w 1 t)) := by
  unfold u at *
  show (tk f (tks f t w))[0]? = _
  rw [tk_get, ho, prevO_zero]
  rfl
theorem u_next (c t : Nat) {o : Int} (ho : u f w (c + 1) t = some o) : u f w (c + 1) (t + 1) = some (f (u f w c t) o (u f w (c + 2) t)) := by
  unfold u at *
  show (tk f (tks f t w))[c + 1]? = _
  rw [tk_get, ho, prevO_succ]
  rfl
/-- what the one-way row's cell j has at tick s -/
def want (j s : Nat) : Option OW :=
  if s ≤ j then (w[j]?).map OW.wt
  else
    let d := s - (j + 1)
    some (.wk (if d ≤ j then u f w (j - d) d else none) (if 1 ≤ d ∧ d ≤ j + 1 then u f w (j + 1 - d) (d - 1) else none) (if 1 ≤ d ∧ d ≤ j then u f w (j - d) (d - 1) else none))
theorem strip1 : ∀ (s j : Nat), j < w.length → (tks (nx1 f) s (w.map OW.wt))[j]? = want f w j s
  | 0, j, hj => by
    show (w.map OW.wt)[j]? = want f w j 0
    unfold want
    rw [if_pos (Nat.zero_le j), List.getElem?_map]
  | s + 1, j, hj => by
    have ih := strip1 s j hj
    show (tk (nx1 f) (tks (nx1 f) s (w.map OW.wt)))[j]? = _
    rw [tk_get, ih]
    by_cases hs : s ≤ j
    · have e0 : want f w j s = some (.wt w[j]) := by
        unfold want
        rw [if_pos hs, List.getElem?_eq_getElem hj]
        rfl
      rw [e0]
      show some (nx1 f _ (.wt w[j]) _) = _
      cases j with
      | zero =>
        have es : s = 0 := by omega
        subst es
        rw [prevO_zero]
        unfold want
        simp [nx1, u_zero, List.getElem?_eq_getElem hj]
      | succ j =>
        rw [prevO_succ, strip1 s j (by omega)]
        by_cases hl : s ≤ j
        · have e1 : want f w j s = some (.wt (w[j]'(by omega))) := by
            unfold want
            rw [if_pos hl, List.getElem?_eq_getElem (by omega)]
            rfl
          rw [e1]
          unfold want
          rw [if_pos (by omega), List.getElem?_eq_getElem hj]
          rfl
        · have es : s = j + 1 := by omega
          subst es
          unfold want
          have n1 : ¬ j + 1 ≤ j := by omega
          have n2 : ¬ j + 1 + 1 ≤ j + 1 := by omega
          rw [if_neg n1, if_neg n2]
          simp [nx1, u_zero, List.getElem?_eq_getElem hj]
    · obtain ⟨d, rfl⟩ : ∃ d, s = j + 1 + d := ⟨s - (j + 1), by omega⟩
      have e0 : want f w j (j + 1 + d) = some (.wk (if d ≤ j then u f w (j - d) d else none) (if 1 ≤ d ∧ d ≤ j + 1 then u f w (j + 1 - d) (d - 1) else none) (if 1 ≤ d ∧ d ≤ j then u f w (j - d) (d - 1) else none)) := by
        unfold want
        rw [if_neg (by omega)]
        simp only [Nat.add_sub_cancel_left]
      have e2 : want f w j (j + 1 + d + 1) = some (.wk (if d + 1 ≤ j then u f w (j - (d + 1)) (d + 1) else none) (if d ≤ j then u f w (j - d) d else none) (if d + 1 ≤ j then u f w (j - (d + 1)) d else none)) := by
        unfold want
        rw [if_neg (by omega)]
        have ed : j + 1 + d + 1 - (j + 1) = d + 1 := by omega
        simp only [ed, Nat.add_sub_cancel]
        have e3 : j + 1 - (d + 1) = j - d := by omega
        rw [e3]
        congr 2
        · by_cases q : d ≤ j
          · rw [if_pos q, if_pos (by omega)]
          · rw [if_neg q, if_neg (by omega)]
        · by_cases q : d + 1 ≤ j
          · rw [if_pos q, if_pos (by omega)]
          · rw [if_neg q, if_neg (by omega)]
      rw [e0, e2]
      show some (nx1 f _ (.wk _ _ _) _) = _
      cases j with
      | zero =>
        rw [prevO_zero]
        rw [if_neg (show ¬ d + 1 ≤ 0 by omega), if_neg (show ¬ d + 1 ≤ 0 by omega)]
        rfl
      | succ j =>
        rw [prevO_succ, strip1 (j + 1 + 1 + d) j (by omega)]
        have e4 : want f w j (j + 1 + 1 + d) = some (.wk (if d + 1 ≤ j then u f w (j - (d + 1)) (d + 1) else none) (if d ≤ j then u f w (j - d) d else none) (if d + 1 ≤ j then u f w (j - (d + 1)) d else none)) := by
          unfold want
          rw [if_neg (by omega)]
          have ed : j + 1 + 1 + d - (j + 1) = d + 1 := by omega
          simp only [ed, Nat.add_sub_cancel]
          have e3 : j + 1 - (d + 1) = j - d := by omega
          rw [e3]
          congr 2
          · by_cases q : d ≤ j
            · rw [if_pos q, if_pos (by omega)]
            · rw [if_neg q, if_neg (by omega)]
          · by_cases q : d + 1 ≤ j
            · rw [if_pos q, if_pos (by omega)]
            · rw [if_neg q, if_neg (by omega)]
        rw [e4]
        by_cases q : d ≤ j
        · obtain ⟨o, ho⟩ := u_some f w (c := j - d) (t := d) (by omega)
          have e5 : j + 1 - (d + 1) = j - d := by omega
          rw [if_pos q, ho, if_pos (show d + 1 ≤ j + 1 by omega), if_pos (show d + 1 ≤ j + 1 by omega), if_pos (show d ≤ j + 1 by omega), e5]
          show some (OW.wk (some (f _ o _)) _ (some o)) = _
          rw [ho]
          by_cases q2 : d + 1 ≤ j
          · obtain ⟨c, hc⟩ : ∃ c, j - d = c + 1 := ⟨j - d - 1, by omega⟩
            have hc2 : j - (d + 1) = c := by omega
            have hc3 : j + 1 - d = c + 2 := by omega
            rw [if_pos q2, hc, hc2, hc3]
            rw [hc] at ho
            rw [u_next f w c d ho]
          · have hc : j - d = 0 := by omega
            have hc3 : j + 1 - d = 1 := by omega
            rw [if_neg q2, hc, hc3]
            rw [hc] at ho
            rw [u_next0 f w d ho]
        · rw [if_neg q, if_neg (show ¬ d + 1 ≤ j + 1 by omega), if_neg (show ¬ d + 1 ≤ j + 1 by omega)]
          rfl
/-- the row of one way says at its due tick what the inner row says at its own -/
theorem oneway_says (y : Int → Bool) (hw : w ≠ []) : ∃ v, (tks f (w.length - 1) w)[0]? = some v ∧
    ∃ o, (tks (nx1 f) (2 * w.length - 1) (w.map OW.wt))[w.length - 1]? = some o ∧ sy1 y o = y v := by
  have h0 : 0 < w.length := List.length_pos_iff.mpr hw
  obtain ⟨v, hv⟩ := u_some f w (c := 0) (t := w.length - 1) h0
  refine ⟨v, hv, ?_⟩
  rw [strip1 f w (2 * w.length - 1) (w.length - 1) (by omega)]
  unfold want
  rw [if_neg (by omega)]
  have ed : 2 * w.length - 1 - (w.length - 1 + 1) = w.length - 1 := by omega
  simp only [ed]
  refine ⟨_, rfl, ?_⟩
  rw [if_pos (Nat.le_refl _), Nat.sub_self, hv]
  rfl
end
/-! ### two ways of one way -/
inductive AV where
  | it (v : Int)
  | no
  | be
  deriving DecidableEq
def AV.opt : AV → Option Int
  | .it n => some n
  | _ => none
def two (g : Option Int → Int → Int) (p q x : AV) : AV :=
  if p = .be ∨ q = .be ∨ x = .be then .be
  else match x with
    | .it z => .it (g (match q with | .it c => some (g p.opt c) | _ => none) (g q.opt z))
    | _ => .no
def nx2 (g : Option Int → Int → Int) (l : Option (AV × AV)) (o : AV × AV) (r : Option (AV × AV)) : AV × AV :=
  (two g (match l with | none => o.2 | some l => l.1) o.1 (match r with | none => .be | some r => r.1),
   two g (match r with | none => .no | some r => r.2) o.2 (match l with | none => o.1 | some l => l.2))
section
variable (g : Option Int → Int → Int) (w : List Int)
def g3 (l : Option Int) (o : Int) (_ : Option Int) : Int := g l o
/-- w(x, s), for x - 1 -/
def ow (x s : Nat) : AV := match x with
  | 0 => .no
  | x + 1 => match u (g3 g) w x s with
    | some v => .it v
    | none => .be
theorem ow_int {x s : Nat} (h : x < w.length) : ∃ v, u (g3 g) w x s = some v ∧ ow g w (x + 1) s = .it v := by
  obtain ⟨v, hv⟩ := u_some (g3 g) w (c := x) (t := s) h
  exact ⟨v, hv, by simp only [ow, hv]⟩
theorem u_out {x s : Nat} (h : w.length ≤ x) : u (g3 g) w x s = none := by
  unfold u
  rw [List.getElem?_eq_none_iff, tks_len]
  exact h
theorem ow_out {x s : Nat} (h : w.length ≤ x) : ow g w (x + 1) s = .be := by simp only [ow, u_out g w h]
/-- two ticks -/
theorem two_ow (x s : Nat) (p : AV) (hp : p = (match x with | 0 => p | x + 1 => ow g w x s)) (hx : x ≤ w.length) (hb : x = 0 → p ≠ .be) :
    two g p (ow g w x s) (ow g w (x + 1) s) = ow g w (x + 1) (s + 2) := by
  by_cases h : x < w.length
  · obtain ⟨v, hv, ev⟩ := ow_int g w (s := s) h
    rw [ev]
    cases x with
    | zero =>
      have e1 := u_next0 (g3 g) w s hv
      have e2 := u_next0 (g3 g) w (s + 1) e1
      unfold two
      rw [if_neg (by simp [ow, hb rfl])]
      simp only [ow, e2, AV.opt]
      rfl
    | succ x =>
      obtain ⟨q, hq, eq⟩ := ow_int g w (x := x) (s := s) (by omega)
      have e1 := u_next (g3 g) w x s hv
      have e2 := u_next (g3 g) w x (s + 1) e1
      have ep : p = ow g w x s := hp
      have hpb : p ≠ .be := by
        rw [ep]
        cases x with
        | zero => simp [ow]
        | succ x =>
          obtain ⟨r, _, er⟩ := ow_int g w (x := x) (s := s) (by omega)
          rw [er]
          simp
      unfold two
      rw [if_neg (by simp [eq, hpb])]
      rw [show ow g w (x + 1 + 1) (s + 2) = _ by simp only [ow, e2]; rfl, eq]
      have eu : u (g3 g) w x (s + 1) = some (g p.opt q) := by
        cases x with
        | zero =>
          rw [u_next0 (g3 g) w s hq, ep]
          simp [g3, ow, AV.opt]
        | succ x =>
          obtain ⟨r, hr, er⟩ := ow_int g w (x := x) (s := s) (by omega)
          rw [u_next (g3 g) w x s hq, ep, er, hr]
          simp [g3, AV.opt]
      simp only [AV.opt, eu]
      rw [hq]
      rfl
  · have e : x = w.length := by omega
    rw [ow_out g w (x := x) (by omega), ow_out g w (x := x) (by omega)]
    unfold two
    rw [if_pos (by simp)]
/-- beyond on the right stays beyond -/
theorem two_out (p q x : AV) (h : x = .be) : two g p q x = .be := by
  unfold two
  rw [if_pos (.inr (.inr h))]
/-- what the folded row's cell c has at tick t -/
theorem strip2 : ∀ (t c : Nat), c < w.length → t < w.length → (tks (nx2 g) t (w.map fun z => (AV.it z, AV.no)))[c]? = some (ow g w (c + t + 1) (2 * t), ow g w (t - c) (2 * t))
  | 0, c, hc, _ => by
    show (w.map fun z => (AV.it z, AV.no))[c]? = _
    rw [List.getElem?_map, List.getElem?_eq_getElem hc, Nat.zero_sub]
    simp [ow, u_zero, List.getElem?_eq_getElem hc]
  | t + 1, c, hc, ht => by
    have ih : ∀ c, c < w.length → (tks (nx2 g) t (w.map fun z => (AV.it z, AV.no)))[c]? = some (ow g w (c + t + 1) (2 * t), ow g w (t - c) (2 * t)) := fun c hc => strip2 t c hc (by omega)
    have ln : (tks (nx2 g) t (w.map fun z => (AV.it z, AV.no))).length = w.length := by rw [tks_len, List.length_map]
    have e2 : 2 * (t + 1) = 2 * t + 2 := by omega
    show (tk (nx2 g) (tks (nx2 g) t _))[c]? = _
    rw [tk_get, ih c hc, e2]
    -- the right neighbour
    have hr : (match (tks (nx2 g) t (w.map fun z => (AV.it z, AV.no)))[c + 1]? with | none => AV.be | some r => r.1) = ow g w (c + t + 2) (2 * t) ∧
        (match (tks (nx2 g) t (w.map fun z => (AV.it z, AV.no)))[c + 1]? with | none => AV.no | some r => r.2) = ow g w (t - (c + 1)) (2 * t) := by
      by_cases q : c + 1 < w.length
      · rw [ih (c + 1) q]
        refine ⟨?_, rfl⟩
        show ow g w (c + 1 + t + 1) _ = _
        rw [show c + 1 + t + 1 = c + t + 2 by omega]
      · rw [List.getElem?_eq_none (by rw [ln]; omega)]
        refine ⟨(ow_out g w (x := c + t + 1) (by omega)).symm, ?_⟩
        rw [show t - (c + 1) = 0 by omega]
        rfl
    show some (two g _ _ _, two g _ _ _) = _
    rw [hr.1, hr.2]
    -- own
    have own : ∀ p, p = ow g w (c + t) (2 * t) → two g p (ow g w (c + t + 1) (2 * t)) (ow g w (c + t + 2) (2 * t)) = ow g w (c + (t + 1) + 1) (2 * t + 2) := fun p hp => by
      rw [show c + (t + 1) + 1 = c + t + 1 + 1 by omega]
      by_cases q : c + t + 1 ≤ w.length
      · exact two_ow g w (c + t + 1) (2 * t) p hp q (fun z => by omega)
      · rw [two_out g _ _ _ (ow_out g w (x := c + t + 1) (by omega)), ow_out g w (x := c + t + 1) (by omega)]
    cases c with
    | zero =>
      have e1 : prevO (tks (nx2 g) t (w.map fun z => (AV.it z, AV.no))) 0 = none := prevO_zero _
      rw [e1]
      show some (two g (ow g w (t - 0) (2 * t)) _ _, two g _ _ (ow g w (0 + t + 1) (2 * t))) = _
      rw [own _ (by rw [Nat.sub_zero, Nat.zero_add]), Nat.sub_zero, Nat.sub_zero, Nat.zero_add]
      have k : two g (ow g w (t - 1) (2 * t)) (ow g w t (2 * t)) (ow g w (0 + t + 1) (2 * t)) = ow g w (t + 1) (2 * t + 2) := ?_
      · show some (_, two g (ow g w (t - 1) (2 * t)) (ow g w t (2 * t)) (ow g w (0 + t + 1) (2 * t))) = _
        rw [k]
      rw [Nat.zero_add]
      refine two_ow g w t (2 * t) _ ?_ (by omega) fun z => ?_
      · cases t with
        | zero => rfl
        | succ t => rfl
      · subst z
        simp [ow]
    | succ c =>
      rw [prevO_succ, ih c (by omega)]
      show some (two g (ow g w (c + t + 1) (2 * t)) _ _, two g _ _ (ow g w (t - c) (2 * t))) = _
      rw [own _ (by rw [show c + t + 1 = c + 1 + t by omega])]
      congr 2
      by_cases q : c + 1 ≤ t
      · obtain ⟨x, hx⟩ : ∃ x, t - (c + 1) = x := ⟨_, rfl⟩
        have h1 : t - c = x + 1 := by omega
        have h2 : t + 1 - (c + 1) = x + 1 := by omega
        rw [hx, h1, h2]
        refine two_ow g w x (2 * t) _ ?_ (by omega) fun z => ?_
        · cases x with
          | zero => rfl
          | succ x =>
            show ow g w (t - (c + 1 + 1)) _ = _
            rw [show t - (c + 1 + 1) = x by omega]
        · subst z
          rw [show t - (c + 1 + 1) = 0 by omega]
          simp [ow]
      · have h1 : t - (c + 1) = 0 := by omega
        have h2 : t - c = 0 := by omega
        have h3 : t + 1 - (c + 1) = 0 := by omega
        have h4 : t - (c + 1 + 1) = 0 := by omega
        rw [h1, h2, h3, h4]
        simp [ow, two]
/-- the row of two ways at its due tick: what the inner row is at its own -/
theorem twoways_says (hw : w ≠ []) : ∃ h fo, (tks (nx2 g) (w.length - 1) (w.map fun z => (AV.it z, AV.no)))[0]? = some (AV.it h, fo) ∧ fo ≠ .be ∧
    (tks (g3 g) (2 * w.length - 1) w)[w.length - 1]? = some (g fo.opt h) := by
  have h0 : 0 < w.length := List.length_pos_iff.mpr hw
  obtain ⟨v, hv, ev⟩ := ow_int g w (x := w.length - 1) (s := 2 * (w.length - 1)) (by omega)
  refine ⟨v, ow g w (w.length - 1) (2 * (w.length - 1)), ?_, ?_, ?_⟩
  · rw [strip2 g w (w.length - 1) 0 h0 (by omega), Nat.zero_add, Nat.sub_zero, ev]
  · cases e : w.length - 1 with
    | zero => simp [ow]
    | succ x =>
      obtain ⟨r, _, er⟩ := ow_int g w (x := x) (s := 2 * (x + 1)) (by omega)
      rw [er]
      simp
  · show u (g3 g) w (w.length - 1) (2 * w.length - 1) = _
    rw [show 2 * w.length - 1 = 2 * (w.length - 1) + 1 by omega]
    cases e : w.length - 1 with
    | zero =>
      rw [e] at hv
      rw [u_next0 (g3 g) w _ hv]
      rfl
    | succ x =>
      rw [e] at hv
      obtain ⟨r, hr, er⟩ := ow_int g w (x := x) (s := 2 * (x + 1)) (by omega)
      rw [u_next (g3 g) w x _ hv, er, hr]
      rfl
end
end BR
set_option Elab.async false
set_option linter.all false
set_option maxRecDepth 100000
/-! What stays, comprehensions that change nothing, names of the built-ins, a row as a model. -/
namespace BR
open PySem PySem.Spec PyProof.Rows L2
theorem b_isinstance : bootBuiltins "isinstance" = some (.builtin "isinstance") := by decide +kernel
theorem b_int : bootBuiltins "int" = some (.type "int") := by decide +kernel
theorem b_bool : bootBuiltins "bool" = some (.type "bool") := by decide +kernel
theorem b_list : bootBuiltins "list" = some (.type "list") := by decide +kernel
theorem b_tuple : bootBuiltins "tuple" = some (.type "tuple") := by decide +kernel
theorem b_dict : bootBuiltins "dict" = some (.type "dict") := by decide +kernel
theorem b_len : bootBuiltins "len" = some (.builtin "len") := by decide +kernel
theorem b_all : bootBuiltins "all" = some (.builtin "all") := by decide +kernel
theorem b_range : bootBuiltins "range" = some (.type "range") := by decide +kernel
theorem b_max : bootBuiltins "max" = some (.builtin "max") := by decide +kernel
theorem b_min : bootBuiltins "min" = some (.builtin "min") := by decide +kernel
theorem b_sorted : bootBuiltins "sorted" = some (.builtin "sorted") := by decide +kernel
theorem b_abs : bootBuiltins "abs" = some (.builtin "abs") := by decide +kernel
theorem b_repr : bootBuiltins "repr" = some (.builtin "repr") := by decide +kernel
/-! ### what stays -/
/-- all that is no list stays -/
def Keep (H H' : Hp) : Prop := ∀ b o, H b = some o → (∀ xs, o ≠ .lst xs) → H' b = some o
/-- all but the list at L stays -/
def But (L : Addr) (H H' : Hp) : Prop := (∃ xs, H L = some (.lst xs)) ∧ (∃ xs, H' L = some (.lst xs)) ∧ ∀ b o, H b = some o → b ≠ L → H' b = some o
theorem Keep.refl (H : Hp) : Keep H H := fun _ _ e _ => e
theorem Keep.trans {H H1 H2 : Hp} (a : Keep H H1) (b : Keep H1 H2) : Keep H H2 := fun c o e n => b c o (a c o e n) n
theorem Keep.of {H H' : Hp} (s : Same H H') : Keep H H' := fun b o e _ => s b o e
theorem But.keep {L : Addr} {H H' : Hp} (s : But L H H') : Keep H H' := fun b o e n => s.2.2 b o e fun z => by
  obtain ⟨xs, q⟩ := s.1
  subst z
  rw [q] at e
  cases e
  exact n xs rfl
theorem But.trans {L : Addr} {H H1 H2 : Hp} (a : But L H H1) (b : But L H1 H2) : But L H H2 := ⟨a.1, b.2.1, fun c o e n => b.2.2 c o (a.2.2 c o e n) n⟩
theorem But.same {L : Addr} {H H1 H2 : Hp} (a : But L H H1) (b : Same H1 H2) : But L H H2 := ⟨a.1, (let ⟨xs, e⟩ := a.2.1; ⟨xs, b _ _ e⟩), fun c o e n => b c o (a.2.2 c o e n)⟩
theorem But.of {L : Addr} {H H' : Hp} {xs : List V} (e : H L = some (.lst xs)) (s : Same H H') : But L H H' := ⟨⟨xs, e⟩, ⟨xs, s _ _ e⟩, fun b o q _ => s b o q⟩
theorem But.seqT {K : PySem.W.Frag} {L a : Addr} {H H' : Hp} {xs : List V} (s : But L H H') (h : SqT K H a xs) : SqT K H' a xs := by
  rcases h with (h | ⟨o, h⟩) | h
  · exact .inl (.inl (s.keep _ _ h fun z q => nomatch q))
  · exact .inl (.inr ⟨o, s.keep _ _ h fun z q => nomatch q⟩)
  · exact .inr h
theorem Keep.seqT {K : PySem.W.Frag} {a : Addr} {H H' : Hp} {xs : List V} (s : Keep H H') (h : SqT K H a xs) : SqT K H' a xs := by
  rcases h with (h | ⟨o, h⟩) | h
  · exact .inl (.inl (s _ _ h fun z q => nomatch q))
  · exact .inl (.inr ⟨o, s _ _ h fun z q => nomatch q⟩)
  · exact .inr h
theorem _root_.L2.Same.seqT {K : PySem.W.Frag} {a : Addr} {H H' : Hp} {xs : List V} (s : Same H H') (h : SqT K H a xs) : SqT K H' a xs := (Keep.of s).seqT h
theorem _root_.L2.Same.upd {H : Hp} {p : Addr} {o : HO} (h : H p = none) : Same H (L2.upd H p o) := fun b u e => by rw [upd_ne (ne_of_none e h)]; exact e
theorem _root_.L2.Same.updI {H H1 : Hp} {p : Addr} {o : HO} (s : Same H H1) (h : H p = none) : Same H (L2.upd H1 p o) := fun b u e => by rw [upd_ne (ne_of_none e h)]; exact s b u e
theorem But.upd {L : Addr} {H H1 : Hp} {p : Addr} {o : HO} (s : But L H H1) (h : H p = none) : But L H (L2.upd H1 p o) := by
  have hp : L ≠ p := by
    obtain ⟨xs, e⟩ := s.1
    exact ne_of_none e h
  refine ⟨s.1, ?_, fun b u e n => ?_⟩
  · obtain ⟨xs, e⟩ := s.2.1
    exact ⟨xs, by rw [upd_ne hp]; exact e⟩
  · rw [upd_ne (ne_of_none e h)]
    exact s.2.2 b u e n
theorem But.free {L : Addr} {H H' : Hp} (s : But L H H') {p : Addr} (h : H' p = none) : H p = none := by
  cases q : H p with
  | none => rfl
  | some o =>
    by_cases e : p = L
    · subst e
      obtain ⟨xs, z⟩ := s.2.1
      rw [z] at h
      cases h
    · rw [s.2.2 p o q e] at h
      cases h
/-! ### a comprehension whose turns change nothing -/
theorem lc_same {J : It} {n : Nat} {G : Hp → Prop} {Y : Nat → Hp → V → Hp → Prop} (w : Walk J n G Y) {g : TG} {te : TE} {vs : List Nat} {σ : L2.St} {H1 : Hp} {D : Addr} {Q : Hp → Prop} (hD : H1 D = none) (Rel : Nat → Hp → V → Prop)
    (hn : n ≤ 1000000) (hG : ∀ H, Same H1 H → G H) (stab : ∀ i H H' v, Keep H H' → Rel i H v → Rel i H' v)
    (turn : ∀ i x H H', i < n → Same H1 H → Y i H x H' → Same H H' ∧ ∀ Q' : VK, (∀ y H4, Same H' H4 → Rel i H4 y → Q' y H4) → g x (wipe σ vs) H' fun σ2 H2 => wipe σ2 vs = wipe σ vs ∧ te σ2 H2 Q')
    (done : ∀ H out, Same H1 H → H D = some (.lst out) → out.length = n → (∀ i v, out[i]? = some v → Rel i H v) → Q H) :
    ∃ W : Nat → Nat → Hp → Prop, (∃ m, W 0 m (upd H1 D (.lst []))) ∧ ∀ i m H, W i m H →
      (J.stop i H ∧ Q H) ∨ (J.go i H ∧ ∃ Nx : Hp → Prop, (∀ H', Nx H' → ∃ m', m' < m ∧ W (i + 1) m' H') ∧ ∀ x H', J.yld i H x H' → g x (wipe σ vs) H' fun σ2 H2 => wipe σ2 vs = wipe σ vs ∧ tYes σ2 H2 fun b H3 =>
        if b = true then te σ2 H3 fun y H4 => ∃ acc, H4 D = some (.lst acc) ∧ acc.length < sizeLine ∧ Nx (upd H4 D (.lst (acc ++ [y]))) else Nx H3) := by
  refine lc_it w (fun i H => Same H1 H ∧ ∃ out, H D = some (.lst out) ∧ out.length = i ∧ ∀ j v, out[j]? = some v → Rel j H v) ⟨Same.upd hD, [], upd_same, rfl, fun j v e => by simp at e⟩ (fun i H _ p => hG H p.1) (fun i x H H' hi p y => ?_) fun H p => ?_
  · obtain ⟨s, out, ho, hl, hr⟩ := p
    obtain ⟨s1, t⟩ := turn i x H H' hi s y
    have hs := sizeLine_eq
    refine t (fun y H4 => ∃ acc, H4 D = some (.lst acc) ∧ acc.length < sizeLine ∧ _) fun y H4 s4 ry => ?_
    have hd := s4 _ _ (s1 _ _ ho)
    refine ⟨out, hd, by omega, (s.trans (s1.trans s4)).updI hD, _, upd_same, by rw [List.length_append, hl]; rfl, fun j v e => ?_⟩
    have kp : Keep H4 (upd H4 D (.lst (out ++ [y]))) := fun b o e nl => by
      by_cases hb : b = D
      · subst hb
        rw [hd] at e
        cases e
        exact absurd rfl (nl _)
      · rw [upd_ne hb]
        exact e
    rw [List.getElem?_append] at e
    split at e
    · exact stab _ _ _ _ ((Keep.of (s1.trans s4)).trans kp) (hr j v e)
    · rename_i hj
      have e0 : j - out.length = 0 := by
        cases q : j - out.length with
        | zero => rfl
        | succ m => rw [q] at e; simp at e
      rw [e0] at e
      have ej : j = i := by omega
      cases (show some y = some v from e)
      rw [ej]
      exact stab _ _ _ _ kp ry
  · obtain ⟨s, out, ho, hl, hr⟩ := p
    exact done H out s ho hl hr
theorem map_get {α β : Type} {f : α → β} {l : List α} {i : Nat} {y : β} (h : (l.map f)[i]? = some y) : ∃ x, l[i]? = some x ∧ y = f x := by
  rw [List.getElem?_map] at h
  cases e : l[i]? with
  | none => rw [e] at h; cases h
  | some x => rw [e] at h; cases h; exact ⟨x, rfl, rfl⟩
/-! ### a row as a model -/
structure RowM where
  W : Type
  rep : Hp → V → W → Prop
  ways : Int
  letters : Int
  C : Addr
  at_ : Hp → Addr → Prop
  bg : Int → W
  nx : Option W → W → Option W → W
  sy : W → Bool
  okS : W → Prop
structure RowM.Ok (R : RowM) : Prop where
  keepA : ∀ {H H' p}, Keep H H' → R.at_ H p → R.at_ H' p
  keepR : ∀ {H H' v x}, Keep H H' → R.rep H v x → R.rep H' v x
  ins : ∀ {H p}, R.at_ H p → ∃ dx fs, H p = some (.ins R.C dx fs) ∧ fs.lookup ("ways" : Str) = some (.int R.ways) ∧ fs.lookup ("letters" : Str) = some (.int R.letters) ∧ fs.lookup ("begin" : Str) = none ∧ fs.lookup ("next" : Str) = none ∧ fs.lookup ("says" : Str) = none
  w12 : R.ways = 1 ∨ R.ways = 2
  one : R.ways = 1 → ∀ l o r r', R.nx l o r = R.nx l o r'
def RowM.repO (R : RowM) (H : Hp) (v : V) : Option R.W → Prop
  | none => v = .non
  | some x => R.rep H v x
def spB (R : RowM) : Sp := fun vs H Q _ => ∃ (p : Addr) (l : Int), vs = [.ref p, .int l] ∧ R.at_ H p ∧ ∀ v H', Same H H' → R.rep H' v (R.bg l) → Q v H'
def spN (R : RowM) : Sp := fun vs H Q _ => ∃ (p : Addr) (l o r : V) (lo : Option R.W) (oo : R.W) (ro : Option R.W), vs = [.ref p, l, o, r] ∧ R.at_ H p ∧ R.repO H l lo ∧ R.rep H o oo ∧ (R.ways = 2 → R.repO H r ro) ∧ ∀ v H', Same H H' → R.rep H' v (R.nx lo oo ro) → Q v H'
def spS (R : RowM) : Sp := fun vs H Q _ => ∃ (p : Addr) (o : V) (oo : R.W), vs = [.ref p, o] ∧ R.at_ H p ∧ R.rep H o oo ∧ R.okS oo ∧ ∀ H', Same H H' → Q (.bl (R.sy oo)) H'
/-- a list of worths -/
def RowM.Reps (R : RowM) (H : Hp) (vs : List V) (ws : List R.W) : Prop := vs.length = ws.length ∧ ∀ (i : Nat) (x : R.W), ws[i]? = some x → ∃ v, vs[i]? = some v ∧ R.rep H v x
theorem RowM.Reps.keep {R : RowM} (ok : R.Ok) {H H' : Hp} {vs : List V} {ws : List R.W} (k : Keep H H') (r : R.Reps H vs ws) : R.Reps H' vs ws :=
  ⟨r.1, fun i x e => let ⟨v, h1, h2⟩ := r.2 i x e; ⟨v, h1, ok.keepR k h2⟩⟩
theorem RowM.Reps.get {R : RowM} {H : Hp} {vs : List V} {ws : List R.W} (r : R.Reps H vs ws) {i : Nat} (h : i < ws.length) : ∃ v x, vs[i]? = some v ∧ ws[i]? = some x ∧ R.rep H v x := by
  obtain ⟨v, h1, h2⟩ := r.2 i ws[i] (List.getElem?_eq_getElem h)
  exact ⟨v, ws[i], h1, List.getElem?_eq_getElem h, h2⟩
/-- the row's class, its methods -/
structure RowC (P : Program) (w : World) (K : PySem.W.Frag) (mg : Str → Option Value) (base : Heap) (R : RowM) : Prop where
  ok : R.Ok
  cl : Cls K R.C
  isr : InsR K R.C
  naw : NoAttr K R.C "ways"
  nal : NoAttr K R.C "letters"
  mb : Met P w K mg base 3 R.C "begin" (spB R)
  mn : Met P w K mg base 3 R.C "next" (spN R)
  ms : Met P w K mg base 3 R.C "says" (spS R)
end BR
set_option Elab.async false
set_option linter.all false
set_option maxRecDepth 100000
/-! The checks. -/
namespace BR
open PySem PySem.Spec PyProof.Rows L2
theorem iteTr {c : Bool} {A B : Prop} (h : c = true) (x : A) : if c = true then A else B := by
  rw [if_pos h]
  exact x
theorem iteFa {c : Bool} {A B : Prop} (h : c = false) (x : B) : if c = true then A else B := by
  rw [if_neg (by rw [h]; exact Bool.false_ne_true)]
  exact x
section
variable {P : Program} {w : World} {K : PySem.W.Frag} {mg : Str → Option Value} {base : Heap}
def spInt : Sp := fun vs H Q _ => ∃ i : Int, vs = [.int i] ∧ Q (.bl true) H
theorem c_is_integer (T : Top K mg) : Cal P w K mg base 1 "is_integer" spInt [] := by
  refine T.d_is_integer.cal sc_is_integer (fun vs H Q E h => ?_) (fun f cdv A outer s H vs Q E hr h => ?_)
  · obtain ⟨i, rfl, _⟩ := h
    rfl
  · obtain ⟨i, rfl, q⟩ := h
    refine ⟨_, pss_one (ps_ret (pe_and (pe_callB call_isi rfl T.f_isinstance b_isinstance (pa_cons (pv 0) (pa_cons (pe_bltn (v := .ty "int") rfl T.f_int b_int rfl) pa_nil)))
      (pe_one (pe_not (pe_callB call_isi rfl T.f_isinstance b_isinstance (pa_cons (pv 0) (pa_cons (pe_bltn (v := .ty "bool") rfl T.f_bool b_bool rfl) pa_nil))))))), ?_⟩
    refine ⟨_, rfl, _, _, _, _, true, rfl, .ty "int", .base (.int i), kit_ty (by decide +kernel), true, rfl, iteT ?_⟩
    exact ⟨_, rfl, _, _, _, _, false, rfl, .ty "bool", .base (.int i), kit_ty (by decide +kernel), false, rfl, q⟩
def spWithin : Sp := fun vs H Q _ => ∃ i a b : Int, vs = [.int i, .int a, .int b] ∧ Q (.bl (decide (a ≤ i) && decide (i ≤ b))) H
theorem c_is_within (T : Top K mg) : Cal P w K mg base 2 "is_within" spWithin [] := by
  refine T.d_is_within.cal sc_is_within (fun vs H Q E h => ?_) (fun f cdv A outer s H vs Q E hr h => ?_)
  · obtain ⟨i, a, b, rfl, _⟩ := h
    rfl
  · obtain ⟨i, a, b, rfl, q⟩ := h
    have g := c_is_integer (P := P) (w := w) (base := base) T
    refine ⟨_, pss_cons (ps_if (pt_not (pt_val (pe_c g hr (pa_cons (pv 0) pa_nil)))) (pss_one ps_never) pss_nil)
      (pss_one (ps_ret (pe_and (pe_or (pe_cmp (pc_isN (pv 1)) rfl) (pe_one (pe_cmp (pc_le (pv 1) (pv 0)) rfl))) (pe_one (pe_or (pe_cmp (pc_isN (pv 2)) rfl) (pe_one (pe_cmp (pc_le (pv 0) (pv 2)) rfl))))))), ?_⟩
    refine ⟨_, rfl, i, rfl, true, rfl, iteF ?_⟩
    refine ⟨_, rfl, false, rfl, iteF ⟨_, rfl, _, rfl, _, _, rfl, rfl, _, rfl, ?_⟩⟩
    by_cases h : a ≤ i
    · refine iteTr (decide_eq_true h) ⟨_, rfl, false, rfl, iteF ⟨_, rfl, _, rfl, _, _, rfl, rfl, ?_⟩⟩
      rw [decide_eq_true h, Bool.true_and] at q
      exact q
    · refine iteFa (decide_eq_false h) ?_
      rw [decide_eq_false h, Bool.false_and] at q
      exact q
def spLetter : Sp := fun vs H Q _ => ∃ i b : Int, vs = [.int i, .int b] ∧ 0 ≤ i ∧ i < b ∧ Q (.bl true) H
theorem c_is_letter (T : Top K mg) : Cal P w K mg base 3 "is_letter" spLetter [] := by
  refine T.d_is_letter.cal sc_is_letter (fun vs H Q E h => ?_) (fun f cdv A outer s H vs Q E hr h => ?_)
  · obtain ⟨i, b, rfl, _⟩ := h
    rfl
  · obtain ⟨i, b, rfl, h0, h1, q⟩ := h
    have g := c_is_within (P := P) (w := w) (base := base) T
    refine ⟨_, pss_one (ps_ret (pe_c g hr (pa_cons (pv 0) (pa_cons pe_int (pa_cons (pe_op op_sub (pv 1) pe_int) pa_nil))))), ?_⟩
    refine ⟨_, rfl, _, rfl, _, _, rfl, rfl, i, 0, b - 1, rfl, ?_⟩
    rw [decide_eq_true h0, decide_eq_true (show i ≤ b - 1 by omega)]
    exact q
/-- a list or a tuple -/
def SqA (K : PySem.W.Frag) (H : Hp) (a : Addr) (xs : List V) : Prop := H a = some (.lst xs) ∨ H a = some (.tup xs)
theorem SqA.same {H H' : Hp} {a : Addr} {xs : List V} (s : Same H H') (h : SqA K H a xs) : SqA K H' a xs := h.elim (fun e => .inl (s _ _ e)) fun e => .inr (s _ _ e)
theorem SqA.sq {H : Hp} {a : Addr} {xs : List V} (h : SqA K H a xs) : SqL K H a xs ∨ SqT K H a xs := h.elim (fun e => .inl (.inl (.inl e))) fun e => .inr (.inl (.inl e))
theorem SqA.ty {H H' : Hp} {a p : Addr} {xs : List V} (h : SqA K H a xs) (s : Same H H') : ∃ t, TyX K H' (.ref a) t ∧ PySem.W.kitAny K t [.type "list", .type "tuple"] = some true := by
  rcases h with e | e
  · exact ⟨_, .base (.lst (s _ _ e)), kitAny_cons (b := true) (kit_ty (by decide +kernel)) (fun z => nomatch z) fun _ => rfl⟩
  · exact ⟨_, .base (.tup (s _ _ e)), kitAny_cons (b := false) (kit_ty (by decide +kernel)) (fun _ => kitAny_cons (b := true) (kit_ty (by decide +kernel)) (fun z => nomatch z) fun _ => rfl) fun z => nomatch z⟩
theorem rd_LT {H : Hp} {a : Addr} {xs : List V} {σ : L2.St} {Q : VK} (h : SqA K H a xs) (q : ∀ H2, Same H H2 → Q (.bl true) H2) :
    tCons (tTup (tCons (tC (.ty "list")) (tCons (tC (.ty "tuple")) tNil))) tNil σ H fun vs H2 => rIsiT K (.ref a :: vs) H2 Q := by
  refine ⟨by show 2 ≤ sizeLine; decide, fun p np => ?_⟩
  obtain ⟨t, h1, h2⟩ := SqA.ty (p := p) h (Same.upd (o := .tup [.ty "list", .ty "tuple"]) np)
  show rIsiT K [.ref a, .ref p] (upd H p (.tup [.ty "list", .ty "tuple"])) Q
  exact ⟨_, p, _, t, _, true, rfl, upd_same, .cons (.ty "list") (.cons (.ty "tuple") .nil), h1, h2, q _ (Same.upd np)⟩
def spIsWord (K : PySem.W.Frag) : Sp := fun vs H Q _ => ∃ (a : Addr) (ns : List Int) (b : Int), vs = [.ref a, .int b] ∧ SqA K H a (ns.map V.int) ∧ 1 ≤ ns.length ∧ ns.length ≤ 200 ∧ (∀ n ∈ ns, 0 ≤ n ∧ n < b) ∧ ∀ H', Same H H' → Q (.bl true) H'
theorem c_is_word (T : Top K mg) : Cal P w K mg base 4 "is_word" (spIsWord K) [] := by
  refine T.d_is_word.cal sc_is_word (fun vs H Q E h => ?_) (fun f cdv A outer s H vs Q E hr h => ?_)
  · obtain ⟨i, a, b, rfl, _⟩ := h
    rfl
  · obtain ⟨a, ns, b, rfl, ha, hl, hl2, hn, q⟩ := h
    have g := c_is_letter (P := P) (w := w) (base := base) T
    refine ⟨_, pss_cons (ps_if (PW.pt (pw_or (pt_not (pt_val (pe_callB call_isiT rfl T.f_isinstance b_isinstance (pa_cons (pv 0) (pa_cons (pe_tup (pa_cons (pe_bltn (v := .ty "list") rfl T.f_list b_list rfl) (pa_cons (pe_bltn (v := .ty "tuple") rfl T.f_tuple b_tuple rfl) pa_nil))) pa_nil)))))
        (pw_or1 (pt_not (pt_chain op_le op_le pe_int (pe_callB call_len_seq rfl T.f_len b_len (pa_cons (pv 0) pa_nil)) (pe_gi T.i_LONGEST)))))) (pss_one ps_never) pss_nil)
      (pss_one (ps_ret (pe_callB (cr_all rfl) rfl T.f_all b_all (pa_cons (pe_lc (own := [("each", 2)]) (g := gName 2) (tt := tYes) rfl sc_is_word.nd (pi_seq (pv 0)) (blkOk_by (N := ["value", "letters", "each"]) (sc := defScope s_is_word) (by decide +kernel))
        (fun _ _ _ _ _ => pg_name (i := 2) sc_is_word.nd rfl (Or.inl rfl)) (fun _ _ _ _ _ => pts_nil) (fun _ _ _ _ _ => pe_c g hr (pa_cons (pv 2) (pa_cons (pv 1) pa_nil)))) pa_nil)))), ?_⟩
    refine ⟨_, rfl, rd_LT ha fun H2 s2 => ⟨true, rfl, iteF ?_⟩⟩
    refine ⟨_, rfl, a, ns.map V.int, rfl, (ha.same s2).sq, _, _, rfl, rfl, _, rfl, ?_⟩
    rw [List.length_map]
    refine iteTr (decide_eq_true (by omega)) ⟨_, _, rfl, rfl, _, rfl, ?_⟩
    refine iteFa (by rw [decide_eq_true (by omega)]; rfl) ?_
    have fin : ∀ D, H2 D = none → ∀ (H3 : Hp) (out : List V), Same H2 H3 → H3 D = some (.lst out) → out.length = ns.length → (∀ (i : Nat) (v : V), out[i]? = some v → v = .bl true) → rAll K [.ref D] H3 Q := fun D nD H3 out s3 hD hlen hr => by
      have e : out = (List.replicate ns.length true).map V.bl := by
        refine List.ext_getElem? fun i => ?_
        rw [List.map_replicate]
        by_cases hi : i < ns.length
        · rw [List.getElem?_replicate, if_pos hi]
          have hi2 : i < out.length := by omega
          rw [List.getElem?_eq_getElem hi2, hr i _ (List.getElem?_eq_getElem hi2)]
        · rw [List.getElem?_eq_none (by omega), List.getElem?_eq_none (by rw [List.length_replicate]; omega)]
      refine ⟨D, _, rfl, .inl (.inl (e ▸ hD)), ?_⟩
      have e2 : (List.replicate ns.length true).all id = true := by
        rw [List.all_eq_true]
        intro x hx
        rw [List.eq_of_mem_replicate hx]
        rfl
      rw [e2]
      exact q _ (s2.trans s3)
    have turn : ∀ (i : Nat) (x : V) (Hc Hc' : Hp), i < (ns.map V.int).length → Same H2 Hc → YAt (ns.map V.int) i Hc x Hc' → Same Hc Hc' ∧ ∀ Q' : VK, (∀ y H4, Same Hc' H4 → y = .bl true → Q' y H4) →
        gName 2 x (wipe (start ["value", "letters", "each"] [.ref a, .int b]) [2]) Hc' fun σ2 H2 => wipe σ2 [2] = wipe (start ["value", "letters", "each"] [.ref a, .int b]) [2] ∧ tCall spLetter [] E0 (tCons (tVar 2) (tCons (tVar 1) tNil)) σ2 H2 Q' := fun i x Hc Hc' hi sc y => by
      obtain ⟨rfl, hx⟩ := y
      refine ⟨Same.refl _, fun Q' hq => ?_⟩
      rw [List.getElem?_map] at hx
      cases hn2 : ns[i]? with
      | none => rw [hn2] at hx; cases hx
      | some n =>
        rw [hn2] at hx
        cases hx
        obtain ⟨h0, h1⟩ := hn n (List.mem_of_getElem? hn2)
        exact ⟨rfl, _, rfl, _, rfl, n, b, rfl, h0, h1, hq _ _ (Same.refl _) rfl⟩
    refine ⟨_, rfl, a, rfl, ?_⟩
    rcases ha with ha | ha
    · refine .inl ⟨⟨_, .inl (.inl (s2 _ _ ha))⟩, fun D nD => lc_same (walk_list (xs := ns.map V.int)) nD (fun _ _ v => v = .bl true) (by rw [List.length_map]; omega) (fun H3 s3 => .inl (.inl (s3 _ _ (s2 _ _ ha)))) (fun _ _ _ _ _ e => e) turn fun H3 out s3 hD hlen hr => fin D nD H3 out s3 hD (by rw [hlen, List.length_map]) hr⟩
    · refine .inr ⟨⟨_, .inl (.inl (s2 _ _ ha))⟩, fun D nD => lc_same (walk_tup (xs := ns.map V.int)) nD (fun _ _ v => v = .bl true) (by rw [List.length_map]; omega) (fun H3 s3 => .inl (.inl (s3 _ _ (s2 _ _ ha)))) (fun _ _ _ _ _ e => e) turn fun H3 out s3 hD hlen hr => fin D nD H3 out s3 hD (by rw [hlen, List.length_map]) hr⟩
end
end BR
set_option Elab.async false
set_option linter.all false
set_option maxRecDepth 100000
/-! A table as a row: begin, next, says. need_word, need_row, need_two_ways. -/
namespace BR
open PySem PySem.Spec PyProof.Rows L2
def lf : Option Int → Leaf
  | none => .none
  | some i => .num i
def vO : Option Int → V
  | none => .non
  | some i => .int i
theorem lfV_lf (o : Option Int) : lfV (lf o) = vO o := by cases o <;> rfl
abbrev Tab := LK → Option Int
def f2 (tab : Tab) (l : Option Int) (o : Int) (r : Option Int) : Int := (tab [lf l, .num o, lf r]).getD o
def g1 (tab : Tab) (l : Option Int) (o : Int) : Int := (tab [lf l, .num o]).getD o
def yesB (yes : List Int) (v : Int) : Bool := decide (v ∈ yes)
structure TabAt (P : Program) (w : World) (K : PySem.W.Frag) (tab : Tab) (yes : List Int) (ways letters : Int) (H : Hp) (p : Addr) : Prop where
  ex : ∃ (dx : Addr) (fs : List (Str × V)) (d y : Addr) (xs : List DE) (ys : List Int), H p = some (.ins (cT K) dx fs) ∧ fs.lookup ("ways" : Str) = some (.int ways) ∧ fs.lookup ("letters" : Str) = some (.int letters) ∧
    fs.lookup ("by_key" : Str) = some (.ref d) ∧ fs.lookup ("yes" : Str) = some (.ref y) ∧ fs.lookup ("begin" : Str) = none ∧ fs.lookup ("next" : Str) = none ∧ fs.lookup ("says" : Str) = none ∧
    DX P w H d xs ∧ (∀ k, valX xs k = (tab k).map V.int) ∧ H y = some (.tup (ys.map V.int)) ∧ ∀ v, v ∈ ys ↔ v ∈ yes
abbrev TableR (P : Program) (w : World) (K : PySem.W.Frag) (tab : Tab) (yes : List Int) (ways letters : Int) : RowM where
  W := Int
  rep := fun _ v x => v = .int x
  ways := ways
  letters := letters
  C := cT K
  at_ := TabAt P w K tab yes ways letters
  bg := fun l => l
  nx := fun l o r => if ways = 1 then g1 tab l o else f2 tab l o r
  sy := yesB yes
  okS := fun _ => True
theorem TableR.ok {P : Program} {w : World} {K : PySem.W.Frag} {tab : Tab} {yes : List Int} {ways letters : Int} (h : ways = 1 ∨ ways = 2) : (TableR P w K tab yes ways letters).Ok where
  keepA := fun k ⟨dx, fs, d, y, xs, ys, h1, h2, h3, h4, h5, h6, h7, h8, h9, h10, h11, h12⟩ =>
    ⟨dx, fs, d, y, xs, ys, k _ _ h1 (fun z q => nomatch q), h2, h3, h4, h5, h6, h7, h8, h9.keep k, h10, k _ _ h11 (fun z q => nomatch q), h12⟩
  keepR := fun _ e => e
  ins := fun ⟨dx, fs, d, y, xs, ys, h1, h2, h3, h4, h5, h6, h7, h8, h9, h10, h11, h12⟩ => ⟨dx, fs, h1, h2, h3, h6, h7, h8⟩
  w12 := h
  one := fun (e : ways = 1) l o r r' => by
    show (if ways = 1 then g1 tab l o else f2 tab l o r) = (if ways = 1 then g1 tab l o else f2 tab l o r')
    rw [if_pos e, if_pos e]
theorem inV_ints (v : Int) : ∀ ys : List Int, inV (.int v) (ys.map V.int) = decide (v ∈ ys)
  | [] => rfl
  | y :: ys => by
    show (eqV (.int y) (.int v) || inV (.int v) (ys.map V.int)) = _
    rw [inV_ints v ys]
    show ((y == v) || decide (v ∈ ys)) = _
    by_cases h : y = v
    · subst h; simp
    · have h2 : ¬ v = y := fun e => h e.symm
      rw [beq_eq_false_iff_ne.mpr h, Bool.false_or]
      simp [h2]
theorem flat_ints : ∀ ys : List Int, (ys.map V.int).all flatV = true
  | [] => rfl
  | _ :: ys => flat_ints ys
section
variable {P : Program} {w : World} {K : PySem.W.Frag} {mg : Str → Option Value} {base : Heap}
theorem m_tb_begin (T : Top K mg) {tab : Tab} {yes : List Int} {ways letters : Int} : Met P w K mg base 1 (cT K) "begin" (spB (TableR P w K tab yes ways letters)) := by
  refine T.m_tb_begin.met sc_tb_begin (fun vs H Q E h => ?_) (fun f cdv A outer s H vs Q E hr h => ?_)
  · obtain ⟨p, l, rfl, _⟩ := h
    rfl
  · obtain ⟨p, l, rfl, _, q⟩ := h
    exact ⟨_, pss_one (ps_ret (pv 1)), _, rfl, q _ _ (Same.refl _) rfl⟩
theorem m_tb_says (T : Top K mg) {tab : Tab} {yes : List Int} {ways letters : Int} : Met P w K mg base 1 (cT K) "says" (spS (TableR P w K tab yes ways letters)) := by
  refine T.m_tb_says.met sc_tb_says (fun vs H Q E h => ?_) (fun f cdv A outer s H vs Q E hr h => ?_)
  · obtain ⟨p, l, l2, rfl, _⟩ := h
    rfl
  · obtain ⟨p, o, oo, rfl, ⟨dx, fs, d, y, xs, ys, h1, h2, h3, h4, h5, h6, h7, h8, h9, h10, h11, h12⟩, (rfl : o = .int oo), _, q⟩ := h
    refine ⟨_, pss_one (ps_ret (pe_cmpR op_in_seq (pv 1) (pe_fld (pv 0) rfl) (by rfl))), ?_⟩
    refine ⟨_, rfl, _, rfl, p, _, dx, fs, _, rfl, h1, T.cl_Table, T.na_Table_yes, h5, y, _, rfl, .inr (.inl (.inl h11)), rfl, flat_ints ys, ?_⟩
    have e : inV (.int oo) (ys.map V.int) = yesB yes oo := by
      rw [inV_ints]
      exact decide_eq_decide.mpr (h12 oo)
    show Q (.bl (inV (.int oo) (ys.map V.int))) H
    rw [e]
    exact q H (Same.refl _)
theorem repO_int {tab : Tab} {yes : List Int} {ways letters : Int} {H : Hp} {v : V} {o : Option Int} (h : (TableR P w K tab yes ways letters).repO H v o) : v = vO o := by
  cases o with
  | none => exact h
  | some i => exact h
theorem m_tb_next (T : Top K mg) {tab : Tab} {yes : List Int} {ways letters : Int} (hw : ways = 1 ∨ ways = 2) : Met P w K mg base 1 (cT K) "next" (spN (TableR P w K tab yes ways letters)) := by
  refine T.m_tb_next.met sc_tb_next (fun vs H Q E h => ?_) (fun f cdv A outer s H vs Q E hr h => ?_)
  · obtain ⟨p, l, o, r, lo, oo, ro, rfl, _⟩ := h
    rfl
  · obtain ⟨p, l, o, r, lo, oo, ro, rfl, ⟨dx, fs, d, y, xs, ys, h1, h2, h3, h4, h5, h6, h7, h8, h9, h10, h11, h12⟩, hl, (rfl : o = .int oo), hro, q⟩ := h
    have el := repO_int hl
    subst el
    have hu := hu_of hr
    refine ⟨_, pss_cons (ps_asg (pe_ifExp (pt_cmpR op_eq (pe_fld (pv 0) rfl) (pe_gi T.i_ONE_WAY) (nomark _)) (pe_tup (pa_cons (pv 1) (pa_cons (pv 2) pa_nil))) (pe_tup (pa_cons (pv 1) (pa_cons (pv 2) (pa_cons (pv 3) pa_nil))))) (pg_name (i := 4) sc_tb_next.nd rfl (Or.inl rfl)))
      (pss_one (ps_ret (pe_xget2 hu (pe_fld (pv 0) rfl) (pv 4) (pv 2) ⟨rfl, rfl, rfl, rfl⟩))), ?_⟩
    refine ⟨_, rfl, p, _, dx, fs, _, rfl, h1, T.cl_Table, T.na_Table_ways, h2, rfl, _, rfl, ?_⟩
    have fin : ∀ (t : Addr) (vs : List V) (k : LK), H t = none → vs = k.map lfV → (∀ z, (tab k).getD oo = z → z = (TableR P w K tab yes ways letters).nx lo oo ro) → ∀ σ : L2.St, σ = [some (.ref p), some (vO lo), some (.int oo), some r, some (.ref t)] →
        tXGet2 P w (tFld K (tVar 0) "by_key") (tVar 4) (tVar 2) σ (upd H t (.tup vs)) Q := by
      intro t vs k nt ek hz σ es
      subst es ek
      have s := Same.upd (o := .tup (k.map lfV)) nt
      have D := h9.keep (Keep.of s)
      refine ⟨_, rfl, p, _, dx, fs, _, rfl, s _ _ h1, T.cl_Table, T.na_Table_by_key, h4, d, xs, rfl, D, _, rfl, _, rfl, xs, k, t, D, rfl, upd_same, ?_⟩
      have e : (valX xs k).getD (.int oo) = .int ((TableR P w K tab yes ways letters).nx lo oo ro) := by
        rw [h10, ← hz _ rfl]
        cases tab k <;> rfl
      exact q _ _ s e
    rcases hw with rfl | rfl
    · refine iteTr (decide_eq_true rfl) ⟨_, rfl, _, rfl, (by show 2 ≤ sizeLine; decide), fun t nt => ?_⟩
      have e : ([vO lo, V.int oo] : List V) = ([lf lo, .num oo] : LK).map lfV := by
        show _ = [lfV (lf lo), .int oo]
        rw [lfV_lf]
      exact fin t _ _ nt e (fun z ez => by rw [← ez]; rfl) _ rfl
    · have er := repO_int (hro rfl)
      subst er
      refine iteFa (decide_eq_false (fun z => by cases z)) ⟨_, rfl, _, rfl, _, rfl, (by show 3 ≤ sizeLine; decide), fun t nt => ?_⟩
      have e : ([vO lo, V.int oo, vO ro] : List V) = ([lf lo, .num oo, lf ro] : LK).map lfV := by
        show _ = [lfV (lf lo), .int oo, lfV (lf ro)]
        rw [lfV_lf, lfV_lf]
      exact fin t _ _ nt e (fun z ez => by rw [← ez]; rfl) _ rfl
theorem TableR.row (T : Top K mg) {tab : Tab} {yes : List Int} {ways letters : Int} (hw : ways = 1 ∨ ways = 2) : RowC P w K mg base (TableR P w K tab yes ways letters) where
  ok := TableR.ok hw
  cl := T.cl_Table
  isr := T.is_Table
  naw := T.na_Table_ways
  nal := T.na_Table_letters
  mb := (m_tb_begin T).mono (by decide)
  mn := (m_tb_next T hw).mono (by decide)
  ms := (m_tb_says T).mono (by decide)
/-! ### checks of a row, of a word -/
def spNeedRow (K : PySem.W.Frag) : Sp := fun vs H Q _ => ∃ (p C dx : Addr) (fs : List (Str × V)) (part : V), vs = [.ref p, part] ∧ H p = some (.ins C dx fs) ∧ Cls K C ∧ InsR K C ∧ Q .non H
theorem c_need_row (T : Top K mg) : Cal P w K mg base 1 "need_row" (spNeedRow K) [.str "row"] := by
  refine T.d_need_row.cal sc_need_row (fun vs H Q E h => ?_) (fun f cdv A outer s H vs Q E hr h => ?_)
  · obtain ⟨p, C, dx, fs, part, rfl, _⟩ := h
    rfl
  · obtain ⟨p, C, dx, fs, part, rfl, hp, cl, is, q⟩ := h
    refine ⟨_, pss_one (ps_if (pt_not (pt_val (pe_callB call_isi rfl T.f_isinstance b_isinstance (pa_cons (pv 0) (pa_cons (pe_glob (v := .ref (cR K)) rfl T.mgRow rfl) pa_nil))))) (pss_one ps_never) pss_nil), ?_⟩
    exact ⟨_, rfl, _, _, _, _, true, rfl, .own _, .base (.ins hp cl is.ha is.hn is.htk is.hm), is.me, true, rfl, iteF q⟩
theorem c_need_row2 (T : Top K mg) : Cal P w K mg base 1 "need_row" (spNeedRow K) [] := by
  obtain ⟨f, fd, ds, F, hm, kp, b, d⟩ := T.d_need_row.ex
  obtain ⟨ds2, hv, hb⟩ := FunD.binds1 (ps := ["value", "part"]) F 2 1 (by intro z; cases z) rfl (fun T _ _ _ _ _ _ us its hl hl2 => match us, its, hl, hl2 with | [_, _], [_], _, _ => ⟨_, rfl, rfl⟩)
  obtain ⟨f', fd', ps', ds', G, hm', kp', b', d'⟩ := (c_need_row (P := P) (w := w) (base := base) T).ex
  cases hv
  refine ⟨f, fd, _, [], ?_, hm, kp, hb, .nil⟩
  refine FunD.ok0 F sc_need_row (fun vs H Q E h => ?_) (fun cdv A outer s H vs Q E hr h => ?_)
  · obtain ⟨p, C, dx, fs, part, rfl, _⟩ := h
    rfl
  · obtain ⟨p, C, dx, fs, part, rfl, hp, cl, is, q⟩ := h
    refine ⟨_, pss_one (ps_if (pt_not (pt_val (pe_callB call_isi rfl T.f_isinstance b_isinstance (pa_cons (pv 0) (pa_cons (pe_glob (v := .ref (cR K)) rfl T.mgRow rfl) pa_nil))))) (pss_one ps_never) pss_nil), ?_⟩
    exact ⟨_, rfl, _, _, _, _, true, rfl, .own _, .base (.ins hp cl is.ha is.hn is.htk is.hm), is.me, true, rfl, iteF q⟩
def spNeedTwo (R : RowM) : Sp := fun vs H Q _ => ∃ p : Addr, vs = [.ref p] ∧ R.at_ H p ∧ Q .non H
theorem c_need_two_ways (T : Top K mg) {R : RowM} (RC : RowC P w K mg base R) (h2 : R.ways = 2) : Cal P w K mg base 2 "need_two_ways" (spNeedTwo R) [] := by
  refine T.d_need_two_ways.cal sc_need_two_ways (fun vs H Q E h => ?_) (fun f cdv A outer s H vs Q E hr h => ?_)
  · obtain ⟨p, rfl, _⟩ := h
    rfl
  · obtain ⟨p, rfl, hp, q⟩ := h
    obtain ⟨dx, fs, h1, hw, hl, _⟩ := RC.ok.ins hp
    have g := c_need_row2 (P := P) (w := w) (base := base) T
    refine ⟨_, pss_cons (ps_expr (pe_c g hr (pa_cons (pv 0) (pa_cons pe_str pa_nil)))) (pss_one (ps_if (pt_cmpR op_ne (pe_fld (pv 0) rfl) (pe_gi T.i_TWO_WAYS) (nomark _)) (pss_one ps_never) pss_nil)), ?_⟩
    refine ⟨_, rfl, p, _, dx, fs, _, rfl, h1, RC.cl, RC.isr, ?_⟩
    refine ⟨_, rfl, p, _, dx, fs, _, rfl, h1, RC.cl, RC.naw, hw, rfl, _, rfl, iteNS (by rw [h2]) q⟩
def spNeedWord (K : PySem.W.Frag) : Sp := fun vs H Q _ => ∃ (a : Addr) (ns : List Int) (b : Int) (part : V), vs = [.ref a, .int b, part] ∧ SqA K H a (ns.map V.int) ∧ 1 ≤ ns.length ∧ ns.length ≤ 200 ∧ (∀ n ∈ ns, 0 ≤ n ∧ n < b) ∧
  ∀ t H', Same H H' → H' t = some (.tup (ns.map V.int)) → Q (.ref t) H'
theorem c_need_word (T : Top K mg) : Cal P w K mg base 5 "need_word" (spNeedWord K) [] := by
  refine T.d_need_word.cal sc_need_word (fun vs H Q E h => ?_) (fun f cdv A outer s H vs Q E hr h => ?_)
  · obtain ⟨i, a, b, part, rfl, _⟩ := h
    rfl
  · obtain ⟨a, ns, b, part, rfl, ha, hl, hl2, hn, q⟩ := h
    have g := c_is_word (P := P) (w := w) (base := base) T
    refine ⟨_, pss_cons (ps_if (pt_not (pt_val (pe_c g hr (pa_cons (pv 0) (pa_cons (pv 1) pa_nil))))) (pss_one ps_never) pss_nil) (pss_one (ps_ret (pe_callTy call_tuple_of rfl T.f_tuple b_tuple (pa_cons (pv 0) pa_nil)))), ?_⟩
    refine ⟨_, rfl, _, rfl, a, ns, b, rfl, ha, hl, hl2, hn, fun H2 s2 => ⟨true, rfl, iteF ?_⟩⟩
    refine ⟨_, rfl, a, ns.map V.int, rfl, ?_⟩
    rcases ha with ha | ha
    · exact .inl ⟨.inl (.inl (s2 _ _ ha)), fun l nl => q l _ (s2.trans (Same.upd nl)) upd_same⟩
    · exact .inr ⟨.inl (.inl (s2 _ _ ha)), q a _ s2 (s2 _ _ ha)⟩
end
end BR
set_option Elab.async false
set_option linter.all false
set_option maxRecDepth 100000
/-! The row of one way that a table of two ways makes. -/
namespace BR
open PySem PySem.Spec PyProof.Rows L2
theorem lk_eq {f : Str} {v : V} {fs : List (Str × V)} : (putF f v fs).lookup f = some v := by rw [lookup_putF, if_pos rfl]
theorem lk_ne {f g : Str} {v : V} {fs : List (Str × V)} (h : ¬ g = f) : (putF f v fs).lookup g = fs.lookup g := by rw [lookup_putF, if_neg h]
theorem lp {f : Str} {v : V} {fs : List (Str × V)} {n : Nat} (h : fs.length ≤ n) : (putF f v fs).length ≤ n + 1 := Nat.le_trans (length_putF f v fs) (Nat.succ_le_succ h)
/-- all but the instance at p stays -/
def Mk1 (p : Addr) (H H' : Hp) : Prop := ∀ b o, H b = some o → b ≠ p → H' b = some o
theorem fs3 (a b c : V) {m : Str} (h1 : ¬ m = "ways") (h2 : ¬ m = "letters") (h3 : ¬ m = "row") : (putF "ways" a (putF "letters" b (putF "row" c []))).lookup m = none := by
  rw [lk_ne h1, lk_ne h2, lk_ne h3] <;> rfl
theorem fs3_row (a b c : V) : (putF "ways" a (putF "letters" b (putF "row" c []))).lookup ("row" : Str) = some c := by
  rw [lk_ne (by decide +kernel), lk_ne (by decide +kernel), lk_eq]
theorem fs3_let (a b c : V) : (putF "ways" a (putF "letters" b (putF "row" c []))).lookup ("letters" : Str) = some b := by
  rw [lk_ne (by decide +kernel), lk_eq]
theorem fs3_ways (a b c : V) : (putF "ways" a (putF "letters" b (putF "row" c []))).lookup ("ways" : Str) = some a := lk_eq
/-- a made row: its own table, its letters, its ways -/
structure MadeAt (R0 : RowM) (C : Addr) (ways : Int) (H : Hp) (p : Addr) : Prop where
  ex : ∃ (dx : Addr) (fs : List (Str × V)) (q : Addr), H p = some (.ins C dx fs) ∧ fs.lookup ("row" : Str) = some (.ref q) ∧ R0.at_ H q ∧ fs.lookup ("ways" : Str) = some (.int ways) ∧ fs.lookup ("letters" : Str) = some (.int R0.letters) ∧
    fs.lookup ("begin" : Str) = none ∧ fs.lookup ("next" : Str) = none ∧ fs.lookup ("says" : Str) = none
theorem MadeAt.keep {R0 : RowM} (ok : R0.Ok) {C : Addr} {ways : Int} {H H' : Hp} {p : Addr} (k : Keep H H') (h : MadeAt R0 C ways H p) : MadeAt R0 C ways H' p := by
  obtain ⟨dx, fs, q, h1, h2, h3, h4⟩ := h
  exact ⟨dx, fs, q, k _ _ h1 (fun z e => nomatch e), h2, ok.keepA k h3, h4⟩
def repOW (H : Hp) (v : V) : OW → Prop
  | .wt x => ∃ a, v = .ref a ∧ H a = some (.tup [.int 0, .int x])
  | .wk now bef bes => ∃ a, v = .ref a ∧ H a = some (.tup [.int 1, vO now, vO bef, vO bes])
abbrev OneR (P : Program) (w : World) (K : PySem.W.Frag) (tab : Tab) (yes : List Int) (letters : Int) : RowM where
  W := OW
  rep := repOW
  ways := 1
  letters := letters
  C := cO K
  at_ := MadeAt (TableR P w K tab yes 2 letters) (cO K) 1
  bg := OW.wt
  nx := nx1 (f2 tab)
  sy := sy1 (yesB yes)
  okS := fun _ => True
theorem OneR.ok {P : Program} {w : World} {K : PySem.W.Frag} {tab : Tab} {yes : List Int} {letters : Int} : (OneR P w K tab yes letters).Ok where
  keepA := fun k h => h.keep (TableR.ok (.inr rfl)) k
  keepR := fun {H H' v x} k e => by
    cases x with
    | wt x => obtain ⟨a, rfl, h⟩ := e; exact ⟨a, rfl, k _ _ h (fun z e => nomatch e)⟩
    | wk n b s => obtain ⟨a, rfl, h⟩ := e; exact ⟨a, rfl, k _ _ h (fun z e => nomatch e)⟩
  ins := fun ⟨dx, fs, q, h1, h2, h3, h4, h5, h6⟩ => ⟨dx, fs, h1, h4, h5, h6⟩
  w12 := .inl rfl
  one := fun _ l o r r' => by cases o <;> rfl
section
variable {P : Program} {w : World} {K : PySem.W.Frag} {mg : Str → Option Value} {base : Heap}
def spMade (R0 : RowM) (C : Addr) (ways : Int) : Sp := fun vs H Q _ => ∃ p q dx : Addr, vs = [.ref p, .ref q] ∧ H p = some (.ins C dx []) ∧ p ≠ q ∧ R0.at_ H q ∧ (∀ H', Mk1 p H H' → R0.at_ H' q) ∧ ∀ H', Mk1 p H H' → MadeAt R0 C ways H' p → Q .non H'
theorem k_ow (T : Top K mg) {tab : Tab} {yes : List Int} {letters : Int} : Mak P w K mg base 3 "OneWay" (cO K) (spMade (TableR P w K tab yes 2 letters) (cO K) 1) := by
  refine T.k_ow_init.mak sc_ow_init (fun vs H Q E h => ?_) (fun f cdv A outer s H vs Q E hr h => ?_)
  · obtain ⟨p, q, dx, rfl, _⟩ := h
    rfl
  · obtain ⟨p, q, dx, rfl, hp, hpq, hq, hq', k⟩ := h
    have RC : RowC P w K mg base (TableR P w K tab yes 2 letters) := TableR.row T (.inr rfl)
    have g := c_need_two_ways T RC rfl
    refine ⟨_, pss_cons (ps_expr (pe_c g hr (pa_cons (pv 1) pa_nil))) (pss_cons (ps_fld (pv 0) (pv 1) rfl) (pss_cons (ps_fld (pv 0) (pe_fld (pv 1) rfl) rfl) (pss_one (ps_fld (pv 0) (pe_gi T.i_ONE_WAY) rfl)))), ?_⟩
    refine ⟨_, rfl, q, rfl, hq, ?_⟩
    refine ⟨_, rfl, _, rfl, p, _, dx, [], rfl, hp, T.cl_OneWay, T.na_OneWay_row, (by decide), ?_⟩
    have e1 : Mk1 p H (upd H p (.ins (cO K) dx (putF "row" (.ref q) []))) := fun b o e n => by rw [upd_ne n]; exact e
    obtain ⟨dq, fq, h1, hw, hl, _⟩ := RC.ok.ins (hq' _ e1)
    refine ⟨_, rfl, q, _, dq, fq, _, rfl, h1, T.cl_Table, T.na_Table_letters, hl, _, rfl, p, _, dx, _, rfl, upd_same, T.cl_OneWay, T.na_OneWay_letters, (by show 1 < 1000; decide), ?_⟩
    rw [upd_upd]
    refine ⟨_, rfl, p, _, dx, _, rfl, upd_same, T.cl_OneWay, T.na_OneWay_ways, Nat.lt_of_le_of_lt (lp (lp (Nat.le_refl 0))) (by decide), ?_⟩
    rw [upd_upd]
    have e2 : Mk1 p H (upd H p (.ins (cO K) dx (putF "ways" (.int 1) (putF "letters" (.int letters) (putF "row" (.ref q) []))))) := fun b o e n => by rw [upd_ne n]; exact e
    exact k _ e2 ⟨dx, _, q, upd_same, fs3_row _ _ _, hq' _ e2, fs3_ways _ _ _, fs3_let _ _ _, fs3 _ _ _ (by decide +kernel) (by decide +kernel) (by decide +kernel), fs3 _ _ _ (by decide +kernel) (by decide +kernel) (by decide +kernel), fs3 _ _ _ (by decide +kernel) (by decide +kernel) (by decide +kernel)⟩
theorem m_ow_begin (T : Top K mg) {tab : Tab} {yes : List Int} {letters : Int} : Met P w K mg base 2 (cO K) "begin" (spB (OneR P w K tab yes letters)) := by
  refine T.m_ow_begin.met sc_ow_begin (fun vs H Q E h => ?_) (fun f cdv A outer s H vs Q E hr h => ?_)
  · obtain ⟨p, l, rfl, _⟩ := h
    rfl
  · obtain ⟨p, l, rfl, ⟨dx, fs, q, h1, h2, h3, h4, h5, h6⟩, k⟩ := h
    obtain ⟨dq, fq, g1, _, _, g4, _⟩ := (TableR.ok (.inr rfl)).ins h3
    have g := m_tb_begin (P := P) (w := w) (base := base) (tab := tab) (yes := yes) (ways := 2) (letters := letters) T
    refine ⟨_, pss_one (ps_ret (pe_tup (pa_cons (pe_gi T.i_WAITS) (pa_cons (pe_mt g T.cl_Table hr (pe_fld (pv 0) rfl) (pa_cons (pv 1) pa_nil)) pa_nil)))), ?_⟩
    refine ⟨_, rfl, p, _, dx, fs, _, rfl, h1, T.cl_OneWay, T.na_OneWay_row, h2, q, dq, fq, rfl, g1, g4, _, rfl, q, l, rfl, h3, fun v H' s1 e => ?_⟩
    subst e
    exact ⟨(by show 2 ≤ sizeLine; decide), fun t nt => k _ _ (s1.trans (Same.upd nt)) ⟨t, rfl, upd_same⟩⟩
theorem m_ow_says (T : Top K mg) {tab : Tab} {yes : List Int} {letters : Int} : Met P w K mg base 2 (cO K) "says" (spS (OneR P w K tab yes letters)) := by
  refine T.m_ow_says.met sc_ow_says (fun vs H Q E h => ?_) (fun f cdv A outer s H vs Q E hr h => ?_)
  · obtain ⟨p, l, l2, rfl, _⟩ := h
    rfl
  · obtain ⟨p, o, oo, rfl, ⟨dx, fs, q, h1, h2, h3, h4, h5, h6⟩, ho, _, k⟩ := h
    obtain ⟨dq, fq, g1, _, _, _, _, g6⟩ := (TableR.ok (.inr rfl)).ins h3
    have g := m_tb_says (P := P) (w := w) (base := base) (tab := tab) (yes := yes) (ways := 2) (letters := letters) T
    refine ⟨_, pss_one (ps_ret (pe_and (pe_cmpR op_eq (pe_ix ix_tup (pv 1) pe_int (fun _ _ => rfl)) (pe_gi T.i_WORKS) (nomark _)) (pe_and (pe_cmp (pc_notN (pe_ix ix_tup (pv 1) pe_int (fun _ _ => rfl))) rfl) (pe_one (pe_mt g T.cl_Table hr (pe_fld (pv 0) rfl) (pa_cons (pe_ix ix_tup (pv 1) pe_int (fun _ _ => rfl)) pa_nil)))))), ?_⟩
    cases oo with
    | wt x =>
      obtain ⟨a, rfl, ha⟩ := ho
      refine ⟨_, rfl, a, _, _, _, rfl, rfl, .inl (.inl ha), rfl, rfl, _, rfl, iteFa (decide_eq_false fun z => by cases z) ?_⟩
      exact k H (Same.refl _)
    | wk now bef bes =>
      obtain ⟨a, rfl, ha⟩ := ho
      refine ⟨_, rfl, a, _, _, _, rfl, rfl, .inl (.inl ha), rfl, rfl, _, rfl, iteTr (decide_eq_true rfl) ?_⟩
      refine ⟨_, rfl, a, _, _, _, rfl, rfl, .inl (.inl ha), rfl, _, rfl, ?_⟩
      cases now with
      | none => exact iteFa rfl (k H (Same.refl _))
      | some n =>
        refine iteTr rfl ⟨_, rfl, p, _, dx, fs, _, rfl, h1, T.cl_OneWay, T.na_OneWay_row, h2, q, dq, fq, rfl, g1, g6, ?_⟩
        exact ⟨_, rfl, a, _, _, _, rfl, rfl, .inl (.inl ha), rfl, q, _, n, rfl, h3, rfl, True.intro, fun H' s1 => k H' s1⟩
theorem m_ow_next (T : Top K mg) {tab : Tab} {yes : List Int} {letters : Int} : Met P w K mg base 2 (cO K) "next" (spN (OneR P w K tab yes letters)) := by
  refine T.m_ow_next.met sc_ow_next (fun vs H Q E h => ?_) (fun f cdv A outer s H vs Q E hr h => ?_)
  · obtain ⟨p, l, o, r, lo, oo, ro, rfl, _⟩ := h
    rfl
  · obtain ⟨p, l, o, r, lo, oo, ro, rfl, ⟨dx, fs, q, h1, h2, h3, h4, h5, h6⟩, hl, ho, _, k⟩ := h
    obtain ⟨dq, fq, g1, _, _, _, g5, _⟩ := (TableR.ok (.inr rfl)).ins h3
    have g := m_tb_next (P := P) (w := w) (base := base) (tab := tab) (yes := yes) (ways := 2) (letters := letters) T (.inr rfl)
    refine ⟨_, pss_cons (ps_if (pt_cmpR op_eq (pe_ix ix_tup (pv 2) pe_int (fun _ _ => rfl)) (pe_gi T.i_WAITS) (nomark _))
        (pss_cons (ps_if (pt_cmp (pc_isN (pv 1)) rfl) (pss_one (ps_ret (pe_tup (pa_cons (pe_gi T.i_WORKS) (pa_cons (pe_ix ix_tup (pv 2) pe_int (fun _ _ => rfl)) (pa_cons pe_non (pa_cons pe_non pa_nil))))))) pss_nil)
        (pss_one (ps_ret (pe_ifExp (pt_cmpR op_eq (pe_ix ix_tup (pv 1) pe_int (fun _ _ => rfl)) (pe_gi T.i_WORKS) (nomark _))
          (pe_tup (pa_cons (pe_gi T.i_WORKS) (pa_cons (pe_ix ix_tup (pv 2) pe_int (fun _ _ => rfl)) (pa_cons pe_non (pa_cons (pe_ix ix_tup (pv 1) pe_int (fun _ _ => rfl)) pa_nil))))) (pv 2))))) pss_nil)
      (pss_cons (ps_if (PW.pt (pw_or (pt_cmp (pc_isN (pv 1)) rfl) (pw_or (pt_cmpR op_eq (pe_ix ix_tup (pv 1) pe_int (fun _ _ => rfl)) (pe_gi T.i_WAITS) (nomark _)) (pw_or1 (pt_cmp (pc_isN (pe_ix ix_tup (pv 1) pe_int (fun _ _ => rfl))) rfl)))))
        (pss_one (ps_ret (pe_tup (pa_cons (pe_gi T.i_WORKS) (pa_cons pe_non (pa_cons (pe_ix ix_tup (pv 2) pe_int (fun _ _ => rfl)) (pa_cons pe_non pa_nil))))))) pss_nil)
      (pss_one (ps_ret (pe_tup (pa_cons (pe_gi T.i_WORKS) (pa_cons (pe_mt g T.cl_Table hr (pe_fld (pv 0) rfl) (pa_cons (pe_ix ix_tup (pv 1) pe_int (fun _ _ => rfl)) (pa_cons (pe_ix ix_tup (pv 1) pe_int (fun _ _ => rfl)) (pa_cons (pe_ix ix_tup (pv 2) pe_int (fun _ _ => rfl)) pa_nil))))
        (pa_cons (pe_ix ix_tup (pv 2) pe_int (fun _ _ => rfl)) (pa_cons (pe_ix ix_tup (pv 1) pe_int (fun _ _ => rfl)) pa_nil)))))))), ?_⟩
    have l4 : 4 ≤ sizeLine := by decide
    cases oo with
    | wt x =>
      obtain ⟨a, rfl, ha⟩ := ho
      refine ⟨_, rfl, a, _, _, _, rfl, rfl, .inl (.inl ha), rfl, rfl, _, rfl, iteTr (decide_eq_true rfl) ?_⟩
      cases lo with
      | none =>
        obtain rfl : l = .non := hl
        refine ⟨_, rfl, _, rfl, iteTr rfl ?_⟩
        exact ⟨_, rfl, a, _, _, _, rfl, rfl, .inl (.inl ha), rfl, l4, fun t nt => k _ _ (Same.upd nt) ⟨t, rfl, upd_same⟩⟩
      | some lw =>
        cases lw with
        | wt y =>
          obtain ⟨b, rfl, hb⟩ := (show repOW H l (.wt y) from hl)
          refine ⟨_, rfl, _, rfl, iteFa rfl ?_⟩
          refine ⟨_, rfl, b, _, _, _, rfl, rfl, .inl (.inl hb), rfl, rfl, _, rfl, iteFa (decide_eq_false fun z => by cases z) ?_⟩
          exact ⟨_, rfl, k _ _ (Same.refl _) ⟨a, rfl, ha⟩⟩
        | wk n2 b2 s2 =>
          obtain ⟨b, rfl, hb⟩ := (show repOW H l (.wk n2 b2 s2) from hl)
          refine ⟨_, rfl, _, rfl, iteFa rfl ?_⟩
          refine ⟨_, rfl, b, _, _, _, rfl, rfl, .inl (.inl hb), rfl, rfl, _, rfl, iteTr (decide_eq_true rfl) ?_⟩
          exact ⟨_, rfl, a, _, _, _, rfl, rfl, .inl (.inl ha), rfl, _, rfl, b, _, _, _, rfl, rfl, .inl (.inl hb), rfl, l4, fun t nt => k _ _ (Same.upd nt) ⟨t, rfl, upd_same⟩⟩
    | wk now bef bes =>
      obtain ⟨a, rfl, ha⟩ := ho
      refine ⟨_, rfl, a, _, _, _, rfl, rfl, .inl (.inl ha), rfl, rfl, _, rfl, iteFa (decide_eq_false fun z => by cases z) ?_⟩
      have out : ∀ (Q' : VK), (∀ t, H t = none → Q' (.ref t) (upd H t (.tup [.int 1, .non, vO now, .non]))) → tTup (tCons (tC (.int 1)) (tCons (tC .non) (tCons (tOp (rIxT K) (tVar 2) (tC (.int 1))) (tCons (tC .non) tNil)))) [some (.ref p), some l, some (.ref a), some r] H Q' :=
        fun Q' hq => ⟨_, rfl, a, _, _, _, rfl, rfl, .inl (.inl ha), rfl, l4, fun t nt => hq t nt⟩
      cases lo with
      | none =>
        obtain rfl : l = .non := hl
        refine ⟨_, rfl, _, rfl, iteTr rfl (iteTr rfl ?_)⟩
        exact out _ fun t nt => k _ _ (Same.upd nt) ⟨t, rfl, upd_same⟩
      | some lw =>
        cases lw with
        | wt y =>
          obtain ⟨b, rfl, hb⟩ := (show repOW H l (.wt y) from hl)
          refine ⟨_, rfl, _, rfl, iteFa rfl ?_⟩
          refine ⟨_, rfl, b, _, _, _, rfl, rfl, .inl (.inl hb), rfl, rfl, _, rfl, iteTr (decide_eq_true rfl) (iteTr rfl ?_)⟩
          exact out _ fun t nt => k _ _ (Same.upd nt) ⟨t, rfl, upd_same⟩
        | wk n2 b2 s2 =>
          obtain ⟨b, rfl, hb⟩ := (show repOW H l (.wk n2 b2 s2) from hl)
          refine ⟨_, rfl, _, rfl, iteFa rfl ?_⟩
          refine ⟨_, rfl, b, _, _, _, rfl, rfl, .inl (.inl hb), rfl, rfl, _, rfl, iteFa (decide_eq_false fun z => by cases z) ?_⟩
          refine ⟨_, rfl, b, _, _, _, rfl, rfl, .inl (.inl hb), rfl, _, rfl, ?_⟩
          cases b2 with
          | none =>
            refine iteTr rfl ?_
            exact out _ fun t nt => k _ _ (Same.upd nt) ⟨t, rfl, upd_same⟩
          | some bv =>
            refine iteFa rfl ?_
            refine ⟨_, rfl, p, _, dx, fs, _, rfl, h1, T.cl_OneWay, T.na_OneWay_row, h2, q, dq, fq, rfl, g1, g5, ?_⟩
            refine ⟨_, rfl, b, _, _, _, rfl, rfl, .inl (.inl hb), rfl, _, rfl, b, _, _, _, rfl, rfl, .inl (.inl hb), rfl, _, rfl, a, _, _, _, rfl, rfl, .inl (.inl ha), rfl, ?_⟩
            refine ⟨q, _, _, _, s2, bv, now, rfl, h3, (by cases s2 <;> rfl), rfl, fun _ => (by cases now <;> rfl), fun v H' s1 (e : v = .int (f2 tab s2 bv now)) => ?_⟩
            subst e
            exact ⟨_, rfl, a, _, _, _, rfl, rfl, .inl (.inl (s1 _ _ ha)), rfl, _, rfl, b, _, _, _, rfl, rfl, .inl (.inl (s1 _ _ hb)), rfl, l4, fun t nt => k _ _ (s1.trans (Same.upd nt)) ⟨t, rfl, upd_same⟩⟩
theorem OneR.row (T : Top K mg) {tab : Tab} {yes : List Int} {letters : Int} : RowC P w K mg base (OneR P w K tab yes letters) where
  ok := OneR.ok
  cl := T.cl_OneWay
  isr := T.is_OneWay
  naw := T.na_OneWay_ways
  nal := T.na_OneWay_letters
  mb := (m_ow_begin T).mono (by decide)
  mn := (m_ow_next T).mono (by decide)
  ms := (m_ow_says T).mono (by decide)
end
end BR
set_option Elab.async false
set_option linter.all false
set_option maxRecDepth 100000
/-! The row of two ways that a table of one way makes. -/
namespace BR
open PySem PySem.Spec PyProof.Rows L2
def repAV (K : PySem.W.Frag) (H : Hp) (v : V) : AV → Prop
  | .it n => v = .int n
  | .no => v = .non
  | .be => ∃ z, v = .ref z ∧ SqT K H z []
theorem repAV.keep {K : PySem.W.Frag} {H H' : Hp} (k : Keep H H') {v : V} {a : AV} (h : repAV K H v a) : repAV K H' v a := by
  cases a with
  | it n => exact h
  | no => exact h
  | be => obtain ⟨z, e, h⟩ := h; exact ⟨z, e, k.seqT h⟩
def dAV : AV → PyData
  | .it n => .int n
  | .no => .none
  | .be => .tuple []
theorem repAV.dp {K : PySem.W.Frag} {H : Hp} {v : V} {a : AV} (h : repAV K H v a) : Dp K H v (dAV a) := by
  cases a with
  | it n => obtain rfl : v = .int n := h; exact .int n
  | no => obtain rfl : v = .non := h; exact .non
  | be => obtain ⟨z, rfl, h⟩ := h; exact .tup h .nil
theorem dAV_be (a : AV) : PyData.eqv (dAV a) (.tuple []) = decide (a = .be) := by cases a <;> rfl
theorem dAV_shaped (a : AV) : SeqAt.shaped (dAV a) = true := by cases a <;> rfl
theorem dAV_shaped3 (a b c : AV) : SeqAt.shaped (.tuple [dAV a, dAV b, dAV c]) = true := by cases a <;> cases b <;> cases c <;> rfl
def bsd (tab : Tab) (p q : AV) : Option Int := match q with
  | .it c => some (g1 tab p.opt c)
  | _ => none
def repTW (K : PySem.W.Frag) (H : Hp) (v : V) (x : AV × AV) : Prop := ∃ (t : Addr) (a b : V), v = .ref t ∧ H t = some (.tup [a, b]) ∧ repAV K H a x.1 ∧ repAV K H b x.2
abbrev TwoR (P : Program) (w : World) (K : PySem.W.Frag) (tab : Tab) (yes : List Int) (letters : Int) : RowM where
  W := AV × AV
  rep := repTW K
  ways := 2
  letters := letters
  C := cW K
  at_ := MadeAt (TableR P w K tab yes 1 letters) (cW K) 2
  bg := fun z => (AV.it z, AV.no)
  nx := nx2 (g1 tab)
  sy := fun x => match x.1 with
    | .it n => yesB yes (g1 tab x.2.opt n)
    | _ => false
  okS := fun x => (∃ n, x.1 = .it n) ∧ x.2 ≠ .be
theorem TwoR.ok {P : Program} {w : World} {K : PySem.W.Frag} {tab : Tab} {yes : List Int} {letters : Int} : (TwoR P w K tab yes letters).Ok where
  keepA := fun k h => h.keep (TableR.ok (.inl rfl)) k
  keepR := fun k ⟨t, a, b, e, h, h1, h2⟩ => ⟨t, a, b, e, k _ _ h (fun z e => nomatch e), h1.keep k, h2.keep k⟩
  ins := fun ⟨dx, fs, q, h1, h2, h3, h4, h5, h6⟩ => ⟨dx, fs, h1, h4, h5, h6⟩
  w12 := .inr rfl
  one := fun e => by cases (show (2 : Int) = 1 from e)
section
variable {P : Program} {w : World} {K : PySem.W.Frag} {mg : Str → Option Value} {base : Heap}
theorem k_tw (T : Top K mg) {tab : Tab} {yes : List Int} {letters : Int} : Mak P w K mg base 3 "TwoWays" (cW K) (spMade (TableR P w K tab yes 1 letters) (cW K) 2) := by
  refine T.k_tw_init.mak sc_tw_init (fun vs H Q E h => ?_) (fun f cdv A outer s H vs Q E hr h => ?_)
  · obtain ⟨p, q, dx, rfl, _⟩ := h
    rfl
  · obtain ⟨p, q, dx, rfl, hp, hpq, hq, hq', k⟩ := h
    have RC : RowC P w K mg base (TableR P w K tab yes 1 letters) := TableR.row T (.inl rfl)
    have g := c_need_row (P := P) (w := w) (base := base) T
    obtain ⟨dq0, fq0, h10, hw0, hl0, _⟩ := RC.ok.ins hq
    refine ⟨_, pss_cons (ps_expr (pe_c g hr (pa_cons (pv 1) pa_nil))) (pss_cons (ps_if (pt_cmpR op_ne (pe_fld (pv 1) rfl) (pe_gi T.i_ONE_WAY) (nomark _)) (pss_one ps_never) pss_nil)
      (pss_cons (ps_fld (pv 0) (pv 1) rfl) (pss_cons (ps_fld (pv 0) (pe_fld (pv 1) rfl) rfl) (pss_one (ps_fld (pv 0) (pe_gi T.i_TWO_WAYS) rfl))))), ?_⟩
    refine ⟨_, rfl, q, _, dq0, fq0, _, rfl, h10, RC.cl, RC.isr, ?_⟩
    refine ⟨_, rfl, q, _, dq0, fq0, _, rfl, h10, T.cl_Table, T.na_Table_ways, hw0, rfl, _, rfl, iteNS rfl ?_⟩
    refine ⟨_, rfl, _, rfl, p, _, dx, [], rfl, hp, T.cl_TwoWays, T.na_TwoWays_row, (by decide), ?_⟩
    have e1 : Mk1 p H (upd H p (.ins (cW K) dx (putF "row" (.ref q) []))) := fun b o e n => by rw [upd_ne n]; exact e
    obtain ⟨dq, fq, h1, hw, hl, _⟩ := RC.ok.ins (hq' _ e1)
    refine ⟨_, rfl, q, _, dq, fq, _, rfl, h1, T.cl_Table, T.na_Table_letters, hl, _, rfl, p, _, dx, _, rfl, upd_same, T.cl_TwoWays, T.na_TwoWays_letters, (by show 1 < 1000; decide), ?_⟩
    rw [upd_upd]
    refine ⟨_, rfl, p, _, dx, _, rfl, upd_same, T.cl_TwoWays, T.na_TwoWays_ways, Nat.lt_of_le_of_lt (lp (lp (Nat.le_refl 0))) (by decide), ?_⟩
    rw [upd_upd]
    have e2 : Mk1 p H (upd H p (.ins (cW K) dx (putF "ways" (.int 2) (putF "letters" (.int letters) (putF "row" (.ref q) []))))) := fun b o e n => by rw [upd_ne n]; exact e
    exact k _ e2 ⟨dx, _, q, upd_same, fs3_row _ _ _, hq' _ e2, fs3_ways _ _ _, fs3_let _ _ _, fs3 _ _ _ (by decide +kernel) (by decide +kernel) (by decide +kernel), fs3 _ _ _ (by decide +kernel) (by decide +kernel) (by decide +kernel), fs3 _ _ _ (by decide +kernel) (by decide +kernel) (by decide +kernel)⟩
theorem m_tw_begin (T : Top K mg) {tab : Tab} {yes : List Int} {letters : Int} : Met P w K mg base 2 (cW K) "begin" (spB (TwoR P w K tab yes letters)) := by
  refine T.m_tw_begin.met sc_tw_begin (fun vs H Q E h => ?_) (fun f cdv A outer s H vs Q E hr h => ?_)
  · obtain ⟨p, l, rfl, _⟩ := h
    rfl
  · obtain ⟨p, l, rfl, ⟨dx, fs, q, h1, h2, h3, h4, h5, h6⟩, k⟩ := h
    obtain ⟨dq, fq, g1, _, _, g4, _⟩ := (TableR.ok (.inl rfl)).ins h3
    have g := m_tb_begin (P := P) (w := w) (base := base) (tab := tab) (yes := yes) (ways := 1) (letters := letters) T
    refine ⟨_, pss_one (ps_ret (pe_tup (pa_cons (pe_mt g T.cl_Table hr (pe_fld (pv 0) rfl) (pa_cons (pv 1) pa_nil)) (pa_cons pe_non pa_nil)))), ?_⟩
    refine ⟨_, rfl, p, _, dx, fs, _, rfl, h1, T.cl_TwoWays, T.na_TwoWays_row, h2, q, dq, fq, rfl, g1, g4, _, rfl, q, l, rfl, h3, fun v H' s1 e => ?_⟩
    subst e
    exact ⟨(by show 2 ≤ sizeLine; decide), fun t nt => k _ _ (s1.trans (Same.upd nt)) ⟨t, _, _, rfl, upd_same, rfl, rfl⟩⟩
theorem opt_repO {tab : Tab} {yes : List Int} {letters : Int} {H : Hp} {v : V} {a : AV} (h : repAV K H v a) (n : a ≠ .be) : (TableR P w K tab yes 1 letters).repO H v a.opt := by
  cases a with
  | it n => exact h
  | no => exact h
  | be => exact absurd rfl n
def spTwo (P : Program) (w : World) (K : PySem.W.Frag) (tab : Tab) (yes : List Int) (letters : Int) : Sp := fun vs H Q _ => ∃ (t : Addr) (vp vq vx : V) (p q x : AV), vs = [.ref t, vp, vq, vx] ∧ (TableR P w K tab yes 1 letters).at_ H t ∧ repAV K H vp p ∧ repAV K H vq q ∧ repAV K H vx x ∧
  ∀ v H', Same H H' → repAV K H' v (two (g1 tab) p q x) → Q v H'
theorem c_two_ticks (T : Top K mg) {tab : Tab} {yes : List Int} {letters : Int} : Cal P w K mg base 2 "two_ticks" (spTwo P w K tab yes letters) [] := by
  refine T.d_two_ticks.cal sc_two_ticks (fun vs H Q E h => ?_) (fun f cdv A outer s H vs Q E hr h => ?_)
  · obtain ⟨t, vp, vq, vx, p, q, x, rfl, _⟩ := h
    rfl
  · obtain ⟨t, vp, vq, vx, p, q, x, rfl, ht, hp, hq, hx, k⟩ := h
    obtain ⟨dq, fq, i1, _, _, _, i5, _⟩ := (TableR.ok (.inl rfl)).ins ht
    have g := m_tb_next (P := P) (w := w) (base := base) (tab := tab) (yes := yes) (ways := 1) (letters := letters) T (.inl rfl)
    have hu : (A.deeper (envOfC "two_ticks" (defScope s_two_ticks) s.heap.objs.size f cdv)).units + 65 < cLine := by have := hr.un; omega
    refine ⟨_, pss_cons (ps_if (pt_cmpR (op_inT hu) (pe_glob (v := .ref (bA K)) rfl T.bey rfl) (pe_tup (pa_cons (pv 1) (pa_cons (pv 2) (pa_cons (pv 3) pa_nil)))) (by rfl)) (pss_one (ps_ret (pe_glob (v := .ref (bA K)) rfl T.bey rfl))) pss_nil)
      (pss_cons (ps_if (pt_cmp (pc_isN (pv 3)) rfl) (pss_one (ps_ret pe_non)) pss_nil)
      (pss_cons (ps_set (i := 4) sc_two_ticks.nd rfl (Or.inl rfl) (pe_ifExp (pt_cmp (pc_isN (pv 2)) rfl) pe_non (pe_mt g T.cl_Table hr (pv 0) (pa_cons (pv 1) (pa_cons (pv 2) (pa_cons pe_non pa_nil))))))
      (pss_one (ps_ret (pe_mt g T.cl_Table hr (pv 0) (pa_cons (pv 4) (pa_cons (pe_mt g T.cl_Table hr (pv 0) (pa_cons (pv 2) (pa_cons (pv 3) (pa_cons pe_non pa_nil)))) (pa_cons pe_non pa_nil)))))))), ?_⟩
    refine ⟨_, rfl, _, rfl, _, rfl, (by show 3 ≤ sizeLine; decide), fun a na => ?_⟩
    have s1 := Same.upd (o := .tup [vp, vq, vx]) na
    have k1 := Keep.of s1
    refine ⟨.tuple [], [dAV p, dAV q, dAV x], .tup (T.beyT _) .nil, .tup (.inl (.inl upd_same)) (.cons (hp.keep k1).dp (.cons (hq.keep k1).dp (.cons (hx.keep k1).dp .nil))), rfl, dAV_shaped3 p q x, _, rfl, ?_⟩
    have ea : ([dAV p, dAV q, dAV x].any fun z => PyData.eqv z (.tuple [])) = decide (p = .be ∨ q = .be ∨ x = .be) := by
      show (PyData.eqv (dAV p) (.tuple []) || (PyData.eqv (dAV q) (.tuple []) || (PyData.eqv (dAV x) (.tuple []) || false))) = _
      rw [dAV_be, dAV_be, dAV_be]
      by_cases h1 : p = .be <;> by_cases h2 : q = .be <;> by_cases h3 : x = .be <;> simp [h1, h2, h3]
    by_cases hb : p = .be ∨ q = .be ∨ x = .be
    · refine iteTr (ea.trans (decide_eq_true hb)) ?_
      refine k _ _ s1 ?_
      unfold two
      rw [if_pos hb]
      exact ⟨_, rfl, T.beyT _⟩
    · refine iteFa (ea.trans (decide_eq_false hb)) ?_
      have np : p ≠ .be := fun e => hb (.inl e)
      have nq : q ≠ .be := fun e => hb (.inr (.inl e))
      cases x with
      | be => exact absurd (.inr (.inr rfl)) hb
      | no =>
        obtain rfl : vx = .non := hx
        refine ⟨_, rfl, _, rfl, iteTr rfl ?_⟩
        refine k _ _ s1 ?_
        unfold two
        rw [if_neg hb]
        exact rfl
      | it z =>
        obtain rfl : vx = .int z := hx
        refine ⟨_, rfl, _, rfl, iteFa rfl ?_⟩
        have ek : ∀ bs : Option Int, bs = bsd tab p q → two (g1 tab) p q (.it z) = .it (g1 tab bs (g1 tab q.opt z)) := fun bs e => by
          subst e
          unfold two
          rw [if_neg hb]
          cases q <;> rfl
        have rest : ∀ (bs : Option Int) (vb : V) (H1 : Hp), bs = bsd tab p q → vb = vO bs → Same H H1 → ∀ σ : L2.St, σ = [some (.ref t), some vp, some vq, some (.int z), some vb] →
            tMeth (cT K) "next" (spN (TableR P w K tab yes 1 letters)) [] E0 (tVar 0) (tCons (tVar 4) (tCons (tMeth (cT K) "next" (spN (TableR P w K tab yes 1 letters)) [] E0 (tVar 0) (tCons (tVar 2) (tCons (tVar 3) (tCons (tC .non) tNil)))) (tCons (tC .non) tNil))) σ H1 Q := by
          intro bs vb H1 eb ev s2 σ es
          subst es ev
          have kk := Keep.of s2
          refine ⟨_, rfl, t, dq, fq, rfl, s2 _ _ i1, i5, _, rfl, _, rfl, t, dq, fq, rfl, s2 _ _ i1, i5, _, rfl, _, rfl, t, _, _, _, q.opt, z, none, rfl, (TableR.ok (.inl rfl)).keepA kk ht, opt_repO (hq.keep kk) nq, rfl, (fun e => by cases (show (1 : Int) = 2 from e)), fun v H2 s3 (e : v = .int (g1 tab q.opt z)) => ?_⟩
          subst e
          have k3 := Keep.of (s2.trans s3)
          refine ⟨t, _, _, _, bs, g1 tab q.opt z, none, rfl, (TableR.ok (.inl rfl)).keepA k3 ht, (by cases bs <;> rfl), rfl, (fun e => by cases (show (1 : Int) = 2 from e)), fun v H4 s4 (e : v = .int (g1 tab bs (g1 tab q.opt z))) => ?_⟩
          refine k v H4 ((s2.trans s3).trans s4) ?_
          rw [ek bs eb]
          exact e
        cases q with
        | be => exact absurd rfl nq
        | no =>
          obtain rfl : vq = .non := hq
          refine ⟨_, rfl, _, rfl, iteTr rfl ?_⟩
          exact rest none _ _ rfl rfl s1 _ rfl
        | it c =>
          obtain rfl : vq = .int c := hq
          refine ⟨_, rfl, _, rfl, iteFa rfl ?_⟩
          refine ⟨_, rfl, t, dq, fq, rfl, s1 _ _ i1, i5, _, rfl, _, rfl, t, _, _, _, p.opt, c, none, rfl, (TableR.ok (.inl rfl)).keepA k1 ht, opt_repO (hp.keep k1) np, rfl, (fun e => by cases (show (1 : Int) = 2 from e)), fun v H2 s3 (e : v = .int (g1 tab p.opt c)) => ?_⟩
          exact rest (some (g1 tab p.opt c)) v H2 rfl e (s1.trans s3) _ rfl
theorem m_tw_says (T : Top K mg) {tab : Tab} {yes : List Int} {letters : Int} : Met P w K mg base 2 (cW K) "says" (spS (TwoR P w K tab yes letters)) := by
  refine T.m_tw_says.met sc_tw_says (fun vs H Q E h => ?_) (fun f cdv A outer s H vs Q E hr h => ?_)
  · obtain ⟨p, l, l2, rfl, _⟩ := h
    rfl
  · obtain ⟨p, o, ⟨he, fo⟩, rfl, ⟨dx, fs, q, h1, h2, h3, h4, h5, h6⟩, ⟨a, va, vb, rfl, ha, ra, rb⟩, ⟨⟨n, hn⟩, hf⟩, k⟩ := h
    obtain rfl : he = .it n := hn
    obtain rfl : va = .int n := ra
    obtain ⟨dq, fq, i1, _, _, _, i5, i6⟩ := (TableR.ok (.inl rfl)).ins h3
    have g := m_tb_says (P := P) (w := w) (base := base) (tab := tab) (yes := yes) (ways := 1) (letters := letters) T
    have gn := m_tb_next (P := P) (w := w) (base := base) (tab := tab) (yes := yes) (ways := 1) (letters := letters) T (.inl rfl)
    refine ⟨_, pss_cons (ps_asg (pv 1) (pg_tup rfl (pgs_cons (pg_name (i := 2) sc_tw_says.nd rfl (Or.inl rfl)) (pgs_cons (pg_name (i := 3) sc_tw_says.nd rfl (Or.inl rfl)) pgs_nil))))
      (pss_one (ps_ret (pe_and (pe_cmpR (op_neD hr.units) (pv 2) (pe_glob (v := .ref (bA K)) rfl T.bey rfl) (nomark _)) (pe_one (pe_mt g T.cl_Table hr (pe_fld (pv 0) rfl) (pa_cons (pe_mt gn T.cl_Table hr (pe_fld (pv 0) rfl) (pa_cons (pv 3) (pa_cons (pv 2) (pa_cons pe_non pa_nil)))) pa_nil)))))), ?_⟩
    refine ⟨_, rfl, a, _, rfl, .inl (.inl ha), rfl, _, _, rfl, _, _, rfl, rfl, ?_⟩
    refine ⟨_, rfl, .int n, .tuple [], .int n, .tup (T.beyT _) .nil, rfl, rfl, _, rfl, iteTr rfl ?_⟩
    refine ⟨_, rfl, p, _, dx, fs, _, rfl, h1, T.cl_TwoWays, T.na_TwoWays_row, h2, q, dq, fq, rfl, i1, i6, ?_⟩
    refine ⟨_, rfl, p, _, dx, fs, _, rfl, h1, T.cl_TwoWays, T.na_TwoWays_row, h2, q, dq, fq, rfl, i1, i5, ?_⟩
    refine ⟨_, rfl, _, rfl, q, _, _, _, fo.opt, n, none, rfl, h3, opt_repO rb hf, rfl, (fun e => by cases (show (1 : Int) = 2 from e)), fun v H2 s2 (e : v = .int (g1 tab fo.opt n)) => ?_⟩
    subst e
    exact ⟨q, _, g1 tab fo.opt n, rfl, (TableR.ok (.inl rfl)).keepA (Keep.of s2) h3, rfl, True.intro, fun H3 s3 => k H3 (s2.trans s3)⟩
theorem m_tw_next (T : Top K mg) {tab : Tab} {yes : List Int} {letters : Int} : Met P w K mg base 3 (cW K) "next" (spN (TwoR P w K tab yes letters)) := by
  refine T.m_tw_next.met sc_tw_next (fun vs H Q E h => ?_) (fun f cdv A outer s H vs Q E hr h => ?_)
  · obtain ⟨p, l, o, r, lo, oo, ro, rfl, _⟩ := h
    rfl
  · obtain ⟨p, l, o, r, lo, ⟨he, fo⟩, ro, rfl, ⟨dx, fs, q, h1, h2, h3, h4, h5, h6⟩, hl, ⟨a, va, vb, rfl, ha, ra, rb⟩, hro, k⟩ := h
    have hro := hro rfl
    have g := c_two_ticks (P := P) (w := w) (base := base) (tab := tab) (yes := yes) (letters := letters) T
    refine ⟨_, pss_cons (ps_asg (pv 2) (pg_tup rfl (pgs_cons (pg_name (i := 4) sc_tw_next.nd rfl (Or.inl rfl)) (pgs_cons (pg_name (i := 5) sc_tw_next.nd rfl (Or.inl rfl)) pgs_nil))))
      (pss_cons (ps_asg (pe_ifExp (pt_cmp (pc_isN (pv 1)) rfl) (pe_tup (pa_cons (pv 5) (pa_cons (pv 4) pa_nil))) (pv 1)) (pg_tup rfl (pgs_cons (pg_name (i := 6) sc_tw_next.nd rfl (Or.inl rfl)) (pgs_cons (pg_name (i := 7) sc_tw_next.nd rfl (Or.inl rfl)) pgs_nil))))
      (pss_cons (ps_asg (pe_ifExp (pt_cmp (pc_isN (pv 3)) rfl) (pe_tup (pa_cons (pe_glob (v := .ref (bA K)) rfl T.bey rfl) (pa_cons pe_non pa_nil))) (pv 3)) (pg_tup rfl (pgs_cons (pg_name (i := 8) sc_tw_next.nd rfl (Or.inl rfl)) (pgs_cons (pg_name (i := 9) sc_tw_next.nd rfl (Or.inl rfl)) pgs_nil))))
      (pss_one (ps_ret (pe_tup (pa_cons (pe_c g hr (pa_cons (pe_fld (pv 0) rfl) (pa_cons (pv 6) (pa_cons (pv 4) (pa_cons (pv 8) pa_nil))))) (pa_cons (pe_c g hr (pa_cons (pe_fld (pv 0) rfl) (pa_cons (pv 9) (pa_cons (pv 5) (pa_cons (pv 7) pa_nil))))) pa_nil))))))), ?_⟩
    have l2 : 2 ≤ sizeLine := by decide
    refine ⟨_, rfl, a, _, rfl, .inl (.inl ha), rfl, _, _, rfl, _, _, rfl, rfl, ?_⟩
    have fin : ∀ (vbef vbeh vaft vdee : V) (bef beh aft dee : AV) (H1 : Hp), Same H H1 → repAV K H1 vbef bef → repAV K H1 vbeh beh → repAV K H1 vaft aft → repAV K H1 vdee dee → (two (g1 tab) bef he aft, two (g1 tab) dee fo beh) = nx2 (g1 tab) lo (he, fo) ro →
        ∀ σ : L2.St, σ = [some (.ref p), some l, some (.ref a), some r, some va, some vb, some vbef, some vbeh, some vaft, some vdee] →
        tTup (tCons (tCall (spTwo P w K tab yes letters) [] E0 (tCons (tFld K (tVar 0) "row") (tCons (tVar 6) (tCons (tVar 4) (tCons (tVar 8) tNil))))) (tCons (tCall (spTwo P w K tab yes letters) [] E0 (tCons (tFld K (tVar 0) "row") (tCons (tVar 9) (tCons (tVar 5) (tCons (tVar 7) tNil))))) tNil)) σ H1 Q := by
      intro vbef vbeh vaft vdee bef beh aft dee H1 s1 r1 r2 r3 r4 en σ es
      subst es
      have k1 := Keep.of s1
      refine ⟨_, rfl, p, _, dx, fs, _, rfl, s1 _ _ h1, T.cl_TwoWays, T.na_TwoWays_row, h2, _, rfl, _, rfl, _, rfl, q, _, _, _, bef, he, aft, rfl, (TableR.ok (.inl rfl)).keepA k1 h3, r1, ra.keep k1, r3, fun v2 H2 s2 rv => ?_⟩
      have k2 := Keep.of s2
      refine ⟨_, rfl, p, _, dx, fs, _, rfl, s2 _ _ (s1 _ _ h1), T.cl_TwoWays, T.na_TwoWays_row, h2, _, rfl, _, rfl, _, rfl, q, _, _, _, dee, fo, beh, rfl, (TableR.ok (.inl rfl)).keepA (k1.trans k2) h3, r4.keep k2, rb.keep (k1.trans k2), r2.keep k2, fun v3 H3 s3 rw3 => ?_⟩
      refine ⟨l2, fun t nt => ?_⟩
      have k4 := Keep.of (Same.upd (o := .tup [v2, v3]) nt)
      refine k _ _ (((s1.trans s2).trans s3).trans (Same.upd nt)) ?_
      show repTW K _ _ (nx2 (g1 tab) lo (he, fo) ro)
      rw [← en]
      exact ⟨t, v2, v3, rfl, upd_same, (rv.keep (Keep.of s3)).keep k4, rw3.keep k4⟩
    cases lo with
    | none =>
      obtain rfl : l = .non := hl
      refine ⟨_, rfl, _, rfl, iteTr rfl ⟨_, rfl, _, rfl, l2, fun t nt => ?_⟩⟩
      have s1 := Same.upd (o := .tup [vb, va]) nt
      have k1 := Keep.of s1
      refine ⟨t, _, rfl, .inl (.inl upd_same), rfl, _, _, rfl, _, _, rfl, rfl, ?_⟩
      cases ro with
      | none =>
        obtain rfl : r = .non := hro
        refine ⟨_, rfl, _, rfl, iteTr rfl ⟨l2, fun t2 nt2 => ?_⟩⟩
        have s2 := Same.upd (o := .tup [V.ref (bA K), .non]) nt2
        have k2 := Keep.of s2
        refine ⟨t2, _, rfl, .inl (.inl upd_same), rfl, _, _, rfl, _, _, rfl, rfl, ?_⟩
        exact fin _ _ _ _ fo he .be .no _ (s1.trans s2) (rb.keep (k1.trans k2)) (ra.keep (k1.trans k2)) ⟨_, rfl, T.beyT _⟩ rfl rfl _ rfl
      | some rw =>
        obtain ⟨c, vc, vd, rfl, hc, rc, rd⟩ := (show repTW K H r rw from hro)
        refine ⟨_, rfl, _, rfl, iteFa rfl ⟨_, rfl, c, _, rfl, .inl (.inl (s1 _ _ hc)), rfl, _, _, rfl, _, _, rfl, rfl, ?_⟩⟩
        exact fin _ _ _ _ fo he rw.1 rw.2 _ s1 (rb.keep k1) (ra.keep k1) (rc.keep k1) (rd.keep k1) rfl _ rfl
    | some lw =>
      obtain ⟨b, vbe, vbh, rfl, hb, rbe, rbh⟩ := (show repTW K H l lw from hl)
      refine ⟨_, rfl, _, rfl, iteFa rfl ⟨_, rfl, b, _, rfl, .inl (.inl hb), rfl, _, _, rfl, _, _, rfl, rfl, ?_⟩⟩
      cases ro with
      | none =>
        obtain rfl : r = .non := hro
        refine ⟨_, rfl, _, rfl, iteTr rfl ⟨l2, fun t2 nt2 => ?_⟩⟩
        have s2 := Same.upd (o := .tup [V.ref (bA K), .non]) nt2
        have k2 := Keep.of s2
        refine ⟨t2, _, rfl, .inl (.inl upd_same), rfl, _, _, rfl, _, _, rfl, rfl, ?_⟩
        exact fin _ _ _ _ lw.1 lw.2 .be .no _ s2 (rbe.keep k2) (rbh.keep k2) ⟨_, rfl, T.beyT _⟩ rfl rfl _ rfl
      | some rw =>
        obtain ⟨c, vc, vd, rfl, hc, rc, rd⟩ := (show repTW K H r rw from hro)
        refine ⟨_, rfl, _, rfl, iteFa rfl ⟨_, rfl, c, _, rfl, .inl (.inl hc), rfl, _, _, rfl, _, _, rfl, rfl, ?_⟩⟩
        exact fin _ _ _ _ lw.1 lw.2 rw.1 rw.2 _ (Same.refl _) rbe rbh rc rd rfl _ rfl
theorem TwoR.row (T : Top K mg) {tab : Tab} {yes : List Int} {letters : Int} : RowC P w K mg base (TwoR P w K tab yes letters) where
  ok := TwoR.ok
  cl := T.cl_TwoWays
  isr := T.is_TwoWays
  naw := T.na_TwoWays_ways
  nal := T.na_TwoWays_letters
  mb := (m_tw_begin T).mono (by decide)
  mn := (m_tw_next T).mono (by decide)
  ms := (m_tw_says T).mono (by decide)
end
end BR
set_option Elab.async false
set_option linter.all false
set_option maxRecDepth 100000
/-! What the program runs of a row: begun, ticked, worth_in, said_in, told_in, told. -/
namespace BR
open PySem PySem.Spec PyProof.Rows L2
namespace RowM
def seat (R : RowM) (n : Nat) : Nat := if R.ways = 1 then n - 1 else 0
def due (R : RowM) (n : Nat) : Nat := if R.ways = 1 then 2 * n - 1 else n - 1
def last (R : RowM) (ns : List Int) : Option R.W := (tks R.nx (R.due ns.length) (ns.map R.bg))[R.seat ns.length]?
def tell (R : RowM) (ns : List Int) : Bool := match R.last ns with
  | some x => R.sy x
  | none => false
def fine (R : RowM) (ns : List Int) : Prop := ∀ x, R.last ns = some x → R.okS x
end RowM
theorem RowM.seat_lt (R : RowM) {n : Nat} (h : 1 ≤ n) : R.seat n < n := by
  unfold RowM.seat
  split <;> omega
/-- the i-th of out stands for the i-th of ws -/
def RelW (R : RowM) (ws : List R.W) : Nat → Hp → V → Prop := fun i H v => ∃ x, ws[i]? = some x ∧ R.rep H v x
theorem RelW.stab {R : RowM} (ok : R.Ok) {ws : List R.W} (i : Nat) (H H' : Hp) (v : V) (k : Keep H H') : RelW R ws i H v → RelW R ws i H' v := fun ⟨x, h1, h2⟩ => ⟨x, h1, ok.keepR k h2⟩
theorem reps_of {R : RowM} {ws : List R.W} {H : Hp} {out : List V} (hl : out.length = ws.length) (hr : ∀ (i : Nat) (v : V), out[i]? = some v → RelW R ws i H v) : R.Reps H out ws := by
  refine ⟨hl, fun i x e => ?_⟩
  obtain ⟨h1, _⟩ := List.getElem?_eq_some_iff.mp e
  have h2 : i < out.length := by omega
  obtain ⟨x', e1, e2⟩ := hr i out[i] (List.getElem?_eq_getElem h2)
  rw [e] at e1
  cases e1
  exact ⟨_, List.getElem?_eq_getElem h2, e2⟩
section
variable {P : Program} {w : World} {K : PySem.W.Frag} {mg : Str → Option Value} {base : Heap}
def spBegun (K : PySem.W.Frag) (R : RowM) : Sp := fun vs H Q _ => ∃ (p a : Addr) (ns : List Int), vs = [.ref p, .ref a] ∧ R.at_ H p ∧ H a = some (.tup (ns.map V.int)) ∧ ns.length ≤ 200 ∧
  ∀ (t : Addr) (out : List V) (H' : Hp), Same H H' → H' t = some (.tup out) → R.Reps H' out (ns.map R.bg) → Q (.ref t) H'
theorem c_begun (T : Top K mg) {R : RowM} (RC : RowC P w K mg base R) : Cal P w K mg base 4 "begun" (spBegun K R) [] := by
  refine T.d_begun.cal sc_begun (fun vs H Q E h => ?_) (fun f cdv A outer s H vs Q E hr h => ?_)
  · obtain ⟨i, a, b, rfl, _⟩ := h
    rfl
  · obtain ⟨p, a, ns, rfl, hp, ha, hl, q⟩ := h
    refine ⟨_, pss_one (ps_ret (pe_callTy call_tuple_of rfl T.f_tuple b_tuple (pa_cons (pe_lc (own := [("letter", 2)]) (g := gName 2) (tt := tYes) rfl sc_begun.nd (pi_tup (pv 1)) (blkOk_by (N := ["row", "word", "letter"]) (sc := defScope s_begun) (by decide +kernel))
        (fun _ _ _ _ _ => pg_name (i := 2) sc_begun.nd rfl (Or.inl rfl)) (fun _ _ _ _ _ => pts_nil) (fun _ _ _ _ _ => pe_mt RC.mb RC.cl hr (pv 0) (pa_cons (pv 2) pa_nil))) pa_nil))), ?_⟩
    refine ⟨_, rfl, a, rfl, ⟨_, .inl (.inl ha)⟩, fun D nD => lc_same (walk_tup (K := K) (xs := ns.map V.int)) nD (RelW R (ns.map R.bg)) (by rw [List.length_map]; omega) (fun H3 s3 => .inl (.inl (s3 _ _ ha))) (fun i H H' v => RelW.stab RC.ok i H H' v) (fun i x Hc Hc' hi sc y => ?_) fun H3 out s3 hD hlen hr => ?_⟩
    · obtain ⟨rfl, hx⟩ := y
      refine ⟨Same.refl _, fun Q' hq => ?_⟩
      obtain ⟨n, hn, rfl⟩ := map_get hx
      have hp' := RC.ok.keepA (Keep.of sc) hp
      obtain ⟨dx, fs, i1, _, _, i4, _⟩ := RC.ok.ins hp'
      refine ⟨rfl, _, rfl, p, dx, fs, rfl, i1, i4, _, rfl, p, n, rfl, hp', fun v H4 s4 rv => hq v H4 s4 ⟨_, ?_, rv⟩⟩
      rw [List.getElem?_map, hn]
      rfl
    · refine ⟨D, out, rfl, .inl ⟨.inl (.inl hD), fun l nl => ?_⟩⟩
      have sl := Same.upd (o := .tup out) nl
      refine q l out _ (s3.trans sl) upd_same (reps_of (by rw [hlen, List.length_map, List.length_map]) fun i v e => RelW.stab RC.ok i _ _ v (Keep.of sl) (hr i v e))
def spTicked (K : PySem.W.Frag) (R : RowM) : Sp := fun vs H Q _ => ∃ (p a : Addr) (us : List V) (ws : List R.W), vs = [.ref p, .ref a, .int 0, .int 0] ∧ R.at_ H p ∧ H a = some (.tup us) ∧ R.Reps H us ws ∧ ws.length ≤ 200 ∧
  ∀ (t : Addr) (out : List V) (H' : Hp), Same H H' → H' t = some (.tup out) → R.Reps H' out (tk R.nx ws) → Q (.ref t) H'
theorem beside_l {R : RowM} {H : Hp} {us : List V} {ws : List R.W} (r : R.Reps H us ws) {i : Nat} (hi : i < ws.length) : ∃ v, (.non :: (us ++ [V.non]))[i]? = some v ∧ R.repO H v (prevO ws i) := by
  cases i with
  | zero => exact ⟨.non, rfl, rfl⟩
  | succ j =>
    obtain ⟨v, x, h1, h2, h3⟩ := r.get (i := j) (by omega)
    have hl := r.1
    refine ⟨v, ?_, ?_⟩
    · show (us ++ [V.non])[j]? = some v
      rw [List.getElem?_append_left (by omega)]
      exact h1
    · rw [prevO_succ, h2]
      exact h3
theorem beside_r {R : RowM} {H : Hp} {us : List V} {ws : List R.W} (r : R.Reps H us ws) {i : Nat} (hi : i < ws.length) : ∃ v, (.non :: (us ++ [V.non]))[i + 2]? = some v ∧ R.repO H v ws[i + 1]? := by
  have hl := r.1
  show ∃ v, (us ++ [V.non])[i + 1]? = some v ∧ _
  by_cases h : i + 1 < ws.length
  · obtain ⟨v, x, h1, h2, h3⟩ := r.get h
    refine ⟨v, ?_, ?_⟩
    · rw [List.getElem?_append_left (by omega)]
      exact h1
    · rw [h2]
      exact h3
  · refine ⟨.non, ?_, ?_⟩
    · rw [List.getElem?_append_right (by omega), show i + 1 - us.length = 0 by omega]
      rfl
    · rw [List.getElem?_eq_none (by omega)]
      rfl
theorem at_i {xs : List V} {i : Nat} {v : V} (h : xs[i]? = some v) : atI xs (0 + (i : Int)) = some v := by
  rw [Int.zero_add]
  exact atI_nat h
theorem at_i2 {xs : List V} {i : Nat} {v : V} (h : xs[i + 2]? = some v) : atI xs (0 + (i : Int) + 2) = some v := by
  rw [Int.zero_add]
  exact atI_nat (j := i + 2) h
theorem c_ticked (T : Top K mg) {R : RowM} (RC : RowC P w K mg base R) : Cal P w K mg base 4 "ticked" (spTicked K R) [] := by
  obtain ⟨f, fd, ds, F, hm, kp, b, d⟩ := T.d_ticked.ex
  obtain ⟨ds2, hv, hb⟩ := FunD.binds1 (ps := ["row", "worths", "low", "high"]) F 4 2 (by intro z; cases z) rfl (fun T _ _ _ _ _ _ us its hl hl2 => match us, its, hl, hl2 with | [_, _, _, _], [_, _], _, _ => ⟨_, rfl, rfl⟩)
  cases hv
  refine ⟨f, fd, _, [], ?_, hm, kp, hb, .nil⟩
  refine FunD.ok0 F sc_ticked (fun vs H Q E h => ?_) (fun cdv A outer s H vs Q E hr h => ?_)
  · obtain ⟨i, a, b, c, rfl, _⟩ := h
    rfl
  · obtain ⟨p, a, us, ws, rfl, hp, ha, hre, hl, q⟩ := h
    have hl1 := hre.1
    have sz := sizeLine_eq
    refine ⟨_, pss_cons (ps_set (i := 4) sc_ticked.nd rfl (by first | exact Or.inl rfl | exact Or.inr rfl) (pe_tup (pa_cons pe_non (StX.pa_star (pv 1) (pa_cons pe_non pa_nil)))))
      (pss_cons (ps_set (i := 5) sc_ticked.nd rfl (by first | exact Or.inl rfl | exact Or.inr rfl) (pe_callTy cr_range2 rfl T.f_range b_range (pa_cons (pv 2) (pa_cons (pe_op op_sub (pe_callB call_len_seq rfl T.f_len b_len (pa_cons (pv 1) pa_nil)) (pv 3)) pa_nil))))
      (pss_cons (ps_if (pt_cmpR op_eq (pe_fld (pv 0) rfl) (pe_gi T.i_ONE_WAY) (nomark _))
        (pss_one (ps_ret (pe_callTy call_tuple_of rfl T.f_tuple b_tuple (pa_cons (pe_lc (own := [("at", 6)]) (g := gName 6) (tt := tYes) rfl sc_ticked.nd (pi_rng (pv 5)) (blkOk_by (N := ["row", "worths", "low", "high", "beside", "cells", "at"]) (sc := defScope s_ticked) (by decide +kernel))
          (fun _ _ _ _ _ => pg_name (i := 6) sc_ticked.nd rfl (Or.inl rfl)) (fun _ _ _ _ _ => pts_nil) (fun _ _ _ _ _ => pe_mt RC.mn RC.cl hr (pv 0) (pa_cons (pe_ix (r := rIxT K) ix_tup (pv 4) (pv 6) (fun _ _ => rfl)) (pa_cons (pe_ix (r := rIxT K) ix_tup (pv 1) (pv 6) (fun _ _ => rfl)) (pa_cons pe_non pa_nil))))) pa_nil)))) pss_nil)
      (pss_one (ps_ret (pe_callTy call_tuple_of rfl T.f_tuple b_tuple (pa_cons (pe_lc (own := [("at", 6)]) (g := gName 6) (tt := tYes) rfl sc_ticked.nd (pi_rng (pv 5)) (blkOk_by (N := ["row", "worths", "low", "high", "beside", "cells", "at"]) (sc := defScope s_ticked) (by decide +kernel))
          (fun _ _ _ _ _ => pg_name (i := 6) sc_ticked.nd rfl (Or.inl rfl)) (fun _ _ _ _ _ => pts_nil) (fun _ _ _ _ _ => pe_mt RC.mn RC.cl hr (pv 0) (pa_cons (pe_ix (r := rIxT K) ix_tup (pv 4) (pv 6) (fun _ _ => rfl)) (pa_cons (pe_ix (r := rIxT K) ix_tup (pv 1) (pv 6) (fun _ _ => rfl)) (pa_cons (pe_ix (r := rIxT K) ix_tup (pv 4) (pe_op op_add (pv 6) pe_int) (fun _ _ => rfl)) pa_nil))))) pa_nil)))))), ?_⟩
    refine ⟨_, rfl, a, us, rfl, .inl (.inl (.inl ha)), (by show (us ++ [V.non]).length + 1 ≤ sizeLine; rw [List.length_append]; show us.length + 1 + 1 ≤ sizeLine; omega), fun b nb => ?_⟩
    have s1 := Same.upd (o := .tup (.non :: (us ++ [V.non]))) nb
    refine ⟨_, rfl, _, rfl, a, us, rfl, .inr (.inl (.inl (s1 _ _ ha))), _, rfl, _, _, rfl, rfl, _, _, rfl, fun c nc => ?_⟩
    have s2 := s1.trans (Same.upd (o := .rng 0 ((us.length : Int) - 0)) nc)
    have hp2 := RC.ok.keepA (Keep.of s2) hp
    obtain ⟨dx, fs, i1, i2, _⟩ := RC.ok.ins hp2
    refine ⟨_, rfl, p, _, dx, fs, _, rfl, i1, RC.cl, RC.naw, i2, rfl, _, rfl, ?_⟩
    generalize hH2 : upd (upd H b (.tup (.non :: (us ++ [V.non])))) c (.rng 0 ((us.length : Int) - 0)) = H2 at *
    have hc2 : H2 c = some (.rng 0 ((us.length : Int) - 0)) := by rw [← hH2]; exact upd_same
    have hb2 : H2 b = some (.tup (.non :: (us ++ [V.non]))) := by rw [← hH2]; exact (Same.upd nc) _ _ upd_same
    have hlt : (((us.length : Int) - 0) - 0).toNat = ws.length := by omega
    have fin : ∀ D, H2 D = none → ∀ (H3 : Hp) (out : List V), Same H2 H3 → H3 D = some (.lst out) → out.length = ws.length → (∀ (i : Nat) (v : V), out[i]? = some v → RelW R (tk R.nx ws) i H3 v) →
        (∃ p ys, [V.ref D] = [.ref p] ∧ ((SqL K H3 p ys ∧ ∀ l, H3 l = none → Q (.ref l) (upd H3 l (.tup ys))) ∨ (SqT K H3 p ys ∧ Q (.ref p) H3))) := by
      intro D nD H3 out s3 hD hlen hr
      refine ⟨D, out, rfl, .inl ⟨.inl (.inl hD), fun l nl => ?_⟩⟩
      have sl := Same.upd (o := .tup out) nl
      exact q l out _ ((s2.trans s3).trans sl) upd_same (reps_of (by rw [hlen, tk_len]) fun i v e => RelW.stab RC.ok i _ _ v (Keep.of sl) (hr i v e))
    have turn : ∀ (i : Nat) (Hc : Hp) (l o r : V), i < ws.length → Same H2 Hc → R.repO Hc l (prevO ws i) → (∃ x, ws[i]? = some x ∧ R.rep Hc o x) → (R.ways = 2 → R.repO Hc r ws[i + 1]?) → ∀ Q' : VK, (∀ y H4, Same Hc H4 → RelW R (tk R.nx ws) i H4 y → Q' y H4) →
        ∃ (a : Addr) (dx : Addr) (fs : List (Str × V)), V.ref p = .ref a ∧ Hc a = some (.ins R.C dx fs) ∧ fs.lookup ("next" : Str) = none ∧ spN R [.ref p, l, o, r] Hc Q' E0 := by
      intro i Hc l o r hi sc rl ⟨x, hx, ro⟩ rr Q' hq
      have hp3 := RC.ok.keepA (Keep.of sc) hp2
      obtain ⟨dx, fs, j1, _, _, _, j5, _⟩ := RC.ok.ins hp3
      refine ⟨p, dx, fs, rfl, j1, j5, p, l, o, r, prevO ws i, x, ws[i + 1]?, rfl, hp3, rl, ro, rr, fun v H4 s4 rv => hq v H4 s4 ⟨_, ?_, rv⟩⟩
      rw [tk_get, hx]
      rfl
    by_cases h1 : R.ways = 1
    · refine iteTr (by rw [h1]; rfl) ?_
      refine ⟨_, rfl, c, _, _, rfl, hc2, ⟨by decide, by decide, by omega, by omega⟩, fun D nD => lc_same (walk_range (lo := 0) (n := (((us.length : Int) - 0) - 0).toNat)) nD (RelW R (tk R.nx ws)) (by omega) (fun _ _ => True.intro) (fun i H H' v => RelW.stab RC.ok i H H' v) (fun i x Hc Hc' hi sc y => ?_) fun H3 out s3 hD hlen hr => fin D nD H3 out s3 hD (by rw [hlen, hlt]) hr⟩
      obtain ⟨rfl, rfl⟩ := y
      rw [hlt] at hi
      refine ⟨Same.refl _, fun Q' hq => ?_⟩
      have hrc := (hre.keep RC.ok (Keep.of s2)).keep RC.ok (Keep.of sc)
      obtain ⟨l, hl1, hl2⟩ := beside_l hrc hi
      obtain ⟨o, x, ho1, ho2, ho3⟩ := hrc.get hi
      obtain ⟨a1, a2, a3, b1, b2, b3, b4⟩ := turn i Hc' l o .non hi sc hl2 ⟨x, ho2, ho3⟩ (fun e => by rw [h1] at e; cases e) Q' hq
      refine ⟨rfl, _, rfl, a1, a2, a3, b1, b2, b3, ?_⟩
      exact ⟨_, rfl, _, rfl, b, _, _, _, rfl, rfl, .inl (.inl (sc _ _ hb2)), at_i hl1, _, rfl, _, rfl, a, _, _, _, rfl, rfl, .inl (.inl (sc _ _ (s2 _ _ ha))), at_i ho1, b4⟩
    · have h2 : R.ways = 2 := RC.ok.w12.resolve_left h1
      refine iteFa (by rw [h2]; rfl) ?_
      refine ⟨_, rfl, c, _, _, rfl, hc2, ⟨by decide, by decide, by omega, by omega⟩, fun D nD => lc_same (walk_range (lo := 0) (n := (((us.length : Int) - 0) - 0).toNat)) nD (RelW R (tk R.nx ws)) (by omega) (fun _ _ => True.intro) (fun i H H' v => RelW.stab RC.ok i H H' v) (fun i x Hc Hc' hi sc y => ?_) fun H3 out s3 hD hlen hr => fin D nD H3 out s3 hD (by rw [hlen, hlt]) hr⟩
      obtain ⟨rfl, rfl⟩ := y
      rw [hlt] at hi
      refine ⟨Same.refl _, fun Q' hq => ?_⟩
      have hrc := (hre.keep RC.ok (Keep.of s2)).keep RC.ok (Keep.of sc)
      obtain ⟨l, hl1, hl2⟩ := beside_l hrc hi
      obtain ⟨r, hr1, hr2⟩ := beside_r hrc hi
      obtain ⟨o, x, ho1, ho2, ho3⟩ := hrc.get hi
      obtain ⟨a1, a2, a3, b1, b2, b3, b4⟩ := turn i Hc' l o r hi sc hl2 ⟨x, ho2, ho3⟩ (fun _ => hr2) Q' hq
      refine ⟨rfl, _, rfl, a1, a2, a3, b1, b2, b3, ?_⟩
      exact ⟨_, rfl, _, rfl, b, _, _, _, rfl, rfl, .inl (.inl (sc _ _ hb2)), at_i hl1, _, rfl, _, rfl, a, _, _, _, rfl, rfl, .inl (.inl (sc _ _ (s2 _ _ ha))), at_i ho1, _, rfl, _, rfl, _, _, rfl, rfl, b, _, _, _, rfl, rfl, .inl (.inl (sc _ _ hb2)), at_i2 hr1, b4⟩
def spWorth (K : PySem.W.Frag) (R : RowM) : Sp := fun vs H Q _ => ∃ (p a : Addr) (ns : List Int), vs = [.ref p, .ref a, .int (R.seat ns.length), .int (R.due ns.length)] ∧ R.at_ H p ∧ H a = some (.tup (ns.map V.int)) ∧ 1 ≤ ns.length ∧ ns.length ≤ 200 ∧
  ∀ v x H', Same H H' → R.last ns = some x → R.rep H' v x → Q v H'
theorem sIx_zero (n : Nat) : HT.sIx n 0 (some (0 : Int)) = 0 := by
  rw [show (0 : Int) = ((0 : Nat) : Int) from rfl, HT.sIx_nat]
  omega
theorem sIx_all (n : Nat) : HT.sIx n n (some (n : Int)) = n := by
  rw [HT.sIx_nat]
  omega
theorem c_worth_in (T : Top K mg) {R : RowM} (RC : RowC P w K mg base R) : Cal P w K mg base 5 "worth_in" (spWorth K R) [] := by
  refine T.d_worth_in.cal sc_worth_in (fun vs H Q E h => ?_) (fun f cdv A outer s H vs Q E hr h => ?_)
  · obtain ⟨i, a, b, rfl, _⟩ := h
    rfl
  · obtain ⟨p, a, ns, rfl, hp, ha, hl, hl2, q⟩ := h
    have gb := c_begun (P := P) (w := w) (base := base) T RC
    have gt := c_ticked (P := P) (w := w) (base := base) T RC
    obtain ⟨dx, fs, i1, i2, _⟩ := RC.ok.ins hp
    refine ⟨_, pss_cons (ps_set (i := 4) sc_worth_in.nd rfl (Or.inl rfl) (pe_callB (call_max2 rfl) rfl T.f_max b_max (pa_cons pe_int (pa_cons (pe_op op_sub (pv 2) (pv 3)) pa_nil))))
      (pss_cons (ps_set (i := 5) sc_worth_in.nd rfl (Or.inl rfl) (pe_ifV (pt_cmpR op_eq (pe_fld (pv 0) rfl) (pe_gi T.i_ONE_WAY) (nomark _)) (pv 2) (pe_callB (call_min2 rfl) rfl T.f_min b_min (pa_cons (pe_op op_sub (pe_callB call_len_seq rfl T.f_len b_len (pa_cons (pv 1) pa_nil)) pe_int) (pa_cons (pe_op op_add (pv 2) (pv 3)) pa_nil)))))
      (pss_cons (ps_set (i := 6) sc_worth_in.nd rfl (Or.inl rfl) (pe_c gb hr (pa_cons (pv 0) (pa_cons (pe_slice sl_tupA (pv 1) (po_some (pv 4)) (po_some (pe_op op_add (pv 5) pe_int))) pa_nil))))
      (pss_cons (ps_for PassesOwn.never rfl (pi_range1 rfl T.f_range (pa_cons (pv 3) pa_nil)) (pg_name (i := 7) sc_worth_in.nd rfl (Or.inl rfl))
        (pss_cons (ps_par (i := 8) (j := 9) (by rfl) sc_worth_in.nd rfl rfl (by decide) rfl rfl (pa_cons (pe_callTy call_int1 rfl T.f_int b_int (pa_cons (pe_cmp (pc_gt (pv 4) pe_int) rfl) pa_nil))
            (pa_cons (pe_callTy call_int1 rfl T.f_int b_int (pa_cons (pe_and (pe_cmp (pc_lt (pv 5) (pe_op op_sub (pe_callB call_len_seq rfl T.f_len b_len (pa_cons (pv 1) pa_nil)) pe_int)) rfl) (pe_one (pe_cmpR op_ne (pe_fld (pv 0) rfl) (pe_gi T.i_ONE_WAY) (nomark _)))) pa_nil)) pa_nil)) (by rfl))
        (pss_cons (ps_set (i := 6) sc_worth_in.nd rfl (Or.inl rfl) (pe_c gt hr (pa_cons (pv 0) (pa_cons (pv 6) (pa_cons (pv 8) (pa_cons (pv 9) pa_nil))))))
        (pss_one (ps_par (i := 4) (j := 5) (by rfl) sc_worth_in.nd rfl rfl (by decide) rfl rfl (pa_cons (pe_op op_add (pv 4) (pv 8)) (pa_cons (pe_op op_sub (pv 5) (pv 9)) pa_nil)) (by rfl))))))
      (pss_one (ps_ret (pe_ix ix_tup (pv 6) (pe_op op_sub (pv 2) (pv 4)) (fun _ _ => rfl))))))), ?_⟩
    have hseat : (R.seat ns.length : Int) ≤ (R.due ns.length : Int) := by
      unfold RowM.seat RowM.due
      split <;> omega
    refine ⟨_, rfl, _, rfl, _, _, rfl, rfl, _, _, rfl, ?_⟩
    have e0 : (if (R.seat ns.length : Int) - (R.due ns.length : Int) > 0 then (R.seat ns.length : Int) - (R.due ns.length : Int) else 0) = 0 := if_neg (by omega)
    rw [e0]
    refine ⟨_, rfl, p, _, dx, fs, _, rfl, i1, RC.cl, RC.naw, i2, rfl, _, rfl, .int ((ns.length : Int) - 1), ?_, ?_⟩
    · by_cases h1 : R.ways = 1
      · refine iteTr (by rw [h1]; rfl) ⟨_, rfl, ?_, rfl⟩
        unfold RowM.seat
        rw [if_pos h1, Int.natCast_sub hl] <;> rfl
      · refine iteFa (by rw [RC.ok.w12.resolve_left h1]; rfl) ⟨_, rfl, a, _, rfl, .inr (.inl (.inl ha)), _, _, rfl, rfl, _, rfl, _, rfl, _, _, rfl, rfl, _, _, rfl, ?_, rfl⟩
        have e1 : R.seat ns.length = 0 := if_neg h1
        have e2 : R.due ns.length = ns.length - 1 := if_neg h1
        rw [List.length_map, e1, e2]
        refine congrArg V.int (if_neg ?_)
        omega
    · refine ⟨_, rfl, _, rfl, _, rfl, _, rfl, _, rfl, _, _, rfl, rfl, _, rfl, a, _, rfl, .inl (.inl ha), fun _ => ?_, fun hno => absurd ⟨sIx_zero _, ?_⟩ hno⟩
      · refine ⟨p, a, ns, rfl, hp, ha, hl2, fun t out H1 s1 ht hr1 => ?_⟩
        have hp1 := RC.ok.keepA (Keep.of s1) hp
        refine ⟨_, rfl, _, rfl, ?_, ?_, for_range (lo := 0) (n := ((R.due ns.length : Nat) : Int).toNat) (fun i σ H2 => Same H H2 ∧ ∃ (t : Addr) (out : List V) (o7 o8 o9 : Option V), σ = [some (.ref p), some (.ref a), some (.int (R.seat ns.length)), some (.int (R.due ns.length)), some (.int 0), some (.int ((ns.length : Int) - 1)), some (.ref t), o7, o8, o9] ∧ H2 t = some (.tup out) ∧ R.Reps H2 out (tks R.nx i (ns.map R.bg)))
          ⟨s1, t, out, _, _, _, rfl, ht, hr1⟩ (fun i σ H2 hi hP => ?_) (fun σ H2 hP => ?_)⟩
        · unfold RowM.due
          split <;> omega
        · unfold RowM.due
          split <;> omega
        · obtain ⟨s2, t, out, o7, o8, o9, rfl, ht2, hr2⟩ := hP
          obtain ⟨dx2, fs2, j1, j2, _⟩ := RC.ok.ins (RC.ok.keepA (Keep.of s2) hp)
          refine ⟨_, rfl, _, _, rfl, rfl, .inr ⟨_, rfl, _, rfl, _, rfl, a, _, rfl, .inr (.inl (.inl (s2 _ _ ha))), _, _, rfl, rfl, _, _, rfl, rfl, _, rfl, iteFa ?_ (.inr ⟨_, rfl, _, _, rfl, ?_⟩)⟩⟩
          · refine decide_eq_false ?_
            rw [List.length_map]
            omega
          · refine ⟨_, rfl, _, rfl, _, rfl, _, rfl, p, t, out, _, rfl, RC.ok.keepA (Keep.of s2) hp, ht2, hr2, (by rw [tks_len, List.length_map]; omega), fun t' out' H' s' ht' hr' => ?_⟩
            refine ⟨_, rfl, _, rfl, _, _, rfl, rfl, _, rfl, _, rfl, _, _, rfl, rfl, _, _, rfl, s2.trans s', t', out', some (.int (0 + (i : Int))), some (.int 0), some (.int 0), ?_, ht', hr'⟩
            exact congrArg (fun z : Int => ([some (.ref p), some (.ref a), some (.int (R.seat ns.length)), some (.int (R.due ns.length)), some (.int 0), some (.int z), some (.ref t'), some (.int (0 + (i : Int))), some (.int 0), some (.int 0)] : L2.St)) (Int.sub_zero ((ns.length : Int) - 1))
        · obtain ⟨s2, t, out, o7, o8, o9, rfl, ht2, hr2⟩ := hP
          have hlt : R.seat ns.length < (tks R.nx ((R.due ns.length : Nat) : Int).toNat (ns.map R.bg)).length := by
            rw [tks_len, List.length_map]
            exact R.seat_lt hl
          obtain ⟨v, x, e1, e2, e3⟩ := hr2.get hlt
          refine ⟨_, rfl, _, rfl, _, rfl, _, _, rfl, rfl, t, out, _, v, rfl, rfl, .inl (.inl ht2), ?_, q v x H2 s2 ?_ e3⟩
          · rw [Int.sub_zero]
            exact atI_nat e1
          · rw [Int.toNat_natCast] at e2
            exact e2
      · have e : (ns.length : Int) - 1 + 1 = (((ns.map V.int).length : Nat) : Int) := by rw [List.length_map]; omega
        rw [e]
        exact sIx_all _
end
end BR
set_option Elab.async false
set_option linter.all false
set_option maxRecDepth 100000
/-! told by the program, told by the law's own run. -/
namespace BR
open PySem PySem.Spec PyProof.Rows L2
/-- the keywords word, row -/
def gW (us ws : List Value) : List Value := match us, ws with
  | [], [a, b] => [b, a]
  | _, _ => []
def gWV (us ws : List V) : List V := match us, ws with
  | [], [a, b] => [b, a]
  | _, _ => []
theorem gW_rel {vs : List V} {us : List Value} {zs : List V} {ws : List Value} (r : Vals vs us) (z : Vals zs ws) : Vals (gWV vs zs) (gW us ws) := by
  cases r with
  | cons _ _ => exact .nil
  | nil =>
    cases z with
    | nil => exact .nil
    | cons r1 z =>
      cases z with
      | nil => exact .nil
      | cons r2 z =>
        cases z with
        | nil => exact .cons r2 (.cons r1 .nil)
        | cons _ _ => exact .nil
theorem keep_app {H : Hp} {D : Addr} {out : List V} {y : V} (hd : H D = some (.lst out)) : Keep H (upd H D (.lst (out ++ [y]))) := fun b o e nl => by
  by_cases hb : b = D
  · subst hb
    rw [hd] at e
    cases e
    exact absurd rfl (nl _)
  · rw [upd_ne hb]
    exact e
theorem grow {Rel : Nat → Hp → V → Prop} (stab : ∀ i H H' v, Keep H H' → Rel i H v → Rel i H' v) {H H4 : Hp} {D : Addr} {out : List V} {y : V} {i : Nat} (k : Keep H H4) (hd : H4 D = some (.lst out)) (hl : out.length = i) (hr : ∀ (j : Nat) (v : V), out[j]? = some v → Rel j H v) (ry : Rel i H4 y) :
    (out ++ [y]).length = i + 1 ∧ ∀ (j : Nat) (v : V), (out ++ [y])[j]? = some v → Rel j (upd H4 D (.lst (out ++ [y]))) v := by
  have kp := keep_app (y := y) hd
  refine ⟨by rw [List.length_append, hl]; rfl, fun j v e => ?_⟩
  rw [List.getElem?_append] at e
  split at e
  · exact stab _ _ _ _ (k.trans kp) (hr j v e)
  · rename_i hj
    have e0 : j - out.length = 0 := by
      cases q : j - out.length with
      | zero => rfl
      | succ m => rw [q] at e; simp at e
    rw [e0] at e
    have ej : j = i := by omega
    cases (show some y = some v from e)
    rw [ej]
    exact stab _ _ _ _ kp ry
section
variable {P : Program} {w : World} {K : PySem.W.Frag} {mg : Str → Option Value} {base : Heap}
def spSeat (R : RowM) (g : Nat → Nat) : Sp := fun vs H Q _ => ∃ (p : Addr) (n : Nat), vs = [.ref p, .int n] ∧ R.at_ H p ∧ 1 ≤ n ∧ Q (.int (g n)) H
theorem c_seat_in (T : Top K mg) {R : RowM} (RC : RowC P w K mg base R) : Cal P w K mg base 1 "seat_in" (spSeat R R.seat) [] := by
  refine T.d_seat_in.cal sc_seat_in (fun vs H Q E h => ?_) (fun f cdv A outer s H vs Q E hr h => ?_)
  · obtain ⟨i, a, rfl, _⟩ := h
    rfl
  · obtain ⟨p, n, rfl, hp, hn, q⟩ := h
    obtain ⟨dx, fs, i1, i2, _⟩ := RC.ok.ins hp
    refine ⟨_, pss_one (ps_ret (pe_ifV (pt_cmpR op_eq (pe_fld (pv 0) rfl) (pe_gi T.i_ONE_WAY) (nomark _)) (pe_op op_sub (pv 1) pe_int) pe_int)), ?_⟩
    refine ⟨_, rfl, p, _, dx, fs, _, rfl, i1, RC.cl, RC.naw, i2, rfl, _, rfl, .int (R.seat n), ?_, q⟩
    by_cases h1 : R.ways = 1
    · refine iteTr (by rw [h1]; rfl) ⟨_, rfl, _, _, rfl, rfl, congrArg V.int ?_, rfl⟩
      unfold RowM.seat
      rw [if_pos h1, Int.natCast_sub hn] <;> rfl
    · refine iteFa (by rw [RC.ok.w12.resolve_left h1]; rfl) ⟨congrArg V.int ?_, rfl⟩
      unfold RowM.seat
      rw [if_neg h1] <;> rfl
theorem c_due_in (T : Top K mg) {R : RowM} (RC : RowC P w K mg base R) : Cal P w K mg base 1 "due_in" (spSeat R R.due) [] := by
  refine T.d_due_in.cal sc_due_in (fun vs H Q E h => ?_) (fun f cdv A outer s H vs Q E hr h => ?_)
  · obtain ⟨i, a, rfl, _⟩ := h
    rfl
  · obtain ⟨p, n, rfl, hp, hn, q⟩ := h
    obtain ⟨dx, fs, i1, i2, _⟩ := RC.ok.ins hp
    refine ⟨_, pss_one (ps_ret (pe_ifV (pt_cmpR op_eq (pe_fld (pv 0) rfl) (pe_gi T.i_ONE_WAY) (nomark _)) (pe_op op_sub (pe_op op_mul pe_int (pv 1)) pe_int) (pe_op op_sub (pv 1) pe_int))), ?_⟩
    refine ⟨_, rfl, p, _, dx, fs, _, rfl, i1, RC.cl, RC.naw, i2, rfl, _, rfl, .int (R.due n), ?_, q⟩
    by_cases h1 : R.ways = 1
    · refine iteTr (by rw [h1]; rfl) ⟨_, rfl, _, _, rfl, rfl, .inl ⟨by decide, by decide⟩, _, _, rfl, rfl, congrArg V.int ?_, rfl⟩
      unfold RowM.due
      rw [if_pos h1]
      show 2 * (n : Int) - 1 = ((2 * n - 1 : Nat) : Int)
      omega
    · refine iteFa (by rw [RC.ok.w12.resolve_left h1]; rfl) ⟨_, rfl, _, _, rfl, rfl, congrArg V.int ?_, rfl⟩
      unfold RowM.due
      rw [if_neg h1]
      show (n : Int) - 1 = ((n - 1 : Nat) : Int)
      omega
theorem RowM.tell_of {R : RowM} {ns : List Int} {x : R.W} (h : R.last ns = some x) : R.tell ns = R.sy x := by
  unfold RowM.tell
  rw [h]
theorem RowM.last_some (R : RowM) {ns : List Int} (h : 1 ≤ ns.length) : ∃ x, R.last ns = some x := by
  unfold RowM.last
  have hl : R.seat ns.length < (tks R.nx (R.due ns.length) (ns.map R.bg)).length := by
    rw [tks_len, List.length_map]
    exact R.seat_lt h
  exact ⟨_, List.getElem?_eq_getElem hl⟩
def spSaid (R : RowM) : Sp := fun vs H Q _ => ∃ (p a : Addr) (ns : List Int), vs = [.ref p, .ref a, .int (R.due ns.length)] ∧ R.at_ H p ∧ H a = some (.tup (ns.map V.int)) ∧ 1 ≤ ns.length ∧ ns.length ≤ 200 ∧ R.fine ns ∧ ∀ H', Same H H' → Q (.bl (R.tell ns)) H'
theorem c_said_in (T : Top K mg) {R : RowM} (RC : RowC P w K mg base R) : Cal P w K mg base 6 "said_in" (spSaid R) [] := by
  refine T.d_said_in.cal sc_said_in (fun vs H Q E h => ?_) (fun f cdv A outer s H vs Q E hr h => ?_)
  · obtain ⟨i, a, b, rfl, _⟩ := h
    rfl
  · obtain ⟨p, a, ns, rfl, hp, ha, hl, hl2, hf, q⟩ := h
    have g1 := c_seat_in (P := P) (w := w) (base := base) T RC
    have g2 := c_worth_in (P := P) (w := w) (base := base) T RC
    obtain ⟨dx, fs, i1, i2, _, _, _, i6⟩ := RC.ok.ins hp
    refine ⟨_, pss_one (ps_ret (pe_mt RC.ms RC.cl hr (pv 0) (pa_cons (pe_c g2 hr (pa_cons (pv 0) (pa_cons (pv 1) (pa_cons (pe_c g1 hr (pa_cons (pv 0) (pa_cons (pe_callB call_len_seq rfl T.f_len b_len (pa_cons (pv 1) pa_nil)) pa_nil))) (pa_cons (pv 2) pa_nil))))) pa_nil))), ?_⟩
    refine ⟨_, rfl, p, dx, fs, rfl, i1, i6, _, rfl, _, rfl, _, rfl, _, rfl, a, _, rfl, .inr (.inl (.inl ha)), p, ns.length, ?_, hp, hl, ?_⟩
    · rw [List.length_map]
      rfl
    · refine ⟨_, rfl, p, a, ns, rfl, hp, ha, hl, hl2, fun v x H' s' hx rv => ?_⟩
      refine ⟨p, v, x, rfl, RC.ok.keepA (Keep.of s') hp, rv, hf x hx, fun H2 s2 => ?_⟩
      have k := q H2 (s'.trans s2)
      rw [RowM.tell_of hx] at k
      exact k
def spToldIn (R : RowM) : Sp := fun vs H Q _ => ∃ (p a : Addr) (ns : List Int), vs = [.ref p, .ref a] ∧ R.at_ H p ∧ H a = some (.tup (ns.map V.int)) ∧ 1 ≤ ns.length ∧ ns.length ≤ 200 ∧ R.fine ns ∧ ∀ H', Same H H' → Q (.bl (R.tell ns)) H'
theorem c_told_in (T : Top K mg) {R : RowM} (RC : RowC P w K mg base R) : Cal P w K mg base 7 "told_in" (spToldIn R) [] := by
  refine T.d_told_in.cal sc_told_in (fun vs H Q E h => ?_) (fun f cdv A outer s H vs Q E hr h => ?_)
  · obtain ⟨i, a, b, rfl, _⟩ := h
    rfl
  · obtain ⟨p, a, ns, rfl, hp, ha, hl, hl2, hf, q⟩ := h
    have g1 := c_due_in (P := P) (w := w) (base := base) T RC
    have g2 := c_said_in (P := P) (w := w) (base := base) T RC
    refine ⟨_, pss_one (ps_ret (pe_c g2 hr (pa_cons (pv 0) (pa_cons (pv 1) (pa_cons (pe_c g1 hr (pa_cons (pv 0) (pa_cons (pe_callB call_len_seq rfl T.f_len b_len (pa_cons (pv 1) pa_nil)) pa_nil))) pa_nil))))), ?_⟩
    refine ⟨_, rfl, _, rfl, _, rfl, _, rfl, a, _, rfl, .inr (.inl (.inl ha)), p, ns.length, ?_, hp, hl, p, a, ns, rfl, hp, ha, hl, hl2, hf, q⟩
    rw [List.length_map]
    rfl
def spTold (K : PySem.W.Frag) (R : RowM) : Sp := fun vs H Q _ => ∃ (p a : Addr) (ns : List Int), vs = [.ref p, .ref a] ∧ R.at_ H p ∧ SqA K H a (ns.map V.int) ∧ 1 ≤ ns.length ∧ ns.length ≤ 200 ∧ (∀ n ∈ ns, 0 ≤ n ∧ n < R.letters) ∧ R.fine ns ∧ ∀ H', Same H H' → Q (.bl (R.tell ns)) H'
def spBoth (K : PySem.W.Frag) (R : RowM) : Sp := fun vs H Q _ => ∃ (p a : Addr) (ns : List Int), vs = [.ref p, .ref a] ∧ R.at_ H p ∧ SqA K H a (ns.map V.int) ∧ 1 ≤ ns.length ∧ ns.length ≤ 200 ∧ (∀ n ∈ ns, 0 ≤ n ∧ n < R.letters) ∧ ∀ t H', Same H H' → H' t = some (.tup (ns.map V.int)) → Q (.ref t) H'
theorem c_need_both (T : Top K mg) {R : RowM} (RC : RowC P w K mg base R) : Cal P w K mg base 6 "need_both" (spBoth K R) [] := by
  refine T.d_need_both.cal sc_need_both (fun vs H Q E h => ?_) (fun f cdv A outer s H vs Q E hr h => ?_)
  · obtain ⟨i, a, b, rfl, _⟩ := h
    rfl
  · obtain ⟨p, a, ns, rfl, hp, ha, hl, hl2, hn, q⟩ := h
    have g1 := c_need_row (P := P) (w := w) (base := base) T
    have g2 := c_need_word (P := P) (w := w) (base := base) T
    obtain ⟨dx, fs, i1, i2, i3, _⟩ := RC.ok.ins hp
    refine ⟨_, pss_cons (ps_expr (pe_c g1 hr (pa_cons (pv 0) pa_nil))) (pss_one (ps_ret (pe_c g2 hr (pa_cons (pv 1) (pa_cons (pe_fld (pv 0) rfl) (pa_cons pe_str pa_nil)))))), ?_⟩
    refine ⟨_, rfl, p, _, dx, fs, _, rfl, i1, RC.cl, RC.isr, ?_⟩
    exact ⟨_, rfl, _, rfl, p, _, dx, fs, _, rfl, i1, RC.cl, RC.nal, i3, a, ns, R.letters, _, rfl, ha, hl, hl2, hn, fun t H' s' ht => q t H' s' ht⟩
/-- told as the program gives it, called by place and by name -/
structure Told (P : Program) (w : World) (K : PySem.W.Frag) (mg : Str → Option Value) (base : Heap) (R : RowM) : Prop where
  ex : ∃ (f : Addr) (fd : FuncData), FnOk P w K mg base CX0 8 f fd ["row", "word"] (spTold K R) ∧ mg "told" = some (.ref f) ∧ PySem.W.keepIn K (.ref f) = true ∧ Binds K fd ["row", "word"] [] ∧ KBinds K fd ["row", "word"] ["word", "row"] gW gWV
theorem c_told (T : Top K mg) {R : RowM} (RC : RowC P w K mg base R) : Told P w K mg base R := by
  obtain ⟨f, fd, ds, F, hm, kp, b, d⟩ := T.d_told.ex
  cases d
  refine ⟨f, fd, ?_, hm, kp, b, ?_⟩
  · refine FunD.ok0 F sc_told (fun vs H Q E h => ?_) (fun cdv A outer s H vs Q E hr h => ?_)
    · obtain ⟨i, a, b, rfl, _⟩ := h
      rfl
    · obtain ⟨p, a, ns, rfl, hp, ha, hl, hl2, hn, hf, q⟩ := h
      have g1 := c_need_both (P := P) (w := w) (base := base) T RC
      have g2 := c_told_in (P := P) (w := w) (base := base) T RC
      refine ⟨_, pss_one (ps_ret (pe_c g2 hr (pa_cons (pv 0) (pa_cons (pe_c g1 hr (pa_cons (pv 0) (pa_cons (pv 1) pa_nil))) pa_nil)))), ?_⟩
      exact ⟨_, rfl, _, rfl, _, rfl, p, a, ns, rfl, hp, ha, hl, hl2, hn, fun t H' s' ht => ⟨p, t, ns, rfl, RC.ok.keepA (Keep.of s') hp, ht, hl, hl2, hf, fun H2 s2 => q H2 (s'.trans s2)⟩⟩
  · obtain ⟨oc, od, dV, kV, doc, pm, an, cdv, ct, osl, rfl, lk, hcd, hD, hK⟩ := F.ex
    rcases hD with ⟨_, rfl⟩ | ⟨e, _⟩
    · refine ⟨fun s us ws _ hl => ?_, fun r z => gW_rel r z⟩
      match us, ws, hl with
      | [], [x, y], _ => exact .of_eq rfl
    · exact absurd rfl e
/-! ### the law's own run -/
def spLTicked (K : PySem.W.Frag) (R : RowM) : Sp := fun vs H Q _ => ∃ (p c : Addr) (us : List V) (ws : List R.W), vs = [.ref p, .ref c] ∧ R.at_ H p ∧ H c = some (.lst us) ∧ R.Reps H us ws ∧ ws.length ≤ 200 ∧
  ∀ (D : Addr) (out : List V) (H' : Hp), Same H H' → H' D = some (.lst out) → R.Reps H' out (tk R.nx ws) → Q (.ref D) H'
theorem c_law_ticked (T : Top K mg) {R : RowM} (RC : RowC P w K mg base R) : Cal P w K mg base 4 "_law_ticked" (spLTicked K R) [] := by
  refine T.d_law_ticked.cal sc_law_ticked (fun vs H Q E h => ?_) (fun f cdv A outer s H vs Q E hr h => ?_)
  · obtain ⟨i, a, b, c, rfl, _⟩ := h
    rfl
  · obtain ⟨p, c, us, ws, rfl, hp, hc, hre, hl, q⟩ := h
    have hl1 := hre.1
    have sz := sizeLine_eq
    refine ⟨_, pss_cons (ps_set (i := 2) sc_law_ticked.nd rfl (Or.inl rfl) (pe_lst pa_nil))
      (pss_cons (ps_for PassesOwn.never rfl (pi_enum rfl T.f_enumerate (pa_cons (pv 1) pa_nil)) (pg_tup rfl (pgs_cons (pg_name (i := 3) sc_law_ticked.nd rfl (Or.inl rfl)) (pgs_cons (pg_name (i := 4) sc_law_ticked.nd rfl (Or.inl rfl)) pgs_nil)))
        (pss_cons (ps_set (i := 5) sc_law_ticked.nd rfl (Or.inl rfl) (pe_ifV (pt_cmpR op_gt (pv 3) pe_int (nomark _)) (pe_ix ix_list (pv 1) (pe_op op_sub (pv 3) pe_int) (fun _ _ => rfl)) pe_non))
        (pss_cons (ps_set (i := 6) sc_law_ticked.nd rfl (Or.inl rfl) (pe_ifV (pt_cmpR op_lt (pe_op op_add (pv 3) pe_int) (pe_callB call_len_seq rfl T.f_len b_len (pa_cons (pv 1) pa_nil)) (nomark _)) (pe_ix ix_list (pv 1) (pe_op op_add (pv 3) pe_int) (fun _ _ => rfl)) pe_non))
        (pss_cons (ps_set (i := 6) sc_law_ticked.nd rfl (Or.inl rfl) (pe_ifExp (pt_cmpR op_eq (pe_fld (pv 0) rfl) pe_int (nomark _)) (pe_lst (pa_cons pe_str (pa_cons (pv 3) pa_nil))) (pv 6)))
        (pss_one (ps_expr (pe_bm PySem.F.plainAttrs_list PySem.F.slot_list_append PySem.F.type_list_append mt_append (pv 2) (pa_cons (pe_mt RC.mn RC.cl hr (pv 0) (pa_cons (pv 5) (pa_cons (pv 4) (pa_cons (pv 6) pa_nil)))) pa_nil))))))))
      (pss_one (ps_ret (pv 2)))), ?_⟩
    refine ⟨(by show 0 ≤ sizeLine; omega), fun D nD => ?_⟩
    refine ⟨_, rfl, c, us, rfl, .inl (.inl (Same.upd nD _ _ hc)), for_it (walk_enum (K := K) (a := c) (xs := us)) (fun i σ H2 => Same H H2 ∧ ∃ (out : List V) (o3 o4 o5 o6 : Option V), σ = [some (.ref p), some (.ref c), some (.ref D), o3, o4, o5, o6] ∧ H2 D = some (.lst out) ∧ out.length = i ∧ ∀ (j : Nat) (v : V), out[j]? = some v → RelW R (tk R.nx ws) j H2 v)
      ⟨Same.upd nD, [], none, none, none, none, rfl, upd_same, rfl, fun j v e => by simp at e⟩ (fun i σ H2 _ hP => .inl (.inl (hP.1 _ _ hc))) (fun i x σ H2 H3 hi hP y => ?_) (fun σ H2 hP => ?_)⟩
    · obtain ⟨s2, out, o3, o4, o5, o6, rfl, hD, hlen, hrel⟩ := hP
      obtain ⟨t, x1, x2, rfl, nt, rfl, e1, hx2⟩ := y
      cases e1
      have s3 := s2.trans (Same.upd (o := .tup [.int (i : Nat), x2]) nt)
      refine ⟨t, _, rfl, .inl (.inl upd_same), rfl, _, _, rfl, _, _, rfl, rfl, ?_⟩
      generalize hH3 : upd H2 t (.tup [.int (i : Nat), x2]) = H3 at *
      have hD3 : H3 D = some (.lst out) := by rw [← hH3]; exact Same.upd nt _ _ hD
      have hrel3 : ∀ (j : Nat) (v : V), out[j]? = some v → RelW R (tk R.nx ws) j H3 v := fun j v e => RelW.stab RC.ok j H2 H3 v (by rw [← hH3]; exact Keep.of (Same.upd nt)) (hrel j v e)
      have hi2 : i < ws.length := by omega
      have hr3 := hre.keep RC.ok (Keep.of s3)
      obtain ⟨o, xo, ho1, ho2, ho3⟩ := hr3.get hi2
      have hc3 := s3 _ _ hc
      have hx2 : us[i]? = some x2 := hx2
      rw [hx2] at ho1
      cases ho1
      have hp3 := RC.ok.keepA (Keep.of s3) hp
      obtain ⟨l, hl1', hl2'⟩ := beside_l hr3 hi2
      obtain ⟨r, hr1', hr2'⟩ := beside_r hr3 hi2
      have last : ∀ (v6 : V) (H4 : Hp), Same H3 H4 → (R.ways = 2 → R.repO H4 v6 ws[i + 1]?) → ∀ σ : L2.St, σ = [some (.ref p), some (.ref c), some (.ref D), some (.int (i : Nat)), some x2, some l, some v6] → ∀ (Z : L2.St → Hp → Prop), (∀ y H5, Same H H5 → H5 D = some (.lst (out ++ [y])) → (out ++ [y]).length = i + 1 → (∀ (j : Nat) (v : V), (out ++ [y])[j]? = some v → RelW R (tk R.nx ws) j H5 v) → Z σ H5) → ∀ Dn : Ends, Dn.nx = Z →
          tDrop (tBM K "list" rAppend (tVar 2) (tCons (tMeth R.C "next" (spN R) [] E0 (tVar 0) (tCons (tVar 5) (tCons (tVar 4) (tCons (tVar 6) tNil)))) tNil)) Dn σ H4 := by
        intro v6 H4 s4 hv6 σ es Z hZ Dn eD
        subst es
        have k4 := Keep.of s4
        obtain ⟨dx, fs, j1, _, _, _, j5, _⟩ := RC.ok.ins (RC.ok.keepA k4 hp3)
        refine ⟨_, rfl, .inl ⟨rfl, _, .inl (.inl (s4 _ _ hD3))⟩, _, rfl, p, dx, fs, rfl, j1, j5, _, rfl, _, rfl, _, rfl, p, l, x2, v6, prevO ws i, xo, ws[i + 1]?, rfl, RC.ok.keepA k4 hp3, ?_, RC.ok.keepR k4 ho3, hv6, fun v H5 s5 rv => ?_⟩
        · cases hpr : prevO ws i with
          | none => rw [hpr] at hl2'; exact hl2'
          | some z => rw [hpr] at hl2'; exact RC.ok.keepR k4 hl2'
        · have hD5 := s5 _ _ (s4 _ _ hD3)
          refine ⟨D, out, v, rfl, rfl, hD5, by omega, ?_⟩
          obtain ⟨g1, g2⟩ := grow (fun i H H' v => RelW.stab RC.ok i H H' v) (Keep.of (s4.trans s5)) hD5 hlen hrel3 (show RelW R (tk R.nx ws) i H5 v from ⟨_, by rw [tk_get, ho2]; rfl, rv⟩)
          rw [eD]
          exact hZ v _ (((s3.trans s4).trans s5).updI nD) upd_same g1 g2
      obtain ⟨dx, fs, j1, j2, _⟩ := RC.ok.ins hp3
      refine ⟨_, rfl, _, _, rfl, rfl, _, rfl, l, ?_, ?_⟩
      · cases i with
        | zero =>
          refine iteFa (by decide) ⟨?_, rfl⟩
          exact Option.some.inj hl1'
        | succ j =>
          refine iteTr (decide_eq_true (by omega)) ⟨_, rfl, _, rfl, _, _, rfl, rfl, c, us, _, l, rfl, rfl, .inl (.inl hc3), at_of (j := j) (by omega) ?_, rfl, rfl⟩
          have e := hl1'
          rw [List.getElem?_cons_succ, List.getElem?_append_left (by omega)] at e
          exact e
      · refine ⟨_, rfl, _, _, rfl, rfl, _, rfl, c, us, rfl, .inl (.inl (.inl hc3)), _, _, rfl, rfl, _, rfl, r, ?_, ?_⟩
        · rw [List.getElem?_cons_succ] at hr1'
          by_cases hlt : i + 1 < us.length
          · refine iteTr (decide_eq_true (by omega)) ⟨_, rfl, _, rfl, _, _, rfl, rfl, c, us, _, r, rfl, rfl, .inl (.inl hc3), at_of (j := i + 1) (by omega) ?_, rfl, rfl⟩
            rw [List.getElem?_append_left hlt] at hr1'
            exact hr1'
          · refine iteFa (decide_eq_false (by omega)) ⟨?_, rfl⟩
            rw [List.getElem?_append_right (by omega), show i + 1 - us.length = 0 by omega] at hr1'
            exact Option.some.inj hr1'
        · refine ⟨_, rfl, p, _, dx, fs, _, rfl, j1, RC.cl, RC.naw, j2, rfl, _, rfl, ?_⟩
          by_cases h1 : R.ways = 1
          · refine iteTr (by rw [h1]; rfl) ⟨_, rfl, (by show 2 ≤ sizeLine; omega), fun g ng => ?_⟩
            exact last (.ref g) _ (Same.upd ng) (fun e => by rw [h1] at e; cases e) _ rfl _ (fun y H5 a1 a2 a3 a4 => ⟨a1, out ++ [y], _, _, _, _, rfl, a2, a3, a4⟩) _ rfl
          · refine iteFa (by rw [RC.ok.w12.resolve_left h1]; rfl) ⟨_, rfl, ?_⟩
            exact last r _ (Same.refl _) (fun _ => hr2') _ rfl _ (fun y H5 a1 a2 a3 a4 => ⟨a1, out ++ [y], _, _, _, _, rfl, a2, a3, a4⟩) _ rfl
    · obtain ⟨s2, out, o3, o4, o5, o6, rfl, hD, hlen, hrel⟩ := hP
      exact ⟨_, rfl, q D out H2 s2 hD (reps_of (by rw [hlen, tk_len, hl1]) hrel)⟩
end
end BR
set_option Elab.async false
set_option linter.all false
set_option maxRecDepth 100000
/-! The law's own run of a row. -/
namespace BR
open PySem PySem.Spec PyProof.Rows L2
section
variable {P : Program} {w : World} {K : PySem.W.Frag} {mg : Str → Option Value} {base : Heap}
def spLSays (R : RowM) : Sp := fun vs H Q _ => ∃ (p a : Addr) (ns : List Int), vs = [.ref p, .ref a, .int (R.due ns.length)] ∧ R.at_ H p ∧ H a = some (.lst (ns.map V.int)) ∧ 1 ≤ ns.length ∧ ns.length ≤ 200 ∧ R.fine ns ∧ ∀ H', Same H H' → Q (.bl (R.tell ns)) H'
theorem c_law_says (T : Top K mg) {R : RowM} (RC : RowC P w K mg base R) : Cal P w K mg base 5 "_law_says" (spLSays R) [] := by
  refine T.d_law_says.cal sc_law_says (fun vs H Q E h => ?_) (fun f cdv A outer s H vs Q E hr h => ?_)
  · obtain ⟨i, a, b, rfl, _⟩ := h
    rfl
  · obtain ⟨p, a, ns, rfl, hp, ha, hl, hl2, hf, q⟩ := h
    have gt := c_law_ticked (P := P) (w := w) (base := base) T RC
    refine ⟨_, pss_cons (ps_setLc (i := 3) (own := [("_law_letter", 5)]) (g := gName 5) (tt := tYes) rfl sc_law_says.nd rfl rfl (sw_true rfl rfl rfl (by decide +kernel)) (pi_list (pv 1)) (blkOk_by (N := ["_law_row", "_law_word", "_law_ticks", "_law_cells", "_law_tick", "_law_letter"]) (sc := defScope s_law_says) (by decide +kernel))
        (fun _ _ _ _ _ => pg_name (i := 5) sc_law_says.nd rfl (Or.inl rfl)) (fun _ _ _ _ _ => pts_nil) (fun _ _ _ _ _ => pe_mt RC.mb RC.cl hr (pv 0) (pa_cons (pv 5) pa_nil)))
      (pss_cons (ps_for PassesOwn.never rfl (pi_range1 rfl T.f_range (pa_cons (pv 2) pa_nil)) (pg_name (i := 4) sc_law_says.nd rfl (Or.inl rfl))
        (pss_one (ps_set (i := 3) sc_law_says.nd rfl (Or.inl rfl) (pe_c gt hr (pa_cons (pv 0) (pa_cons (pv 3) pa_nil))))))
      (pss_one (ps_ret (pe_mt RC.ms RC.cl hr (pv 0) (pa_cons (pe_ifV (pt_cmpR op_eq (pe_fld (pv 0) rfl) pe_int (nomark _)) (pe_ix ix_list (pv 3) pe_int (fun _ _ => rfl)) (pe_ix ix_list (pv 3) (pe_op op_sub (pe_callB call_len_seq rfl T.f_len b_len (pa_cons (pv 3) pa_nil)) pe_int) (fun _ _ => rfl))) pa_nil))))), ?_⟩
    refine ⟨_, rfl, a, rfl, ⟨_, .inl (.inl ha)⟩, fun D nD => lc_same (walk_list (K := K) (xs := ns.map V.int)) nD (RelW R (ns.map R.bg)) (by rw [List.length_map]; omega) (fun H3 s3 => .inl (.inl (s3 _ _ ha))) (fun i H H' v => RelW.stab RC.ok i H H' v) (fun i x Hc Hc' hi sc y => ?_) fun H3 out s3 hD hlen hr => ?_⟩
    · obtain ⟨rfl, hx⟩ := y
      refine ⟨Same.refl _, fun Q' hq => ?_⟩
      obtain ⟨n, hn, rfl⟩ := map_get hx
      have hp' := RC.ok.keepA (Keep.of sc) hp
      obtain ⟨dx, fs, i1, _, _, i4, _⟩ := RC.ok.ins hp'
      refine ⟨rfl, _, rfl, p, dx, fs, rfl, i1, i4, _, rfl, p, n, rfl, hp', fun v H4 s4 rv => hq v H4 s4 ⟨_, ?_, rv⟩⟩
      rw [List.getElem?_map, hn]
      rfl
    · have hr0 : R.Reps H3 out (ns.map R.bg) := reps_of (by rw [hlen, List.length_map, List.length_map]) hr
      refine ⟨_, rfl, _, rfl, ?_, ?_, for_range (lo := 0) (n := ((R.due ns.length : Nat) : Int).toNat) (fun i σ H2 => Same H H2 ∧ ∃ (c : Addr) (us : List V) (o4 o5 : Option V), σ = [some (.ref p), some (.ref a), some (.int (R.due ns.length)), some (.ref c), o4, o5] ∧ H2 c = some (.lst us) ∧ R.Reps H2 us (tks R.nx i (ns.map R.bg)))
        ⟨s3, D, out, none, none, rfl, hD, hr0⟩ (fun i σ H2 hi hP => ?_) (fun σ H2 hP => ?_)⟩
      · unfold RowM.due
        split <;> omega
      · unfold RowM.due
        split <;> omega
      · obtain ⟨s2, c, us, o4, o5, rfl, hc2, hr2⟩ := hP
        refine ⟨_, rfl, _, rfl, p, c, us, _, rfl, RC.ok.keepA (Keep.of s2) hp, hc2, hr2, (by rw [tks_len, List.length_map]; omega), fun D' out' H' s' hD' hr' => ?_⟩
        exact ⟨s2.trans s', D', out', _, _, rfl, hD', hr'⟩
      · obtain ⟨s2, c, us, o4, o5, rfl, hc2, hr2⟩ := hP
        have hp2 := RC.ok.keepA (Keep.of s2) hp
        obtain ⟨dx, fs, j1, j2, _, _, _, j6⟩ := RC.ok.ins hp2
        have hlt : R.seat ns.length < (tks R.nx ((R.due ns.length : Nat) : Int).toNat (ns.map R.bg)).length := by
          rw [tks_len, List.length_map]
          exact R.seat_lt hl
        obtain ⟨v, x, e1, e2, e3⟩ := hr2.get hlt
        have hul : us.length = ns.length := by rw [hr2.1, tks_len, List.length_map]
        rw [Int.toNat_natCast] at e2
        have hx : R.last ns = some x := e2
        refine ⟨_, rfl, p, dx, fs, rfl, j1, j6, _, rfl, p, _, dx, fs, _, rfl, j1, RC.cl, RC.naw, j2, rfl, _, rfl, v, ?_, p, v, x, rfl, hp2, e3, hf x hx, fun H' s' => ?_⟩
        · by_cases h1 : R.ways = 1
          · refine iteFa (by rw [h1]; rfl) ⟨_, rfl, _, rfl, c, us, rfl, .inl (.inl (.inl hc2)), _, _, rfl, rfl, c, us, _, v, rfl, rfl, .inl (.inl hc2), at_of (j := R.seat ns.length) ?_ e1, rfl, rfl⟩
            have e : R.seat ns.length = ns.length - 1 := if_pos h1
            rw [hul, e]
            omega
          · refine iteTr (by rw [RC.ok.w12.resolve_left h1]; rfl) ⟨_, rfl, c, us, _, v, rfl, rfl, .inl (.inl hc2), at_of (j := R.seat ns.length) ?_ e1, rfl, rfl⟩
            have e : R.seat ns.length = 0 := if_neg h1
            rw [e] <;> rfl
        · have k := q H' (s2.trans s')
          rw [RowM.tell_of hx] at k
          exact k
def spLTold (R : RowM) : Sp := fun vs H Q _ => ∃ (p a : Addr) (ns : List Int), vs = [.ref p, .ref a] ∧ R.at_ H p ∧ H a = some (.lst (ns.map V.int)) ∧ 1 ≤ ns.length ∧ ns.length ≤ 200 ∧ R.fine ns ∧ ∀ H', Same H H' → Q (.bl (R.tell ns)) H'
theorem c_law_told (T : Top K mg) {R : RowM} (RC : RowC P w K mg base R) : Cal P w K mg base 6 "_law_told" (spLTold R) [] := by
  refine T.d_law_told.cal sc_law_told (fun vs H Q E h => ?_) (fun f cdv A outer s H vs Q E hr h => ?_)
  · obtain ⟨i, a, b, rfl, _⟩ := h
    rfl
  · obtain ⟨p, a, ns, rfl, hp, ha, hl, hl2, hf, q⟩ := h
    have gt := c_law_says (P := P) (w := w) (base := base) T RC
    obtain ⟨dx, fs, j1, j2, _⟩ := RC.ok.ins hp
    refine ⟨_, pss_one (ps_ret (pe_c gt hr (pa_cons (pv 0) (pa_cons (pv 1) (pa_cons (pe_ifV (pt_cmpR op_eq (pe_fld (pv 0) rfl) pe_int (nomark _)) (pe_op op_sub (pe_callB call_len_seq rfl T.f_len b_len (pa_cons (pv 1) pa_nil)) pe_int) (pe_op op_sub (pe_op op_mul pe_int (pe_callB call_len_seq rfl T.f_len b_len (pa_cons (pv 1) pa_nil))) pe_int)) pa_nil))))), ?_⟩
    refine ⟨_, rfl, _, rfl, _, rfl, p, _, dx, fs, _, rfl, j1, RC.cl, RC.naw, j2, rfl, _, rfl, .int (R.due ns.length), ?_, p, a, ns, rfl, hp, ha, hl, hl2, hf, q⟩
    by_cases h1 : R.ways = 1
    · refine iteFa (by rw [h1]; rfl) ⟨_, rfl, a, _, rfl, .inl (.inl (.inl ha)), _, _, rfl, rfl, .inl ⟨by decide, by decide⟩, _, _, rfl, rfl, congrArg V.int ?_, rfl⟩
      have e : R.due ns.length = 2 * ns.length - 1 := if_pos h1
      rw [List.length_map, e]
      omega
    · refine iteTr (by rw [RC.ok.w12.resolve_left h1]; rfl) ⟨_, rfl, a, _, rfl, .inl (.inl (.inl ha)), _, _, rfl, rfl, congrArg V.int ?_, rfl⟩
      have e : R.due ns.length = ns.length - 1 := if_neg h1
      rw [List.length_map, e]
      omega
end
end BR
set_option Elab.async false
set_option linter.all false
set_option maxRecDepth 100000
/-! A table is made: its rules, its yes. -/
namespace BR
open PySem PySem.Spec PyProof.Rows L2
/-! ### plain matters of such dicts -/
theorem valX_putX (b : Addr) (v : V) (k k' : LK) : ∀ xs : List DE, valX (putX xs k b v) k' = if k' = k then some v else valX xs k' := by
  intro xs
  unfold putX
  split
  · rename_i h
    induction xs with
    | nil => cases h
    | cons x r ih =>
      rw [List.map_cons]
      by_cases e : x.1 = k
      · rw [if_pos e]
        by_cases e2 : k' = k
        · rw [if_pos e2, valX_pos (by show x.1 = k'; rw [e, e2])]
        · rw [if_neg e2, valX_neg (p := (x.1, x.2.1, v)) (show ¬ x.1 = k' from fun z => e2 (z.symm.trans e)), valX_neg (p := x) (show ¬ x.1 = k' from fun z => e2 (z.symm.trans e))]
          -- no key k' changes in the rest
          have go : ∀ l : List DE, valX (l.map fun x => if x.1 = k then (x.1, x.2.1, v) else x) k' = valX l k' := by
            intro l
            induction l with
            | nil => rfl
            | cons y l ihl =>
              rw [List.map_cons]
              by_cases ey : y.1 = k
              · rw [if_pos ey, valX_neg (p := (y.1, y.2.1, v)) (show ¬ y.1 = k' from fun z => e2 (z.symm.trans ey)), valX_neg (p := y) (show ¬ y.1 = k' from fun z => e2 (z.symm.trans ey))]
                exact ihl
              · rw [if_neg ey]
                by_cases e3 : y.1 = k'
                · rw [valX_pos e3, valX_pos e3]
                · rw [valX_neg e3, valX_neg e3]
                  exact ihl
          exact go r
      · rw [if_neg e]
        rw [valX_neg e] at h
        by_cases e3 : x.1 = k'
        · rw [valX_pos e3, valX_pos e3, if_neg (fun z => e (e3.trans z))]
        · rw [valX_neg e3, valX_neg e3]
          exact ih h
  · rename_i h
    have hn : valX xs k = none := by
      cases e : valX xs k with
      | none => rfl
      | some z => rw [e] at h; exact absurd rfl h
    clear h
    induction xs with
    | nil =>
      show valX [(k, b, v)] k' = _
      by_cases e2 : k' = k
      · rw [if_pos e2, valX_pos e2.symm]
      · rw [if_neg e2, valX_neg (fun z => e2 z.symm)]
    | cons x r ih =>
      by_cases e : x.1 = k
      · rw [valX_pos e] at hn
        cases hn
      · rw [valX_neg e] at hn
        show valX (x :: (r ++ [(k, b, v)])) k' = _
        by_cases e3 : x.1 = k'
        · rw [valX_pos e3, valX_pos e3, if_neg (fun z => e (e3.trans z))]
        · rw [valX_neg e3, valX_neg e3]
          exact ih hn
theorem valX_mem {xs : List DE} {k : LK} {v : V} (h : valX xs k = some v) : ∃ x ∈ xs, x.1 = k ∧ x.2.2 = v := by
  induction xs with
  | nil => cases h
  | cons x r ih =>
    by_cases e : x.1 = k
    · rw [valX_pos e] at h
      cases h
      exact ⟨x, List.mem_cons_self .., e, rfl⟩
    · rw [valX_neg e] at h
      obtain ⟨y, hy, e2⟩ := ih h
      exact ⟨y, List.mem_cons_of_mem _ hy, e2⟩
theorem valX_of_mem {xs : List DE} (nd : (xs.map (·.1)).Nodup) {x : DE} (hx : x ∈ xs) : valX xs x.1 = some x.2.2 := by
  induction xs with
  | nil => cases hx
  | cons y r ih =>
    rw [List.map_cons, List.nodup_cons] at nd
    rcases List.mem_cons.mp hx with rfl | hx
    · exact valX_pos rfl
    · rw [valX_neg (show ¬ y.1 = x.1 from fun e => nd.1 (e ▸ List.mem_map_of_mem hx))]
      exact ih nd.2 hx
theorem valX_none {xs : List DE} {k : LK} (h : k ∉ xs.map (·.1)) : valX xs k = none := by
  cases e : valX xs k with
  | none => rfl
  | some v =>
    obtain ⟨x, hx, e1, _⟩ := valX_mem e
    exact absurd (e1 ▸ List.mem_map_of_mem hx) h
/-- entries out of one dict, put together -/
theorem merge_sub {xs : List DE} (nd : (xs.map (·.1)).Nodup) : ∀ (es acc : List DE), (∀ e ∈ es, e ∈ xs) → (∀ k v, valX acc k = some v → valX xs k = some v) → ∀ k v, valX (mergeX acc es) k = some v → valX xs k = some v
  | [], acc, _, h, k, v, e => h k v e
  | e0 :: es, acc, hs, h, k, v, e => by
    refine merge_sub nd es (putX acc e0.1 e0.2.1 e0.2.2) (fun e he => hs e (List.mem_cons_of_mem _ he)) (fun k v e => ?_) k v e
    rw [valX_putX] at e
    split at e
    · rename_i h1
      cases e
      rw [h1]
      exact valX_of_mem nd (hs e0 (List.mem_cons_self ..))
    · exact h k v e
theorem merge_has : ∀ (es acc : List DE) (k : LK), ((∃ e ∈ es, e.1 = k) ∨ (valX acc k).isSome = true) → (valX (mergeX acc es) k).isSome = true
  | [], acc, k, h => h.elim (fun ⟨_, he, _⟩ => by cases he) id
  | e0 :: es, acc, k, h => by
    refine merge_has es (putX acc e0.1 e0.2.1 e0.2.2) k ?_
    rw [valX_putX]
    by_cases e : k = e0.1
    · rw [if_pos e]
      exact .inr rfl
    · rw [if_neg e]
      rcases h with ⟨x, hx, ex⟩ | h
      · rcases List.mem_cons.mp hx with rfl | hx
        · exact absurd ex.symm e
        · exact .inl ⟨x, hx, ex⟩
      · exact .inr h
theorem merge_all {xs es : List DE} (nd : (xs.map (·.1)).Nodup) (h1 : ∀ e ∈ es, e ∈ xs) (h2 : ∀ x ∈ xs, ∃ e ∈ es, e.1 = x.1) (k : LK) : valX (mergeX [] es) k = valX xs k := by
  cases e : valX xs k with
  | none =>
    cases e2 : valX (mergeX [] es) k with
    | none => rfl
    | some v =>
      have z := merge_sub nd es [] h1 (fun k v e => by cases e) k v e2
      rw [e] at z
      cases z
  | some v =>
    obtain ⟨x, hx, ex, _⟩ := valX_mem e
    obtain ⟨y, hy, ey⟩ := h2 x hx
    have z := merge_has es [] k (.inl ⟨y, hy, ey.trans ex⟩)
    cases e2 : valX (mergeX [] es) k with
    | none => rw [e2] at z; cases z
    | some v2 =>
      have z2 := merge_sub nd es [] h1 (fun k v e => by cases e) k v2 e2
      rw [e] at z2
      exact z2.symm
theorem lfV_inj {a b : Leaf} (h : lfV a = lfV b) : a = b := by
  cases a <;> cases b <;> first | rfl | (cases h; rfl) | cases h
theorem keys_inj : ∀ {a b : LK}, a.map lfV = b.map lfV → a = b
  | [], [], _ => rfl
  | [], _ :: _, h => by cases h
  | _ :: _, [], h => by cases h
  | x :: a, y :: b, h => by
    rw [List.map_cons, List.map_cons] at h
    injection h with h1 h2
    rw [lfV_inj h1, keys_inj h2]
theorem choose_list {α β : Type} : ∀ {l : List α} {Pr : Nat → α → β → Prop}, (∀ (j : Nat) (a : α), l[j]? = some a → ∃ b, Pr j a b) → ∃ m : List β, m.length = l.length ∧ ∀ (j : Nat) (a : α) (b : β), l[j]? = some a → m[j]? = some b → Pr j a b
  | [], _, _ => ⟨[], rfl, fun j a b e => by simp at e⟩
  | x :: l, Pr, h => by
    obtain ⟨b0, h0⟩ := h 0 x rfl
    obtain ⟨m, hl, hm⟩ := choose_list (l := l) (Pr := fun j a b => Pr (j + 1) a b) fun j a e => h (j + 1) a e
    refine ⟨b0 :: m, by rw [List.length_cons, List.length_cons, hl], fun j a b e1 e2 => ?_⟩
    cases j with
    | zero => cases e1; cases e2; exact h0
    | succ j => exact hm j a b e1 e2
/-! ### keys -/
def inW (worths : Int) : Leaf → Prop
  | .none => True
  | .num i => 0 ≤ i ∧ i < worths
  | .text _ => False
def KeyOk (ways worths : Int) (k : LK) : Prop := ∃ (l : Leaf) (o : Int), inW worths l ∧ 0 ≤ o ∧ o < worths ∧ ((ways = 1 ∧ k = [l, .num o]) ∨ (ways = 2 ∧ ∃ r, inW worths r ∧ k = [l, .num o, r]))
def ordL : Leaf → Int
  | .num i => i
  | _ => -1
def ordV : V → Int
  | .int i => i
  | _ => -1
theorem ordV_lf (l : Leaf) (n : ∀ x, l ≠ .text x) : ordV (lfV l) = ordL l := by cases l <;> rfl
def ordA (H : Hp) (b : Addr) : List Int := match H b with
  | some (.tup vs) => vs.map ordV
  | _ => []
section
variable {P : Program} {w : World} {K : PySem.W.Frag} {mg : Str → Option Value} {base : Heap}
def spKeyOrder : Sp := fun vs H Q _ => ∃ (b : Addr) (us : List V), vs = [.ref b] ∧ H b = some (.tup us) ∧ us.length ≤ 3 ∧ (∀ u ∈ us, u = .non ∨ ∃ i, u = .int i) ∧ ∀ q H', Same H H' → H' q = some (.lst ((us.map ordV).map V.int)) → Q (.ref q) H'
theorem c_key_order (T : Top K mg) : ∃ (f : Addr) (fd : FuncData), FnOk P w K mg base CX0 1 f fd ["key"] spKeyOrder ∧ mg "key_order" = some (.ref f) ∧ Binds K fd ["key"] [] := by
  obtain ⟨f, fd, ds, F, hm, kp, b, d⟩ := T.d_key_order.ex
  cases d
  refine ⟨f, fd, ?_, hm, b⟩
  refine FunD.ok0 F sc_key_order (fun vs H Q E h => ?_) (fun cdv A outer s H vs Q E hr h => ?_)
  · obtain ⟨b, us, rfl, _⟩ := h
    rfl
  · obtain ⟨b, us, rfl, hb, hl, hu, q⟩ := h
    refine ⟨_, pss_one (ps_ret (pe_lc (own := [("each", 1)]) (g := gName 1) (tt := tYes) rfl sc_key_order.nd (pi_tup (pv 0)) (blkOk_by (N := ["key", "each"]) (sc := defScope s_key_order) (by decide +kernel))
        (fun _ _ _ _ _ => pg_name (i := 1) sc_key_order.nd rfl (Or.inl rfl)) (fun _ _ _ _ _ => pts_nil) (fun _ _ _ _ _ => pe_ifV (pt_cmp (pc_isN (pv 1)) rfl) (pe_un un_neg pe_int) (pv 1)))), ?_⟩
    refine ⟨_, rfl, b, rfl, ⟨_, .inl (.inl hb)⟩, fun D nD => lc_same (walk_tup (K := K) (xs := us)) nD (fun i _ v => ∃ u, us[i]? = some u ∧ v = .int (ordV u)) (by omega) (fun H3 s3 => .inl (.inl (s3 _ _ hb))) (fun _ _ _ _ _ e => e) (fun i x Hc Hc' hi sc y => ?_) fun H3 out s3 hD hlen hrel => ?_⟩
    · obtain ⟨rfl, hx⟩ := y
      refine ⟨Same.refl _, fun Q' hq => ?_⟩
      rcases hu x (List.mem_of_getElem? hx) with rfl | ⟨n, rfl⟩
      · exact ⟨rfl, _, rfl, _, rfl, .int (-1), iteTr rfl ⟨_, rfl, rfl, rfl⟩, hq _ _ (Same.refl _) ⟨_, hx, rfl⟩⟩
      · exact ⟨rfl, _, rfl, _, rfl, .int n, iteFa rfl ⟨_, rfl, rfl, rfl⟩, hq _ _ (Same.refl _) ⟨_, hx, rfl⟩⟩
    · refine q D H3 s3 ?_
      rw [hD]
      refine congrArg (fun z => some (HO.lst z)) (List.ext_getElem? fun i => ?_)
      rw [List.map_map, List.getElem?_map]
      by_cases hi : i < us.length
      · have hi2 : i < out.length := by omega
        obtain ⟨u, e1, e2⟩ := hrel i _ (List.getElem?_eq_getElem hi2)
        rw [List.getElem?_eq_getElem hi2, e1, e2]
        rfl
      · rw [List.getElem?_eq_none (by omega), List.getElem?_eq_none (by omega)]
        rfl
def spIsKey : Sp := fun vs H Q _ => ∃ (b : Addr) (ways worths : Int) (k : LK), vs = [.ref b, .int ways, .int worths] ∧ H b = some (.tup (k.map lfV)) ∧ KeyOk ways worths k ∧ ∀ H', Same H H' → Q (.bl true) H'
theorem all_true {n : Nat} {out : List V} (hl : out.length = n) (hr : ∀ (i : Nat) (v : V), out[i]? = some v → v = .bl true) : out = (List.replicate n true).map V.bl := by
  refine List.ext_getElem? fun i => ?_
  rw [List.map_replicate]
  by_cases hi : i < n
  · rw [List.getElem?_replicate, if_pos hi]
    have hi2 : i < out.length := by omega
    rw [List.getElem?_eq_getElem hi2, hr i _ (List.getElem?_eq_getElem hi2)]
  · rw [List.getElem?_eq_none (by omega), List.getElem?_eq_none (by rw [List.length_replicate]; omega)]
theorem rAll_true {n : Nat} {out : List V} {D : Addr} {H3 : Hp} {Q : VK} (hD : H3 D = some (.lst out)) (hl : out.length = n) (hr : ∀ (i : Nat) (v : V), out[i]? = some v → v = .bl true) (q : Q (.bl true) H3) : rAll K [.ref D] H3 Q := by
  refine ⟨D, List.replicate n true, rfl, .inl (.inl (all_true hl hr ▸ hD)), ?_⟩
  have e2 : (List.replicate n true).all id = true := by
    rw [List.all_eq_true]
    intro x hx
    rw [List.eq_of_mem_replicate hx]
    rfl
  rw [e2]
  exact q
theorem all_rep (n : Nat) : (List.replicate n true).all id = true := by
  rw [List.all_eq_true]
  intro x hx
  rw [List.eq_of_mem_replicate hx]
  rfl
theorem c_is_key (T : Top K mg) : Cal P w K mg base 3 "is_key" spIsKey [] := by
  refine T.d_is_key.cal sc_is_key (fun vs H Q E h => ?_) (fun f cdv A outer s H vs Q E hr h => ?_)
  · obtain ⟨i, a, b, c, rfl, _⟩ := h
    rfl
  · obtain ⟨b, ways, worths, k, rfl, hb, hk, q⟩ := h
    have g := c_is_within (P := P) (w := w) (base := base) T
    have hsq : SqA K H b (k.map lfV) := .inr hb
    refine ⟨_, pss_cons (ps_if (PW.pt (pw_or (pt_not (pt_val (pe_callB call_isiT rfl T.f_isinstance b_isinstance (pa_cons (pv 0) (pa_cons (pe_tup (pa_cons (pe_bltn (v := .ty "list") rfl T.f_list b_list rfl) (pa_cons (pe_bltn (v := .ty "tuple") rfl T.f_tuple b_tuple rfl) pa_nil))) pa_nil)))))
        (pw_or (pt_cmpR op_ne (pe_callB call_len_seq rfl T.f_len b_len (pa_cons (pv 0) pa_nil)) (pe_op op_add (pv 1) pe_int) (nomark _))
        (pw_or1 (pt_not (pt_val (pe_c g hr (pa_cons (pe_ix ix_tup (pv 0) pe_int (fun _ _ => rfl)) (pa_cons pe_int (pa_cons (pe_op op_sub (pv 2) pe_int) pa_nil)))))))))) (pss_one ps_never) pss_nil)
      (pss_one (ps_ret (pe_callB (cr_all rfl) rfl T.f_all b_all (pa_cons (pe_lc (own := [("each", 3)]) (g := gName 3) (tt := tYes) rfl sc_is_key.nd (pi_tup (pe_tup (pa_cons (pe_ix ix_tup (pv 0) pe_int (fun _ _ => rfl)) (pa_cons (pe_ix ix_tup (pv 0) (pe_un un_neg pe_int) (fun _ _ => rfl)) pa_nil)))) (blkOk_by (N := ["value", "ways", "worths", "each"]) (sc := defScope s_is_key) (by decide +kernel))
        (fun _ _ _ _ _ => pg_name (i := 3) sc_is_key.nd rfl (Or.inl rfl)) (fun _ _ _ _ _ => pts_nil) (fun _ _ _ _ _ => pe_or (pe_cmp (pc_isN (pv 3)) rfl) (pe_one (pe_c g hr (pa_cons (pv 3) (pa_cons pe_int (pa_cons (pe_op op_sub (pv 2) pe_int) pa_nil))))))) pa_nil)))), ?_⟩
    obtain ⟨l, o, hl, ho1, ho2, hkk⟩ := hk
    have tail : ∀ (l : Leaf) (r : Leaf) (H2 : Hp) (t : Addr), inW worths l → inW worths r → Same H H2 → H2 t = none → ∀ (D : Addr), (upd H2 t (.tup [lfV l, lfV r])) D = none → ∀ σ : L2.St, σ = [some (.ref b), some (.int ways), some (.int worths), none] → ∀ Qd : Hp → Prop, (∀ H3 out, Same (upd H2 t (.tup [lfV l, lfV r])) H3 → H3 D = some (.lst out) → out.length = 2 → (∀ (i : Nat) (v : V), out[i]? = some v → v = .bl true) → Qd H3) →
        ∃ W : Nat → Nat → Hp → Prop, (∃ m, W 0 m (upd (upd H2 t (.tup [lfV l, lfV r])) D (.lst []))) ∧ ∀ i m H, W i m H →
          ((Itt K t).stop i H ∧ Qd H) ∨ ((Itt K t).go i H ∧ ∃ Nx : Hp → Prop, (∀ H', Nx H' → ∃ m', m' < m ∧ W (i + 1) m' H') ∧ ∀ x H', (Itt K t).yld i H x H' → gName 3 x (wipe σ [3]) H' fun σ2 H2 => wipe σ2 [3] = wipe σ [3] ∧ tYes σ2 H2 fun b H3 =>
            if b = true then (tOrV (tIsN (tVar 3)) (tCall spWithin [] E0 (tCons (tVar 3) (tCons (tC (.int 0)) (tCons (tOp (rI0 fun i j => .int (i - j)) (tVar 2) (tC (.int 1))) tNil))))) σ2 H3 fun y H4 => ∃ acc, H4 D = some (.lst acc) ∧ acc.length < sizeLine ∧ Nx (upd H4 D (.lst (acc ++ [y]))) else Nx H3) := by
      intro l r H2 t hl hr2 s2 nt D nD σ es Qd hQd
      subst es
      refine lc_same (walk_tup (K := K) (a := t) (xs := [lfV l, lfV r])) nD (fun _ _ v => v = .bl true) (by show 2 ≤ 1000000; decide) (fun H3 s3 => .inl (.inl (s3 _ _ upd_same))) (fun _ _ _ _ _ e => e) (fun i x Hc Hc' hi sc y => ?_) fun H3 out s3 hD hlen hr => hQd H3 out s3 hD hlen hr
      obtain ⟨rfl, hx⟩ := y
      refine ⟨Same.refl _, fun Q' hq => ?_⟩
      have hx2 : ∃ z : Leaf, inW worths z ∧ x = lfV z := by
        rcases List.mem_cons.mp (List.mem_of_getElem? hx) with e | e
        · exact ⟨l, hl, e⟩
        · rcases List.mem_cons.mp e with e | e
          · exact ⟨r, hr2, e⟩
          · cases e
      obtain ⟨z, hz, rfl⟩ := hx2
      cases z with
      | none => exact ⟨rfl, _, rfl, _, rfl, iteTr rfl (hq _ _ (Same.refl _) rfl)⟩
      | text x => exact hz.elim
      | num n =>
        refine ⟨rfl, _, rfl, _, rfl, iteFa rfl ⟨_, rfl, _, rfl, _, _, rfl, rfl, n, 0, worths - 1, rfl, hq _ _ (Same.refl _) ?_⟩⟩
        rw [decide_eq_true hz.1, decide_eq_true (show n ≤ worths - 1 by have := hz.2; omega)]
        rfl
    rcases hkk with ⟨rfl, rfl⟩ | ⟨rfl, r, hr2, rfl⟩
    · refine ⟨_, rfl, rd_LT hsq fun H2 s2 => ⟨true, rfl, iteF ?_⟩⟩
      have hb2 := s2 _ _ hb
      refine ⟨_, rfl, b, _, rfl, .inr (.inl (.inl hb2)), _, rfl, _, _, rfl, rfl, rfl, _, rfl, iteFa rfl ?_⟩
      refine ⟨_, rfl, b, _, _, _, rfl, rfl, .inl (.inl hb2), rfl, _, rfl, _, _, rfl, rfl, o, 0, worths - 1, rfl, _, rfl, iteFa ?_ ?_⟩
      · rw [decide_eq_true ho1, decide_eq_true (show o ≤ worths - 1 by omega)]
        rfl
      · refine ⟨_, rfl, b, _, _, _, rfl, rfl, .inl (.inl hb2), rfl, _, rfl, _, rfl, b, _, _, _, rfl, rfl, .inl (.inl hb2), rfl, (by show 2 ≤ sizeLine; decide), fun t nt => ⟨t, rfl, ⟨_, .inl (.inl upd_same)⟩, fun D nD => ?_⟩⟩
        exact tail l (.num o) H2 t hl ⟨ho1, ho2⟩ s2 nt D nD _ rfl _ fun H3 out s3 hD hlen hrr => rAll_true hD hlen hrr (q _ ((s2.trans (Same.upd nt)).trans s3))
    · refine ⟨_, rfl, rd_LT hsq fun H2 s2 => ⟨true, rfl, iteF ?_⟩⟩
      have hb2 := s2 _ _ hb
      refine ⟨_, rfl, b, _, rfl, .inr (.inl (.inl hb2)), _, rfl, _, _, rfl, rfl, rfl, _, rfl, iteFa rfl ?_⟩
      refine ⟨_, rfl, b, _, _, _, rfl, rfl, .inl (.inl hb2), rfl, _, rfl, _, _, rfl, rfl, o, 0, worths - 1, rfl, _, rfl, iteFa ?_ ?_⟩
      · rw [decide_eq_true ho1, decide_eq_true (show o ≤ worths - 1 by omega)]
        rfl
      · refine ⟨_, rfl, b, _, _, _, rfl, rfl, .inl (.inl hb2), rfl, _, rfl, _, rfl, b, _, _, _, rfl, rfl, .inl (.inl hb2), rfl, (by show 2 ≤ sizeLine; decide), fun t nt => ⟨t, rfl, ⟨_, .inl (.inl upd_same)⟩, fun D nD => ?_⟩⟩
        exact tail l r H2 t hl hr2 s2 nt D nD _ rfl _ fun H3 out s3 hD hlen hrr => rAll_true hD hlen hrr (q _ ((s2.trans (Same.upd nt)).trans s3))
end
end BR
set_option Elab.async false
set_option linter.all false
set_option maxRecDepth 100000
/-! The rules of a table. -/
namespace BR
open PySem PySem.Spec PyProof.Rows L2
section
variable {P : Program} {w : World} {K : PySem.W.Frag} {mg : Str → Option Value} {base : Heap}
def spPairs (P : Program) (w : World) : Sp := fun vs H Q _ => ∃ (d : Addr) (xs : List DE), vs = [.ref d] ∧ DX P w H d xs ∧
  ∀ (H2 : Hp) (p : Addr) (ts : List Addr), Same H H2 → H2 p = some (.lst (ts.map V.ref)) → Paired (fun t (e : DE) => H2 t = some (.tup [.ref e.2.1, e.2.2])) ts xs → Q (.ref p) H2
theorem c_pairs_in (T : Top K mg) : Cal P w K mg base 1 "pairs_in" (spPairs P w) [] := by
  refine T.d_pairs_in.cal sc_pairs_in (fun vs H Q E h => ?_) (fun f cdv A outer s H vs Q E hr h => ?_)
  · obtain ⟨d, xs, rfl, _⟩ := h
    rfl
  · obtain ⟨d, xs, rfl, D, q⟩ := h
    refine ⟨_, pss_cons (ps_if (pt_val (pe_callB call_isi_x rfl T.f_isinstance b_isinstance (pa_cons (pv 0) (pa_cons (pe_bltn (v := .ty "dict") rfl T.f_dict b_dict rfl) pa_nil)))) (pss_one (ps_ret (pe_xitems rfl (pv 0) rfl T.f_list))) pss_nil) pss_never, ?_⟩
    refine ⟨_, rfl, d, xs, rfl, D, true, rfl, iteTr rfl ⟨_, rfl, d, xs, rfl, D, fun H2 p ts s2 np nts hp hpr => q H2 p ts s2 hp hpr⟩⟩
theorem not_taken {xs : List DE} (nd : (xs.map (·.1)).Nodup) {i : Nat} {x : DE} (h : xs[i]? = some x) : x.1 ∉ (xs.take i).map (·.1) := by
  intro hm
  obtain ⟨y, hy, e⟩ := List.mem_map.mp hm
  obtain ⟨j, hj⟩ := List.mem_iff_getElem?.mp hy
  rw [List.getElem?_take] at hj
  by_cases hji : j < i
  · rw [if_pos hji] at hj
    have a : (xs.map (·.1))[j]? = some x.1 := by rw [List.getElem?_map, hj]; exact congrArg some e
    have b : (xs.map (·.1))[i]? = some x.1 := by rw [List.getElem?_map, h]; rfl
    have := nd_ix nd a b
    omega
  · rw [if_neg hji] at hj
    cases hj
structure RulesOk (ways worths : Int) (xs : List DE) : Prop where
  nd : (xs.map (·.1)).Nodup
  key : ∀ x ∈ xs, KeyOk ways worths x.1
  val : ∀ x ∈ xs, ∃ v, x.2.2 = .int v ∧ 0 ≤ v ∧ v < worths
  few : xs.length ≤ 1000
theorem KeyOk.len {ways worths : Int} {k : LK} (h : KeyOk ways worths k) : (k.map lfV).length ≤ 3 ∧ ∀ u ∈ k.map lfV, u = .non ∨ ∃ i, u = .int i := by
  obtain ⟨l, o, h1, _, _, h2⟩ := h
  have one : ∀ l : Leaf, inW worths l → lfV l = .non ∨ ∃ i, lfV l = .int i := fun l hl => by
    cases l with
    | none => exact .inl rfl
    | num i => exact .inr ⟨i, rfl⟩
    | text x => exact hl.elim
  rcases h2 with ⟨_, rfl⟩ | ⟨_, r, hr, rfl⟩
  · refine ⟨by show 2 ≤ 3; decide, fun u hu => ?_⟩
    rcases List.mem_cons.mp hu with rfl | hu
    · exact one l h1
    · rcases List.mem_cons.mp hu with rfl | hu
      · exact .inr ⟨o, rfl⟩
      · cases hu
  · refine ⟨by show 3 ≤ 3; decide, fun u hu => ?_⟩
    rcases List.mem_cons.mp hu with rfl | hu
    · exact one l h1
    · rcases List.mem_cons.mp hu with rfl | hu
      · exact .inr ⟨o, rfl⟩
      · rcases List.mem_cons.mp hu with rfl | hu
        · exact one r hr
        · cases hu
def spRules (P : Program) (w : World) (K : PySem.W.Frag) : Sp := fun vs H Q _ => ∃ (d : Addr) (ways worths : Int) (xs : List DE), vs = [.ref d, .int ways, .int worths] ∧ DX P w H d xs ∧ RulesOk ways worths xs ∧
  ∀ (t : Addr) (o : Obj) (ts : List Addr) (es : List DE) (H' : Hp), Same H H' → H' t = some (.frz o (.tup (ts.map V.ref))) → o.dict = none → PrsAt K H' ts es → KAt H' es → (∀ k, valX (mergeX [] es) k = valX xs k) → Q (.ref t) H'
/-- what the sorted walk leaves -/
def RelS (xs : List DE) (out : List Addr) : Nat → Hp → V → Prop := fun j H v => ∃ (t b : Addr) (x : DE), out[j]? = some b ∧ x ∈ xs ∧ x.2.1 = b ∧ v = .ref t ∧ H t = some (.tup [.ref b, x.2.2])
theorem c_rules_from (T : Top K mg) : Cal P w K mg base 4 "rules_from" (spRules P w K) [] := by
  refine T.d_rules_from.cal sc_rules_from (fun vs H Q E h => ?_) (fun f cdv A outer s H vs Q E hr h => ?_)
  · obtain ⟨d, a, b, c, rfl, _⟩ := h
    rfl
  · obtain ⟨d, ways, worths, xs, rfl, D0, hok, q⟩ := h
    have gp := c_pairs_in (P := P) (w := w) (base := base) T
    have gk := c_is_key (P := P) (w := w) (base := base) T
    have gw := c_is_within (P := P) (w := w) (base := base) T
    obtain ⟨fk, fdk, Fk, hmk, bk⟩ := c_key_order (P := P) (w := w) (base := base) T
    have hu := hu_of hr
    have hu0 : (A.deeper (envOfC "rules_from" (defScope s_rules_from) s.heap.objs.size f cdv)).units < cLine := by omega
    have sz := sizeLine_eq
    refine ⟨_, pss_cons (ps_set (i := 3) sc_rules_from.nd rfl (by first | exact Or.inl rfl | exact Or.inr rfl) (pe_c gp hr (pa_cons (pv 0) pa_nil)))
      (pss_cons (ps_if (PW.pt (pw_or (pt_cmp (pc_isN (pv 3)) rfl) (pw_or1 (pt_not (pt_val (pe_callB (cr_all rfl) rfl T.f_all b_all (pa_cons (pe_lc (own := [("key", 5), ("own", 6)]) (g := gTup K 2 (gCons (gName 5) (gCons (gName 6) gNil))) (tt := tYes) rfl sc_rules_from.nd (pi_list (pv 3)) (blkOk_by (N := ["value", "ways", "worths", "pairs", "found", "key", "own"]) (sc := defScope s_rules_from) (by decide +kernel))
          (fun _ _ _ _ _ => pg_tup rfl (pgs_cons (pg_name (i := 5) sc_rules_from.nd rfl (Or.inl rfl)) (pgs_cons (pg_name (i := 6) sc_rules_from.nd rfl (Or.inl rfl)) pgs_nil))) (fun _ _ _ _ _ => pts_nil)
          (fun _ _ _ _ _ => pe_and (pe_c gk hr (pa_cons (pv 5) (pa_cons (pv 1) (pa_cons (pv 2) pa_nil)))) (pe_one (pe_c gw hr (pa_cons (pv 6) (pa_cons pe_int (pa_cons (pe_op op_sub (pv 2) pe_int) pa_nil))))))) pa_nil))))))) (pss_one ps_never) pss_nil)
      (pss_cons (ps_set (i := 4) sc_rules_from.nd rfl (by first | exact Or.inl rfl | exact Or.inr rfl) (pe_dcX (own := [("key", 5), ("own", 6)]) (g := gTup K 2 (gCons (gName 5) (gCons (gName 6) gNil))) hu0 rfl sc_rules_from.nd (pi_list (pv 3)) (blkOk_by (N := ["value", "ways", "worths", "pairs", "found", "key", "own"]) (sc := defScope s_rules_from) (by decide +kernel))
          (fun _ _ _ _ _ => pg_tup rfl (pgs_cons (pg_name (i := 5) sc_rules_from.nd rfl (Or.inl rfl)) (pgs_cons (pg_name (i := 6) sc_rules_from.nd rfl (Or.inl rfl)) pgs_nil)))
          (fun _ _ _ _ _ => pe_callTy (r := fun xs H Q => ∃ a ys, xs = [.ref a] ∧ SqT K H a ys ∧ Q (.ref a) H) call_tupleT rfl T.f_tuple b_tuple (pa_cons (pv 5) pa_nil)) (fun _ _ _ _ _ => pv 6)))
      (pss_cons (ps_if (pt_cmpR op_lt (pe_callB call_len_x rfl T.f_len b_len (pa_cons (pv 4) pa_nil)) (pe_callB call_len_seq rfl T.f_len b_len (pa_cons (pv 3) pa_nil)) (nomark _)) (pss_one ps_never) pss_nil)
      (pss_one (ps_ret (pe_callTy call_tuple_frz rfl T.f_tuple b_tuple (pa_cons (pe_lc (own := [("key", 5)]) (g := gName 5) (tt := tYes) (te := tTup (tCons (tVar 5) (tCons (tXGet P w (tVar 4) (tVar 5)) tNil))) rfl sc_rules_from.nd
          (pi_list (pe_callBK (cr_sortedX (ord := ordA H) Fk bk hr rfl) rfl T.f_sorted b_sorted (pa_cons (pv 4) pa_nil) (pk_cons (pe_glob (v := .ref fk) rfl hmk rfl) pk_nil))) (blkOk_by (N := ["value", "ways", "worths", "pairs", "found", "key", "own"]) (sc := defScope s_rules_from) (by decide +kernel))
          (fun _ _ _ _ _ => pg_name (i := 5) sc_rules_from.nd rfl (Or.inl rfl)) (fun _ _ _ _ _ => pts_nil) (fun _ _ _ _ _ => pe_tup (pa_cons (pv 5) (pa_cons (pe_xget hu (pv 4) (pv 5) (fun _ _ => rfl)) pa_nil)))) pa_nil))))))), ?_⟩
    refine ⟨_, rfl, d, xs, rfl, D0, fun H1 p ts s1 hp hprs => ?_⟩
    have hlen := Paired.length hprs
    have key0 : ∀ x ∈ xs, H x.2.1 = some (.tup (x.1.map lfV)) := D0.keys
    have pr : ∀ {i : Nat} {v : V}, (ts.map V.ref)[i]? = some v → ∃ t x, v = .ref t ∧ xs[i]? = some x ∧ H1 t = some (.tup [.ref x.2.1, x.2.2]) := fun {i v} hv => by
      obtain ⟨t, ht, rfl⟩ := map_get hv
      obtain ⟨x, hx, hh⟩ := paired_get hprs ht
      exact ⟨t, x, rfl, hx, hh⟩
    refine ⟨_, rfl, _, rfl, iteFa rfl ⟨_, rfl, p, rfl, ⟨_, .inl (.inl hp)⟩, fun D nD => lc_same (walk_list (K := K) (xs := ts.map V.ref)) nD (fun _ _ v => v = .bl true) (by rw [List.length_map]; have := hok.few; omega) (fun H3 s3 => .inl (.inl (s3 _ _ hp))) (fun _ _ _ _ _ e => e) (fun i v Hc Hc' hi sc y => ?_) fun H3 out s3 hD hl3 hr3 => ⟨D, List.replicate (ts.map V.ref).length true, rfl, .inl (.inl (all_true hl3 hr3 ▸ hD)), _, rfl, iteFa (by rw [all_rep] <;> rfl) ?_⟩⟩⟩
    · obtain ⟨rfl, hx⟩ := y
      refine ⟨Same.refl _, fun Q' hq => ?_⟩
      obtain ⟨t, x, rfl, hx2, ht⟩ := pr hx
      have hm := List.mem_of_getElem? hx2
      obtain ⟨vv, hv1, hv2, hv3⟩ := hok.val x hm
      refine ⟨t, _, rfl, .inl (.inl (sc _ _ ht)), rfl, _, _, rfl, _, _, rfl, rfl, rfl, ?_⟩
      refine ⟨_, rfl, _, rfl, _, rfl, x.2.1, ways, worths, x.1, rfl, sc _ _ (s1 _ _ (key0 x hm)), hok.key x hm, fun H4 s4 => ⟨true, rfl, iteTr rfl ?_⟩⟩
      refine ⟨_, rfl, _, rfl, _, _, rfl, rfl, vv, 0, worths - 1, by rw [hv1] <;> rfl, hq _ _ s4 ?_⟩
      rw [decide_eq_true hv2, decide_eq_true (show vv ≤ worths - 1 by omega)]
      rfl
    · -- the dict again
      have hp3 := s3 _ _ hp
      refine ⟨_, rfl, p, rfl, ⟨_, .inl (.inl hp3)⟩, fun D2 nD2 => dcX_list (K := K) (a := p) (vs0 := ts.map V.ref) (fun i H4 => Same H3 H4 ∧ H4 D2 = some (dX P w D2 (xs.take i))) ⟨Same.upd nD2, upd_same⟩ (fun i H4 _ hP => .inl (.inl (hP.1 _ _ hp3))) (fun i v H4 hx hP => ?_) fun H4 hP => ?_⟩
      · obtain ⟨s4, hD4⟩ := hP
        obtain ⟨t, x, rfl, hx2, ht⟩ := pr hx
        have hm := List.mem_of_getElem? hx2
        have s04 := (s1.trans s3).trans s4
        refine ⟨t, _, rfl, .inl (.inl (s4 _ _ (s3 _ _ ht))), rfl, _, _, rfl, _, _, rfl, rfl, rfl, ?_⟩
        have hkb := s04 _ _ (key0 x hm)
        refine ⟨_, rfl, x.2.1, _, rfl, .inl (.inl hkb), _, rfl, xs.take i, x.1, x.2.1, rfl, ⟨hD4, fun z hz => s04 _ _ (key0 z (List.mem_of_mem_take hz))⟩, hkb, ?_, s4.updI nD2, ?_⟩
        · have := hok.few
          rw [List.length_take]
          omega
        · rw [upd_same, putX_new _ _ (valX_none (not_taken hok.nd hx2))]
          refine congrArg (fun z => some (dX P w D2 z)) ?_
          rw [List.take_add_one, hx2]
          rfl
      · obtain ⟨s4, hD4⟩ := hP
        rw [List.length_map, hlen, List.take_length] at hD4
        have s04 := (s1.trans s3).trans s4
        have DD : DX P w H4 D2 xs := ⟨hD4, fun z hz => s04 _ _ (key0 z hz)⟩
        refine ⟨_, rfl, D2, xs, rfl, DD, _, rfl, p, _, rfl, .inl (.inl (.inl (s4 _ _ hp3))), _, _, rfl, rfl, _, rfl, iteFa (decide_eq_false ?_) ?_⟩
        · rw [List.length_map, hlen]
          omega
        · refine ⟨_, rfl, D2, xs, rfl, rfl, DD, (fun x hx Hs Q' ss hq => ?_), fun H5 a out s5 na ha hperm => ⟨a, rfl, ⟨_, .inl (.inl ha)⟩, fun D3 nD3 => lc_same (walk_list (K := K) (xs := out.map V.ref)) nD3 (RelS xs out) ?_ (fun H3 s3 => .inl (.inl (s3 _ _ ha))) (fun i Ha Hb v k hR => ?_) (fun i v Hc Hc' hi sc y => ?_) fun H6 o6 s6 hD6 hl6 hr6 => ?_⟩⟩
          · obtain ⟨z1, z2⟩ := (hok.key x hx).len
            refine ⟨x.2.1, x.1.map lfV, rfl, ss _ _ (DD.keys x hx), z1, z2, fun q0 H' s' hq0 => hq H' q0 s' ?_⟩
            rw [hq0]
            have eo : ordA H x.2.1 = (x.1.map lfV).map ordV := by
              unfold ordA
              rw [key0 x hx]
            rw [eo]
          · have e := hperm.length_eq
            rw [List.length_map] at e ⊢
            have := hok.few
            omega
          · obtain ⟨t, b, x, h1, h2, h3, h4, h5⟩ := hR
            exact ⟨t, b, x, h1, h2, h3, h4, k _ _ h5 (fun z e => nomatch e)⟩
          · obtain ⟨rfl, hx⟩ := y
            refine ⟨Same.refl _, fun Q' hq => ?_⟩
            obtain ⟨b, hb, rfl⟩ := map_get hx
            have hbm : b ∈ xs.map fun x => x.2.1 := hperm.mem_iff.mp (List.mem_of_getElem? hb)
            obtain ⟨x, hxm, rfl⟩ := List.mem_map.mp hbm
            have DDc := DD.keep (Keep.of (s5.trans sc))
            refine ⟨rfl, _, rfl, _, rfl, _, rfl, D2, xs, x.1, x.2.1, x.2.2, rfl, DDc, rfl, DDc.keys x hxm, valX_of_mem hok.nd hxm, (by show 2 ≤ sizeLine; omega), fun t nt => hq _ _ (Same.upd nt) ⟨t, x.2.1, x, hb, hxm, rfl, rfl, upd_same⟩⟩
          · have s06 := (s04.trans s5).trans s6
            refine ⟨D3, o6, rfl, .inl (.inl hD6), fun l ob nl hob => ?_⟩
            obtain ⟨m, hml, hm⟩ := choose_list (l := o6) (Pr := fun j v (z : Addr × DE) => out[j]? = some z.2.2.1 ∧ z.2 ∈ xs ∧ v = .ref z.1 ∧ H6 z.1 = some (.tup [.ref z.2.2.1, z.2.2.2])) (fun j v e => by
              obtain ⟨t, b, x, h1, h2, h3, h4, h5⟩ := hr6 j v e
              subst h3
              exact ⟨(t, x), h1, h2, h4, h5⟩)
            have eo : o6 = (m.map (·.1)).map V.ref := by
              refine List.ext_getElem? fun j => ?_
              rw [List.map_map, List.getElem?_map]
              cases e1 : o6[j]? with
              | none => rw [List.getElem?_eq_none (by rw [hml]; exact List.getElem?_eq_none_iff.mp e1)] <;> rfl
              | some v =>
                obtain ⟨hj, _⟩ := List.getElem?_eq_some_iff.mp e1
                have hj2 : j < m.length := by omega
                rw [List.getElem?_eq_getElem hj2]
                obtain ⟨_, _, h3, _⟩ := hm j v _ e1 (List.getElem?_eq_getElem hj2)
                rw [h3]
                rfl
            have sl := Same.upd (o := .frz ob (.tup o6)) nl
            have at2 : ∀ (j : Nat) (z : Addr × DE), m[j]? = some z → out[j]? = some z.2.2.1 ∧ z.2 ∈ xs ∧ H6 z.1 = some (.tup [.ref z.2.2.1, z.2.2.2]) := fun j z e => by
              obtain ⟨hj, _⟩ := List.getElem?_eq_some_iff.mp e
              have hj2 : j < o6.length := by omega
              obtain ⟨h1, h2, _, h4⟩ := hm j _ z (List.getElem?_eq_getElem hj2) e
              exact ⟨h1, h2, h4⟩
            refine q l ob (m.map (·.1)) (m.map (·.2)) _ (s06.trans sl) ?_ hob ?_ ?_ ?_
            · rw [upd_same, eo]
            · refine paired_of_at (by rw [List.length_map, List.length_map]) fun j t e h1 h2 => ?_
              obtain ⟨z, hz, rfl⟩ := map_get h1
              obtain ⟨z', hz', rfl⟩ := map_get h2
              rw [hz] at hz'
              cases hz'
              exact .inl (.inl (sl _ _ (at2 j z hz).2.2))
            · intro e he
              obtain ⟨z, hz, rfl⟩ := List.mem_map.mp he
              obtain ⟨j, hj⟩ := List.mem_iff_getElem?.mp hz
              exact sl _ _ (s06 _ _ (key0 _ (at2 j z hj).2.1))
            · refine merge_all hok.nd (fun e he => ?_) fun x hx => ?_
              · obtain ⟨z, hz, rfl⟩ := List.mem_map.mp he
                obtain ⟨j, hj⟩ := List.mem_iff_getElem?.mp hz
                exact (at2 j z hj).2.1
              · have hb : x.2.1 ∈ out := hperm.mem_iff.mpr (List.mem_map_of_mem hx)
                obtain ⟨j, hj⟩ := List.mem_iff_getElem?.mp hb
                obtain ⟨hjl, _⟩ := List.getElem?_eq_some_iff.mp hj
                have hj2 : j < m.length := by rw [hml, hl6, List.length_map]; exact hjl
                obtain ⟨h1, h2, _⟩ := at2 j _ (List.getElem?_eq_getElem hj2)
                refine ⟨(m[j]).2, List.mem_map_of_mem (List.getElem_mem hj2), ?_⟩
                rw [hj] at h1
                have ea := Option.some.inj h1
                have k1 := key0 x hx
                have k2 := key0 _ h2
                rw [← ea, k1] at k2
                injection k2 with k2
                injection k2 with k2
                exact (keys_inj k2).symm
end
end BR
set_option Elab.async false
set_option linter.all false
set_option maxRecDepth 100000
/-! The yes of a table, the table made. -/
namespace BR
open PySem PySem.Spec PyProof.Rows L2
section
variable {P : Program} {w : World} {K : PySem.W.Frag} {mg : Str → Option Value} {base : Heap}
structure YesOk (worths : Int) (ys : List Int) : Prop where
  nd : ys.Nodup
  rng : ∀ y ∈ ys, 0 ≤ y ∧ y < worths
  few : ys.length < 64
def spYes : Sp := fun vs H Q _ => ∃ (a : Addr) (worths : Int) (ys : List Int), vs = [.ref a, .int worths] ∧ H a = some (.lst (ys.map V.int)) ∧ YesOk worths ys ∧
  ∀ (t : Addr) (zs : List Int) (H' : Hp), Same H H' → H' t = some (.tup (zs.map V.int)) → (∀ v, v ∈ zs ↔ v ∈ ys) → Q (.ref t) H'
theorem c_worths_from (T : Top K mg) : Cal P w K mg base 3 "worths_from" spYes [] := by
  refine T.d_worths_from.cal sc_worths_from (fun vs H Q E h => ?_) (fun f cdv A outer s H vs Q E hr h => ?_)
  · obtain ⟨d, a, b, rfl, _⟩ := h
    rfl
  · obtain ⟨a, worths, ys, rfl, ha, hok, q⟩ := h
    have gw := c_is_within (P := P) (w := w) (base := base) T
    have hsq : SqA K H a (ys.map V.int) := .inl ha
    have hfew := hok.few
    refine ⟨_, pss_cons (ps_if (PW.pt (pw_or (pt_not (pt_val (pe_callB call_isiT rfl T.f_isinstance b_isinstance (pa_cons (pv 0) (pa_cons (pe_tup (pa_cons (pe_bltn (v := .ty "list") rfl T.f_list b_list rfl) (pa_cons (pe_bltn (v := .ty "tuple") rfl T.f_tuple b_tuple rfl) pa_nil))) pa_nil)))))
        (pw_or1 (pt_not (pt_val (pe_callB (cr_all rfl) rfl T.f_all b_all (pa_cons (pe_lc (own := [("each", 2)]) (g := gName 2) (tt := tYes) rfl sc_worths_from.nd (pi_list (pv 0)) (blkOk_by (N := ["value", "worths", "each"]) (sc := defScope s_worths_from) (by decide +kernel))
          (fun _ _ _ _ _ => pg_name (i := 2) sc_worths_from.nd rfl (Or.inl rfl)) (fun _ _ _ _ _ => pts_nil) (fun _ _ _ _ _ => pe_c gw hr (pa_cons (pv 2) (pa_cons pe_int (pa_cons (pe_op op_sub (pv 1) pe_int) pa_nil))))) pa_nil))))))) (pss_one ps_never) pss_nil)
      (pss_cons (ps_if (pt_cmpR op_lt (RZ.pe_lenSetI rfl T.f_len rfl T.f_set (pv 0)) (pe_callB call_len_seq rfl T.f_len b_len (pa_cons (pv 0) pa_nil)) (nomark _)) (pss_one ps_never) pss_nil)
      (pss_one (ps_ret (pe_callTy call_tuple_of rfl T.f_tuple b_tuple (pa_cons (pe_callB cr_sorted rfl T.f_sorted b_sorted (pa_cons (pv 0) pa_nil)) pa_nil))))), ?_⟩
    refine ⟨_, rfl, rd_LT hsq fun H2 s2 => ⟨true, rfl, iteF ?_⟩⟩
    have ha2 := s2 _ _ ha
    refine ⟨_, rfl, a, rfl, ⟨_, .inl (.inl ha2)⟩, fun D nD => lc_same (walk_list (K := K) (xs := ys.map V.int)) nD (fun _ _ v => v = .bl true) (by rw [List.length_map]; omega) (fun H3 s3 => .inl (.inl (s3 _ _ ha2))) (fun _ _ _ _ _ e => e) (fun i v Hc Hc' hi sc y => ?_) fun H3 out s3 hD hl3 hr3 => ⟨D, List.replicate (ys.map V.int).length true, rfl, .inl (.inl (all_true hl3 hr3 ▸ hD)), _, rfl, iteFa (by rw [all_rep] <;> rfl) ?_⟩⟩
    · obtain ⟨rfl, hx⟩ := y
      refine ⟨Same.refl _, fun Q' hq => ?_⟩
      obtain ⟨n, hn, rfl⟩ := map_get hx
      obtain ⟨h0, h1⟩ := hok.rng n (List.mem_of_getElem? hn)
      refine ⟨rfl, _, rfl, _, rfl, _, _, rfl, rfl, n, 0, worths - 1, rfl, hq _ _ (Same.refl _) ?_⟩
      rw [decide_eq_true h0, decide_eq_true (show n ≤ worths - 1 by omega)]
      rfl
    · have ha3 := s3 _ _ ha2
      refine ⟨_, rfl, a, ys, rfl, .inl (.inl ha3), hok.nd, (by omega), _, rfl, a, _, rfl, .inl (.inl (.inl ha3)), _, _, rfl, rfl, _, rfl, iteFa (decide_eq_false ?_) ?_⟩
      · rw [List.length_map]
        omega
      · refine ⟨_, rfl, a, ys, rfl, .inl (.inl ha3), hfew, fun zs p hperm hsort np => ⟨p, _, rfl, .inl ⟨.inl (.inl upd_same), fun l nl => ?_⟩⟩⟩
        exact q l zs _ (((s2.trans s3).trans (Same.upd np)).trans (Same.upd nl)) upd_same fun v => hperm.mem_iff
def spTable (P : Program) (w : World) (K : PySem.W.Frag) (tab : Tab) (yes : List Int) (ways letters worths : Int) : Sp := fun vs H Q _ => ∃ (p d a dx : Addr) (xs : List DE), vs = [.ref p, .int ways, .int letters, .int worths, .ref d, .ref a] ∧ H p = some (.ins (cT K) dx []) ∧
  (ways = 1 ∨ ways = 2) ∧ 1 ≤ letters ∧ letters ≤ 6 ∧ letters ≤ worths ∧ worths ≤ 12 ∧ DX P w H d xs ∧ RulesOk ways worths xs ∧ (∀ k, valX xs k = (tab k).map V.int) ∧ H a = some (.lst (yes.map V.int)) ∧ YesOk worths yes ∧
  ∀ H', Mk1 p H H' → TabAt P w K tab yes ways letters H' p → Q .non H'
theorem Mk1.of {p : Addr} {H H' : Hp} (s : Same H H') : Mk1 p H H' := fun b o e _ => s b o e
theorem Mk1.trans {p : Addr} {H H1 H2 : Hp} (a : Mk1 p H H1) (b : Mk1 p H1 H2) : Mk1 p H H2 := fun c o e n => b c o (a c o e n) n
theorem Mk1.upd {p : Addr} {H : Hp} {o : HO} : Mk1 p H (L2.upd H p o) := fun b u e n => by rw [upd_ne n]; exact e
theorem DX.mk1 {H H' : Hp} {p d C dx : Addr} {fs : List (Str × V)} {xs : List DE} (m : Mk1 p H H') (hp : H p = some (.ins C dx fs)) (D : DX P w H d xs) : DX P w H' d xs :=
  ⟨m _ _ D.at_ (ne_of D.at_ hp (fun z => nomatch z)), fun x hx => m _ _ (D.keys x hx) (ne_of (D.keys x hx) hp (fun z => nomatch z))⟩
theorem KAt.put {H : Hp} {acc : List DE} {k : LK} {b : Addr} {v : V} (h : KAt H acc) (hb : H b = some (.tup (k.map lfV))) : KAt H (putX acc k b v) := by
  intro z hz
  unfold putX at hz
  split at hz
  · obtain ⟨z0, hz0, ez⟩ := List.mem_map.mp hz
    split at ez
    · rw [← ez]; exact h z0 hz0
    · rw [← ez]; exact h z0 hz0
  · rcases List.mem_append.mp hz with hz | hz
    · exact h z hz
    · cases List.mem_singleton.mp hz
      exact hb
theorem KAt.merge {H : Hp} : ∀ (l acc : List DE), KAt H l → KAt H acc → KAt H (mergeX acc l)
  | [], _, _, h => h
  | e :: l, acc, h1, h2 => KAt.merge l (putX acc e.1 e.2.1 e.2.2) (fun z hz => h1 z (List.mem_cons_of_mem _ hz)) (KAt.put h2 (h1 e (List.mem_cons_self ..)))
/-- the attributes of a table -/
abbrev tfs (a b c d e f : V) : List (Str × V) := putF "by_key" f (putF "yes" e (putF "rules" d (putF "worths" c (putF "letters" b (putF "ways" a [])))))
theorem k_tb (T : Top K mg) {tab : Tab} {yes : List Int} {ways letters worths : Int} : Mak P w K mg base 5 "Table" (cT K) (spTable P w K tab yes ways letters worths) := by
  refine T.k_tb_init.mak sc_tb_init (fun vs H Q E h => ?_) (fun f cdv A outer s H vs Q E hr h => ?_)
  · obtain ⟨p, d, a, dx, xs, rfl, _⟩ := h
    rfl
  · obtain ⟨p, d, a, dx, xs, rfl, hp, hw, hl1, hl6, hlw, hw12, D, hok, htab, ha, hyes, q⟩ := h
    have gw := c_is_within (P := P) (w := w) (base := base) T
    have gr := c_rules_from (P := P) (w := w) (base := base) T
    have gy := c_worths_from (P := P) (w := w) (base := base) T
    have hu2 : (A.deeper (envOfC "Table.__init__" (defScope s_tb_init) s.heap.objs.size f cdv)).units + 2 < cLine := by have := hr.un; omega
    refine ⟨_, pss_cons (ps_if (pt_not (pt_val (pe_c gw hr (pa_cons (pv 1) (pa_cons (pe_gi T.i_ONE_WAY) (pa_cons (pe_gi T.i_TWO_WAYS) pa_nil)))))) (pss_one ps_never) pss_nil)
      (pss_cons (ps_if (pt_not (pt_val (pe_c gw hr (pa_cons (pv 2) (pa_cons pe_int (pa_cons (pe_gi T.i_MOST_LETTERS) pa_nil)))))) (pss_one ps_never) pss_nil)
      (pss_cons (ps_if (pt_not (pt_val (pe_c gw hr (pa_cons (pv 3) (pa_cons (pv 2) (pa_cons (pe_gi T.i_MOST_WORTHS) pa_nil)))))) (pss_one ps_never) pss_nil)
      (pss_cons (ps_asg (pe_tup (pa_cons (pv 1) (pa_cons (pv 2) (pa_cons (pv 3) pa_nil)))) (pg_tup rfl (pgs_cons (pg_fld (pv 0)) (pgs_cons (pg_fld (pv 0)) (pgs_cons (pg_fld (pv 0)) pgs_nil)))))
      (pss_cons (ps_fld (pv 0) (pe_c gr hr (pa_cons (pv 4) (pa_cons (pv 1) (pa_cons (pv 3) pa_nil)))) rfl)
      (pss_cons (ps_fld (pv 0) (pe_c gy hr (pa_cons (pv 5) (pa_cons (pv 3) pa_nil))) rfl)
      (pss_one (ps_fld (pv 0) (pe_callTy (call_dict_t hu2 rfl) rfl T.f_dict b_dict (pa_cons (pe_fld (pv 0) rfl) pa_nil)) rfl))))))), ?_⟩
    refine ⟨_, rfl, ways, 1, 2, rfl, _, rfl, iteFa ?_ ?_⟩
    · rcases hw with rfl | rfl <;> decide
    refine ⟨_, rfl, letters, 1, 6, rfl, _, rfl, iteFa ?_ ?_⟩
    · rw [decide_eq_true hl1, decide_eq_true hl6] <;> rfl
    refine ⟨_, rfl, _, rfl, worths, letters, 12, rfl, _, rfl, iteFa ?_ ?_⟩
    · rw [decide_eq_true hlw, decide_eq_true hw12] <;> rfl
    refine ⟨_, rfl, _, rfl, _, rfl, (by show 3 ≤ sizeLine; decide), fun t nt => ?_⟩
    have s1 := Same.upd (o := .tup [V.int ways, .int letters, .int worths]) nt
    have hp1 := s1 _ _ hp
    refine ⟨t, _, rfl, .inl (.inl upd_same), rfl, ?_⟩
    generalize hH1 : upd H t (.tup [V.int ways, .int letters, .int worths]) = H1 at *
    refine ⟨_, _, rfl, _, rfl, p, _, dx, [], rfl, hp1, T.cl_Table, T.na_Table_ways, (by decide), ?_⟩
    refine ⟨_, _, rfl, _, rfl, p, _, dx, _, rfl, upd_same, T.cl_Table, T.na_Table_letters, (by show 1 < 1000; decide), ?_⟩
    rw [upd_upd]
    refine ⟨_, _, rfl, _, rfl, p, _, dx, _, rfl, upd_same, T.cl_Table, T.na_Table_worths, Nat.lt_of_le_of_lt (lp (lp (Nat.le_refl 0))) (by decide), ?_⟩
    rw [upd_upd]
    refine ⟨rfl, ?_⟩
    -- the rules
    have m1 : Mk1 p H (upd H1 p (.ins (cT K) dx (putF "worths" (.int worths) (putF "letters" (.int letters) (putF "ways" (.int ways) []))))) := (Mk1.of s1).trans Mk1.upd
    generalize hH2 : upd H1 p (.ins (cT K) dx (putF "worths" (.int worths) (putF "letters" (.int letters) (putF "ways" (.int ways) [])))) = H2 at *
    have hp2 : H2 p = some (.ins (cT K) dx (putF "worths" (.int worths) (putF "letters" (.int letters) (putF "ways" (.int ways) [])))) := by rw [← hH2]; exact upd_same
    refine ⟨_, rfl, _, rfl, _, rfl, d, ways, worths, xs, rfl, DX.mk1 m1 hp D, hok, fun t3 ob ts es H3 s3 ht3 hob hpr hka hval => ?_⟩
    have hp3 := s3 _ _ hp2
    refine ⟨_, rfl, p, _, dx, _, rfl, hp3, T.cl_Table, T.na_Table_rules, Nat.lt_of_le_of_lt (lp (lp (lp (Nat.le_refl 0)))) (by decide), ?_⟩
    have m3 : Mk1 p H H3 := m1.trans (Mk1.of s3)
    have m4 : Mk1 p H3 (upd H3 p (.ins (cT K) dx (putF "rules" (.ref t3) (putF "worths" (.int worths) (putF "letters" (.int letters) (putF "ways" (.int ways) [])))))) := Mk1.upd
    generalize hH4 : upd H3 p (.ins (cT K) dx (putF "rules" (.ref t3) (putF "worths" (.int worths) (putF "letters" (.int letters) (putF "ways" (.int ways) []))))) = H4 at *
    have hp4 : H4 p = some (.ins (cT K) dx (putF "rules" (.ref t3) (putF "worths" (.int worths) (putF "letters" (.int letters) (putF "ways" (.int ways) []))))) := by rw [← hH4]; exact upd_same
    have ha4 := (m3.trans m4) _ _ ha (ne_of ha hp (fun z => nomatch z))
    -- the yes
    refine ⟨_, rfl, _, rfl, a, worths, yes, rfl, ha4, hyes, fun y zs H5 s5 hy hmem => ?_⟩
    have hp5 := s5 _ _ hp4
    refine ⟨_, rfl, p, _, dx, _, rfl, hp5, T.cl_Table, T.na_Table_yes, Nat.lt_of_le_of_lt (lp (lp (lp (lp (Nat.le_refl 0))))) (by decide), ?_⟩
    have m6 : Mk1 p H5 (upd H5 p (.ins (cT K) dx (putF "yes" (.ref y) (putF "rules" (.ref t3) (putF "worths" (.int worths) (putF "letters" (.int letters) (putF "ways" (.int ways) []))))))) := Mk1.upd
    generalize hH6 : upd H5 p (.ins (cT K) dx (putF "yes" (.ref y) (putF "rules" (.ref t3) (putF "worths" (.int worths) (putF "letters" (.int letters) (putF "ways" (.int ways) [])))))) = H6 at *
    have hp6 : H6 p = some (.ins (cT K) dx (putF "yes" (.ref y) (putF "rules" (.ref t3) (putF "worths" (.int worths) (putF "letters" (.int letters) (putF "ways" (.int ways) [])))))) := by rw [← hH6]; exact upd_same
    have m36 : Mk1 p H3 H6 := (m4.trans (Mk1.of s5)).trans m6
    have ht6 := m36 _ _ ht3 (ne_of ht3 hp3 (fun z => nomatch z))
    have hy6 := m6 _ _ hy (ne_of hy hp5 (fun z => nomatch z))
    have k36 : Keep H3 H3 := Keep.refl _
    have hpr6 : PrsAt K H6 ts es := by
      have go : ∀ {t : Addr} {us : List V}, SqT K H3 t us → SqT K H6 t us := fun {t us} h => by
        rcases h with (h | ⟨o, h⟩) | h
        · exact .inl (.inl (m36 _ _ h (ne_of h hp3 (fun z => nomatch z))))
        · exact .inl (.inr ⟨o, m36 _ _ h (ne_of h hp3 (fun z => nomatch z))⟩)
        · exact .inr h
      exact Paired.mapP hpr fun _ _ h => go h
    have hka6 : KAt H6 es := fun e he => m36 _ _ (hka e he) (ne_of (hka e he) hp3 (fun z => nomatch z))
    -- by_key
    refine ⟨_, rfl, p, _, dx, _, _, rfl, hp6, T.cl_Table, T.na_Table_rules, (by rw [lk_ne (by decide +kernel), lk_eq]), t3, ob, ts, es, rfl, ht6, hob, hpr6, hka6, fun d7 nd7 => ?_⟩
    have s7 := Same.upd (o := dX P w d7 (mergeX [] es)) nd7
    have D7 : DX P w (upd H6 d7 (dX P w d7 (mergeX [] es))) d7 (mergeX [] es) := by
      refine ⟨upd_same, fun x hx => s7 _ _ ?_⟩
      exact KAt.merge es [] hka6 (fun z hz => by cases hz) x hx
    have hp7 := s7 _ _ hp6
    refine ⟨_, rfl, p, _, dx, _, rfl, hp7, T.cl_Table, T.na_Table_by_key, Nat.lt_of_le_of_lt (lp (lp (lp (lp (lp (Nat.le_refl 0)))))) (by decide), ?_⟩
    refine q _ (((((m3.trans m36).trans (Mk1.of s7)).trans Mk1.upd))) ?_
    refine ⟨dx, _, d7, y, mergeX [] es, zs, upd_same, ?_, ?_, lk_eq, ?_, ?_, ?_, ?_, DX.mk1 Mk1.upd hp7 D7, fun k => (hval k).trans (htab k), ?_, hmem⟩
    · rw [lk_ne (by decide +kernel), lk_ne (by decide +kernel), lk_ne (by decide +kernel), lk_ne (by decide +kernel), lk_ne (by decide +kernel), lk_eq]
    · rw [lk_ne (by decide +kernel), lk_ne (by decide +kernel), lk_ne (by decide +kernel), lk_ne (by decide +kernel), lk_eq]
    · rw [lk_ne (by decide +kernel), lk_eq]
    · rw [lk_ne (by decide +kernel), lk_ne (by decide +kernel), lk_ne (by decide +kernel), lk_ne (by decide +kernel), lk_ne (by decide +kernel), lk_ne (by decide +kernel)] <;> rfl
    · rw [lk_ne (by decide +kernel), lk_ne (by decide +kernel), lk_ne (by decide +kernel), lk_ne (by decide +kernel), lk_ne (by decide +kernel), lk_ne (by decide +kernel)] <;> rfl
    · rw [lk_ne (by decide +kernel), lk_ne (by decide +kernel), lk_ne (by decide +kernel), lk_ne (by decide +kernel), lk_ne (by decide +kernel), lk_ne (by decide +kernel)] <;> rfl
    · rw [upd_ne (ne_of hy6 hp6 (fun z => nomatch z))]
      exact s7 _ _ hy6
end
end BR
set_option Elab.async false
set_option linter.all false
set_option maxRecDepth 100000
/-! The law's loom. -/
namespace BR
open PySem PySem.Spec PyProof.Rows L2
theorem list_of {α : Type} {f : α → V} {l : List α} {out : List V} (hl : out.length = l.length) (hr : ∀ (i : Nat) (v : V), out[i]? = some v → ∃ n, l[i]? = some n ∧ v = f n) : out = l.map f := by
  refine List.ext_getElem? fun i => ?_
  rw [List.getElem?_map]
  cases e : out[i]? with
  | none =>
    have h := List.getElem?_eq_none_iff.mp e
    rw [List.getElem?_eq_none (by omega)]
    rfl
  | some v =>
    obtain ⟨n, e1, e2⟩ := hr i v e
    rw [e1, e2]
    rfl
structure LoomAt (H : Hp) (L C : Addr) (k : Nat) : Prop where
  ex : ∃ (cs : List Int) (a r : Int), H L = some (.lst [.ref C, .int a, .int r]) ∧ H C = some (.lst (cs.map V.int)) ∧ 0 ≤ a ∧ a ≤ (k : Int) ∧ 0 ≤ r ∧ cs.length ≤ 60
theorem LoomAt.mono {H : Hp} {L C : Addr} {j k : Nat} (h : LoomAt H L C j) (hk : j ≤ k) : LoomAt H L C k := by
  obtain ⟨cs, a, r, h1, h2, h3, h4, h5, h6⟩ := h.ex
  exact ⟨cs, a, r, h1, h2, h3, by omega, h5, h6⟩
theorem LoomAt.same {H H' : Hp} {L C : Addr} {k : Nat} (h : LoomAt H L C k) (s : Same H H') : LoomAt H' L C k := by
  obtain ⟨cs, a, r, h1, h2, h3⟩ := h.ex
  exact ⟨cs, a, r, s _ _ h1, s _ _ h2, h3⟩
theorem LoomAt.lst {H : Hp} {L C : Addr} {k : Nat} (h : LoomAt H L C k) : ∃ xs, H L = some (.lst xs) := by
  obtain ⟨cs, a, r, h1, _⟩ := h.ex
  exact ⟨_, h1⟩
theorem LoomAt.cells {H : Hp} {L C : Addr} {k : Nat} (h : LoomAt H L C k) : ∃ cs : List Int, H C = some (.lst (cs.map V.int)) := by
  obtain ⟨cs, a, r, _, h2, _⟩ := h.ex
  exact ⟨_, h2⟩
theorem LoomAt.upd {H : Hp} {L C D : Addr} {o : HO} {k : Nat} (h : LoomAt H L C k) (h1 : L ≠ D) (h2 : C ≠ D) : LoomAt (L2.upd H D o) L C k := by
  obtain ⟨cs, a, r, e1, e2, h3⟩ := h.ex
  exact ⟨cs, a, r, by rw [upd_ne h1]; exact e1, by rw [upd_ne h2]; exact e2, h3⟩
theorem ints_ne {C : Addr} {cs : List Int} {rest : List V} : (HO.lst (.ref C :: rest)) ≠ .lst (cs.map V.int) := by
  intro e
  cases cs with
  | nil => cases e
  | cons c cs => cases e
theorem ints_lay : ∀ ns : List Int, PyData.canLayAll0 (ns.map PyData.int) = true
  | [] => by simp [PyData.canLayAll0]
  | n :: ns => by simp [PyData.canLayAll0, PyData.canLay0, ints_lay ns]
theorem ints_depth : ∀ ns : List Int, PyData.depthAll (ns.map PyData.int) ≤ 1
  | [] => by simp [PyData.depthAll]
  | n :: ns => by
    have h1 := ints_depth ns
    simp only [List.map_cons, PyData.depthAll, PyData.depth]
    omega
theorem ints_shaped (ns : List Int) : SeqAt.shaped (.list (ns.map PyData.int)) = true := by
  have h1 := ints_depth ns
  have h2 : PyData.depth (.list (ns.map PyData.int)) ≤ 64 := by
    simp only [PyData.depth]
    omega
  show (PyData.canLay0 (.list (ns.map PyData.int)) && decide (PyData.depth (.list (ns.map PyData.int)) ≤ 64)) = true
  rw [Bool.and_eq_true]
  exact ⟨by simp only [PyData.canLay0]; exact ints_lay ns, decide_eq_true h2⟩
theorem ints_dp {K : PySem.W.Frag} {H : Hp} : ∀ ns : List Int, DpAll K H (ns.map V.int) (ns.map PyData.int)
  | [] => .nil
  | n :: ns => .cons (.int n) (ints_dp ns)
theorem mulb {a b A B : Int} (h1 : 0 ≤ a) (h2 : a ≤ A) (h3 : 0 ≤ b) (h4 : b ≤ B) : 0 ≤ a * b ∧ a * b ≤ A * B :=
  ⟨Int.mul_nonneg h1 h3, Int.le_trans (Int.mul_le_mul_of_nonneg_right h2 h3) (Int.mul_le_mul_of_nonneg_left h4 (Int.le_trans h1 h2))⟩
section
variable {P : Program} {w : World} {K : PySem.W.Frag} {mg : Str → Option Value} {base : Heap}
def spLoom (K : PySem.W.Frag) : Sp := fun vs H Q _ => ∃ (a : Addr) (ns : List Int), vs = [.ref a] ∧ SqL K H a (ns.map V.int) ∧ ∀ L C H', Same H H' → LoomAt H' L C 0 → Q (.ref L) H'
theorem c_law_loom (T : Top K mg) : Cal P w K mg base 1 "_law_loom" (spLoom K) [] := by
  refine T.d_law_loom.cal sc_law_loom (fun vs H Q E h => ?_) (fun f cdv A outer s H vs Q E hr h => ?_)
  · obtain ⟨d, a, rfl, _⟩ := h
    rfl
  · obtain ⟨a, ns, rfl, ha, q⟩ := h
    refine ⟨_, pss_one (ps_ret (pe_lst (pa_cons (pe_lc (own := [("_law_cell", 1)]) (g := gName 1) (tt := tYes) rfl sc_law_loom.nd (pi_list (pe_slice sl_list (pv 0) po_none (po_some pe_int))) (blkOk_by (N := ["_law_script", "_law_cell"]) (sc := defScope s_law_loom) (by decide +kernel))
        (fun _ _ _ _ _ => pg_name (i := 1) sc_law_loom.nd rfl (Or.inl rfl)) (fun _ _ _ _ _ => pts_nil) (fun _ _ _ _ _ => pe_callTy call_int1 rfl T.f_int b_int (pa_cons (pv 1) pa_nil))) (pa_cons pe_int (pa_cons pe_int pa_nil))))), ?_⟩
    refine ⟨_, rfl, 60, rfl, a, _, rfl, ha, fun p np => ?_⟩
    have ec : cutV (ns.map V.int) none (some 60) = (ns.take 60).map V.int := by
      unfold cutV
      rw [HT.sIx_none, show (60 : Int) = ((60 : Nat) : Int) from rfl, HT.sIx_nat, List.drop_zero, Nat.sub_zero, ← List.map_take, List.length_map, List.take_eq_take_iff.mpr]
      omega
    rw [ec]
    generalize hm : ns.take 60 = ms
    have hml : ms.length ≤ 60 := by rw [← hm]; exact List.length_take_le _ _
    have s1 := Same.upd (o := .lst (ms.map V.int)) np
    refine ⟨p, rfl, ⟨_, .inl (.inl upd_same)⟩, fun D nD => lc_same (walk_list (K := K) (xs := ms.map V.int)) nD (fun i _ v => ∃ n, ms[i]? = some n ∧ v = .int n) (by rw [List.length_map]; omega) (fun H3 s3 => .inl (.inl (s3 _ _ upd_same))) (fun _ _ _ _ _ e => e) (fun i v Hc Hc' hi sc y => ?_) fun H3 out s3 hD hl3 hr3 => ?_⟩
    · obtain ⟨rfl, hx⟩ := y
      refine ⟨Same.refl _, fun Q' hq => ?_⟩
      obtain ⟨n, hn, rfl⟩ := map_get hx
      exact ⟨rfl, _, rfl, .inl ⟨_, rfl, hq _ _ (Same.refl _) ⟨n, hn, rfl⟩⟩⟩
    · rw [List.length_map] at hl3
      have eo := list_of (f := V.int) hl3 hr3
      subst eo
      refine ⟨by show 3 ≤ sizeLine; decide, fun L nL => q L D _ ((s1.trans s3).trans (Same.upd nL)) ⟨ms, 0, 0, upd_same, Same.upd nL _ _ hD, Int.le_refl 0, Int.le_refl 0, Int.le_refl 0, hml⟩⟩
def spWeave : Sp := fun vs H Q _ => ∃ (L C : Addr) (m : Int) (k : Nat), vs = [.ref L, .int m] ∧ LoomAt H L C k ∧ k < 1048576 ∧ 0 < m ∧ m < 1073741824 ∧ ∀ (r : Int) (H' : Hp), 0 ≤ r → r < m → But L H H' → LoomAt H' L C (k + 1) → Q (.int r) H'
theorem c_law_weave (T : Top K mg) : Cal P w K mg base 1 "_law_weave" spWeave [] := by
  refine T.d_law_weave.cal sc_law_weave (fun vs H Q E h => ?_) (fun f cdv A outer s H vs Q E hr h => ?_)
  · obtain ⟨d, a, c, k, rfl, _⟩ := h
    rfl
  · obtain ⟨L, C, m, k, rfl, ⟨cs, a, r, hL, hC, ha0, hak, hr0, hcs⟩, hk, hm0, hm1, q⟩ := h
    have nd := sc_law_weave.nd
    refine ⟨_, pss_cons (ps_if (pt_cmpR op_gt (pe_ix ix_list (pv 0) pe_int (fun _ _ => rfl)) pe_int (nomark _))
        (pss_cons (ps_set (i := 2) nd rfl (Or.inl rfl) (pe_callTy call_int1 rfl T.f_int b_int (pa_cons (pe_ix ix_list (pv 0) pe_int (fun _ _ => rfl)) pa_nil)))
        (pss_cons (ps_asg (pe_op op_fdiv (pv 2) (pv 1)) (pg_sub (pv 0) pe_int set_list))
        (pss_one (ps_ret (pe_op op_mod (pe_callTy call_int1 rfl T.f_int b_int (pa_cons (pv 2) pa_nil)) (pv 1)))))) pss_nil)
      (pss_cons (ps_set (i := 3) nd rfl (Or.inl rfl) (pe_ix ix_list (pv 0) pe_int (fun _ _ => rfl)))
      (pss_cons (ps_asg (pe_op op_add (pv 3) pe_int) (pg_sub (pv 0) pe_int set_list))
      (pss_cons (ps_set (i := 4) nd rfl (Or.inl rfl) (pe_op op_add (pe_op op_mul pe_int (pv 3)) pe_int))
      (C8.pss_cut (ps_if (pt_cmpR (op_neD hr.units) (pe_ix ix_list (pv 0) pe_int (fun _ _ => rfl)) (pe_lst pa_nil) (nomark _))
        (pss_one (ps_set (i := 4) nd rfl (Or.inl rfl) (pe_ix ix_list (pe_ix ix_list (pv 0) pe_int (fun _ _ => rfl)) (pe_op op_mod (pe_callTy call_int1 rfl T.f_int b_int (pa_cons (pv 3) pa_nil)) (pe_callB call_len_seq rfl T.f_len b_len (pa_cons (pe_ix ix_list (pv 0) pe_int (fun _ _ => rfl)) pa_nil))) (fun _ _ => rfl)))) pss_nil)
      (C8.pss_cut (ps_if (PW.pt (pw_and (pt_cmpR op_lt (pv 3) (pe_callB call_len_seq rfl T.f_len b_len (pa_cons (pe_ix ix_list (pv 0) pe_int (fun _ _ => rfl)) pa_nil)) (nomark _)) (pw_and1 (pt_cmpR op_ge (pe_callB call_abs rfl T.f_abs b_abs (pa_cons (pv 4) pa_nil)) (pe_op op_pow pe_int pe_int) (nomark _)))))
        (pss_cons (ps_set (i := 2) nd rfl (Or.inl rfl) (pe_op op_add (pe_op op_mul pe_int (pe_op op_sub (pe_callB call_abs rfl T.f_abs b_abs (pa_cons (pv 4) pa_nil)) (pe_op op_pow pe_int pe_int))) (pe_callTy call_int1 rfl T.f_int b_int (pa_cons (pe_cmp (pc_lt (pv 4) pe_int) rfl) pa_nil))))
        (pss_cons (ps_asg (pe_op op_fdiv (pe_callTy call_int1 rfl T.f_int b_int (pa_cons (pv 2) pa_nil)) (pv 1)) (pg_sub (pv 0) pe_int set_list))
        (pss_one (ps_ret (pe_op op_mod (pe_callTy call_int1 rfl T.f_int b_int (pa_cons (pv 2) pa_nil)) (pv 1)))))) pss_nil)
      (pss_cons (ps_set (i := 5) nd rfl (Or.inl rfl) (pe_op op_mod (pe_callTy call_int1 rfl T.f_int b_int (pa_cons (pe_op op_pow (pe_op op_add (pe_op op_add (pe_op op_mod (pe_callTy call_int1 rfl T.f_int b_int (pa_cons (pv 4) pa_nil)) pe_int) (pe_op op_mul pe_int (pv 3))) pe_int) pe_int) pa_nil)) pe_int))
      (pss_cons (ps_set (i := 5) nd rfl (Or.inl rfl) (pe_op op_mod (pe_callTy call_int1 rfl T.f_int b_int (pa_cons (pe_op op_pow (pe_op op_add (pe_op op_add (pe_op op_mul (pv 5) (pe_op op_add (pe_op op_mul pe_int (pv 3)) pe_int)) (pe_op op_mul (pe_op op_mul pe_int (pv 3)) (pv 3))) pe_int) pe_int) pa_nil)) pe_int))
      (pss_one (ps_ret (pe_op op_mod (pe_callTy call_int1 rfl T.f_int b_int (pa_cons (pe_op op_fdiv (pv 5) pe_int) pa_nil)) (pv 1))))))))))), ?_⟩
    have hCL : L ≠ C := ne_of hL hC ints_ne
    -- what a change of the loom leaves
    have stay : ∀ (a' r' : Int), 0 ≤ a' → a' ≤ (k : Int) + 1 → 0 ≤ r' → ∀ H1, But L H H1 → But L H (upd H1 L (.lst [.ref C, .int a', .int r'])) ∧ LoomAt (upd H1 L (.lst [.ref C, .int a', .int r'])) L C (k + 1) := by
      intro a' r' h1 h2 h3 H1 hb
      refine ⟨⟨⟨_, hL⟩, ⟨_, upd_same⟩, fun b o e n => by rw [upd_ne n]; exact hb.2.2 b o e n⟩, ⟨cs, a', r', upd_same, ?_, h1, by omega, h3, hcs⟩⟩
      rw [upd_ne hCL.symm]
      exact hb.2.2 _ _ hC hCL.symm
    refine ⟨_, rfl, L, _, _, _, rfl, rfl, .inl (.inl hL), rfl, _, _, rfl, rfl, _, rfl, ?_⟩
    have big : (k : Int) < 1048576 := by omega
    by_cases hrr : 0 < r
    · refine iteTr (decide_eq_true hrr) ⟨_, rfl, L, _, _, _, rfl, rfl, .inl (.inl hL), rfl, .inl ⟨_, rfl, _, rfl, _, rfl, _, _, rfl, rfl, ⟨hm0, hm1⟩, _, rfl, L, _, 2, 2, rfl, rfl, hL, rfl, _, rfl, .inl ⟨_, rfl, _, rfl, _, _, rfl, rfl, hm0, ?_⟩⟩⟩
      obtain ⟨b1, l1⟩ := stay a (r / m) ha0 (by omega) (Int.ediv_nonneg hr0 (by omega)) H (But.of hL (Same.refl _))
      exact q _ _ (Int.emod_nonneg _ (by omega)) (Int.emod_lt_of_pos _ hm0) b1 l1
    · refine iteFa (decide_eq_false hrr) ⟨_, rfl, L, _, _, _, rfl, rfl, .inl (.inl hL), rfl, _, rfl, _, _, rfl, rfl, _, rfl, L, _, 1, 1, rfl, rfl, hL, rfl, ?_⟩
      obtain ⟨b1, _⟩ := stay (a + 1) r (by omega) (by omega) hr0 H (But.of hL (Same.refl _))
      have hL1 : upd H L (.lst [.ref C, .int (a + 1), .int r]) L = some (.lst [.ref C, .int (a + 1), .int r]) := upd_same
      have hC1 : upd H L (.lst [.ref C, .int (a + 1), .int r]) C = some (.lst (cs.map V.int)) := by rw [upd_ne hCL.symm]; exact hC
      refine ⟨_, rfl, _, _, rfl, rfl, .inl ⟨by decide, by decide⟩, _, _, rfl, rfl, ?_⟩
      show C8.tCut _ _ _ _ (upd H L (.lst [.ref C, .int (a + 1), .int r]))
      generalize upd H L (.lst [.ref C, .int (a + 1), .int r]) = H1 at *
      refine ⟨fun σ' H' => Same H1 H' ∧ ∃ c : Int, σ' = [some (.ref L), some (.int m), none, some (.int a), some (.int c), none], ?_, fun σ' H2 hM => ?_⟩
      · refine ⟨_, rfl, L, _, _, _, rfl, rfl, .inl (.inl hL1), rfl, (by show 0 ≤ sizeLine; decide), fun l nl => ?_⟩
        have s2 := Same.upd (o := .lst []) nl
        refine ⟨.list (cs.map PyData.int), .list [], .lst (.inl (.inl (s2 _ _ hC1))) (ints_dp cs), .lst (.inl (.inl upd_same)) .nil, ints_shaped cs, ints_shaped [], _, rfl, ?_⟩
        cases cs with
        | nil => exact iteFa (by decide) ⟨s2, _, rfl⟩
        | cons c0 cs0 =>
          refine iteTr (by simp [PyData.eqv, PyData.eqvAll]) ?_
          have hn : (0 : Int) < (((c0 :: cs0).map V.int).length : Nat) := by rw [List.length_map, List.length_cons]; omega
          obtain ⟨j, hj⟩ : ∃ j : Nat, a % (((c0 :: cs0).map V.int).length : Nat) = (j : Int) := ⟨(a % (((c0 :: cs0).map V.int).length : Nat)).toNat, by
            have := Int.emod_nonneg a (Int.ne_of_gt hn)
            omega⟩
          have hjl : j < (c0 :: cs0).length := by
            have h1 := Int.emod_lt_of_pos a hn
            rw [hj, List.length_map] at h1
            omega
          refine ⟨_, rfl, L, _, _, _, rfl, rfl, .inl (.inl (s2 _ _ hL1)), rfl, _, rfl, .inl ⟨_, rfl, _, rfl, L, _, _, _, rfl, rfl, .inl (.inl (s2 _ _ hL1)), rfl, C, _, rfl, .inl (.inl (.inl (s2 _ _ hC1))), _, _, rfl, rfl, hn, C, _, _, .int ((c0 :: cs0)[j]'hjl), rfl, rfl, .inl (.inl (s2 _ _ hC1)), ?_, s2, _, rfl⟩⟩
          refine at_of hj ?_
          rw [List.getElem?_map, List.getElem?_eq_getElem hjl]
          rfl
      · obtain ⟨s2, c, rfl⟩ := hM
        have hL2 := s2 _ _ hL1
        have hC2 := s2 _ _ hC1
        have b2 := b1.same s2
        have l2 : LoomAt H2 L C (k + 1) := ⟨cs, a + 1, r, hL2, hC2, by omega, by omega, hr0, hcs⟩
        refine ⟨fun σ' H' => H' = H2 ∧ σ' = [some (.ref L), some (.int m), none, some (.int a), some (.int c), none], ?_, fun σ' H' hM => ?_⟩
        · refine ⟨_, rfl, _, rfl, L, _, _, _, rfl, rfl, .inl (.inl hL2), rfl, C, _, rfl, .inl (.inl (.inl hC2)), _, _, rfl, rfl, _, rfl, ?_⟩
          by_cases h1 : a < (((cs.map V.int).length : Nat) : Int)
          · refine iteTr (decide_eq_true h1) ⟨_, rfl, _, rfl, _, _, rfl, rfl, ⟨by decide, by decide, by decide⟩, _, _, rfl, rfl, _, rfl, ?_⟩
            by_cases h2 : (10 : Int) ^ (18 : Int).toNat ≤ (if c < 0 then -c else c)
            · refine iteTr (decide_eq_true h2) ⟨_, rfl, _, rfl, _, _, rfl, rfl, ⟨by decide, by decide, by decide⟩, _, _, rfl, rfl, _, _, rfl, rfl, .inl ⟨by decide, by decide⟩, _, rfl, _, _, rfl, rfl, .inr ⟨_, rfl, _, _, rfl, rfl, _, rfl, .inl ⟨_, rfl, _, rfl, _, _, rfl, rfl, ⟨hm0, hm1⟩, _, rfl, L, _, 2, 2, rfl, rfl, hL2, rfl, _, rfl, .inl ⟨_, rfl, _, rfl, _, _, rfl, rfl, hm0, ?_⟩⟩⟩⟩
              have hz : 0 ≤ 2 * ((if c < 0 then -c else c) - (10 : Int) ^ (18 : Int).toNat) + (if decide (c < 0) = true then 1 else 0) := by
                have h3 : (0 : Int) ≤ (if decide (c < 0) = true then (1 : Int) else 0) := by split <;> decide
                generalize (10 : Int) ^ (18 : Int).toNat = X at *
                generalize (if decide (c < 0) = true then (1 : Int) else 0) = Y at *
                generalize (if c < 0 then -c else c) = Z at *
                omega
              obtain ⟨b3, l3⟩ := stay (a + 1) (_ / m) (by omega) (by omega) (Int.ediv_nonneg hz (by omega)) H2 b2
              exact q _ _ (Int.emod_nonneg _ (by omega)) (Int.emod_lt_of_pos _ hm0) b3 l3
            · exact iteFa (decide_eq_false h2) ⟨rfl, rfl⟩
          · exact iteFa (decide_eq_false h1) ⟨rfl, rfl⟩
        · obtain ⟨rfl, rfl⟩ := hM
          have p64 : (2 : Nat) ^ 64 = 18446744073709551616 := by decide
          have i64 : (2 : Int) ^ 64 = 18446744073709551616 := by decide
          have e1 := Int.emod_nonneg c (show (2147483587 : Int) ≠ 0 by decide)
          have e2 := Int.emod_lt_of_pos c (show (0 : Int) < 2147483587 by decide)
          refine ⟨_, rfl, .inl ⟨_, rfl, _, _, rfl, rfl, (by decide : (0 : Int) < 2147483587), _, rfl, _, _, rfl, rfl, .inl ⟨by decide, by decide⟩, _, _, rfl, rfl, _, _, rfl, rfl, _, _, rfl, rfl, ⟨by decide, by decide, by rw [p64]; omega⟩, .inl ⟨_, rfl, _, _, rfl, rfl, (by decide : (0 : Int) < 2147483497), ?_⟩⟩⟩
          have e3 := Int.emod_nonneg ((c % 2147483587 + 43199 * a + 6347) ^ (5 : Int).toNat) (show (2147483497 : Int) ≠ 0 by decide)
          have e4 := Int.emod_lt_of_pos ((c % 2147483587 + 43199 * a + 6347) ^ (5 : Int).toNat) (show (0 : Int) < 2147483497 by decide)
          show tSeq _ _ _ [some (.ref L), some (.int m), none, some (.int a), some (.int c), some (.int ((c % 2147483587 + 43199 * a + 6347) ^ (5 : Int).toNat % 2147483497))] _
          generalize (c % 2147483587 + 43199 * a + 6347) ^ (5 : Int).toNat % 2147483497 = u at *
          obtain ⟨m1, m2⟩ := mulb (A := 2147483497) (B := 2102873) e3 (by omega) (show 0 ≤ 2 * a + 5721 by omega) (by omega)
          obtain ⟨m3, m4⟩ := mulb (A := 86277881856) (B := 1048576) (show 0 ≤ 82281 * a by omega) (by omega) ha0 (by omega)
          refine ⟨_, rfl, _, rfl, _, _, rfl, rfl, .inl ⟨by decide, by decide⟩, _, _, rfl, rfl, _, _, rfl, rfl, .inl ⟨by rw [i64]; omega, by rw [i64]; omega⟩, _, rfl, _, _, rfl, rfl, .inl ⟨by decide, by decide⟩, _, rfl, _, _, rfl, rfl, .inl ⟨by rw [i64]; omega, by rw [i64]; omega⟩, _, _, rfl, rfl, _, _, rfl, rfl, _, _, rfl, rfl, ⟨by decide, by decide, by rw [p64]; omega⟩, .inl ⟨_, rfl, _, _, rfl, rfl, (by decide : (0 : Int) < 2147483423), ?_⟩⟩
          refine ⟨_, rfl, _, _, rfl, rfl, ⟨by decide, by decide⟩, .inl ⟨_, rfl, _, rfl, _, _, rfl, rfl, hm0, ?_⟩⟩
          exact q _ _ (Int.emod_nonneg _ (by omega)) (Int.emod_lt_of_pos _ hm0) b2 l2
end
end BR
set_option Elab.async false
set_option linter.all false
set_option maxRecDepth 100000
/-! A table drawn by the law. -/
namespace BR
open PySem PySem.Spec PyProof.Rows L2
theorem putX_keys (b : Addr) (v : V) (k : LK) (xs : List DE) (nd : (xs.map (·.1)).Nodup) : ((putX xs k b v).map (·.1)).Nodup := by
  unfold putX
  split
  · have e : (xs.map fun x => if x.1 = k then (x.1, x.2.1, v) else x).map (·.1) = xs.map (·.1) := by
      rw [List.map_map]
      refine List.map_congr_left fun x _ => ?_
      show (if x.1 = k then (x.1, x.2.1, v) else x).1 = x.1
      split <;> rfl
    rw [e]
    exact nd
  · rename_i h
    rw [List.map_append, List.map_cons, List.map_nil]
    refine List.nodup_append.mpr ⟨nd, List.nodup_cons.mpr ⟨fun z => (by cases z), List.nodup_nil⟩, fun a ha c hc e => ?_⟩
    cases List.mem_singleton.mp hc
    subst e
    obtain ⟨x, hx, ex⟩ := List.mem_map.mp ha
    apply h
    rw [← ex, valX_of_mem nd hx]
    rfl
structure RulesN (ways worths : Int) (xs : List DE) : Prop where
  nd : (xs.map (·.1)).Nodup
  key : ∀ x ∈ xs, KeyOk ways worths x.1
  val : ∀ x ∈ xs, ∃ v, x.2.2 = .int v ∧ 0 ≤ v ∧ v < worths
theorem RulesN.put {ways worths : Int} {xs : List DE} (r : RulesN ways worths xs) {k : LK} {b : Addr} {v : Int} (hk : KeyOk ways worths k) (h0 : 0 ≤ v) (h1 : v < worths) : RulesN ways worths (putX xs k b (.int v)) := by
  have mem : ∀ z ∈ putX xs k b (.int v), (z.1 = k ∨ ∃ x ∈ xs, z.1 = x.1) ∧ (z.2.2 = .int v ∨ ∃ x ∈ xs, z.2.2 = x.2.2) := by
    intro z hz
    unfold putX at hz
    split at hz
    · obtain ⟨x, hx, ex⟩ := List.mem_map.mp hz
      split at ex
      · rename_i e
        rw [← ex]
        exact ⟨.inl e, .inl rfl⟩
      · rw [← ex]
        exact ⟨.inr ⟨x, hx, rfl⟩, .inr ⟨x, hx, rfl⟩⟩
    · rcases List.mem_append.mp hz with hz | hz
      · exact ⟨.inr ⟨z, hz, rfl⟩, .inr ⟨z, hz, rfl⟩⟩
      · cases List.mem_singleton.mp hz
        exact ⟨.inl rfl, .inl rfl⟩
  refine ⟨putX_keys _ _ _ _ r.nd, fun z hz => ?_, fun z hz => ?_⟩
  · rcases (mem z hz).1 with e | ⟨x, hx, e⟩
    · rw [e]; exact hk
    · rw [e]; exact r.key x hx
  · rcases (mem z hz).2 with e | ⟨x, hx, e⟩
    · exact ⟨v, e, h0, h1⟩
    · rw [e]; exact r.val x hx
/-- while the rules are drawn: d the dict, p the list of what may stand beside -/
structure TSt (P : Program) (w : World) (L C p d : Addr) (sm : List V) (ways worths : Int) (H0 : Hp) (k c : Nat) (H : Hp) : Prop where
  but : But L H0 H
  sml : H p = some (.lst sm)
  di : ∃ xs, DX P w H d xs ∧ RulesN ways worths xs ∧ xs.length ≤ c
  lo : LoomAt H L C (k + c)
theorem TSt.mono {P : Program} {w : World} {L C p d : Addr} {sm : List V} {ways worths : Int} {H0 : Hp} {k c c' : Nat} {H : Hp} (t : TSt P w L C p d sm ways worths H0 k c H) (h : c ≤ c') : TSt P w L C p d sm ways worths H0 k c' H :=
  ⟨t.but, t.sml, (let ⟨xs, h1, h2, h3⟩ := t.di; ⟨xs, h1, h2, by omega⟩), t.lo.mono (by omega)⟩
theorem KAt.but {L : Addr} {H H' : Hp} {xs : List DE} (b : But L H H') (h : KAt H xs) : KAt H' xs := fun x hx => b.keep _ _ (h x hx) (fun z e => nomatch e)
section
variable {P : Program} {w : World} {K : PySem.W.Frag} {mg : Str → Option Value} {base : Heap}
def spOne : Sp := fun vs H Q _ => ∃ (L C a : Addr) (xs : List V) (k : Nat), vs = [.ref L, .ref a] ∧ LoomAt H L C k ∧ k < 1048576 ∧ H a = some (.lst xs) ∧ a ≠ L ∧ 1 ≤ xs.length ∧ xs.length < 1000000 ∧ ∀ (v : V) (H' : Hp), v ∈ xs → But L H H' → LoomAt H' L C (k + 1) → Q v H'
theorem c_law_one (T : Top K mg) : Cal P w K mg base 2 "_law_one" spOne [] := by
  refine T.d_law_one.cal sc_law_one (fun vs H Q E h => ?_) (fun f cdv A outer s H vs Q E hr h => ?_)
  · obtain ⟨d, a, c, e, k, rfl, _⟩ := h
    rfl
  · obtain ⟨L, C, a, xs, k, rfl, hlo, hk, ha, hne, h1, h2, q⟩ := h
    have g := c_law_weave (P := P) (w := w) (base := base) T
    refine ⟨_, pss_one (ps_ret (pe_ix ix_list (pv 1) (pe_c g hr (pa_cons (pv 0) (pa_cons (pe_callB call_len_seq rfl T.f_len b_len (pa_cons (pv 1) pa_nil)) pa_nil))) (fun _ _ => rfl))), ?_⟩
    refine ⟨_, rfl, _, rfl, _, rfl, a, xs, rfl, .inl (.inl (.inl ha)), L, C, _, k, rfl, hlo, hk, by omega, by omega, fun r H' hr0 hr1 hb hl => ?_⟩
    obtain ⟨j, hj⟩ : ∃ j : Nat, r = (j : Int) := ⟨r.toNat, by omega⟩
    have hjl : j < xs.length := by omega
    exact ⟨a, xs, r, xs[j], rfl, rfl, .inl (.inl (hb.2.2 _ _ ha hne)), at_of hj (List.getElem?_eq_getElem hjl), q _ _ (List.getElem_mem hjl) hb hl⟩
abbrev tWv (m : TE) : TE := tCall spWeave [] E0 (tCons (tVar 0) (tCons m tNil))
/-- if weave(loom, 10) < often: rules[..] = weave(loom, worths) -/
theorem step_put {L C p d : Addr} {sm : List V} {ways worths often : Int} {H0 : Hp} {k c : Nat} {σ : L2.St} {us : List V} {kk : LK} {te : TE} {D : Ends} {H : Hp} (hp0 : H0 p = none) (hd0 : H0 d = none) (hus : us = kk.map lfV) (hk : KeyOk ways worths kk)
    (hte : ∀ (H : Hp) (Q : VK), (∀ t, H t = none → Q (.ref t) (upd H t (.tup us))) → te σ H Q) (s0 : σ[0]? = some (some (.ref L))) (s3 : σ[3]? = some (some (.int worths))) (s4 : σ[4]? = some (some (.ref d))) (s6 : σ[6]? = some (some (.int often)))
    (hw0 : 0 < worths) (hw1 : worths ≤ 12) (hkc : k + c + 2 < 1048576) (hc : c < 1000) (S : TSt P w L C p d sm ways worths H0 k c H) (nx : ∀ H', TSt P w L C p d sm ways worths H0 k (c + 2) H' → D.nx σ H') :
    tTest (tOp (rI0 fun i j => .bl (decide (i < j))) (tWv (tC (.int 10))) (tVar 6)) σ H fun b H1 => if b = true then sXPut P w (tVar 4) te (tWv (tVar 3)) D σ H1 else tNext D σ H1 := by
  have hpL : p ≠ L := (by
    obtain ⟨xs, e⟩ := S.but.1
    exact (ne_of_none e hp0).symm)
  refine ⟨_, s0, L, C, 10, k + c, rfl, S.lo, by omega, by decide, by decide, fun r H1 r0 r1 b1 l1 => ⟨_, s6, _, _, rfl, rfl, _, rfl, ?_⟩⟩
  have S1 : TSt P w L C p d sm ways worths H0 k (c + 1) H1 := ⟨S.but.trans b1, b1.2.2 _ _ S.sml hpL, (let ⟨xs, h1, h2, h3⟩ := S.di; ⟨xs, h1.keep b1.keep, h2, by omega⟩), l1⟩
  by_cases h : r < often
  · refine iteTr (decide_eq_true h) ⟨_, s0, _, s3, L, C, worths, k + (c + 1), rfl, S1.lo, by omega, hw0, by omega, fun r2 H2 q0 q1 b2 l2 => ?_⟩
    refine ⟨_, s4, hte _ _ fun t nt => ?_⟩
    obtain ⟨xs, h1, h2, h3⟩ := S1.di
    have st := Same.upd (o := .tup us) nt
    have D2 := (h1.keep b2.keep).keep (Keep.of st)
    have sz := sizeLine_eq
    refine ⟨d, xs, kk, t, rfl, D2, rfl, by rw [upd_same, hus], by omega, nx _ ?_⟩
    have b3 := (S1.but.trans b2).same st
    have hp3 := st _ _ (b2.2.2 _ _ S1.sml hpL)
    have hpd : p ≠ d := ne_of hp3 D2.at_ (fun z => nomatch z)
    have l3 := l2.same st
    obtain ⟨zs, hL3⟩ := l3.lst
    obtain ⟨cs, hC3⟩ := l3.cells
    refine ⟨b3.upd hd0, by rw [upd_ne hpd]; exact hp3, ⟨putX xs kk t (.int r2), ⟨upd_same, fun x hx => ?_⟩, h2.put hk q0 q1, Nat.le_trans (putX_length _ _ _ _) (by omega)⟩, l3.upd (ne_of hL3 D2.at_ (fun z => nomatch z)) (ne_of hC3 D2.at_ (fun z => nomatch z))⟩
    have ka : KAt (upd H2 t (.tup us)) (putX xs kk t (.int r2)) := KAt.put D2.keys (by rw [upd_same, hus])
    rw [upd_ne (ne_of (ka x hx) D2.at_ (fun z => nomatch z))]
    exact ka x hx
  · exact iteFa (decide_eq_false h) (nx _ (S1.mono (by omega)))
theorem sm_leaf {worths : Int} {v : V} {i : Nat} (h : (V.non :: rgV 0 worths)[i]? = some v) : ∃ l, v = lfV l ∧ inW worths l := by
  cases i with
  | zero => cases h; exact ⟨.none, rfl, True.intro⟩
  | succ j =>
    rw [List.getElem?_cons_succ] at h
    unfold rgV at h
    obtain ⟨n, hn, rfl⟩ := map_get h
    obtain ⟨hj, e⟩ := List.getElem?_eq_some_iff.mp hn
    rw [List.length_range] at hj
    rw [List.getElem_range] at e
    subst e
    exact ⟨.num (0 + (j : Int)), rfl, by omega, by omega⟩
def spLTable (P : Program) (w : World) : Sp := fun vs H Q _ => ∃ (L C : Addr) (ways letters worths : Int) (k : Nat), vs = [.ref L, .int ways, .int letters, .int worths] ∧ LoomAt H L C k ∧ k + 200 < 1048576 ∧ (ways = 1 ∨ ways = 2) ∧ 1 ≤ worths ∧ worths ≤ 3 ∧
  ∀ (t d y : Addr) (xs : List DE) (ys : List Int) (H' : Hp), But L H H' → LoomAt H' L C (k + 150) → H' t = some (.tup [.ref d, .ref y]) → DX P w H' d xs → RulesOk ways worths xs → H' y = some (.lst (ys.map V.int)) → YesOk worths ys → Q (.ref t) H'
theorem c_law_table (T : Top K mg) : Cal P w K mg base 3 "_law_table" (spLTable P w) [] := by
  refine T.d_law_table.cal sc_law_table (fun vs H Q E h => ?_) (fun f cdv A outer s H vs Q E hr h => ?_)
  · obtain ⟨d, a, c, e, g, k, rfl, _⟩ := h
    rfl
  · obtain ⟨L, C, ways, letters, worths, k, rfl, hlo, hk, hways, hw0, hw1, q⟩ := h
    have gw := c_law_weave (P := P) (w := w) (base := base) T
    have g1 := c_law_one (P := P) (w := w) (base := base) T
    have hu := hu_of hr
    have nd := sc_law_table.nd
    have sz := sizeLine_eq
    refine ⟨_, pss_cons (ps_par (i := 4) (j := 5) (by rfl) nd rfl rfl (by decide) rfl rfl (pa_cons pe_xnew (pa_cons (pe_op op_cat (pe_lst (pa_cons pe_non pa_nil)) (pe_listRg rfl rfl T.f_list (prg_1 rfl T.f_range (pv 3)))) pa_nil)) (by rfl))
      (pss_cons (ps_set (i := 6) nd rfl (Or.inl rfl) (pe_c g1 hr (pa_cons (pv 0) (pa_cons (pe_lst (pa_cons pe_int (pa_cons pe_int (pa_cons pe_int pa_nil)))) pa_nil))))
      (pss_cons (ps_for PassesOwn.never rfl (pi_list (pv 5)) (pg_name (i := 7) nd rfl (Or.inl rfl))
        (pss_one (ps_for PassesOwn.never rfl (pi_range1 rfl T.f_range (pa_cons (pv 3) pa_nil)) (pg_name (i := 8) nd rfl (Or.inl rfl))
          (C8.pss_cut (ps_if (PW.pt (pw_and (pt_cmpR op_eq (pv 1) pe_int (nomark _)) (pw_and1 (pt_cmpR op_lt (pe_c gw hr (pa_cons (pv 0) (pa_cons pe_int pa_nil))) (pv 6) (nomark _)))))
            (pss_one (ps_xput hu (pv 4) (pe_tup (pa_cons (pv 7) (pa_cons (pv 8) pa_nil))) (pe_c gw hr (pa_cons (pv 0) (pa_cons (pv 3) pa_nil))))) pss_nil)
          (pss_one (ps_for PassesOwn.never rfl (pi_list (pv 5)) (pg_name (i := 9) nd rfl (Or.inl rfl))
            (pss_one (ps_if (PW.pt (pw_and (pt_cmpR op_eq (pv 1) pe_int (nomark _)) (pw_and1 (pt_cmpR op_lt (pe_c gw hr (pa_cons (pv 0) (pa_cons pe_int pa_nil))) (pv 6) (nomark _)))))
              (pss_one (ps_xput hu (pv 4) (pe_tup (pa_cons (pv 7) (pa_cons (pv 8) (pa_cons (pv 9) pa_nil)))) (pe_c gw hr (pa_cons (pv 0) (pa_cons (pv 3) pa_nil))))) pss_nil))))))))
      (pss_one (ps_ret (pe_tup (pa_cons (pv 4) (pa_cons (pe_lc (own := [("_law_worth", 10)]) (g := gName 10) rfl nd (pi_range1 rfl T.f_range (pa_cons (pv 3) pa_nil)) (blkOk_by (N := ["_law_loom_here", "_law_ways", "_law_letters", "_law_worths", "_law_rules", "_law_some", "_law_often", "_law_left", "_law_own", "_law_right_here", "_law_worth"]) (sc := defScope s_law_table) (by decide +kernel))
        (fun _ _ _ _ _ => pg_name (i := 10) nd rfl (Or.inl rfl)) (fun _ _ _ _ _ => pts_one (pt_cmpR op_eq (pe_c gw hr (pa_cons (pv 0) (pa_cons pe_int pa_nil))) pe_int (nomark _))) (fun _ _ _ _ _ => pv 10)) pa_nil))))))), ?_⟩
    obtain ⟨zsL, hL⟩ := hlo.lst
    obtain ⟨zsC, hC⟩ := hlo.cells
    have hrl : (rgV 0 worths).length = worths.toNat := by rw [rgV_length, Int.sub_zero]
    refine fun d nd0 => ⟨(by show 1 ≤ sizeLine; omega), fun e ne => ⟨_, rfl, worths, rfl, RgOk.of_le (by decide) (by omega) (by decide) (by omega), fun g ng => ⟨e, g, [.non], rgV 0 worths, rfl, rfl, Same.upd ng _ _ upd_same, upd_same, (by rw [hrl]; show 1 + worths.toNat ≤ sizeLine; omega), fun p np => ⟨_, _, rfl, ?_⟩⟩⟩⟩
    have s1 := Same.upd (o := dX P w d []) nd0
    have s2 := s1.trans (Same.upd (o := .lst [.non]) ne)
    have s3 := s2.trans (Same.upd (o := .lst (rgV 0 worths)) ng)
    have s4 := s3.trans (Same.upd (o := .lst ([.non] ++ rgV 0 worths)) np)
    have hp0 : H p = none := s3.free np
    have hd4 := (((Same.upd (o := .lst [.non]) ne).trans (Same.upd (o := .lst (rgV 0 worths)) ng)).trans (Same.upd (o := .lst ([.non] ++ rgV 0 worths)) np)) d _ (upd_same (o := dX P w d []))
    have hp4 : (upd (upd (upd (upd H d (dX P w d [])) e (.lst [.non])) g (.lst (rgV 0 worths))) p (.lst ([.non] ++ rgV 0 worths))) p = some (.lst (.non :: rgV 0 worths)) := upd_same
    refine ⟨_, rfl, (by show 3 ≤ sizeLine; omega), fun u nu => ?_⟩
    have s5 := Same.upd (o := .lst [.int 10, .int 10, .int 7]) nu
    have hLu : u ≠ L := (ne_of_none (s4 _ _ hL) nu).symm
    refine ⟨L, C, u, _, k, rfl, (hlo.same s4).same s5, by omega, upd_same, hLu, by decide, by decide, fun v H6 hv b6 l6 => ?_⟩
    obtain ⟨often, rfl⟩ : ∃ i : Int, v = .int i := by
      rcases List.mem_cons.mp hv with rfl | hv
      · exact ⟨_, rfl⟩
      · rcases List.mem_cons.mp hv with rfl | hv
        · exact ⟨_, rfl⟩
        · rcases List.mem_cons.mp hv with rfl | hv
          · exact ⟨_, rfl⟩
          · cases hv
    have hpL : p ≠ L := (ne_of_none hL hp0).symm
    have bt6 : But L H H6 := (But.of hL (s4.trans s5)).trans b6
    have hp6 := b6.2.2 _ _ (s5 _ _ hp4) hpL
    have hd6 : H6 d = some (dX P w d []) := b6.keep _ _ (s5 _ _ hd4) (fun z q => nomatch q)
    generalize hsm : (V.non :: rgV 0 worths) = sm at *
    have hsl : sm.length ≤ 4 := by
      rw [← hsm, List.length_cons, hrl]
      omega
    have leaf : ∀ {i : Nat} {v : V}, sm[i]? = some v → ∃ l, v = lfV l ∧ inW worths l := fun {i v} h => sm_leaf (by rw [hsm]; exact h)
    have S0 : TSt P w L C p d sm ways worths H (k + 1) 0 H6 := ⟨bt6, hp6, ⟨[], ⟨hd6, fun x hx => by cases hx⟩, ⟨List.nodup_nil, (fun x hx => by cases hx), fun x hx => by cases hx⟩, Nat.le_refl _⟩, l6⟩
    have tw0 : (worths.toNat : Int) = worths := by omega
    refine ⟨_, rfl, p, rfl, ⟨_, .inl (.inl hp6)⟩, for_list (K := K) (a := p) (xs := sm) (fun i σ H' => TSt P w L C p d sm ways worths H (k + 1) (i * 30) H' ∧ ∃ o7 o8 o9, σ = [some (.ref L), some (.int ways), some (.int letters), some (.int worths), some (.ref d), some (.ref p), some (.int often), o7, o8, o9, none])
      ⟨S0, none, none, none, rfl⟩ (fun i σ H' _ hP => .inl (.inl hP.1.sml)) (fun i x σ H' hx hP => ?_) (fun σ H7 hP => ?_)⟩
    · obtain ⟨hi, _⟩ := List.getElem?_eq_some_iff.mp hx
      obtain ⟨S1, o7, o8, o9, rfl⟩ := hP
      obtain ⟨lx, rfl, hlx⟩ := leaf hx
      refine ⟨_, rfl, worths, rfl, by omega, by omega, for_range (lo := 0) (n := worths.toNat) (fun j σ H' => TSt P w L C p d sm ways worths H (k + 1) (i * 30 + j * 10) H' ∧ ∃ o8 o9, σ = [some (.ref L), some (.int ways), some (.int letters), some (.int worths), some (.ref d), some (.ref p), some (.int often), some (lfV lx), o8, o9, none])
        ⟨S1, o8, o9, rfl⟩ (fun j σ H' hj hP => ?_) (fun σ H' hP => ?_)⟩
      · obtain ⟨S2, o8, o9, rfl⟩ := hP
        have ho0 : (0 : Int) ≤ 0 + (j : Int) := by omega
        have ho1 : 0 + (j : Int) < worths := by omega
        refine ⟨fun σ' H2 => TSt P w L C p d sm ways worths H (k + 1) (i * 30 + j * 10 + 2) H2 ∧ σ' = [some (.ref L), some (.int ways), some (.int letters), some (.int worths), some (.ref d), some (.ref p), some (.int often), some (lfV lx), some (.int (0 + (j : Int))), o9, none], ?_, fun σ' H2 hM => ?_⟩
        · refine ⟨_, rfl, rfl, _, rfl, ?_⟩
          by_cases h1 : ways = 1
          · refine iteTr (by rw [h1]; rfl) ?_
            refine step_put (kk := [lx, .num (0 + (j : Int))]) (us := [lfV lx, .int (0 + (j : Int))]) hp0 nd0 rfl ⟨lx, _, hlx, ho0, ho1, .inl ⟨h1, rfl⟩⟩ (fun H Q h => ⟨_, rfl, _, rfl, (by show 2 ≤ sizeLine; omega), h⟩) rfl rfl rfl rfl (by omega) (by omega) (by omega) (by omega) S2 fun H' S' => ⟨S', rfl⟩
          · refine iteFa (decide_eq_false fun z => h1 (by cases z; rfl)) (iteF ⟨S2.mono (by omega), rfl⟩)
        · obtain ⟨S3, rfl⟩ := hM
          refine ⟨_, rfl, p, rfl, ⟨_, .inl (.inl S3.sml)⟩, for_list (K := K) (a := p) (xs := sm) (fun r σ H' => TSt P w L C p d sm ways worths H (k + 1) (i * 30 + j * 10 + 2 + r * 2) H' ∧ ∃ o9, σ = [some (.ref L), some (.int ways), some (.int letters), some (.int worths), some (.ref d), some (.ref p), some (.int often), some (lfV lx), some (.int (0 + (j : Int))), o9, none])
            ⟨S3, o9, rfl⟩ (fun r σ H' _ hP => .inl (.inl hP.1.sml)) (fun r x σ H' hx2 hP => ?_) (fun σ H' hP => ?_)⟩
          · obtain ⟨hr4, _⟩ := List.getElem?_eq_some_iff.mp hx2
            obtain ⟨S4, o9, rfl⟩ := hP
            obtain ⟨ly, rfl, hly⟩ := leaf hx2
            refine ⟨_, rfl, rfl, _, rfl, ?_⟩
            by_cases h2 : ways = 2
            · refine iteTr (by rw [h2]; rfl) ?_
              refine step_put (kk := [lx, .num (0 + (j : Int)), ly]) (us := [lfV lx, .int (0 + (j : Int)), lfV ly]) hp0 nd0 rfl ⟨lx, _, hlx, ho0, ho1, .inr ⟨h2, ly, hly, rfl⟩⟩ (fun H Q h => ⟨_, rfl, _, rfl, _, rfl, (by show 3 ≤ sizeLine; omega), h⟩) rfl rfl rfl rfl (by omega) (by omega) (by omega) (by omega) S4 fun H' S' => ⟨S'.mono (by omega), _, rfl⟩
            · exact iteFa (decide_eq_false fun z => h2 (by cases z; rfl)) (iteF ⟨S4.mono (by omega), _, rfl⟩)
          · obtain ⟨S4, o9, rfl⟩ := hP
            exact ⟨S4.mono (by omega), _, _, rfl⟩
      · obtain ⟨S4, o8, o9, rfl⟩ := hP
        exact ⟨S4.mono (by omega), _, _, _, rfl⟩
    · obtain ⟨S, o7, o8, o9, rfl⟩ := hP
      have S7 := S.mono (c' := 120) (by omega)
      obtain ⟨xs, hx1, hx2, hx3⟩ := S7.di
      obtain ⟨zl, hL7⟩ := S7.lo.lst
      obtain ⟨zc, hC7⟩ := S7.lo.cells
      refine ⟨_, rfl, _, rfl, worths, rfl, by omega, by omega, fun D nD => lc_range (lo := 0) (n := worths.toNat) (fun i H' => But L H7 H' ∧ LoomAt H' L C (k + 1 + 120 + i) ∧ ∃ ys : List Int, H' D = some (.lst (ys.map V.int)) ∧ ys.Nodup ∧ (∀ y ∈ ys, 0 ≤ y ∧ y < (i : Int)) ∧ ys.length ≤ i)
        ⟨(But.of hL7 (Same.upd nD)), S7.lo.same (Same.upd nD), [], upd_same, List.nodup_nil, (fun y hy => by cases hy), Nat.le_refl _⟩ (fun i H' hi hP => ?_) (fun H' hP => ?_)⟩
      · obtain ⟨b, l, ys, hD, hn, hr3, hl3⟩ := hP
        refine ⟨rfl, _, rfl, L, C, 2, k + 1 + 120 + i, rfl, l, by omega, by decide, by decide, fun r H8 r0 r1 b8 l8 => ⟨rfl, _, rfl, ?_⟩⟩
        have hDL : D ≠ L := (ne_of_none hL7 nD).symm
        have hDC : C ≠ D := ne_of_none hC7 nD
        have hD8 := b8.2.2 _ _ hD hDL
        by_cases h0 : r = 0
        · refine iteTr (by rw [h0]; rfl) ⟨_, rfl, _, hD8, by rw [List.length_map]; omega, (b.trans b8).upd nD, l8.upd hDL.symm hDC, ys ++ [0 + (i : Int)], ?_, ?_, ?_, ?_⟩
          · rw [upd_same, List.map_append]
            rfl
          · refine List.nodup_append.mpr ⟨hn, List.nodup_cons.mpr ⟨fun z => (by cases z), List.nodup_nil⟩, fun a ha c hc e => ?_⟩
            cases List.mem_singleton.mp hc
            have := (hr3 a ha).2
            omega
          · intro y hy
            rcases List.mem_append.mp hy with hy | hy
            · have := hr3 y hy
              omega
            · cases List.mem_singleton.mp hy
              omega
          · rw [List.length_append]
            show ys.length + 1 ≤ i + 1
            omega
        · refine iteFa (decide_eq_false fun z => h0 (by cases z; rfl)) ⟨b.trans b8, l8, ys, hD8, hn, fun y hy => ?_, by omega⟩
          have := hr3 y hy
          omega
      · obtain ⟨b, l, ys, hD, hn, hr3, hl3⟩ := hP
        refine ⟨by show 2 ≤ sizeLine; omega, fun t nt => ?_⟩
        have st := Same.upd (o := .tup [V.ref d, .ref D]) nt
        refine q t d D xs ys _ ((S7.but.trans b).same st) ((l.same st).mono (by omega)) upd_same ((hx1.keep b.keep).keep (Keep.of st)) ⟨hx2.nd, hx2.key, hx2.val, by omega⟩ (st _ _ hD) ⟨hn, fun y hy => ?_, by omega⟩
        have := hr3 y hy
        omega
end
end BR
set_option Elab.async false
set_option linter.all false
set_option maxRecDepth 100000
/-! The law's own looking up; its words. -/
namespace BR
open PySem PySem.Spec PyProof.Rows L2
theorem ints_get {us : List Int} {i : Nat} {v : V} (h : (us.map V.int)[i]? = some v) : ∃ n, us[i]? = some n ∧ v = .int n := map_get h
section
variable {P : Program} {w : World} {K : PySem.W.Frag} {mg : Str → Option Value} {base : Heap}
def spDue (P : Program) (w : World) (K : PySem.W.Frag) (tab : Tab) (yes : List Int) (ways letters : Int) : Sp := fun vs H Q _ => ∃ (d y a : Addr) (xs : List DE) (ns : List Int), vs = [.int ways, .ref d, .ref y, .ref a, .int ((TableR P w K tab yes ways letters).due ns.length)] ∧
  DX P w H d xs ∧ (∀ k, valX xs k = (tab k).map V.int) ∧ H y = some (.lst (yes.map V.int)) ∧ H a = some (.lst (ns.map V.int)) ∧ (ways = 1 ∨ ways = 2) ∧ 1 ≤ ns.length ∧ ns.length ≤ 200 ∧ ∀ H', Same H H' → Q (.bl ((TableR P w K tab yes ways letters).tell ns)) H'
theorem wide_l {us : List Int} {i : Nat} (hi : i < us.length) : ([V.non] ++ us.map V.int ++ [V.non])[i]? = some (vO (prevO us i)) := by
  cases i with
  | zero => rfl
  | succ j =>
    rw [prevO_succ]
    show ((us.map V.int) ++ [V.non])[j]? = _
    rw [List.getElem?_append_left (by rw [List.length_map]; omega), List.getElem?_map, List.getElem?_eq_getElem (show j < us.length by omega)]
    rfl
theorem wide_r {us : List Int} {i : Nat} (hi : i < us.length) : ([V.non] ++ us.map V.int ++ [V.non])[i + 2]? = some (vO us[i + 1]?) := by
  show ((us.map V.int) ++ [V.non])[i + 1]? = _
  by_cases h : i + 1 < us.length
  · rw [List.getElem?_append_left (by rw [List.length_map]; omega), List.getElem?_map, List.getElem?_eq_getElem h]
    rfl
  · rw [List.getElem?_append_right (by rw [List.length_map]; omega), List.length_map, show i + 1 - us.length = 0 by omega, List.getElem?_eq_none (show us.length ≤ i + 1 by omega)]
    rfl
theorem c_law_due (T : Top K mg) {tab : Tab} {yes : List Int} {ways letters : Int} : Cal P w K mg base 1 "_law_due" (spDue P w K tab yes ways letters) [] := by
  refine T.d_law_due.cal sc_law_due (fun vs H Q E h => ?_) (fun f cdv A outer s H vs Q E hr h => ?_)
  · obtain ⟨d, a, c, e, g, rfl, _⟩ := h
    rfl
  · obtain ⟨d, y, a, xs, ns, rfl, DD, hval, hy, ha, hways, hl, hl2, q⟩ := h
    have hu := hu_of hr
    have nd := sc_law_due.nd
    have sz := sizeLine_eq
    refine ⟨_, pss_cons (ps_set (i := 5) nd rfl (Or.inl rfl) (pe_callTy call_list_of rfl T.f_list b_list (pa_cons (pv 3) pa_nil)))
      (pss_cons (ps_for PassesOwn.never rfl (pi_range1 rfl T.f_range (pa_cons (pv 4) pa_nil)) (pg_name (i := 6) nd rfl (Or.inl rfl))
        (pss_cons (ps_set (i := 7) nd rfl (by first | exact Or.inl rfl | exact Or.inr rfl) (pe_op op_cat (pe_op op_cat (pe_lst (pa_cons pe_non pa_nil)) (pv 5)) (pe_lst (pa_cons pe_non pa_nil))))
        (pss_one (ps_if (pt_cmpR op_eq (pv 0) pe_int (nomark _))
          (pss_one (ps_setLc (i := 5) (own := [("_law_at", 8), ("_law_own", 9)]) (g := gTup K 2 (gCons (gName 8) (gCons (gName 9) gNil))) (tt := tYes) (te := tXGet2 P w (tVar 1) (tTup (tCons (tOp (rIxL K) (tVar 7) (tVar 8)) (tCons (tVar 9) tNil))) (tVar 9)) rfl nd rfl rfl (sw_true rfl rfl rfl (by decide +kernel))
            (pi_enum rfl T.f_enumerate (pa_cons (pv 5) pa_nil)) (blkOk_by (N := ["_law_ways", "_law_rules", "_law_yes", "_law_word", "_law_ticks", "_law_cells", "_law_tick", "_law_wide", "_law_at", "_law_own"]) (sc := defScope s_law_due) (by decide +kernel))
            (fun _ _ _ _ _ => pg_tup rfl (pgs_cons (pg_name (i := 8) nd rfl (Or.inl rfl)) (pgs_cons (pg_name (i := 9) nd rfl (Or.inl rfl)) pgs_nil))) (fun _ _ _ _ _ => pts_nil)
            (fun _ _ _ _ _ => pe_xget2 hu (pv 1) (pe_tup (pa_cons (pe_ix (r := rIxL K) ix_list (pv 7) (pv 8) (fun _ _ => rfl)) (pa_cons (pv 9) pa_nil))) (pv 9) ⟨rfl, rfl, rfl, rfl⟩)))
          (pss_one (ps_setLc (i := 5) (own := [("_law_at", 8), ("_law_own", 9)]) (g := gTup K 2 (gCons (gName 8) (gCons (gName 9) gNil))) (tt := tYes) (te := tXGet2 P w (tVar 1) (tTup (tCons (tOp (rIxL K) (tVar 7) (tVar 8)) (tCons (tVar 9) (tCons (tOp (rIxL K) (tVar 7) (tOp (rI0 fun i j => .int (i + j)) (tVar 8) (tC (.int 2)))) tNil)))) (tVar 9)) rfl nd rfl rfl (sw_true rfl rfl rfl (by decide +kernel))
            (pi_enum rfl T.f_enumerate (pa_cons (pv 5) pa_nil)) (blkOk_by (N := ["_law_ways", "_law_rules", "_law_yes", "_law_word", "_law_ticks", "_law_cells", "_law_tick", "_law_wide", "_law_at", "_law_own"]) (sc := defScope s_law_due) (by decide +kernel))
            (fun _ _ _ _ _ => pg_tup rfl (pgs_cons (pg_name (i := 8) nd rfl (Or.inl rfl)) (pgs_cons (pg_name (i := 9) nd rfl (Or.inl rfl)) pgs_nil))) (fun _ _ _ _ _ => pts_nil)
            (fun _ _ _ _ _ => pe_xget2 hu (pv 1) (pe_tup (pa_cons (pe_ix (r := rIxL K) ix_list (pv 7) (pv 8) (fun _ _ => rfl)) (pa_cons (pv 9) (pa_cons (pe_ix (r := rIxL K) ix_list (pv 7) (pe_op op_add (pv 8) pe_int) (fun _ _ => rfl)) pa_nil)))) (pv 9) ⟨rfl, rfl, rfl, rfl⟩)))))))
      (pss_one (ps_ret (pe_cmpR op_in_seq (pe_ifV (pt_cmpR op_eq (pv 0) pe_int (nomark _)) (pe_ix ix_list (pv 5) pe_int (fun _ _ => rfl)) (pe_ix ix_list (pv 5) (pe_op op_sub (pe_callB call_len_seq rfl T.f_len b_len (pa_cons (pv 5) pa_nil)) pe_int) (fun _ _ => rfl))) (pv 2) (by rfl))))), ?_⟩
    generalize hR : TableR P w K tab yes ways letters = R at *
    refine ⟨_, rfl, a, _, rfl, .inl (.inl (.inl ha)), fun l nl => ?_⟩
    have s1 := Same.upd (o := .lst (ns.map V.int)) nl
    refine ⟨_, rfl, _, rfl, ?_, ?_, for_range (lo := 0) (n := ((R.due ns.length : Nat) : Int).toNat) (fun i σ H2 => Same H H2 ∧ ∃ (c : Addr) (us : List Int) (o6 o7 : Option V), σ = [some (.int ways), some (.ref d), some (.ref y), some (.ref a), some (.int (R.due ns.length)), some (.ref c), o6, o7, none, none] ∧ H2 c = some (.lst (us.map V.int)) ∧ us = tks (TableR P w K tab yes ways letters).nx i ns)
      ⟨s1, l, ns, none, none, rfl, upd_same, rfl⟩ (fun i σ H2 hi hP => ?_) (fun σ H2 hP => ?_)⟩
    · unfold RowM.due
      split <;> omega
    · unfold RowM.due
      split <;> omega
    · obtain ⟨s2, c, us, o6, o7, rfl, hc, hus⟩ := hP
      have hul : us.length = ns.length := by rw [hus, tks_len]
      refine ⟨(by show 1 ≤ sizeLine; omega), fun e ne => ?_⟩
      refine ⟨_, rfl, e, c, [.non], us.map V.int, rfl, rfl, upd_same, Same.upd ne _ _ hc, (by rw [List.length_map]; show 1 + us.length ≤ sizeLine; omega), fun g ng => ⟨(by show 1 ≤ sizeLine; omega), fun e2 ne2 => ⟨g, e2, _, [.non], rfl, rfl, Same.upd ne2 _ _ upd_same, upd_same, (by rw [List.length_append, List.length_map]; show 1 + us.length + 1 ≤ sizeLine; omega), fun p np => ?_⟩⟩⟩
      have s3 := ((((s2.trans (Same.upd (o := .lst [.non]) ne)).trans (Same.upd (o := .lst ([.non] ++ us.map V.int)) ng)).trans (Same.upd (o := .lst [.non]) ne2)).trans (Same.upd (o := .lst ([.non] ++ us.map V.int ++ [.non])) np))
      have hc3 := (((Same.upd (o := .lst [.non]) ne).trans (Same.upd (o := .lst ([.non] ++ us.map V.int)) ng)).trans (Same.upd (o := .lst [.non]) ne2)).trans (Same.upd (o := .lst ([.non] ++ us.map V.int ++ [.non])) np) c _ hc
      have hp3 : (upd (upd (upd (upd H2 e (.lst [.non])) g (.lst ([.non] ++ us.map V.int))) e2 (.lst [.non])) p (.lst ([.non] ++ us.map V.int ++ [.non]))) p = some (.lst ([.non] ++ us.map V.int ++ [.non])) := upd_same
      generalize (upd (upd (upd (upd H2 e (.lst [.non])) g (.lst ([.non] ++ us.map V.int))) e2 (.lst [.non])) p (.lst ([.non] ++ us.map V.int ++ [.non]))) = H3 at *
      have D3 := DD.keep (Keep.of s3)
      refine ⟨_, rfl, rfl, _, rfl, ?_⟩
      have fin : ∀ (D : Addr) (H5 : Hp) (out : List V), Same H3 H5 → H5 D = some (.lst out) → out.length = us.length → (∀ (j : Nat) (v : V), out[j]? = some v → ∃ n, (tk (TableR P w K tab yes ways letters).nx us)[j]? = some n ∧ v = .int n) →
          H5 D = some (.lst ((tk (TableR P w K tab yes ways letters).nx us).map V.int)) := fun D H5 out s5 hD hlen hrel => by
        rw [hD, list_of (f := V.int) (by rw [hlen, tk_len]) hrel]
      have got : ∀ (t : Addr) (kk : LK) (j : Nat) (o : Int) (H5 : Hp), us[j]? = some o → Same H3 H5 → H5 t = some (.tup (kk.map lfV)) → (∀ z, (tab kk).getD o = z → z = (TableR P w K tab yes ways letters).nx (prevO us j) o us[j + 1]?) → ∀ Q' : VK, (∀ y, (∃ n, (tk (TableR P w K tab yes ways letters).nx us)[j]? = some n ∧ y = .int n) → Q' y H5) →
          ∃ xs k b, DX P w H5 d xs ∧ V.ref t = .ref b ∧ H5 b = some (.tup (k.map lfV)) ∧ Q' ((valX xs k).getD (.int o)) H5 := fun t kk j o H5 ho s5 ht hz Q' hq => by
        refine ⟨xs, kk, t, D3.keep (Keep.of s5), rfl, ht, hq _ ⟨_, by rw [tk_get, ho]; rfl, ?_⟩⟩
        rw [hval]
        show (Option.map V.int (tab kk)).getD (V.int o) = V.int ((TableR P w K tab yes ways letters).nx (prevO us j) o us[j + 1]?)
        rw [← hz _ rfl]
        cases tab kk <;> rfl
      rcases hways with h1 | h2
      · refine iteTr (by rw [h1]; rfl) ⟨_, rfl, c, _, rfl, .inl (.inl hc3), fun D nD => lc_same (walk_enum (K := K) (a := c) (xs := us.map V.int)) nD (fun j _ v => ∃ n, (tk (TableR P w K tab yes ways letters).nx us)[j]? = some n ∧ v = .int n) (by rw [List.length_map]; omega) (fun H4 s4 => .inl (.inl (s4 _ _ hc3))) (fun _ _ _ _ _ e => e) (fun j x Hc Hc' hj sc yy => ?_) fun H5 out s5 hD hlen hrel => ?_⟩
        · obtain ⟨t, x1, x2, rfl, nt, rfl, e1, hx2⟩ := yy
          cases e1
          refine ⟨Same.upd nt, fun Q' hq => ?_⟩
          obtain ⟨o, ho, rfl⟩ := map_get (show (us.map V.int)[j]? = some x2 from hx2)
          have st := sc.trans (Same.upd (o := .tup [.int (j : Nat), .int o]) nt)
          obtain ⟨hjl, _⟩ := List.getElem?_eq_some_iff.mp ho
          refine ⟨t, _, rfl, .inl (.inl upd_same), rfl, _, _, rfl, _, _, rfl, rfl, rfl, ?_⟩
          refine ⟨_, rfl, d, xs, rfl, D3.keep (Keep.of st), _, rfl, _, rfl, p, _, _, _, rfl, rfl, .inl (.inl (st _ _ hp3)), atI_nat (wide_l hjl), _, rfl, (by show 2 ≤ sizeLine; omega), fun t2 nt2 => ⟨_, rfl, ?_⟩⟩
          have st2 := Same.upd (o := .tup [vO (prevO us j), .int o]) nt2
          refine got t2 [lf (prevO us j), .num o] j o _ ho (st.trans st2) ?_ (fun z ez => ?_) Q' fun y hy => hq y _ st2 hy
          · rw [upd_same]
            show _ = some (HO.tup [lfV (lf (prevO us j)), .int o])
            rw [lfV_lf]
          · rw [← ez]
            show _ = (if ways = 1 then g1 tab _ _ else f2 tab _ _ _)
            rw [if_pos h1]
            rfl
        · rw [List.length_map] at hlen
          exact ⟨s3.trans s5, D, tk (TableR P w K tab yes ways letters).nx us, _, _, rfl, fin D H5 out s5 hD hlen hrel, by rw [hus]; rfl⟩
      · refine iteFa (by rw [h2]; rfl) ⟨_, rfl, c, _, rfl, .inl (.inl hc3), fun D nD => lc_same (walk_enum (K := K) (a := c) (xs := us.map V.int)) nD (fun j _ v => ∃ n, (tk (TableR P w K tab yes ways letters).nx us)[j]? = some n ∧ v = .int n) (by rw [List.length_map]; omega) (fun H4 s4 => .inl (.inl (s4 _ _ hc3))) (fun _ _ _ _ _ e => e) (fun j x Hc Hc' hj sc yy => ?_) fun H5 out s5 hD hlen hrel => ?_⟩
        · obtain ⟨t, x1, x2, rfl, nt, rfl, e1, hx2⟩ := yy
          cases e1
          refine ⟨Same.upd nt, fun Q' hq => ?_⟩
          obtain ⟨o, ho, rfl⟩ := map_get (show (us.map V.int)[j]? = some x2 from hx2)
          have st := sc.trans (Same.upd (o := .tup [.int (j : Nat), .int o]) nt)
          obtain ⟨hjl, _⟩ := List.getElem?_eq_some_iff.mp ho
          refine ⟨t, _, rfl, .inl (.inl upd_same), rfl, _, _, rfl, _, _, rfl, rfl, rfl, ?_⟩
          refine ⟨_, rfl, d, xs, rfl, D3.keep (Keep.of st), _, rfl, _, rfl, p, _, _, _, rfl, rfl, .inl (.inl (st _ _ hp3)), atI_nat (wide_l hjl), _, rfl, _, rfl, _, rfl, _, _, rfl, rfl, p, _, _, _, rfl, rfl, .inl (.inl (st _ _ hp3)), atI_nat (j := j + 2) (wide_r hjl), (by show 3 ≤ sizeLine; omega), fun t2 nt2 => ⟨_, rfl, ?_⟩⟩
          have st2 := Same.upd (o := .tup [vO (prevO us j), .int o, vO us[j + 1]?]) nt2
          refine got t2 [lf (prevO us j), .num o, lf us[j + 1]?] j o _ ho (st.trans st2) ?_ (fun z ez => ?_) Q' fun y hy => hq y _ st2 hy
          · rw [upd_same]
            show _ = some (HO.tup [lfV (lf (prevO us j)), .int o, lfV (lf us[j + 1]?)])
            rw [lfV_lf, lfV_lf]
          · rw [← ez]
            show _ = (if ways = 1 then g1 tab _ _ else f2 tab _ _ _)
            rw [if_neg (by rw [h2]; decide)]
            rfl
        · rw [List.length_map] at hlen
          exact ⟨s3.trans s5, D, tk (TableR P w K tab yes ways letters).nx us, _, _, rfl, fin D H5 out s5 hD hlen hrel, by rw [hus]; rfl⟩
    · obtain ⟨s2, c, us, o6, o7, rfl, hc, hus⟩ := hP
      subst hR
      rw [Int.toNat_natCast] at hus
      have hul : us.length = ns.length := by rw [hus, tks_len]
      have hlt : (TableR P w K tab yes ways letters).seat ns.length < us.length := by rw [hul]; exact (TableR P w K tab yes ways letters).seat_lt hl
      have hx : (TableR P w K tab yes ways letters).last ns = some us[(TableR P w K tab yes ways letters).seat ns.length] := by
        unfold RowM.last
        show (tks (TableR P w K tab yes ways letters).nx _ (ns.map fun l => l))[_]? = _
        rw [List.map_id', ← List.getElem?_eq_getElem hlt, ← hus]
      have hw0 : (TableR P w K tab yes ways letters).ways = ways := rfl
      refine ⟨_, rfl, rfl, _, rfl, .int us[(TableR P w K tab yes ways letters).seat ns.length], ?_, _, rfl, y, _, rfl, .inl (.inl (.inl (s2 _ _ hy))), rfl, flat_ints yes, ?_⟩
      · have e1 : (us.map V.int)[(TableR P w K tab yes ways letters).seat ns.length]? = some (.int us[(TableR P w K tab yes ways letters).seat ns.length]) := by
          rw [List.getElem?_map, List.getElem?_eq_getElem hlt]
          rfl
        rcases hways with h1 | h2
        · refine iteFa (by rw [h1]; rfl) ⟨_, rfl, _, rfl, c, _, rfl, .inl (.inl (.inl hc)), _, _, rfl, rfl, c, _, _, _, rfl, rfl, .inl (.inl hc), at_of (j := (TableR P w K tab yes ways letters).seat ns.length) ?_ e1, rfl, rfl⟩
          have e : (TableR P w K tab yes ways letters).seat ns.length = ns.length - 1 := if_pos (hw0.trans h1)
          rw [List.length_map, hul, e]
          omega
        · refine iteTr (by rw [h2]; rfl) ⟨_, rfl, c, _, _, _, rfl, rfl, .inl (.inl hc), at_of (j := (TableR P w K tab yes ways letters).seat ns.length) ?_ e1, rfl, rfl⟩
          have e : (TableR P w K tab yes ways letters).seat ns.length = 0 := if_neg (by rw [hw0, h2]; decide)
          rw [e] <;> rfl
      · have k := q H2 s2
        rw [RowM.tell_of hx] at k
        show Q (.bl (inV (.int us[(TableR P w K tab yes ways letters).seat ns.length]) (yes.map V.int))) H2
        rw [inV_ints]
        exact k
end
end BR
set_option Elab.async false
set_option linter.all false
set_option maxRecDepth 100000
/-! The law's words. -/
namespace BR
open PySem PySem.Spec PyProof.Rows L2
def WordAt (H : Hp) (a : Addr) (n : Nat) (letters : Int) : Prop := ∃ ns : List Int, H a = some (.lst (ns.map V.int)) ∧ ns.length = n ∧ ∀ x ∈ ns, 0 ≤ x ∧ x < letters
theorem WordAt.same {H H' : Hp} {a : Addr} {n : Nat} {letters : Int} (s : Same H H') (h : WordAt H a n letters) : WordAt H' a n letters := by
  obtain ⟨ns, h1, h2⟩ := h
  exact ⟨ns, s _ _ h1, h2⟩
theorem WordAt.upd {H : Hp} {a D : Addr} {o : HO} {n : Nat} {letters : Int} (d : a ≠ D) (h : WordAt H a n letters) : WordAt (L2.upd H D o) a n letters := by
  obtain ⟨ns, h1, h2⟩ := h
  exact ⟨ns, by rw [upd_ne d]; exact h1, h2⟩
section
variable {P : Program} {w : World} {K : PySem.W.Frag} {mg : Str → Option Value} {base : Heap}
def spWords : Sp := fun vs H Q _ => ∃ letters most : Int, vs = [.int letters, .int most] ∧ 1 ≤ letters ∧ letters ≤ 3 ∧ 1 ≤ most ∧ most ≤ 6 ∧
  ∀ (f : Addr) (fs : List Addr) (H' : Hp), Same H H' → H f = none → H' f = some (.lst (fs.map V.ref)) → (∀ a ∈ fs, ∃ n, 1 ≤ n ∧ n ≤ 6 ∧ WordAt H' a n letters) → 1 ≤ fs.length → fs.length ≤ 1458 → Q (.ref f) H'
theorem c_law_words (T : Top K mg) : Cal P w K mg base 1 "_law_words" spWords [] := by
  refine T.d_law_words.cal sc_law_words (fun vs H Q E h => ?_) (fun f cdv A outer s H vs Q E hr h => ?_)
  · obtain ⟨d, a, rfl, _⟩ := h
    rfl
  · obtain ⟨letters, most, rfl, hl1, hl3, hm1, hm6, q⟩ := h
    have nd := sc_law_words.nd
    have sz := sizeLine_eq
    refine ⟨_, pss_cons (ps_par (i := 2) (j := 3) (by rfl) nd rfl rfl (by decide) rfl rfl (pa_cons (pe_lst pa_nil) (pa_cons (pe_lst (pa_cons (pe_lst pa_nil) pa_nil)) pa_nil)) (by rfl))
      (pss_cons (ps_for PassesOwn.never rfl (pi_range1 rfl T.f_range (pa_cons (pv 1) pa_nil)) (pg_name (i := 4) nd rfl (Or.inl rfl))
        (pss_cons (ps_set (i := 5) nd rfl (Or.inl rfl) (pe_lst pa_nil))
        (pss_cons (ps_for PassesOwn.never rfl (pi_list (pv 3)) (pg_name (i := 6) nd rfl (by first | exact Or.inl rfl | exact Or.inr rfl))
          (pss_one (ps_expr (pe_bm PySem.F.plainAttrs_list PySem.F.slot_list_extend PySem.F.type_list_extend mt_extend (pv 5) (pa_cons (pe_lc (own := [("_law_letter", 7)]) (g := gName 7) (tt := tYes) rfl nd (pi_range1 rfl T.f_range (pa_cons (pv 0) pa_nil)) (blkOk_by (N := ["_law_letters", "_law_most", "_law_found", "_law_last", "_law_many", "_law_longer", "_law_word", "_law_letter"]) (sc := defScope s_law_words) (by decide +kernel))
            (fun _ _ _ _ _ => pg_name (i := 7) nd rfl (Or.inl rfl)) (fun _ _ _ _ _ => pts_nil) (fun _ _ _ _ _ => pe_op op_cat (pv 6) (pe_lst (pa_cons (pv 7) pa_nil)))) pa_nil)))))
        (pss_one (ps_par (i := 2) (j := 3) (by rfl) nd rfl rfl (by decide) rfl rfl (pa_cons (pe_op op_cat (pv 2) (pv 5)) (pa_cons (pv 5) pa_nil)) (by rfl))))))
      (pss_one (ps_ret (pv 2)))), ?_⟩
    refine ⟨(by show 0 ≤ sizeLine; omega), fun f0 nf0 => ⟨(by show 0 ≤ sizeLine; omega), fun e ne => ⟨(by show 1 ≤ sizeLine; omega), fun l0 nl0 => ⟨_, _, rfl, ?_⟩⟩⟩⟩
    have s1 := Same.upd (o := .lst []) nf0
    have s2 := s1.trans (Same.upd (o := .lst []) ne)
    have s3 := s2.trans (Same.upd (o := .lst [.ref e]) nl0)
    have tl : (letters.toNat : Int) = letters := by omega
    refine ⟨_, rfl, most, rfl, by omega, by omega, for_range (lo := 0) (n := most.toNat) (fun i σ H' => Same H H' ∧ ∃ (fa la : Addr) (fs ls : List Addr) (o4 o5 o6 : Option V), σ = [some (.int letters), some (.int most), some (.ref fa), some (.ref la), o4, o5, o6, none] ∧ H fa = none ∧ H' fa = some (.lst (fs.map V.ref)) ∧ H' la = some (.lst (ls.map V.ref)) ∧
        (∀ a ∈ fs, ∃ n, 1 ≤ n ∧ n ≤ i ∧ WordAt H' a n letters) ∧ (∀ a ∈ ls, WordAt H' a i letters) ∧ ls.length ≤ 3 ^ i ∧ fs.length ≤ 2 * 3 ^ i ∧ 1 ≤ ls.length ∧ (1 ≤ i → 1 ≤ fs.length))
      ⟨s3, f0, l0, [], [e], none, none, none, rfl, nf0, ?_, upd_same, (fun a ha => by cases ha), ?_, Nat.le_refl 1, by decide, Nat.le_refl 1, fun z => by omega⟩ (fun i σ H1 hi hP => ?_) (fun σ H1 hP => ?_)⟩
    · exact ((Same.upd ne).trans (Same.upd nl0)) _ _ upd_same
    · intro a ha
      cases List.mem_singleton.mp ha
      exact ⟨[], (Same.upd nl0) _ _ upd_same, rfl, fun x hx => by cases hx⟩
    · obtain ⟨sH, fa, la, fs, ls, o4, o5, o6, rfl, hfa, hf, hla, hfs, hls, hlen, hflen, hl0, hf0⟩ := hP
      have p6 : 3 ^ i ≤ 729 := Nat.le_trans (Nat.pow_le_pow_right (by decide) (show i ≤ 6 by omega)) (by decide)
      refine ⟨(by show 0 ≤ sizeLine; omega), fun D nD => ?_⟩
      have hD0 : H D = none := sH.free nD
      have hla' := Same.upd (o := .lst []) nD _ _ hla
      refine ⟨_, rfl, la, rfl, ⟨_, .inl (.inl hla')⟩, for_list (K := K) (a := la) (xs := ls.map V.ref) (fun j σ H2 => Same H1 H2 ∧ ∃ (as : List Addr) (o6 : Option V), σ = [some (.int letters), some (.int most), some (.ref fa), some (.ref la), some (.int (0 + (i : Int))), some (.ref D), o6, none] ∧ H2 D = some (.lst (as.map V.ref)) ∧ as.length = j * letters.toNat ∧ ∀ a ∈ as, a ≠ D ∧ WordAt H2 a (i + 1) letters)
        ⟨Same.upd nD, [], o6, rfl, upd_same, (by rw [Nat.zero_mul]; rfl), fun a ha => by cases ha⟩ (fun j σ H2 _ hP => .inl (.inl (hP.1 _ _ hla))) (fun j x σ H2 hx hP => ?_) (fun σ H2 hP => ?_)⟩
      · obtain ⟨s12, as, o6, rfl, hD, hal, has⟩ := hP
        obtain ⟨wa, hwa, rfl⟩ := map_get hx
        obtain ⟨hj, _⟩ := List.getElem?_eq_some_iff.mp hwa
        have hww := (hls wa (List.mem_of_getElem? hwa)).same s12
        obtain ⟨wn, hw1, hw2, hw3⟩ := hww
        have hjl : j * letters.toNat ≤ 729 * 3 := Nat.mul_le_mul (by omega) (by omega)
        refine ⟨_, rfl, .inl ⟨rfl, _, .inl (.inl hD)⟩, _, rfl, letters, rfl, by omega, by omega, fun C nC => lc_range (lo := 0) (n := letters.toNat) (fun r H3 => Same H2 H3 ∧ ∃ cs : List Addr, H3 C = some (.lst (cs.map V.ref)) ∧ cs.length = r ∧ ∀ a ∈ cs, H2 a = none ∧ a ≠ C ∧ WordAt H3 a (i + 1) letters)
          ⟨Same.upd nC, [], upd_same, rfl, fun a ha => by cases ha⟩ (fun r H3 hr3 hP => ?_) (fun H3 hP => ?_)⟩
        · obtain ⟨s23, cs, hC, hcl, hcs⟩ := hP
          refine ⟨rfl, _, rfl, _, rfl, (by show 1 ≤ sizeLine; omega), fun e1 ne1 => ?_⟩
          have hw1' := Same.upd (o := .lst [.int (0 + (r : Int))]) ne1 _ _ (s23 _ _ hw1)
          refine ⟨wa, e1, _, _, rfl, rfl, hw1', upd_same, (by rw [List.length_map, hw2]; show i + 1 ≤ sizeLine; omega), fun p np => ?_⟩
          have s34 := (Same.upd (o := .lst [.int (0 + (r : Int))]) ne1).trans (Same.upd (o := .lst (wn.map V.int ++ [.int (0 + (r : Int))])) np)
          have hC4 := s34 _ _ hC
          have hpC : p ≠ C := (ne_of_none (Same.upd (o := .lst [.int (0 + (r : Int))]) ne1 _ _ hC) np).symm
          have np2 : H2 p = none := s23.free ((Same.upd (o := .lst [.int (0 + (r : Int))]) ne1).free np)
          refine ⟨_, hC4, by rw [List.length_map]; omega, (s23.trans s34).updI nC, cs ++ [p], ?_, ?_, ?_⟩
          · rw [upd_same, List.map_append]
            rfl
          · rw [List.length_append, hcl]
            rfl
          · intro a ha
            rcases List.mem_append.mp ha with ha | ha
            · obtain ⟨h1, h2, h3⟩ := hcs a ha
              exact ⟨h1, h2, (h3.same s34).upd h2⟩
            · cases List.mem_singleton.mp ha
              refine ⟨np2, hpC, ⟨wn ++ [0 + (r : Int)], ?_, by rw [List.length_append, hw2]; rfl, fun x hx => ?_⟩⟩
              · rw [upd_ne hpC, upd_same, List.map_append]
                rfl
              · rcases List.mem_append.mp hx with hx | hx
                · exact hw3 x hx
                · cases List.mem_singleton.mp hx
                  omega
        · obtain ⟨s23, cs, hC, hcl, hcs⟩ := hP
          have hD3 := s23 _ _ hD
          refine ⟨D, C, as.map V.ref, cs.map V.ref, rfl, rfl, hD3, hC, by rw [List.length_map, List.length_map, hal, hcl]; omega, (s12.trans s23).updI nD, as ++ cs, _, rfl, ?_, ?_, ?_⟩
          · rw [upd_same, List.map_append]
          · rw [List.length_append, hal, hcl, Nat.succ_mul]
          · intro a ha
            rcases List.mem_append.mp ha with ha | ha
            · obtain ⟨h1, h2⟩ := has a ha
              exact ⟨h1, (h2.same s23).upd h1⟩
            · obtain ⟨h1, h2, h3⟩ := hcs a ha
              have hne : a ≠ D := (ne_of_none hD h1).symm
              exact ⟨hne, h3.upd hne⟩
      · obtain ⟨s12, as, o6, rfl, hD, hal, has⟩ := hP
        rw [List.length_map] at hal
        have h9 : as.length ≤ 3 ^ (i + 1) := by
          rw [hal, Nat.pow_succ]
          exact Nat.mul_le_mul hlen (by omega)
        have hf2 := s12 _ _ hf
        have has1 : 1 ≤ as.length := by
          rw [hal]
          exact Nat.mul_pos hl0 (by omega)
        have ep : 3 ^ (i + 1) = 3 * 3 ^ i := by rw [Nat.pow_succ, Nat.mul_comm]
        refine ⟨_, rfl, _, rfl, fa, D, fs.map V.ref, as.map V.ref, rfl, rfl, hf2, hD, by rw [List.length_map, List.length_map]; omega, fun p np => ⟨_, rfl, _, _, rfl, ?_⟩⟩
        have sp := Same.upd (o := .lst (fs.map V.ref ++ as.map V.ref)) np
        have sf := (sH.trans s12).trans sp
        refine ⟨sf, p, D, fs ++ as, as, _, _, _, rfl, (sH.trans s12).free np, ?_, sp _ _ hD, fun a ha => ?_, fun a ha => (has a ha).2.same sp, h9, ?_, has1, fun _ => ?_⟩
        · rw [upd_same, List.map_append]
        · rcases List.mem_append.mp ha with ha | ha
          · obtain ⟨n, h1, h2, h3⟩ := hfs a ha
            exact ⟨n, h1, by omega, (h3.same s12).same sp⟩
          · exact ⟨i + 1, by omega, Nat.le_refl _, (has a ha).2.same sp⟩
        · rw [List.length_append]
          omega
        · rw [List.length_append]
          omega
    · obtain ⟨sH, fa, la, fs, ls, o4, o5, o6, rfl, hfa, hf, hla, hfs, hls, hlen, hflen, hl0, hf0⟩ := hP
      have p6 : 3 ^ most.toNat ≤ 729 := Nat.le_trans (Nat.pow_le_pow_right (by decide) (show most.toNat ≤ 6 by omega)) (by decide)
      exact ⟨_, rfl, q fa fs H1 sH hfa hf (fun a ha => let ⟨n, h1, h2, h3⟩ := hfs a ha; ⟨n, h1, by omega, h3⟩) (hf0 (by omega)) (by omega)⟩
end
end BR
set_option Elab.async false
set_option linter.all false
set_option maxRecDepth 100000
/-! What the made rows tell is what the tables tell; words for the law's last defs. -/
namespace BR
open PySem PySem.Spec PyProof.Rows L2
section
variable {P : Program} {w : World} {K : PySem.W.Frag} {mg : Str → Option Value} {base : Heap}
theorem tell_one {tab : Tab} {yes : List Int} {letters : Int} {ns : List Int} (h : 1 ≤ ns.length) : (OneR P w K tab yes letters).tell ns = (TableR P w K tab yes 2 letters).tell ns ∧ (OneR P w K tab yes letters).fine ns := by
  have hne : ns ≠ [] := fun e => by rw [e] at h; exact absurd h (by decide)
  obtain ⟨v, h1, o, h2, h3⟩ := oneway_says (f2 tab) ns (yesB yes) hne
  have e : (TableR P w K tab yes 2 letters).nx = f2 tab := by
    funext l o r
    show (if (2 : Int) = 1 then g1 tab l o else f2 tab l o r) = f2 tab l o r
    exact if_neg (by decide)
  have l1 : (TableR P w K tab yes 2 letters).last ns = some v := by
    unfold RowM.last RowM.due RowM.seat
    show (tks (TableR P w K tab yes 2 letters).nx (if (2 : Int) = 1 then _ else _) (ns.map fun l => l))[if (2 : Int) = 1 then _ else 0]? = some v
    rw [e, List.map_id', if_neg (by decide), if_neg (by decide)]
    exact h1
  have l2 : (OneR P w K tab yes letters).last ns = some o := by
    unfold RowM.last RowM.due RowM.seat
    show (tks (nx1 (f2 tab)) (if (1 : Int) = 1 then _ else _) (ns.map OW.wt))[if (1 : Int) = 1 then _ else 0]? = some o
    rw [if_pos rfl, if_pos rfl]
    exact h2
  refine ⟨?_, fun x _ => True.intro⟩
  rw [RowM.tell_of l1, RowM.tell_of l2]
  exact h3
theorem tell_two {tab : Tab} {yes : List Int} {letters : Int} {ns : List Int} (h : 1 ≤ ns.length) : (TwoR P w K tab yes letters).tell ns = (TableR P w K tab yes 1 letters).tell ns ∧ (TwoR P w K tab yes letters).fine ns := by
  have hne : ns ≠ [] := fun e => by rw [e] at h; exact absurd h (by decide)
  obtain ⟨hh, fo, h1, h2, h3⟩ := twoways_says (g1 tab) ns hne
  have e : (TableR P w K tab yes 1 letters).nx = g3 (g1 tab) := by
    funext l o r
    show (if (1 : Int) = 1 then g1 tab l o else f2 tab l o r) = g1 tab l o
    exact if_pos rfl
  have l1 : (TableR P w K tab yes 1 letters).last ns = some (g1 tab fo.opt hh) := by
    unfold RowM.last RowM.due RowM.seat
    show (tks (TableR P w K tab yes 1 letters).nx (if (1 : Int) = 1 then _ else _) (ns.map fun l => l))[if (1 : Int) = 1 then _ else 0]? = some _
    rw [e, List.map_id', if_pos rfl, if_pos rfl]
    exact h3
  have l2 : (TwoR P w K tab yes letters).last ns = some (AV.it hh, fo) := by
    unfold RowM.last RowM.due RowM.seat
    show (tks (nx2 (g1 tab)) (if (2 : Int) = 1 then _ else _) (ns.map fun z => (AV.it z, AV.no)))[if (2 : Int) = 1 then _ else 0]? = some _
    rw [if_neg (by decide), if_neg (by decide)]
    exact h1
  refine ⟨?_, fun x hx => ?_⟩
  · rw [RowM.tell_of l1, RowM.tell_of l2]
  · rw [l2] at hx
    cases hx
    exact ⟨⟨hh, rfl⟩, h2⟩
/-- what is said of each of many is said of one of them -/
theorem pe_ex {X : Cx} {e : Expr} {α : Sort _} {t : α → TE} (h : ∀ x, PE X e (t x)) : PE X e (fun σ H Q => ∃ x, t x σ H Q) := ⟨fun pins s σ H Q I ⟨x, q⟩ => (h x).run pins s σ H Q I q⟩
theorem pe_told {X : Cx} {R : RowM} {j : Nat} {p pos : Pos} {e : Expr} {es : List Expr} {t : TA} (c : Told X.prog X.w X.K X.mg X.base R) (hr : Room j X.A) (ha : PA X (e :: es) t) (hk : 8 ≤ j := by decide) (hg : Gl X "told" := by rfl)
    (he : starEach (e :: es) X.env = (false, eval e X.env) :: starEach es X.env := by rfl) (hpl : (backTo pos (starEach es X.env)).any (·.1) = false := by rfl) : PE X (.Call (.Name "told" p) (e :: es) [] pos) (tCall (spTold X.K R) [] E0 t) := by
  obtain ⟨f, fd, F, hm, kp, b, kb⟩ := c.ex
  exact pe_call F (hr.mono hk) hg hm kp b .nil pass0 ha (by decide) he hpl
theorem pe_toldK {X : Cx} {R : RowM} {j : Nat} {p pos : Pos} {kws : List Keyword} {tk : TA} (c : Told X.prog X.w X.K X.mg X.base R) (hr : Room j X.A) (hkw : PK X kws tk) (hk : 8 ≤ j := by decide) (hg : Gl X "told" := by rfl)
    (hall : (backToKw pos (keywordEach kws X.env)).all (·.1.isSome) = true := by rfl) (hks : (backToKw pos (keywordEach kws X.env)).filterMap (·.1) = (["word", "row"] : List Str) := by rfl)
    (hpl : ((backTo pos (starEach [] X.env)).any (·.1) || (backToKw pos (keywordEach kws X.env)).any (·.1.isNone)) = false := by rfl) : PE X (.Call (.Name "told" p) [] kws pos) (tCallK (spTold X.K R) gWV E0 tNil tk) := by
  obtain ⟨f, fd, F, hm, kp, b, kb⟩ := c.ex
  exact pe_callK0 F (hr.mono hk) hg hm kp kb pass0 hkw hall hks (by decide) hpl
/-- between the law's steps: the loom, the table, the made row, the rules, the yes, the words -/
structure RSt (P : Program) (w : World) (RT R' : RowM) (L C tb md d y f : Addr) (xs : List DE) (ys : List Int) (letters : Int) (H0 : Hp) (kc : Nat) (fs : List Addr) (H : Hp) : Prop where
  but : But L H0 H
  lo : LoomAt H L C kc
  tb : RT.at_ H tb
  md : R'.at_ H md
  dx : DX P w H d xs
  ye : H y = some (.lst (ys.map V.int))
  wl : H f = some (.lst (fs.map V.ref))
  wo : ∀ a ∈ fs, ∃ n, 1 ≤ n ∧ n ≤ 20 ∧ WordAt H a n letters
  one : 1 ≤ fs.length
  few : fs.length ≤ 1500
  nfL : f ≠ L
  nfC : f ≠ C
  nfy : f ≠ y
section
variable {RT R' : RowM} {L C tb md d y f : Addr} {xs : List DE} {ys : List Int} {letters : Int} {H0 : Hp} {kc kc' : Nat} {fs : List Addr} {H H' : Hp}
theorem RSt.mono (S : RSt P w RT R' L C tb md d y f xs ys letters H0 kc fs H) (h : kc ≤ kc') : RSt P w RT R' L C tb md d y f xs ys letters H0 kc' fs H :=
  ⟨S.but, S.lo.mono h, S.tb, S.md, S.dx, S.ye, S.wl, S.wo, S.one, S.few, S.nfL, S.nfC, S.nfy⟩
theorem word_ne {a : Addr} {n : Nat} {k : Nat} (l : LoomAt H L C k) (h : WordAt H a n letters) : a ≠ L := by
  obtain ⟨cs, x, r, e, _⟩ := l.ex
  obtain ⟨ns, e2, _⟩ := h
  exact (ne_of e e2 ints_ne).symm
theorem RSt.by_but (S : RSt P w RT R' L C tb md d y f xs ys letters H0 kc fs H) (o1 : RT.Ok) (o2 : R'.Ok) (b : But L H H') (l : LoomAt H' L C kc') : RSt P w RT R' L C tb md d y f xs ys letters H0 kc' fs H' := by
  refine ⟨S.but.trans b, l, o1.keepA b.keep S.tb, o2.keepA b.keep S.md, S.dx.keep b.keep, b.2.2 _ _ S.ye ?_, b.2.2 _ _ S.wl S.nfL, fun a ha => ?_, S.one, S.few, S.nfL, S.nfC, S.nfy⟩
  · obtain ⟨cs, x, r, e, _⟩ := S.lo.ex
    exact (ne_of e S.ye ints_ne).symm
  · obtain ⟨n, h1, h2, h3⟩ := S.wo a ha
    have hne := word_ne S.lo h3
    obtain ⟨ns, e1, e2⟩ := h3
    exact ⟨n, h1, h2, ns, b.2.2 _ _ e1 hne, e2⟩
theorem RSt.by_same (S : RSt P w RT R' L C tb md d y f xs ys letters H0 kc fs H) (o1 : RT.Ok) (o2 : R'.Ok) (s : Same H H') : RSt P w RT R' L C tb md d y f xs ys letters H0 kc fs H' :=
  ⟨S.but.same s, S.lo.same s, o1.keepA (Keep.of s) S.tb, o2.keepA (Keep.of s) S.md, S.dx.keep (Keep.of s), s _ _ S.ye, s _ _ S.wl, fun a ha => let ⟨n, h1, h2, h3⟩ := S.wo a ha; ⟨n, h1, h2, h3.same s⟩, S.one, S.few, S.nfL, S.nfC, S.nfy⟩
/-- a word more -/
theorem RSt.app {a : Addr} {n : Nat} (S : RSt P w RT R' L C tb md d y f xs ys letters H0 kc fs H) (o1 : RT.Ok) (o2 : R'.Ok) (nf0 : H0 f = none) (hn : 1 ≤ n) (hn2 : n ≤ 20) (ha : WordAt H a n letters) (hfew : fs.length < 1500) :
    RSt P w RT R' L C tb md d y f xs ys letters H0 kc (fs ++ [a]) (upd H f (.lst (fs.map V.ref ++ [.ref a]))) := by
  have kp : Keep H (upd H f (.lst (fs.map V.ref ++ [.ref a]))) := keep_app S.wl
  have ne : ∀ {b : Addr} {m : Nat}, 1 ≤ m → WordAt H b m letters → b ≠ f := fun {b m} hm hb e => by
    obtain ⟨ns, e1, e2, _⟩ := hb
    have hwl := S.wl
    rw [← e, e1] at hwl
    cases fs with
    | nil => exact absurd S.one (by decide)
    | cons z zs =>
      cases ns with
      | nil => rw [List.length_nil] at e2; omega
      | cons q qs => cases hwl
  refine ⟨S.but.upd nf0, S.lo.upd S.nfL.symm S.nfC.symm, o1.keepA kp S.tb, o2.keepA kp S.md, S.dx.keep kp, by rw [upd_ne S.nfy.symm]; exact S.ye, ?_, fun b hb => ?_, ?_, ?_, S.nfL, S.nfC, S.nfy⟩
  · rw [upd_same, List.map_append]
    rfl
  · rcases List.mem_append.mp hb with hb | hb
    · obtain ⟨m, h1, h2, h3⟩ := S.wo b hb
      exact ⟨m, h1, h2, h3.upd (ne h1 h3)⟩
    · cases List.mem_singleton.mp hb
      exact ⟨n, hn, hn2, ha.upd (ne hn ha)⟩
  · rw [List.length_append]
    exact Nat.le_trans S.one (Nat.le_add_right _ _)
  · rw [List.length_append]
    exact hfew
end
end
end BR
set_option Elab.async false
set_option linter.all false
set_option maxRecDepth 100000
/-! The law's last defs. -/
namespace BR
open PySem PySem.Spec PyProof.Rows L2
section
variable {P : Program} {w : World} {K : PySem.W.Frag} {mg : Str → Option Value} {base : Heap}
abbrev TY := Tab × List Int
theorem yes_in {σ : L2.St} {H : Hp} {te : TE} {k : VK} {E : Hp → Prop} (h : te σ H k) : tYes σ H (fun b H3 => if b = true then te σ H3 k else E H3) := by
  show (if true = true then te σ H k else E H)
  rw [if_pos rfl]
  exact h
def tabOf (xs : List DE) : Tab := fun k => match valX xs k with
  | some (.int v) => some v
  | _ => none
theorem tabOf_ok {ways worths : Int} {xs : List DE} (hok : RulesOk ways worths xs) (k : LK) : valX xs k = (tabOf xs k).map V.int := by
  unfold tabOf
  cases e : valX xs k with
  | none => rfl
  | some v =>
    obtain ⟨x, hx, _, ex⟩ := valX_mem e
    obtain ⟨n, hn, _⟩ := hok.val x hx
    rw [hn] at ex
    subst ex
    rfl
def spRight : Sp := fun vs H Q _ => ∃ (L C : Addr) (ways letters worths most : Int) (k : Nat), vs = [.ref L, .int ways, .int letters, .int worths, .int most] ∧ LoomAt H L C k ∧ k + 400 < 1048576 ∧ (ways = 1 ∨ ways = 2) ∧ 1 ≤ letters ∧ letters ≤ worths ∧ worths ≤ 3 ∧ 1 ≤ most ∧ most ≤ 6 ∧
  ∀ H', But L H H' → LoomAt H' L C (k + 300) → Q (.bl true) H'
theorem c_law_right (T : Top K mg) : Cal P w K mg base 9 "_law_right" spRight [] := by
  refine T.d_law_right.cal sc_law_right (fun vs H Q E h => ?_) (fun f cdv A outer s H vs Q E hr h => ?_)
  · obtain ⟨d, a, b, c, e, g, k, rfl, _⟩ := h
    rfl
  · obtain ⟨L, C, ways, letters, worths, most, k, rfl, hlo, hk, hways, hl1, hlw, hw3, hm1, hm6, q⟩ := h
    have nd := sc_law_right.nd
    have sz := sizeLine_eq
    have gT := c_law_table (P := P) (w := w) (base := base) T
    have gW := c_law_weave (P := P) (w := w) (base := base) T
    have gWo := c_law_words (P := P) (w := w) (base := base) T
    refine ⟨_, pss_cons (ps_asg (pe_c gT hr (pa_cons (pv 0) (pa_cons (pv 1) (pa_cons (pv 2) (pa_cons (pv 3) pa_nil))))) (pg_tup rfl (pgs_cons (pg_name (i := 5) nd rfl (Or.inl rfl)) (pgs_cons (pg_name (i := 6) nd rfl (Or.inl rfl)) pgs_nil))))
      (pss_cons (ps_set (i := 7) nd rfl (Or.inl rfl) (pe_ex fun z : TY => pe_mk (k_tb T (tab := z.1) (yes := z.2) (ways := ways) (letters := letters) (worths := worths)) hr (pa_cons (pv 1) (pa_cons (pv 2) (pa_cons (pv 3) (pa_cons (pv 5) (pa_cons (pv 6) pa_nil)))))))
      (C8.pss_cut (ps_set (i := 8) nd rfl (Or.inl rfl) (pe_ifExp (pt_cmpR op_eq (pv 1) pe_int (nomark _)) (pe_ex fun z : TY => pe_mk (k_ow T (tab := z.1) (yes := z.2) (letters := letters)) hr (pa_cons (pv 7) pa_nil)) (pe_ex fun z : TY => pe_mk (k_tw T (tab := z.1) (yes := z.2) (letters := letters)) hr (pa_cons (pv 7) pa_nil))))
      (pss_cons (ps_if (PW.pt (pw_or (pt_cmpR op_ne (pe_fld (pv 8) rfl) (pe_op op_sub pe_int (pv 1)) (nomark _)) (pw_or1 (pt_cmpR op_ne (pe_fld (pv 8) rfl) (pv 2) (nomark _))))) (pss_one ps_never) pss_nil)
      (pss_cons (ps_set (i := 9) nd rfl (Or.inl rfl) (pe_c gWo hr (pa_cons (pv 2) (pa_cons (pv 4) pa_nil))))
      (pss_cons (ps_for PassesOwn.never rfl (pi_range1 rfl T.f_range (pa_cons pe_int pa_nil)) (pg_name (i := 10) nd rfl (Or.inl rfl))
        (pss_one (ps_expr (pe_bm PySem.F.plainAttrs_list PySem.F.slot_list_append PySem.F.type_list_append mt_append (pv 9) (pa_cons (pe_lc (own := [("_law_place", 13)]) (g := gName 13) (tt := tYes) rfl nd (pi_range1 rfl T.f_range (pa_cons (pe_op op_add (pe_op op_add (pv 4) pe_int) (pe_c gW hr (pa_cons (pv 0) (pa_cons (pe_op op_sub pe_int (pv 4)) pa_nil)))) pa_nil))
            (blkOk_by (N := ["_law_loom_here", "_law_ways", "_law_letters", "_law_worths", "_law_most", "_law_rules", "_law_yes", "_law_table_here", "_law_made", "_law_words_here", "_law_turn", "_law_word", "_law_due_here", "_law_place"]) (sc := defScope s_law_right) (by decide +kernel))
            (fun _ _ _ _ _ => pg_name (i := 13) nd rfl (Or.inl rfl)) (fun _ _ _ _ _ => pts_nil) (fun _ _ _ _ _ => pe_c gW hr (pa_cons (pv 0) (pa_cons (pv 2) pa_nil)))) pa_nil)))))
      (pss_cons (ps_for PassesOwn.never rfl (pi_list (pv 9)) (pg_name (i := 11) nd rfl (Or.inl rfl))
        (pss_cons (ps_set (i := 12) nd rfl (Or.inl rfl) (pe_ex fun z : TY => pe_c (c_law_due T (tab := z.1) (yes := z.2) (ways := ways) (letters := letters)) hr (pa_cons (pv 1) (pa_cons (pv 5) (pa_cons (pv 6) (pa_cons (pv 11) (pa_cons (pe_ifV (pt_cmpR op_eq (pv 1) pe_int (nomark _)) (pe_op op_sub (pe_callB call_len_seq rfl T.f_len b_len (pa_cons (pv 11) pa_nil)) pe_int) (pe_op op_sub (pe_op op_mul pe_int (pe_callB call_len_seq rfl T.f_len b_len (pa_cons (pv 11) pa_nil))) pe_int)) pa_nil)))))))
        (pss_one (ps_if (pt_cmpR op_ne (pe_callB call_repr_bool rfl T.f_repr b_repr (pa_cons (pe_ex fun z : {R : RowM // RowC P w K mg base R} => pe_c (c_law_told T z.2) hr (pa_cons (pv 8) (pa_cons (pv 11) pa_nil))) pa_nil)) (pe_callB call_repr_bool rfl T.f_repr b_repr (pa_cons (pv 12) pa_nil)) (nomark _)) (pss_one ps_never) pss_nil))))
      (pss_cons (ps_set (i := 11) nd rfl (Or.inl rfl) (pe_ix ix_list (pv 9) (pe_c gW hr (pa_cons (pv 0) (pa_cons (pe_callB call_len_seq rfl T.f_len b_len (pa_cons (pv 9) pa_nil)) pa_nil))) (fun _ _ => rfl)))
      (pss_one (ps_ret (pe_and (pe_cmpR op_eq (pe_ex fun z : {R : RowM // RowC P w K mg base R} => pe_told (c_told T z.2) hr (pa_cons (pv 8) (pa_cons (pv 11) pa_nil))) (pe_ex fun z : {R : RowM // RowC P w K mg base R} => pe_told (c_told T z.2) hr (pa_cons (pv 7) (pa_cons (pe_callTy call_tuple_of rfl T.f_tuple b_tuple (pa_cons (pv 11) pa_nil)) pa_nil))) (nomark _))
        (pe_one (pe_cmpR op_eq (pe_callB call_repr_bool rfl T.f_repr b_repr (pa_cons (pe_ex fun z : {R : RowM // RowC P w K mg base R} => pe_toldK (c_told T z.2) hr (pk_cons (pv 11) (pk_cons (pv 8) pk_nil))) pa_nil)) (pe_callB call_repr_bool rfl T.f_repr b_repr (pa_cons (pe_ex fun z : {R : RowM // RowC P w K mg base R} => pe_c (c_law_told T z.2) hr (pa_cons (pv 8) (pa_cons (pv 11) pa_nil))) pa_nil)) (nomark _))))))))))))), ?_⟩
    refine ⟨_, rfl, _, rfl, _, rfl, _, rfl, L, C, ways, letters, worths, k, rfl, hlo, by omega, hways, by omega, hw3, fun t d y xs ys H1 b1 l1 ht hD hok hy hyes => ?_⟩
    refine ⟨t, _, rfl, .inl (.inl ht), rfl, _, _, rfl, _, _, rfl, rfl, ?_⟩
    obtain ⟨tab, htab⟩ : ∃ tab : Tab, ∀ k, valX xs k = (tab k).map V.int := ⟨tabOf xs, tabOf_ok hok⟩
    refine ⟨(tab, ys), _, rfl, _, rfl, _, rfl, _, rfl, _, rfl, fun x dx nx ndx nex => ?_⟩
    have s2 : Same H1 (upd (upd H1 dx (.own x)) x (.ins (cT K) dx [])) := fun b o e => by
      rw [upd_ne (ne_of_none e nx), upd_ne (ne_of_none e ndx)]
      exact e
    refine ⟨x, d, y, dx, xs, rfl, upd_same, hways, hl1, by omega, hlw, by omega, hD.keep (Keep.of s2), hok, htab, s2 _ _ hy, hyes, fun H3 m3 tb3 => ⟨rfl, ?_⟩⟩
    have s3 : Same H1 H3 := Same.made nx ndx m3
    refine ⟨fun σ' H' => ∃ (R' : RowM) (md : Addr), RowC P w K mg base R' ∧ R'.ways = 3 - ways ∧ R'.letters = letters ∧ (∀ ns : List Int, 1 ≤ ns.length → R'.tell ns = (TableR P w K tab ys ways letters).tell ns ∧ R'.fine ns) ∧
      σ' = [some (.ref L), some (.int ways), some (.int letters), some (.int worths), some (.int most), some (.ref d), some (.ref y), some (.ref x), some (.ref md), none, none, none, none, none] ∧ Same H3 H' ∧ R'.at_ H' md, ?_, fun σ' H5 hM => ?_⟩
    · refine ⟨_, rfl, rfl, _, rfl, ?_⟩
      rcases hways with h1 | h2
      · subst h1
        refine iteFa (decide_eq_false fun z => by cases z) ⟨(tab, ys), _, rfl, fun z dz nz ndz nez => ?_⟩
        have s4 : Same H3 (upd (upd H3 dz (.own z)) z (.ins (cW K) dz [])) := fun b o e => by
          rw [upd_ne (ne_of_none e nz), upd_ne (ne_of_none e ndz)]
          exact e
        have o1 := TableR.ok (P := P) (w := w) (K := K) (tab := tab) (yes := ys) (ways := 1) (letters := letters) (.inl rfl)
        have hzx : z ≠ x := by
          obtain ⟨_, _, i1, _⟩ := o1.ins tb3
          exact (ne_of_none i1 nz).symm
        refine ⟨z, x, dz, rfl, upd_same, hzx, o1.keepA (Keep.of s4) tb3, fun H' m => o1.keepA (Keep.of (Same.made nz ndz m)) tb3, fun H5 m5 made => ⟨rfl, TwoR P w K tab ys letters, z, TwoR.row T, rfl, rfl, fun ns h => tell_two h, rfl, Same.made nz ndz m5, made⟩⟩
      · subst h2
        refine iteTr (decide_eq_true rfl) ⟨(tab, ys), _, rfl, fun z dz nz ndz nez => ?_⟩
        have s4 : Same H3 (upd (upd H3 dz (.own z)) z (.ins (cO K) dz [])) := fun b o e => by
          rw [upd_ne (ne_of_none e nz), upd_ne (ne_of_none e ndz)]
          exact e
        have o1 := TableR.ok (P := P) (w := w) (K := K) (tab := tab) (yes := ys) (ways := 2) (letters := letters) (.inr rfl)
        have hzx : z ≠ x := by
          obtain ⟨_, _, i1, _⟩ := o1.ins tb3
          exact (ne_of_none i1 nz).symm
        refine ⟨z, x, dz, rfl, upd_same, hzx, o1.keepA (Keep.of s4) tb3, fun H' m => o1.keepA (Keep.of (Same.made nz ndz m)) tb3, fun H5 m5 made => ⟨rfl, OneR P w K tab ys letters, z, OneR.row T, rfl, rfl, fun ns h => tell_one h, rfl, Same.made nz ndz m5, made⟩⟩
    · obtain ⟨R', md, RC, hRw, hRl, htell, rfl, s35, hmd⟩ := hM
      have RCT : RowC P w K mg base (TableR P w K tab ys ways letters) := TableR.row T hways
      have o1 := RCT.ok
      have o2 := RC.ok
      obtain ⟨dm, fm, j1, j2, j3, _⟩ := o2.ins hmd
      refine ⟨_, rfl, md, _, dm, fm, _, rfl, j1, RC.cl, RC.naw, j2, _, rfl, _, _, rfl, rfl, rfl, _, rfl, iteNS (congrArg V.int hRw) ⟨_, rfl, md, _, dm, fm, _, rfl, j1, RC.cl, RC.nal, j3, _, rfl, rfl, _, rfl, iteNS (congrArg V.int hRl) ?_⟩⟩
      have b5 : But L H H5 := (b1.same s3).same s35
      have l5 := (l1.same s3).same s35
      obtain ⟨zl, hL5⟩ := l5.lst
      obtain ⟨zc, hC5⟩ := l5.cells
      have hy5 := s35 _ _ (s3 _ _ hy)
      refine ⟨_, rfl, _, rfl, letters, most, rfl, hl1, by omega, hm1, hm6, fun fa fs0 H6 s6 nf hf hfs h1 hfew => ?_⟩
      have nf0 : H fa = none := b5.free nf
      have S0 : RSt P w (TableR P w K tab ys ways letters) R' L C x md d y fa xs ys letters H (k + 150) fs0 H6 := by
        refine ⟨b5.same s6, l5.same s6, o1.keepA (Keep.of (s35.trans s6)) tb3, o2.keepA (Keep.of s6) hmd, ?_, s6 _ _ hy5, hf, ?_, h1, by omega, (ne_of_none hL5 nf).symm, (ne_of_none hC5 nf).symm, (ne_of_none hy5 nf).symm⟩
        · exact hD.keep (Keep.of ((s3.trans s35).trans s6))
        · intro a ha
          obtain ⟨n, g1, g2, g3⟩ := hfs a ha
          exact ⟨n, g1, by omega, g3⟩
      refine ⟨2, rfl, by decide, by decide, for_range (lo := 0) (n := (2 : Int).toNat) (fun i σ H' => ∃ (fs : List Addr) (o10 : Option V), σ = [some (.ref L), some (.int ways), some (.int letters), some (.int worths), some (.int most), some (.ref d), some (.ref y), some (.ref x), some (.ref md), some (.ref fa), o10, none, none, none] ∧
          RSt P w (TableR P w K tab ys ways letters) R' L C x md d y fa xs ys letters H (k + 150 + i * 21) fs H' ∧ fs.length ≤ 1458 + i)
        ⟨fs0, none, rfl, S0, hfew⟩ (fun i σ H' hi hP => ?_) (fun σ H' hP => ?_)⟩
      · obtain ⟨fs, o10, rfl, S, hfl⟩ := hP
        have hi2 : i < 2 := hi
        refine ⟨_, rfl, .inl ⟨rfl, _, .inl (.inl S.wl)⟩, _, rfl, _, _, rfl, rfl, _, rfl, _, rfl, _, _, rfl, rfl, L, C, 9 - most, _, rfl, S.lo, by omega, by omega, by omega, fun r H7 r0 r1 b7 l7 => ⟨_, _, rfl, rfl, _, rfl, by omega, by omega, fun D nD => ?_⟩⟩
        have S7 := S.by_but o1 o2 b7 l7
        obtain ⟨zl7, hL7⟩ := l7.lst
        obtain ⟨zc7, hC7⟩ := l7.cells
        refine lc_range (lo := 0) (n := (most + 1 + r).toNat) (fun j H8 => But L H7 H8 ∧ LoomAt H8 L C (k + 150 + i * 21 + 1 + j) ∧ ∃ ns : List Int, H8 D = some (.lst (ns.map V.int)) ∧ ns.length = j ∧ ∀ z ∈ ns, 0 ≤ z ∧ z < letters)
          ⟨But.of hL7 (Same.upd nD), l7.same (Same.upd nD), [], upd_same, rfl, fun z hz => by cases hz⟩ (fun j H8 hj hP => ?_) (fun H8 hP => ?_)
        · obtain ⟨b8, l8, ns, hD8, hnl, hns⟩ := hP
          have hDL : D ≠ L := (ne_of_none hL7 nD).symm
          have hDC : C ≠ D := ne_of_none hC7 nD
          refine ⟨rfl, yes_in ?_⟩
          refine ⟨_, rfl, _, rfl, L, C, letters, _, rfl, l8, by omega, by omega, by omega, fun r2 H9 q0 q1 b9 l9 => ?_⟩
          have hD9 := b9.2.2 _ _ hD8 hDL
          refine ⟨_, hD9, by rw [List.length_map]; omega, (b8.trans b9).upd nD, l9.upd hDL.symm hDC, ns ++ [r2], ?_, ?_, ?_⟩
          · rw [upd_same, List.map_append]
            rfl
          · rw [List.length_append, hnl]
            rfl
          · intro z hz
            rcases List.mem_append.mp hz with hz | hz
            · exact hns z hz
            · cases List.mem_singleton.mp hz
              exact ⟨q0, q1⟩
        · obtain ⟨b8, l8, ns, hD8, hnl, hns⟩ := hP
          have S8 := (S7.by_but o1 o2 b8 l8).mono (kc' := k + 150 + (i + 1) * 21) (by omega)
          have S9 := S8.app (a := D) (n := (most + 1 + r).toNat) o1 o2 nf0 (by omega) (by omega) ⟨ns, hD8, hnl, hns⟩ (by omega)
          refine ⟨fa, fs.map V.ref, .ref D, rfl, rfl, S8.wl, by rw [List.length_map]; omega, fs ++ [D], _, rfl, S9, ?_⟩
          rw [List.length_append]
          show fs.length + 1 ≤ 1458 + (i + 1)
          omega
      · obtain ⟨fs, o10, rfl, S1, hfl⟩ := hP
        have S := S1.mono (kc' := k + 200) (by show k + 150 + 2 * 21 ≤ k + 200; omega)
        refine ⟨_, rfl, fa, rfl, ⟨_, .inl (.inl S.wl)⟩, for_list (K := K) (a := fa) (xs := fs.map V.ref) (fun i σ H' => RSt P w (TableR P w K tab ys ways letters) R' L C x md d y fa xs ys letters H (k + 200) fs H' ∧ ∃ o11 o12, σ = [some (.ref L), some (.int ways), some (.int letters), some (.int worths), some (.int most), some (.ref d), some (.ref y), some (.ref x), some (.ref md), some (.ref fa), o10, o11, o12, none])
          ⟨S, none, none, rfl⟩ (fun i σ H' _ hP => .inl (.inl hP.1.wl)) (fun i v σ H' hv hP => ?_) (fun σ H' hP => ?_)⟩
        · obtain ⟨S, o11, o12, rfl⟩ := hP
          obtain ⟨a, ha, rfl⟩ := map_get hv
          obtain ⟨n, hn1, hn2, ns, hw1, hw2, hw3⟩ := S.wo a (List.mem_of_getElem? ha)
          obtain ⟨ht1, ht2⟩ := htell ns (by omega)
          refine ⟨(tab, ys), _, rfl, _, rfl, _, rfl, _, rfl, _, rfl, rfl, _, rfl, .int (((TableR P w K tab ys ways letters).due ns.length : Nat) : Int), ?_, d, y, a, xs, ns, rfl, S.dx, htab, S.ye, hw1, hways, by omega, by omega, fun H9 s9 => ?_⟩
          · rcases hways with h1 | h2
            · refine iteFa (by rw [h1]; rfl) ⟨_, rfl, a, _, rfl, .inl (.inl (.inl hw1)), _, _, rfl, rfl, .inl ⟨by decide, by decide⟩, _, _, rfl, rfl, congrArg V.int ?_, rfl⟩
              have e : (TableR P w K tab ys ways letters).due ns.length = 2 * ns.length - 1 := if_pos h1
              rw [List.length_map, e]
              omega
            · refine iteTr (by rw [h2]; rfl) ⟨_, rfl, a, _, rfl, .inl (.inl (.inl hw1)), _, _, rfl, rfl, congrArg V.int ?_, rfl⟩
              have e : (TableR P w K tab ys ways letters).due ns.length = ns.length - 1 := if_neg (by show ¬ ways = 1; omega)
              rw [List.length_map, e]
              omega
          · have S9 := S.by_same o1 o2 s9
            refine ⟨⟨R', RC⟩, _, rfl, _, rfl, md, a, ns, rfl, S9.md, s9 _ _ hw1, by omega, by omega, ht2, fun H10 s10 => ⟨_, rfl, _, rfl, _, rfl, rfl, _, rfl, iteNS ?_ ?_⟩⟩
            · rw [ht1]
              rfl
            · exact ⟨S9.by_same o1 o2 s10, _, _, rfl⟩
        · obtain ⟨S, o11, o12, rfl⟩ := hP
          have hone := S.one
          have hfew2 := S.few
          refine ⟨_, rfl, _, rfl, _, rfl, fa, _, rfl, .inl (.inl (.inl S.wl)), L, C, _, k + 200, rfl, S.lo, by omega, by rw [List.length_map]; omega, by rw [List.length_map]; omega, fun r H9 r0 r1 b9 l9 => ?_⟩
          rw [List.length_map] at r1
          have S9 := S.by_but o1 o2 b9 l9
          obtain ⟨j, hj⟩ : ∃ j : Nat, r = (j : Int) := ⟨r.toNat, by omega⟩
          have hjl : j < fs.length := by omega
          obtain ⟨n, hn1, hn2, ns, hw1, hw2, hw3⟩ := S9.wo fs[j] (List.getElem_mem hjl)
          obtain ⟨ht1, ht2⟩ := htell ns (by omega)
          refine ⟨fa, _, r, .ref fs[j], rfl, rfl, .inl (.inl S9.wl), at_of hj (by rw [List.getElem?_map, List.getElem?_eq_getElem hjl]; rfl), ?_⟩
          refine ⟨⟨R', RC⟩, _, rfl, _, rfl, md, fs[j], ns, rfl, S9.md, .inl hw1, by omega, by omega, (by rw [hRl]; exact hw3), ht2, fun H10 s10 => ?_⟩
          have S10 := S9.by_same o1 o2 s10
          refine ⟨⟨TableR P w K tab ys ways letters, RCT⟩, _, rfl, _, rfl, fs[j], _, rfl, .inl ⟨.inl (.inl (s10 _ _ hw1)), fun l nl => ?_⟩⟩
          have S11 := S10.by_same o1 o2 (Same.upd (o := .tup (ns.map V.int)) nl)
          refine ⟨x, l, ns, rfl, S11.tb, .inr upd_same, by omega, by omega, hw3, (fun z hz => True.intro), fun H12 s12 => ⟨rfl, _, rfl, iteTr (decide_eq_true (congrArg V.bl ht1)) ?_⟩⟩
          have S12 := S11.by_same o1 o2 s12
          have w12 := s12 _ _ (Same.upd (o := .tup (ns.map V.int)) nl _ _ (s10 _ _ hw1))
          refine ⟨⟨R', RC⟩, _, rfl, _, rfl, md, fs[j], ns, rfl, S12.md, .inl w12, by omega, by omega, (by rw [hRl]; exact hw3), ht2, fun H13 s13 => ⟨_, rfl, ?_⟩⟩
          have S13 := S12.by_same o1 o2 s13
          refine ⟨⟨R', RC⟩, _, rfl, _, rfl, md, fs[j], ns, rfl, S13.md, s13 _ _ w12, by omega, by omega, ht2, fun H14 s14 => ⟨_, rfl, rfl, ?_⟩⟩
          have S14 := (S13.by_same o1 o2 s14).mono (kc' := k + 300) (by omega)
          have ed : ∀ z : V, decide (z = z) = true := fun z => decide_eq_true rfl
          have fin := q H14 S14.but S14.lo
          rw [← ed (V.str (if R'.tell ns then "True" else "False"))] at fin
          exact fin
end
end BR
set_option Elab.async false
set_option linter.all false
set_option maxRecDepth 100000
/-! The law. -/
namespace BR
open PySem PySem.Spec PyProof.Rows L2
theorem most_at {l : Int} (h : l = 1 ∨ l = 2 ∨ l = 3) : ∃ m : Int, atI [V.int 6, .int 4, .int 3] (l - 1) = some (.int m) ∧ 1 ≤ m ∧ m ≤ 6 := by
  rcases h with rfl | rfl | rfl
  · exact ⟨6, rfl, by decide, by decide⟩
  · exact ⟨4, rfl, by decide, by decide⟩
  · exact ⟨3, rfl, by decide, by decide⟩
theorem one_of4 {a b c d : Int} {v : V} (h : v ∈ [V.int a, .int b, .int c, .int d]) (ha : a = 1 ∨ a = 2 ∨ a = 3) (hb : b = 1 ∨ b = 2 ∨ b = 3) (hc : c = 1 ∨ c = 2 ∨ c = 3) (hd : d = 1 ∨ d = 2 ∨ d = 3) : ∃ l : Int, v = .int l ∧ (l = 1 ∨ l = 2 ∨ l = 3) := by
  rcases List.mem_cons.mp h with rfl | h
  · exact ⟨a, rfl, ha⟩
  · rcases List.mem_cons.mp h with rfl | h
    · exact ⟨b, rfl, hb⟩
    · rcases List.mem_cons.mp h with rfl | h
      · exact ⟨c, rfl, hc⟩
      · rcases List.mem_cons.mp h with rfl | h
        · exact ⟨d, rfl, hd⟩
        · cases h
section
variable {P : Program} {w : World} {K : PySem.W.Frag} {mg : Str → Option Value} {base : Heap}
def spLaw (K : PySem.W.Frag) : Sp := fun vs H Q _ => ∃ (a : Addr) (ns : List Int), vs = [.ref a] ∧ SqL K H a (ns.map V.int) ∧ ns.length ≤ 63 ∧ ∀ H', Q (.bl true) H'
theorem f_law (T : Top K mg) {f : Addr} {fd : FuncData} (F : FnP K "law" "law" s_law [] f fd) : FnOk P w K mg base CX0 10 f fd ["_law_script"] (spLaw K) := by
  refine FunD.ok0 F sc_law (fun vs H Q E h => ?_) (fun cdv A outer s H vs Q E hr h => ?_)
  · obtain ⟨a, ns, rfl, _⟩ := h
    rfl
  · obtain ⟨a, ns, rfl, ha, hl, q⟩ := h
    have nd := sc_law.nd
    have gL := c_law_loom (P := P) (w := w) (base := base) T
    have g1 := c_law_one (P := P) (w := w) (base := base) T
    have gW := c_law_weave (P := P) (w := w) (base := base) T
    have gR := c_law_right (P := P) (w := w) (base := base) T
    have l3 : 3 ≤ sizeLine := by decide
    have l4 : 4 ≤ sizeLine := by decide
    refine ⟨_, pss_cons (ps_set (i := 1) nd rfl (Or.inl rfl) (pe_c gL hr (pa_cons (pv 0) pa_nil)))
      (pss_cons (ps_set (i := 2) nd rfl (Or.inl rfl) (pe_c g1 hr (pa_cons (pv 1) (pa_cons (pe_lst (pa_cons pe_int (pa_cons pe_int (pa_cons pe_int (pa_cons pe_int pa_nil))))) pa_nil))))
      (pss_cons (ps_set (i := 3) nd rfl (Or.inl rfl) (pe_op op_add (pv 2) (pe_c gW hr (pa_cons (pv 1) (pa_cons (pe_op op_sub pe_int (pv 2)) pa_nil)))))
      (pss_cons (ps_if (pt_not (pt_val (pe_c gR hr (pa_cons (pv 1) (pa_cons pe_int (pa_cons (pv 2) (pa_cons (pv 3) (pa_cons (pe_ix ix_list (pe_lst (pa_cons pe_int (pa_cons pe_int (pa_cons pe_int pa_nil)))) (pe_op op_sub (pv 2) pe_int) (fun _ _ => rfl)) pa_nil)))))))) (pss_one ps_never) pss_nil)
      (pss_cons (ps_set (i := 2) nd rfl (Or.inl rfl) (pe_c g1 hr (pa_cons (pv 1) (pa_cons (pe_lst (pa_cons pe_int (pa_cons pe_int (pa_cons pe_int (pa_cons pe_int pa_nil))))) pa_nil))))
      (pss_one (ps_ret (pe_c gR hr (pa_cons (pv 1) (pa_cons pe_int (pa_cons (pv 2) (pa_cons (pe_op op_add (pv 2) (pe_c gW hr (pa_cons (pv 1) (pa_cons (pe_op op_sub pe_int (pv 2)) pa_nil)))) (pa_cons (pe_ix ix_list (pe_lst (pa_cons pe_int (pa_cons pe_int (pa_cons pe_int pa_nil)))) (pe_op op_sub (pv 2) pe_int) (fun _ _ => rfl)) pa_nil)))))))))))), ?_⟩
    refine ⟨_, rfl, a, ns, rfl, ha, fun L C H1 s1 lo1 => ?_⟩
    obtain ⟨z1, hL1⟩ := lo1.lst
    refine ⟨_, rfl, l4, fun b nb => ⟨L, C, b, _, 0, rfl, lo1.same (Same.upd nb), by decide, upd_same, (ne_of_none hL1 nb).symm, by decide, by decide, fun v H2 hv b2 lo2 => ?_⟩⟩
    obtain ⟨l, rfl, hl1⟩ := one_of4 hv (.inr (.inl rfl)) (.inl rfl) (.inr (.inl rfl)) (.inr (.inr rfl))
    refine ⟨_, rfl, _, rfl, _, rfl, _, _, rfl, rfl, L, C, 4 - l, _, rfl, lo2, by decide, by omega, by omega, fun r H3 r0 r1 b3 lo3 => ⟨_, _, rfl, rfl, ?_⟩⟩
    obtain ⟨m, hm, hm1, hm6⟩ := most_at hl1
    refine ⟨_, rfl, _, rfl, _, rfl, l3, fun c nc => ⟨_, rfl, _, _, rfl, rfl, c, _, _, .int m, rfl, rfl, .inl (.inl upd_same), hm, L, C, 2, l, l + r, m, _, rfl, lo3.same (Same.upd nc), by decide, .inr rfl, by omega, by omega, by omega, hm1, hm6, fun H4 b4 lo4 => ⟨true, rfl, iteF ?_⟩⟩⟩
    obtain ⟨z4, hL4⟩ := lo4.lst
    refine ⟨_, rfl, l4, fun b nb => ⟨L, C, b, _, _, rfl, lo4.same (Same.upd nb), by decide, upd_same, (ne_of_none hL4 nb).symm, by decide, by decide, fun v H5 hv b5 lo5 => ?_⟩⟩
    obtain ⟨l', rfl, hl2⟩ := one_of4 hv (.inr (.inl rfl)) (.inr (.inl rfl)) (.inr (.inr rfl)) (.inl rfl)
    obtain ⟨m', hm', hm1', hm6'⟩ := most_at hl2
    refine ⟨_, rfl, _, rfl, _, rfl, _, rfl, _, rfl, _, _, rfl, rfl, L, C, 4 - l', _, rfl, lo5, by decide, by omega, by omega, fun r H6 r0' r1' b6 lo6 => ⟨_, _, rfl, rfl, l3, fun c nc => ⟨_, rfl, _, _, rfl, rfl, c, _, _, .int m', rfl, rfl, .inl (.inl upd_same), hm', L, C, 1, l', l' + r, m', _, rfl, lo6.same (Same.upd nc), by decide, .inl rfl, by omega, by omega, by omega, hm1', hm6', fun H7 b7 lo7 => q H7⟩⟩⟩
end
end BR
set_option Elab.async false
set_option linter.all false
set_option maxRecDepth 100000
set_option maxHeartbeats 0
/-! The end. -/
namespace BR
open PySem PySem.Spec PyProof.Rows L2
theorem facts {P : Program} {w : World} {K : PySem.W.Frag} {h : Heap} {mg : Str → Option Value} {f : Addr} (X : K.In h) (G : h.Ns mainGlobals mg) (hfa : mg ("law" : Str) = some (.ref f)) (c : He.SaysD fas fns K) (hx : exB K = true) :
    ∃ fd : FuncData, (∀ (s : Shared) (v : Value), BindsTo s fd ⟨[v], []⟩ [("_law_script", v)]) ∧ ∀ base : Heap, K.In base → base.Ns mainGlobals mg → FnOk P w K mg base CX0 10 f fd ["_law_script"] (spLaw K) := by
  have T : Top K mg := top_of X G c hx
  obtain ⟨fd, F⟩ := c.def_ 44 (d := d_law) rfl
  have e := hfa.symm.trans (He.glo_ok X G (c.fact 32 (f := .glo "law") rfl))
  cases e
  have b := FunD.bindsA (ps := ["_law_script"]) F fun _ _ _ _ _ _ us hl => match us, hl with | [_], _ => rfl
  exact ⟨fd, fun s v => b s [v] rfl, fun base _ _ => f_law T F⟩
end BR
open PySem PySem.W PySem.Calls PyProof.Rows
theorem PySem.Challenge.cw_backwardrow_k67_whole_both_makings_of_al_holds : PySem.Challenge.rw_backwardrow_k67_whole_both_makings_of_al.Holds := by
  w_on; o_law
  refine HandSHeadRun.head_any (r := OpenLaw.row PySem.Challenge.rw_backwardrow_k67_whole_both_makings_of_al) (q := view (OpenLaw.row PySem.Challenge.rw_backwardrow_k67_whole_both_makings_of_al).prog [76]) (H := BR.hkE) (ob := BR.obE) (M := 6000) (loose := BR.loose) (d := HandSHeadRun.topDef (OpenLaw.row PySem.Challenge.rw_backwardrow_k67_whole_both_makings_of_al).prog 76) (kwd := []) BR.obE_eq
    (by kernel_rfl) (fun s => by kernel_rfl) BR.run (by kernel_rfl) (by kernel_rfl) (by kernel_rfl) (by rfl) (by first | assumption | decide +kernel) (by decide +kernel) ⟨rfl, rfl, rfl, rfl, rfl, by decide +kernel⟩ ?hw ?hc
  case hw => w_witness2
  case hc =>
    refine L2.walk_ofE (l := PySem.Challenge.rw_backwardrow_k67_whole_both_makings_of_al) (n := 63) (k := 10) (x := "_law_script") (CX := L2.CX0) rfl (by decide) (by kernel_rfl) ⟨rfl, by decide, by decide⟩ ?F (fun _ _ _ _ z => z)
    intro w mg fa h Y G hmg0
    obtain ⟨K, KX, c, hx⟩ := Y
    have hmg : mg ("law" : PySem.Str) = some (.ref fa) := by
      have e : (HandSHeadRun.topDef (OpenLaw.row PySem.Challenge.rw_backwardrow_k67_whole_both_makings_of_al).prog 76).name = ("law" : PySem.Str) := by kernel_rfl
      rw [← e]
      exact hmg0
    obtain ⟨fd, hb, hF⟩ := BR.facts (P := (PySem.Challenge.rw_backwardrow_k67_whole_both_makings_of_al).prog) (w := w) KX G hmg c hx
    exact ⟨K, fd, BR.spLaw K, KX, hb, fun H a ns hl _ hS => ⟨a, ns, rfl, hS, hl, fun _ => rfl⟩, hF⟩
