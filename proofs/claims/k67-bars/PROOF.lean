import PyProof.Rows.All
import HandS.HeadHook1
import HandS.HeadHook2
import HandS.HeadHook3
import HandS.HeadHook4
import HandS.Codes
import PySem.Challenge.RW_cardpanel_k67_whole_panels_that_keep_and
import HandS.Head0
import HandS.Head1
import HandS.Head2
import HandS.HeadEnd
import Wide.All
import OpenK.AllK
import Wide.FinOn
import HandS.ForMost
import HandS.Deep
import HandS.IsInst
import HandS.Style
import HandS.Star
import HandS.More
import KE.SortData
import HandS.Defaults
import PyProof.Rows.SetFrom
import PyProof.Walks
import HandS.Dict
import HandS.WideBits
import HandS.OwnEq
import KE.KStateDown
import Lean
set_option Elab.async false
set_option linter.all false
set_option maxRecDepth 100000
set_option maxHeartbeats 1000000
/-! D8: the text by places, its facts. -/
namespace Cp
open PySem L2 PySem.Spec PyProof.Rows
/-! ### the text by places -/
def top (i : Nat) : Stmt := PySem.Challenge.pw_cardpanel_k67_whole_panels_that_keep_and.main.body.getD i (.Pass ⟨0, 0, 0, 0⟩)
abbrev s_is_name : Stmt := top 11
abbrev s_are_names : Stmt := top 12
abbrev s_are_entries : Stmt := top 13
abbrev s_is_ascending : Stmt := top 14
abbrev s_is_lot : Stmt := top 15
abbrev s_is_field : Stmt := top 16
abbrev s_check_entries : Stmt := top 17
abbrev s_panel_init : Stmt := inClass (top 19) 0
abbrev s_panel_entries : Stmt := inClass (top 19) 1
abbrev s_panel_rows : Stmt := inClass (top 19) 2
abbrev s_panel_eq : Stmt := inClass (top 19) 8
abbrev s_spots_of : Stmt := top 20
abbrev s_is_row : Stmt := top 21
abbrev s_are_rows : Stmt := top 22
abbrev s_check_panel : Stmt := top 23
abbrev s_is_line : Stmt := top 25
abbrev s_copied : Stmt := top 26
abbrev s_book_init : Stmt := inClass (top 27) 0
abbrev s_book_lines : Stmt := inClass (top 27) 2
abbrev s_check_book : Stmt := top 28
abbrev s_check_two : Stmt := top 29
abbrev s_is_met : Stmt := top 30
abbrev s_break_of : Stmt := top 31
abbrev s_first_break : Stmt := top 32
abbrev s_why_broken : Stmt := top 33
abbrev s_keeps : Stmt := top 34
abbrev s_offs_of : Stmt := top 35
abbrev s_walked : Stmt := top 36
abbrev s_is_stuck_lot : Stmt := top 37
abbrev s_calls_of : Stmt := top 38
abbrev s_bar_of : Stmt := top 39
abbrev s_panel_that_keeps : Stmt := top 40
abbrev s_some_panel : Stmt := top 41
abbrev s_why_none : Stmt := top 42
abbrev s_is_bar_of : Stmt := top 43
abbrev s_is_bar : Stmt := top 44
abbrev s_l_purse : Stmt := top 46
abbrev s_l_mixed : Stmt := top 47
abbrev s_l_draw : Stmt := top 48
abbrev s_l_purses : Stmt := top 49
abbrev s_l_one_of : Stmt := top 50
abbrev s_l_shuffled : Stmt := top 51
abbrev s_l_word : Stmt := top 52
abbrev s_l_names : Stmt := top 53
abbrev s_l_rows_of : Stmt := top 54
abbrev s_l_fields : Stmt := top 55
abbrev s_l_is_part : Stmt := top 56
abbrev s_l_line : Stmt := top 57
abbrev s_l_meets : Stmt := top 58
abbrev s_l_row_keeps : Stmt := top 59
abbrev s_l_keeps_line : Stmt := top 60
abbrev s_l_keeps : Stmt := top 61
abbrev s_l_taken : Stmt := top 62
abbrev s_l_all_rows : Stmt := top 63
abbrev s_l_book_lines : Stmt := top 64
abbrev s_l_some_names : Stmt := top 65
abbrev s_l_book : Stmt := top 66
abbrev s_l_offs : Stmt := top 67
abbrev s_l_is_stuck : Stmt := top 68
abbrev s_l_rest : Stmt := top 69
abbrev s_l_kept_rows : Stmt := top 70
abbrev s_l_calls : Stmt := top 71
abbrev s_l_first_bar : Stmt := top 72
abbrev s_l_is_bar : Stmt := top 73
abbrev s_l_panel_rows : Stmt := top 74
abbrev s_l_first_break : Stmt := top 75
abbrev s_l_bars_right : Stmt := top 76
abbrev s_l_right : Stmt := top 77
abbrev s_law : Stmt := top 78
/-! ### the defs as data -/
def d_is_name : He.DefD := ⟨("is_name", none), "is_name", "is_name", defArgs s_is_name, defBody s_is_name, defScope s_is_name, [], []⟩
def d_are_names : He.DefD := ⟨("are_names", none), "are_names", "are_names", defArgs s_are_names, defBody s_are_names, defScope s_are_names, [], []⟩
def d_are_entries : He.DefD := ⟨("are_entries", none), "are_entries", "are_entries", defArgs s_are_entries, defBody s_are_entries, defScope s_are_entries, [], []⟩
def d_is_ascending : He.DefD := ⟨("is_ascending", none), "is_ascending", "is_ascending", defArgs s_is_ascending, defBody s_is_ascending, defScope s_is_ascending, [], []⟩
def d_is_lot : He.DefD := ⟨("is_lot", none), "is_lot", "is_lot", defArgs s_is_lot, defBody s_is_lot, defScope s_is_lot, [], []⟩
def d_is_field : He.DefD := ⟨("is_field", none), "is_field", "is_field", defArgs s_is_field, defBody s_is_field, defScope s_is_field, [], []⟩
def d_check_entries : He.DefD := ⟨("check_entries", none), "check_entries", "check_entries", defArgs s_check_entries, defBody s_check_entries, defScope s_check_entries, [], []⟩
def d_panel_init : He.DefD := ⟨("Panel", some "__init__"), "__init__", "Panel.__init__", defArgs s_panel_init, defBody s_panel_init, defScope s_panel_init, [], []⟩
def d_panel_entries : He.DefD := ⟨("Panel", some "entries"), "entries", "Panel.entries", defArgs s_panel_entries, defBody s_panel_entries, defScope s_panel_entries, [], []⟩
def d_panel_rows : He.DefD := ⟨("Panel", some "rows"), "rows", "Panel.rows", defArgs s_panel_rows, defBody s_panel_rows, defScope s_panel_rows, [], []⟩
def d_panel_eq : He.DefD := ⟨("Panel", some "__eq__"), "__eq__", "Panel.__eq__", defArgs s_panel_eq, defBody s_panel_eq, defScope s_panel_eq, [], []⟩
def d_spots_of : He.DefD := ⟨("spots_of", none), "spots_of", "spots_of", defArgs s_spots_of, defBody s_spots_of, defScope s_spots_of, [], []⟩
def d_is_row : He.DefD := ⟨("is_row", none), "is_row", "is_row", defArgs s_is_row, defBody s_is_row, defScope s_is_row, [], []⟩
def d_are_rows : He.DefD := ⟨("are_rows", none), "are_rows", "are_rows", defArgs s_are_rows, defBody s_are_rows, defScope s_are_rows, [], []⟩
def d_check_panel : He.DefD := ⟨("check_panel", none), "check_panel", "check_panel", defArgs s_check_panel, defBody s_check_panel, defScope s_check_panel, [], []⟩
def d_is_line : He.DefD := ⟨("is_line", none), "is_line", "is_line", defArgs s_is_line, defBody s_is_line, defScope s_is_line, [], []⟩
def d_copied : He.DefD := ⟨("copied", none), "copied", "copied", defArgs s_copied, defBody s_copied, defScope s_copied, [], []⟩
def d_book_init : He.DefD := ⟨("Book", some "__init__"), "__init__", "Book.__init__", defArgs s_book_init, defBody s_book_init, defScope s_book_init, [], []⟩
def d_book_lines : He.DefD := ⟨("Book", some "lines"), "lines", "Book.lines", defArgs s_book_lines, defBody s_book_lines, defScope s_book_lines, [], []⟩
def d_check_book : He.DefD := ⟨("check_book", none), "check_book", "check_book", defArgs s_check_book, defBody s_check_book, defScope s_check_book, [], []⟩
def d_check_two : He.DefD := ⟨("check_two", none), "check_two", "check_two", defArgs s_check_two, defBody s_check_two, defScope s_check_two, [], []⟩
def d_is_met : He.DefD := ⟨("is_met", none), "is_met", "is_met", defArgs s_is_met, defBody s_is_met, defScope s_is_met, [], []⟩
def d_break_of : He.DefD := ⟨("break_of", none), "break_of", "break_of", defArgs s_break_of, defBody s_break_of, defScope s_break_of, [], []⟩
def d_first_break : He.DefD := ⟨("first_break", none), "first_break", "first_break", defArgs s_first_break, defBody s_first_break, defScope s_first_break, [], []⟩
def d_why_broken : He.DefD := ⟨("why_broken", none), "why_broken", "why_broken", defArgs s_why_broken, defBody s_why_broken, defScope s_why_broken, [], []⟩
def d_keeps : He.DefD := ⟨("keeps", none), "keeps", "keeps", defArgs s_keeps, defBody s_keeps, defScope s_keeps, [], []⟩
def d_offs_of : He.DefD := ⟨("offs_of", none), "offs_of", "offs_of", defArgs s_offs_of, defBody s_offs_of, defScope s_offs_of, [], []⟩
def d_walked : He.DefD := ⟨("walked", none), "walked", "walked", defArgs s_walked, defBody s_walked, defScope s_walked, [], []⟩
def d_is_stuck_lot : He.DefD := ⟨("is_stuck_lot", none), "is_stuck_lot", "is_stuck_lot", defArgs s_is_stuck_lot, defBody s_is_stuck_lot, defScope s_is_stuck_lot, [], []⟩
def d_calls_of : He.DefD := ⟨("calls_of", none), "calls_of", "calls_of", defArgs s_calls_of, defBody s_calls_of, defScope s_calls_of, [], []⟩
def d_bar_of : He.DefD := ⟨("bar_of", none), "bar_of", "bar_of", defArgs s_bar_of, defBody s_bar_of, defScope s_bar_of, [], []⟩
def d_panel_that_keeps : He.DefD := ⟨("panel_that_keeps", none), "panel_that_keeps", "panel_that_keeps", defArgs s_panel_that_keeps, defBody s_panel_that_keeps, defScope s_panel_that_keeps, [], []⟩
def d_some_panel : He.DefD := ⟨("some_panel", none), "some_panel", "some_panel", defArgs s_some_panel, defBody s_some_panel, defScope s_some_panel, [], []⟩
def d_why_none : He.DefD := ⟨("why_none", none), "why_none", "why_none", defArgs s_why_none, defBody s_why_none, defScope s_why_none, [], []⟩
def d_is_bar_of : He.DefD := ⟨("is_bar_of", none), "is_bar_of", "is_bar_of", defArgs s_is_bar_of, defBody s_is_bar_of, defScope s_is_bar_of, [], []⟩
def d_is_bar : He.DefD := ⟨("is_bar", none), "is_bar", "is_bar", defArgs s_is_bar, defBody s_is_bar, defScope s_is_bar, [], []⟩
def d_l_purse : He.DefD := ⟨("_law_purse", none), "_law_purse", "_law_purse", defArgs s_l_purse, defBody s_l_purse, defScope s_l_purse, [], []⟩
def d_l_mixed : He.DefD := ⟨("_law_mixed", none), "_law_mixed", "_law_mixed", defArgs s_l_mixed, defBody s_l_mixed, defScope s_l_mixed, [], []⟩
def d_l_draw : He.DefD := ⟨("_law_draw", none), "_law_draw", "_law_draw", defArgs s_l_draw, defBody s_l_draw, defScope s_l_draw, [], []⟩
def d_l_purses : He.DefD := ⟨("_law_purses", none), "_law_purses", "_law_purses", defArgs s_l_purses, defBody s_l_purses, defScope s_l_purses, [], []⟩
def d_l_one_of : He.DefD := ⟨("_law_one_of", none), "_law_one_of", "_law_one_of", defArgs s_l_one_of, defBody s_l_one_of, defScope s_l_one_of, [], []⟩
def d_l_shuffled : He.DefD := ⟨("_law_shuffled", none), "_law_shuffled", "_law_shuffled", defArgs s_l_shuffled, defBody s_l_shuffled, defScope s_l_shuffled, [], []⟩
def d_l_word : He.DefD := ⟨("_law_word", none), "_law_word", "_law_word", defArgs s_l_word, defBody s_l_word, defScope s_l_word, [], []⟩
def d_l_names : He.DefD := ⟨("_law_names", none), "_law_names", "_law_names", defArgs s_l_names, defBody s_l_names, defScope s_l_names, [], []⟩
def d_l_rows_of : He.DefD := ⟨("_law_rows_of", none), "_law_rows_of", "_law_rows_of", defArgs s_l_rows_of, defBody s_l_rows_of, defScope s_l_rows_of, [], []⟩
def d_l_fields : He.DefD := ⟨("_law_fields", none), "_law_fields", "_law_fields", defArgs s_l_fields, defBody s_l_fields, defScope s_l_fields, [], []⟩
def d_l_is_part : He.DefD := ⟨("_law_is_part", none), "_law_is_part", "_law_is_part", defArgs s_l_is_part, defBody s_l_is_part, defScope s_l_is_part, [], []⟩
def d_l_line : He.DefD := ⟨("_law_line", none), "_law_line", "_law_line", defArgs s_l_line, defBody s_l_line, defScope s_l_line, [], []⟩
def d_l_meets : He.DefD := ⟨("_law_meets", none), "_law_meets", "_law_meets", defArgs s_l_meets, defBody s_l_meets, defScope s_l_meets, [], []⟩
def d_l_row_keeps : He.DefD := ⟨("_law_row_keeps", none), "_law_row_keeps", "_law_row_keeps", defArgs s_l_row_keeps, defBody s_l_row_keeps, defScope s_l_row_keeps, [], []⟩
def d_l_keeps_line : He.DefD := ⟨("_law_keeps_line", none), "_law_keeps_line", "_law_keeps_line", defArgs s_l_keeps_line, defBody s_l_keeps_line, defScope s_l_keeps_line, [], []⟩
def d_l_keeps : He.DefD := ⟨("_law_keeps", none), "_law_keeps", "_law_keeps", defArgs s_l_keeps, defBody s_l_keeps, defScope s_l_keeps, [], []⟩
def d_l_taken : He.DefD := ⟨("_law_taken", none), "_law_taken", "_law_taken", defArgs s_l_taken, defBody s_l_taken, defScope s_l_taken, [], []⟩
def d_l_all_rows : He.DefD := ⟨("_law_all_rows", none), "_law_all_rows", "_law_all_rows", defArgs s_l_all_rows, defBody s_l_all_rows, defScope s_l_all_rows, [], []⟩
def d_l_book_lines : He.DefD := ⟨("_law_book_lines", none), "_law_book_lines", "_law_book_lines", defArgs s_l_book_lines, defBody s_l_book_lines, defScope s_l_book_lines, [], []⟩
def d_l_some_names : He.DefD := ⟨("_law_some_names", none), "_law_some_names", "_law_some_names", defArgs s_l_some_names, defBody s_l_some_names, defScope s_l_some_names, [], []⟩
def d_l_book : He.DefD := ⟨("_law_book", none), "_law_book", "_law_book", defArgs s_l_book, defBody s_l_book, defScope s_l_book, [], []⟩
def d_l_offs : He.DefD := ⟨("_law_offs", none), "_law_offs", "_law_offs", defArgs s_l_offs, defBody s_l_offs, defScope s_l_offs, [], []⟩
def d_l_is_stuck : He.DefD := ⟨("_law_is_stuck", none), "_law_is_stuck", "_law_is_stuck", defArgs s_l_is_stuck, defBody s_l_is_stuck, defScope s_l_is_stuck, [], []⟩
def d_l_rest : He.DefD := ⟨("_law_rest", none), "_law_rest", "_law_rest", defArgs s_l_rest, defBody s_l_rest, defScope s_l_rest, [], []⟩
def d_l_kept_rows : He.DefD := ⟨("_law_kept_rows", none), "_law_kept_rows", "_law_kept_rows", defArgs s_l_kept_rows, defBody s_l_kept_rows, defScope s_l_kept_rows, [], []⟩
def d_l_calls : He.DefD := ⟨("_law_calls", none), "_law_calls", "_law_calls", defArgs s_l_calls, defBody s_l_calls, defScope s_l_calls, [], []⟩
def d_l_first_bar : He.DefD := ⟨("_law_first_bar", none), "_law_first_bar", "_law_first_bar", defArgs s_l_first_bar, defBody s_l_first_bar, defScope s_l_first_bar, [], []⟩
def d_l_is_bar : He.DefD := ⟨("_law_is_bar", none), "_law_is_bar", "_law_is_bar", defArgs s_l_is_bar, defBody s_l_is_bar, defScope s_l_is_bar, [], []⟩
def d_l_panel_rows : He.DefD := ⟨("_law_panel_rows", none), "_law_panel_rows", "_law_panel_rows", defArgs s_l_panel_rows, defBody s_l_panel_rows, defScope s_l_panel_rows, [], []⟩
def d_l_first_break : He.DefD := ⟨("_law_first_break", none), "_law_first_break", "_law_first_break", defArgs s_l_first_break, defBody s_l_first_break, defScope s_l_first_break, [], []⟩
def d_l_bars_right : He.DefD := ⟨("_law_bars_right", none), "_law_bars_right", "_law_bars_right", defArgs s_l_bars_right, defBody s_l_bars_right, defScope s_l_bars_right, [], []⟩
def d_l_right : He.DefD := ⟨("_law_right", none), "_law_right", "_law_right", defArgs s_l_right, defBody s_l_right, defScope s_l_right, [], []⟩
def d_law : He.DefD := ⟨("law", none), "law", "law", defArgs s_law, defBody s_law, defScope s_law, [], []⟩
def fn1 : List He.DefD := [d_is_name, d_are_names, d_are_entries, d_is_ascending, d_is_lot, d_is_field, d_check_entries, d_panel_init, d_panel_entries, d_panel_rows, d_panel_eq, d_spots_of, d_is_row, d_are_rows, d_check_panel, d_is_line, d_copied, d_book_init, d_book_lines, d_check_book, d_check_two, d_is_met, d_break_of, d_first_break, d_why_broken, d_keeps, d_offs_of, d_walked, d_is_stuck_lot, d_calls_of, d_bar_of, d_panel_that_keeps, d_some_panel, d_why_none, d_is_bar_of, d_is_bar, d_l_purse, d_l_mixed]
def fn2 : List He.DefD := [d_l_draw, d_l_purses, d_l_one_of, d_l_shuffled, d_l_word, d_l_names, d_l_rows_of, d_l_fields, d_l_is_part, d_l_line, d_l_meets, d_l_row_keeps, d_l_keeps_line, d_l_keeps, d_l_taken, d_l_all_rows, d_l_book_lines, d_l_some_names, d_l_book, d_l_offs, d_l_is_stuck, d_l_rest, d_l_kept_rows, d_l_calls, d_l_first_bar, d_l_is_bar, d_l_panel_rows, d_l_first_break, d_l_bars_right, d_l_right, d_law]
def fn : List He.DefD := fn1 ++ fn2
def fa1 : List He.Fa := [.glo "is_name", .glo "are_names", .glo "are_entries", .glo "is_ascending", .glo "is_lot", .glo "is_field", .glo "check_entries", .glo "spots_of", .glo "is_row", .glo "are_rows", .glo "check_panel", .glo "is_line", .glo "copied", .glo "check_book", .glo "check_two", .glo "is_met", .glo "break_of", .glo "first_break", .glo "why_broken", .glo "keeps", .glo "offs_of", .glo "walked", .glo "is_stuck_lot", .glo "calls_of", .glo "bar_of", .glo "panel_that_keeps", .glo "some_panel", .glo "why_none", .glo "is_bar_of", .glo "is_bar", .glo "_law_purse", .glo "_law_mixed", .glo "_law_draw", .glo "_law_purses", .glo "_law_one_of", .glo "_law_shuffled"]
def fa2 : List He.Fa := [.glo "_law_word", .glo "_law_names", .glo "_law_rows_of", .glo "_law_fields", .glo "_law_is_part", .glo "_law_line", .glo "_law_meets", .glo "_law_row_keeps", .glo "_law_keeps_line", .glo "_law_keeps", .glo "_law_taken", .glo "_law_all_rows", .glo "_law_book_lines", .glo "_law_some_names", .glo "_law_book", .glo "_law_offs", .glo "_law_is_stuck", .glo "_law_rest", .glo "_law_kept_rows", .glo "_law_calls", .glo "_law_first_bar", .glo "_law_is_bar", .glo "_law_panel_rows", .glo "_law_first_break", .glo "_law_bars_right", .glo "_law_right", .glo "law"]
def fa3 : List He.Fa := [.free "isinstance", .free "len", .free "sorted", .free "set", .free "dict", .free "list", .free "enumerate", .free "str", .free "sum", .free "max", .free "min", .free "range", .free "tuple", .str "LETTERS" "abcdefghijklmnopqrstuvwxyz", .glo "Panel", .glo "Book", .cls "Panel", .cls "Book", .mkr "Panel", .mkr "Book", .noat "Panel" "names", .noat "Panel" "orders", .noat "Panel" "spots", .noat "Book" "names", .noat "Book" "told", .meth "Panel" "entries", .meth "Panel" "rows", .meth "Panel" "__eq__", .meth "Book" "lines"]
def fa : List He.Fa := fa1 ++ (fa2 ++ fa3)
def loose0 : List Str := [("_wall" : Str), ("__name__" : Str), ("ShowError" : Str), ("InvalidEntries" : Str), ("InvalidRows" : Str), ("InvalidPanel" : Str), ("Unlike" : Str), ("InvalidBook" : Str), ("InvalidLine" : Str), ("LETTERS" : Str), ("is_name" : Str), ("are_names" : Str), ("are_entries" : Str), ("is_ascending" : Str), ("is_lot" : Str), ("is_field" : Str)]
def loose1 : List Str := [("check_entries" : Str), ("Panel" : Str), ("spots_of" : Str), ("is_row" : Str), ("are_rows" : Str), ("check_panel" : Str), ("is_line" : Str), ("copied" : Str), ("Book" : Str), ("check_book" : Str), ("check_two" : Str), ("is_met" : Str), ("break_of" : Str), ("first_break" : Str), ("why_broken" : Str), ("keeps" : Str)]
def loose2 : List Str := [("offs_of" : Str), ("walked" : Str), ("is_stuck_lot" : Str), ("calls_of" : Str), ("bar_of" : Str), ("panel_that_keeps" : Str), ("some_panel" : Str), ("why_none" : Str), ("is_bar_of" : Str), ("is_bar" : Str), ("_law_purse" : Str), ("_law_mixed" : Str), ("_law_draw" : Str), ("_law_purses" : Str), ("_law_one_of" : Str), ("_law_shuffled" : Str)]
def loose3 : List Str := [("_law_word" : Str), ("_law_names" : Str), ("_law_rows_of" : Str), ("_law_fields" : Str), ("_law_is_part" : Str), ("_law_line" : Str), ("_law_meets" : Str), ("_law_row_keeps" : Str), ("_law_keeps_line" : Str), ("_law_keeps" : Str), ("_law_taken" : Str), ("_law_all_rows" : Str), ("_law_book_lines" : Str), ("_law_some_names" : Str), ("_law_book" : Str), ("_law_offs" : Str)]
def loose4 : List Str := [("_law_is_stuck" : Str), ("_law_rest" : Str), ("_law_kept_rows" : Str), ("_law_calls" : Str), ("_law_first_bar" : Str), ("_law_is_bar" : Str), ("_law_panel_rows" : Str), ("_law_first_break" : Str), ("_law_bars_right" : Str), ("_law_right" : Str)]
def loose : List Str := loose0 ++ loose1 ++ loose2 ++ loose3 ++ loose4
abbrev R : PySem.W.OpenRow := PySem.W.OpenLaw.row PySem.Challenge.rw_cardpanel_k67_whole_panels_that_keep_and
-- the law's own def is the top's statement 78
end Cp
set_option Elab.async false
set_option linter.all false
set_option maxRecDepth 100000
set_option maxHeartbeats 0
/-! HdX: the top is run once. -/
namespace Cp
open PySem PySem.Spec PyProof.Rows L2
def insB (K : PySem.W.Frag) (C : Addr) : Bool := He.eqO (PySem.W.findIn K (.ref C) "__class__") (some (some (.builtin "object.__class__"))) && (He.eqO (PySem.W.specialIn K (.builtin "object.__class__") "__get__") (some (some (.builtin "getset_descriptor.__get__"))) &&
  (decide (PySem.W.takesIn K (.builtin "object.__class__") = some true) && (decide (PySem.W.mroIn K C (.type "object") = some true) && decide (PySem.W.kitOne K (.ref C) (.ref C) = some true))))
def exB (K : PySem.W.Frag) : Bool := insB K (He.ga K "Panel") && (insB K (He.ga K "Book") && He.eqO (PySem.W.findIn K (.ref (He.ga K "Panel")) "__ne__") (some (some (.builtin "object.__ne__"))))
abbrev hk : PySem.W.Hook := He.hookX 5 fa fn [] [] exB
def ob (s : PySem.W.SharedT) : He.AlX := He.obsX 5 fa fn [] [] exB (HandSHeadRun.getT s)
theorem ob_eq (s : PySem.W.SharedT) : ob s = hk.obs s.abs := He.obsX_eq (HandSHeadRun.getT_eq s)
theorem run (w : World) : HandSHeadRun.RunEq R (PySem.W.view R.prog [78]) hk ob 6000 loose w := by
  intro os
  kernel_rfl
end Cp
set_option Elab.async false
set_option linter.all false
set_option maxRecDepth 100000
set_option maxHeartbeats 1000000
/-! D1: judgements over known heaps. A known heap G is a part of the heap H; what is in it never changes; a purse (one list of four ints) may change. -/
namespace Cp
open PySem L2

/-! ### data -/
mutual
inductive Dq (P : Addr → Prop) (G : Hp) : V → PyData → Prop
  | non : Dq P G .non .none
  | bl (b : Bool) : Dq P G (.bl b) (.bool b)
  | int (i : Int) : Dq P G (.int i) (.int i)
  | str (x : Str) : Dq P G (.str x) (.str x)
  | lst {a : Addr} {xs : List V} {ds : List PyData} (p : P a) (h : G a = some (.lst xs)) (t : DqAll P G xs ds) : Dq P G (.ref a) (.list ds)
  | tup {a : Addr} {xs : List V} {ds : List PyData} (p : P a) (h : G a = some (.tup xs)) (t : DqAll P G xs ds) : Dq P G (.ref a) (.tuple ds)
  | dic {a : Addr} (p : P a) (h : G a = some (.dK [])) : Dq P G (.ref a) (.dict [])
inductive DqAll (P : Addr → Prop) (G : Hp) : List V → List PyData → Prop
  | nil : DqAll P G [] []
  | cons {v : V} {vs : List V} {d : PyData} {ds : List PyData} (h : Dq P G v d) (t : DqAll P G vs ds) : DqAll P G (v :: vs) (d :: ds)
end
mutual
theorem Dq.mono {P P' : Addr → Prop} {G G' : Hp} (e : Same G G') (f : ∀ a, P a → P' a) : ∀ {d : PyData} {v : V}, Dq P G v d → Dq P' G' v d
  | _, _, .non => .non
  | _, _, .bl b => .bl b
  | _, _, .int i => .int i
  | _, _, .str x => .str x
  | _, _, .lst p h t => .lst (f _ p) (e _ _ h) (DqAll.mono e f t)
  | _, _, .tup p h t => .tup (f _ p) (e _ _ h) (DqAll.mono e f t)
  | _, _, .dic p h => .dic (f _ p) (e _ _ h)
theorem DqAll.mono {P P' : Addr → Prop} {G G' : Hp} (e : Same G G') (f : ∀ a, P a → P' a) : ∀ {ds : List PyData} {vs : List V}, DqAll P G vs ds → DqAll P' G' vs ds
  | _, _, .nil => .nil
  | _, _, .cons h t => .cons (Dq.mono e f h) (DqAll.mono e f t)
end
theorem DqAll.len {P : Addr → Prop} {G : Hp} : ∀ {vs : List V} {ds : List PyData}, DqAll P G vs ds → vs.length = ds.length
  | _, _, .nil => rfl
  | _, _, .cons _ t => by rw [List.length_cons, List.length_cons, DqAll.len t]
theorem DqAll.at_ {P : Addr → Prop} {G : Hp} : ∀ {vs : List V} {ds : List PyData} {i : Nat} {v : V}, DqAll P G vs ds → vs[i]? = some v → ∃ d, ds[i]? = some d ∧ Dq P G v d
  | _, _, i, _, .nil, h => by simp at h
  | _, _, 0, _, .cons h t, e => by
    simp at e
    subst e
    exact ⟨_, rfl, h⟩
  | _, _, i + 1, _, .cons h t, e => by
    obtain ⟨d, h1, h2⟩ := DqAll.at_ (i := i) t (by simpa using e)
    exact ⟨d, by simpa using h1, h2⟩
theorem DqAll.get {P : Addr → Prop} {G : Hp} : ∀ {vs : List V} {ds : List PyData} {i : Nat} {d : PyData}, DqAll P G vs ds → ds[i]? = some d → ∃ v, vs[i]? = some v ∧ Dq P G v d
  | _, _, i, _, .nil, h => by simp at h
  | _, _, 0, _, .cons h t, e => by
    simp at e
    subst e
    exact ⟨_, rfl, h⟩
  | _, _, i + 1, _, .cons h t, e => by
    obtain ⟨v, h1, h2⟩ := DqAll.get (i := i) t (by simpa using e)
    exact ⟨v, by simpa using h1, h2⟩
theorem DqAll.app {P : Addr → Prop} {G : Hp} : ∀ {vs ws : List V} {ds es : List PyData}, DqAll P G vs ds → DqAll P G ws es → DqAll P G (vs ++ ws) (ds ++ es)
  | _, _, _, _, .nil, s => s
  | _, _, _, _, .cons h t, s => .cons h (DqAll.app t s)
theorem DqAll.take {P : Addr → Prop} {G : Hp} : ∀ {vs : List V} {ds : List PyData} (n : Nat), DqAll P G vs ds → DqAll P G (vs.take n) (ds.take n)
  | _, _, 0, _ => .nil
  | _, _, _ + 1, .nil => .nil
  | _, _, n + 1, .cons h t => .cons h (DqAll.take n t)
theorem DqAll.drop {P : Addr → Prop} {G : Hp} : ∀ {vs : List V} {ds : List PyData} (n : Nat), DqAll P G vs ds → DqAll P G (vs.drop n) (ds.drop n)
  | _, _, 0, h => h
  | _, _, _ + 1, .nil => .nil
  | _, _, n + 1, .cons h t => DqAll.drop n t
theorem DqAll.rev {P : Addr → Prop} {G : Hp} : ∀ {vs : List V} {ds : List PyData}, DqAll P G vs ds → DqAll P G vs.reverse ds.reverse
  | _, _, .nil => .nil
  | _, _, .cons h t => by
    rw [List.reverse_cons, List.reverse_cons]
    exact DqAll.app (DqAll.rev t) (.cons h .nil)
/-! what a comparison reads -/
mutual
theorem Dq.dp {K : PySem.W.Frag} {P : Addr → Prop} {G : Hp} : ∀ {d : PyData} {v : V}, Dq P G v d → d.canLay0 = true → Dp K G v d
  | _, _, .non, _ => .non
  | _, _, .bl b, _ => .bl b
  | _, _, .int i, _ => .int i
  | _, _, .str x, _ => .str x
  | _, _, .lst _ h t, c => .lst (.inl (.inl h)) (DqAll.dp t (by simpa [PyData.canLay0] using c))
  | _, _, .tup _ h t, c => .tup (.inl (.inl h)) (DqAll.dp t (by simpa [PyData.canLay0] using c))
  | _, _, .dic _ _, c => by simp [PyData.canLay0] at c
theorem DqAll.dp {K : PySem.W.Frag} {P : Addr → Prop} {G : Hp} : ∀ {ds : List PyData} {vs : List V}, DqAll P G vs ds → PyData.canLayAll0 ds = true → DpAll K G vs ds
  | _, _, .nil, _ => .nil
  | _, _, .cons h t, c => by
    simp only [PyData.canLayAll0, Bool.and_eq_true] at c
    exact .cons (Dq.dp h c.1) (DqAll.dp t c.2)
end

/-! ### types: what is known of a value. G0 is an elder part of the known heap (what is not in it is fresh) -/
structure Ty where
  p : Hp → V → Hp → Prop
  mono : ∀ {G0 G1 : Hp} {v : V} {G G' : Hp}, Same G1 G0 → Same G G' → p G0 v G → p G1 v G'
theorem none_back {G G' : Hp} (e : Same G G') {a : Addr} (h : G' a = none) : G a = none := Same.free e h
/-- some datum -/
def D (d : PyData) : Ty := ⟨fun _ v G => Dq (fun _ => True) G v d, fun _ e h => h.mono e fun _ z => z⟩
/-- some datum all of whose objects are new -/
def Fd (d : PyData) : Ty := ⟨fun G0 v G => Dq (fun a => G0 a = none) G v d, fun e0 e h => h.mono e fun _ z => none_back e0 z⟩
/-- this very value -/
def Vv (x : V) : Ty := ⟨fun _ v _ => v = x, fun _ _ h => h⟩
def Ex {ι : Type} (f : ι → Ty) : Ty := ⟨fun G0 v G => ∃ i, (f i).p G0 v G, fun e0 e ⟨i, h⟩ => ⟨i, (f i).mono e0 e h⟩⟩
def Wh (q : Prop) (T : Ty) : Ty := ⟨fun G0 v G => q ∧ T.p G0 v G, fun e0 e ⟨a, h⟩ => ⟨a, T.mono e0 e h⟩⟩
/-- values of types -/
def Tys (G0 G : Hp) : List V → List Ty → Prop
  | [], [] => True
  | v :: vs, T :: Ts => T.p G0 v G ∧ Tys G0 G vs Ts
  | _, _ => False
theorem Tys.mono {G0 G1 G G' : Hp} (e0 : Same G1 G0) (e : Same G G') : ∀ {vs : List V} {Ts : List Ty}, Tys G0 G vs Ts → Tys G1 G' vs Ts
  | [], [], _ => trivial
  | _ :: _, T :: _, h => ⟨T.mono e0 e h.1, Tys.mono e0 e h.2⟩
  | [], _ :: _, h => h.elim
  | _ :: _, [], h => h.elim
theorem Tys.len {G0 G : Hp} : ∀ {vs : List V} {Ts : List Ty}, Tys G0 G vs Ts → vs.length = Ts.length
  | [], [], _ => rfl
  | _ :: _, _ :: _, h => by rw [List.length_cons, List.length_cons, Tys.len h.2]
  | [], _ :: _, h => h.elim
  | _ :: _, [], h => h.elim
theorem Tys.at_ {G0 G : Hp} : ∀ {vs : List V} {Ts : List Ty} {i : Nat} {T : Ty}, Tys G0 G vs Ts → Ts[i]? = some T → ∃ v, vs[i]? = some v ∧ T.p G0 v G
  | [], [], i, T, _, e => by simp at e
  | v :: _, _ :: _, 0, T, h, e => by
    simp at e
    subst e
    exact ⟨v, rfl, h.1⟩
  | _ :: _, _ :: _, i + 1, T, h, e => by
    obtain ⟨v, h1, h2⟩ := Tys.at_ (i := i) h.2 (by simpa using e)
    exact ⟨v, by simpa using h1, h2⟩
  | [], _ :: _, _, _, h, _ => h.elim
  | _ :: _, [], _, _, h, _ => h.elim
theorem Tys.app {G0 G : Hp} : ∀ {vs ws : List V} {Ts Us : List Ty}, Tys G0 G vs Ts → Tys G0 G ws Us → Tys G0 G (vs ++ ws) (Ts ++ Us)
  | [], _, [], _, _, s => s
  | _ :: _, _, _ :: _, _, h, s => ⟨h.1, Tys.app h.2 s⟩
  | [], _, _ :: _, _, h, _ => h.elim
  | _ :: _, _, [], _, h, _ => h.elim
/-- a new list, a new tuple of items of these types -/
def Ln (Ts : List Ty) : Ty := ⟨fun G0 v G => ∃ a vs, v = .ref a ∧ G0 a = none ∧ G a = some (.lst vs) ∧ Tys G0 G vs Ts, fun e0 e ⟨a, vs, h1, h2, h3, h4⟩ => ⟨a, vs, h1, none_back e0 h2, e _ _ h3, h4.mono e0 e⟩⟩
def Tn (Ts : List Ty) : Ty := ⟨fun G0 v G => ∃ a vs, v = .ref a ∧ G0 a = none ∧ G a = some (.tup vs) ∧ Tys G0 G vs Ts, fun e0 e ⟨a, vs, h1, h2, h3, h4⟩ => ⟨a, vs, h1, none_back e0 h2, e _ _ h3, h4.mono e0 e⟩⟩
def Ty.le (T U : Ty) : Prop := ∀ G0 v G, T.p G0 v G → U.p G0 v G
/-- what a caller may hand in -/
def Ty.sub (T U : Ty) : Prop := ∀ G0 v G, T.p G0 v G → U.p G v G
theorem Ty.le.rfl' {T : Ty} : T.le T := fun _ _ _ h => h
theorem Ty.le.trans {T U W : Ty} (a : T.le U) (b : U.le W) : T.le W := fun G0 v G h => b _ _ _ (a _ _ _ h)
theorem le_FD {d : PyData} : (Fd d).le (D d) := fun _ _ _ h => Dq.mono (Same.refl _) (fun _ _ => trivial) h
theorem sub_D {d : PyData} : (D d).sub (D d) := fun _ _ _ h => h
theorem sub_F {d : PyData} : (Fd d).sub (D d) := fun _ _ _ h => Dq.mono (Same.refl _) (fun _ _ => trivial) h
theorem sub_of {T : Ty} {d : PyData} (h : T.le (D d)) : T.sub (D d) := fun G0 v G q => h G0 v G q
theorem sub_V {x : V} : (Vv x).sub (Vv x) := fun _ _ _ h => h
theorem sub_ex {ι : Type} {f : ι → Ty} {U : Ty} (h : ∀ i, (f i).sub U) : (Ex f).sub U := fun G0 v G ⟨i, q⟩ => h i G0 v G q
theorem le_ex {ι : Type} {f : ι → Ty} {T : Ty} (i : ι) (h : T.le (f i)) : T.le (Ex f) := fun G0 v G q => ⟨i, h _ _ _ q⟩
theorem ex_le {ι : Type} {f : ι → Ty} {T : Ty} (h : ∀ i, (f i).le T) : (Ex f).le T := fun G0 v G ⟨i, q⟩ => h i _ _ _ q
theorem le_wh {q : Prop} {T U : Ty} (hq : q) (h : T.le U) : T.le (Wh q U) := fun _ _ _ z => ⟨hq, h _ _ _ z⟩
theorem wh_le {q : Prop} {T U : Ty} (h : q → T.le U) : (Wh q T).le U := fun _ _ _ z => h z.1 _ _ _ z.2
theorem vv_le {v : V} {d : PyData} (h : ∀ (P : Addr → Prop) G, Dq P G v d) : (Vv v).le (Fd d) := fun G0 x G e => by
  cases e
  exact h _ _
theorem dqall_of {G0 G : Hp} {P : Addr → Prop} {f : PyData → Ty} (hf : ∀ d v, (f d).p G0 v G → Dq P G v d) : ∀ {ds : List PyData} {vs : List V}, Tys G0 G vs (ds.map f) → DqAll P G vs ds
  | [], [], _ => .nil
  | d :: _, v :: _, h => .cons (hf d v h.1) (dqall_of hf h.2)
  | [], _ :: _, h => h.elim
  | _ :: _, [], h => h.elim
theorem ln_D {ds : List PyData} : (Ln (ds.map D)).le (D (.list ds)) := fun G0 v G ⟨a, vs, h1, h2, h3, h4⟩ => by
  subst h1
  exact .lst trivial h3 (dqall_of (fun _ _ z => z) h4)
theorem ln_F {ds : List PyData} : (Ln (ds.map Fd)).le (Fd (.list ds)) := fun G0 v G ⟨a, vs, h1, h2, h3, h4⟩ => by
  subst h1
  exact .lst h2 h3 (dqall_of (fun _ _ z => z) h4)
theorem tn_D {ds : List PyData} : (Tn (ds.map D)).le (D (.tuple ds)) := fun G0 v G ⟨a, vs, h1, h2, h3, h4⟩ => by
  subst h1
  exact .tup trivial h3 (dqall_of (fun _ _ z => z) h4)
theorem tn_F {ds : List PyData} : (Tn (ds.map Fd)).le (Fd (.tuple ds)) := fun G0 v G ⟨a, vs, h1, h2, h3, h4⟩ => by
  subst h1
  exact .tup h2 h3 (dqall_of (fun _ _ z => z) h4)
theorem d_tys {G0 G : Hp} : ∀ {ds : List PyData} {vs : List V}, DqAll (fun _ => True) G vs ds → Tys G0 G vs (ds.map D)
  | _, _, .nil => trivial
  | _, _, .cons h t => ⟨h, d_tys t⟩

/-! ### purses -/
def PurseAt (H : Hp) (p : Addr) (n : Nat) : Prop := ∃ a b c d : Int, H p = some (.lst [.int a, .int b, .int c, .int d]) ∧ (0 ≤ a ∧ a.natAbs < 2 ^ 1600) ∧ (0 ≤ b ∧ b < 2147483629) ∧ (0 ≤ c ∧ c ≤ n) ∧ 0 ≤ d ∧ d ≤ 63
theorem PurseAt.up {H H' : Hp} {p : Addr} {n m : Nat} (h : PurseAt H p n) (hn : n ≤ m) (e : ∀ o, H p = some o → H' p = some o) : PurseAt H' p m := by
  obtain ⟨a, b, c, d, h1, h2, h3, h4, h5⟩ := h
  exact ⟨a, b, c, d, e _ h1, h2, h3, ⟨h4.1, Int.le_trans h4.2 (by omega)⟩, h5⟩
theorem PurseAt.some {H : Hp} {p : Addr} {n : Nat} (h : PurseAt H p n) : H p ≠ none := by
  obtain ⟨a, b, c, d, h1, _⟩ := h
  rw [h1]
  simp

/-! ### a step: from known G within H to known G' within H' -/
structure Gr (pu : Option Addr) (n : Nat) (G H G' H' : Hp) : Prop where
  g : Same G G'
  s : Same G' H'
  h : ∀ a o, pu ≠ some a → H a = some o → H' a = some o
  nw : ∀ a o, G' a = some o → G a = some o ∨ H a = none
  w : ∀ p, pu = some p → G' p = none ∧ PurseAt H' p n
section
variable {pu : Option Addr} {n m k : Nat} {G0 H0 G H G' H' : Hp}
theorem Gr.trans (a : Gr pu n G0 H0 G H) (b : Gr pu m G H G' H') : Gr pu m G0 H0 G' H' where
  g := a.g.trans b.g
  s := b.s
  h := fun x o hx e => b.h x o hx (a.h x o hx e)
  nw := fun x o e => by
    rcases b.nw x o e with z | z
    · exact a.nw x o z
    · right
      by_cases hp : pu = some x
      · rw [(b.w x hp).1] at e
        cases e
      · cases q : H0 x with
        | none => rfl
        | some u =>
          rw [a.h x u hp q] at z
          cases z
  w := b.w
/-- the end of a step, as a start -/
theorem Gr.here (a : Gr pu n G0 H0 G H) : Gr pu n G H G H := ⟨Same.refl _, a.s, fun _ _ _ e => e, fun _ _ e => .inl e, a.w⟩
theorem Gr.up (a : Gr pu n G0 H0 G H) (h : n ≤ m) : Gr pu m G0 H0 G H := ⟨a.g, a.s, a.h, a.nw, fun p e => ⟨(a.w p e).1, (a.w p e).2.up h fun _ z => z⟩⟩
/-- a new object, known from then on -/
theorem Gr.new (a : Gr pu n G0 H0 G H) {p : Addr} {o : HO} (hp : H p = none) : Gr pu n G H (upd G p o) (upd H p o) where
  g := fun b u e => by
    rw [upd_ne (ne_of_none (a.s _ _ e) hp)]
    exact e
  s := fun b u e => by
    by_cases hb : b = p
    · subst hb
      rw [upd_same] at e ⊢
      exact e
    · rw [upd_ne hb] at e ⊢
      exact a.s _ _ e
  h := fun b u _ e => by
    rw [upd_ne (ne_of_none e hp)]
    exact e
  nw := fun b u e => by
    by_cases hb : b = p
    · subst hb
      exact .inr hp
    · rw [upd_ne hb] at e
      exact .inl e
  w := fun q e => by
    have hq : q ≠ p := fun z => (a.w q e).2.some (by rw [z]; exact hp)
    refine ⟨by rw [upd_ne hq]; exact (a.w q e).1, (a.w q e).2.up (Nat.le_refl _) fun u z => by rw [upd_ne hq]; exact z⟩
/-- what a pure step leaves may be known again less -/
theorem Gr.fresh (a : Gr pu n G0 H0 G H) {p : Addr} (hp : H p = none) : G0 p = none := none_back a.g (none_back a.s hp)
theorem Gr.lift (a : Gr pu n G0 H0 G H) (b : Gr none k G H G' H') : Gr pu n G H G' H' where
  g := b.g
  s := b.s
  h := fun x o _ e => b.h x o (by simp) e
  nw := b.nw
  w := fun p e => by
    refine ⟨?_, (a.w p e).2.up (Nat.le_refl _) fun u z => b.h p u (by simp) z⟩
    cases q : G' p with
    | none => rfl
    | some u =>
      rcases b.nw p u q with z | z
      · rw [(a.w p e).1] at z
        cases z
      · exact absurd z (a.w p e).2.some
theorem Gr.pure (a : Gr pu n G0 H0 G H) : Gr none 0 G H G H := ⟨Same.refl _, a.s, fun _ _ _ e => e, fun _ _ e => .inl e, fun _ e => by cases e⟩
end

/-! ### environments -/
inductive Sl where
  | im (T : Ty)
  | ac (ds : List PyData)
abbrev Env' := List (Option Sl)
def SlOk (pu : Option Addr) (G0 H0 G H : Hp) (o : Option V) : Sl → Prop
  | .im T => ∃ v, o = some v ∧ T.p G0 v G
  | .ac ds => ∃ l vs, o = some (.ref l) ∧ H0 l = none ∧ G l = none ∧ pu ≠ some l ∧ H l = some (.lst vs) ∧ DqAll (fun _ => True) G vs ds
structure EnvOk (pu : Option Addr) (G0 H0 G H : Hp) (σ : St) (env : Env') : Prop where
  len : σ.length = env.length
  at_ : ∀ (i : Nat) s, env[i]? = some (some s) → ∃ o, σ[i]? = some o ∧ SlOk pu G0 H0 G H o s
  uq : ∀ (i j : Nat) ds es, env[i]? = some (some (.ac ds)) → env[j]? = some (some (.ac es)) → σ[i]? = σ[j]? → i = j
section
variable {pu : Option Addr} {n m k : Nat} {G0 H0 G H G' H' : Hp} {σ : St} {env : Env'}
theorem SlOk.keep {o : Option V} {s : Sl} (b : Gr pu n G H G' H') (h : SlOk pu G0 H0 G H o s) : SlOk pu G0 H0 G' H' o s := by
  cases s with
  | im T =>
    obtain ⟨v, e, h⟩ := h
    exact ⟨v, e, T.mono (Same.refl _) b.g h⟩
  | ac ds =>
    obtain ⟨l, vs, e, h0, hG, hp, hH, hd⟩ := h
    refine ⟨l, vs, e, h0, ?_, hp, b.h l _ hp hH, hd.mono b.g fun _ z => z⟩
    cases q : G' l with
    | none => rfl
    | some u =>
      rcases b.nw l u q with z | z
      · rw [hG] at z
        cases z
      · rw [hH] at z
        cases z
theorem EnvOk.keep (e : EnvOk pu G0 H0 G H σ env) (b : Gr pu n G H G' H') : EnvOk pu G0 H0 G' H' σ env :=
  ⟨e.len, fun i s h => let ⟨o, h1, h2⟩ := e.at_ i s h; ⟨o, h1, h2.keep b⟩, e.uq⟩
theorem EnvOk.setIm (e : EnvOk pu G0 H0 G H σ env) (i : Nat) {v : V} {T : Ty} (h : T.p G0 v G) : EnvOk pu G0 H0 G H (σ.set i (some v)) (env.set i (some (.im T))) := by
  refine ⟨by rw [List.length_set, List.length_set, e.len], fun j s hj => ?_, fun a b ds es ha hb hab => ?_⟩
  · by_cases hij : i = j
    · subst hij
      have hl : i < env.length := by
        have := (List.getElem?_eq_some_iff.mp hj).1
        rwa [List.length_set] at this
      rw [List.getElem?_set_self hl] at hj
      cases hj
      exact ⟨some v, List.getElem?_set_self (by rw [e.len]; exact hl), v, rfl, h⟩
    · rw [List.getElem?_set_ne hij] at hj ⊢
      exact e.at_ j s hj
  · have na : i ≠ a := fun z => by
      subst z
      have hl := (List.getElem?_eq_some_iff.mp ha).1
      rw [List.length_set] at hl
      rw [List.getElem?_set_self hl] at ha
      cases ha
    have nb : i ≠ b := fun z => by
      subst z
      have hl := (List.getElem?_eq_some_iff.mp hb).1
      rw [List.length_set] at hl
      rw [List.getElem?_set_self hl] at hb
      cases hb
    rw [List.getElem?_set_ne na] at ha hab
    rw [List.getElem?_set_ne nb] at hb hab
    exact e.uq a b ds es ha hb hab
theorem EnvOk.setNo (e : EnvOk pu G0 H0 G H σ env) (i : Nat) (o : Option V) : EnvOk pu G0 H0 G H (σ.set i o) (env.set i none) := by
  refine ⟨by rw [List.length_set, List.length_set, e.len], fun j s hj => ?_, fun a b ds es ha hb hab => ?_⟩
  · by_cases hij : i = j
    · subst hij
      have hl := (List.getElem?_eq_some_iff.mp hj).1
      rw [List.length_set] at hl
      rw [List.getElem?_set_self hl] at hj
      cases hj
    · rw [List.getElem?_set_ne hij] at hj ⊢
      exact e.at_ j s hj
  · have na : i ≠ a := fun z => by
      subst z
      have hl := (List.getElem?_eq_some_iff.mp ha).1
      rw [List.length_set] at hl
      rw [List.getElem?_set_self hl] at ha
      cases ha
    have nb : i ≠ b := fun z => by
      subst z
      have hl := (List.getElem?_eq_some_iff.mp hb).1
      rw [List.length_set] at hl
      rw [List.getElem?_set_self hl] at hb
      cases hb
    rw [List.getElem?_set_ne na] at ha hab
    rw [List.getElem?_set_ne nb] at hb hab
    exact e.uq a b ds es ha hb hab
theorem EnvOk.getIm (e : EnvOk pu G0 H0 G H σ env) {i : Nat} {T : Ty} (h : env[i]? = some (some (.im T))) : ∃ v, σ[i]? = some (some v) ∧ T.p G0 v G := by
  obtain ⟨o, h1, v, rfl, h2⟩ := e.at_ i _ h
  exact ⟨v, h1, h2⟩
theorem EnvOk.getAc (e : EnvOk pu G0 H0 G H σ env) {i : Nat} {ds : List PyData} (h : env[i]? = some (some (.ac ds))) :
    ∃ l vs, σ[i]? = some (some (.ref l)) ∧ H0 l = none ∧ G l = none ∧ pu ≠ some l ∧ H l = some (.lst vs) ∧ DqAll (fun _ => True) G vs ds := by
  obtain ⟨o, h1, l, vs, rfl, h2⟩ := e.at_ i _ h
  exact ⟨l, vs, h1, h2⟩
def wipeE (env : Env') : List Nat → Env'
  | [] => env
  | v :: vs => (wipeE env vs).set v none
theorem EnvOk.wipe (e : EnvOk pu G0 H0 G H σ env) : ∀ vs : List Nat, EnvOk pu G0 H0 G H (L2.wipe σ vs) (wipeE env vs)
  | [] => e
  | v :: vs => (EnvOk.wipe e vs).setNo v none
end
end Cp
set_option Elab.async false
set_option linter.all false
set_option maxRecDepth 100000
set_option maxHeartbeats 1000000
/-! D2: the judgements: expressions, arguments, tests, statements; calls and promises. -/
namespace Cp
open PySem L2

def Pu (pu : Option Addr) (n n' : Nat) (env : Env') (te : TE) (R : Ty) : Prop :=
  ∀ (G0 H0 : Hp) (σ : St) (G H : Hp), Gr pu n G0 H0 G H → EnvOk pu G0 H0 G H σ env → ∀ Q : VK, (∀ v G' H', Gr pu n' G H G' H' → R.p G0 v G' → Q v H') → te σ H Q
def PuA (pu : Option Addr) (n n' : Nat) (env : Env') (ta : TA) (Rs : List Ty) : Prop :=
  ∀ (G0 H0 : Hp) (σ : St) (G H : Hp), Gr pu n G0 H0 G H → EnvOk pu G0 H0 G H σ env → ∀ Q : List V → Hp → Prop, (∀ vs G' H', Gr pu n' G H G' H' → Tys G0 G' vs Rs → Q vs H') → ta σ H Q
def PuT (pu : Option Addr) (n n' : Nat) (env : Env') (tt : TT) (B : Bool → Prop) : Prop :=
  ∀ (G0 H0 : Hp) (σ : St) (G H : Hp), Gr pu n G0 H0 G H → EnvOk pu G0 H0 G H σ env → ∀ Q : Bool → Hp → Prop, (∀ b G' H', Gr pu n' G H G' H' → B b → Q b H') → tt σ H Q
def PuO (pu : Option Addr) (n n' : Nat) (env : Env') (to : TO) (B : Option Int → Prop) : Prop :=
  ∀ (G0 H0 : Hp) (σ : St) (G H : Hp), Gr pu n G0 H0 G H → EnvOk pu G0 H0 G H σ env → ∀ Q : Option Int → Hp → Prop, (∀ b G' H', Gr pu n' G H G' H' → B b → Q b H') → to σ H Q
/-- an operation on values of types; a call on values -/
def RV (r : L2.R2) (T1 T2 R : Ty) : Prop := ∀ (pu : Option Addr) (n : Nat) (G0 G H : Hp) (x y : V), Gr pu n G H G H → Same G0 G → T1.p G0 x G → T2.p G0 y G → ∀ Q : VK, (∀ v G' H', Gr pu n G H G' H' → R.p G0 v G' → Q v H') → r x y H Q
def RC (r : List V → Hp → VK → Prop) (Rs : List Ty) (R : Ty) : Prop := ∀ (pu : Option Addr) (n : Nat) (G0 G H : Hp) (vs : List V), Gr pu n G H G H → Same G0 G → Tys G0 G vs Rs → ∀ Q : VK, (∀ v G' H', Gr pu n G H G' H' → R.p G0 v G' → Q v H') → r vs H Q

section
variable {pu : Option Addr} {n n1 n2 n3 m : Nat} {env : Env'} {ta tb te : TE} {t u : TT} {R T1 T2 R' : Ty}
theorem Pu.le (h : Pu pu n n1 env te R) (l : R.le R') : Pu pu n n1 env te R' := fun G0 H0 σ G H a e Q q => h G0 H0 σ G H a e Q fun v G' H' b r => q v G' H' b (l _ _ _ r)
theorem Pu.up (h : Pu pu n n1 env te R) (l : n1 ≤ m) : Pu pu n m env te R := fun G0 H0 σ G H a e Q q => h G0 H0 σ G H a e Q fun v G' H' b r => q v G' H' (b.up l) r
theorem pu_var {i : Nat} {T : Ty} (h : env[i]? = some (some (.im T))) : Pu pu n n env (tVar i) T := fun G0 H0 σ G H a e Q q => by
  obtain ⟨v, hv, ht⟩ := e.getIm h
  exact ⟨v, hv, q v G H a.here ht⟩
theorem pu_c {v : V} : Pu pu n n env (tC v) (Vv v) := fun G0 H0 σ G H a e Q q => q v G H a.here rfl
theorem pu_int {i : Int} : Pu pu n n env (tC (.int i)) (D (.int i)) := fun G0 H0 σ G H a e Q q => q _ G H a.here (.int i)
theorem pu_str {x : Str} : Pu pu n n env (tC (.str x)) (D (.str x)) := fun G0 H0 σ G H a e Q q => q _ G H a.here (.str x)
theorem pu_bl {b : Bool} : Pu pu n n env (tC (.bl b)) (D (.bool b)) := fun G0 H0 σ G H a e Q q => q _ G H a.here (.bl b)
theorem pu_non : Pu pu n n env (tC .non) (D .none) := fun G0 H0 σ G H a e Q q => q _ G H a.here .non
theorem pu_op {r : L2.R2} (ha : Pu pu n n1 env ta T1) (hb : Pu pu n1 n2 env tb T2) (hr : RV r T1 T2 R) : Pu pu n n2 env (tOp r ta tb) R := fun G0 H0 σ G H a e Q q =>
  ha G0 H0 σ G H a e _ fun x G1 S1 b1 r1 => hb G0 H0 σ G1 S1 (a.trans b1) (e.keep b1) _ fun y G2 S2 b2 r2 => hr pu n2 G0 G2 S2 x y b2.here ((a.trans b1).trans b2).g (T1.mono (Same.refl _) b2.g r1) r2 Q fun v G3 S3 b3 r3 => q v G3 S3 ((b1.trans b2).trans b3) r3
theorem pa_n : PuA pu n n env tNil [] := fun G0 H0 σ G H a e Q q => q [] G H a.here trivial
theorem pa_c {tr : TA} {Rs : List Ty} (ha : Pu pu n n1 env ta R) (hr : PuA pu n1 n2 env tr Rs) : PuA pu n n2 env (tCons ta tr) (R :: Rs) := fun G0 H0 σ G H a e Q q =>
  ha G0 H0 σ G H a e _ fun x G1 S1 b1 r1 => hr G0 H0 σ G1 S1 (a.trans b1) (e.keep b1) _ fun ys G2 S2 b2 r2 => q (x :: ys) G2 S2 (b1.trans b2) ⟨R.mono (Same.refl _) b2.g r1, r2⟩
theorem pu_cb {r : List V → Hp → VK → Prop} {tr : TA} {Rs : List Ty} (ha : PuA pu n n1 env tr Rs) (hr : RC r Rs R) : Pu pu n n1 env (tCB r tr) R := fun G0 H0 σ G H a e Q q =>
  ha G0 H0 σ G H a e _ fun vs G1 S1 b1 r1 => hr pu n1 G0 G1 S1 vs b1.here (a.trans b1).g r1 Q fun v G3 S3 b3 r3 => q v G3 S3 (b1.trans b3) r3
theorem pu_lst {tr : TA} {Rs : List Ty} (ha : PuA pu n n1 env tr Rs) (hz : Rs.length ≤ 10000) : Pu pu n n1 env (tLst tr) (Ln Rs) := fun G0 H0 σ G H a e Q q =>
  ha G0 H0 σ G H a e _ fun vs G1 S1 b1 r1 => ⟨by rw [r1.len]; exact Nat.le_trans hz (by decide), fun p hp => q _ _ _ (b1.trans (b1.new hp)) ⟨p, vs, rfl, (a.trans b1).fresh hp, upd_same, r1.mono (Same.refl _) (b1.new (o := .lst vs) hp).g⟩⟩
theorem pu_tup {tr : TA} {Rs : List Ty} (ha : PuA pu n n1 env tr Rs) (hz : Rs.length ≤ 10000) : Pu pu n n1 env (tTup tr) (Tn Rs) := fun G0 H0 σ G H a e Q q =>
  ha G0 H0 σ G H a e _ fun vs G1 S1 b1 r1 => ⟨by rw [r1.len]; exact Nat.le_trans hz (by decide), fun p hp => q _ _ _ (b1.trans (b1.new hp)) ⟨p, vs, rfl, (a.trans b1).fresh hp, upd_same, r1.mono (Same.refl _) (b1.new (o := .tup vs) hp).g⟩⟩
/-! tests -/
theorem PuT.imp {B B' : Bool → Prop} (h : PuT pu n n1 env t B) (l : ∀ b, B b → B' b) : PuT pu n n1 env t B' := fun G0 H0 σ G H a e Q q => h G0 H0 σ G H a e Q fun v G' H' b r => q v G' H' b (l _ r)
theorem dq_bool {P : Addr → Prop} {G : Hp} {v : V} {b : Bool} (h : Dq P G v (.bool b)) : v = .bl b := by cases h; rfl
theorem dq_int {P : Addr → Prop} {G : Hp} {v : V} {b : Int} (h : Dq P G v (.int b)) : v = .int b := by cases h; rfl
theorem dq_str {P : Addr → Prop} {G : Hp} {v : V} {b : Str} (h : Dq P G v (.str b)) : v = .str b := by cases h; rfl
theorem dq_non {P : Addr → Prop} {G : Hp} {v : V} (h : Dq P G v .none) : v = .non := by cases h; rfl
theorem dq_list {P : Addr → Prop} {G : Hp} {v : V} {ds : List PyData} (h : Dq P G v (.list ds)) : ∃ a xs, v = .ref a ∧ P a ∧ G a = some (.lst xs) ∧ DqAll P G xs ds := by
  cases h with
  | lst p h t => exact ⟨_, _, rfl, p, h, t⟩
theorem dq_tup {P : Addr → Prop} {G : Hp} {v : V} {ds : List PyData} (h : Dq P G v (.tuple ds)) : ∃ a xs, v = .ref a ∧ P a ∧ G a = some (.tup xs) ∧ DqAll P G xs ds := by
  cases h with
  | tup p h t => exact ⟨_, _, rfl, p, h, t⟩
theorem qt_test {b : Bool} (h : Pu pu n n1 env te (D (.bool b))) : PuT pu n n1 env (tTest te) (· = b) := fun G0 H0 σ G H a e Q q => h G0 H0 σ G H a e _ fun v G' H' g r => ⟨b, dq_bool r, q b G' H' g rfl⟩
theorem qt_B {b : Bool} (h : Pu pu n n1 env te (D (.bool b))) : PuT pu n n1 env (tB te) (· = b) := fun G0 H0 σ G H a e Q q => h G0 H0 σ G H a e _ fun v G' H' g r => ⟨b, dq_bool r, q b G' H' g rfl⟩
theorem qt_testX {B : Bool → Prop} (h : Pu pu n n1 env te (Ex fun b => Wh (B b) (D (.bool b)))) : PuT pu n n1 env (tTest te) B := fun G0 H0 σ G H a e Q q => h G0 H0 σ G H a e _ fun v G' H' g ⟨b, hb, r⟩ => ⟨b, dq_bool r, q b G' H' g hb⟩
theorem qt_BX {B : Bool → Prop} (h : Pu pu n n1 env te (Ex fun b => Wh (B b) (D (.bool b)))) : PuT pu n n1 env (tB te) B := fun G0 H0 σ G H a e Q q => h G0 H0 σ G H a e _ fun v G' H' g ⟨b, hb, r⟩ => ⟨b, dq_bool r, q b G' H' g hb⟩
theorem PuT.up {B : Bool → Prop} (h : PuT pu n n1 env t B) (l : n1 ≤ m) : PuT pu n m env t B := fun G0 H0 σ G H a e Q q => h G0 H0 σ G H a e Q fun v G' H' b r => q v G' H' (b.up l) r
theorem qt_and {a b : Bool} (h1 : PuT pu n n1 env t (· = a)) (h2 : a = true → PuT pu n1 n1 env u (· = b)) : PuT pu n n1 env (tAnd t u) (· = (a && b)) := fun G0 H0 σ G H g e Q q => h1 G0 H0 σ G H g e _ fun c G1 S1 g1 hc => by
  subst hc
  cases c with
  | true => exact h2 rfl G0 H0 σ G1 S1 (g.trans g1) (e.keep g1) Q fun b' G2 S2 g2 hb => q b' G2 S2 (g1.trans g2) (by rw [hb]; rfl)
  | false => exact q false G1 S1 g1 rfl
theorem qt_or {a b : Bool} (h1 : PuT pu n n1 env t (· = a)) (h2 : a = false → PuT pu n1 n1 env u (· = b)) : PuT pu n n1 env (tOr t u) (· = (a || b)) := fun G0 H0 σ G H g e Q q => h1 G0 H0 σ G H g e _ fun c G1 S1 g1 hc => by
  subst hc
  cases c with
  | true => exact q true G1 S1 g1 rfl
  | false => exact h2 rfl G0 H0 σ G1 S1 (g.trans g1) (e.keep g1) Q fun b' G2 S2 g2 hb => q b' G2 S2 (g1.trans g2) (by rw [hb]; rfl)
theorem qt_not {a : Bool} (h1 : PuT pu n n1 env t (· = a)) : PuT pu n n1 env (tNot t) (· = !a) := fun G0 H0 σ G H g e Q q => h1 G0 H0 σ G H g e _ fun c G1 S1 g1 hc => by
  subst hc
  exact q _ G1 S1 g1 rfl
/-! the same with any outcomes, budgets running on -/
theorem qt_orX {A B C : Bool → Prop} (h1 : PuT pu n n1 env t A) (h2 : A false → PuT pu n1 n2 env u B) (hl : n1 ≤ n2) (ht : A true → C true) (hf : ∀ b, A false → B b → C b) : PuT pu n n2 env (tOr t u) C := fun G0 H0 σ G H g e Q q => h1 G0 H0 σ G H g e _ fun c G1 S1 g1 hc => by
  cases c with
  | true => exact q true G1 S1 (g1.up hl) (ht hc)
  | false => exact h2 hc G0 H0 σ G1 S1 (g.trans g1) (e.keep g1) Q fun b' G2 S2 g2 hb => q b' G2 S2 (g1.trans g2) (hf b' hc hb)
/-! truth values as values -/
theorem pu_andV {a b : Bool} (h1 : Pu pu n n1 env ta (D (.bool a))) (h2 : a = true → Pu pu n1 n1 env tb (D (.bool b))) : Pu pu n n1 env (tAndV ta tb) (D (.bool (a && b))) := fun G0 H0 σ G H g e Q q => h1 G0 H0 σ G H g e _ fun v G1 S1 g1 r => ⟨a, dq_bool r, by
  cases a with
  | true => exact h2 rfl G0 H0 σ G1 S1 (g.trans g1) (e.keep g1) Q fun b' G2 S2 g2 hb => q b' G2 S2 (g1.trans g2) hb
  | false => exact q _ G1 S1 g1 (.bl false)⟩
theorem pu_orV {a b : Bool} (h1 : Pu pu n n1 env ta (D (.bool a))) (h2 : a = false → Pu pu n1 n1 env tb (D (.bool b))) : Pu pu n n1 env (tOrV ta tb) (D (.bool (a || b))) := fun G0 H0 σ G H g e Q q => h1 G0 H0 σ G H g e _ fun v G1 S1 g1 r => ⟨a, dq_bool r, by
  cases a with
  | true => exact q _ G1 S1 g1 (.bl true)
  | false => exact h2 rfl G0 H0 σ G1 S1 (g.trans g1) (e.keep g1) Q fun b' G2 S2 g2 hb => q b' G2 S2 (g1.trans g2) hb⟩
theorem pu_notV {a : Bool} (h1 : Pu pu n n1 env ta (D (.bool a))) : Pu pu n n1 env (tNotV ta) (D (.bool (!a))) := fun G0 H0 σ G H g e Q q => h1 G0 H0 σ G H g e _ fun v G1 S1 g1 r => ⟨a, dq_bool r, q _ G1 S1 g1 (.bl _)⟩
theorem pu_if {B : Bool → Prop} (h : PuT pu n n1 env t B) (h1 : B true → Pu pu n1 n2 env ta R) (h2 : B false → Pu pu n1 n2 env tb R) : Pu pu n n2 env (tIf t ta tb) R := fun G0 H0 σ G H g e Q q => h G0 H0 σ G H g e _ fun c G1 S1 g1 hc => by
  cases c with
  | true => exact h1 hc G0 H0 σ G1 S1 (g.trans g1) (e.keep g1) Q fun b' G2 S2 g2 hb => q b' G2 S2 (g1.trans g2) hb
  | false => exact h2 hc G0 H0 σ G1 S1 (g.trans g1) (e.keep g1) Q fun b' G2 S2 g2 hb => q b' G2 S2 (g1.trans g2) hb
/-! parts of a slice -/
theorem po_n : PuO pu n n env tNoPart (· = none) := fun G0 H0 σ G H a e Q q => q none G H a.here rfl
theorem po_s {i : Int} (h : Pu pu n n1 env te (D (.int i))) : PuO pu n n1 env (tPart te) (· = some i) := fun G0 H0 σ G H a e Q q => h G0 H0 σ G H a e _ fun v G' H' b r => ⟨i, dq_int r, q _ G' H' b rfl⟩
theorem po_sX {B : Int → Prop} (h : Pu pu n n1 env te (Ex fun i => Wh (B i) (D (.int i)))) : PuO pu n n1 env (tPart te) (fun o => ∃ i, o = some i ∧ B i) := fun G0 H0 σ G H a e Q q => h G0 H0 σ G H a e _ fun v G' H' b ⟨i, hi, r⟩ => ⟨i, dq_int r, q _ G' H' b ⟨i, rfl, hi⟩⟩
end

/-! ### statements -/
structure Out where
  nx : Nat → Env' → Prop
  bk : Nat → Env' → Prop := fun _ _ => False
  ct : Nat → Env' → Prop := fun _ _ => False
  m : Nat
  rt : Ty
def Sj (pu : Option Addr) (n : Nat) (env : Env') (t : TS) (O : Out) : Prop :=
  ∀ (G0 H0 : Hp) (σ : St) (G H : Hp), Gr pu n G0 H0 G H → EnvOk pu G0 H0 G H σ env → ∀ E : Ends,
    (∀ n' env' σ' G' H', O.nx n' env' → Gr pu n' G0 H0 G' H' → Same G G' → EnvOk pu G0 H0 G' H' σ' env' → E.nx σ' H') →
    (∀ n' env' σ' G' H', O.bk n' env' → Gr pu n' G0 H0 G' H' → Same G G' → EnvOk pu G0 H0 G' H' σ' env' → E.bk σ' H') →
    (∀ n' env' σ' G' H', O.ct n' env' → Gr pu n' G0 H0 G' H' → Same G G' → EnvOk pu G0 H0 G' H' σ' env' → E.ct σ' H') →
    (∀ v G' H', Gr pu O.m G0 H0 G' H' → O.rt.p G0 v G' → E.rt v H') → t E σ H
section
variable {pu : Option Addr} {n n1 n2 n3 m : Nat} {env : Env'} {ta tb te : TE} {tt : TT} {t u : TS} {R T1 T2 R' : Ty} {O : Out}
theorem sj_seq (h : Sj pu n env t { O with nx := fun n' e' => Sj pu n' e' u O }) : Sj pu n env (tSeq t u) O := fun G0 H0 σ G H a e E h1 h2 h3 h4 =>
  h G0 H0 σ G H a e { E with nx := u E } (fun n' env' σ' G' H' w a' s' e' => w G0 H0 σ' G' H' a' e' E (fun n2 v2 σ2 G2 H2 w2 a2 s2 e2 => h1 n2 v2 σ2 G2 H2 w2 a2 (s'.trans s2) e2)
    (fun n2 v2 σ2 G2 H2 w2 a2 s2 e2 => h2 n2 v2 σ2 G2 H2 w2 a2 (s'.trans s2) e2) (fun n2 v2 σ2 G2 H2 w2 a2 s2 e2 => h3 n2 v2 σ2 G2 H2 w2 a2 (s'.trans s2) e2) h4) h2 h3 h4
/-- from a state that has grown -/
theorem Sj.grown {G0 H0 G G1 H1 : Hp} {σ : St} {E : Ends} (h : Sj pu n env t O) (s : Same G G1) (a : Gr pu n G0 H0 G1 H1) (e : EnvOk pu G0 H0 G1 H1 σ env)
    (h1 : ∀ n' env' σ' G' H', O.nx n' env' → Gr pu n' G0 H0 G' H' → Same G G' → EnvOk pu G0 H0 G' H' σ' env' → E.nx σ' H')
    (h2 : ∀ n' env' σ' G' H', O.bk n' env' → Gr pu n' G0 H0 G' H' → Same G G' → EnvOk pu G0 H0 G' H' σ' env' → E.bk σ' H')
    (h3 : ∀ n' env' σ' G' H', O.ct n' env' → Gr pu n' G0 H0 G' H' → Same G G' → EnvOk pu G0 H0 G' H' σ' env' → E.ct σ' H')
    (h4 : ∀ v G' H', Gr pu O.m G0 H0 G' H' → O.rt.p G0 v G' → E.rt v H') : t E σ H1 :=
  h G0 H0 σ G1 H1 a e E (fun n2 v2 σ2 G2 H2 w2 a2 s2 e2 => h1 n2 v2 σ2 G2 H2 w2 a2 (s.trans s2) e2) (fun n2 v2 σ2 G2 H2 w2 a2 s2 e2 => h2 n2 v2 σ2 G2 H2 w2 a2 (s.trans s2) e2) (fun n2 v2 σ2 G2 H2 w2 a2 s2 e2 => h3 n2 v2 σ2 G2 H2 w2 a2 (s.trans s2) e2) h4
theorem sj_asg {i : Nat} (h : Pu pu n n1 env te R) (k : O.nx n1 (env.set i (some (.im R)))) : Sj pu n env (tAsg te (gName i)) O := fun G0 H0 σ G H a e E h1 _ _ _ =>
  h G0 H0 σ G H a e _ fun v G' H' b r => h1 _ _ _ G' H' k (a.trans b) b.g ((e.keep b).setIm i r)
/-- what is known to be one of many is one of them -/
theorem sj_asgX {ι : Type} {f : ι → Ty} {i : Nat} (h : Pu pu n n1 env te (Ex f)) (k : ∀ x, O.nx n1 (env.set i (some (.im (f x))))) : Sj pu n env (tAsg te (gName i)) O := fun G0 H0 σ G H a e E h1 _ _ _ =>
  h G0 H0 σ G H a e _ fun v G' H' b ⟨x, r⟩ => h1 _ _ _ G' H' (k x) (a.trans b) b.g ((e.keep b).setIm i r)
theorem set_same {i : Nat} {v : V} {σ : St} (hv : σ[i]? = some (some v)) : σ.set i (some v) = σ := by
  have hl := (List.getElem?_eq_some_iff.mp hv)
  exact List.ext_getElem? fun j => by
    by_cases hj : i = j
    · subst hj
      rw [List.getElem?_set_self hl.1, hv]
    · rw [List.getElem?_set_ne hj]
theorem sj_openX {ι : Type} {f : ι → Ty} (i : Nat) (hi : env[i]? = some (some (.im (Ex f)))) (k : ∀ x, Sj pu n (env.set i (some (.im (f x)))) t O) : Sj pu n env t O := fun G0 H0 σ G H a e E h1 h2 h3 h4 => by
  obtain ⟨v, hv, x, hx⟩ := e.getIm hi
  have e2 := e.setIm i (v := v) (T := f x) hx
  rw [set_same hv] at e2
  exact k x G0 H0 σ G H a e2 E h1 h2 h3 h4
theorem sj_openW {q : Prop} {T : Ty} (i : Nat) (hi : env[i]? = some (some (.im (Wh q T)))) (k : q → Sj pu n (env.set i (some (.im T))) t O) : Sj pu n env t O := fun G0 H0 σ G H a e E h1 h2 h3 h4 => by
  obtain ⟨v, hv, hq, hx⟩ := e.getIm hi
  have e2 := e.setIm i (v := v) (T := T) hx
  rw [set_same hv] at e2
  exact k hq G0 H0 σ G H a e2 E h1 h2 h3 h4
theorem sj_ret (h : Pu pu n n1 env te R) (hR : R.le O.rt) (hm : n1 ≤ O.m := by first | exact Nat.le_refl _ | omega) : Sj pu n env (tRet te) O := fun G0 H0 σ G H a e E _ _ _ h4 =>
  h G0 H0 σ G H a e _ fun v G' H' b r => h4 v G' H' ((a.trans b).up hm) (hR _ _ _ r)
theorem sj_if {B : Bool → Prop} (h : PuT pu n n1 env tt B) (h1 : B true → Sj pu n1 env t O) (h2 : B false → Sj pu n1 env u O) : Sj pu n env (tIfS tt t u) O := fun G0 H0 σ G H a e E k1 k2 k3 k4 =>
  h G0 H0 σ G H a e _ fun c G1 S1 g1 hc => by
    cases c with
    | true => exact (h1 hc).grown g1.g (a.trans g1) (e.keep g1) k1 k2 k3 k4
    | false => exact (h2 hc).grown g1.g (a.trans g1) (e.keep g1) k1 k2 k3 k4
theorem sj_next (k : O.nx n env) : Sj pu n env tNext O := fun G0 H0 σ G H a e E k1 _ _ _ => k1 _ _ _ G H k a (Same.refl _) e
theorem sj_drop (h : Pu pu n n1 env te R) (k : O.nx n1 env) : Sj pu n env (tDrop te) O := fun G0 H0 σ G H a e E h1 _ _ _ =>
  h G0 H0 σ G H a e _ fun v G' H' b r => h1 _ _ _ G' H' k (a.trans b) b.g (e.keep b)
/-- two names at once -/
theorem sj_par {i j : Nat} {tx : TA} (h : PuA pu n n1 env tx [T1, T2]) (k : O.nx n1 ((env.set i (some (.im T1))).set j (some (.im T2)))) : Sj pu n env (tPar i j tx) O := fun G0 H0 σ G H a e E h1 _ _ _ =>
  h G0 H0 σ G H a e _ fun vs G' H' b r => by
    match vs, r with
    | [v, w], r => exact ⟨v, w, rfl, h1 _ _ _ G' H' k (a.trans b) b.g (((e.keep b).setIm i r.1).setIm j r.2.1)⟩
theorem Sj.up (h : Sj pu n env t O) (hm : m ≤ n) : Sj pu m env t O := fun G0 H0 σ G H a e E k1 k2 k3 k4 => h G0 H0 σ G H (a.up hm) e E k1 k2 k3 k4
/-- less is known of a slot -/
theorem EnvOk.forget {G0 H0 G H : Hp} {σ : St} (i : Nat) (e : EnvOk pu G0 H0 G H σ env) : EnvOk pu G0 H0 G H σ (env.set i none) := by
  refine ⟨by rw [List.length_set]; exact e.len, fun j s hj => ?_, fun x y ds es hx hy hxy => ?_⟩
  · by_cases hij : i = j
    · subst hij
      have hl := (List.getElem?_eq_some_iff.mp hj).1
      rw [List.length_set] at hl
      rw [List.getElem?_set_self hl] at hj
      cases hj
    · rw [List.getElem?_set_ne hij] at hj
      exact e.at_ j s hj
  · have nx : i ≠ x := fun z => by
      subst z
      have hl := (List.getElem?_eq_some_iff.mp hx).1
      rw [List.length_set] at hl
      rw [List.getElem?_set_self hl] at hx
      cases hx
    have ny : i ≠ y := fun z => by
      subst z
      have hl := (List.getElem?_eq_some_iff.mp hy).1
      rw [List.length_set] at hl
      rw [List.getElem?_set_self hl] at hy
      cases hy
    rw [List.getElem?_set_ne nx] at hx
    rw [List.getElem?_set_ne ny] at hy
    exact e.uq x y ds es hx hy hxy
theorem sj_forget (i : Nat) (h : Sj pu n (env.set i none) t O) : Sj pu n env t O := fun G0 H0 σ G H a e E k1 k2 k3 k4 => h G0 H0 σ G H a (e.forget i) E k1 k2 k3 k4
end

/-! ### promises -/
def Prm {ι : Type} (pu : ι → Option Addr) (n n' : ι → Nat) (P : ι → Prop) (As : ι → List Ty) (Rt : ι → Ty) : Sp := fun vs H Q _ => ∃ i, P i ∧ ∃ G, Gr (pu i) (n i) G H G H ∧ Tys G G vs (As i) ∧
  ∀ v G' H', Gr (pu i) (n' i) G H G' H' → (Rt i).p G v G' → Q v H'
/-- a promise of a def that touches no purse -/
abbrev Prp {ι : Type} (P : ι → Prop) (As : ι → List Ty) (Rt : ι → Ty) : Sp := Prm (fun _ => none) (fun _ => 0) (fun _ => 0) P As Rt
theorem prm_len {ι : Type} {pu : ι → Option Addr} {n n' : ι → Nat} {P : ι → Prop} {As : ι → List Ty} {Rt : ι → Ty} {k : Nat} (h : ∀ i, (As i).length = k) : ∀ vs H Q E, Prm pu n n' P As Rt vs H Q E → vs.length = k := fun vs H Q E ⟨i, _, G, _, t, _⟩ => by
  rw [t.len, h i]
def env0 (k : Nat) (As : List Ty) : Env' := As.map (fun T => some (.im T)) ++ List.replicate (k - As.length) none
theorem env0_ok {pu : Option Addr} {G H : Hp} {vs : List V} {As : List Ty} {N : List Str} (t : Tys G G vs As) : EnvOk pu G H G H (L2.start N vs) (env0 N.length As) := by
  have hl := t.len
  refine ⟨?_, fun i s h => ?_, fun i j ds es h1 h2 _ => ?_⟩
  · unfold L2.start env0
    rw [List.length_append, List.length_append, List.length_map, List.length_map, List.length_replicate, List.length_replicate, hl]
  · unfold env0 at h
    unfold L2.start
    by_cases hi : i < As.length
    · rw [List.getElem?_append_left (by rw [List.length_map]; exact hi), List.getElem?_map] at h
      rw [List.getElem?_append_left (by rw [List.length_map, hl]; exact hi), List.getElem?_map]
      cases q : As[i]? with
      | none => rw [q] at h; cases h
      | some T =>
        rw [q] at h
        cases h
        obtain ⟨v, hv, hT⟩ := t.at_ q
        rw [hv]
        exact ⟨some v, rfl, v, rfl, hT⟩
    · rw [List.getElem?_append_right (by rw [List.length_map]; omega), List.getElem?_replicate] at h
      split at h <;> cases h
  · exfalso
    unfold env0 at h1
    by_cases hi : i < As.length
    · rw [List.getElem?_append_left (by rw [List.length_map]; exact hi), List.getElem?_map] at h1
      cases q : As[i]? with
      | none => rw [q] at h1; cases h1
      | some T => rw [q] at h1; cases h1
    · rw [List.getElem?_append_right (by rw [List.length_map]; omega), List.getElem?_replicate] at h1
      split at h1 <;> cases h1
/-- a def's body, from its judgement -/
theorem fn_prm {ι : Type} {pu : ι → Option Addr} {n n' : ι → Nat} {P : ι → Prop} {As : ι → List Ty} {Rt : ι → Ty} {N : List Str} {t : TS} {vs : List V} {H : Hp} {Q : VK} {E : XK} (h : Prm pu n n' P As Rt vs H Q E)
    (b : ∀ i, P i → Sj (pu i) (n i) (env0 N.length (As i)) t { nx := fun k _ => k ≤ n' i ∧ (∀ G0 G, (Rt i).p G0 .non G), m := n' i, rt := Rt i }) : t { nx := fun _ H' => Q .non H', rt := Q } (L2.start N vs) H := by
  obtain ⟨i, hP, G, g, ty, k⟩ := h
  exact b i hP G H (L2.start N vs) G H g (env0_ok ty) _ (fun m e σ' G' H' ⟨hm, hr⟩ a _ _ => k _ G' H' (a.up hm) (hr _ _)) (fun _ _ _ _ _ z => z.elim) (fun _ _ _ _ _ z => z.elim) fun v G' H' a r => k v G' H' a r
section
variable {pu : Option Addr} {n n1 n2 m : Nat} {env : Env'}
/-- a call of a def that touches no purse -/
theorem pu_call {ι : Type} {P : ι → Prop} {As : ι → List Ty} {Rt : ι → Ty} {tr : TA} {Rs : List Ty} {E : XK} {R : Ty} (ha : PuA pu n n1 env tr Rs)
    (hs : ∀ G0 G vs, Tys G0 G vs Rs → ∃ i, P i ∧ Tys G G vs (As i) ∧ (Rt i).le R) : Pu pu n n1 env (tCall (Prp P As Rt) [] E tr) R := fun G0 H0 σ G H a e Q q =>
  ha G0 H0 σ G H a e _ fun vs G1 S1 b1 r1 => by
    obtain ⟨i, hP, ty, hR⟩ := hs G0 G1 vs r1
    rw [List.append_nil]
    exact ⟨i, hP, G1, b1.pure, ty, fun v G' H' g r => q v G' H' (b1.trans (b1.lift g)) (R.mono ((a.trans b1).g) (Same.refl _) (hR _ _ _ r))⟩
/-- a call of a def that draws -/
theorem pu_callP {ι : Type} {pn : ι → Option Addr} {k k' : ι → Nat} {P : ι → Prop} {As : ι → List Ty} {Rt : ι → Ty} {tr : TA} {Rs : List Ty} {E : XK} {R : Ty} (ha : PuA pu n n1 env tr Rs)
    (hs : ∀ G0 G vs, Tys G0 G vs Rs → ∃ i, P i ∧ pn i = pu ∧ n1 ≤ k i ∧ k' i ≤ n2 ∧ Tys G G vs (As i) ∧ (Rt i).le R) : Pu pu n n2 env (tCall (Prm pn k k' P As Rt) [] E tr) R := fun G0 H0 σ G H a e Q q =>
  ha G0 H0 σ G H a e _ fun vs G1 S1 b1 r1 => by
    obtain ⟨i, hP, hp, hk, hk', ty, hR⟩ := hs G0 G1 vs r1
    rw [List.append_nil]
    refine ⟨i, hP, G1, ?_, ty, fun v G' H' g r => ?_⟩
    · rw [hp]
      exact (b1.up hk).here
    · rw [hp] at g
      exact q v G' H' (b1.trans (g.up hk')) (R.mono ((a.trans b1).g) (Same.refl _) (hR _ _ _ r))
theorem tys1 {G0 G : Hp} {vs : List V} {T : Ty} (h : Tys G0 G vs [T]) : ∃ v, vs = [v] ∧ T.p G0 v G := by
  match vs, h with
  | [v], h => exact ⟨v, rfl, h.1⟩
theorem tys2 {G0 G : Hp} {vs : List V} {T U : Ty} (h : Tys G0 G vs [T, U]) : ∃ v w, vs = [v, w] ∧ T.p G0 v G ∧ U.p G0 w G := by
  match vs, h with
  | [v, w], h => exact ⟨v, w, rfl, h.1, h.2.1⟩
/-- arguments by subtypes -/
def Subs : List Ty → List Ty → Prop
  | [], [] => True
  | T :: Ts, U :: Us => T.sub U ∧ Subs Ts Us
  | _, _ => False
theorem subs_ok {G0 G : Hp} : ∀ {Ts Us : List Ty} {vs : List V}, Subs Ts Us → Tys G0 G vs Ts → Tys G G vs Us
  | [], [], [], _, _ => trivial
  | _ :: _, _ :: _, _ :: _, s, h => ⟨s.1 _ _ _ h.1, subs_ok s.2 h.2⟩
  | [], [], _ :: _, _, h => h.elim
  | _ :: _, _ :: _, [], _, h => h.elim
  | [], _ :: _, _, s, _ => s.elim
  | _ :: _, [], _, s, _ => s.elim
theorem pu_call1 {ι : Type} {P : ι → Prop} {As : ι → List Ty} {Rt : ι → Ty} {tr : TA} {Rs : List Ty} {E : XK} (i : ι) (hP : P i) (ha : PuA pu n n1 env tr Rs) (hs : Subs Rs (As i)) : Pu pu n n1 env (tCall (Prp P As Rt) [] E tr) (Rt i) :=
  pu_call ha fun _ _ _ ty => ⟨i, hP, subs_ok hs ty, Ty.le.rfl'⟩
theorem pu_callP1 {ι : Type} {pn : ι → Option Addr} {k k' : ι → Nat} {P : ι → Prop} {As : ι → List Ty} {Rt : ι → Ty} {tr : TA} {Rs : List Ty} {E : XK} (i : ι) (hP : P i) (hp : pn i = pu) (hk : n1 ≤ k i) (ha : PuA pu n n1 env tr Rs) (hs : Subs Rs (As i)) : Pu pu n (k' i) env (tCall (Prm pn k k' P As Rt) [] E tr) (Rt i) :=
  pu_callP ha fun _ _ _ ty => ⟨i, hP, hp, hk, Nat.le_refl _, subs_ok hs ty, Ty.le.rfl'⟩
end
end Cp
set_option Elab.async false
set_option linter.all false
set_option maxRecDepth 100000
set_option maxHeartbeats 1000000
/-! D3: operators, subscripts, slices, calls of built-ins, by data. -/
namespace Cp
open PySem L2

theorem small_line {n : Nat} (h : n ≤ 10000) : n ≤ sizeLine := Nat.le_trans h (by decide)
theorem small_lt {n : Nat} (h : n < 10000) : n < sizeLine := Nat.lt_of_lt_of_le h (by decide)
abbrev rAddI : L2.R2 := rI0 fun i j => .int (i + j)
abbrev rAddS : L2.R2 := fun x y H Q => ∃ i j, x = .str i ∧ y = .str j ∧ i.length + j.length ≤ sizeLine ∧ Q (.str (i ++ j)) H
/-- + of ints, lists, texts -/
def rPlus : L2.R2 := fun x y H Q => rAddI x y H Q ∨ (rCat x y H Q ∨ rAddS x y H Q)
def rMinus : L2.R2 := rI0 fun i j => .int (i - j)
section
variable {X : Cx}
theorem op_plus : OpR X (binaryOp .Add) rPlus := OpR.or op_add (OpR.or op_cat op_add_str)
theorem op_minus : OpR X (binaryOp .Sub) rMinus := op_sub
end
/-- in, not in: a datum in a list, a text in a tuple, a sign in a text -/
abbrev rSgn (neg : Bool) : L2.R2 := fun x y H Q => ∃ (c : Nat) (z : Str), x = .str ⟨#[c]⟩ ∧ y = .str z ∧ Q (.bl (if neg then !decide (c ∈ z.cps.toList) else decide (c ∈ z.cps.toList))) H
def rInA (K : PySem.W.Frag) : L2.R2 := fun x y H Q => rInD K x y H Q ∨ (rIn K false x y H Q ∨ rSgn false x y H Q)
def rNiA (K : PySem.W.Frag) : L2.R2 := fun x y H Q => rNotInD K x y H Q ∨ (rIn K true x y H Q ∨ rSgn true x y H Q)
section
variable {X : Cx}
theorem op_inA (hu : X.A.units + 65 < cLine) : OpR X (compareOp .In) (rInA X.K) := OpR.or (op_inD hu) (OpR.or op_in_seq op_in_sign)
theorem op_niA (hu : X.A.units + 65 < cLine) : OpR X (compareOp .NotIn) (rNiA X.K) := OpR.or (op_notInD hu) (OpR.or op_notIn_seq op_notIn_sign)
end
section
variable {K : PySem.W.Frag} {T1 T2 T : Ty}
theorem rv_val {r : L2.R2} {f : V → V → Prop} (h : ∀ G0 G H x y, Same G H → T1.p G0 x G → T2.p G0 y G → ∃ v, T.p G0 v G ∧ ∀ Q : VK, Q v H → r x y H Q) : RV r T1 T2 T := fun pu n G0 G H x y g _ h1 h2 Q q => by
  obtain ⟨v, hv, hr⟩ := h G0 G H x y g.s h1 h2
  exact hr Q (q v G H g hv)
theorem rv_le1 {r : L2.R2} {U : Ty} (h : RV r T1 T2 T) (l : U.le T1) : RV r U T2 T := fun pu n G0 G H x y g s h1 h2 Q q => h pu n G0 G H x y g s (l _ _ _ h1) h2 Q q
theorem rv_le2 {r : L2.R2} {U : Ty} (h : RV r T1 T2 T) (l : U.le T2) : RV r T1 U T := fun pu n G0 G H x y g s h1 h2 Q q => h pu n G0 G H x y g s h1 (l _ _ _ h2) Q q
theorem rv_ex1 {ι : Type} {f : ι → Ty} {r : L2.R2} (h : ∀ i, RV r (f i) T2 T) : RV r (Ex f) T2 T := fun pu n G0 G H x y g s ⟨i, h1⟩ h2 Q q => h i pu n G0 G H x y g s h1 h2 Q q
theorem rv_ex2 {ι : Type} {f : ι → Ty} {r : L2.R2} (h : ∀ i, RV r T1 (f i) T) : RV r T1 (Ex f) T := fun pu n G0 G H x y g s h1 ⟨i, h2⟩ Q q => h i pu n G0 G H x y g s h1 h2 Q q
theorem rv_wh1 {p : Prop} {r : L2.R2} {U : Ty} (h : p → RV r U T2 T) : RV r (Wh p U) T2 T := fun pu n G0 G H x y g s ⟨i, h1⟩ h2 Q q => h i pu n G0 G H x y g s h1 h2 Q q
theorem rv_wh2 {p : Prop} {r : L2.R2} {U : Ty} (h : p → RV r T1 U T) : RV r T1 (Wh p U) T := fun pu n G0 G H x y g s h1 ⟨i, h2⟩ Q q => h i pu n G0 G H x y g s h1 h2 Q q
theorem rv_addI {i j : Int} : RV rPlus (D (.int i)) (D (.int j)) (D (.int (i + j))) := fun pu n G0 G H x y g _ h1 h2 Q q => .inl ⟨i, j, dq_int h1, dq_int h2, q _ G H g (.int _)⟩
theorem rv_subI {i j : Int} : RV rMinus (D (.int i)) (D (.int j)) (D (.int (i - j))) := fun pu n G0 G H x y g _ h1 h2 Q q => ⟨i, j, dq_int h1, dq_int h2, q _ G H g (.int _)⟩
theorem rv_addS {i j : Str} (hz : i.length + j.length ≤ 10000) : RV rPlus (D (.str i)) (D (.str j)) (D (.str (i ++ j))) := fun pu n G0 G H x y g _ h1 h2 Q q => .inr (.inr ⟨i, j, dq_str h1, dq_str h2, small_line hz, q _ G H g (.str _)⟩)
theorem rv_addL {xs ys : List PyData} (hz : xs.length + ys.length ≤ 10000) : RV rPlus (D (.list xs)) (D (.list ys)) (D (.list (xs ++ ys))) := fun pu n G0 G H x y g _ h1 h2 Q q => by
  obtain ⟨a, vs, rfl, _, ha, da⟩ := dq_list h1
  obtain ⟨b, ws, rfl, _, hb, db⟩ := dq_list h2
  refine .inr (.inl ⟨a, b, vs, ws, rfl, rfl, g.s _ _ ha, g.s _ _ hb, by rw [da.len, db.len]; exact small_line hz, fun p hp => ?_⟩)
  have e := (g.new (o := .lst (vs ++ ws)) hp).g
  exact q _ _ _ (g.new hp) (.lst trivial upd_same ((da.mono e fun _ z => z).app (db.mono e fun _ z => z)))
theorem rv_eq {d e : PyData} (h1 : SeqAt.shaped d = true) (h2 : SeqAt.shaped e = true) : RV (rEqD K) (D d) (D e) (D (.bool (PyData.eqv d e))) := fun pu n G0 G H x y g _ r1 r2 Q q => by
  have c1 : d.canLay0 = true := (Bool.and_eq_true_iff.mp h1).1
  have c2 : e.canLay0 = true := (Bool.and_eq_true_iff.mp h2).1
  exact ⟨d, e, (Dq.mono g.s (fun _ z => z) r1).dp c1, (Dq.mono g.s (fun _ z => z) r2).dp c2, h1, h2, q _ G H g (.bl _)⟩
theorem rv_ne {d e : PyData} (h1 : SeqAt.shaped d = true) (h2 : SeqAt.shaped e = true) : RV (rNeD K) (D d) (D e) (D (.bool (!PyData.eqv d e))) := fun pu n G0 G H x y g _ r1 r2 Q q => by
  have c1 : d.canLay0 = true := (Bool.and_eq_true_iff.mp h1).1
  have c2 : e.canLay0 = true := (Bool.and_eq_true_iff.mp h2).1
  exact ⟨d, e, (Dq.mono g.s (fun _ z => z) r1).dp c1, (Dq.mono g.s (fun _ z => z) r2).dp c2, h1, h2, q _ G H g (.bl _)⟩
theorem rv_inD {d : PyData} {ds : List PyData} (h1 : SeqAt.shaped d = true) (h2 : SeqAt.shaped (.list ds) = true) : RV (rInA K) (D d) (D (.list ds)) (D (.bool (ds.any fun z => PyData.eqv z d))) := fun pu n G0 G H x y g _ r1 r2 Q q => by
  have c1 : d.canLay0 = true := (Bool.and_eq_true_iff.mp h1).1
  have c2 : (PyData.list ds).canLay0 = true := (Bool.and_eq_true_iff.mp h2).1
  exact .inl ⟨d, ds, (Dq.mono g.s (fun _ z => z) r1).dp c1, (Dq.mono g.s (fun _ z => z) r2).dp c2, h1, h2, q _ G H g (.bl _)⟩
theorem rv_niD {d : PyData} {ds : List PyData} (h1 : SeqAt.shaped d = true) (h2 : SeqAt.shaped (.list ds) = true) : RV (rNiA K) (D d) (D (.list ds)) (D (.bool (!ds.any fun z => PyData.eqv z d))) := fun pu n G0 G H x y g _ r1 r2 Q q => by
  have c1 : d.canLay0 = true := (Bool.and_eq_true_iff.mp h1).1
  have c2 : (PyData.list ds).canLay0 = true := (Bool.and_eq_true_iff.mp h2).1
  exact .inl ⟨d, ds, (Dq.mono g.s (fun _ z => z) r1).dp c1, (Dq.mono g.s (fun _ z => z) r2).dp c2, h1, h2, q _ G H g (.bl _)⟩
theorem strs_vals {P : Addr → Prop} {G : Hp} : ∀ {xs : List Str} {vs : List V}, DqAll P G vs (xs.map .str) → vs = xs.map V.str
  | [], [], _ => rfl
  | x :: xs, v :: vs, h => by
    cases h with
    | cons h t => rw [dq_str h, strs_vals t, List.map_cons]
  | [], _ :: _, h => by cases h
  | _ :: _, [], h => by cases h
theorem inV_strs (x : Str) : ∀ xs : List Str, inV (.str x) (xs.map V.str) = decide (x ∈ xs)
  | [] => by simp [inV]
  | y :: ys => by
    have ih := inV_strs x ys
    unfold inV at ih ⊢
    rw [List.map_cons, List.any_cons, ih]
    show ((y == x) || decide (x ∈ ys)) = decide (x ∈ y :: ys)
    by_cases e : y = x
    · subst e
      simp
    · have e2 : ¬ x = y := fun z => e z.symm
      have hb : (y == x) = false := by simpa using e
      rw [hb]
      simp [e2]
theorem flat_strs2 : ∀ xs : List Str, (xs.map V.str).all flatV = true
  | [] => rfl
  | x :: xs => by
    rw [List.map_cons, List.all_cons, flat_strs2 xs]
    rfl
/-- a text in a list, a tuple of texts -/
theorem rv_inS {x : Str} {xs : List Str} : RV (rInA K) (D (.str x)) (D (.list (xs.map .str))) (D (.bool (decide (x ∈ xs)))) := fun pu n G0 G H v w g _ r1 r2 Q q => by
  obtain ⟨a, vs, rfl, _, ha, da⟩ := dq_list r2
  rw [strs_vals da] at ha
  refine .inr (.inl ⟨a, _, rfl, .inl (.inl (.inl (g.s _ _ ha))), by rw [dq_str r1]; rfl, flat_strs2 xs, ?_⟩)
  have e : (if false = true then !inV v (xs.map V.str) else inV v (xs.map V.str)) = decide (x ∈ xs) := by rw [dq_str r1, if_neg Bool.false_ne_true, inV_strs]
  rw [e]
  exact q _ G H g (.bl _)
theorem rv_niS {x : Str} {xs : List Str} : RV (rNiA K) (D (.str x)) (D (.list (xs.map .str))) (D (.bool (!decide (x ∈ xs)))) := fun pu n G0 G H v w g _ r1 r2 Q q => by
  obtain ⟨a, vs, rfl, _, ha, da⟩ := dq_list r2
  rw [strs_vals da] at ha
  refine .inr (.inl ⟨a, _, rfl, .inl (.inl (.inl (g.s _ _ ha))), by rw [dq_str r1]; rfl, flat_strs2 xs, ?_⟩)
  have e : (if true = true then !inV v (xs.map V.str) else inV v (xs.map V.str)) = !decide (x ∈ xs) := by rw [dq_str r1, if_pos rfl, inV_strs]
  rw [e]
  exact q _ G H g (.bl _)
theorem rv_niT {x : Str} {xs : List Str} : RV (rNiA K) (D (.str x)) (D (.tuple (xs.map .str))) (D (.bool (!decide (x ∈ xs)))) := fun pu n G0 G H v w g _ r1 r2 Q q => by
  obtain ⟨a, vs, rfl, _, ha, da⟩ := dq_tup r2
  rw [strs_vals da] at ha
  refine .inr (.inl ⟨a, _, rfl, .inr (.inl (.inl (g.s _ _ ha))), by rw [dq_str r1]; rfl, flat_strs2 xs, ?_⟩)
  have e : (if true = true then !inV v (xs.map V.str) else inV v (xs.map V.str)) = !decide (x ∈ xs) := by rw [dq_str r1, if_pos rfl, inV_strs]
  rw [e]
  exact q _ G H g (.bl _)
theorem rv_niC {c : Nat} {z : Str} : RV (rNiA K) (D (.str ⟨#[c]⟩)) (D (.str z)) (D (.bool (!decide (c ∈ z.cps.toList)))) := fun pu n G0 G H v w g _ r1 r2 Q q => by
  refine .inr (.inr ⟨c, z, dq_str r1, dq_str r2, ?_⟩)
  exact q _ G H g (.bl _)
def isNone : PyData → Bool
  | .none => true
  | _ => false
theorem none_iff {P : Addr → Prop} {G : Hp} {v : V} {d : PyData} (h : Dq P G v d) : decide (v = .non) = isNone d := by
  cases h <;> simp [isNone]
abbrev rIsN : L2.R2 := fun x y H Q => y = .non ∧ Q (.bl (decide (x = .non))) H
abbrev rNotN : L2.R2 := fun x y H Q => y = .non ∧ Q (.bl (!decide (x = .non))) H
theorem rv_isN {d : PyData} : RV rIsN (D d) (D .none) (D (.bool (isNone d))) := fun pu n G0 G H v w g _ r1 r2 Q q => ⟨dq_non r2, by
  rw [none_iff r1]
  exact q _ G H g (.bl _)⟩
theorem rv_notN {d : PyData} : RV rNotN (D d) (D .none) (D (.bool (!isNone d))) := fun pu n G0 G H v w g _ r1 r2 Q q => ⟨dq_non r2, by
  rw [none_iff r1]
  exact q _ G H g (.bl _)⟩
theorem rv_lt {i j : Int} : RV (rI0 fun i j => .bl (decide (i < j))) (D (.int i)) (D (.int j)) (D (.bool (decide (i < j)))) := fun pu n G0 G H x y g _ h1 h2 Q q => ⟨i, j, dq_int h1, dq_int h2, q _ G H g (.bl _)⟩
theorem rv_gt {i j : Int} : RV (rI0 fun i j => .bl (decide (j < i))) (D (.int i)) (D (.int j)) (D (.bool (decide (j < i)))) := fun pu n G0 G H x y g _ h1 h2 Q q => ⟨i, j, dq_int h1, dq_int h2, q _ G H g (.bl _)⟩
theorem rv_isNotB {a b : Bool} : RV rNotB (D (.bool a)) (D (.bool b)) (D (.bool (!decide (a = b)))) := fun pu n G0 G H x y g _ h1 h2 Q q => ⟨a, b, dq_bool h1, dq_bool h2, q _ G H g (.bl _)⟩
/-! subscripts -/
theorem atI_of {xs : List V} {i : Nat} {v : V} (h : xs[i]? = some v) : atI xs (i : Int) = some v := atI_nat h
theorem rv_ixL {ds : List PyData} {i : Nat} {d : PyData} (h : ds[i]? = some d) : RV (rIx K) (D (.list ds)) (D (.int i)) (D d) := fun pu n G0 G H x y g _ h1 h2 Q q => by
  obtain ⟨a, vs, rfl, _, ha, da⟩ := dq_list h1
  obtain ⟨v, hv, dv⟩ := da.get h
  exact .inl ⟨a, vs, i, v, rfl, dq_int h2, .inl (.inl (g.s _ _ ha)), atI_of hv, q v G H g dv⟩
theorem rv_ixT {ds : List PyData} {i : Nat} {d : PyData} (h : ds[i]? = some d) : RV (rIx K) (D (.tuple ds)) (D (.int i)) (D d) := fun pu n G0 G H x y g _ h1 h2 Q q => by
  obtain ⟨a, vs, rfl, _, ha, da⟩ := dq_tup h1
  obtain ⟨v, hv, dv⟩ := da.get h
  exact .inr (.inl ⟨a, vs, i, v, rfl, dq_int h2, .inl (.inl (g.s _ _ ha)), atI_of hv, q v G H g dv⟩)
theorem rv_ixTT {Ts : List Ty} {i : Nat} {U : Ty} (h : Ts[i]? = some U) : RV (rIx K) (Tn Ts) (D (.int i)) U := fun pu n G0 G H x y g _ h1 h2 Q q => by
  obtain ⟨a, vs, rfl, _, ha, ta⟩ := h1
  obtain ⟨v, hv, dv⟩ := ta.at_ h
  exact .inr (.inl ⟨a, vs, i, v, rfl, dq_int h2, .inl (.inl (g.s _ _ ha)), atI_of hv, q v G H g dv⟩)
theorem rv_ixS {z : Str} {i : Nat} {c : Nat} (h : z.cps.toList[i]? = some c) (hz : z.length ≤ 10000) : RV (rIx K) (D (.str z)) (D (.int i)) (D (.str ⟨#[c]⟩)) := fun pu n G0 G H x y g _ h1 h2 Q q =>
  .inr (.inr ⟨z, i, c, dq_str h1, dq_int h2, small_line hz, atI_nat h, q _ G H g (.str _)⟩)
/-! slices of lists -/
theorem cutV_nil (xs : List V) : cutV xs none none = xs := by
  unfold cutV
  simp [HT.sIx_none]
theorem cutV_upto (xs : List V) (k : Nat) : cutV xs none (some (k : Int)) = xs.take k := by
  unfold cutV
  rw [HT.sIx_none, HT.sIx_nat]
  simp only [List.drop_zero, Nat.sub_zero]
  by_cases h : k ≤ xs.length
  · rw [Nat.min_eq_left h]
  · rw [Nat.min_eq_right (by omega), List.take_of_length_le (Nat.le_refl _), List.take_of_length_le (by omega)]
theorem cutV_from (xs : List V) (k : Nat) : cutV xs (some (k : Int)) none = xs.drop k := by
  unfold cutV
  rw [HT.sIx_none, HT.sIx_nat]
  by_cases h : k ≤ xs.length
  · rw [Nat.min_eq_left h, List.take_of_length_le (by rw [List.length_drop]; exact Nat.le_refl _)]
  · rw [Nat.min_eq_right (by omega), List.drop_of_length_le (Nat.le_refl _), List.drop_of_length_le (by omega), List.take_nil]
variable {pu : Option Addr} {n n1 n2 n3 : Nat} {env : Env'} {te : TE} {tl th : TO}
theorem pu_upto {ds : List PyData} {B : Option Int → Prop} (h : Pu pu n n1 env te (D (.list ds))) (hl : PuO pu n1 n1 env tl (· = none)) (hh : PuO pu n1 n2 env th fun o => ∃ k : Nat, o = some (k : Int) ∧ B o) :
    Pu pu n n2 env (tSl (rSlL K) te tl th) (Ex fun k : Nat => Wh (B (some (k : Int))) (D (.list (ds.take k)))) := fun G0 H0 σ G H a e Q q =>
  h G0 H0 σ G H a e _ fun x G1 S1 b1 r1 => hl G0 H0 σ G1 S1 (a.trans b1) (e.keep b1) _ fun o G2 S2 b2 ho => hh G0 H0 σ G2 S2 ((a.trans b1).trans b2) ((e.keep b1).keep b2) _ fun o2 G3 S3 b3 ho2 => by
    obtain ⟨k, hk, hB⟩ := ho2
    obtain ⟨l, vs, rfl, _, hv, dv⟩ := dq_list r1
    subst ho hk
    refine ⟨l, vs, rfl, .inl (.inl (b3.s _ _ (b3.g _ _ (b2.g _ _ hv)))), fun p hp => ?_⟩
    have gn := b3.new (o := .lst (cutV vs none (some (k : Int)))) hp
    have dd := (dv.mono ((b2.g.trans b3.g).trans gn.g) fun _ z => z).take k
    have e1 := cutV_upto vs k
    exact q _ _ _ (((b1.trans b2).trans b3).trans gn) ⟨k, hB, .lst trivial upd_same (by rw [e1] at dd ⊢; exact dd)⟩
theorem pu_uptoK {ds : List PyData} {k : Nat} (h : Pu pu n n1 env te (D (.list ds))) (hl : PuO pu n1 n1 env tl (· = none)) (hh : PuO pu n1 n1 env th (· = some (k : Int))) : Pu pu n n1 env (tSl (rSlL K) te tl th) (D (.list (ds.take k))) :=
  (pu_upto (K := K) (B := fun o => o = some (k : Int)) h hl fun G0 H0 σ G H a e Q q => hh G0 H0 σ G H a e Q fun b G' H' g hb => q b G' H' g ⟨k, hb, hb⟩).le (ex_le fun i => wh_le fun hi => by
    have e : i = k := by
      have := Option.some.inj hi
      omega
    rw [e]
    exact Ty.le.rfl')
theorem pu_from {ds : List PyData} {k : Nat} (h : Pu pu n n1 env te (D (.list ds))) (hl : PuO pu n1 n1 env tl (· = some (k : Int))) (hh : PuO pu n1 n1 env th (· = none)) : Pu pu n n1 env (tSl (rSlL K) te tl th) (D (.list (ds.drop k))) := fun G0 H0 σ G H a e Q q =>
  h G0 H0 σ G H a e _ fun x G1 S1 b1 r1 => hl G0 H0 σ G1 S1 (a.trans b1) (e.keep b1) _ fun o G2 S2 b2 ho => hh G0 H0 σ G2 S2 ((a.trans b1).trans b2) ((e.keep b1).keep b2) _ fun o2 G3 S3 b3 ho2 => by
    obtain ⟨l, vs, rfl, _, hv, dv⟩ := dq_list r1
    subst ho ho2
    refine ⟨l, vs, rfl, .inl (.inl (b3.s _ _ (b3.g _ _ (b2.g _ _ hv)))), fun p hp => ?_⟩
    have gn := b3.new (o := .lst (cutV vs (some (k : Int)) none)) hp
    have dd := (dv.mono ((b2.g.trans b3.g).trans gn.g) fun _ z => z).drop k
    have e1 := cutV_from vs k
    exact q _ _ _ (((b1.trans b2).trans b3).trans gn) (.lst trivial upd_same (by rw [e1] at dd ⊢; exact dd))
theorem pu_rev {ds : List PyData} (h : Pu pu n n1 env te (D (.list ds))) : Pu pu n n1 env (tRevL K te) (D (.list ds.reverse)) := fun G0 H0 σ G H a e Q q =>
  h G0 H0 σ G H a e _ fun x G1 S1 b1 r1 => by
    obtain ⟨l, vs, rfl, _, hv, dv⟩ := dq_list r1
    refine ⟨l, vs, rfl, .inl (.inl (b1.s _ _ hv)), fun p hp => ?_⟩
    have gn := b1.new (o := .lst vs.reverse) hp
    exact q _ _ _ (b1.trans gn) (.lst trivial upd_same (dv.mono gn.g fun _ z => z).rev)
/-! built-ins -/
abbrev rLenQ (K : PySem.W.Frag) : List V → Hp → VK → Prop := fun xs H Q => ∃ p ys, xs = [.ref p] ∧ (SqL K H p ys ∨ SqT K H p ys) ∧ Q (.int ys.length) H
abbrev rLenZ : List V → Hp → VK → Prop := fun xs H Q => ∃ z, xs = [.str z] ∧ z.length ≤ sizeLine ∧ Q (.int z.length) H
def rLenA (K : PySem.W.Frag) : List V → Hp → VK → Prop := fun xs H Q => rLenQ K xs H Q ∨ rLenZ xs H Q
theorem call_lenA {X : Cx} : CallR X (.builtin "len") (rLenA X.K) := CallR.or call_len_seq call_len_str
theorem rc_lenL {ds : List PyData} : RC (rLenA K) [D (.list ds)] (D (.int ds.length)) := fun pu n G0 G H vs g _ h Q q => by
  obtain ⟨v, rfl, h1⟩ := tys1 h
  obtain ⟨a, xs, rfl, _, ha, da⟩ := dq_list h1
  refine .inl ⟨a, xs, rfl, .inl (.inl (.inl (g.s _ _ ha))), ?_⟩
  rw [da.len]
  exact q _ G H g (.int _)
theorem rc_lenT {ds : List PyData} : RC (rLenA K) [D (.tuple ds)] (D (.int ds.length)) := fun pu n G0 G H vs g _ h Q q => by
  obtain ⟨v, rfl, h1⟩ := tys1 h
  obtain ⟨a, xs, rfl, _, ha, da⟩ := dq_tup h1
  refine .inl ⟨a, xs, rfl, .inr (.inl (.inl (g.s _ _ ha))), ?_⟩
  rw [da.len]
  exact q _ G H g (.int _)
theorem rc_lenS {z : Str} (hz : z.length ≤ 10000) : RC (rLenA K) [D (.str z)] (D (.int z.length)) := fun pu n G0 G H vs g _ h Q q => by
  obtain ⟨v, rfl, h1⟩ := tys1 h
  exact .inr ⟨z, by rw [dq_str h1], small_line hz, q _ G H g (.int _)⟩
abbrev rListQ (K : PySem.W.Frag) : List V → Hp → VK → Prop := fun xs H Q => ∃ p ys, xs = [.ref p] ∧ (SqL K H p ys ∨ SqT K H p ys) ∧ ∀ l, H l = none → Q (.ref l) (upd H l (.lst ys))
theorem rc_list {ds : List PyData} : RC (rListQ K) [D (.list ds)] (Ln (ds.map D)) := fun pu n G0 G H vs g g0 h Q q => by
  obtain ⟨v, rfl, h1⟩ := tys1 h
  obtain ⟨a, xs, rfl, _, ha, da⟩ := dq_list h1
  refine ⟨a, xs, rfl, .inl (.inl (.inl (g.s _ _ ha))), fun l hl => ?_⟩
  have gn := g.new (o := .lst xs) hl
  exact q _ _ _ gn ⟨l, xs, rfl, none_back g0 (none_back g.s hl), upd_same, d_tys (da.mono gn.g fun _ z => z)⟩
abbrev rTupQ (K : PySem.W.Frag) : List V → Hp → VK → Prop := fun xs H Q => ∃ p ys, xs = [.ref p] ∧ ((SqL K H p ys ∧ ∀ l, H l = none → Q (.ref l) (upd H l (.tup ys))) ∨ (SqT K H p ys ∧ Q (.ref p) H))
theorem rc_tuple {ds : List PyData} : RC (rTupQ K) [D (.list ds)] (D (.tuple ds)) := fun pu n G0 G H vs g g0 h Q q => by
  obtain ⟨v, rfl, h1⟩ := tys1 h
  obtain ⟨a, xs, rfl, _, ha, da⟩ := dq_list h1
  refine ⟨a, xs, rfl, .inl ⟨.inl (.inl (g.s _ _ ha)), fun l hl => ?_⟩⟩
  have gn := g.new (o := .tup xs) hl
  exact q _ _ _ gn (.tup trivial upd_same (da.mono gn.g fun _ z => z))
/-! isinstance with a built-in class -/
def tyName : PyData → String
  | .none => "NoneType"
  | .bool _ => "bool"
  | .int _ => "int"
  | .str _ => "str"
  | .list _ => "list"
  | .tuple _ => "tuple"
  | .dict _ => "dict"
theorem ty_of {P : Addr → Prop} {G H : Hp} {v : V} {d : PyData} (h : Dq P G v d) (s : Same G H) : TyX K H v (.type (tyName d)) := by
  cases h with
  | non => exact .base .non
  | bl b => exact .base (.bl b)
  | int i => exact .base (.int i)
  | str x => exact .base (.str x)
  | lst p h t => exact .base (.lst (s _ _ h))
  | tup p h t => exact .base (.tup (s _ _ h))
  | dic p h => exact .base (.dK (s _ _ h))
theorem rc_isi {d : PyData} {T : String} {b : Bool} (h : kitB (tyName d) T = some b) : RC (rIsi K) [D d, Vv (.ty T)] (D (.bool b)) := fun pu n G0 G H vs g _ hv Q q => by
  obtain ⟨v, w, rfl, h1, h2⟩ := tys2 hv
  cases (show w = .ty T from h2)
  exact ⟨v, .ty T, _, _, b, rfl, .ty T, ty_of h1 g.s, kit_ty h, q _ G H g (.bl _)⟩
end
end Cp
set_option Elab.async false
set_option linter.all false
set_option maxRecDepth 100000
set_option maxHeartbeats 1000000
/-! D4: targets, what is walked, loops, comprehensions, lists that grow. -/
namespace Cp
open PySem L2

/-! ### targets: the environment behind a store -/
def Tg (js : List Nat) (g : TG) (T : Ty) (e e' : Env') : Prop :=
  ∀ (pu : Option Addr) (n : Nat) (G0 H0 G H : Hp) (σ : St) (v : V), Gr pu n G H G H → EnvOk pu G0 H0 G H σ e → T.p G0 v G → ∀ Q : St → Hp → Prop,
    (∀ σ', EnvOk pu G0 H0 G H σ' e' → (∀ vs : List Nat, (∀ j ∈ js, j ∈ vs) → wipe σ' vs = wipe σ vs) → Q σ' H) → g v σ H Q
theorem wipe_set {σ : St} {j : Nat} {o : Option V} : ∀ {vs : List Nat}, j ∈ vs → wipe (σ.set j o) vs = wipe σ vs
  | [], h => by cases h
  | v :: vs, h => by
    unfold wipe
    by_cases hj : j ∈ vs
    · rw [wipe_set hj]
    · have e : j = v := by
        rcases List.mem_cons.mp h with z | z
        · exact z
        · exact absurd z hj
      subst e
      have out : ∀ ws : List Nat, j ∉ ws → wipe (σ.set j o) ws = (wipe σ ws).set j o := by
        intro ws
        induction ws with
        | nil => intro _; rfl
        | cons w ws ih =>
          intro hw
          have h1 : w ≠ j := fun z => hw (by rw [z]; exact List.mem_cons_self)
          unfold wipe
          rw [ih fun z => hw (List.mem_cons_of_mem _ z), List.set_comm _ _ h1]
      rw [out vs hj, List.set_set]
theorem wipe_mem {σ : St} {i : Nat} : ∀ {vs : List Nat}, i ∈ vs → (wipe σ vs)[i]? = none ∨ (wipe σ vs)[i]? = some none
  | v :: vs, h => by
    unfold wipe
    by_cases hi : v = i
    · subst hi
      by_cases hl : v < (wipe σ vs).length
      · right
        exact List.getElem?_set_self hl
      · left
        rw [List.getElem?_eq_none_iff, List.length_set]
        omega
    · rw [List.getElem?_set_ne hi]
      exact wipe_mem (by
        rcases List.mem_cons.mp h with z | z
        · exact absurd z.symm hi
        · exact z)
theorem wipe_twice {σ : St} (vs : List Nat) : wipe (wipe σ vs) vs = wipe σ vs := by
  have hl : (wipe (wipe σ vs) vs).length = (wipe σ vs).length := wipe_length _ _
  refine List.ext_getElem? fun i => ?_
  by_cases hi : i ∈ vs
  · have h1 := wipe_mem (σ := wipe σ vs) hi
    have h2 := wipe_mem (σ := σ) hi
    by_cases hn : i < (wipe σ vs).length
    · rcases h1 with h1 | h1
      · rw [List.getElem?_eq_none_iff] at h1
        omega
      · rcases h2 with h2 | h2
        · rw [List.getElem?_eq_none_iff] at h2
          omega
        · rw [h1, h2]
    · rw [List.getElem?_eq_none_iff.mpr (by omega), List.getElem?_eq_none_iff.mpr (by omega)]
  · exact wipe_out hi
theorem tg_name {j : Nat} {T : Ty} {e : Env'} : Tg [j] (gName j) T e (e.set j (some (.im T))) := fun pu n G0 H0 G H σ v g h t Q q =>
  q _ (h.setIm j t) fun vs hv => wipe_set (hv j (by simp))
/-- a, b, .. = a tuple of data -/
def setsE (e : Env') : List Nat → List PyData → Env'
  | j :: js, d :: ds => setsE (e.set j (some (.im (D d)))) js ds
  | _, _ => e
def gNames : List Nat → TGs
  | [] => gNil
  | j :: js => gCons (gName j) (gNames js)
theorem tg_list {js : List Nat} : ∀ {ds : List PyData} {vs : List V} {e : Env'} {pu : Option Addr} {n : Nat} {G0 H0 G H : Hp} {σ : St}, ds.length = js.length → DqAll (fun _ => True) G vs ds → EnvOk pu G0 H0 G H σ e → ∀ Q : St → Hp → Prop,
    (∀ σ', EnvOk pu G0 H0 G H σ' (setsE e js ds) → (∀ ws : List Nat, (∀ j ∈ js, j ∈ ws) → wipe σ' ws = wipe σ ws) → Q σ' H) → gNames js vs σ H Q := by
  induction js with
  | nil =>
    intro ds vs e pu n G0 H0 G H σ hl hd he Q q
    cases ds with
    | nil =>
      cases hd
      exact ⟨rfl, q σ he fun _ _ => rfl⟩
    | cons _ _ => cases hl
  | cons j js ih =>
    intro ds vs e pu n G0 H0 G H σ hl hd he Q q
    cases ds with
    | nil => cases hl
    | cons d ds =>
      cases hd with
      | cons h t =>
        refine ⟨_, _, rfl, ?_⟩
        exact ih (n := n) (by simpa using hl) t (he.setIm j (T := D d) h) Q fun σ' e' hw => q σ' e' fun ws hws => by
          rw [hw ws fun x hx => hws x (List.mem_cons_of_mem _ hx), wipe_set (hws j List.mem_cons_self)]
theorem tg_tup {K : PySem.W.Frag} {js : List Nat} {ds : List PyData} {e : Env'} (hl : ds.length = js.length) : Tg js (gTup K js.length (gNames js)) (D (.tuple ds)) e (setsE e js ds) := fun pu n G0 H0 G H σ v g h t Q q => by
  obtain ⟨a, vs, rfl, _, ha, da⟩ := dq_tup t
  exact ⟨a, vs, rfl, .inl (.inl (g.s _ _ ha)), by rw [da.len, hl], tg_list (n := n) hl da h Q q⟩

/-! ### what is walked -/
def Wk (pu : Option Addr) (G0 : Hp) (J : It) (L : Nat) (T : Nat → Ty) (G : Hp) : Prop :=
  ∀ (n : Nat) (G' H' : Hp), Gr pu n G' H' G' H' → Same G G' → (∀ i, i < L → J.go i H' ∧ ∀ x H'', J.yld i H' x H'' → ∃ G'', Gr pu n G' H' G'' H'' ∧ (T i).p G0 x G'') ∧ J.stop L H'
def PuI (pu : Option Addr) (n n' : Nat) (env : Env') (wi : TI) (L : Nat) (T : Nat → Ty) : Prop :=
  ∀ (G0 H0 : Hp) (σ : St) (G H : Hp), Gr pu n G0 H0 G H → EnvOk pu G0 H0 G H σ env → ∀ R : It → Hp → Prop, (∀ J G' H', Gr pu n' G H G' H' → Wk pu G0 J L T G' → R J H') → wi σ H R
section
variable {K : PySem.W.Frag} {pu : Option Addr} {n n1 n2 m : Nat} {env : Env'} {te tl : TE}
theorem pi_L {ds : List PyData} (h : Pu pu n n1 env tl (D (.list ds))) : PuI pu n n1 env (iList K tl) ds.length (fun i => D (ds.getD i .none)) := fun G0 H0 σ G H a e R r =>
  h G0 H0 σ G H a e _ fun v G' H' b t => by
    obtain ⟨l, vs, rfl, _, ha, da⟩ := dq_list t
    refine ⟨l, rfl, ⟨vs, .inl (.inl (b.s _ _ ha))⟩, r _ G' H' b fun m G2 S2 g2 s2 => ⟨fun i hi => ?_, ⟨vs, .inl (.inl (g2.s _ _ (s2 _ _ ha))), by rw [da.len]; exact Nat.le_refl _⟩⟩⟩
    have hi' : i < vs.length := by rw [da.len]; exact hi
    obtain ⟨d, hd, dv⟩ := da.at_ (List.getElem?_eq_getElem hi')
    have hS : SqL K S2 l vs := .inl (.inl (g2.s _ _ (s2 _ _ ha)))
    refine ⟨⟨vs, vs[i], hS, List.getElem?_eq_getElem hi'⟩, fun x H'' y => ?_⟩
    obtain ⟨e1, y⟩ := y
    subst e1
    have ex := y vs hS
    rw [List.getElem?_eq_getElem hi'] at ex
    cases ex
    refine ⟨G2, g2, ?_⟩
    have e2 : ds.getD i .none = d := by rw [List.getD_eq_getElem?_getD, hd]; rfl
    show Dq _ _ _ (ds.getD i .none)
    rw [e2]
    exact dv.mono s2 fun _ z => z
theorem pi_R1 {ta : TA} {k : Nat} (h : PuA pu n n1 env ta [D (.int k)]) (hk : k ≤ 100000) : PuI pu n n1 env (iRng1 ta) k (fun i => D (.int (i : Nat))) := fun G0 H0 σ G H a e R r =>
  h G0 H0 σ G H a e _ fun vs G' H' b t => by
    obtain ⟨v, rfl, hv⟩ := tys1 t
    rw [dq_int hv]
    refine ⟨k, rfl, by omega, by omega, r _ G' H' b fun m G2 S2 g2 s2 => ⟨fun i hi => ⟨by show i < ((k : Int)).toNat; omega, fun x H'' y => ?_⟩, by show ((k : Int)).toNat ≤ k; omega⟩⟩
    obtain ⟨e1, e2⟩ := y
    subst e1
    refine ⟨G2, g2, ?_⟩
    rw [e2, Int.zero_add]
    exact .int _
theorem pi_S {x : Str} (h : Pu pu n n1 env te (D (.str x))) : PuI pu n n1 env (iStr te) x.cps.size (fun i => D (.str ⟨#[x.cps.getD i 0]⟩)) := fun G0 H0 σ G H a e R r =>
  h G0 H0 σ G H a e _ fun v G' H' b t => by
    refine ⟨x, dq_str t, r _ G' H' b fun m G2 S2 g2 s2 => ⟨fun i hi => ⟨hi, fun y H'' yl => ?_⟩, Nat.le_refl _⟩⟩
    obtain ⟨e1, c, hc, e2⟩ := yl
    subst e1
    refine ⟨G2, g2, ?_⟩
    rw [e2]
    have e3 : x.cps.getD i 0 = c := by
      rw [Array.getD_eq_getD_getElem?, hc]
      rfl
    show Dq _ _ _ (PyData.str ⟨#[x.cps.getD i 0]⟩)
    rw [e3]
    exact .str _
theorem pi_E {ta : TA} {ds : List PyData} (h : PuA pu n n1 env ta [D (.list ds)]) : PuI pu n n1 env (iEnum K ta) ds.length (fun i => D (.tuple [.int (i : Nat), ds.getD i .none])) := fun G0 H0 σ G H a e R r =>
  h G0 H0 σ G H a e _ fun ws G' H' b t => by
    obtain ⟨v, rfl, hv⟩ := tys1 t
    obtain ⟨l, vs, rfl, _, ha, da⟩ := dq_list hv
    refine ⟨l, vs, rfl, .inl (.inl (b.s _ _ ha)), r _ G' H' b fun m G2 S2 g2 s2 => ⟨fun i hi => ?_, ⟨vs, .inl (.inl (g2.s _ _ (s2 _ _ ha))), by rw [da.len]; exact Nat.le_refl _⟩⟩⟩
    have hi' : i < vs.length := by rw [da.len]; exact hi
    obtain ⟨d, hd, dv⟩ := da.at_ (List.getElem?_eq_getElem hi')
    have hS : SqL K S2 l vs := .inl (.inl (g2.s _ _ (s2 _ _ ha)))
    refine ⟨⟨vs, vs[i], hS, List.getElem?_eq_getElem hi'⟩, fun x H'' y => ?_⟩
    obtain ⟨T, z, e1, hT, e3, y⟩ := y
    have ex := y vs hS
    rw [List.getElem?_eq_getElem hi'] at ex
    cases ex
    have e2 : ds.getD i .none = d := by rw [List.getD_eq_getElem?_getD, hd]; rfl
    have gn := g2.new (o := .tup [.int (i : Nat), vs[i]]) hT
    subst e3
    refine ⟨_, gn, ?_⟩
    rw [e1]
    show Dq _ _ _ (PyData.tuple [.int (i : Nat), ds.getD i .none])
    rw [e2]
    exact .tup trivial upd_same (.cons (.int _) (.cons (dv.mono (s2.trans gn.g) fun _ z => z) .nil))

/-! ### for -/
theorem sj_for {wi : TI} {g : TG} {tb : TS} {L : Nat} {T : Nat → Ty} {O : Out} (hI : PuI pu n n1 env wi L T) (Iv : Nat → Nat → Env' → Prop) (h0 : Iv 0 n1 env)
    (hs : ∀ i m e, i < L → Iv i m e → ∃ js e', Tg js g (T i) e e' ∧ Sj pu m e' tb { nx := Iv (i + 1), ct := Iv (i + 1), bk := O.nx, m := O.m, rt := O.rt })
    (hd : ∀ m e, Iv L m e → O.nx m e) : Sj pu n env (tFor wi g tb) O := fun G0 H0 σ G H a e E k1 k2 k3 k4 =>
  hI G0 H0 σ G H a e _ fun J G1 S1 b wk => by
    refine ⟨fun i mm σ' H' => mm = L - i ∧ i ≤ L ∧ ∃ m e' G', Iv i m e' ∧ Gr pu m G0 H0 G' H' ∧ EnvOk pu G0 H0 G' H' σ' e' ∧ Same G1 G', ⟨L, by simp, Nat.zero_le _, n1, env, G1, h0, a.trans b, e.keep b, Same.refl _⟩, ?_⟩
    rintro i mm σ' H' ⟨rfl, hi, m, e', G', iv, ga, ea, sa⟩
    obtain ⟨w1, w2⟩ := wk m G' H' ga.here sa
    by_cases hlt : i < L
    · obtain ⟨go, yl⟩ := w1 i hlt
      refine .inr ⟨go, fun σ2 H2 => ∃ m e' G', Iv (i + 1) m e' ∧ Gr pu m G0 H0 G' H2 ∧ EnvOk pu G0 H0 G' H2 σ2 e' ∧ Same G1 G', fun σ2 H2 ⟨m2, e2, G2, q⟩ => ⟨L - (i + 1), by omega, rfl, hlt, m2, e2, G2, q⟩, fun x H'' y => ?_⟩
      obtain ⟨G'', g2, t2⟩ := yl x H'' y
      obtain ⟨js, e2, tg, sj⟩ := hs i m e' hlt iv
      refine tg pu m G0 H0 G'' H'' σ' x g2.here (ea.keep g2) t2 _ fun σ3 e3 _ => ?_
      refine sj.grown ((sa.trans g2.g)) (ga.trans g2) e3 ?_ ?_ ?_ ?_
      · exact fun n' env' σ4 G4 H4 iv4 g4 s4 e4 => ⟨n', env', G4, iv4, g4, e4, s4⟩
      · exact fun n' env' σ4 G4 H4 iv4 g4 s4 e4 => k1 _ _ _ _ _ iv4 g4 (b.g.trans s4) e4
      · exact fun n' env' σ4 G4 H4 iv4 g4 s4 e4 => ⟨n', env', G4, iv4, g4, e4, s4⟩
      · exact k4
    · have ei : i = L := by omega
      subst ei
      exact .inl ⟨w2, k1 _ _ σ' G' H' (hd _ _ iv) ga (b.g.trans sa) ea⟩
end
end Cp
set_option Elab.async false
set_option linter.all false
set_option maxRecDepth 100000
set_option maxHeartbeats 1000000
/-! D5: comprehensions, lists that grow, while. -/
namespace Cp
open PySem L2
section
variable {pu : Option Addr} {n m : Nat} {G0 H0 G H G' H' : Hp} {p : Addr} {o : HO}
/-- an own object beside what is known changes -/
theorem Gr.frame (a : Gr pu n G0 H0 G H) (h0 : H0 p = none) (hG : G p = none) (hp : pu ≠ some p) : Gr pu n G0 H0 G (upd H p o) where
  g := a.g
  s := fun b u e => by
    rw [upd_ne (ne_of_none e hG)]
    exact a.s _ _ e
  h := fun b u hb e => by
    rw [upd_ne (ne_of_none e h0)]
    exact a.h b u hb e
  nw := a.nw
  w := fun q e => by
    have hq : q ≠ p := fun z => hp (by rw [← z]; exact e)
    exact ⟨(a.w q e).1, (a.w q e).2.up (Nat.le_refl _) fun u z => by rw [upd_ne hq]; exact z⟩
/-- an own object becomes known -/
theorem Gr.own (a : Gr pu n G0 H0 G H) (h0 : H0 p = none) (hH : H p = some o) (hG : G p = none) (hp : pu ≠ some p) : Gr pu n G0 H0 (upd G p o) H where
  g := fun b u e => by
    rw [upd_ne (ne_of_none (a.g _ _ e) hG)]
    exact a.g _ _ e
  s := fun b u e => by
    by_cases hb : b = p
    · subst hb
      rw [upd_same] at e
      rw [hH]
      exact e
    · rw [upd_ne hb] at e
      exact a.s _ _ e
  h := a.h
  nw := fun b u e => by
    by_cases hb : b = p
    · subst hb
      exact .inr h0
    · rw [upd_ne hb] at e
      exact a.nw b u e
  w := fun q e => by
    have hq : q ≠ p := fun z => hp (by rw [← z]; exact e)
    exact ⟨by rw [upd_ne hq]; exact (a.w q e).1, (a.w q e).2⟩
theorem same_own (hG : G p = none) : Same G (upd G p o) := fun b u e => by
  rw [upd_ne (ne_of_none e hG)]
  exact e
theorem Gr.noPurse (a : Gr pu n G0 H0 G H) (hp : H p = none) : pu ≠ some p := fun e => (a.w p e).2.some hp
end

section
variable {K : PySem.W.Frag} {pu : Option Addr} {n n1 n2 m : Nat} {env : Env'} {te tl : TE}
theorem pu_lc {wi : TI} {g : TG} {tt : TT} {vs : List Nat} {L : Nat} {T : Nat → Ty} (hI : PuI pu n n1 env wi L T) (js : List Nat) (hjs : ∀ j ∈ js, j ∈ vs) (hL : L ≤ 10000) (f : Nat → Bool) (Rf : Nat → Ty)
    (hs : ∀ i, i < L → ∃ e', Tg js g (T i) (wipeE env vs) e' ∧ PuT pu n1 n1 e' tt (· = f i) ∧ (f i = true → Pu pu n1 n1 e' te (Rf i))) : Pu pu n n1 env (tLc wi g tt te vs) (Ln (((List.range L).filter f).map Rf)) := fun G0 H0 σ G H a e Q q =>
  hI G0 H0 σ G H a e _ fun J G1 S1 b wk Da hD => by
    have hDH : H Da = none := by
      cases z : H Da with
      | none => rfl
      | some u =>
        have hp : pu ≠ some Da := b.noPurse hD
        rw [b.h Da u hp z] at hD
        cases hD
    have hp : pu ≠ some Da := a.noPurse hDH
    refine ⟨fun i mm H' => mm = L - i ∧ i ≤ L ∧ ∃ G' acc, Gr pu n1 G H G' H' ∧ G' Da = none ∧ H' Da = some (.lst acc) ∧ Tys G0 G' acc (((List.range i).filter f).map Rf) ∧ Same G1 G', ⟨L, by simp, Nat.zero_le _, G1, [], b.frame hDH (none_back b.s hD) hp, none_back b.s hD, upd_same, trivial, Same.refl _⟩, ?_⟩
    rintro i mm H' ⟨rfl, hi, G', acc, ga, gD, hDa, ty, sa⟩
    have hE := e.keep ga
    obtain ⟨w1, w2⟩ := wk n1 G' H' ga.here sa
    by_cases hlt : i < L
    · obtain ⟨go, yl⟩ := w1 i hlt
      refine .inr ⟨go, fun H2 => ∃ G' acc, Gr pu n1 G H G' H2 ∧ G' Da = none ∧ H2 Da = some (.lst acc) ∧ Tys G0 G' acc (((List.range (i + 1)).filter f).map Rf) ∧ Same G1 G', fun H2 q2 => ⟨L - (i + 1), by omega, rfl, hlt, q2⟩, fun x H'' y => ?_⟩
      obtain ⟨G'', g2, t2⟩ := yl x H'' y
      have no : ∀ {X Y X' Y' : Hp} {k : Nat}, Gr pu k X Y X' Y' → X Da = none → Y Da ≠ none → X' Da = none := fun {X Y X' Y' k} g hx hy => by
        cases z : X' Da with
        | none => rfl
        | some u =>
          rcases g.nw _ _ z with z | z
          · rw [hx] at z
            cases z
          · exact absurd z hy
      have c2 : H'' Da = some (.lst acc) := g2.h _ _ hp hDa
      have d2 : G'' Da = none := no g2 gD (by rw [hDa]; simp)
      obtain ⟨e', tg, ht, he⟩ := hs i hlt
      refine tg pu n1 G0 H0 G'' H'' _ x g2.here ((hE.keep g2).wipe vs) t2 _ fun σ3 e3 hw => ⟨by rw [hw vs hjs, wipe_twice], ?_⟩
      refine ht G0 H0 σ3 G'' H'' ((a.trans ga).trans g2) e3 _ fun bb G3 S3 g3 hb => ?_
      have c3 : S3 Da = some (.lst acc) := g3.h _ _ hp c2
      have d3 : G3 Da = none := no g3 d2 (by rw [c2]; simp)
      have er : (List.range (i + 1)).filter f = (List.range i).filter f ++ (if f i = true then [i] else []) := by
        rw [List.range_succ, List.filter_append]
        cases hf : f i <;> simp [hf]
      cases bb with
      | true =>
        have hf : f i = true := hb.symm
        refine he hf G0 H0 σ3 G3 S3 (((a.trans ga).trans g2).trans g3) (e3.keep g3) _ fun y G4 S4 g4 ry => ?_
        have c4 : S4 Da = some (.lst acc) := g4.h _ _ hp c3
        have d4 : G4 Da = none := no g4 d3 (by rw [c3]; simp)
        have hlen : acc.length ≤ i := by
          rw [ty.len, List.length_map]
          have := List.length_filter_le f (List.range i)
          rw [List.length_range] at this
          exact this
        refine ⟨acc, c4, small_lt (by omega), G4, acc ++ [y], (((ga.trans g2).trans g3).trans g4).frame hDH d4 hp, d4, upd_same, ?_, sa.trans ((g2.g.trans g3.g).trans g4.g)⟩
        rw [er, if_pos hf, List.map_append]
        exact (ty.mono (Same.refl _) ((g2.g.trans g3.g).trans g4.g)).app ⟨ry, trivial⟩
      | false =>
        have hf : ¬ f i = true := by rw [← hb]; decide
        refine ⟨G3, acc, (ga.trans g2).trans g3, d3, c3, ?_, sa.trans (g2.g.trans g3.g)⟩
        rw [er, if_neg hf, List.append_nil]
        exact ty.mono (Same.refl _) (g2.g.trans g3.g)
    · have ei : i = L := by omega
      subst ei
      refine .inl ⟨w2, q _ _ _ (ga.own hDH hDa gD hp) ⟨Da, acc, rfl, none_back (a.g.trans a.s) hDH, upd_same, ty.mono (Same.refl _) (same_own gD)⟩⟩
theorem range_get {α : Type} (x0 : α) : ∀ xs : List α, (List.range xs.length).map (fun i => xs.getD i x0) = xs := fun xs => by
  refine List.ext_getElem? fun i => ?_
  rw [List.getElem?_map]
  by_cases h : i < xs.length
  · rw [List.getElem?_range h]
    simp [h]
  · rw [List.getElem?_eq_none_iff.mpr (by rw [List.length_range]; omega), List.getElem?_eq_none_iff.mpr (by omega)]
    rfl
/-- over a list of encoded items -/
theorem pu_lcE {α : Type} {enc : α → PyData} {xs : List α} {g : TG} {tt : TT} {vs : List Nat} (h : Pu pu n n1 env tl (D (.list (xs.map enc)))) (js : List Nat) (hjs : ∀ j ∈ js, j ∈ vs) (hL : xs.length ≤ 10000) (f : α → Bool) (Rf : α → Ty)
    (hs : ∀ x, x ∈ xs → ∃ e', Tg js g (D (enc x)) (wipeE env vs) e' ∧ PuT pu n1 n1 e' tt (· = f x) ∧ (f x = true → Pu pu n1 n1 e' te (Rf x))) : Pu pu n n1 env (tLc (iList K tl) g tt te vs) (Ln ((xs.filter f).map Rf)) := by
  cases xs with
  | nil => exact pu_lc (pi_L h) js hjs (Nat.zero_le _) (fun _ => false) (fun _ => D .none) fun i hi => absurd hi (Nat.not_lt_zero _)
  | cons x0 r =>
    have key : ((List.range ((x0 :: r).map enc).length).filter fun i => f ((x0 :: r).getD i x0)).map (fun i => Rf ((x0 :: r).getD i x0)) = ((x0 :: r).filter f).map Rf := by
      rw [List.length_map]
      conv => rhs; rw [← range_get x0 (x0 :: r)]
      rw [List.filter_map, List.map_map]
      rfl
    rw [← key]
    refine pu_lc (pi_L h) js hjs (by rw [List.length_map]; exact hL) _ _ fun i hi => ?_
    rw [List.length_map] at hi
    have hm : (x0 :: r)[i]? = some ((x0 :: r).getD i x0) := by
      rw [List.getD_eq_getElem?_getD, List.getElem?_eq_getElem hi]
      rfl
    have he : ((x0 :: r).map enc).getD i .none = enc ((x0 :: r).getD i x0) := by
      rw [List.getD_eq_getElem?_getD, List.getElem?_map, hm]
      rfl
    rw [he]
    exact hs _ (List.mem_of_getElem? hm)
/-- a for over a list of encoded items -/
theorem sj_forE {α : Type} {enc : α → PyData} {xs : List α} {g : TG} {tb : TS} {O : Out} (h : Pu pu n n1 env tl (D (.list (xs.map enc)))) (Iv : Nat → Nat → Env' → Prop) (h0 : Iv 0 n1 env)
    (hs : ∀ i x m e, xs[i]? = some x → Iv i m e → ∃ js e', Tg js g (D (enc x)) e e' ∧ Sj pu m e' tb { nx := Iv (i + 1), ct := Iv (i + 1), bk := O.nx, m := O.m, rt := O.rt })
    (hd : ∀ m e, Iv xs.length m e → O.nx m e) : Sj pu n env (tFor (iList K tl) g tb) O := by
  refine sj_for (pi_L h) Iv h0 (fun i m e hi iv => ?_) fun m e iv => hd m e (by rw [List.length_map] at iv; exact iv)
  rw [List.length_map] at hi
  have he : (xs.map enc).getD i .none = enc xs[i] := by
    rw [List.getD_eq_getElem?_getD, List.getElem?_map, List.getElem?_eq_getElem hi]
    rfl
  rw [he]
  exact hs i _ m e (List.getElem?_eq_getElem hi) iv

/-! ### lists that grow -/
theorem sj_acNew {i : Nat} {O : Out} (hi : i < env.length) (k : O.nx n (env.set i (some (.ac [])))) : Sj pu n env (tAsg (tLst tNil) (gName i)) O := fun G0 H0 σ G H a e E h1 _ _ _ =>
  ⟨Nat.zero_le _, fun p hp => by
    have hp0 : H0 p = none := by
      cases z : H0 p with
      | none => rfl
      | some u =>
        rw [a.h p u (a.noPurse hp) z] at hp
        cases hp
    have gp : G p = none := none_back a.s hp
    have np := a.noPurse hp
    refine h1 _ _ _ G _ k (a.frame hp0 gp np) (Same.refl _) ⟨by rw [List.length_set, List.length_set, e.len], fun j s hj => ?_, fun x y ds es hx hy hxy => ?_⟩
    · by_cases hij : i = j
      · subst hij
        rw [List.getElem?_set_self hi] at hj
        cases hj
        exact ⟨_, List.getElem?_set_self (by rw [e.len]; exact hi), p, [], rfl, hp0, gp, np, upd_same, .nil⟩
      · rw [List.getElem?_set_ne hij] at hj ⊢
        obtain ⟨o, ho, hs⟩ := e.at_ j s hj
        refine ⟨o, ho, ?_⟩
        cases s with
        | im T => exact hs
        | ac ds =>
          obtain ⟨l, vs, e1, e2, e3, e4, e5, e6⟩ := hs
          exact ⟨l, vs, e1, e2, e3, e4, by rw [upd_ne (ne_of_none e5 hp)]; exact e5, e6⟩
    · have key : ∀ (z : Nat) zs, z ≠ i → (env.set i (some (.ac [])))[z]? = some (some (.ac zs)) → (σ.set i (some (.ref p)))[z]? ≠ some (some (.ref p)) := fun z zs hz h1 h2 => by
        rw [List.getElem?_set_ne (Ne.symm hz)] at h1 h2
        obtain ⟨l, vs, q1, _, _, _, q5, _⟩ := e.getAc h1
        rw [q1] at h2
        cases h2
        rw [hp] at q5
        cases q5
      have self : (σ.set i (some (.ref p)))[i]? = some (some (.ref p)) := List.getElem?_set_self (by rw [e.len]; exact hi)
      by_cases hxi : x = i
      · by_cases hyi : y = i
        · rw [hxi, hyi]
        · subst hxi
          rw [self] at hxy
          exact absurd hxy.symm (key y es hyi hy)
      · by_cases hyi : y = i
        · subst hyi
          rw [self] at hxy
          exact absurd hxy (key x ds hxi hx)
        · rw [List.getElem?_set_ne (Ne.symm hxi)] at hx hxy
          rw [List.getElem?_set_ne (Ne.symm hyi)] at hy hxy
          exact e.uq x y ds es hx hy hxy⟩
/-- the list in slot i is another -/
theorem EnvOk.acSet {G0 H0 G H : Hp} {σ : St} {i : Nat} {ds es : List PyData} {l : Addr} {ws : List V} (e : EnvOk pu G0 H0 G H σ env) (hi : env[i]? = some (some (.ac ds))) (hl : σ[i]? = some (some (.ref l))) (h0 : H0 l = none) (hG : G l = none) (hp : pu ≠ some l) (hd : DqAll (fun _ => True) G ws es) :
    EnvOk pu G0 H0 G (upd H l (.lst ws)) σ (env.set i (some (.ac es))) := by
  have hil := (List.getElem?_eq_some_iff.mp hi).1
  have ac : ∀ {j : Nat} {zs : List PyData}, (env.set i (some (.ac es)))[j]? = some (some (.ac zs)) → ∃ ys, env[j]? = some (some (.ac ys)) := fun {j zs} hj => by
    by_cases hij : i = j
    · subst hij
      exact ⟨ds, hi⟩
    · rw [List.getElem?_set_ne hij] at hj
      exact ⟨zs, hj⟩
  refine ⟨by rw [List.length_set]; exact e.len, fun j s hj => ?_, fun x y as bs hx hy hxy => ?_⟩
  · by_cases hij : i = j
    · subst hij
      rw [List.getElem?_set_self hil] at hj
      cases hj
      exact ⟨_, hl, l, ws, rfl, h0, hG, hp, upd_same, hd⟩
    · rw [List.getElem?_set_ne hij] at hj
      obtain ⟨o, ho, hs⟩ := e.at_ j s hj
      refine ⟨o, ho, ?_⟩
      cases s with
      | im T => exact hs
      | ac zs =>
        obtain ⟨l2, vs2, e1, e2, e3, e4, e5, e6⟩ := hs
        have hne : l2 ≠ l := fun z => hij (e.uq i j ds zs hi hj (by rw [hl, ho, e1, z]))
        exact ⟨l2, vs2, e1, e2, e3, e4, by rw [upd_ne hne]; exact e5, e6⟩
  · obtain ⟨a1, h1⟩ := ac hx
    obtain ⟨a2, h2⟩ := ac hy
    exact e.uq x y a1 a2 h1 h2 hxy
theorem sj_acApp {i : Nat} {ds : List PyData} {d : PyData} {O : Out} (hi : env[i]? = some (some (.ac ds))) (h : Pu pu n n1 env te (D d)) (hz : ds.length < 10000) (k : O.nx n1 (env.set i (some (.ac (ds ++ [d]))))) : Sj pu n env (tDrop (tBM K "list" rAppend (tVar i) (tCons te tNil))) O := fun G0 H0 σ G H a e E h1 _ _ _ => by
  obtain ⟨l, vs, hl, l0, lG, lp, lH, lD⟩ := e.getAc hi
  refine ⟨.ref l, hl, Or.inl ⟨rfl, _, Or.inl (Or.inl lH)⟩, ?_⟩
  refine h G0 H0 σ G H a e _ fun v G1 S1 g1 r1 => ?_
  obtain ⟨l', vs', hl', _, lG', _, lH', lD'⟩ := (e.keep g1).getAc hi
  rw [hl] at hl'
  cases hl'
  refine ⟨l, vs', v, rfl, rfl, lH', by rw [lD'.len]; exact small_lt hz, ?_⟩
  exact h1 _ _ _ G1 _ k ((a.trans g1).frame l0 lG' lp) g1.g ((e.keep g1).acSet hi hl l0 lG' lp (lD'.app (.cons r1 .nil)))
abbrev rInsQ : V → List V → Hp → VK → Prop := fun x vs H Q => ∃ (l : Addr) (xs : List V) (i : Int) (y : V), x = .ref l ∧ vs = [.int i, y] ∧ H l = some (.lst xs) ∧ xs.length < sizeLine ∧ 0 ≤ i ∧ i < 2 ^ 63 ∧ Q .non (upd H l (.lst (xs.take i.toNat ++ [y] ++ xs.drop i.toNat)))
/-- l.insert(a drawn place, e) -/
theorem sj_acIns {i : Nat} {ds : List PyData} {d : PyData} {tj : TE} {B : Nat → Prop} {O : Out} (hi : env[i]? = some (some (.ac ds))) (hj : Pu pu n n1 env tj (Ex fun k : Nat => Wh (B k) (D (.int k)))) (hB : ∀ k, B k → k ≤ 10000) (h : Pu pu n1 n2 env te (D d)) (hz : ds.length < 10000)
    (k : ∀ j, B j → O.nx n2 (env.set i (some (.ac (ds.take j ++ [d] ++ ds.drop j))))) : Sj pu n env (tDrop (tBM K "list" rInsQ (tVar i) (tCons tj (tCons te tNil)))) O := fun G0 H0 σ G H a e E h1 _ _ _ => by
  obtain ⟨l, vs, hl, l0, lG, lp, lH, lD⟩ := e.getAc hi
  refine ⟨.ref l, hl, Or.inl ⟨rfl, _, Or.inl (Or.inl lH)⟩, ?_⟩
  refine hj G0 H0 σ G H a e _ fun w G1 S1 g1 ⟨j, hBj, r0⟩ => h G0 H0 σ G1 S1 (a.trans g1) (e.keep g1) _ fun v G2 S2 g2 r1 => ?_
  obtain ⟨l', vs', hl', _, lG', _, lH', lD'⟩ := ((e.keep g1).keep g2).getAc hi
  rw [hl] at hl'
  cases hl'
  have hb := hB j hBj
  refine ⟨l, vs', j, v, rfl, by rw [dq_int r0], lH', by rw [lD'.len]; exact small_lt hz, by omega, by omega, ?_⟩
  refine h1 _ _ _ G2 _ (k j hBj) (((a.trans g1).trans g2).frame l0 lG' lp) (g1.g.trans g2.g) (((e.keep g1).keep g2).acSet hi hl l0 lG' lp ?_)
  have ej : ((j : Int)).toNat = j := by omega
  rw [ej]
  exact ((lD'.take j).app (.cons r1 .nil)).app (lD'.drop j)
/-- it grows no more -/
theorem sj_acFix {t : TS} {O : Out} (i : Nat) {ds : List PyData} (hi : env[i]? = some (some (.ac ds))) (k : Sj pu n (env.set i (some (.im (D (.list ds))))) t O) : Sj pu n env t O := fun G0 H0 σ G H a e E h1 h2 h3 h4 => by
  obtain ⟨l, vs, hl, l0, lG, lp, lH, lD⟩ := e.getAc hi
  have so := same_own (o := .lst vs) lG
  refine k.grown so (a.own l0 lH lG lp) ?_ h1 h2 h3 h4
  have e1 : EnvOk pu G0 H0 (upd G l (.lst vs)) H σ (env.set i none) := by
    refine ⟨by rw [List.length_set]; exact e.len, fun j s hj => ?_, (e.forget i).uq⟩
    by_cases hij : i = j
    · subst hij
      have hll := (List.getElem?_eq_some_iff.mp hj).1
      rw [List.length_set] at hll
      rw [List.getElem?_set_self hll] at hj
      cases hj
    · rw [List.getElem?_set_ne hij] at hj
      obtain ⟨o, ho, hs⟩ := e.at_ j s hj
      refine ⟨o, ho, ?_⟩
      cases s with
      | im T =>
        obtain ⟨v, ev, hv⟩ := hs
        exact ⟨v, ev, T.mono (Same.refl _) so hv⟩
      | ac zs =>
        obtain ⟨l2, vs2, q1, q2, q3, q4, q5, q6⟩ := hs
        have hne : l2 ≠ l := fun z => hij (e.uq i j ds zs hi hj (by rw [hl, ho, q1, z]))
        exact ⟨l2, vs2, q1, q2, by rw [upd_ne hne]; exact q3, q4, q5, q6.mono so fun _ z => z⟩
  have e2 := e1.setIm i (v := .ref l) (T := D (.list ds)) (Dq.lst trivial upd_same (lD.mono so fun _ z => z))
  rw [set_same hl, List.set_set] at e2
  exact e2
theorem pu_acLen {i : Nat} {ds : List PyData} (hi : env[i]? = some (some (.ac ds))) : Pu pu n n env (tCB (rLenA K) (tCons (tVar i) tNil)) (D (.int ds.length)) := fun G0 H0 σ G H a e Q q => by
  obtain ⟨l, vs, hl, l0, lG, lp, lH, lD⟩ := e.getAc hi
  refine ⟨.ref l, hl, .inl ⟨l, vs, rfl, .inl (.inl (.inl lH)), ?_⟩⟩
  rw [lD.len]
  exact q _ G H a.here (.int _)
theorem pu_acNi {i : Nat} {ds : List PyData} {d : PyData} {ta : TE} (hi : env[i]? = some (some (.ac ds))) (h : Pu pu n n1 env ta (D d)) (h1 : SeqAt.shaped d = true) (h2 : SeqAt.shaped (.list ds) = true) : Pu pu n n1 env (tOp (rNiA K) ta (tVar i)) (D (.bool (!ds.any fun z => PyData.eqv z d))) := fun G0 H0 σ G H a e Q q =>
  h G0 H0 σ G H a e _ fun v G1 S1 g1 r1 => by
    obtain ⟨l, vs, hl, l0, lG, lp, lH, lD⟩ := (e.keep g1).getAc hi
    have c1 : d.canLay0 = true := (Bool.and_eq_true_iff.mp h1).1
    have c2 : PyData.canLayAll0 ds = true := by
      have := (Bool.and_eq_true_iff.mp h2).1
      simpa [PyData.canLay0] using this
    refine ⟨.ref l, hl, .inl ⟨d, ds, (Dq.mono g1.s (fun _ z => z) r1).dp c1, .lst (.inl (.inl lH)) ((lD.mono g1.s fun _ z => z).dp c2), h1, h2, ?_⟩⟩
    exact q _ G1 S1 g1 (.bl _)
/-! ### three names at once; while -/
theorem sj_par3 {i j l : Nat} {tx : TA} {T1 T2 T3 : Ty} {O : Out} (h : PuA pu n n1 env tx [T1, T2, T3]) (k : O.nx n1 (((env.set i (some (.im T1))).set j (some (.im T2))).set l (some (.im T3)))) : Sj pu n env (tPar3 i j l tx) O := fun G0 H0 σ G H a e E h1 _ _ _ =>
  h G0 H0 σ G H a e _ fun vs G' H' b r => by
    match vs, r with
    | [v, w, u], r => exact ⟨v, w, u, rfl, h1 _ _ _ G' H' k (a.trans b) b.g ((((e.keep b).setIm i r.1).setIm j r.2.1).setIm l r.2.2.1)⟩
theorem sj_while {tc : TT} {tb : TS} {O : Out} (Iv : Nat → Nat → Env' → Prop) (m0 : Nat) (h0 : Iv m0 n env)
    (hs : ∀ k m e, Iv k m e → ∃ m1, ∃ B : Bool → Prop, PuT pu m m1 e tc B ∧ (B true → Sj pu m1 e tb { nx := fun m' e' => ∃ k', k' < k ∧ Iv k' m' e', ct := fun m' e' => ∃ k', k' < k ∧ Iv k' m' e', bk := O.nx, m := O.m, rt := O.rt }) ∧ (B false → O.nx m1 e)) : Sj pu n env (tWhile tc tb) O := fun G0 H0 σ G H a e E k1 k2 k3 k4 => by
  refine ⟨fun k σ' H' => ∃ m e' G', Iv k m e' ∧ Gr pu m G0 H0 G' H' ∧ EnvOk pu G0 H0 G' H' σ' e' ∧ Same G G', ⟨m0, n, env, G, h0, a, e, Same.refl _⟩, ?_⟩
  rintro k σ' H' ⟨m, e', G', iv, ga, ea, sa⟩
  obtain ⟨m1, B, ht, hb, hd⟩ := hs k m e' iv
  refine ht G0 H0 σ' G' H' ga ea _ fun b G2 S2 g2 hB => ?_
  cases b with
  | true =>
    refine ⟨fun σ2 H2 => ∃ k', k' < k ∧ ∃ m e' G', Iv k' m e' ∧ Gr pu m G0 H0 G' H2 ∧ EnvOk pu G0 H0 G' H2 σ2 e' ∧ Same G G', fun σ2 H2 ⟨k', hk, q⟩ => ⟨k', hk, q⟩, ?_⟩
    refine (hb hB).grown (sa.trans g2.g) (ga.trans g2) (ea.keep g2) ?_ ?_ ?_ k4
    · exact fun n' env' σ4 G4 H4 ⟨k', hk, iv4⟩ g4 s4 e4 => ⟨k', hk, n', env', G4, iv4, g4, e4, s4⟩
    · exact fun n' env' σ4 G4 H4 iv4 g4 s4 e4 => k1 _ _ _ _ _ iv4 g4 s4 e4
    · exact fun n' env' σ4 G4 H4 ⟨k', hk, iv4⟩ g4 s4 e4 => ⟨k', hk, n', env', G4, iv4, g4, e4, s4⟩
  | false => exact k1 _ _ σ' G2 S2 (hd hB) (ga.trans g2) (sa.trans g2.g) (ea.keep g2)
end
end Cp
set_option Elab.async false
set_option linter.all false
set_option maxRecDepth 100000
set_option maxHeartbeats 1000000
/-! D6: sorted of data, str of a bool, defs of the module. -/
namespace Cp
open PySem L2 PySem.Spec PyProof.Rows

/-! ### sorted -/
def sortD (ds : List PyData) : List PyData := ds.mergeSort (PySem.W.dataLe false id)
theorem sortD_perm (ds : List PyData) : (sortD ds).Perm ds := List.mergeSort_perm _ _
def rSortQ (K : PySem.W.Frag) : List V → Hp → VK → Prop := fun vs H Q => ∃ (a : Addr) (zs : List (V × PyData)), vs = [V.ref a] ∧ SqL K H a (zs.map (·.1)) ∧ DpAll K H (zs.map (·.1)) (zs.map (·.2)) ∧ PySem.W.AllAlike (zs.map (·.2)) ∧ PySem.W.Sortable (zs.map (·.2)) ∧ zs.length ≤ 10000 ∧ (∀ z ∈ zs, z.2.depth ≤ 8) ∧
  ∀ (ws : List (V × PyData)) (p : Addr), ws.Perm zs → ws.map (·.2) = sortD (zs.map (·.2)) → H p = none → Q (.ref p) (upd H p (.lst (ws.map (·.1))))
theorem each_rel : ∀ {zs : List (V × PyData)} {us : List Value}, Vals (zs.map (·.1)) us → PySem.W.EachIs (fun u z => RelV z.1 u) us zs
  | [], _, .nil => .nil
  | z :: zs, _, .cons r t => .cons r (each_rel t)
theorem rel_each : ∀ {zs : List (V × PyData)} {us : List Value}, PySem.W.EachIs (fun u z => RelV z.1 u) us zs → Vals (zs.map (·.1)) us
  | [], _, .nil => .nil
  | z :: zs, _, .cons r t => .cons r (rel_each t)
theorem dpall_mem {K : PySem.W.Frag} {H : Hp} : ∀ {zs : List (V × PyData)}, DpAll K H (zs.map (·.1)) (zs.map (·.2)) → ∀ z ∈ zs, Dp K H z.1 z.2
  | [], _, z, h => by cases h
  | y :: ys, h, z, hz => by
    cases h with
    | cons h1 h2 =>
      rcases List.mem_cons.mp hz with e | e
      · rw [e]
        exact h1
      · exact dpall_mem h2 z e
theorem each_mem2 {R S : Value → V × PyData → Prop} : ∀ {us : List Value} {zs : List (V × PyData)}, PySem.W.EachIs R us zs → (∀ u z, z ∈ zs → R u z → S u z) → PySem.W.EachIs S us zs
  | _, _, .nil, _ => .nil
  | _, _, .cons h t, f => .cons (f _ _ List.mem_cons_self h) (each_mem2 t fun u z hz => f u z (List.mem_cons_of_mem _ hz))
theorem cr_sortD {X : Cx} (hu : X.A.units + 64 < cLine) : CallR X (.builtin "sorted") (rSortQ X.K) := by
  intro pins s σ H vs us Q I r h
  obtain ⟨a, zs, rfl, hs, hd, al, so, hz, dep, q⟩ := h
  obtain ⟨its, rv, hl, _⟩ := I.list hs
  rw [Vals.ref1 r]
  have e1 := each_rel rv
  have er : PySem.W.EachIs (fun v z => ∃ as, Reads s.heap v z.2 as) its zs := each_mem2 e1 fun u z hm hr => Dp.reads I z.2 z.1 u (dpall_mem hd z hm) hr
  refine PySem.W.sorted_data (enc := fun z : V × PyData => z.2) hl.isList e1 er al so (Nat.le_trans hz (by decide)) (fun z hm => ?_) fun out ho eo => ?_
  · have := dep z hm
    show X.A.units + 2 + z.2.depth < cLine
    omega
  · obtain ⟨ep, he'⟩ := PyProof.Rows.sortedAll_at s.heap its (List.toArray out)
    have hp : (zs.mergeSort (PySem.W.dataLe false fun z : V × PyData => z.2)).Perm zs := List.mergeSort_perm _ _
    have hm : (zs.mergeSort (PySem.W.dataLe false fun z : V × PyData => z.2)).map (·.2) = sortD (zs.map (·.2)) := PySem.W.sort_maps (fun z : V × PyData => z.2) fun _ _ _ _ => rfl
    have hlen : ((zs.mergeSort (PySem.W.dataLe false fun z : V × PyData => z.2)).map (·.1)).length ≤ sizeLine := by
      rw [List.length_map, hp.length_eq]
      exact Nat.le_trans hz (by decide)
    exact ⟨.ref _, upd H (s.heap.objs.size + 1) (.lst _), I.laid (t' := s.toks) (fun _ _ => PyProof.Rows.sortedAll_old) (Nat.le_succ _) ⟨hlen, out, ep, rel_each eo, he'⟩, rfl, q _ _ hp hm (I.hok.fresh (Nat.le_succ _))⟩
theorem zip_maps {G : Hp} : ∀ {vs : List V} {ds : List PyData}, DqAll (fun _ => True) G vs ds → (vs.zip ds).map (·.1) = vs ∧ (vs.zip ds).map (·.2) = ds ∧ ∀ z ∈ vs.zip ds, Dq (fun _ => True) G z.1 z.2
  | _, _, .nil => ⟨rfl, rfl, fun z h => by cases h⟩
  | _, _, .cons h t => by
    obtain ⟨a, b, c⟩ := zip_maps t
    refine ⟨by rw [List.zip_cons_cons, List.map_cons, a], by rw [List.zip_cons_cons, List.map_cons, b], fun z hz => ?_⟩
    rw [List.zip_cons_cons] at hz
    rcases List.mem_cons.mp hz with e | e
    · rw [e]
      exact h
    · exact c z e
theorem tys_of {G0 G : Hp} : ∀ {zs : List (V × PyData)}, (∀ z ∈ zs, Dq (fun _ => True) G z.1 z.2) → Tys G0 G (zs.map (·.1)) ((zs.map (·.2)).map D)
  | [], _ => trivial
  | z :: zs, h => ⟨h z List.mem_cons_self, tys_of fun y hy => h y (List.mem_cons_of_mem _ hy)⟩
theorem rc_sortD {K : PySem.W.Frag} {ds : List PyData} (al : PySem.W.AllAlike ds) (so : PySem.W.Sortable ds) (hz : ds.length ≤ 10000) (hc : PyData.canLayAll0 ds = true) (dep : ∀ d ∈ ds, d.depth ≤ 8) : RC (rSortQ K) [D (.list ds)] (Ln ((sortD ds).map D)) := fun pu n G0 G H vs g g0 h Q q => by
  obtain ⟨v, rfl, h1⟩ := tys1 h
  obtain ⟨a, xs, rfl, _, ha, da⟩ := dq_list h1
  obtain ⟨e1, e2, e3⟩ := zip_maps da
  refine ⟨a, xs.zip ds, rfl, by rw [e1]; exact .inl (.inl (g.s _ _ ha)), by rw [e1, e2]; exact (da.mono g.s fun _ z => z).dp hc, by rw [e2]; exact al, by rw [e2]; exact so, ?_, fun z hm => ?_, fun ws p hp hw hn => ?_⟩
  · rw [List.length_zip]
    omega
  · refine dep z.2 ?_
    have := List.mem_map_of_mem (f := (·.2)) hm
    rw [e2] at this
    exact this
  · have gn := g.new (o := .lst (ws.map (·.1))) hn
    rw [e2] at hw
    refine q _ _ _ gn ⟨p, ws.map (·.1), rfl, none_back g0 (none_back g.s hn), upd_same, ?_⟩
    rw [← hw]
    exact tys_of fun z hz => (e3 z (hp.mem_iff.mp hz)).mono gn.g fun _ z => z

/-! ### str of a bool -/
def boolStr (b : Bool) : Str := if b then "True" else "False"
def rStrB : List V → Hp → VK → Prop := fun xs H Q => ∃ b, xs = [.bl b] ∧ Q (.str (boolStr b)) H
theorem call_strB {X : Cx} : CallR X (.type "str") rStrB := by
  intro pins s σ H xs us Q I r h
  obtain ⟨b, rfl, q⟩ := h
  obtain ⟨u, rfl, rfl⟩ := vals1 r
  exact PySem.P.str_of_bool ⟨.str _, H, I.tok _, ⟨_, rfl⟩, q⟩
theorem rc_strB {b : Bool} : RC rStrB [D (.bool b)] (D (.str (boolStr b))) := fun pu n G0 G H vs g _ h Q q => by
  obtain ⟨v, rfl, h1⟩ := tys1 h
  exact ⟨b, by rw [dq_bool h1], q _ G H g (.str _)⟩

/-! ### a def of the module, by its name and its promise -/
structure Dn (P : Program) (w : World) (K : PySem.W.Frag) (mg : Str → Option Value) (base : Heap) (k : Nat) (x : Str) (ps : List Str) (sp : Sp) : Prop where
  ex : ∃ f fd, mg x = some (.ref f) ∧ PySem.W.keepIn K (.ref f) = true ∧ Binds K fd ps [] ∧ FnOk P w K mg base CX0 k f fd ps sp
/-- a method of the class at C -/
structure Dm (P : Program) (w : World) (K : PySem.W.Frag) (mg : Str → Option Value) (base : Heap) (k : Nat) (C : Addr) (m : Str) (ps : List Str) (sp : Sp) : Prop where
  ex : ∃ f fd, Cls K C ∧ Meth K C m f ∧ Binds K fd ps [] ∧ FnOk P w K mg base CX0 k f fd ps sp
/-- an __init__ of the class at C -/
structure Di (P : Program) (w : World) (K : PySem.W.Frag) (mg : Str → Option Value) (base : Heap) (k : Nat) (C : Addr) (x : Str) (ps : List Str) (sp : Sp) : Prop where
  ex : ∃ f fd, mg x = some (.ref C) ∧ Mk K C f ∧ Binds K fd ps [] ∧ FnOk P w K mg base CX0 k f fd ps sp
section
variable {X : Cx} {j : Nat} {x m : Str} {ps : List Str} {sp sp' : Sp} {e o : Expr} {es : List Expr} {t : TA} {ta : TE} {p pos apos : Pos} {C : Addr}
theorem pe_callD (d : Dn X.prog X.w X.K X.mg X.base j x ps sp) (hr : Room j X.A) (hg : Gl X x) (ha : PA X (e :: es) t) (hdb : (x == ("__debug__" : Str)) = false := by decide)
    (he : starEach (e :: es) X.env = (false, eval e X.env) :: starEach es X.env := by rfl) (hpl : (backTo pos (starEach es X.env)).any (·.1) = false := by rfl) : PE X (.Call (.Name x p) (e :: es) [] pos) (tCall sp [] E0 t) := by
  obtain ⟨f, fd, hm, kp, b, F⟩ := d.ex
  exact pe_call F hr hg hm kp b .nil pass0 ha hdb he hpl
theorem pe_methD {pl : Sem Bool} (he : PE X o ta) (d : Dm X.prog X.w X.K X.mg X.base j C m ps sp) (hr : Room j X.A)
    (ht : eval (.Call (.Attribute o m apos) [] [] pos) X.env = (do
      let ov ← eval o X.env
      standAt apos.atName
      let (f, first) ← holding [ov] (getMethod ov m pl)
      callWith pos f first (backTo pos (starEach [] X.env)) (backToKw pos (keywordEach [] X.env))) := by rfl) : PE X (.Call (.Attribute o m apos) [] [] pos) (tMeth C m sp [] E0 ta tNil) := by
  obtain ⟨f, fd, hc, hm, b, F⟩ := d.ex
  exact pe_meth0 he hc hm F hr b .nil pass0 ht
theorem pe_makeD (d : Di X.prog X.w X.K X.mg X.base j C x ps sp) (hr : Room (j + 1) X.A) (hg : Gl X x) (ha : PA X (e :: es) t) (hdb : (x == ("__debug__" : Str)) = false := by decide)
    (he : starEach (e :: es) X.env = (false, eval e X.env) :: starEach es X.env := by rfl) (hpl : (backTo pos (starEach es X.env)).any (·.1) = false := by rfl) : PE X (.Call (.Name x p) (e :: es) [] pos) (tMake C sp [] E0 t) := by
  obtain ⟨f, fd, hm, M, b, F⟩ := d.ex
  exact pe_make M F hr hg hm b .nil pass0 ha hdb he hpl
end
section
variable {P : Program} {w : World} {K : PySem.W.Frag} {mg : Str → Option Value} {base : Heap} {j k : Nat} {x m q : Str} {ps N : List Str} {sp sp' : Sp} {params : Arguments} {body : List Stmt} {scope : Scope} {f C : Addr}
theorem Dn.imp (d : Dn P w K mg base k x ps sp) (h : ∀ vs H Q E, sp' vs H Q E → sp vs H Q E) : Dn P w K mg base k x ps sp' := by
  obtain ⟨f, fd, a, b, c, F⟩ := d.ex
  exact ⟨f, fd, a, b, c, F.imp h⟩
/-- what holds while a def's body runs, and what is to be shown of it -/
abbrev BodyOk (P : Program) (w : World) (K : PySem.W.Frag) (mg : Str → Option Value) (base : Heap) (N : List Str) (q : Str) (body : List Stmt) (scope : Scope) (f : Addr) (k : Nat) (sp : Sp) : Prop :=
  ∀ (cdv : Value) (A : Around) (outer : List PySem.Env) (s : Shared) (H : Hp) (vs : List V) (Q : VK) (E : XK), Room k (A.deeper (envOfC q scope s.heap.objs.size f cdv)) → (A.deeper (envOfC q scope s.heap.objs.size f cdv)).units + 64 < cLine → (A.deeper (envOfC q scope s.heap.objs.size f cdv)).units + 65 < cLine → sp vs H Q E →
    ∃ t, PSs (cxOf CX0 P w K mg base N q scope f cdv A outer s H E).nox body t ∧ t { nx := fun _ H' => Q .non H', rt := Q } (L2.start N vs) H
theorem dn_mk (F : ∃ fd, FunD K x q params body scope [] [] f fd) (hm : mg x = some (.ref f)) (S : FnScope N ps scope) (len : ∀ vs H Q E, sp vs H Q E → vs.length = ps.length)
    (hb : ∀ (kV doc pm : Value) (an : Option Addr) (cdv ct : Value) (us : List Value), us.length = ps.length → bindArgs (PySem.W.fnOf x q params body scope .none kV doc pm an cdv ct) ⟨us, []⟩ = pure (ps.zip us))
    (b : BodyOk P w K mg base N q body scope f k sp) : Dn P w K mg base (k + 1) x ps sp := by
  obtain ⟨fd, F⟩ := F
  refine ⟨f, fd, hm, F.kp, F.bindsN hb, F.ok S len fun cdv A outer s H vs Q E hr h => ?_⟩
  obtain ⟨t, h1, h2⟩ := b cdv A outer s H vs Q E hr hr.units (by have := hr.un; omega) h
  exact ⟨t, h1.nox, h2⟩
theorem dm_mk (F : ∃ fd, FunD K x q params body scope [] [] f fd) (c : Cls K C) (hm : Meth K C m f) (S : FnScope N ps scope) (len : ∀ vs H Q E, sp vs H Q E → vs.length = ps.length)
    (hb : ∀ (kV doc pm : Value) (an : Option Addr) (cdv ct : Value) (us : List Value), us.length = ps.length → bindArgs (PySem.W.fnOf x q params body scope .none kV doc pm an cdv ct) ⟨us, []⟩ = pure (ps.zip us))
    (b : BodyOk P w K mg base N q body scope f k sp) : Dm P w K mg base (k + 1) C m ps sp := by
  obtain ⟨fd, F⟩ := F
  refine ⟨f, fd, c, hm, F.bindsN hb, F.ok S len fun cdv A outer s H vs Q E hr h => ?_⟩
  obtain ⟨t, h1, h2⟩ := b cdv A outer s H vs Q E hr hr.units (by have := hr.un; omega) h
  exact ⟨t, h1.nox, h2⟩
theorem di_mk {xc : Str} (F : ∃ fd, FunD K x q params body scope [] [] f fd) (hg : mg xc = some (.ref C)) (hm : Mk K C f) (S : FnScope N ps scope) (len : ∀ vs H Q E, sp vs H Q E → vs.length = ps.length)
    (hb : ∀ (kV doc pm : Value) (an : Option Addr) (cdv ct : Value) (us : List Value), us.length = ps.length → bindArgs (PySem.W.fnOf x q params body scope .none kV doc pm an cdv ct) ⟨us, []⟩ = pure (ps.zip us))
    (b : BodyOk P w K mg base N q body scope f k sp) : Di P w K mg base (k + 1) C xc ps sp := by
  obtain ⟨fd, F⟩ := F
  refine ⟨f, fd, hg, hm, F.bindsN hb, F.ok S len fun cdv A outer s H vs Q E hr h => ?_⟩
  obtain ⟨t, h1, h2⟩ := b cdv A outer s H vs Q E hr hr.units (by have := hr.un; omega) h
  exact ⟨t, h1.nox, h2⟩
end
end Cp
set_option Elab.async false
set_option linter.all false
set_option maxRecDepth 100000
set_option maxHeartbeats 4000000
/-! D7: len(set(xs)) of a list of texts. -/
namespace Cp
open PySem L2 PySem.Spec PyProof.Rows
/-- how many unlike texts there are -/
def kinds : List Str → Nat
  | [] => 0
  | x :: r => if x ∈ r then kinds r else kinds r + 1
theorem kinds_le : ∀ xs : List Str, kinds xs ≤ xs.length
  | [] => Nat.le_refl _
  | x :: r => by
    have ih := kinds_le r
    unfold kinds
    rw [List.length_cons]
    split <;> omega
theorem kinds_nodup : ∀ xs : List Str, kinds xs = xs.length ↔ xs.Nodup
  | [] => ⟨fun _ => List.nodup_nil, fun _ => rfl⟩
  | x :: r => by
    have ih := kinds_nodup r
    have hl := kinds_le r
    unfold kinds
    rw [List.length_cons, List.nodup_cons]
    by_cases hx : x ∈ r
    · rw [if_pos hx]
      exact ⟨fun h => by omega, fun h => absurd hx h.1⟩
    · rw [if_neg hx]
      exact ⟨fun h => ⟨hx, ih.mp (by omega)⟩, fun h => by rw [ih.mpr h.2]⟩
section
variable {prog : Program} {w : World} {A : Around} {R : Result → Shared → Prop}
/-- the texts told so far (the last first) are in the set -/
abbrev Held (prog : Program) (w : World) (h : Heap) (S : Addr) (old : List Str) : Prop := h.SetOf (PySem.strKind prog w) S (fun k => decide (k ∈ old)) (kinds old)
theorem held_add {h : Heap} {S : Addr} {old : List Str} {x : Str} (e : h.SetOf (PySem.strKind prog w) S (fun k => decide (k ∈ old) || decide (k = x)) (if decide (x ∈ old) = true then kinds old else kinds old + 1)) : Held prog w h S (x :: old) := by
  refine SetOf_congr e (fun k => ?_) ?_
  · by_cases h1 : k = x <;> by_cases h2 : k ∈ old <;> simp [h1, h2]
  · show _ = (if x ∈ old then kinds old else kinds old + 1)
    by_cases h2 : x ∈ old <;> simp [h2]
theorem fill_set {I l S : Addr} {items : Array Value} (hh : A.in1.handled = none) (hlI : l ≠ I) (hSI : S ≠ I) (hSl : S ≠ l) : ∀ (rest old : List Str) (us : List Value) (s : Shared), StrsAre us rest → items.toList.drop old.length = us → old.length + rest.length + 1 < scanBound →
    (s.heap.IsListIter I l old.length ∧ s.heap.IsList l items) → Held prog w s.heap S old →
    (∀ (h' : Heap) (tk : Nat), (∀ b o, b ≠ S → b ≠ I → s.heap.get? b = some o → h'.get? b = some o) → Held prog w h' S (rest.reverse ++ old) → R (.ok (.ret .none)) { s with heap := h', toks := tk }) →
    codeAny (model prog w) A (.builtin "set.update.loop" ⟨[.ref S, .ref I], []⟩) R s := by
  intro rest
  induction rest with
  | nil =>
    intro old us s hus hdrop hb hst hS hR
    cases hus
    have hn : items.size ≤ old.length := by
      have := List.drop_eq_nil_iff.mp hdrop
      simpa using this
    refine codeAny_builtin PyProof.Rows.F.entry_set_update_loop ?_
    rw [Around.under_plainId PyProof.Rows.F.plain_set_update_loop _]
    show wpAny _ A.in1 (pyNext (.ref I) >>= _) _ _ s
    refine wpAny_bind (wpAny_pyNext_list_end hh hst.1 hst.2 (Array.getElem?_eq_none hn) fun h' k => ?_)
    show wpAny _ A.in1 (ret Value.none) _ _ _
    refine wpAny_pure (hR h' s.toks (fun b o _ hbI e => k b o hbI e) ?_)
    obtain ⟨o, es, ep, t, ho, r⟩ := hS
    exact ⟨o, es, ep, t, k S o hSI ho, r⟩
  | cons x rest ih =>
    intro old us s hus hdrop hb hst hS hR
    cases hus with
    | cons _ t hus2 =>
    rename_i vs
    have hat : items.toList[old.length]? = some (.str x t) := by
      have h1 := congrArg (fun z => z[0]?) hdrop
      rw [List.getElem?_drop] at h1
      simpa using h1
    have hat2 : items[old.length]? = some (.str x t) := by simpa using hat
    have hdrop2 : items.toList.drop (x :: old).length = vs := by
      have h1 := congrArg (List.drop 1) hdrop
      rw [List.drop_drop] at h1
      simpa [Nat.add_comm] using h1
    refine codeAny_builtin PyProof.Rows.F.entry_set_update_loop ?_
    rw [Around.under_plainId PyProof.Rows.F.plain_set_update_loop _]
    show wpAny _ A.in1 (pyNext (.ref I) >>= _) _ _ s
    refine wpAny_bind (wpAny_pyNext_list_item hst.1 hst.2 hat2 fun h1 it1 sb1 => ?_)
    have l1 : h1.IsList l items := hst.2.extBut sb1.extBut hlI
    have S1 : Held prog w h1 S old := by
      obtain ⟨o, es, ep, tb, ho, r⟩ := hS
      exact ⟨o, es, ep, tb, sb1.extBut S o hSI ho, r⟩
    show wpAny _ A.in1 (holding [Value.str x t] (setAdd S (.str x t)) >>= _) _ _ _
    refine wpAny_bind (wpAny_holding ?_)
    unfold setAdd
    refine wpAny_holding (wpAny_bind ((PySem.strKind prog w).pyHash (k := x) (strKind_is _ _ _ _) ?_))
    have hk := kinds_le old
    have hroom : kinds old + 1 < scanBound := by
      rw [List.length_cons] at hb
      omega
    refine wpAny_setAddHashed_of (knd := PySem.strKind prog w) (s := { s with heap := h1, toks := s.toks + 1 }) (strKind_is _ _ _ _) rfl S1 hroom fun h2 sb2 S2 => ?_
    have it2 : h2.IsListIter I l (x :: old).length := it1.at fun o e => (sb2.2 I (Ne.symm hSI)).trans e
    have l2 : h2.IsList l items := by
      obtain ⟨o, ho, r⟩ := l1
      exact ⟨o, (sb2.2 l (Ne.symm hSl)).trans ho, r⟩
    refine wpAny_pure ⟨plainId_quiet PyProof.Rows.F.plain_set_update_loop _, ih (x :: old) vs _ hus2 hdrop2 (by rw [List.length_cons] at hb ⊢; omega) ⟨it2, l2⟩ (held_add S2) fun h' tk k hS' => ?_⟩
    refine hR h' tk (fun b o hbS hbI e => k b o hbS hbI ((sb2.2 b hbS).trans (sb1.extBut b o hbI e))) ?_
    rw [List.reverse_cons, List.append_assoc]
    exact hS'
end
section
variable {prog : Program} {w : World} {A : Around} {E : Value → Shared → Prop} {s : Shared}
abbrev freshSet (led : Bool) : Obj := { cls := .type "set", dict := none, data := .set #[] 0 (.fresh 0 0 led) }
theorem set_of_texts {l : Addr} {items : Array Value} {xs : List Str} {Q : Value → Shared → Prop} (hh : A.handled = none) (hl : s.heap.IsList l items) (hi : StrsAre items.toList xs) (hb : xs.length + 1 < scanBound)
    (h : ∀ (h' : Heap) (tk : Nat), Held prog w h' s.heap.objs.size (xs.reverse ++ []) → (∀ b o, s.heap.get? b = some o → h'.get? b = some o) → Q (.ref s.heap.objs.size) { s with heap := h', toks := tk }) :
    wpAny (model prog w) A (call (.type "set") [.ref l]) Q E s := by
  obtain ⟨c, tl, hmro⟩ := PySem.F.called_set.mro
  have hmade := PySem.F.called_set.made
  have hsub := PySem.F.called_set.sub
  refine wpAny_call (codeAny_of_tree ?_)
  show wpAny _ _ (callAny (.type "set") _) _ _ _
  refine wpAny_pure ⟨Code.quiet_builtin _ (by decide +kernel), codeAny_builtin PySem.F.entry_type_call ?_⟩
  rw [Around.under_plain (weight_type_call_type "set" [.ref l] []) rfl]
  have f1 := PySem.F.called_set.notType
  have f2 := PySem.F.called_set.canCreate
  have f3 := PySem.F.typeCall_set_1 (.ref l)
  repeat (any_goals (first | assumption | wp_step))
  refine codeAny_mono (code_set_new_1 (.ref l) (E := E) (Q₁ := fun obj s1 => ∃ led : Bool, obj = .ref s.heap.objs.size ∧ s1 = { s with heap := s.heap.push (freshSet led) }) fun led => ⟨led, rfl, rfl⟩) fun r s1 hr => ?_
  cases r with
  | error e => exact hr
  | ok fl =>
    cases fl with
    | next => exact hr.elim
    | brk => exact hr.elim
    | cont => exact hr.elim
    | ret obj =>
      obtain ⟨led, rfl, rfl⟩ := hr
      have o1 : (s.heap.push (freshSet led)).get? s.heap.objs.size = some (freshSet led) := Heap.get?_push_size _ rfl
      have g1 := PySem.F.called_set.init.lookup
      have g2 := PySem.F.called_set.init.bind (.ref s.heap.objs.size)
      have ty1 : Shared.TypeIs { s with heap := s.heap.push (freshSet led) } (.ref s.heap.objs.size) "set" := ⟨_, o1, rfl⟩
      repeat (any_goals (first | assumption | wp_step))
      refine codeAny_mono (codeAny_call_builtin (R := wants (fun v s2 => v = .none ∧ ∃ h' tk, s2 = { s with heap := h', toks := tk } ∧ Held prog w h' s.heap.objs.size (xs.reverse ++ []) ∧ ∀ b o, s.heap.get? b = some o → h'.get? b = some o) E)
        PySem.F.called_set.init.plain PySem.F.entry_set_init (check_set_init_1 ty1 ?_)) fun r2 s2 hr2 => ?_
      · obtain ⟨⟨oc, od, dt, sl⟩, ho, hc, nn, hd⟩ := hl
        simp only at hc hd
        subst hc hd
        have o2 : (s.heap.push (freshSet led)).get? l = some { cls := .type "list", dict := od, data := .seq items nn, slots := sl } := Heap.get?_push_of_some _ ho
        have k1 := PySem.F.sub_list_set
        have k2 := PySem.F.sub_list_frozenset
        have k3 : (Value.type "list" == Value.type "dict") = false := by decide
        unfold Builtin.«set.__init__» noKeywords Builtin.Frozenset.updateFrom
        generalize hPI : pyIter = PI
        wp_walk
        subst hPI
        have lt := Heap.lt_size ho
        refine wpAny_pyIter_list ⟨_, o2, rfl, nn, rfl⟩ (wpAny_bind (wpAny_runValue ?_))
        refine fill_set (I := (s.heap.push (freshSet led)).objs.size) (l := l) (S := s.heap.objs.size) (items := items) (by simp [hh]) (by rw [Heap.size_push]; exact Nat.ne_of_lt (Nat.lt_succ_of_lt lt))
          (by rw [Heap.size_push]; exact Nat.ne_of_lt (Nat.lt_succ_self _)) (Nat.ne_of_gt lt) xs [] items.toList _ hi rfl (by simpa using hb) ⟨⟨_, Heap.get?_push_size _ rfl, rfl, rfl⟩, ⟨_, Heap.get?_push_of_some _ o2, rfl, nn, rfl⟩⟩ ?_ fun h' tk k hS => ?_
        · exact SetOf_congr ((setObjOf_fresh (knd := PySem.strKind prog w) led).setOf (Heap.get?_push_of_some _ o1) (by unfold scanBound; omega)) (fun k => by simp) rfl
        · refine wpAny_pure ?_
          show wpAny _ _ (ret Value.none) _ _ _
          refine wpAny_pure ⟨rfl, h', tk, rfl, hS, fun b o e => ?_⟩
          have hb1 := Heap.lt_size e
          refine k b o (Nat.ne_of_lt hb1) ?_ (Heap.get?_push_of_some _ (Heap.get?_push_of_some _ e))
          rw [Heap.size_push]
          exact Nat.ne_of_lt (Nat.lt_succ_of_lt hb1)
      · cases r2 with
        | error e => exact hr2
        | ok fl2 =>
          cases fl2 with
          | next => exact hr2.elim
          | brk => exact hr2.elim
          | cont => exact hr2.elim
          | ret v =>
            obtain ⟨rfl, h', tk, rfl, hS, hk⟩ := hr2
            repeat (any_goals (first | assumption | wp_step))
            exact h _ _ hS hk
end
/-- len(set(xs)), xs a list of texts -/
def tKinds (K : PySem.W.Frag) (ta : TE) : TE := fun σ H Q => ta σ H fun x H1 => ∃ l, ∃ xs : List Str, x = .ref l ∧ SqL K H1 l (xs.map V.str) ∧ xs.length ≤ 4000 ∧ Q (.int (kinds xs.reverse : Nat)) H1
theorem pe_lenSetS {X : Cx} {a : Expr} {ta : TE} {p p2 q pos : Pos} (hc : X.calm = true) (hg : Gl X "len") (hm : X.mg "len" = none) (hg2 : Gl X "set") (hm2 : X.mg "set" = none) (ha : PE X a ta)
    (na : starEach [a] X.env = (false, eval a X.env) :: starEach [] X.env := by rfl) : PE X (.Call (.Name "len" p) [.Call (.Name "set" p2) [a] [] q] [] pos) (tKinds X.K ta) := by
  refine ⟨fun pins s σ H Q I h => Call_ (ld_blt I hg hm boot_len (PyProof.Rows.callWith_builtin1 (PyProof.Rows.args_cons (Call_ (ld_blt I hg2 hm2 boot_set ?_)) rfl) rfl rfl))⟩
  refine PyProof.Rows.callWith_type1 (PyProof.Rows.args_cons (thn (ha.run pins s σ H _ I h) fun v s1 ⟨x, H1, I1, r1, l, xs, ex, hq, hz, q1⟩ => PyProof.Rows.args_nil ?_) na) na rfl
  subst ex
  cases r1
  obtain ⟨its, r, pl, _⟩ := I1.list hq
  refine set_of_texts (I1.ok.hd hc) pl.isList (by simpa using r.strs) (by unfold scanBound; omega) fun h' tk hS hk => ?_
  refine PyProof.Rows.args_nil ?_
  obtain ⟨o, es, ep, t, ho, hex, hd, _, _, hb, hf, hn⟩ := hS
  rw [List.append_nil] at hn
  have I2 : Inv X pins σ H1 { s1 with heap := h', toks := tk } := I1.kept hk
  refine call_len_set ho hex hd hf (by have : es.size < 4096 := hb; omega) ⟨.int (kinds xs.reverse : Nat), H1, I2.tok _, ⟨_, by rw [hn]⟩, q1⟩
theorem pu_kinds {K : PySem.W.Frag} {pu : Option Addr} {n n1 : Nat} {env : Env'} {te : TE} {xs : List Str} (h : Pu pu n n1 env te (D (.list (xs.map .str)))) (hz : xs.length ≤ 4000) : Pu pu n n1 env (tKinds K te) (D (.int (kinds xs.reverse : Nat))) := fun G0 H0 σ G H a e Q q =>
  h G0 H0 σ G H a e _ fun x G1 S1 b1 r1 => by
    obtain ⟨l, vs, rfl, _, hv, dv⟩ := dq_list r1
    rw [strs_vals dv] at hv
    exact ⟨l, xs, rfl, .inl (.inl (b1.s _ _ hv)), hz, q _ G1 S1 b1 (.int _)⟩
end Cp
set_option Elab.async false
set_option linter.all false
set_option maxRecDepth 100000
set_option maxHeartbeats 1000000
/-! D6b: the rules with the written part K told (a comprehension's reading may not speak of its block). -/
namespace Cp
open PySem L2 PySem.Spec PyProof.Rows
section
variable {X : Cx} (K : PySem.W.Frag)
theorem k_eq (hu : X.A.units + 64 < cLine) (hK : X.K = K := by rfl) : OpR X (compareOp .Eq) (rEqD K) := by subst hK; exact op_eqD hu
theorem k_ne (hu : X.A.units + 64 < cLine) (hK : X.K = K := by rfl) : OpR X (compareOp .NotEq) (rNeD K) := by subst hK; exact op_neD hu
theorem k_in (hu : X.A.units + 65 < cLine) (hK : X.K = K := by rfl) : OpR X (compareOp .In) (rInA K) := by subst hK; exact op_inA hu
theorem k_ni (hu : X.A.units + 65 < cLine) (hK : X.K = K := by rfl) : OpR X (compareOp .NotIn) (rNiA K) := by subst hK; exact op_niA hu
theorem k_ix (hK : X.K = K := by rfl) : IxR X (rIx K) := by subst hK; exact ix_seq
theorem k_sl (hK : X.K = K := by rfl) : SlR X (rSlL K) := by subst hK; exact sl_list
theorem k_len (hK : X.K = K := by rfl) : CallR X (.builtin "len") (rLenA K) := by subst hK; exact call_lenA
theorem k_isi (hK : X.K = K := by rfl) : CallR X (.builtin "isinstance") (rIsi K) := by subst hK; exact call_isi
theorem k_list (hK : X.K = K := by rfl) : CallR X (.type "list") (rListQ K) := by subst hK; exact call_list_of
theorem k_tuple (hK : X.K = K := by rfl) : CallR X (.type "tuple") (rTupQ K) := by subst hK; exact call_tuple_of
theorem k_sorted (hu : X.A.units + 64 < cLine) (hK : X.K = K := by rfl) : CallR X (.builtin "sorted") (rSortQ K) := by subst hK; exact cr_sortD hu
theorem k_sum (hc : X.calm = true) (hK : X.K = K := by rfl) : CallR X (.builtin "sum") (rSum K) := by subst hK; exact cr_sum hc
def rDictQ (K : PySem.W.Frag) : List V → Hp → VK → Prop := fun xs H Q => ∃ (a : Addr) (ps : List Addr) (kvs : List (Key × V)), xs = [.ref a] ∧ SqL K H a (ps.map V.ref) ∧ Paired (fun p kv => SqT K H p [kV kv.1, kv.2]) ps kvs ∧ ∀ p, H p = none → Q (.ref p) (upd H p (.dK (mergeK [] kvs)))
theorem k_dict (hc : X.calm = true) (hK : X.K = K := by rfl) : CallR X (.type "dict") (rDictQ K) := by subst hK; exact call_dictP hc
variable {e l tg : Expr} {es : List Expr} {f : Str} {pos p : Pos} {te ta tl : TE} {t : TA}
theorem k_fld (he : PE X e ta) (hb : attributeBase e f X.env (eval e X.env) = eval e X.env) (hK : X.K = K := by rfl) : PE X (.Attribute e f pos) (tFld K ta f) := by subst hK; exact pe_fld he hb
theorem k_over (hl : PE X l tl) (hK : X.K = K := by rfl) : PI X tg l (iList K tl) := by subst hK; exact pi_list hl
theorem k_enum {tpos : Pos} {elts : List Expr} {kk : Nat} (hg : Gl X "enumerate") (hm : X.mg "enumerate" = none) (ha : PA X [e] t) (hs : starEach [e] X.env = [(false, eval e X.env)] := by rfl) (hK : X.K = K := by rfl) :
    PI X (.Tuple elts kk tpos) (.Call (.Name "enumerate" p) [e] [] pos) (iEnum K t) := by subst hK; exact pi_enum hg hm ha hs
theorem k_tgt {k n : Nat} {tt : TGs} (hc : X.calm = true) (h : PGs X es tt) (hn : (assignEach es X.env).length = n := by rfl) (hst : (assignEach es X.env).findIdx? (·.1) = none := by rfl) (hK : X.K = K := by rfl) : PG X (.Tuple es k pos) (gTup K n tt) := by subst hK; exact pg_tup hc h hn hst
theorem k_star (he : PE X e te) (hr : PA X es t) (hs : starEach (.Starred e p :: es) X.env = (true, eval e X.env) :: starEach es X.env := by rfl) (hK : X.K = K := by rfl) : PA X (.Starred e p :: es) (StX.tStar K te t) := by subst hK; exact StX.pa_star he hr hs
theorem k_rev {k : Nat} {p1 p2 p3 : Pos} (he : PE X e te) (hK : X.K = K := by rfl) : PE X (.Subscript e (.Slice none none (some (.UnaryOp .USub (.Constant (.int 1) k p1) p2)) p3) pos) (tRevL K te) := by subst hK; exact pe_revL he
theorem k_kinds {p2 q : Pos} (hc : X.calm = true) (hg : Gl X "len") (hm : X.mg "len" = none) (hg2 : Gl X "set") (hm2 : X.mg "set" = none) (ha : PE X e te)
    (na : starEach [e] X.env = (false, eval e X.env) :: starEach [] X.env := by rfl) (hK : X.K = K := by rfl) : PE X (.Call (.Name "len" p) [.Call (.Name "set" p2) [e] [] q] [] pos) (tKinds K te) := by subst hK; exact pe_lenSetS hc hg hm hg2 hm2 ha na
theorem k_bm {T id : String} {name : Str} {o : Expr} {to : TE} {cpos apos : Pos} {r : V → List V → Hp → VK → Prop} (pa : PlainAttrs T) (slot : Slot T name id) (hty : typeOf (.builtin id) = pure (.type "method_descriptor")) (hm : MtR X id r) (ho : PE X o to) (ha : PA X (e :: es) t)
    (hbase : attributeBase o name X.env (eval o X.env) = eval o X.env := by rfl)
    (hfew : ((backTo cpos (starEach (e :: es) X.env)).all (fun x => !x.1) && (backToKw cpos (keywordEach [] X.env)).all (fun x => x.1.isSome)
      && decide ((e :: es).length + ([] : List Keyword).length + (if ([] : List Keyword).isEmpty then 0 else 1) < 30)) = true := by rfl)
    (hline : (apos.endLine == cpos.line) = true := by rfl) (hs : starEach (e :: es) X.env = (false, eval e X.env) :: starEach es X.env := by rfl) (hplain : (backTo cpos (starEach es X.env)).any (·.1) = false := by rfl) (hK : X.K = K := by rfl) :
    PE X (.Call (.Attribute o name apos) (e :: es) [] cpos) (tBM K T r to t) := by subst hK; exact pe_bm pa slot hty hm ho ha hbase hfew hline hs hplain
theorem k_set {o v : Expr} {tv : TE} {pos' : Pos} (ha : PE X o ta) (hv : PE X v tv) (hs : swapsWith v (some (.Attribute o f pos')) pos.line X.env = pure false) (hK : X.K = K := by rfl) : PS X (.Assign [.Attribute o f pos'] v pos) (sFld K ta tv f) := by subst hK; exact ps_fld ha hv hs
end
end Cp
set_option Elab.async false
set_option linter.all false
set_option maxRecDepth 100000
set_option maxHeartbeats 1000000
namespace Cp
open PySem L2 PySem.Spec PyProof.Rows
abbrev CP (K : PySem.W.Frag) : Addr := He.ga K "Panel"
abbrev CB (K : PySem.W.Frag) : Addr := He.ga K "Book"
/-! what the walk asks of the text, behind the top -/
structure Tx (K : PySem.W.Frag) (mg : Str → Option Value) : Prop where
  c : He.SaysD fa fn K
  glo : ∀ x : Str, (He.Fa.glo x).ok K = true → mg x = some (.ref (He.ga K x))
  free : ∀ x : Str, (He.Fa.free x).ok K = true → mg x = none
  ltr : ∃ t, mg "LETTERS" = some (.str "abcdefghijklmnopqrstuvwxyz" t)
  i_Panel : C8.InsC K (CP K)
  i_Book : C8.InsC K (CB K)
section
variable {K : PySem.W.Frag} {mg : Str → Option Value}
theorem Tx.g_is_name (T : Tx K mg) : mg "is_name" = some (.ref (He.ga K "is_name")) := T.glo _ (T.c.fact 0 (f := .glo "is_name") rfl)
theorem Tx.g_are_names (T : Tx K mg) : mg "are_names" = some (.ref (He.ga K "are_names")) := T.glo _ (T.c.fact 1 (f := .glo "are_names") rfl)
theorem Tx.g_are_entries (T : Tx K mg) : mg "are_entries" = some (.ref (He.ga K "are_entries")) := T.glo _ (T.c.fact 2 (f := .glo "are_entries") rfl)
theorem Tx.g_is_ascending (T : Tx K mg) : mg "is_ascending" = some (.ref (He.ga K "is_ascending")) := T.glo _ (T.c.fact 3 (f := .glo "is_ascending") rfl)
theorem Tx.g_is_lot (T : Tx K mg) : mg "is_lot" = some (.ref (He.ga K "is_lot")) := T.glo _ (T.c.fact 4 (f := .glo "is_lot") rfl)
theorem Tx.g_is_field (T : Tx K mg) : mg "is_field" = some (.ref (He.ga K "is_field")) := T.glo _ (T.c.fact 5 (f := .glo "is_field") rfl)
theorem Tx.g_check_entries (T : Tx K mg) : mg "check_entries" = some (.ref (He.ga K "check_entries")) := T.glo _ (T.c.fact 6 (f := .glo "check_entries") rfl)
theorem Tx.g_spots_of (T : Tx K mg) : mg "spots_of" = some (.ref (He.ga K "spots_of")) := T.glo _ (T.c.fact 7 (f := .glo "spots_of") rfl)
theorem Tx.g_is_row (T : Tx K mg) : mg "is_row" = some (.ref (He.ga K "is_row")) := T.glo _ (T.c.fact 8 (f := .glo "is_row") rfl)
theorem Tx.g_are_rows (T : Tx K mg) : mg "are_rows" = some (.ref (He.ga K "are_rows")) := T.glo _ (T.c.fact 9 (f := .glo "are_rows") rfl)
theorem Tx.g_check_panel (T : Tx K mg) : mg "check_panel" = some (.ref (He.ga K "check_panel")) := T.glo _ (T.c.fact 10 (f := .glo "check_panel") rfl)
theorem Tx.g_is_line (T : Tx K mg) : mg "is_line" = some (.ref (He.ga K "is_line")) := T.glo _ (T.c.fact 11 (f := .glo "is_line") rfl)
theorem Tx.g_copied (T : Tx K mg) : mg "copied" = some (.ref (He.ga K "copied")) := T.glo _ (T.c.fact 12 (f := .glo "copied") rfl)
theorem Tx.g_check_book (T : Tx K mg) : mg "check_book" = some (.ref (He.ga K "check_book")) := T.glo _ (T.c.fact 13 (f := .glo "check_book") rfl)
theorem Tx.g_check_two (T : Tx K mg) : mg "check_two" = some (.ref (He.ga K "check_two")) := T.glo _ (T.c.fact 14 (f := .glo "check_two") rfl)
theorem Tx.g_is_met (T : Tx K mg) : mg "is_met" = some (.ref (He.ga K "is_met")) := T.glo _ (T.c.fact 15 (f := .glo "is_met") rfl)
theorem Tx.g_break_of (T : Tx K mg) : mg "break_of" = some (.ref (He.ga K "break_of")) := T.glo _ (T.c.fact 16 (f := .glo "break_of") rfl)
theorem Tx.g_first_break (T : Tx K mg) : mg "first_break" = some (.ref (He.ga K "first_break")) := T.glo _ (T.c.fact 17 (f := .glo "first_break") rfl)
theorem Tx.g_why_broken (T : Tx K mg) : mg "why_broken" = some (.ref (He.ga K "why_broken")) := T.glo _ (T.c.fact 18 (f := .glo "why_broken") rfl)
theorem Tx.g_keeps (T : Tx K mg) : mg "keeps" = some (.ref (He.ga K "keeps")) := T.glo _ (T.c.fact 19 (f := .glo "keeps") rfl)
theorem Tx.g_offs_of (T : Tx K mg) : mg "offs_of" = some (.ref (He.ga K "offs_of")) := T.glo _ (T.c.fact 20 (f := .glo "offs_of") rfl)
theorem Tx.g_walked (T : Tx K mg) : mg "walked" = some (.ref (He.ga K "walked")) := T.glo _ (T.c.fact 21 (f := .glo "walked") rfl)
theorem Tx.g_is_stuck_lot (T : Tx K mg) : mg "is_stuck_lot" = some (.ref (He.ga K "is_stuck_lot")) := T.glo _ (T.c.fact 22 (f := .glo "is_stuck_lot") rfl)
theorem Tx.g_calls_of (T : Tx K mg) : mg "calls_of" = some (.ref (He.ga K "calls_of")) := T.glo _ (T.c.fact 23 (f := .glo "calls_of") rfl)
theorem Tx.g_bar_of (T : Tx K mg) : mg "bar_of" = some (.ref (He.ga K "bar_of")) := T.glo _ (T.c.fact 24 (f := .glo "bar_of") rfl)
theorem Tx.g_panel_that_keeps (T : Tx K mg) : mg "panel_that_keeps" = some (.ref (He.ga K "panel_that_keeps")) := T.glo _ (T.c.fact 25 (f := .glo "panel_that_keeps") rfl)
theorem Tx.g_some_panel (T : Tx K mg) : mg "some_panel" = some (.ref (He.ga K "some_panel")) := T.glo _ (T.c.fact 26 (f := .glo "some_panel") rfl)
theorem Tx.g_why_none (T : Tx K mg) : mg "why_none" = some (.ref (He.ga K "why_none")) := T.glo _ (T.c.fact 27 (f := .glo "why_none") rfl)
theorem Tx.g_is_bar_of (T : Tx K mg) : mg "is_bar_of" = some (.ref (He.ga K "is_bar_of")) := T.glo _ (T.c.fact 28 (f := .glo "is_bar_of") rfl)
theorem Tx.g_is_bar (T : Tx K mg) : mg "is_bar" = some (.ref (He.ga K "is_bar")) := T.glo _ (T.c.fact 29 (f := .glo "is_bar") rfl)
theorem Tx.g_l_purse (T : Tx K mg) : mg "_law_purse" = some (.ref (He.ga K "_law_purse")) := T.glo _ (T.c.fact 30 (f := .glo "_law_purse") rfl)
theorem Tx.g_l_mixed (T : Tx K mg) : mg "_law_mixed" = some (.ref (He.ga K "_law_mixed")) := T.glo _ (T.c.fact 31 (f := .glo "_law_mixed") rfl)
theorem Tx.g_l_draw (T : Tx K mg) : mg "_law_draw" = some (.ref (He.ga K "_law_draw")) := T.glo _ (T.c.fact 32 (f := .glo "_law_draw") rfl)
theorem Tx.g_l_purses (T : Tx K mg) : mg "_law_purses" = some (.ref (He.ga K "_law_purses")) := T.glo _ (T.c.fact 33 (f := .glo "_law_purses") rfl)
theorem Tx.g_l_one_of (T : Tx K mg) : mg "_law_one_of" = some (.ref (He.ga K "_law_one_of")) := T.glo _ (T.c.fact 34 (f := .glo "_law_one_of") rfl)
theorem Tx.g_l_shuffled (T : Tx K mg) : mg "_law_shuffled" = some (.ref (He.ga K "_law_shuffled")) := T.glo _ (T.c.fact 35 (f := .glo "_law_shuffled") rfl)
theorem Tx.g_l_word (T : Tx K mg) : mg "_law_word" = some (.ref (He.ga K "_law_word")) := T.glo _ (T.c.fact 36 (f := .glo "_law_word") rfl)
theorem Tx.g_l_names (T : Tx K mg) : mg "_law_names" = some (.ref (He.ga K "_law_names")) := T.glo _ (T.c.fact 37 (f := .glo "_law_names") rfl)
theorem Tx.g_l_rows_of (T : Tx K mg) : mg "_law_rows_of" = some (.ref (He.ga K "_law_rows_of")) := T.glo _ (T.c.fact 38 (f := .glo "_law_rows_of") rfl)
theorem Tx.g_l_fields (T : Tx K mg) : mg "_law_fields" = some (.ref (He.ga K "_law_fields")) := T.glo _ (T.c.fact 39 (f := .glo "_law_fields") rfl)
theorem Tx.g_l_is_part (T : Tx K mg) : mg "_law_is_part" = some (.ref (He.ga K "_law_is_part")) := T.glo _ (T.c.fact 40 (f := .glo "_law_is_part") rfl)
theorem Tx.g_l_line (T : Tx K mg) : mg "_law_line" = some (.ref (He.ga K "_law_line")) := T.glo _ (T.c.fact 41 (f := .glo "_law_line") rfl)
theorem Tx.g_l_meets (T : Tx K mg) : mg "_law_meets" = some (.ref (He.ga K "_law_meets")) := T.glo _ (T.c.fact 42 (f := .glo "_law_meets") rfl)
theorem Tx.g_l_row_keeps (T : Tx K mg) : mg "_law_row_keeps" = some (.ref (He.ga K "_law_row_keeps")) := T.glo _ (T.c.fact 43 (f := .glo "_law_row_keeps") rfl)
theorem Tx.g_l_keeps_line (T : Tx K mg) : mg "_law_keeps_line" = some (.ref (He.ga K "_law_keeps_line")) := T.glo _ (T.c.fact 44 (f := .glo "_law_keeps_line") rfl)
theorem Tx.g_l_keeps (T : Tx K mg) : mg "_law_keeps" = some (.ref (He.ga K "_law_keeps")) := T.glo _ (T.c.fact 45 (f := .glo "_law_keeps") rfl)
theorem Tx.g_l_taken (T : Tx K mg) : mg "_law_taken" = some (.ref (He.ga K "_law_taken")) := T.glo _ (T.c.fact 46 (f := .glo "_law_taken") rfl)
theorem Tx.g_l_all_rows (T : Tx K mg) : mg "_law_all_rows" = some (.ref (He.ga K "_law_all_rows")) := T.glo _ (T.c.fact 47 (f := .glo "_law_all_rows") rfl)
theorem Tx.g_l_book_lines (T : Tx K mg) : mg "_law_book_lines" = some (.ref (He.ga K "_law_book_lines")) := T.glo _ (T.c.fact 48 (f := .glo "_law_book_lines") rfl)
theorem Tx.g_l_some_names (T : Tx K mg) : mg "_law_some_names" = some (.ref (He.ga K "_law_some_names")) := T.glo _ (T.c.fact 49 (f := .glo "_law_some_names") rfl)
theorem Tx.g_l_book (T : Tx K mg) : mg "_law_book" = some (.ref (He.ga K "_law_book")) := T.glo _ (T.c.fact 50 (f := .glo "_law_book") rfl)
theorem Tx.g_l_offs (T : Tx K mg) : mg "_law_offs" = some (.ref (He.ga K "_law_offs")) := T.glo _ (T.c.fact 51 (f := .glo "_law_offs") rfl)
theorem Tx.g_l_is_stuck (T : Tx K mg) : mg "_law_is_stuck" = some (.ref (He.ga K "_law_is_stuck")) := T.glo _ (T.c.fact 52 (f := .glo "_law_is_stuck") rfl)
theorem Tx.g_l_rest (T : Tx K mg) : mg "_law_rest" = some (.ref (He.ga K "_law_rest")) := T.glo _ (T.c.fact 53 (f := .glo "_law_rest") rfl)
theorem Tx.g_l_kept_rows (T : Tx K mg) : mg "_law_kept_rows" = some (.ref (He.ga K "_law_kept_rows")) := T.glo _ (T.c.fact 54 (f := .glo "_law_kept_rows") rfl)
theorem Tx.g_l_calls (T : Tx K mg) : mg "_law_calls" = some (.ref (He.ga K "_law_calls")) := T.glo _ (T.c.fact 55 (f := .glo "_law_calls") rfl)
theorem Tx.g_l_first_bar (T : Tx K mg) : mg "_law_first_bar" = some (.ref (He.ga K "_law_first_bar")) := T.glo _ (T.c.fact 56 (f := .glo "_law_first_bar") rfl)
theorem Tx.g_l_is_bar (T : Tx K mg) : mg "_law_is_bar" = some (.ref (He.ga K "_law_is_bar")) := T.glo _ (T.c.fact 57 (f := .glo "_law_is_bar") rfl)
theorem Tx.g_l_panel_rows (T : Tx K mg) : mg "_law_panel_rows" = some (.ref (He.ga K "_law_panel_rows")) := T.glo _ (T.c.fact 58 (f := .glo "_law_panel_rows") rfl)
theorem Tx.g_l_first_break (T : Tx K mg) : mg "_law_first_break" = some (.ref (He.ga K "_law_first_break")) := T.glo _ (T.c.fact 59 (f := .glo "_law_first_break") rfl)
theorem Tx.g_l_bars_right (T : Tx K mg) : mg "_law_bars_right" = some (.ref (He.ga K "_law_bars_right")) := T.glo _ (T.c.fact 60 (f := .glo "_law_bars_right") rfl)
theorem Tx.g_l_right (T : Tx K mg) : mg "_law_right" = some (.ref (He.ga K "_law_right")) := T.glo _ (T.c.fact 61 (f := .glo "_law_right") rfl)
theorem Tx.g_law (T : Tx K mg) : mg "law" = some (.ref (He.ga K "law")) := T.glo _ (T.c.fact 62 (f := .glo "law") rfl)
theorem Tx.isinstance_ (T : Tx K mg) : mg "isinstance" = none := T.free _ (T.c.fact 63 (f := .free "isinstance") rfl)
theorem Tx.len_ (T : Tx K mg) : mg "len" = none := T.free _ (T.c.fact 64 (f := .free "len") rfl)
theorem Tx.sorted_ (T : Tx K mg) : mg "sorted" = none := T.free _ (T.c.fact 65 (f := .free "sorted") rfl)
theorem Tx.set_ (T : Tx K mg) : mg "set" = none := T.free _ (T.c.fact 66 (f := .free "set") rfl)
theorem Tx.dict_ (T : Tx K mg) : mg "dict" = none := T.free _ (T.c.fact 67 (f := .free "dict") rfl)
theorem Tx.list_ (T : Tx K mg) : mg "list" = none := T.free _ (T.c.fact 68 (f := .free "list") rfl)
theorem Tx.enumerate_ (T : Tx K mg) : mg "enumerate" = none := T.free _ (T.c.fact 69 (f := .free "enumerate") rfl)
theorem Tx.str_ (T : Tx K mg) : mg "str" = none := T.free _ (T.c.fact 70 (f := .free "str") rfl)
theorem Tx.sum_ (T : Tx K mg) : mg "sum" = none := T.free _ (T.c.fact 71 (f := .free "sum") rfl)
theorem Tx.max_ (T : Tx K mg) : mg "max" = none := T.free _ (T.c.fact 72 (f := .free "max") rfl)
theorem Tx.min_ (T : Tx K mg) : mg "min" = none := T.free _ (T.c.fact 73 (f := .free "min") rfl)
theorem Tx.range_ (T : Tx K mg) : mg "range" = none := T.free _ (T.c.fact 74 (f := .free "range") rfl)
theorem Tx.tuple_ (T : Tx K mg) : mg "tuple" = none := T.free _ (T.c.fact 75 (f := .free "tuple") rfl)
theorem Tx.cls_Panel (T : Tx K mg) : mg "Panel" = some (.ref (He.ga K "Panel")) := T.glo _ (T.c.fact 77 (f := .glo "Panel") rfl)
theorem Tx.cls_Book (T : Tx K mg) : mg "Book" = some (.ref (He.ga K "Book")) := T.glo _ (T.c.fact 78 (f := .glo "Book") rfl)
theorem Tx.k_Panel (T : Tx K mg) : Cls K (He.ga K "Panel") := He.cls_ok (T.c.fact 79 (f := .cls "Panel") rfl)
theorem Tx.k_Book (T : Tx K mg) : Cls K (He.ga K "Book") := He.cls_ok (T.c.fact 80 (f := .cls "Book") rfl)
theorem Tx.m_Panel (T : Tx K mg) : Mk K (He.ga K "Panel") (He.ma K (He.ga K "Panel") "__init__") := He.mkr_ok (T.c.fact 81 (f := .mkr "Panel") rfl)
theorem Tx.m_Book (T : Tx K mg) : Mk K (He.ga K "Book") (He.ma K (He.ga K "Book") "__init__") := He.mkr_ok (T.c.fact 82 (f := .mkr "Book") rfl)
theorem Tx.n_Panel_names (T : Tx K mg) : NoAttr K (He.ga K "Panel") "names" := He.noat_ok (T.c.fact 83 (f := .noat "Panel" "names") rfl)
theorem Tx.n_Panel_orders (T : Tx K mg) : NoAttr K (He.ga K "Panel") "orders" := He.noat_ok (T.c.fact 84 (f := .noat "Panel" "orders") rfl)
theorem Tx.n_Panel_spots (T : Tx K mg) : NoAttr K (He.ga K "Panel") "spots" := He.noat_ok (T.c.fact 85 (f := .noat "Panel" "spots") rfl)
theorem Tx.n_Book_names (T : Tx K mg) : NoAttr K (He.ga K "Book") "names" := He.noat_ok (T.c.fact 86 (f := .noat "Book" "names") rfl)
theorem Tx.n_Book_told (T : Tx K mg) : NoAttr K (He.ga K "Book") "told" := He.noat_ok (T.c.fact 87 (f := .noat "Book" "told") rfl)
theorem Tx.t_Panel_entries (T : Tx K mg) : Meth K (He.ga K "Panel") "entries" (He.ma K (He.ga K "Panel") "entries") := He.meth_ok (T.c.fact 88 (f := .meth "Panel" "entries") rfl)
theorem Tx.t_Panel_rows (T : Tx K mg) : Meth K (He.ga K "Panel") "rows" (He.ma K (He.ga K "Panel") "rows") := He.meth_ok (T.c.fact 89 (f := .meth "Panel" "rows") rfl)
theorem Tx.t_Panel_eq (T : Tx K mg) : Meth K (He.ga K "Panel") "__eq__" (He.ma K (He.ga K "Panel") "__eq__") := He.meth_ok (T.c.fact 90 (f := .meth "Panel" "__eq__") rfl)
theorem Tx.t_Book_lines (T : Tx K mg) : Meth K (He.ga K "Book") "lines" (He.ma K (He.ga K "Book") "lines") := He.meth_ok (T.c.fact 91 (f := .meth "Book" "lines") rfl)
theorem Tx.letters (T : Tx K mg) : ∃ u, mg "LETTERS" = some u ∧ RelV (.str "abcdefghijklmnopqrstuvwxyz") u := let ⟨t, h⟩ := T.ltr; ⟨_, h, t, rfl⟩
theorem Tx.c_Panel (T : Tx K mg) : ∃ u, mg "Panel" = some u ∧ RelV (.ref (CP K)) u := ⟨_, T.cls_Panel, rfl⟩
theorem Tx.c_Book (T : Tx K mg) : ∃ u, mg "Book" = some u ∧ RelV (.ref (CB K)) u := ⟨_, T.cls_Book, rfl⟩
theorem Tx.fd_is_name (T : Tx K mg) : ∃ fd, FunD K "is_name" "is_name" (defArgs s_is_name) (defBody s_is_name) (defScope s_is_name) [] [] (He.ga K "is_name") fd := T.c.def_ 0 (d := d_is_name) rfl
theorem Tx.fd_are_names (T : Tx K mg) : ∃ fd, FunD K "are_names" "are_names" (defArgs s_are_names) (defBody s_are_names) (defScope s_are_names) [] [] (He.ga K "are_names") fd := T.c.def_ 1 (d := d_are_names) rfl
theorem Tx.fd_are_entries (T : Tx K mg) : ∃ fd, FunD K "are_entries" "are_entries" (defArgs s_are_entries) (defBody s_are_entries) (defScope s_are_entries) [] [] (He.ga K "are_entries") fd := T.c.def_ 2 (d := d_are_entries) rfl
theorem Tx.fd_is_ascending (T : Tx K mg) : ∃ fd, FunD K "is_ascending" "is_ascending" (defArgs s_is_ascending) (defBody s_is_ascending) (defScope s_is_ascending) [] [] (He.ga K "is_ascending") fd := T.c.def_ 3 (d := d_is_ascending) rfl
theorem Tx.fd_is_lot (T : Tx K mg) : ∃ fd, FunD K "is_lot" "is_lot" (defArgs s_is_lot) (defBody s_is_lot) (defScope s_is_lot) [] [] (He.ga K "is_lot") fd := T.c.def_ 4 (d := d_is_lot) rfl
theorem Tx.fd_is_field (T : Tx K mg) : ∃ fd, FunD K "is_field" "is_field" (defArgs s_is_field) (defBody s_is_field) (defScope s_is_field) [] [] (He.ga K "is_field") fd := T.c.def_ 5 (d := d_is_field) rfl
theorem Tx.fd_check_entries (T : Tx K mg) : ∃ fd, FunD K "check_entries" "check_entries" (defArgs s_check_entries) (defBody s_check_entries) (defScope s_check_entries) [] [] (He.ga K "check_entries") fd := T.c.def_ 6 (d := d_check_entries) rfl
theorem Tx.fd_panel_init (T : Tx K mg) : ∃ fd, FunD K "__init__" "Panel.__init__" (defArgs s_panel_init) (defBody s_panel_init) (defScope s_panel_init) [] [] (He.ma K (He.ga K "Panel") "__init__") fd := T.c.def_ 7 (d := d_panel_init) rfl
theorem Tx.fd_panel_entries (T : Tx K mg) : ∃ fd, FunD K "entries" "Panel.entries" (defArgs s_panel_entries) (defBody s_panel_entries) (defScope s_panel_entries) [] [] (He.ma K (He.ga K "Panel") "entries") fd := T.c.def_ 8 (d := d_panel_entries) rfl
theorem Tx.fd_panel_rows (T : Tx K mg) : ∃ fd, FunD K "rows" "Panel.rows" (defArgs s_panel_rows) (defBody s_panel_rows) (defScope s_panel_rows) [] [] (He.ma K (He.ga K "Panel") "rows") fd := T.c.def_ 9 (d := d_panel_rows) rfl
theorem Tx.fd_panel_eq (T : Tx K mg) : ∃ fd, FunD K "__eq__" "Panel.__eq__" (defArgs s_panel_eq) (defBody s_panel_eq) (defScope s_panel_eq) [] [] (He.ma K (He.ga K "Panel") "__eq__") fd := T.c.def_ 10 (d := d_panel_eq) rfl
theorem Tx.fd_spots_of (T : Tx K mg) : ∃ fd, FunD K "spots_of" "spots_of" (defArgs s_spots_of) (defBody s_spots_of) (defScope s_spots_of) [] [] (He.ga K "spots_of") fd := T.c.def_ 11 (d := d_spots_of) rfl
theorem Tx.fd_is_row (T : Tx K mg) : ∃ fd, FunD K "is_row" "is_row" (defArgs s_is_row) (defBody s_is_row) (defScope s_is_row) [] [] (He.ga K "is_row") fd := T.c.def_ 12 (d := d_is_row) rfl
theorem Tx.fd_are_rows (T : Tx K mg) : ∃ fd, FunD K "are_rows" "are_rows" (defArgs s_are_rows) (defBody s_are_rows) (defScope s_are_rows) [] [] (He.ga K "are_rows") fd := T.c.def_ 13 (d := d_are_rows) rfl
theorem Tx.fd_check_panel (T : Tx K mg) : ∃ fd, FunD K "check_panel" "check_panel" (defArgs s_check_panel) (defBody s_check_panel) (defScope s_check_panel) [] [] (He.ga K "check_panel") fd := T.c.def_ 14 (d := d_check_panel) rfl
theorem Tx.fd_is_line (T : Tx K mg) : ∃ fd, FunD K "is_line" "is_line" (defArgs s_is_line) (defBody s_is_line) (defScope s_is_line) [] [] (He.ga K "is_line") fd := T.c.def_ 15 (d := d_is_line) rfl
theorem Tx.fd_copied (T : Tx K mg) : ∃ fd, FunD K "copied" "copied" (defArgs s_copied) (defBody s_copied) (defScope s_copied) [] [] (He.ga K "copied") fd := T.c.def_ 16 (d := d_copied) rfl
theorem Tx.fd_book_init (T : Tx K mg) : ∃ fd, FunD K "__init__" "Book.__init__" (defArgs s_book_init) (defBody s_book_init) (defScope s_book_init) [] [] (He.ma K (He.ga K "Book") "__init__") fd := T.c.def_ 17 (d := d_book_init) rfl
theorem Tx.fd_book_lines (T : Tx K mg) : ∃ fd, FunD K "lines" "Book.lines" (defArgs s_book_lines) (defBody s_book_lines) (defScope s_book_lines) [] [] (He.ma K (He.ga K "Book") "lines") fd := T.c.def_ 18 (d := d_book_lines) rfl
theorem Tx.fd_check_book (T : Tx K mg) : ∃ fd, FunD K "check_book" "check_book" (defArgs s_check_book) (defBody s_check_book) (defScope s_check_book) [] [] (He.ga K "check_book") fd := T.c.def_ 19 (d := d_check_book) rfl
theorem Tx.fd_check_two (T : Tx K mg) : ∃ fd, FunD K "check_two" "check_two" (defArgs s_check_two) (defBody s_check_two) (defScope s_check_two) [] [] (He.ga K "check_two") fd := T.c.def_ 20 (d := d_check_two) rfl
theorem Tx.fd_is_met (T : Tx K mg) : ∃ fd, FunD K "is_met" "is_met" (defArgs s_is_met) (defBody s_is_met) (defScope s_is_met) [] [] (He.ga K "is_met") fd := T.c.def_ 21 (d := d_is_met) rfl
theorem Tx.fd_break_of (T : Tx K mg) : ∃ fd, FunD K "break_of" "break_of" (defArgs s_break_of) (defBody s_break_of) (defScope s_break_of) [] [] (He.ga K "break_of") fd := T.c.def_ 22 (d := d_break_of) rfl
theorem Tx.fd_first_break (T : Tx K mg) : ∃ fd, FunD K "first_break" "first_break" (defArgs s_first_break) (defBody s_first_break) (defScope s_first_break) [] [] (He.ga K "first_break") fd := T.c.def_ 23 (d := d_first_break) rfl
theorem Tx.fd_why_broken (T : Tx K mg) : ∃ fd, FunD K "why_broken" "why_broken" (defArgs s_why_broken) (defBody s_why_broken) (defScope s_why_broken) [] [] (He.ga K "why_broken") fd := T.c.def_ 24 (d := d_why_broken) rfl
theorem Tx.fd_keeps (T : Tx K mg) : ∃ fd, FunD K "keeps" "keeps" (defArgs s_keeps) (defBody s_keeps) (defScope s_keeps) [] [] (He.ga K "keeps") fd := T.c.def_ 25 (d := d_keeps) rfl
theorem Tx.fd_offs_of (T : Tx K mg) : ∃ fd, FunD K "offs_of" "offs_of" (defArgs s_offs_of) (defBody s_offs_of) (defScope s_offs_of) [] [] (He.ga K "offs_of") fd := T.c.def_ 26 (d := d_offs_of) rfl
theorem Tx.fd_walked (T : Tx K mg) : ∃ fd, FunD K "walked" "walked" (defArgs s_walked) (defBody s_walked) (defScope s_walked) [] [] (He.ga K "walked") fd := T.c.def_ 27 (d := d_walked) rfl
theorem Tx.fd_is_stuck_lot (T : Tx K mg) : ∃ fd, FunD K "is_stuck_lot" "is_stuck_lot" (defArgs s_is_stuck_lot) (defBody s_is_stuck_lot) (defScope s_is_stuck_lot) [] [] (He.ga K "is_stuck_lot") fd := T.c.def_ 28 (d := d_is_stuck_lot) rfl
theorem Tx.fd_calls_of (T : Tx K mg) : ∃ fd, FunD K "calls_of" "calls_of" (defArgs s_calls_of) (defBody s_calls_of) (defScope s_calls_of) [] [] (He.ga K "calls_of") fd := T.c.def_ 29 (d := d_calls_of) rfl
theorem Tx.fd_bar_of (T : Tx K mg) : ∃ fd, FunD K "bar_of" "bar_of" (defArgs s_bar_of) (defBody s_bar_of) (defScope s_bar_of) [] [] (He.ga K "bar_of") fd := T.c.def_ 30 (d := d_bar_of) rfl
theorem Tx.fd_panel_that_keeps (T : Tx K mg) : ∃ fd, FunD K "panel_that_keeps" "panel_that_keeps" (defArgs s_panel_that_keeps) (defBody s_panel_that_keeps) (defScope s_panel_that_keeps) [] [] (He.ga K "panel_that_keeps") fd := T.c.def_ 31 (d := d_panel_that_keeps) rfl
theorem Tx.fd_some_panel (T : Tx K mg) : ∃ fd, FunD K "some_panel" "some_panel" (defArgs s_some_panel) (defBody s_some_panel) (defScope s_some_panel) [] [] (He.ga K "some_panel") fd := T.c.def_ 32 (d := d_some_panel) rfl
theorem Tx.fd_why_none (T : Tx K mg) : ∃ fd, FunD K "why_none" "why_none" (defArgs s_why_none) (defBody s_why_none) (defScope s_why_none) [] [] (He.ga K "why_none") fd := T.c.def_ 33 (d := d_why_none) rfl
theorem Tx.fd_is_bar_of (T : Tx K mg) : ∃ fd, FunD K "is_bar_of" "is_bar_of" (defArgs s_is_bar_of) (defBody s_is_bar_of) (defScope s_is_bar_of) [] [] (He.ga K "is_bar_of") fd := T.c.def_ 34 (d := d_is_bar_of) rfl
theorem Tx.fd_is_bar (T : Tx K mg) : ∃ fd, FunD K "is_bar" "is_bar" (defArgs s_is_bar) (defBody s_is_bar) (defScope s_is_bar) [] [] (He.ga K "is_bar") fd := T.c.def_ 35 (d := d_is_bar) rfl
theorem Tx.fd_l_purse (T : Tx K mg) : ∃ fd, FunD K "_law_purse" "_law_purse" (defArgs s_l_purse) (defBody s_l_purse) (defScope s_l_purse) [] [] (He.ga K "_law_purse") fd := T.c.def_ 36 (d := d_l_purse) rfl
theorem Tx.fd_l_mixed (T : Tx K mg) : ∃ fd, FunD K "_law_mixed" "_law_mixed" (defArgs s_l_mixed) (defBody s_l_mixed) (defScope s_l_mixed) [] [] (He.ga K "_law_mixed") fd := T.c.def_ 37 (d := d_l_mixed) rfl
theorem Tx.fd_l_draw (T : Tx K mg) : ∃ fd, FunD K "_law_draw" "_law_draw" (defArgs s_l_draw) (defBody s_l_draw) (defScope s_l_draw) [] [] (He.ga K "_law_draw") fd := T.c.def_ 38 (d := d_l_draw) rfl
theorem Tx.fd_l_purses (T : Tx K mg) : ∃ fd, FunD K "_law_purses" "_law_purses" (defArgs s_l_purses) (defBody s_l_purses) (defScope s_l_purses) [] [] (He.ga K "_law_purses") fd := T.c.def_ 39 (d := d_l_purses) rfl
theorem Tx.fd_l_one_of (T : Tx K mg) : ∃ fd, FunD K "_law_one_of" "_law_one_of" (defArgs s_l_one_of) (defBody s_l_one_of) (defScope s_l_one_of) [] [] (He.ga K "_law_one_of") fd := T.c.def_ 40 (d := d_l_one_of) rfl
theorem Tx.fd_l_shuffled (T : Tx K mg) : ∃ fd, FunD K "_law_shuffled" "_law_shuffled" (defArgs s_l_shuffled) (defBody s_l_shuffled) (defScope s_l_shuffled) [] [] (He.ga K "_law_shuffled") fd := T.c.def_ 41 (d := d_l_shuffled) rfl
theorem Tx.fd_l_word (T : Tx K mg) : ∃ fd, FunD K "_law_word" "_law_word" (defArgs s_l_word) (defBody s_l_word) (defScope s_l_word) [] [] (He.ga K "_law_word") fd := T.c.def_ 42 (d := d_l_word) rfl
theorem Tx.fd_l_names (T : Tx K mg) : ∃ fd, FunD K "_law_names" "_law_names" (defArgs s_l_names) (defBody s_l_names) (defScope s_l_names) [] [] (He.ga K "_law_names") fd := T.c.def_ 43 (d := d_l_names) rfl
theorem Tx.fd_l_rows_of (T : Tx K mg) : ∃ fd, FunD K "_law_rows_of" "_law_rows_of" (defArgs s_l_rows_of) (defBody s_l_rows_of) (defScope s_l_rows_of) [] [] (He.ga K "_law_rows_of") fd := T.c.def_ 44 (d := d_l_rows_of) rfl
theorem Tx.fd_l_fields (T : Tx K mg) : ∃ fd, FunD K "_law_fields" "_law_fields" (defArgs s_l_fields) (defBody s_l_fields) (defScope s_l_fields) [] [] (He.ga K "_law_fields") fd := T.c.def_ 45 (d := d_l_fields) rfl
theorem Tx.fd_l_is_part (T : Tx K mg) : ∃ fd, FunD K "_law_is_part" "_law_is_part" (defArgs s_l_is_part) (defBody s_l_is_part) (defScope s_l_is_part) [] [] (He.ga K "_law_is_part") fd := T.c.def_ 46 (d := d_l_is_part) rfl
theorem Tx.fd_l_line (T : Tx K mg) : ∃ fd, FunD K "_law_line" "_law_line" (defArgs s_l_line) (defBody s_l_line) (defScope s_l_line) [] [] (He.ga K "_law_line") fd := T.c.def_ 47 (d := d_l_line) rfl
theorem Tx.fd_l_meets (T : Tx K mg) : ∃ fd, FunD K "_law_meets" "_law_meets" (defArgs s_l_meets) (defBody s_l_meets) (defScope s_l_meets) [] [] (He.ga K "_law_meets") fd := T.c.def_ 48 (d := d_l_meets) rfl
theorem Tx.fd_l_row_keeps (T : Tx K mg) : ∃ fd, FunD K "_law_row_keeps" "_law_row_keeps" (defArgs s_l_row_keeps) (defBody s_l_row_keeps) (defScope s_l_row_keeps) [] [] (He.ga K "_law_row_keeps") fd := T.c.def_ 49 (d := d_l_row_keeps) rfl
theorem Tx.fd_l_keeps_line (T : Tx K mg) : ∃ fd, FunD K "_law_keeps_line" "_law_keeps_line" (defArgs s_l_keeps_line) (defBody s_l_keeps_line) (defScope s_l_keeps_line) [] [] (He.ga K "_law_keeps_line") fd := T.c.def_ 50 (d := d_l_keeps_line) rfl
theorem Tx.fd_l_keeps (T : Tx K mg) : ∃ fd, FunD K "_law_keeps" "_law_keeps" (defArgs s_l_keeps) (defBody s_l_keeps) (defScope s_l_keeps) [] [] (He.ga K "_law_keeps") fd := T.c.def_ 51 (d := d_l_keeps) rfl
theorem Tx.fd_l_taken (T : Tx K mg) : ∃ fd, FunD K "_law_taken" "_law_taken" (defArgs s_l_taken) (defBody s_l_taken) (defScope s_l_taken) [] [] (He.ga K "_law_taken") fd := T.c.def_ 52 (d := d_l_taken) rfl
theorem Tx.fd_l_all_rows (T : Tx K mg) : ∃ fd, FunD K "_law_all_rows" "_law_all_rows" (defArgs s_l_all_rows) (defBody s_l_all_rows) (defScope s_l_all_rows) [] [] (He.ga K "_law_all_rows") fd := T.c.def_ 53 (d := d_l_all_rows) rfl
theorem Tx.fd_l_book_lines (T : Tx K mg) : ∃ fd, FunD K "_law_book_lines" "_law_book_lines" (defArgs s_l_book_lines) (defBody s_l_book_lines) (defScope s_l_book_lines) [] [] (He.ga K "_law_book_lines") fd := T.c.def_ 54 (d := d_l_book_lines) rfl
theorem Tx.fd_l_some_names (T : Tx K mg) : ∃ fd, FunD K "_law_some_names" "_law_some_names" (defArgs s_l_some_names) (defBody s_l_some_names) (defScope s_l_some_names) [] [] (He.ga K "_law_some_names") fd := T.c.def_ 55 (d := d_l_some_names) rfl
theorem Tx.fd_l_book (T : Tx K mg) : ∃ fd, FunD K "_law_book" "_law_book" (defArgs s_l_book) (defBody s_l_book) (defScope s_l_book) [] [] (He.ga K "_law_book") fd := T.c.def_ 56 (d := d_l_book) rfl
theorem Tx.fd_l_offs (T : Tx K mg) : ∃ fd, FunD K "_law_offs" "_law_offs" (defArgs s_l_offs) (defBody s_l_offs) (defScope s_l_offs) [] [] (He.ga K "_law_offs") fd := T.c.def_ 57 (d := d_l_offs) rfl
theorem Tx.fd_l_is_stuck (T : Tx K mg) : ∃ fd, FunD K "_law_is_stuck" "_law_is_stuck" (defArgs s_l_is_stuck) (defBody s_l_is_stuck) (defScope s_l_is_stuck) [] [] (He.ga K "_law_is_stuck") fd := T.c.def_ 58 (d := d_l_is_stuck) rfl
theorem Tx.fd_l_rest (T : Tx K mg) : ∃ fd, FunD K "_law_rest" "_law_rest" (defArgs s_l_rest) (defBody s_l_rest) (defScope s_l_rest) [] [] (He.ga K "_law_rest") fd := T.c.def_ 59 (d := d_l_rest) rfl
theorem Tx.fd_l_kept_rows (T : Tx K mg) : ∃ fd, FunD K "_law_kept_rows" "_law_kept_rows" (defArgs s_l_kept_rows) (defBody s_l_kept_rows) (defScope s_l_kept_rows) [] [] (He.ga K "_law_kept_rows") fd := T.c.def_ 60 (d := d_l_kept_rows) rfl
theorem Tx.fd_l_calls (T : Tx K mg) : ∃ fd, FunD K "_law_calls" "_law_calls" (defArgs s_l_calls) (defBody s_l_calls) (defScope s_l_calls) [] [] (He.ga K "_law_calls") fd := T.c.def_ 61 (d := d_l_calls) rfl
theorem Tx.fd_l_first_bar (T : Tx K mg) : ∃ fd, FunD K "_law_first_bar" "_law_first_bar" (defArgs s_l_first_bar) (defBody s_l_first_bar) (defScope s_l_first_bar) [] [] (He.ga K "_law_first_bar") fd := T.c.def_ 62 (d := d_l_first_bar) rfl
theorem Tx.fd_l_is_bar (T : Tx K mg) : ∃ fd, FunD K "_law_is_bar" "_law_is_bar" (defArgs s_l_is_bar) (defBody s_l_is_bar) (defScope s_l_is_bar) [] [] (He.ga K "_law_is_bar") fd := T.c.def_ 63 (d := d_l_is_bar) rfl
theorem Tx.fd_l_panel_rows (T : Tx K mg) : ∃ fd, FunD K "_law_panel_rows" "_law_panel_rows" (defArgs s_l_panel_rows) (defBody s_l_panel_rows) (defScope s_l_panel_rows) [] [] (He.ga K "_law_panel_rows") fd := T.c.def_ 64 (d := d_l_panel_rows) rfl
theorem Tx.fd_l_first_break (T : Tx K mg) : ∃ fd, FunD K "_law_first_break" "_law_first_break" (defArgs s_l_first_break) (defBody s_l_first_break) (defScope s_l_first_break) [] [] (He.ga K "_law_first_break") fd := T.c.def_ 65 (d := d_l_first_break) rfl
theorem Tx.fd_l_bars_right (T : Tx K mg) : ∃ fd, FunD K "_law_bars_right" "_law_bars_right" (defArgs s_l_bars_right) (defBody s_l_bars_right) (defScope s_l_bars_right) [] [] (He.ga K "_law_bars_right") fd := T.c.def_ 66 (d := d_l_bars_right) rfl
theorem Tx.fd_l_right (T : Tx K mg) : ∃ fd, FunD K "_law_right" "_law_right" (defArgs s_l_right) (defBody s_l_right) (defScope s_l_right) [] [] (He.ga K "_law_right") fd := T.c.def_ 67 (d := d_l_right) rfl
theorem Tx.fd_law (T : Tx K mg) : ∃ fd, FunD K "law" "law" (defArgs s_law) (defBody s_law) (defScope s_law) [] [] (He.ga K "law") fd := T.c.def_ 68 (d := d_law) rfl
end
end Cp
set_option Elab.async false
set_option linter.all false
set_option maxRecDepth 100000
set_option maxHeartbeats 1000000
/-! M1: data of this program: names, lots, lines; small data. -/
namespace Cp
open PySem L2
abbrev Line := Str × List Str × Str
abbrev Off := List Str × Str
def eS (xs : List Str) : PyData := .list (xs.map .str)
def eL (l : Line) : PyData := .tuple [.str l.1, eS l.2.1, .str l.2.2]
def eO (o : Off) : PyData := .tuple [eS o.1, .str o.2]
def eR (rs : List (List Str)) : PyData := .list (rs.map eS)
def eLs (ls : List Line) : PyData := .list (ls.map eL)
def eOs (os : List Off) : PyData := .list (os.map eO)
def okS (x : Str) : Bool := PyData.strOk x && decide (x.length ≤ 1000)
mutual
def sm : PyData → Bool
  | .none => true
  | .bool _ => true
  | .int _ => true
  | .str x => okS x
  | .list xs => decide (xs.length ≤ 1000) && smAll xs
  | .tuple xs => decide (xs.length ≤ 1000) && smAll xs
  | .dict _ => false
def smAll : List PyData → Bool
  | [] => true
  | x :: xs => sm x && smAll xs
end
mutual
theorem sm_lay : ∀ d : PyData, sm d = true → d.canLay0 = true
  | .none, _ => by simp [PyData.canLay0]
  | .bool _, _ => by simp [PyData.canLay0]
  | .int _, _ => by simp [PyData.canLay0]
  | .str x, h => by
    simp only [sm, okS, Bool.and_eq_true] at h
    simp only [PyData.canLay0]
    exact h.1
  | .list xs, h => by
    simp only [sm, Bool.and_eq_true] at h
    simp only [PyData.canLay0]
    exact smAll_lay xs h.2
  | .tuple xs, h => by
    simp only [sm, Bool.and_eq_true] at h
    simp only [PyData.canLay0]
    exact smAll_lay xs h.2
  | .dict _, h => by simp [sm] at h
theorem smAll_lay : ∀ ds : List PyData, smAll ds = true → PyData.canLayAll0 ds = true
  | [], _ => by simp [PyData.canLayAll0]
  | d :: ds, h => by
    simp only [smAll, Bool.and_eq_true] at h
    simp only [PyData.canLayAll0, Bool.and_eq_true]
    exact ⟨sm_lay d h.1, smAll_lay ds h.2⟩
end
theorem smAll_mem : ∀ {ds : List PyData}, smAll ds = true ↔ ∀ d ∈ ds, sm d = true
  | [] => by simp [smAll]
  | d :: ds => by simp only [smAll, Bool.and_eq_true, smAll_mem (ds := ds), List.forall_mem_cons]
/-- small, and not deep -/
structure Sm (d : PyData) : Prop where
  s : sm d = true
  d : d.depth ≤ 8
theorem depthAll_le {n : Nat} : ∀ {ds : List PyData}, PyData.depthAll ds ≤ n ↔ ∀ d ∈ ds, d.depth ≤ n
  | [] => by simp [PyData.depthAll]
  | d :: ds => by
    simp only [PyData.depthAll, List.forall_mem_cons]
    rw [← depthAll_le (n := n) (ds := ds)]
    omega
theorem Sm.shaped {d : PyData} (h : Sm d) : SeqAt.shaped d = true := by
  have h2 : d.depth ≤ 64 := Nat.le_trans h.d (by decide)
  unfold SeqAt.shaped
  rw [sm_lay d h.s, Bool.true_and]
  exact decide_eq_true h2
theorem shaped_list {ds : List PyData} (h : ∀ d ∈ ds, sm d = true) (h2 : ∀ d ∈ ds, d.depth ≤ 20) : SeqAt.shaped (.list ds) = true := by
  have h3 : PyData.depthAll ds ≤ 20 := depthAll_le.mpr h2
  have h4 : (PyData.list ds).depth ≤ 64 := by
    simp only [PyData.depth]
    omega
  unfold SeqAt.shaped
  rw [decide_eq_true h4, Bool.and_true]
  simp only [PyData.canLay0]
  exact smAll_lay ds (smAll_mem.mpr h)
theorem shaped_nil : SeqAt.shaped (.list []) = true := by decide +kernel
theorem eqv_nil : ∀ ds : List PyData, PyData.eqv (.list ds) (.list []) = ds.isEmpty
  | [] => by simp [PyData.eqv, PyData.eqvAll]
  | _ :: _ => by simp [PyData.eqv, PyData.eqvAll]
theorem eqvAll_strs : ∀ xs ys : List Str, PyData.eqvAll (xs.map .str) (ys.map .str) = decide (xs = ys)
  | [], [] => by simp [PyData.eqvAll]
  | [], y :: ys => by simp [PyData.eqvAll]
  | x :: xs, [] => by simp [PyData.eqvAll]
  | x :: xs, y :: ys => by
    have ih := eqvAll_strs xs ys
    simp only [List.map_cons, PyData.eqvAll, PyData.eqv, ih]
    by_cases h1 : x = y <;> by_cases h2 : xs = ys <;> simp [h1, h2]
theorem eqv_S (xs ys : List Str) : PyData.eqv (eS xs) (eS ys) = decide (xs = ys) := by
  unfold eS
  simp only [PyData.eqv]
  exact eqvAll_strs xs ys
theorem eqv_L (a b : Line) : PyData.eqv (eL a) (eL b) = decide (a = b) := by
  obtain ⟨a1, a2, a3⟩ := a
  obtain ⟨b1, b2, b3⟩ := b
  unfold eL
  simp only [PyData.eqv, PyData.eqvAll, eqv_S]
  by_cases h1 : a1 = b1 <;> by_cases h2 : a2 = b2 <;> by_cases h3 : a3 = b3 <;> simp [h1, h2, h3]
theorem any_L (l : Line) (ls : List Line) : (ls.map eL).any (fun z => PyData.eqv z (eL l)) = decide (l ∈ ls) := by
  induction ls with
  | nil => simp
  | cons x xs ih =>
    rw [List.map_cons, List.any_cons, ih, eqv_L]
    by_cases h1 : x = l
    · simp [h1]
    · have h2 : ¬ l = x := fun e => h1 e.symm
      simp [h1, h2]
theorem eqvAll_Ls : ∀ xs ys : List Line, PyData.eqvAll (xs.map eL) (ys.map eL) = decide (xs = ys)
  | [], [] => by simp [PyData.eqvAll]
  | [], y :: ys => by simp [PyData.eqvAll]
  | x :: xs, [] => by simp [PyData.eqvAll]
  | x :: xs, y :: ys => by
    have ih := eqvAll_Ls xs ys
    simp only [List.map_cons, PyData.eqvAll, eqv_L, ih]
    by_cases h1 : x = y <;> by_cases h2 : xs = ys <;> simp [h1, h2]
/-! names -/
def letters : Str := "abcdefghijklmnopqrstuvwxyz"
def nameOk (x : Str) : Bool := decide (1 ≤ x.length) && decide (x.length ≤ 8) && x.cps.toList.all fun c => decide (c ∈ letters.cps.toList)
def isName : PyData → Bool
  | .str x => nameOk x
  | _ => false
theorem letters_lt : ∀ c ∈ letters.cps.toList, c < 0x110000 := by decide +kernel
theorem name_ok {x : Str} (h : nameOk x = true) : okS x = true := by
  unfold nameOk at h
  simp only [Bool.and_eq_true, decide_eq_true_eq, List.all_eq_true] at h
  unfold okS PyData.strOk
  simp only [Bool.and_eq_true, decide_eq_true_eq]
  refine ⟨?_, by omega⟩
  rw [← Array.all_toList, List.all_eq_true]
  intro c hc
  exact decide_eq_true (letters_lt c (h.2 c hc))
theorem sm_str {x : Str} (h : okS x = true) : sm (.str x) = true := by simpa [sm] using h
theorem sm_S {xs : List Str} (hl : xs.length ≤ 1000) (h : ∀ x ∈ xs, okS x = true) : Sm (eS xs) := by
  refine ⟨?_, ?_⟩
  · unfold eS
    simp only [sm, Bool.and_eq_true, decide_eq_true_eq, List.length_map]
    refine ⟨hl, smAll_mem.mpr fun d hd => ?_⟩
    obtain ⟨x, hx, rfl⟩ := List.mem_map.mp hd
    exact sm_str (h x hx)
  · unfold eS
    have : PyData.depthAll (xs.map .str) ≤ 0 := depthAll_le.mpr fun d hd => by
      obtain ⟨x, hx, rfl⟩ := List.mem_map.mp hd
      simp [PyData.depth]
    simp only [PyData.depth]
    omega
theorem depth_S (xs : List Str) : (eS xs).depth ≤ 1 := by
  unfold eS
  have : PyData.depthAll (xs.map .str) ≤ 0 := depthAll_le.mpr fun d hd => by
    obtain ⟨x, hx, rfl⟩ := List.mem_map.mp hd
    simp [PyData.depth]
  simp only [PyData.depth]
  omega
section
variable {K : PySem.W.Frag} {pu : Option Addr} {n n1 : Nat} {env : Env'} {te : TE} {ds : List PyData}
/-- e == [], e != [] -/
theorem pu_isNil (h : Pu pu n n1 env te (D (.list ds))) (s : SeqAt.shaped (.list ds) = true) : Pu pu n n1 env (tOp (rEqD K) te (tLst tNil)) (D (.bool ds.isEmpty)) := by
  have := pu_op h ((pu_lst (pa_n (n := n1) (env := env) (pu := pu)) (Nat.zero_le _)).le (ln_D (ds := []))) (rv_eq (K := K) s shaped_nil)
  rwa [eqv_nil] at this
theorem pu_notNil (h : Pu pu n n1 env te (D (.list ds))) (s : SeqAt.shaped (.list ds) = true) : Pu pu n n1 env (tOp (rNeD K) te (tLst tNil)) (D (.bool (!ds.isEmpty))) := by
  have := pu_op h ((pu_lst (pa_n (n := n1) (env := env) (pu := pu)) (Nat.zero_le _)).le (ln_D (ds := []))) (rv_ne (K := K) s shaped_nil)
  rwa [eqv_nil] at this
end
end Cp
set_option Elab.async false
set_option linter.all false
set_option maxRecDepth 100000
set_option maxHeartbeats 2000000
/-! P1: names, lots, fields. -/
namespace Cp
open PySem L2 PySem.Spec PyProof.Rows
def Nice (d : PyData) : Prop := Sm d ∨ d = .dict []
theorem filter_isEmpty {α : Type} (f : α → Bool) : ∀ l : List α, (l.filter f).isEmpty = l.all fun x => !f x
  | [] => rfl
  | x :: l => by
    have ih := filter_isEmpty f l
    rw [List.filter_cons, List.all_cons]
    cases h : f x with
    | true => simp
    | false => simpa using ih
theorem ln_Dm {α : Type} {g : α → PyData} {l : List α} : (Ln (l.map fun i => D (g i))).le (D (.list (l.map g))) := by
  have e : (l.map fun i => D (g i)) = (l.map g).map D := by rw [List.map_map]; rfl
  rw [e]
  exact ln_D
theorem isEmpty_map {α β : Type} (g : α → β) (l : List α) : (l.map g).isEmpty = l.isEmpty := by cases l <;> rfl
theorem range_all (p : Nat → Bool) (x : Str) : ((List.range x.cps.size).all fun i => p (x.cps.getD i 0)) = x.cps.toList.all p := by
  have e := range_get 0 x.cps.toList
  have e2 : x.cps.toList.length = x.cps.size := by simp
  conv => rhs; rw [← e]
  rw [List.all_map, e2]
  congr 1
  funext i
  show p (x.cps.getD i 0) = p (x.cps.toList.getD i 0)
  rw [Array.getD_eq_getD_getElem?, List.getD_eq_getElem?_getD, Array.getElem?_toList]
theorem le_bool {a b : Bool} (h : a = b) : (D (.bool a)).le (D (.bool b)) := by rw [h]; exact Ty.le.rfl'
theorem le_D {a b : PyData} (h : a = b) : (D a).le (D b) := by rw [h]; exact Ty.le.rfl'
theorem sm_of_ok {x : Str} (h : okS x = true) : Sm (.str x) := ⟨sm_str h, by simp [PyData.depth]⟩
theorem kit_str (d : PyData) : kitB (tyName d) "str" = some (decide (tyName d = "str")) := by
  cases d with
  | none => exact (by decide +kernel : kitB "NoneType" "str" = some (decide ("NoneType" = "str")))
  | bool _ => exact (by decide +kernel : kitB "bool" "str" = some (decide ("bool" = "str")))
  | int _ => exact (by decide +kernel : kitB "int" "str" = some (decide ("int" = "str")))
  | str _ => exact (by decide +kernel : kitB "str" "str" = some (decide ("str" = "str")))
  | list _ => exact (by decide +kernel : kitB "list" "str" = some (decide ("list" = "str")))
  | tuple _ => exact (by decide +kernel : kitB "tuple" "str" = some (decide ("tuple" = "str")))
  | dict _ => exact (by decide +kernel : kitB "dict" "str" = some (decide ("dict" = "str")))
theorem kit_list (d : PyData) : kitB (tyName d) "list" = some (decide (tyName d = "list")) := by
  cases d with
  | none => exact (by decide +kernel : kitB "NoneType" "list" = some (decide ("NoneType" = "list")))
  | bool _ => exact (by decide +kernel : kitB "bool" "list" = some (decide ("bool" = "list")))
  | int _ => exact (by decide +kernel : kitB "int" "list" = some (decide ("int" = "list")))
  | str _ => exact (by decide +kernel : kitB "str" "list" = some (decide ("str" = "list")))
  | list _ => exact (by decide +kernel : kitB "list" "list" = some (decide ("list" = "list")))
  | tuple _ => exact (by decide +kernel : kitB "tuple" "list" = some (decide ("tuple" = "list")))
  | dict _ => exact (by decide +kernel : kitB "dict" "list" = some (decide ("dict" = "list")))
theorem kit_tuple (d : PyData) : kitB (tyName d) "tuple" = some (decide (tyName d = "tuple")) := by
  cases d with
  | none => exact (by decide +kernel : kitB "NoneType" "tuple" = some (decide ("NoneType" = "tuple")))
  | bool _ => exact (by decide +kernel : kitB "bool" "tuple" = some (decide ("bool" = "tuple")))
  | int _ => exact (by decide +kernel : kitB "int" "tuple" = some (decide ("int" = "tuple")))
  | str _ => exact (by decide +kernel : kitB "str" "tuple" = some (decide ("str" = "tuple")))
  | list _ => exact (by decide +kernel : kitB "list" "tuple" = some (decide ("list" = "tuple")))
  | tuple _ => exact (by decide +kernel : kitB "tuple" "tuple" = some (decide ("tuple" = "tuple")))
  | dict _ => exact (by decide +kernel : kitB "dict" "tuple" = some (decide ("dict" = "tuple")))
section
variable {K : PySem.W.Frag} {pu : Option Addr} {n n1 : Nat} {env : Env'} {te : TE} {d : PyData}
/-- isinstance(e, str | list | tuple) -/
theorem pu_isStr (h : Pu pu n n1 env te (D d)) : Pu pu n n1 env (tCB (rIsi K) (tCons te (tCons (tC (.ty "str")) tNil))) (D (.bool (decide (tyName d = "str")))) := pu_cb (pa_c h (pa_c pu_c pa_n)) (rc_isi (kit_str d))
theorem pu_isList (h : Pu pu n n1 env te (D d)) : Pu pu n n1 env (tCB (rIsi K) (tCons te (tCons (tC (.ty "list")) tNil))) (D (.bool (decide (tyName d = "list")))) := pu_cb (pa_c h (pa_c pu_c pa_n)) (rc_isi (kit_list d))
theorem pu_isTup (h : Pu pu n n1 env te (D d)) : Pu pu n n1 env (tCB (rIsi K) (tCons te (tCons (tC (.ty "tuple")) tNil))) (D (.bool (decide (tyName d = "tuple")))) := pu_cb (pa_c h (pa_c pu_c pa_n)) (rc_isi (kit_tuple d))
end
section
variable {P : Program} {w : World} {K : PySem.W.Frag} {mg : Str → Option Value} {base : Heap}
abbrev N_is_name : List Str := ["value", "sign"]
theorem sc_is_name : FnScope N_is_name ["value"] (defScope s_is_name) := ⟨rfl, rfl, rfl, by decide +kernel, rfl, by decide +kernel, by decide +kernel⟩
def spIsName : Sp := Prp (ι := PyData) Nice (fun d => [D d]) (fun d => D (.bool (isName d)))
theorem ok_is_name (T : Tx K mg) : Dn P w K mg base 1 "is_name" ["value"] spIsName := by
  refine dn_mk T.fd_is_name T.g_is_name sc_is_name (prm_len fun _ => rfl) (fun _ _ _ _ _ _ us hl => match us, hl with | [_], _ => rfl) fun cdv A outer s H vs Q E hr hu64 hu65 h => ?_
  have nd := sc_is_name.nd
  refine ⟨_, (pss_cons (ps_if (PW.pt (pw_or (pt_not (pt_val (pe_callB (k_isi K) (by rfl) T.isinstance_ (by decide +kernel) (pa_cons (pv 0) (pa_cons (pe_bltn (v := .ty "str") (by rfl) T.str_ (by decide +kernel) rfl) pa_nil))))) (pw_or (pt_cmpR op_lt (pe_callB (k_len K) (by rfl) T.len_ (by decide +kernel) (pa_cons (pv 0) pa_nil)) pe_int (nomark _)) (pw_or1 (pt_cmpR op_gt (pe_callB (k_len K) (by rfl) T.len_ (by decide +kernel) (pa_cons (pv 0) pa_nil)) pe_int (nomark _)))))) (pss_one (ps_ret pe_bl)) pss_nil)
    (pss_one (ps_ret (pe_cmpR (k_eq K hu64) (pe_lc (own := [("sign", 1)]) rfl nd (pi_str (pv 0)) (blkOk_by (own := [("sign", 1)]) (N := N_is_name) (sc := defScope s_is_name) (by decide +kernel)) (fun _ _ _ _ _ => (pg_name (i := 1) nd rfl (Or.inl rfl))) (fun _ _ _ _ _ => (pts_one (pt_cmpR (k_ni K hu65) (pv 1) (C8.pe_gc rfl T.letters) (by rfl)))) (fun _ _ _ _ _ => (pv 1))) (pe_lst pa_nil) (nomark _))))), fn_prm (E := E) h fun d hd => ?_⟩
  show Sj none 0 [some (.im (D d)), none] _ _
  by_cases hs : ∃ x, d = .str x
  · obtain ⟨x, rfl⟩ := hs
    have ok : okS x = true := by
      rcases hd with hd | hd
      · simpa [sm] using hd.s
      · cases hd
    have hlen : x.length ≤ 1000 := by
      unfold okS at ok
      simp only [Bool.and_eq_true, decide_eq_true_eq] at ok
      exact ok.2
    have ht : decide (tyName (.str x) = "str") = true := rfl
    refine sj_seq (sj_if (qt_or (qt_not (qt_B (pu_isStr (pu_var rfl))))
      (fun _ => qt_or (qt_test (pu_op (pu_cb (pa_c (pu_var rfl) pa_n) (rc_lenS (by omega))) pu_int rv_lt)) (fun _ => qt_test (pu_op (pu_cb (pa_c (pu_var rfl) pa_n) (rc_lenS (by omega))) pu_int rv_gt)))) (fun hb => sj_ret pu_bl (le_bool ?_)) (fun hb => sj_next ?_))
    · have hb2 : x.length < 1 ∨ 8 < x.length := by
        have := hb.symm
        rw [ht] at this
        simp only [Bool.not_true, Bool.false_or, Bool.or_eq_true, decide_eq_true_eq] at this
        omega
      show false = nameOk x
      unfold nameOk
      by_cases h1 : 1 ≤ x.length
      · rw [decide_eq_false (show ¬ x.length ≤ 8 by omega)]
        simp
      · rw [decide_eq_false h1]
        simp
    · have hb2 : 1 ≤ x.length ∧ x.length ≤ 8 := by
        have := hb.symm
        rw [ht] at this
        simp only [Bool.not_true, Bool.false_or, Bool.or_eq_false_iff, decide_eq_false_iff_not] at this
        omega
      have hsz : x.cps.size ≤ 10000 := by
        have : x.cps.size = x.length := rfl
        omega
      refine sj_ret (pu_isNil ((pu_lc (pi_S (pu_var rfl)) [1] (by simp) hsz (fun i => !decide (x.cps.getD i 0 ∈ letters.cps.toList)) (fun i => D (.str ⟨#[x.cps.getD i 0]⟩))
        (fun i hi => ⟨_, tg_name, qt_test (pu_op (pu_var rfl) pu_str rv_niC), fun _ => pu_var rfl⟩)).le ln_Dm) (shaped_list ?_ ?_)) (le_bool ?_)
      · intro e he
        obtain ⟨i, hi, rfl⟩ := List.mem_map.mp he
        have hil := List.mem_range.mp (List.mem_filter.mp hi).1
        refine sm_str ?_
        unfold okS PyData.strOk at ok ⊢
        simp only [Bool.and_eq_true, decide_eq_true_eq, ← Array.all_toList, List.all_eq_true] at ok ⊢
        refine ⟨fun c hc => ?_, by show (1 : Nat) ≤ 1000; decide⟩
        have hc2 : c = x.cps.getD i 0 := by simpa using hc
        rw [hc2, Array.getD_eq_getD_getElem?, Array.getElem?_eq_getElem hil]
        exact ok.1 _ (by simp)
      · intro e he
        obtain ⟨i, hi, rfl⟩ := List.mem_map.mp he
        simp [PyData.depth]
      · rw [isEmpty_map, filter_isEmpty]
        show _ = nameOk x
        unfold nameOk
        rw [decide_eq_true hb2.1, decide_eq_true hb2.2, Bool.and_self, Bool.true_and, ← range_all]
        congr 1
        funext i
        simp
  · have hn : tyName d ≠ "str" := by
      cases d <;> first | exact absurd ⟨_, rfl⟩ hs | (simp only [tyName]; decide)
    refine sj_seq (sj_if (B := (· = true)) (PuT.imp (qt_or (b := true) (qt_not (qt_B (pu_isStr (pu_var rfl)))) (fun hz => by rw [decide_eq_false hn] at hz; cases hz)) fun b hb => by rw [hb, decide_eq_false hn]; rfl) (fun hb => sj_ret pu_bl (le_bool ?_)) (fun hb => by cases hb))
    cases d <;> first | exact absurd ⟨_, rfl⟩ hs | rfl
end
end Cp
set_option Elab.async false
set_option linter.all false
set_option maxRecDepth 100000
set_option maxHeartbeats 1000000
/-! M2: lots, fields, lines: what the checks answer. -/
namespace Cp
open PySem L2
def strD : PyData → Str
  | .str x => x
  | _ => ⟨#[]⟩
def strsD : PyData → List Str
  | .list ds => ds.map strD
  | _ => []
def areNames : PyData → Bool
  | .list ds => ds.all isName && decide (ds.map strD).Nodup
  | _ => false
def sortS (xs : List Str) : List Str := xs.mergeSort (PySem.W.dataLe false PyData.str)
theorem sortD_S (xs : List Str) : sortD (xs.map .str) = (sortS xs).map .str := (PySem.W.sort_maps (s := PySem.W.dataLe false id) PyData.str fun _ _ _ _ => rfl).symm
theorem sortS_perm (xs : List Str) : (sortS xs).Perm xs := List.mergeSort_perm _ _
def isAsc (d : PyData) : Bool := areNames d && decide (strsD d = sortS (strsD d))
def isLot (d : PyData) (ns : List Str) : Bool := isAsc d && (strsD d).all fun x => decide (x ∈ ns)
def isField (d : PyData) (ns : List Str) : Bool := isLot d ns && !(strsD d).isEmpty
def areEntries (d : PyData) : Bool := areNames d && !(strsD d).isEmpty
theorem strsD_S (xs : List Str) : strsD (eS xs) = xs := by
  show (xs.map PyData.str).map strD = xs
  rw [List.map_map]
  exact List.map_id' xs
theorem names_shape {d : PyData} (h : areNames d = true) : ∃ xs, d = eS xs ∧ (∀ x ∈ xs, nameOk x = true) ∧ xs.Nodup := by
  cases d with
  | list ds =>
    simp only [areNames, Bool.and_eq_true, List.all_eq_true, decide_eq_true_eq] at h
    refine ⟨ds.map strD, ?_, fun x hx => ?_, h.2⟩
    · unfold eS
      rw [List.map_map]
      congr 1
      have : ∀ es : List PyData, (∀ e ∈ es, isName e = true) → es = es.map (PyData.str ∘ strD) := by
        intro es
        induction es with
        | nil => intro _; rfl
        | cons e es ih =>
          intro he
          rw [List.map_cons, ← ih fun z hz => he z (List.mem_cons_of_mem _ hz)]
          have h1 := he e List.mem_cons_self
          cases e <;> first | rfl | cases h1
      exact this ds h.1
    · obtain ⟨e, he, rfl⟩ := List.mem_map.mp hx
      have h1 := h.1 e he
      cases e <;> first | exact h1 | cases h1
  | _ => cases h
theorem areNames_S (xs : List Str) : areNames (eS xs) = (xs.all nameOk && decide xs.Nodup) := by
  unfold eS areNames
  simp only [List.all_map, List.map_map]
  have e : (List.map (strD ∘ PyData.str) xs) = xs := List.map_id' xs
  rw [e]
  congr 1
theorem shaped_int (i : Int) : SeqAt.shaped (.int i) = true := by simp [SeqAt.shaped, PyData.canLay0, PyData.depth]
theorem shaped_bool (i : Bool) : SeqAt.shaped (.bool i) = true := by simp [SeqAt.shaped, PyData.canLay0, PyData.depth]
theorem shaped_none : SeqAt.shaped .none = true := by simp [SeqAt.shaped, PyData.canLay0, PyData.depth]
theorem shaped_str {x : Str} (h : okS x = true) : SeqAt.shaped (.str x) = true := (sm_of_ok h).shaped
theorem sm_list_mem {ds : List PyData} (h : Sm (.list ds)) : ∀ d ∈ ds, Sm d := fun d hd => by
  have h1 := h.s
  simp only [sm, Bool.and_eq_true] at h1
  have h2 := h.d
  simp only [PyData.depth] at h2
  have h3 : PyData.depthAll ds ≤ 7 := by omega
  exact ⟨smAll_mem.mp h1.2 d hd, Nat.le_trans (depthAll_le.mp h3 d hd) (by decide)⟩
theorem sm_tup_mem {ds : List PyData} (h : Sm (.tuple ds)) : ∀ d ∈ ds, Sm d := fun d hd => by
  have h1 := h.s
  simp only [sm, Bool.and_eq_true] at h1
  have h2 := h.d
  simp only [PyData.depth] at h2
  have h3 : PyData.depthAll ds ≤ 7 := by omega
  exact ⟨smAll_mem.mp h1.2 d hd, Nat.le_trans (depthAll_le.mp h3 d hd) (by decide)⟩
theorem sm_list_len {ds : List PyData} (h : Sm (.list ds)) : ds.length ≤ 1000 := by
  have h1 := h.s
  simp only [sm, Bool.and_eq_true, decide_eq_true_eq] at h1
  exact h1.1
theorem shaped_sub {ds es : List PyData} (h : ∀ d ∈ ds, Sm d) (s : ∀ e ∈ es, e ∈ ds) : SeqAt.shaped (.list es) = true :=
  shaped_list (fun e he => (h e (s e he)).s) fun e he => Nat.le_trans (h e (s e he)).d (by decide)
theorem alike_strs (xs : List Str) : PySem.W.AllAlike (xs.map .str) := PySem.W.AllAlike.of fun _ _ => by simp [PySem.W.alike]
theorem sortable_strs (xs : List Str) : PySem.W.Sortable (xs.map .str) := PySem.W.Sortable.others fun x => ⟨(by intro e; cases e), (by intro ys e; cases e)⟩
end Cp
set_option Elab.async false
set_option linter.all false
set_option maxRecDepth 100000
set_option maxHeartbeats 2000000
/-! P2: lists of names, lots, fields. -/
namespace Cp
open PySem L2 PySem.Spec PyProof.Rows
section
variable {P : Program} {w : World} {K : PySem.W.Frag} {mg : Str → Option Value} {base : Heap}
abbrev N_are_names : List Str := ["value", "name"]
theorem sc_are_names : FnScope N_are_names ["value"] (defScope s_are_names) := ⟨rfl, rfl, rfl, by decide +kernel, rfl, by decide +kernel, by decide +kernel⟩
def spAreNames : Sp := Prp (ι := PyData) Nice (fun d => [D d]) (fun d => D (.bool (areNames d)))
theorem ok_are_names (T : Tx K mg) : Dn P w K mg base 2 "are_names" ["value"] spAreNames := by
  have D_is_name := ok_is_name (P := P) (w := w) (base := base) T
  refine dn_mk T.fd_are_names T.g_are_names sc_are_names (prm_len fun _ => rfl) (fun _ _ _ _ _ _ us hl => match us, hl with | [_], _ => rfl) fun cdv A outer s H vs Q E hr hu64 hu65 h => ?_
  have nd := sc_are_names.nd
  refine ⟨_, (pss_cons (ps_if (PW.pt (pw_or (pt_not (pt_val (pe_callB (k_isi K) (by rfl) T.isinstance_ (by decide +kernel) (pa_cons (pv 0) (pa_cons (pe_bltn (v := .ty "list") (by rfl) T.list_ (by decide +kernel) rfl) pa_nil))))) (pw_or1 (pt_cmpR (k_ne K hu64) (pe_lc (own := [("name", 1)]) rfl nd (k_over K (pv 0)) (blkOk_by (own := [("name", 1)]) (N := N_are_names) (sc := defScope s_are_names) (by decide +kernel)) (fun _ _ _ _ _ => (pg_name (i := 1) nd rfl (Or.inl rfl))) (fun _ _ _ _ _ => (pts_one (pt_not (pt_val (pe_callD D_is_name (hr.mono (by decide)) rfl (pa_cons (pv 1) pa_nil)))))) (fun _ _ _ _ _ => (pv 1))) (pe_lst pa_nil) (nomark _))))) (pss_one (ps_ret pe_bl)) pss_nil)
    (pss_one (ps_ret (pe_cmpR (k_eq K hu64) (k_kinds K rfl rfl T.len_ rfl T.set_ (pv 0)) (pe_callB (k_len K) (by rfl) T.len_ (by decide +kernel) (pa_cons (pv 0) pa_nil)) (nomark _))))), fn_prm (E := E) h fun i hi => ?_⟩
  show Sj none 0 [some (.im (D i)), none] _ _
  by_cases hs : ∃ ds, i = .list ds
  · obtain ⟨ds, rfl⟩ := hs
    have sml : Sm (.list ds) := by
      rcases hi with hd | hd
      · exact hd
      · cases hd
    have mem := sm_list_mem sml
    have hlen := sm_list_len sml
    have ht : decide (tyName (.list ds) = "list") = true := rfl
    have hv : Pu none 0 0 [some (.im (D (.list ds))), none] (tVar 0) (D (.list (ds.map fun d => d))) := by
      rw [List.map_id']
      exact pu_var rfl
    refine sj_seq (sj_if (qt_or (qt_not (qt_B (pu_isList (pu_var rfl)))) (fun _ => qt_test (pu_notNil ((pu_lcE hv [1] (by simp) (by omega) (fun d => !isName d) (fun d => D d)
      (fun d hd => ⟨_, tg_name, qt_not (qt_B (pu_call1 (ι := PyData) d (.inl (mem d hd)) (pa_c (pu_var rfl) pa_n) (by exact ⟨sub_D, trivial⟩))), fun _ => pu_var rfl⟩)).le ln_D) (shaped_sub mem fun e he => (List.mem_filter.mp he).1)))) (fun hb => sj_ret pu_bl (le_bool ?_)) (fun hb => sj_next ?_))
    · rw [ht] at hb
      have h2 : (ds.all isName) = false := by
        have := hb.symm
        simp only [Bool.not_true, Bool.false_or, filter_isEmpty, Bool.not_not, Bool.not_eq_true'] at this
        exact this
      show false = (ds.all isName && decide (ds.map strD).Nodup)
      rw [h2, Bool.false_and]
    · rw [ht] at hb
      have h2 : (ds.all isName) = true := by
        have := hb.symm
        simp only [Bool.not_true, Bool.false_or, filter_isEmpty, Bool.not_not, Bool.not_eq_false'] at this
        exact this
      have e : ds = (ds.map strD).map .str := by
        have : ∀ es : List PyData, es.all isName = true → es = (es.map strD).map .str := by
          intro es
          induction es with
          | nil => intro _; rfl
          | cons z es ih =>
            intro hz
            rw [List.all_cons, Bool.and_eq_true] at hz
            rw [List.map_cons, List.map_cons, ← ih hz.2]
            cases z <;> first | rfl | cases hz.1
        exact this ds h2
      have hx : Pu none 0 0 [some (.im (D (.list ds))), none] (tVar 0) (D (.list ((ds.map strD).map .str))) := by
        rw [← e]
        exact pu_var rfl
      refine sj_ret (pu_op (pu_kinds hx (by rw [List.length_map]; omega)) (pu_cb (pa_c (pu_var rfl) pa_n) rc_lenL) (rv_eq (shaped_int _) (shaped_int _))) (le_bool ?_)
      show _ = (ds.all isName && decide (ds.map strD).Nodup)
      rw [h2, Bool.true_and]
      have k := kinds_nodup (ds.map strD).reverse
      rw [List.length_reverse, List.length_map, (List.reverse_perm (ds.map strD)).nodup_iff] at k
      simp only [PyData.eqv]
      by_cases hn : (ds.map strD).Nodup
      · rw [decide_eq_true hn, k.mpr hn]
        simp
      · rw [decide_eq_false hn]
        have h3 : ¬ kinds (ds.map strD).reverse = ds.length := fun z => hn (k.mp z)
        simp
        omega
  · have hn : tyName i ≠ "list" := by
      cases i <;> first | exact absurd ⟨_, rfl⟩ hs | (simp only [tyName]; decide)
    refine sj_seq (sj_if (B := (· = true)) (PuT.imp (qt_or (b := true) (qt_not (qt_B (pu_isList (pu_var rfl)))) (fun hz => by rw [decide_eq_false hn] at hz; cases hz)) fun b hb => by rw [hb, decide_eq_false hn]; rfl) (fun hb => sj_ret pu_bl (le_bool ?_)) (fun hb => by cases hb))
    cases i <;> first | exact absurd ⟨_, rfl⟩ hs | rfl
abbrev N_are_entries : List Str := ["value"]
theorem sc_are_entries : FnScope N_are_entries ["value"] (defScope s_are_entries) := ⟨rfl, rfl, rfl, by decide +kernel, rfl, by decide +kernel, by decide +kernel⟩
def spAreEntries : Sp := Prp (ι := PyData) Nice (fun d => [D d]) (fun d => D (.bool (areEntries d)))
theorem ok_are_entries (T : Tx K mg) : Dn P w K mg base 3 "are_entries" ["value"] spAreEntries := by
  have D_are_names := ok_are_names (P := P) (w := w) (base := base) T
  refine dn_mk T.fd_are_entries T.g_are_entries sc_are_entries (prm_len fun _ => rfl) (fun _ _ _ _ _ _ us hl => match us, hl with | [_], _ => rfl) fun cdv A outer s H vs Q E hr hu64 hu65 h => ?_
  have nd := sc_are_entries.nd
  refine ⟨_, (pss_one (ps_ret (pe_and (pe_callD D_are_names (hr.mono (by decide)) rfl (pa_cons (pv 0) pa_nil)) (pe_one (pe_cmpR (k_ne K hu64) (pv 0) (pe_lst pa_nil) (nomark _)))))), fn_prm (E := E) h fun i hi => ?_⟩
  show Sj none 0 [some (.im (D i))] _ _
  refine sj_ret (pu_andV (b := !(strsD i).isEmpty) (pu_call1 (ι := PyData) i hi (pa_c (pu_var rfl) pa_n) ⟨sub_D, trivial⟩) (fun hn => ?_)) (le_bool rfl)
  obtain ⟨xs, rfl, ok, nd⟩ := names_shape hn
  have sml : Sm (eS xs) := by
    rcases hi with hd | hd
    · exact hd
    · cases hd
  have := pu_notNil (K := K) (pu := none) (n := 0) (env := [some (.im (D (eS xs)))]) (te := tVar 0) (ds := xs.map .str) (pu_var rfl) sml.shaped
  rw [strsD_S]
  rwa [isEmpty_map] at this
abbrev N_is_ascending : List Str := ["value"]
theorem sc_is_ascending : FnScope N_is_ascending ["value"] (defScope s_is_ascending) := ⟨rfl, rfl, rfl, by decide +kernel, rfl, by decide +kernel, by decide +kernel⟩
def spIsAsc : Sp := Prp (ι := PyData) Nice (fun d => [D d]) (fun d => D (.bool (isAsc d)))
theorem ok_is_ascending (T : Tx K mg) : Dn P w K mg base 3 "is_ascending" ["value"] spIsAsc := by
  have D_are_names := ok_are_names (P := P) (w := w) (base := base) T
  refine dn_mk T.fd_is_ascending T.g_is_ascending sc_is_ascending (prm_len fun _ => rfl) (fun _ _ _ _ _ _ us hl => match us, hl with | [_], _ => rfl) fun cdv A outer s H vs Q E hr hu64 hu65 h => ?_
  have nd := sc_is_ascending.nd
  refine ⟨_, (pss_one (ps_ret (pe_and (pe_callD D_are_names (hr.mono (by decide)) rfl (pa_cons (pv 0) pa_nil)) (pe_one (pe_cmpR (k_eq K hu64) (pv 0) (pe_callB (k_sorted K hu64) (by rfl) T.sorted_ (by decide +kernel) (pa_cons (pv 0) pa_nil)) (nomark _)))))), fn_prm (E := E) h fun i hi => ?_⟩
  show Sj none 0 [some (.im (D i))] _ _
  refine sj_ret (pu_andV (b := decide (strsD i = sortS (strsD i))) (pu_call1 (ι := PyData) i hi (pa_c (pu_var rfl) pa_n) ⟨sub_D, trivial⟩) (fun hn => ?_)) (le_bool rfl)
  obtain ⟨xs, rfl, ok, nd⟩ := names_shape hn
  have sml : Sm (eS xs) := by
    rcases hi with hd | hd
    · exact hd
    · cases hd
  have hl := sm_list_len sml
  rw [List.length_map] at hl
  have ok2 : ∀ x ∈ xs, okS x = true := fun x hx => name_ok (ok x hx)
  rw [strsD_S]
  have sh : SeqAt.shaped (.list (sortD (xs.map .str))) = true := by
    rw [sortD_S]
    exact (sm_S (by rw [(sortS_perm xs).length_eq]; exact hl) fun x hx => ok2 x ((sortS_perm xs).mem_iff.mp hx)).shaped
  have cl : PyData.canLayAll0 (xs.map .str) = true := by
    have := sm_lay _ sml.s
    simpa [eS, PyData.canLay0] using this
  have dp : ∀ d ∈ xs.map PyData.str, d.depth ≤ 8 := fun d hd => by
    obtain ⟨x, hx, rfl⟩ := List.mem_map.mp hd
    simp [PyData.depth]
  have so := (rc_sortD (K := K) (alike_strs xs) (sortable_strs xs) (by rw [List.length_map]; omega) cl dp)
  have e : PyData.eqv (eS xs) (.list (sortD (xs.map .str))) = decide (xs = sortS xs) := by
    rw [sortD_S]
    exact eqv_S xs (sortS xs)
  refine (pu_op (pu_var rfl) ((pu_cb (pa_c (pu_var rfl) pa_n) so).le ln_D) (rv_eq (K := K) sml.shaped sh)).le (le_bool e)
abbrev N_is_lot : List Str := ["value", "entries", "name"]
theorem sc_is_lot : FnScope N_is_lot ["value", "entries"] (defScope s_is_lot) := ⟨rfl, rfl, rfl, by decide +kernel, rfl, by decide +kernel, by decide +kernel⟩
def spIsLot : Sp := Prp (ι := PyData × List Str) (fun i => Nice i.1) (fun i => [D i.1, D (eS i.2)]) (fun i => D (.bool (isLot i.1 i.2)))
theorem ok_is_lot (T : Tx K mg) : Dn P w K mg base 4 "is_lot" ["value", "entries"] spIsLot := by
  have D_is_ascending := ok_is_ascending (P := P) (w := w) (base := base) T
  refine dn_mk T.fd_is_lot T.g_is_lot sc_is_lot (prm_len fun _ => rfl) (fun _ _ _ _ _ _ us hl => match us, hl with | [_, _], _ => rfl) fun cdv A outer s H vs Q E hr hu64 hu65 h => ?_
  have nd := sc_is_lot.nd
  refine ⟨_, (pss_one (ps_ret (pe_and (pe_callD D_is_ascending (hr.mono (by decide)) rfl (pa_cons (pv 0) pa_nil)) (pe_one (pe_cmpR (k_eq K hu64) (pe_lc (own := [("name", 2)]) rfl nd (k_over K (pv 0)) (blkOk_by (own := [("name", 2)]) (N := N_is_lot) (sc := defScope s_is_lot) (by decide +kernel)) (fun _ _ _ _ _ => (pg_name (i := 2) nd rfl (Or.inl rfl))) (fun _ _ _ _ _ => (pts_one (pt_cmpR (k_ni K hu65) (pv 2) (pv 1) (by rfl)))) (fun _ _ _ _ _ => (pv 2))) (pe_lst pa_nil) (nomark _)))))), fn_prm (E := E) h fun i hi => ?_⟩
  obtain ⟨d, ns⟩ := i
  show Sj none 0 [some (.im (D d)), some (.im (D (eS ns))), none] _ _
  refine sj_ret (pu_andV (b := (strsD d).all fun x => decide (x ∈ ns)) (pu_call1 (ι := PyData) d hi (pa_c (pu_var rfl) pa_n) ⟨sub_D, trivial⟩) (fun hn => ?_)) (le_bool rfl)
  have hn2 : areNames d = true := by
    unfold isAsc at hn
    rw [Bool.and_eq_true] at hn
    exact hn.1
  obtain ⟨xs, rfl, ok, nd⟩ := names_shape hn2
  have sml : Sm (eS xs) := by
    rcases hi with hd | hd
    · exact hd
    · cases hd
  have hl := sm_list_len sml
  rw [List.length_map] at hl
  have mem := sm_list_mem sml
  rw [strsD_S]
  refine (pu_isNil ((pu_lcE (enc := PyData.str) (pu_var rfl) [2] (by simp) (by omega) (fun x => !decide (x ∈ ns)) (fun x => D (.str x))
    (fun x hx => ⟨_, tg_name, qt_test (pu_op (pu_var rfl) (pu_var rfl) (rv_niS (xs := ns))), fun _ => pu_var rfl⟩)).le ln_Dm) (shaped_sub mem fun e he => by
      obtain ⟨x, hx, rfl⟩ := List.mem_map.mp he
      exact List.mem_map.mpr ⟨x, (List.mem_filter.mp hx).1, rfl⟩)).le (le_bool ?_)
  rw [isEmpty_map, filter_isEmpty]
  simp
abbrev N_is_field : List Str := ["value", "entries"]
theorem sc_is_field : FnScope N_is_field ["value", "entries"] (defScope s_is_field) := ⟨rfl, rfl, rfl, by decide +kernel, rfl, by decide +kernel, by decide +kernel⟩
def spIsField : Sp := Prp (ι := PyData × List Str) (fun i => Nice i.1) (fun i => [D i.1, D (eS i.2)]) (fun i => D (.bool (isField i.1 i.2)))
theorem ok_is_field (T : Tx K mg) : Dn P w K mg base 5 "is_field" ["value", "entries"] spIsField := by
  have D_is_lot := ok_is_lot (P := P) (w := w) (base := base) T
  refine dn_mk T.fd_is_field T.g_is_field sc_is_field (prm_len fun _ => rfl) (fun _ _ _ _ _ _ us hl => match us, hl with | [_, _], _ => rfl) fun cdv A outer s H vs Q E hr hu64 hu65 h => ?_
  have nd := sc_is_field.nd
  refine ⟨_, (pss_one (ps_ret (pe_and (pe_callD D_is_lot (hr.mono (by decide)) rfl (pa_cons (pv 0) (pa_cons (pv 1) pa_nil))) (pe_one (pe_cmpR (k_ne K hu64) (pv 0) (pe_lst pa_nil) (nomark _)))))), fn_prm (E := E) h fun i hi => ?_⟩
  obtain ⟨d, ns⟩ := i
  show Sj none 0 [some (.im (D d)), some (.im (D (eS ns)))] _ _
  refine sj_ret (pu_andV (b := !(strsD d).isEmpty) (pu_call1 (ι := PyData × List Str) (d, ns) hi (pa_c (pu_var rfl) (pa_c (pu_var rfl) pa_n)) ⟨sub_D, sub_D, trivial⟩) (fun hn => ?_)) (le_bool rfl)
  have hn2 : areNames d = true := by
    unfold isLot isAsc at hn
    simp only [Bool.and_eq_true] at hn
    exact hn.1.1
  obtain ⟨xs, rfl, ok, nd⟩ := names_shape hn2
  have sml : Sm (eS xs) := by
    rcases hi with hd | hd
    · exact hd
    · cases hd
  have := pu_notNil (K := K) (pu := none) (n := 0) (env := [some (.im (D (eS xs))), some (.im (D (eS ns)))]) (te := tVar 0) (ds := xs.map .str) (pu_var rfl) sml.shaped
  rw [strsD_S]
  rwa [isEmpty_map] at this
abbrev N_check_entries : List Str := ["value"]
theorem sc_check_entries : FnScope N_check_entries ["value"] (defScope s_check_entries) := ⟨rfl, rfl, rfl, by decide +kernel, rfl, by decide +kernel, by decide +kernel⟩
def spCheckEntries : Sp := Prp (ι := PyData) (fun d => Nice d ∧ areEntries d = true) (fun d => [D d]) (fun d => D .none)
theorem ok_check_entries (T : Tx K mg) : Dn P w K mg base 4 "check_entries" ["value"] spCheckEntries := by
  have D_are_entries := ok_are_entries (P := P) (w := w) (base := base) T
  refine dn_mk T.fd_check_entries T.g_check_entries sc_check_entries (prm_len fun _ => rfl) (fun _ _ _ _ _ _ us hl => match us, hl with | [_], _ => rfl) fun cdv A outer s H vs Q E hr hu64 hu65 h => ?_
  have nd := sc_check_entries.nd
  refine ⟨_, (pss_one (ps_if (pt_not (pt_val (pe_callD D_are_entries (hr.mono (by decide)) rfl (pa_cons (pv 0) pa_nil)))) (pss_one ps_never) pss_nil)), fn_prm (E := E) h fun i hi => ?_⟩
  show Sj none 0 [some (.im (D i))] _ _
  refine sj_if (qt_not (qt_B (pu_call1 (ι := PyData) i hi.1 (pa_c (pu_var rfl) pa_n) ⟨sub_D, trivial⟩))) (fun hb => ?_) (fun hb => sj_next ⟨Nat.le_refl _, fun _ _ => .non⟩)
  rw [hi.2] at hb
  cases hb
end
end Cp
set_option Elab.async false
set_option linter.all false
set_option maxRecDepth 100000
set_option maxHeartbeats 1000000
/-! M3: sorted lists; what the functions answer. -/
namespace Cp
open PySem L2 PySem.W PyProof.Rows
/-! ### sorting -/
theorem toks_inj {x y : PyData} (h : alike x y = true) (e : keyToks x = keyToks y) : PyData.eqv x y = true := by
  cases q : PyData.eqv x y with
  | true => rfl
  | false =>
    have t := (toks_eqv x y h).2 q [] [.inl 0]
    rw [e] at t
    have t1 := lex_pre (keyToks y) [] [.inl 0]
    have t2 : lexLt itemOrd (keyToks y) (keyToks y) = false := (listOrd itemOrd).irrefl _
    rw [t1, t2] at t
    cases t
theorem le_anti {β : Type} {k : β → PyData} (al : ∀ a b, alike (k a) (k b) = true) (inj : ∀ a b, PyData.eqv (k a) (k b) = true → a = b) {a b : β} (h1 : dataLe false k a b = true) (h2 : dataLe false k b a = true) : a = b := by
  have h1' : (!(listOrd itemOrd).blt (keyToks (k b)) (keyToks (k a))) = true := h1
  have h2' : (!(listOrd itemOrd).blt (keyToks (k a)) (keyToks (k b))) = true := h2
  rw [Bool.not_eq_true'] at h1' h2'
  exact inj a b (toks_inj (al a b) ((listOrd itemOrd).total _ _ h2' h1'))
theorem sort_perm_eq {β : Type} {k : β → PyData} (al : ∀ a b, alike (k a) (k b) = true) (inj : ∀ a b, PyData.eqv (k a) (k b) = true → a = b) {l m : List β} (p : l.Perm m) : l.mergeSort (dataLe false k) = m.mergeSort (dataLe false k) :=
  List.Perm.eq_of_pairwise (le := fun a b => dataLe false k a b = true) (fun a b _ _ h1 h2 => le_anti al inj h1 h2) (sort_pairwise (sortLe_total _ _ _) l) (sort_pairwise (sortLe_total _ _ _) m) (((List.mergeSort_perm l _).trans p).trans (List.mergeSort_perm m _).symm)
theorem alike_strsAll : ∀ xs ys : List Str, alikeAll (xs.map .str) (ys.map .str) = true
  | [], _ => by simp [alikeAll]
  | _ :: _, [] => by simp [alikeAll]
  | x :: xs, y :: ys => by
    have ih := alike_strsAll xs ys
    simp [alikeAll, alike, ih]
theorem alike_S (xs ys : List Str) : alike (eS xs) (eS ys) = true := by
  unfold eS
  simp [alike, alike_strsAll]
theorem alike_L (a b : Line) : alike (eL a) (eL b) = true := by
  unfold eL
  simp [alike, alikeAll, alike_S]
def sortL (ls : List Line) : List Line := ls.mergeSort (dataLe false eL)
theorem sortL_perm (ls : List Line) : (sortL ls).Perm ls := List.mergeSort_perm _ _
theorem sortD_L (ls : List Line) : sortD (ls.map eL) = (sortL ls).map eL := (sort_maps (s := dataLe false id) eL fun _ _ _ _ => rfl).symm
theorem sortL_eq {l m : List Line} (p : l.Perm m) : sortL l = sortL m := sort_perm_eq alike_L (fun a b h => by rw [eqv_L] at h; exact of_decide_eq_true h) p
theorem sortS_eq {l m : List Str} (p : l.Perm m) : sortS l = sortS m := sort_perm_eq (fun a b => by simp [alike]) (fun a b h => by simpa [PyData.eqv] using h) p
def leS (a b : Str) : Prop := dataLe false PyData.str a b = true
def leL (a b : Line) : Prop := dataLe false eL a b = true
theorem sortS_pw (l : List Str) : (sortS l).Pairwise leS := sort_pairwise (sortLe_total _ _ _) l
theorem sortL_pw (l : List Line) : (sortL l).Pairwise leL := sort_pairwise (sortLe_total _ _ _) l
theorem sortS_of {l : List Str} (h : l.Pairwise leS) : sortS l = l :=
  List.Perm.eq_of_pairwise (le := leS) (fun a b _ _ h1 h2 => le_anti (k := PyData.str) (fun a b => by simp [alike]) (fun a b h => by simpa [PyData.eqv] using h) h1 h2) (sortS_pw l) h (sortS_perm l)
theorem sortL_of {l : List Line} (h : l.Pairwise leL) : sortL l = l :=
  List.Perm.eq_of_pairwise (le := leL) (fun a b _ _ h1 h2 => le_anti (k := eL) alike_L (fun a b h => by rw [eqv_L] at h; exact of_decide_eq_true h) h1 h2) (sortL_pw l) h (sortL_perm l)
theorem sortS_asc {l : List Str} (h : sortS l = l) : l.Pairwise leS := by
  have := sortS_pw l
  rwa [h] at this
theorem sortS_sub {l m : List Str} (h : sortS l = l) (s : m.Sublist l) : sortS m = m := sortS_of ((sortS_asc h).sublist s)
/-- the lines told, sorted, each once -/
def once : List Line → List Line → List Line
  | acc, [] => acc
  | acc, l :: r => once (if l ∈ acc then acc else acc ++ [l]) r
def canon (ls : List Line) : List Line := once [] (sortL ls)
/-! ### names, lines -/
structure Ns (ns : List Str) : Prop where
  ok : ∀ x ∈ ns, nameOk x = true
  nd : ns.Nodup
  ne : ns ≠ []
  le : ns.length ≤ 4
structure LnOk (ns : List Str) (l : Line) : Prop where
  w : l.1 = "call" ∨ l.1 = "off"
  f : isField (eS l.2.1) ns = true
  e : l.2.2 ∈ ns
  x : l.2.2 ∈ l.2.1 ↔ l.1 = "call"
theorem sub_len {xs : List Str} : ∀ {ns : List Str}, xs.Nodup → (∀ x ∈ xs, x ∈ ns) → xs.length ≤ ns.length := by
  induction xs with
  | nil => intro ns _ _; exact Nat.zero_le _
  | cons x xs ih =>
    intro ns nd h
    rw [List.nodup_cons] at nd
    have hx := h x List.mem_cons_self
    have h2 := ih (ns := ns.erase x) nd.2 fun y hy => (List.mem_erase_of_ne (fun e => nd.1 (by rw [← e]; exact hy))).mpr (h y (List.mem_cons_of_mem _ hy))
    rw [List.length_erase_of_mem hx] at h2
    have : 0 < ns.length := List.length_pos_of_mem hx
    rw [List.length_cons]
    omega
structure FldOk (ns f : List Str) : Prop where
  sub : ∀ x ∈ f, x ∈ ns
  nd : f.Nodup
  so : sortS f = f
  ne : f ≠ []
theorem isLot_S {ns f : List Str} : isLot (eS f) ns = true ↔ (∀ x ∈ f, nameOk x = true) ∧ f.Nodup ∧ sortS f = f ∧ ∀ x ∈ f, x ∈ ns := by
  unfold isLot isAsc
  rw [areNames_S, strsD_S]
  simp only [Bool.and_eq_true, List.all_eq_true, decide_eq_true_eq]
  exact ⟨fun ⟨⟨⟨a, b⟩, c⟩, d⟩ => ⟨a, b, c.symm, d⟩, fun ⟨a, b, c, d⟩ => ⟨⟨⟨a, b⟩, c.symm⟩, d⟩⟩
theorem fld_iff {ns f : List Str} (N : Ns ns) : isField (eS f) ns = true ↔ FldOk ns f := by
  unfold isField
  rw [Bool.and_eq_true, isLot_S, strsD_S]
  constructor
  · rintro ⟨⟨a, b, c, d⟩, e⟩
    exact ⟨d, b, c, by intro z; rw [z] at e; cases e⟩
  · rintro ⟨a, b, c, d⟩
    exact ⟨⟨fun x hx => N.ok x (a x hx), b, c, a⟩, by cases f with | nil => exact absurd rfl d | cons _ _ => rfl⟩
theorem FldOk.le {ns f : List Str} (N : Ns ns) (h : FldOk ns f) : f.length ≤ 4 := Nat.le_trans (sub_len h.nd h.sub) N.le
theorem Ns.okS {ns : List Str} (N : Ns ns) {xs : List Str} (h : ∀ x ∈ xs, x ∈ ns) : ∀ x ∈ xs, okS x = true := fun x hx => name_ok (N.ok x (h x hx))
theorem Ns.smS {ns : List Str} (N : Ns ns) {xs : List Str} (h : ∀ x ∈ xs, x ∈ ns) (hl : xs.length ≤ 1000) : Sm (eS xs) := sm_S hl (N.okS h)
theorem Ns.perm {ns ms : List Str} (N : Ns ns) (p : ms.Perm ns) : Ns ms := ⟨fun x hx => N.ok x (p.mem_iff.mp hx), p.nodup_iff.mpr N.nd, fun e => N.ne (by rw [e] at p; exact p.nil_eq.symm), by rw [p.length_eq]; exact N.le⟩
theorem LnOk.fld {ns : List Str} {l : Line} (N : Ns ns) (h : LnOk ns l) : FldOk ns l.2.1 := (fld_iff N).mp h.f
theorem LnOk.perm {ns ms : List Str} {l : Line} (h : LnOk ns l) (p : ms.Perm ns) : LnOk ms l := by
  refine ⟨h.w, ?_, p.mem_iff.mpr h.e, h.x⟩
  have := h.f
  unfold isField isLot at this ⊢
  simp only [Bool.and_eq_true, List.all_eq_true, decide_eq_true_eq] at this ⊢
  exact ⟨⟨this.1.1, fun x hx => p.mem_iff.mpr (this.1.2 x hx)⟩, this.2⟩
theorem depth_tup3 {a b c : PyData} {n : Nat} (h1 : a.depth ≤ n) (h2 : b.depth ≤ n) (h3 : c.depth ≤ n) : (PyData.tuple [a, b, c]).depth ≤ n + 1 := by
  have : PyData.depthAll [a, b, c] ≤ n := depthAll_le.mpr fun d hd => by
    simp only [List.mem_cons, List.not_mem_nil, or_false] at hd
    rcases hd with rfl | rfl | rfl <;> assumption
  simp only [PyData.depth]
  omega
theorem sm_L {l : Line} (h1 : okS l.1 = true) (h2 : okS l.2.2 = true) (h3 : Sm (eS l.2.1)) : Sm (eL l) := by
  refine ⟨?_, ?_⟩
  · have := h3.s
    simp only [eL, sm, smAll, Bool.and_eq_true, Bool.and_true, decide_eq_true_eq]
    exact ⟨by simp, h1, this, h2⟩
  · have h4 := depth_S l.2.1
    exact Nat.le_trans (depth_tup3 (n := 1) (by simp [PyData.depth]) h4 (by simp [PyData.depth])) (by decide)
theorem ok_call : okS "call" = true := by decide +kernel
theorem ok_off : okS "off" = true := by decide +kernel
theorem LnOk.sm {ns : List Str} {l : Line} (N : Ns ns) (h : LnOk ns l) : Sm (eL l) := by
  refine sm_L ?_ (N.okS (xs := [l.2.2]) (by simpa using h.e) _ (by simp)) (N.smS (h.fld N).sub (Nat.le_trans ((h.fld N).le N) (by decide)))
  rcases h.w with e | e <;> rw [e]
  · exact ok_call
  · exact ok_off
theorem shL {ls : List Line} (h : ∀ l ∈ ls, Sm (eL l)) : SeqAt.shaped (eLs ls) = true := shaped_list (fun d hd => by
  obtain ⟨l, hl, rfl⟩ := List.mem_map.mp hd
  exact (h l hl).s) fun d hd => by
  obtain ⟨l, hl, rfl⟩ := List.mem_map.mp hd
  exact Nat.le_trans (h l hl).d (by decide)
/-! ### rows and lines -/
def meets (row field : List Str) (x : Str) : Bool := decide ((row.filter fun y => decide (y ∈ field)).head? = some x)
def keepsLine (rows : List (List Str)) (l : Line) : Bool := if l.1 = "call" then rows.any fun r => meets r l.2.1 l.2.2 else !rows.any fun r => meets r (l.2.1 ++ [l.2.2]) l.2.2
def brkD (rows : List (List Str)) (l : Line) : PyData := .tuple [eL l, if l.1 = "call" then .none else .int (rows.findIdx fun r => meets r (l.2.1 ++ [l.2.2]) l.2.2 : Nat)]
def firstBrk (ls : List Line) (rows : List (List Str)) : PyData := match ls.find? (fun l => !keepsLine rows l) with
  | some l => brkD rows l
  | none => .none
abbrev Wish := List Str × Str
def wishOffs (w : Wish) : List Off := (w.1.filter fun n => !decide (n = w.2)).map fun n => ([w.2], n)
def offs (ls : List Line) (ws : List Wish) : List Off := ((ls.filter fun (l : Line) => decide (l.1 = "off")).map fun (l : Line) => ((l.2.1, l.2.2) : Off)) ++ ws.flatMap wishOffs
def barred (os : List Off) (row : List Str) : List Str := (os.filter fun o => (o.1.filter fun n => decide (n ∈ row)).isEmpty).map (·.2)
def walk (os : List Off) : Nat → List Str → List Str → List Str × List Str
  | 0, row, rest => (row, rest)
  | k + 1, row, rest => if (rest.filter fun n => !decide (n ∈ barred os row)) = [] then (row, rest) else walk os k (row ++ rest.filter fun n => !decide (n ∈ barred os row)) (rest.filter fun n => decide (n ∈ barred os row))
def walked (ns : List Str) (os : List Off) : List Str × List Str := walk os ns.length [] ns
def held (os : List Off) (v : List Str) : List Str := (os.filter fun o => o.1.all fun n => decide (n ∈ v)).map (·.2)
def stuckS (os : List Off) (v : List Str) : Bool := v.all fun n => decide (n ∈ held os v)
def calls (ls : List Line) : List Line := ls.filter fun (l : Line) => decide (l.1 = "call")
def wishOf (l : Line) : List Wish := [(l.2.1, l.2.2)]
def barD (ns : List Str) (ls : List Line) : PyData := if (walked ns (offs ls [])).2 ≠ [] then .tuple [.none, eS (walked ns (offs ls [])).2] else
  match (calls ls).find? (fun l => decide ((walked ns (offs ls (wishOf l))).2 ≠ [])) with
  | some l => .tuple [eL l, eS (walked ns (offs ls (wishOf l))).2]
  | none => .none
def keepRows (ns : List Str) (ls : List Line) : List (List Str) := if calls ls = [] then [(walked ns (offs ls [])).1] else (calls ls).map fun l => (walked ns (offs ls (wishOf l))).1
def isLineD (d : PyData) (ns : List Str) : Bool := match d with
  | .tuple [.str w, lot, e] => (decide (w = "call") || decide (w = "off")) && (isField lot ns && (isName e && (decide (strD e ∈ ns) && (decide (strD e ∈ strsD lot) == decide (w = "call")))))
  | _ => false
end Cp
set_option Elab.async false
set_option linter.all false
set_option maxRecDepth 100000
set_option maxHeartbeats 1000000
/-! H1: more rules: subtypes, targets, instances. -/
namespace Cp
open PySem L2 PySem.Spec PyProof.Rows
section
variable {K : PySem.W.Frag} {pu : Option Addr} {n n1 n2 m : Nat} {env : Env'} {te tl : TE}
theorem qt_yes : PuT pu n n env tYes (· = true) := fun G0 H0 σ G H a e Q q => q true G H a.here rfl
theorem sj_asgT {g : TG} {T : Ty} {js : List Nat} {e' : Env'} {O : Out} (h : Pu pu n n1 env te T) (tg : Tg js g T env e') (k : O.nx n1 e') : Sj pu n env (tAsg te g) O := fun G0 H0 σ G H a e E h1 _ _ _ =>
  h G0 H0 σ G H a e _ fun v G' H' b r => tg pu n1 G0 H0 G' H' σ v b.here (e.keep b) r _ fun σ' e2 _ => h1 _ _ _ G' H' k (a.trans b) b.g e2
theorem le_strF {x : Str} : (D (.str x)).le (Fd (.str x)) := fun _ _ _ h => by
  rw [dq_str h]
  exact .str x
theorem le_intF {x : Int} : (D (.int x)).le (Fd (.int x)) := fun _ _ _ h => by
  rw [dq_int h]
  exact .int x
theorem le_nonF : (D .none).le (Fd .none) := fun _ _ _ h => by
  rw [dq_non h]
  exact .non
theorem le_boolF {x : Bool} : (D (.bool x)).le (Fd (.bool x)) := fun _ _ _ h => by
  rw [dq_bool h]
  exact .bl x
def Les : List Ty → List Ty → Prop
  | [], [] => True
  | T :: Ts, U :: Us => T.le U ∧ Les Ts Us
  | _, _ => False
theorem les_ok {G0 G : Hp} : ∀ {Ts Us : List Ty} {vs : List V}, Les Ts Us → Tys G0 G vs Ts → Tys G0 G vs Us
  | [], [], [], _, _ => trivial
  | _ :: _, _ :: _, _ :: _, s, h => ⟨s.1 _ _ _ h.1, les_ok s.2 h.2⟩
  | [], [], _ :: _, _, h => h.elim
  | _ :: _, _ :: _, [], _, h => h.elim
  | [], _ :: _, _, s, _ => s.elim
  | _ :: _, [], _, s, _ => s.elim
theorem les_map {α : Type} {f g : α → Ty} : ∀ {xs : List α}, (∀ x ∈ xs, (f x).le (g x)) → Les (xs.map f) (xs.map g)
  | [], _ => trivial
  | x :: xs, h => ⟨h x List.mem_cons_self, les_map fun y hy => h y (List.mem_cons_of_mem _ hy)⟩
theorem ln_le {Ts Us : List Ty} (h : Les Ts Us) : (Ln Ts).le (Ln Us) := fun G0 v G ⟨a, vs, h1, h2, h3, h4⟩ => ⟨a, vs, h1, h2, h3, les_ok h h4⟩
theorem tn_le {Ts Us : List Ty} (h : Les Ts Us) : (Tn Ts).le (Tn Us) := fun G0 v G ⟨a, vs, h1, h2, h3, h4⟩ => ⟨a, vs, h1, h2, h3, les_ok h h4⟩
theorem ln_mapD {α : Type} {enc : α → PyData} {xs : List α} {f : α → Ty} (h : ∀ x ∈ xs, (f x).le (D (enc x))) : (Ln (xs.map f)).le (D (.list (xs.map enc))) := (ln_le (les_map h)).trans (by
  have := ln_D (ds := xs.map enc)
  rw [List.map_map] at this
  exact this)
theorem ln_mapF {α : Type} {enc : α → PyData} {xs : List α} {f : α → Ty} (h : ∀ x ∈ xs, (f x).le (Fd (enc x))) : (Ln (xs.map f)).le (Fd (.list (xs.map enc))) := (ln_le (les_map h)).trans (by
  have := ln_F (ds := xs.map enc)
  rw [List.map_map] at this
  exact this)
theorem ln_SF {xs : List Str} : (Ln (xs.map fun x => D (.str x))).le (Fd (eS xs)) := ln_mapF (enc := PyData.str) fun _ _ => le_strF
theorem ln_SF2 {xs : List Str} : (Ln ((xs.map PyData.str).map D)).le (Fd (eS xs)) := by
  rw [List.map_map]
  exact ln_SF
theorem ln_SD {xs : List Str} : (Ln (xs.map fun x => D (.str x))).le (D (eS xs)) := ln_SF.trans le_FD
/-- over a list of encoded items, all of them -/
theorem pu_lcA {α : Type} {enc : α → PyData} {xs : List α} {g : TG} {vs : List Nat} (h : Pu pu n n1 env tl (D (.list (xs.map enc)))) (js : List Nat) (hjs : ∀ j ∈ js, j ∈ vs) (hL : xs.length ≤ 10000) (Rf : α → Ty)
    (hs : ∀ x, x ∈ xs → ∃ e', Tg js g (D (enc x)) (wipeE env vs) e' ∧ Pu pu n1 n1 e' te (Rf x)) : Pu pu n n1 env (tLc (iList K tl) g tYes te vs) (Ln (xs.map Rf)) := by
  have := pu_lcE (K := K) h js hjs hL (fun _ => true) Rf (g := g) (tt := tYes) (te := te) fun x hx => by
    obtain ⟨e', h1, h2⟩ := hs x hx
    exact ⟨e', h1, qt_yes, fun _ => h2⟩
  have e : xs.filter (fun _ => true) = xs := List.filter_eq_self.mpr fun _ _ => rfl
  rwa [e] at this
def AnyT : Ty := ⟨fun _ _ _ => True, fun _ _ h => h⟩
theorem paired_of {G H : Hp} (s : Same G H) {α : Type} {f : α → Str} {g : α → Int} {G0 : Hp} : ∀ {is : List α} {vs : List V}, Tys G0 G vs (is.map fun i => Tn [D (.str (f i)), D (.int (g i))]) →
    ∃ (ps : List Addr) (kvs : List (Key × V)), vs = ps.map V.ref ∧ Paired (fun p kv => SqT K H p [kV kv.1, kv.2]) ps kvs
  | [], [], _ => ⟨[], [], rfl, .nil⟩
  | i :: is, v :: vs, h => by
    obtain ⟨ps, kvs, e, p⟩ := paired_of s h.2
    obtain ⟨a, ws, e1, _, e3, e4⟩ := h.1
    obtain ⟨x, y, rfl, hx, hy⟩ := tys2 e4
    rw [dq_str hx, dq_int hy] at e3
    exact ⟨a :: ps, (.inr (f i), .int (g i)) :: kvs, by rw [e1, e]; rfl, .cons (.inl (.inl (s _ _ e3))) p⟩
  | [], _ :: _, h => h.elim
  | _ :: _, [], h => h.elim
theorem rc_dict {α : Type} {f : α → Str} {g : α → Int} {is : List α} : RC (rDictQ K) [Ln (is.map fun i => Tn [D (.str (f i)), D (.int (g i))])] AnyT := fun pu n G0 G H vs gr _ h Q q => by
  obtain ⟨v, rfl, a, ws, rfl, _, e3, e4⟩ := tys1 h
  obtain ⟨ps, kvs, e, p⟩ := paired_of (K := K) gr.s e4
  refine ⟨a, ps, kvs, rfl, .inl (.inl ?_), p, fun x hx => q _ _ _ (gr.new hx) trivial⟩
  rw [← e]
  exact gr.s _ _ e3
/-! ### instances -/
/-- a book of these names, with these lines told -/
def BkT (K : PySem.W.Frag) (ns : List Str) (ls : List Line) : Ty := ⟨fun _ v G => ∃ a dx v1 v2, v = .ref a ∧ G a = some (.ins (CB K) dx [("names", v1), ("told", v2)]) ∧ Dq (fun _ => True) G v1 (eS ns) ∧ Dq (fun _ => True) G v2 (eLs ls),
  fun _ e ⟨a, dx, v1, v2, h1, h2, h3, h4⟩ => ⟨a, dx, v1, v2, h1, e _ _ h2, h3.mono e fun _ z => z, h4.mono e fun _ z => z⟩⟩
/-- a panel of these names, with these rows -/
def PnT (K : PySem.W.Frag) (ns : List Str) (rs : List (List Str)) : Ty := ⟨fun _ v G => ∃ a dx v1 v2 v3, v = .ref a ∧ G a = some (.ins (CP K) dx [("names", v1), ("orders", v2), ("spots", v3)]) ∧ Dq (fun _ => True) G v1 (eS ns) ∧ Dq (fun _ => True) G v2 (eR rs),
  fun _ e ⟨a, dx, v1, v2, v3, h1, h2, h3, h4⟩ => ⟨a, dx, v1, v2, v3, h1, e _ _ h2, h3.mono e fun _ z => z, h4.mono e fun _ z => z⟩⟩
theorem sub_Bk {ns : List Str} {ls : List Line} : (BkT K ns ls).sub (BkT K ns ls) := fun _ _ _ h => h
theorem sub_Pn {ns : List Str} {rs : List (List Str)} : (PnT K ns rs).sub (PnT K ns rs) := fun _ _ _ h => h
theorem pu_bkN {mg : Str → Option Value} (T : Tx K mg) {ns : List Str} {ls : List Line} (h : Pu pu n n1 env te (BkT K ns ls)) : Pu pu n n1 env (tFld K te "names") (D (eS ns)) := fun G0 H0 σ G H a e Q q =>
  h G0 H0 σ G H a e _ fun v G' H' b ⟨o, dx, v1, v2, h1, h2, h3, h4⟩ => ⟨o, _, dx, _, v1, h1, b.s _ _ h2, T.k_Book, T.n_Book_names, rfl, q _ _ _ b h3⟩
theorem pu_bkT {mg : Str → Option Value} (T : Tx K mg) {ns : List Str} {ls : List Line} (h : Pu pu n n1 env te (BkT K ns ls)) : Pu pu n n1 env (tFld K te "told") (D (eLs ls)) := fun G0 H0 σ G H a e Q q =>
  h G0 H0 σ G H a e _ fun v G' H' b ⟨o, dx, v1, v2, h1, h2, h3, h4⟩ => ⟨o, _, dx, _, v2, h1, b.s _ _ h2, T.k_Book, T.n_Book_told, rfl, q _ _ _ b h4⟩
theorem pu_pnN {mg : Str → Option Value} (T : Tx K mg) {ns : List Str} {rs : List (List Str)} (h : Pu pu n n1 env te (PnT K ns rs)) : Pu pu n n1 env (tFld K te "names") (D (eS ns)) := fun G0 H0 σ G H a e Q q =>
  h G0 H0 σ G H a e _ fun v G' H' b ⟨o, dx, v1, v2, v3, h1, h2, h3, h4⟩ => ⟨o, _, dx, _, v1, h1, b.s _ _ h2, T.k_Panel, T.n_Panel_names, rfl, q _ _ _ b h3⟩
theorem pu_pnO {mg : Str → Option Value} (T : Tx K mg) {ns : List Str} {rs : List (List Str)} (h : Pu pu n n1 env te (PnT K ns rs)) : Pu pu n n1 env (tFld K te "orders") (D (eR rs)) := fun G0 H0 σ G H a e Q q =>
  h G0 H0 σ G H a e _ fun v G' H' b ⟨o, dx, v1, v2, v3, h1, h2, h3, h4⟩ => ⟨o, _, dx, _, v2, h1, b.s _ _ h2, T.k_Panel, T.n_Panel_orders, rfl, q _ _ _ b h4⟩
abbrev rIsC (C : Addr) : List V → Hp → VK → Prop := fun xs H Q => ∃ a dx fs, xs = [.ref a, .ref C] ∧ H a = some (.ins C dx fs) ∧ Q (.bl true) H
theorem rc_isB {ns : List Str} {ls : List Line} : RC (rIsC (CB K)) [BkT K ns ls, Vv (.ref (CB K))] (D (.bool true)) := fun pu n G0 G H vs gr _ h Q q => by
  obtain ⟨v, w, rfl, ⟨o, dx, v1, v2, h1, h2, _⟩, hw⟩ := tys2 h
  cases (show w = _ from hw)
  exact ⟨o, dx, _, by rw [h1], gr.s _ _ h2, q _ _ _ gr (.bl true)⟩
theorem rc_isP {ns : List Str} {rs : List (List Str)} : RC (rIsC (CP K)) [PnT K ns rs, Vv (.ref (CP K))] (D (.bool true)) := fun pu n G0 G H vs gr _ h Q q => by
  obtain ⟨v, w, rfl, ⟨o, dx, v1, v2, v3, h1, h2, _⟩, hw⟩ := tys2 h
  cases (show w = _ from hw)
  exact ⟨o, dx, _, by rw [h1], gr.s _ _ h2, q _ _ _ gr (.bl true)⟩
/-- a call of a method -/
theorem pu_meth {ι : Type} {P : ι → Prop} {As : ι → List Ty} {Rt : ι → Ty} {C : Addr} {mn : Str} {E : XK} {T : Ty} (i : ι) (hP : P i) (h : Pu pu n n1 env te T) (hT : ∀ G0 v G, T.p G0 v G → ∃ a dx fs, v = .ref a ∧ G a = some (.ins C dx fs) ∧ fs.lookup mn = none) (hs : Subs [T] (As i)) :
    Pu pu n n1 env (tMeth C mn (Prp P As Rt) [] E te tNil) (Rt i) := fun G0 H0 σ G H a e Q q =>
  h G0 H0 σ G H a e _ fun v G1 S1 b1 r1 => by
    obtain ⟨o, dx, fs, e1, e2, e3⟩ := hT _ _ _ r1
    refine ⟨o, dx, fs, e1, b1.s _ _ e2, e3, ?_⟩
    exact ⟨i, hP, G1, b1.pure, subs_ok (vs := [v]) hs ⟨r1, trivial⟩, fun w G' H' g r => q w G' H' (b1.trans (b1.lift g)) ((Rt i).mono ((a.trans b1).g) (Same.refl _) r)⟩
theorem bk_ins {ns : List Str} {ls : List Line} {mn : Str} (h1 : mn ≠ "names") (h2 : mn ≠ "told") : ∀ G0 v G, (BkT K ns ls).p G0 v G → ∃ a dx fs, v = .ref a ∧ G a = some (.ins (CB K) dx fs) ∧ fs.lookup mn = none := fun G0 v G ⟨a, dx, v1, v2, e1, e2, _⟩ =>
  ⟨a, dx, _, e1, e2, by simp [List.lookup, beq_eq_false_iff_ne.mpr h1, beq_eq_false_iff_ne.mpr h2]⟩
theorem pn_ins {ns : List Str} {rs : List (List Str)} {mn : Str} (h1 : mn ≠ "names") (h2 : mn ≠ "orders") (h3 : mn ≠ "spots") : ∀ G0 v G, (PnT K ns rs).p G0 v G → ∃ a dx fs, v = .ref a ∧ G a = some (.ins (CP K) dx fs) ∧ fs.lookup mn = none := fun G0 v G ⟨a, dx, v1, v2, v3, e1, e2, _⟩ =>
  ⟨a, dx, _, e1, e2, by simp [List.lookup, beq_eq_false_iff_ne.mpr h1, beq_eq_false_iff_ne.mpr h2, beq_eq_false_iff_ne.mpr h3]⟩
end
end Cp
set_option Elab.async false
set_option linter.all false
set_option maxRecDepth 100000
set_option maxHeartbeats 2000000
/-! P3: lines, rows, doors. -/
namespace Cp
open PySem L2 PySem.Spec PyProof.Rows
theorem isLine_other {d : PyData} {ns : List Str} (h : ∀ w lot e, d ≠ .tuple [.str w, lot, e]) : isLineD d ns = false := by
  unfold isLineD
  split
  · exact absurd rfl (h _ _ _)
  · rfl
section
variable {K : PySem.W.Frag} {pu : Option Addr} {n n1 : Nat} {env : Env'} {te : TE} {d : PyData}
theorem pu_isTupT {b : Bool} (h : Pu pu n n1 env te (D d)) (e : decide (tyName d = "tuple") = b := by rfl) : Pu pu n n1 env (tCB (rIsi K) (tCons te (tCons (tC (.ty "tuple")) tNil))) (D (.bool b)) := (pu_isTup h).le (le_bool e)
theorem pu_isListT {b : Bool} (h : Pu pu n n1 env te (D d)) (e : decide (tyName d = "list") = b := by rfl) : Pu pu n n1 env (tCB (rIsi K) (tCons te (tCons (tC (.ty "list")) tNil))) (D (.bool b)) := (pu_isList h).le (le_bool e)
end
theorem filter_no {α : Type} (xs : List α) : xs.filter (fun _ => false) = [] := List.filter_eq_nil_iff.mpr fun _ _ => by simp
section
variable {P : Program} {w : World} {K : PySem.W.Frag} {mg : Str → Option Value} {base : Heap}
abbrev N_is_line : List Str := ["value", "names", "word", "lot", "entry"]
theorem sc_is_line : FnScope N_is_line ["value", "names"] (defScope s_is_line) := ⟨rfl, rfl, rfl, by decide +kernel, rfl, by decide +kernel, by decide +kernel⟩
def spIsLine : Sp := Prp (ι := PyData × List Str) (fun i => Sm i.1) (fun i => [D i.1, D (eS i.2)]) (fun i => D (.bool (isLineD i.1 i.2)))
theorem ok_is_line (T : Tx K mg) : Dn P w K mg base 6 "is_line" ["value", "names"] spIsLine := by
  have D_is_field := ok_is_field (P := P) (w := w) (base := base) T
  have D_is_name := ok_is_name (P := P) (w := w) (base := base) T
  refine dn_mk T.fd_is_line T.g_is_line sc_is_line (prm_len fun _ => rfl) (fun _ _ _ _ _ _ us hl => match us, hl with | [_, _], _ => rfl) fun cdv A outer s H vs Q E hr hu64 hu65 h => ?_
  have nd := sc_is_line.nd
  refine ⟨_, (pss_cons (ps_if (PW.pt (pw_or (pt_not (pt_val (pe_callB (k_isi K) (by rfl) T.isinstance_ (by decide +kernel) (pa_cons (pv 0) (pa_cons (pe_bltn (v := .ty "tuple") (by rfl) T.tuple_ (by decide +kernel) rfl) pa_nil))))) (pw_or (pt_cmpR (k_ne K hu64) (pe_callB (k_len K) (by rfl) T.len_ (by decide +kernel) (pa_cons (pv 0) pa_nil)) pe_int (nomark _)) (pw_or1 (pt_not (pt_val (pe_callB (k_isi K) (by rfl) T.isinstance_ (by decide +kernel) (pa_cons (pe_ix (k_ix K) (pv 0) pe_int (fun _ _ => rfl)) (pa_cons (pe_bltn (v := .ty "str") (by rfl) T.str_ (by decide +kernel) rfl) pa_nil))))))))) (pss_one (ps_ret pe_bl)) pss_nil)
    (pss_cons (ps_asg (pv 0) (k_tgt (n := 3) K rfl (pgs_cons (pg_name (i := 2) nd rfl (Or.inl rfl)) (pgs_cons (pg_name (i := 3) nd rfl (Or.inl rfl)) (pgs_cons (pg_name (i := 4) nd rfl (Or.inl rfl)) pgs_nil)))))
    (pss_cons (ps_if (PW.pt (pw_or (pt_cmpR (k_ni K hu65) (pv 2) (pe_tup (pa_cons pe_str (pa_cons pe_str pa_nil))) (by rfl)) (pw_or (pt_not (pt_val (pe_callD D_is_field (hr.mono (by decide)) rfl (pa_cons (pv 3) (pa_cons (pv 1) pa_nil))))) (pw_or (pt_not (pt_val (pe_callD D_is_name (hr.mono (by decide)) rfl (pa_cons (pv 4) pa_nil)))) (pw_or1 (pt_cmpR (k_ni K hu65) (pv 4) (pv 1) (by rfl))))))) (pss_one (ps_ret pe_bl)) pss_nil)
    (pss_one (ps_ret (pe_cmpR (k_eq K hu64) (pe_cmpR (k_in K hu65) (pv 4) (pv 3) (by rfl)) (pe_cmpR (k_eq K hu64) (pv 2) pe_str (nomark _)) (nomark _))))))), fn_prm (E := E) h fun i hi => ?_⟩
  obtain ⟨d, ns⟩ := i
  show Sj none 0 [some (.im (D d)), some (.im (D (eS ns))), none, none, none] _ _
  have smd : Sm d := hi
  by_cases ht : ∃ ds, d = .tuple ds
  · obtain ⟨ds, rfl⟩ := ht
    by_cases hl : ds.length = 3
    · obtain ⟨a, b, c, rfl⟩ : ∃ a b c, ds = [a, b, c] := by
        match ds, hl with
        | [a, b, c], _ => exact ⟨a, b, c, rfl⟩
      have mem := sm_tup_mem smd
      have sa := mem a (by simp)
      have sb := mem b (by simp)
      have sc := mem c (by simp)
      refine sj_seq (sj_if (qt_or (a := false) (qt_not (a := true) (qt_B (pu_isTupT (pu_var rfl))))
        (fun _ => qt_or (a := false) (qt_test (pu_op (pu_cb (pa_c (pu_var rfl) pa_n) rc_lenT) pu_int (rv_ne (shaped_int _) (shaped_int _))))
          (fun _ => qt_not (qt_B (pu_isStr (pu_op (pu_var rfl) (pu_int (i := ((0 : Nat) : Int))) (rv_ixT (d := a) rfl)))))))
        (fun hb => sj_ret pu_bl (le_bool ?_)) (fun hb => sj_next ?_))
      · have hn : tyName a ≠ "str" := by simpa using hb
        refine (isLine_other fun w lot e q => hn ?_).symm
        have := (List.cons.inj (PyData.tuple.inj q)).1
        rw [this]
        rfl
      · have hn : tyName a = "str" := by simpa using hb
        obtain ⟨w, rfl⟩ : ∃ w, a = .str w := by
          cases a <;> first | exact ⟨_, rfl⟩ | exact absurd hn (by simp only [tyName]; decide)
        refine sj_seq (sj_asgT (pu_var rfl) (tg_tup (js := [2, 3, 4]) rfl) ?_)
        show Sj none 0 [some (.im (D (.tuple [.str w, b, c]))), some (.im (D (eS ns))), some (.im (D (.str w))), some (.im (D b)), some (.im (D c))] _ _
        refine sj_seq (sj_if (B := fun z => (!(decide (w ∈ [("call" : Str), "off"])) || (!isField b ns || (!isName c || !decide (strD c ∈ ns)))) = z)
          (PuT.imp (qt_or (qt_test (pu_op (pu_var rfl) ((pu_tup (pa_c pu_str (pa_c pu_str pa_n)) (by simp)).le (tn_D (ds := [("call" : Str), "off"].map .str))) rv_niT))
          (fun _ => qt_or (qt_not (qt_B (pu_call1 (ι := PyData × List Str) (b, ns) (.inl sb) (pa_c (pu_var rfl) (pa_c (pu_var rfl) pa_n)) ⟨sub_D, sub_D, trivial⟩)))
            (fun _ => qt_or (b := !decide (strD c ∈ ns)) (qt_not (qt_B (pu_call1 (ι := PyData) c (.inl sc) (pa_c (pu_var rfl) pa_n) ⟨sub_D, trivial⟩))) (fun hc => ?_)))) fun _ z => z.symm)
          (fun hb => sj_ret pu_bl (le_bool ?_)) (fun hb => sj_next ?_))
        · have hc2 : isName c = true := by simpa using hc
          obtain ⟨x, rfl⟩ : ∃ x, c = .str x := by
            cases c <;> first | exact ⟨_, rfl⟩ | cases hc2
          exact qt_test (pu_op (pu_var rfl) (pu_var rfl) rv_niS)
        · show false = ((decide (w = "call") || decide (w = "off")) && (isField b ns && (isName c && (decide (strD c ∈ ns) && (decide (strD c ∈ strsD b) == decide (w = "call"))))))
          revert hb
          have e : decide (w ∈ [("call" : Str), "off"]) = (decide (w = "call") || decide (w = "off")) := by simp
          rw [e]
          cases (decide (w = "call") || decide (w = "off")) <;> cases isField b ns <;> cases isName c <;> cases decide (strD c ∈ ns) <;> simp
        · have e : decide (w ∈ [("call" : Str), "off"]) = (decide (w = "call") || decide (w = "off")) := by simp
          rw [e] at hb
          have h1 : (decide (w = "call") || decide (w = "off")) = true := by
            revert hb
            cases (decide (w = "call") || decide (w = "off")) <;> simp
          rw [h1] at hb
          have h2 : isField b ns = true := by
            revert hb
            cases isField b ns <;> simp
          rw [h2] at hb
          have h3 : isName c = true := by
            revert hb
            cases isName c <;> simp
          rw [h3] at hb
          have h4 : decide (strD c ∈ ns) = true := by
            revert hb
            cases decide (strD c ∈ ns) <;> simp
          obtain ⟨x, rfl⟩ : ∃ x, c = .str x := by
            cases c <;> first | exact ⟨_, rfl⟩ | cases h3
          have h5 : areNames b = true := by
            unfold isField isLot isAsc at h2
            simp only [Bool.and_eq_true] at h2
            exact h2.1.1.1
          obtain ⟨xs, rfl, _, _⟩ := names_shape h5
          have ws : SeqAt.shaped (.str w) = true := sa.shaped
          refine sj_ret (pu_op (pu_op (pu_var rfl) (pu_var rfl) (rv_inS (xs := xs))) (pu_op (pu_var rfl) pu_str (rv_eq ws (shaped_str ok_call))) (rv_eq (shaped_bool _) (shaped_bool _))) (le_bool ?_)
          show _ = ((decide (w = "call") || decide (w = "off")) && (isField (eS xs) ns && (isName (.str x) && (decide (x ∈ ns) && (decide (x ∈ strsD (eS xs)) == decide (w = "call"))))))
          rw [h1, h2, h3, show decide (x ∈ ns) = true from h4, strsD_S]
          simp only [PyData.eqv, Bool.true_and]
          by_cases q1 : x ∈ xs <;> by_cases q2 : w = "call" <;> simp [q1, q2]
    · refine sj_seq (sj_if (B := (· = true)) (PuT.imp (qt_or (a := false) (b := true) (qt_not (a := true) (qt_B (pu_isTupT (pu_var rfl))))
        (fun _ => PuT.imp (qt_or (b := true) (qt_test (pu_op (pu_cb (pa_c (pu_var rfl) pa_n) rc_lenT) pu_int (rv_ne (shaped_int _) (shaped_int _))))
          (fun z => ?_)) fun b hb => ?_)) fun b hb => hb) (fun hb => sj_ret pu_bl (le_bool ?_)) (fun hb => by cases hb))
      · have : PyData.eqv (.int (ds.length : Nat)) (.int 3) = false := by
          simp only [PyData.eqv]
          refine decide_eq_false fun e => hl ?_
          omega
        rw [this] at z
        cases z
      · rw [hb]
        simp
      · refine (isLine_other fun w lot e q => hl ?_).symm
        rw [PyData.tuple.inj q]
        rfl
  · have hn : tyName d ≠ "tuple" := by
      cases d <;> first | exact absurd ⟨_, rfl⟩ ht | (simp only [tyName]; decide)
    refine sj_seq (sj_if (B := (· = true)) (PuT.imp (qt_or (b := true) (qt_not (qt_B (pu_isTup (pu_var rfl)))) (fun hz => by rw [decide_eq_false hn] at hz; cases hz)) fun b hb => by rw [hb, decide_eq_false hn]; rfl) (fun hb => sj_ret pu_bl (le_bool ?_)) (fun hb => by cases hb))
    exact (isLine_other fun w lot e q => ht ⟨_, q⟩).symm
abbrev N_copied : List Str := ["line"]
theorem sc_copied : FnScope N_copied ["line"] (defScope s_copied) := ⟨rfl, rfl, rfl, by decide +kernel, rfl, by decide +kernel, by decide +kernel⟩
def spCopied : Sp := Prp (ι := Line) (fun _ => True) (fun l => [D (eL l)]) (fun l => Fd (eL l))
theorem ok_copied (T : Tx K mg) : Dn P w K mg base 1 "copied" ["line"] spCopied := by
  refine dn_mk T.fd_copied T.g_copied sc_copied (prm_len fun _ => rfl) (fun _ _ _ _ _ _ us hl => match us, hl with | [_], _ => rfl) fun cdv A outer s H vs Q E hr hu64 hu65 h => ?_
  have nd := sc_copied.nd
  refine ⟨_, (pss_one (ps_ret (pe_tup (pa_cons (pe_ix (k_ix K) (pv 0) pe_int (fun _ _ => rfl)) (pa_cons (pe_callTy (k_list K) (by rfl) T.list_ (by decide +kernel) (pa_cons (pe_ix (k_ix K) (pv 0) pe_int (fun _ _ => rfl)) pa_nil)) (pa_cons (pe_ix (k_ix K) (pv 0) pe_int (fun _ _ => rfl)) pa_nil)))))), fn_prm (E := E) h fun i hi => ?_⟩
  obtain ⟨x, f, e⟩ := i
  show Sj none 0 [some (.im (D (.tuple [.str x, eS f, .str e])))] _ _
  refine sj_ret (pu_tup (pa_c (pu_op (pu_var rfl) (pu_int (i := ((0 : Nat) : Int))) (rv_ixT (d := .str x) rfl)) (pa_c (pu_cb (pa_c (pu_op (pu_var rfl) (pu_int (i := ((1 : Nat) : Int))) (rv_ixT (d := .list (f.map .str)) rfl)) pa_n) rc_list)
    (pa_c (pu_op (pu_var rfl) (pu_int (i := ((2 : Nat) : Int))) (rv_ixT (d := .str e) rfl)) pa_n))) (by simp)) ?_
  exact (tn_le (Us := [Fd (.str x), Fd (eS f), Fd (.str e)]) (by exact ⟨le_strF, ln_SF2, le_strF, trivial⟩)).trans (tn_F (ds := [.str x, eS f, .str e]))
abbrev N_spots_of : List Str := ["row", "spot", "name"]
theorem sc_spots_of : FnScope N_spots_of ["row"] (defScope s_spots_of) := ⟨rfl, rfl, rfl, by decide +kernel, rfl, by decide +kernel, by decide +kernel⟩
def spSpots : Sp := Prp (ι := List Str) (fun r => r.length ≤ 1000) (fun r => [D (eS r)]) (fun r => AnyT)
theorem ok_spots_of (T : Tx K mg) : Dn P w K mg base 1 "spots_of" ["row"] spSpots := by
  refine dn_mk T.fd_spots_of T.g_spots_of sc_spots_of (prm_len fun _ => rfl) (fun _ _ _ _ _ _ us hl => match us, hl with | [_], _ => rfl) fun cdv A outer s H vs Q E hr hu64 hu65 h => ?_
  have nd := sc_spots_of.nd
  refine ⟨_, (pss_one (ps_ret (pe_callTy (k_dict K rfl) (by rfl) T.dict_ (by decide +kernel) (pa_cons (pe_lc (own := [("spot", 1), ("name", 2)]) rfl nd (k_enum K rfl T.enumerate_ (pa_cons (pv 0) pa_nil)) (blkOk_by (own := [("spot", 1), ("name", 2)]) (N := N_spots_of) (sc := defScope s_spots_of) (by decide +kernel)) (fun _ _ _ _ _ => (k_tgt (n := 2) K rfl (pgs_cons (pg_name (i := 1) nd rfl (Or.inl rfl)) (pgs_cons (pg_name (i := 2) nd rfl (Or.inl rfl)) pgs_nil)))) (fun _ _ _ _ _ => pts_nil) (fun _ _ _ _ _ => (pe_tup (pa_cons (pv 2) (pa_cons (pv 1) pa_nil))))) pa_nil)))), fn_prm (E := E) h fun i hi => ?_⟩
  show Sj none 0 [some (.im (D (.list (i.map .str)))), none, none] _ _
  refine sj_ret (pu_cb (pa_c (pu_lc (pi_E (pa_c (pu_var rfl) pa_n)) [1, 2] (by simp) (by rw [List.length_map]; exact Nat.le_trans hi (by decide)) (fun _ => true) (fun k => Tn [D (.str (i.getD k ⟨#[]⟩)), D (.int (k : Nat))])
    (fun k hk => ⟨_, tg_tup (js := [1, 2]) rfl, qt_yes, fun _ => pu_tup (pa_c (pu_var ?_) (pa_c (pu_var rfl) pa_n)) (by simp)⟩)) pa_n) rc_dict) Ty.le.rfl'
  rw [List.length_map] at hk
  show some (some (Sl.im (D ((i.map PyData.str).getD k .none)))) = _
  rw [List.getD_eq_getElem?_getD, List.getD_eq_getElem?_getD, List.getElem?_map, List.getElem?_eq_getElem hk]
  rfl
/-- a row of names is the names in some order -/
def RowOk (ns r : List Str) : Prop := r.Perm ns
theorem sort_RC {xs : List Str} (h : ∀ x ∈ xs, okS x = true) (hl : xs.length ≤ 1000) : RC (rSortQ K) [D (.list (xs.map .str))] (Fd (eS (sortS xs))) := by
  have cl : PyData.canLayAll0 (xs.map .str) = true := by
    have := sm_lay _ (sm_S hl h).s
    simpa [eS, PyData.canLay0] using this
  have dp : ∀ d ∈ xs.map PyData.str, d.depth ≤ 8 := fun d hd => by
    obtain ⟨x, hx, rfl⟩ := List.mem_map.mp hd
    simp [PyData.depth]
  have := rc_sortD (K := K) (alike_strs xs) (sortable_strs xs) (by rw [List.length_map]; omega) cl dp
  rw [sortD_S] at this
  exact fun pu n G0 G H vs g s h Q q => this pu n G0 G H vs g s h Q fun v G' H' g' r => q v G' H' g' (ln_SF2 _ _ _ r)
theorem sort_RCL {ls : List Line} (h : ∀ l ∈ ls, Sm (eL l)) (hl : ls.length ≤ 1000) : RC (rSortQ K) [D (.list (ls.map eL))] (D (eLs (sortL ls))) := by
  have cl : PyData.canLayAll0 (ls.map eL) = true := smAll_lay _ (smAll_mem.mpr fun d hd => by
    obtain ⟨l, hl, rfl⟩ := List.mem_map.mp hd
    exact (h l hl).s)
  have dp : ∀ d ∈ ls.map eL, d.depth ≤ 8 := fun d hd => by
    obtain ⟨l, hl, rfl⟩ := List.mem_map.mp hd
    exact (h l hl).d
  have := rc_sortD (K := K) (PySem.W.AllAlike.of alike_L) (PySem.W.Sortable.tuples (enc := eL) (bs := ls) fun l => ⟨_, _, rfl⟩) (by rw [List.length_map]; omega) cl dp
  rw [sortD_L] at this
  exact fun pu n G0 G H vs g s h Q q => this pu n G0 G H vs g s h Q fun v G' H' g' r => q v G' H' g' (ln_D _ _ _ r)
abbrev N_is_row : List Str := ["value", "entries"]
theorem sc_is_row : FnScope N_is_row ["value", "entries"] (defScope s_is_row) := ⟨rfl, rfl, rfl, by decide +kernel, rfl, by decide +kernel, by decide +kernel⟩
def spIsRow : Sp := Prp (ι := List Str × List Str) (fun i => Ns i.2 ∧ RowOk i.2 i.1) (fun i => [D (eS i.1), D (eS i.2)]) (fun i => D (.bool true))
theorem ok_is_row (T : Tx K mg) : Dn P w K mg base 3 "is_row" ["value", "entries"] spIsRow := by
  have D_are_names := ok_are_names (P := P) (w := w) (base := base) T
  refine dn_mk T.fd_is_row T.g_is_row sc_is_row (prm_len fun _ => rfl) (fun _ _ _ _ _ _ us hl => match us, hl with | [_, _], _ => rfl) fun cdv A outer s H vs Q E hr hu64 hu65 h => ?_
  have nd := sc_is_row.nd
  refine ⟨_, (pss_one (ps_ret (pe_and (pe_callD D_are_names (hr.mono (by decide)) rfl (pa_cons (pv 0) pa_nil)) (pe_one (pe_cmpR (k_eq K hu64) (pe_callB (k_sorted K hu64) (by rfl) T.sorted_ (by decide +kernel) (pa_cons (pv 0) pa_nil)) (pe_callB (k_sorted K hu64) (by rfl) T.sorted_ (by decide +kernel) (pa_cons (pv 1) pa_nil)) (nomark _)))))), fn_prm (E := E) h fun i hi => ?_⟩
  obtain ⟨r, ns⟩ := i
  obtain ⟨N, pr⟩ := hi
  have R := N.perm pr
  show Sj none 0 [some (.im (D (.list (r.map .str)))), some (.im (D (.list (ns.map .str))))] _ _
  have sr : Sm (eS r) := R.smS (fun _ h => h) (Nat.le_trans R.le (by decide))
  have ha : areNames (eS r) = true := by
    rw [areNames_S, Bool.and_eq_true, List.all_eq_true]
    exact ⟨R.ok, decide_eq_true R.nd⟩
  have so : Sm (eS (sortS r)) := (R.perm (sortS_perm r)).smS (fun _ h => h) (Nat.le_trans (R.perm (sortS_perm r)).le (by decide))
  have so2 : Sm (eS (sortS ns)) := (N.perm (sortS_perm ns)).smS (fun _ h => h) (Nat.le_trans (N.perm (sortS_perm ns)).le (by decide))
  refine sj_ret (pu_andV (pu_call1 (ι := PyData) (eS r) (.inl sr) (pa_c (pu_var rfl) pa_n) ⟨sub_D, trivial⟩) (fun _ => pu_op ((pu_cb (pa_c (pu_var rfl) pa_n) (sort_RC (R.okS fun _ h => h) (Nat.le_trans R.le (by decide)))).le le_FD)
    ((pu_cb (pa_c (pu_var rfl) pa_n) (sort_RC (N.okS fun _ h => h) (Nat.le_trans N.le (by decide)))).le le_FD) (rv_eq so.shaped so2.shaped))) (le_bool ?_)
  rw [ha, eqv_S, sortS_eq pr]
  simp
abbrev N_are_rows : List Str := ["value", "entries", "row"]
theorem sc_are_rows : FnScope N_are_rows ["value", "entries"] (defScope s_are_rows) := ⟨rfl, rfl, rfl, by decide +kernel, rfl, by decide +kernel, by decide +kernel⟩
def spAreRows : Sp := Prp (ι := List (List Str) × List Str) (fun i => Ns i.2 ∧ (∀ r ∈ i.1, RowOk i.2 r) ∧ i.1.length ≤ 1000) (fun i => [D (eR i.1), D (eS i.2)]) (fun i => D (.bool true))
theorem ok_are_rows (T : Tx K mg) : Dn P w K mg base 4 "are_rows" ["value", "entries"] spAreRows := by
  have D_is_row := ok_is_row (P := P) (w := w) (base := base) T
  refine dn_mk T.fd_are_rows T.g_are_rows sc_are_rows (prm_len fun _ => rfl) (fun _ _ _ _ _ _ us hl => match us, hl with | [_, _], _ => rfl) fun cdv A outer s H vs Q E hr hu64 hu65 h => ?_
  have nd := sc_are_rows.nd
  refine ⟨_, (pss_one (ps_ret (pe_and (pe_callB (k_isi K) (by rfl) T.isinstance_ (by decide +kernel) (pa_cons (pv 0) (pa_cons (pe_bltn (v := .ty "list") (by rfl) T.list_ (by decide +kernel) rfl) pa_nil))) (pe_one (pe_cmpR (k_eq K hu64) (pe_lc (own := [("row", 2)]) rfl nd (k_over K (pv 0)) (blkOk_by (own := [("row", 2)]) (N := N_are_rows) (sc := defScope s_are_rows) (by decide +kernel)) (fun _ _ _ _ _ => (pg_name (i := 2) nd rfl (Or.inl rfl))) (fun _ _ _ _ _ => (pts_one (pt_not (pt_val (pe_callD D_is_row (hr.mono (by decide)) rfl (pa_cons (pv 2) (pa_cons (pv 1) pa_nil))))))) (fun _ _ _ _ _ => (pv 2))) (pe_lst pa_nil) (nomark _)))))), fn_prm (E := E) h fun i hi => ?_⟩
  obtain ⟨rs, ns⟩ := i
  obtain ⟨N, pr, hl⟩ := hi
  show Sj none 0 [some (.im (D (.list (rs.map eS)))), some (.im (D (eS ns))), none] _ _
  refine sj_ret (pu_andV (a := true) (pu_isListT (pu_var rfl)) (fun _ => pu_isNil ((pu_lcE (pu_var rfl) [2] (by simp) (Nat.le_trans hl (by decide)) (fun r => false) (fun r => D (eS r))
    (fun r hr => ⟨_, tg_name, qt_not (a := true) (qt_B (pu_call1 (ι := List Str × List Str) (r, ns) (by exact ⟨N, pr r hr⟩) (pa_c (pu_var rfl) (pa_c (pu_var rfl) pa_n)) (by exact ⟨sub_D, sub_D, trivial⟩))), fun _ => pu_var rfl⟩)).le ln_Dm) ?_)) (le_bool ?_)
  · rw [filter_no]
    exact shaped_nil
  · rw [filter_no]
    rfl
abbrev N_check_panel : List Str := ["value"]
theorem sc_check_panel : FnScope N_check_panel ["value"] (defScope s_check_panel) := ⟨rfl, rfl, rfl, by decide +kernel, rfl, by decide +kernel, by decide +kernel⟩
def spCheckPanel (K : PySem.W.Frag) : Sp := Prp (ι := List Str × List (List Str)) (fun _ => True) (fun i => [PnT K i.1 i.2]) (fun i => D .none)
theorem ok_check_panel (T : Tx K mg) : Dn P w K mg base 1 "check_panel" ["value"] (spCheckPanel K) := by
  refine dn_mk T.fd_check_panel T.g_check_panel sc_check_panel (prm_len fun _ => rfl) (fun _ _ _ _ _ _ us hl => match us, hl with | [_], _ => rfl) fun cdv A outer s H vs Q E hr hu64 hu65 h => ?_
  have nd := sc_check_panel.nd
  refine ⟨_, (pss_one (ps_if (pt_not (pt_val (pe_callB (C8.call_isC T.i_Panel) (by rfl) T.isinstance_ (by decide +kernel) (pa_cons (pv 0) (pa_cons (C8.pe_gc rfl T.c_Panel) pa_nil))))) (pss_one ps_never) pss_nil)), fn_prm (E := E) h fun i hi => ?_⟩
  show Sj none 0 [some (.im (PnT K i.1 i.2))] _ _
  exact sj_if (B := (· = false)) (qt_not (a := true) (qt_B (pu_cb (pa_c (pu_var rfl) (pa_c pu_c pa_n)) rc_isP))) (fun hb => by cases hb) (fun hb => sj_next ⟨Nat.le_refl _, fun _ _ => .non⟩)
abbrev N_check_book : List Str := ["value"]
theorem sc_check_book : FnScope N_check_book ["value"] (defScope s_check_book) := ⟨rfl, rfl, rfl, by decide +kernel, rfl, by decide +kernel, by decide +kernel⟩
def spCheckBook (K : PySem.W.Frag) : Sp := Prp (ι := List Str × List Line) (fun _ => True) (fun i => [BkT K i.1 i.2]) (fun i => D .none)
theorem ok_check_book (T : Tx K mg) : Dn P w K mg base 1 "check_book" ["value"] (spCheckBook K) := by
  refine dn_mk T.fd_check_book T.g_check_book sc_check_book (prm_len fun _ => rfl) (fun _ _ _ _ _ _ us hl => match us, hl with | [_], _ => rfl) fun cdv A outer s H vs Q E hr hu64 hu65 h => ?_
  have nd := sc_check_book.nd
  refine ⟨_, (pss_one (ps_if (pt_not (pt_val (pe_callB (C8.call_isC T.i_Book) (by rfl) T.isinstance_ (by decide +kernel) (pa_cons (pv 0) (pa_cons (C8.pe_gc rfl T.c_Book) pa_nil))))) (pss_one ps_never) pss_nil)), fn_prm (E := E) h fun i hi => ?_⟩
  show Sj none 0 [some (.im (BkT K i.1 i.2))] _ _
  exact sj_if (B := (· = false)) (qt_not (a := true) (qt_B (pu_cb (pa_c (pu_var rfl) (pa_c pu_c pa_n)) rc_isB))) (fun hb => by cases hb) (fun hb => sj_next ⟨Nat.le_refl _, fun _ _ => .non⟩)
abbrev N_panel_entries : List Str := ["self"]
theorem sc_panel_entries : FnScope N_panel_entries ["self"] (defScope s_panel_entries) := ⟨rfl, rfl, rfl, by decide +kernel, rfl, by decide +kernel, by decide +kernel⟩
def spPEntries (K : PySem.W.Frag) : Sp := Prp (ι := List Str × List (List Str)) (fun _ => True) (fun i => [PnT K i.1 i.2]) (fun i => Fd (eS i.1))
theorem ok_panel_entries (T : Tx K mg) : Dm P w K mg base 1 (He.ga K "Panel") "entries" ["self"] (spPEntries K) := by
  refine dm_mk T.fd_panel_entries T.k_Panel T.t_Panel_entries sc_panel_entries (prm_len fun _ => rfl) (fun _ _ _ _ _ _ us hl => match us, hl with | [_], _ => rfl) fun cdv A outer s H vs Q E hr hu64 hu65 h => ?_
  have nd := sc_panel_entries.nd
  refine ⟨_, (pss_one (ps_ret (pe_callTy (k_list K) (by rfl) T.list_ (by decide +kernel) (pa_cons (k_fld K (pv 0) rfl) pa_nil)))), fn_prm (E := E) h fun i hi => ?_⟩
  show Sj none 0 [some (.im (PnT K i.1 i.2))] _ _
  exact sj_ret (pu_cb (pa_c (pu_pnN T (pu_var rfl)) pa_n) rc_list) ln_SF2
abbrev N_panel_rows : List Str := ["self", "row"]
theorem sc_panel_rows : FnScope N_panel_rows ["self"] (defScope s_panel_rows) := ⟨rfl, rfl, rfl, by decide +kernel, rfl, by decide +kernel, by decide +kernel⟩
def spPRows (K : PySem.W.Frag) : Sp := Prp (ι := List Str × List (List Str)) (fun i => i.2.length ≤ 1000) (fun i => [PnT K i.1 i.2]) (fun i => Fd (eR i.2))
theorem ok_panel_rows (T : Tx K mg) : Dm P w K mg base 1 (He.ga K "Panel") "rows" ["self"] (spPRows K) := by
  refine dm_mk T.fd_panel_rows T.k_Panel T.t_Panel_rows sc_panel_rows (prm_len fun _ => rfl) (fun _ _ _ _ _ _ us hl => match us, hl with | [_], _ => rfl) fun cdv A outer s H vs Q E hr hu64 hu65 h => ?_
  have nd := sc_panel_rows.nd
  refine ⟨_, (pss_one (ps_ret (pe_lc (own := [("row", 1)]) rfl nd (k_over K (k_fld K (pv 0) rfl)) (blkOk_by (own := [("row", 1)]) (N := N_panel_rows) (sc := defScope s_panel_rows) (by decide +kernel)) (fun _ _ _ _ _ => (pg_name (i := 1) nd rfl (Or.inl rfl))) (fun _ _ _ _ _ => pts_nil) (fun _ _ _ _ _ => (pe_callTy (k_list K) (by rfl) T.list_ (by decide +kernel) (pa_cons (pv 1) pa_nil)))))), fn_prm (E := E) h fun i hi => ?_⟩
  show Sj none 0 [some (.im (PnT K i.1 i.2)), none] _ _
  exact sj_ret (pu_lcA (pu_pnO T (pu_var rfl)) [1] (by simp) (Nat.le_trans hi (by decide)) (fun r => Ln ((r.map PyData.str).map D)) (fun r hr => ⟨_, tg_name, pu_cb (pa_c (pu_var rfl) pa_n) rc_list⟩)) (ln_mapF fun r _ => ln_SF2)
abbrev N_book_lines : List Str := ["self", "line"]
theorem sc_book_lines : FnScope N_book_lines ["self"] (defScope s_book_lines) := ⟨rfl, rfl, rfl, by decide +kernel, rfl, by decide +kernel, by decide +kernel⟩
def spBLines (K : PySem.W.Frag) : Sp := Prp (ι := List Str × List Line) (fun i => i.2.length ≤ 1000) (fun i => [BkT K i.1 i.2]) (fun i => Fd (eLs i.2))
theorem ok_book_lines (T : Tx K mg) : Dm P w K mg base 2 (He.ga K "Book") "lines" ["self"] (spBLines K) := by
  have D_copied := ok_copied (P := P) (w := w) (base := base) T
  refine dm_mk T.fd_book_lines T.k_Book T.t_Book_lines sc_book_lines (prm_len fun _ => rfl) (fun _ _ _ _ _ _ us hl => match us, hl with | [_], _ => rfl) fun cdv A outer s H vs Q E hr hu64 hu65 h => ?_
  have nd := sc_book_lines.nd
  refine ⟨_, (pss_one (ps_ret (pe_lc (own := [("line", 1)]) rfl nd (k_over K (k_fld K (pv 0) rfl)) (blkOk_by (own := [("line", 1)]) (N := N_book_lines) (sc := defScope s_book_lines) (by decide +kernel)) (fun _ _ _ _ _ => (pg_name (i := 1) nd rfl (Or.inl rfl))) (fun _ _ _ _ _ => pts_nil) (fun _ _ _ _ _ => (pe_callD D_copied (hr.mono (by decide)) rfl (pa_cons (pv 1) pa_nil)))))), fn_prm (E := E) h fun i hi => ?_⟩
  show Sj none 0 [some (.im (BkT K i.1 i.2)), none] _ _
  exact sj_ret (pu_lcA (pu_bkT T (pu_var rfl)) [1] (by simp) (Nat.le_trans hi (by decide)) (fun l => Fd (eL l)) (fun l hl => ⟨_, tg_name, pu_call1 (ι := Line) l trivial (pa_c (pu_var rfl) pa_n) (by exact ⟨sub_D, trivial⟩)⟩)) (ln_mapF fun r _ => Ty.le.rfl')
abbrev N_check_two : List Str := ["book", "panel"]
theorem sc_check_two : FnScope N_check_two ["book", "panel"] (defScope s_check_two) := ⟨rfl, rfl, rfl, by decide +kernel, rfl, by decide +kernel, by decide +kernel⟩
def spCheckTwo (K : PySem.W.Frag) : Sp := Prp (ι := List Str × List Line × List (List Str)) (fun i => Sm (eS i.1)) (fun i => [BkT K i.1 i.2.1, PnT K i.1 i.2.2]) (fun i => D .none)
theorem ok_check_two (T : Tx K mg) : Dn P w K mg base 2 "check_two" ["book", "panel"] (spCheckTwo K) := by
  have D_check_book := ok_check_book (P := P) (w := w) (base := base) T
  have D_check_panel := ok_check_panel (P := P) (w := w) (base := base) T
  have D_panel_entries := ok_panel_entries (P := P) (w := w) (base := base) T
  refine dn_mk T.fd_check_two T.g_check_two sc_check_two (prm_len fun _ => rfl) (fun _ _ _ _ _ _ us hl => match us, hl with | [_, _], _ => rfl) fun cdv A outer s H vs Q E hr hu64 hu65 h => ?_
  have nd := sc_check_two.nd
  refine ⟨_, (pss_cons (ps_expr (pe_callD D_check_book (hr.mono (by decide)) rfl (pa_cons (pv 0) pa_nil)))
    (pss_cons (ps_expr (pe_callD D_check_panel (hr.mono (by decide)) rfl (pa_cons (pv 1) pa_nil)))
    (pss_one (ps_if (pt_cmpR (k_ne K hu64) (pe_methD (pv 1) D_panel_entries (hr.mono (by decide))) (k_fld K (pv 0) rfl) (nomark _)) (pss_one ps_never) pss_nil)))), fn_prm (E := E) h fun i hi => ?_⟩
  obtain ⟨ns, ls, rs⟩ := i
  show Sj none 0 [some (.im (BkT K ns ls)), some (.im (PnT K ns rs))] _ _
  refine sj_seq (sj_drop (pu_call1 (ι := List Str × List Line) (ns, ls) trivial (pa_c (pu_var rfl) pa_n) (by exact ⟨sub_Bk, trivial⟩)) ?_)
  refine sj_seq (sj_drop (pu_call1 (ι := List Str × List (List Str)) (ns, rs) trivial (pa_c (pu_var rfl) pa_n) (by exact ⟨sub_Pn, trivial⟩)) ?_)
  refine sj_if (qt_test (pu_op ((pu_meth (ι := List Str × List (List Str)) (ns, rs) trivial (pu_var rfl) (pn_ins (by decide) (by decide) (by decide)) (by exact ⟨sub_Pn, trivial⟩)).le le_FD) (pu_bkN T (pu_var rfl)) (rv_ne hi.shaped hi.shaped))) (fun hb => ?_) (fun hb => sj_next ⟨Nat.le_refl _, fun _ _ => .non⟩)
  rw [eqv_S] at hb
  simp at hb
end
end Cp
set_option Elab.async false
set_option linter.all false
set_option maxRecDepth 100000
set_option maxHeartbeats 2000000
/-! P4: a new panel, a new book. -/
namespace Cp
open PySem L2 PySem.Spec PyProof.Rows
theorem LnOk.line {ns : List Str} {l : Line} (N : Ns ns) (h : LnOk ns l) : isLineD (eL l) ns = true := by
  obtain ⟨w, f, e⟩ := l
  unfold isLineD eL
  have h1 : nameOk e = true := N.ok e h.e
  have h2 := h.f
  have h3 : e ∈ ns := h.e
  have h4 := h.x
  have h5 := h.w
  simp only [strD, strsD_S, isName, h1, Bool.true_and, Bool.and_eq_true, decide_eq_true_eq, Bool.or_eq_true]
  refine ⟨h5, h2, decide_eq_true h3, ?_⟩
  by_cases q1 : e ∈ f
  · rw [decide_eq_true q1, decide_eq_true (h4.mp q1)]
    rfl
  · rw [decide_eq_false q1, decide_eq_false (fun z => q1 (h4.mpr z))]
    rfl
/-- an own instance at x, its fields so far -/
structure Own (H0 G H : Hp) (x C dx : Addr) (fs : List (Str × V)) : Prop where
  h0 : H0 x = none
  g : G x = none
  h : H x = some (.ins C dx fs)
theorem Own.keep {H0 G H G' H' : Hp} {x C dx : Addr} {fs : List (Str × V)} {k : Nat} (o : Own H0 G H x C dx fs) (b : Gr none k G H G' H') : Own H0 G' H' x C dx fs := by
  refine ⟨o.h0, ?_, b.h _ _ (by simp) o.h⟩
  cases q : G' x with
  | none => rfl
  | some u =>
    rcases b.nw _ _ q with z | z
    · rw [o.g] at z
      cases z
    · rw [o.h] at z
      cases z
def noAc (env : Env') : Bool := env.all fun s => match s with
  | some (.ac _) => false
  | _ => true
theorem EnvOk.any {pu : Option Addr} {G0 H0 G H H' : Hp} {σ : L2.St} {env : Env'} (hn : noAc env = true) (e : EnvOk pu G0 H0 G H σ env) : EnvOk pu G0 H0 G H' σ env := by
  have no : ∀ {i : Nat} {ds : List PyData}, env[i]? ≠ some (some (.ac ds)) := fun {i ds} h => by
    have := List.all_eq_true.mp hn _ (List.mem_of_getElem? h)
    cases this
  refine ⟨e.len, fun i s hi => ?_, fun i j ds es h1 => absurd h1 no⟩
  obtain ⟨o, h1, h2⟩ := e.at_ i s hi
  refine ⟨o, h1, ?_⟩
  cases s with
  | im T => exact h2
  | ac ds => exact absurd hi no
section
variable {K : PySem.W.Frag} {n n1 : Nat} {env : Env'} {tv : TE} {T : Ty} {G0 H0 G H : Hp} {σ : L2.St} {x C dx : Addr} {fs : List (Str × V)} {f : Str} {E : Ends}
theorem own_set (a : Gr none n G0 H0 G H) (e : EnvOk none G0 H0 G H σ env) (o : Own H0 G H x C dx fs) (hx : env[0]? = some (some (.im (Vv (.ref x))))) (hc : Cls K C) (hn : NoAttr K C f) (hf : fs.length < 1000) (na : noAc env = true) (h : Pu none n n1 env tv T)
    (q : ∀ v G' H', Gr none n1 G0 H0 G' H' → Same G G' → EnvOk none G0 H0 G' H' σ env → T.p G0 v G' → Own H0 G' H' x C dx (putF f v fs) → E.nx σ H') : sFld K (tVar 0) tv f E σ H :=
  h G0 H0 σ G H a e _ fun v G1 H1 g1 r1 => by
    obtain ⟨w, hw, hv⟩ := e.getIm hx
    cases (show w = _ from hv)
    have o1 := o.keep g1
    refine ⟨.ref x, hw, x, C, dx, fs, rfl, o1.h, hc, hn, hf, ?_⟩
    exact q v G1 _ ((a.trans g1).frame o1.h0 o1.g (by simp)) g1.g ((e.keep g1).any na) r1 ⟨o1.h0, o1.g, upd_same⟩
/-- a state of an __init__ -/
structure At (env : Env') (C x dx : Addr) (fs : List (Str × V)) (G0 H0 : Hp) (σ : L2.St) (G H : Hp) : Prop where
  a : Gr none 0 G0 H0 G H
  e : EnvOk none G0 H0 G H σ env
  o : Own H0 G H x C dx fs
theorem At.keep {G' H' : Hp} (A : At env C x dx fs G0 H0 σ G H) (b : Gr none 0 G H G' H') : At env C x dx fs G0 H0 σ G' H' := ⟨A.a.trans b, A.e.keep b, A.o.keep b⟩
theorem at_drop {te : TE} (A : At env C x dx fs G0 H0 σ G H) (h : Pu none 0 0 env te T) (q : ∀ G' H', At env C x dx fs G0 H0 σ G' H' → E.nx σ H') : tDrop te E σ H :=
  h G0 H0 σ G H A.a A.e _ fun v G1 H1 g1 r1 => q G1 H1 (A.keep g1)
theorem at_if {tt : TT} {t u : TS} (A : At env C x dx fs G0 H0 σ G H) (h : PuT none 0 0 env tt (· = false)) (q : ∀ G' H', At env C x dx fs G0 H0 σ G' H' → u E σ H') : tIfS tt t u E σ H :=
  h G0 H0 σ G H A.a A.e _ fun v G1 H1 g1 r1 => by
    subst r1
    exact q G1 H1 (A.keep g1)
theorem at_set (A : At env C x dx fs G0 H0 σ G H) (h : Pu none 0 0 env tv T) (hx : env[0]? = some (some (.im (Vv (.ref x))))) (hc : Cls K C) (hn : NoAttr K C f) (hf : fs.length < 1000) (na : noAc env = true)
    (q : ∀ v G' H', Same G G' → T.p G0 v G' → At env C x dx (putF f v fs) G0 H0 σ G' H' → E.nx σ H') : sFld K (tVar 0) tv f E σ H :=
  own_set A.a A.e A.o hx hc hn hf na h fun v G' H' a' s' e' r' o' => q v G' H' s' r' ⟨a', e', o'⟩
theorem at_dropS {te : TE} {u : TS} (A : At env C x dx fs G0 H0 σ G H) (h : Pu none 0 0 env te T) (q : ∀ G' H', At env C x dx fs G0 H0 σ G' H' → u E σ H') : tSeq (tDrop te) u E σ H := at_drop (E := { E with nx := u E }) A h q
theorem at_ifS {tt : TT} {t u : TS} (A : At env C x dx fs G0 H0 σ G H) (h : PuT none 0 0 env tt (· = false)) (q : ∀ G' H', At env C x dx fs G0 H0 σ G' H' → u E σ H') : tSeq (tIfS tt t tNext) u E σ H := at_if (E := { E with nx := u E }) A h q
theorem at_setS {u : TS} (A : At env C x dx fs G0 H0 σ G H) (h : Pu none 0 0 env tv T) (hx : env[0]? = some (some (.im (Vv (.ref x))))) (hc : Cls K C) (hn : NoAttr K C f) (hf : fs.length < 1000) (na : noAc env = true)
    (q : ∀ v G' H', Same G G' → T.p G0 v G' → At env C x dx (putF f v fs) G0 H0 σ G' H' → u E σ H') : tSeq (sFld K (tVar 0) tv f) u E σ H := at_set (E := { E with nx := u E }) A h hx hc hn hf na q
/-- a for loop with any invariant -/
theorem for_by {wi : TI} {g : TG} {tb : TS} {L : Nat} {U : Nat → Ty} {pu : Option Addr} (a : Gr pu n G0 H0 G H) (e : EnvOk pu G0 H0 G H σ env) (hI : PuI pu n n1 env wi L U) (J : Nat → L2.St → Hp → Hp → Prop) (jg : ∀ i σ G H, J i σ G H → Gr pu n1 G H G H)
    (h0 : ∀ G1 H1, Gr pu n1 G H G1 H1 → J 0 σ G1 H1)
    (hs : ∀ i σ' G' H', Same G G' → i < L → J i σ' G' H' → ∀ v G'' H'', Gr pu n1 G' H' G'' H'' → (U i).p G0 v G'' → ∀ F : Ends, (∀ σ3 H3 G3, Same G' G3 → J (i + 1) σ3 G3 H3 → F.nx σ3 H3) → (∀ σ3 H3 G3, Same G' G3 → J (i + 1) σ3 G3 H3 → F.ct σ3 H3) → F.bk = E.nx → F.rt = E.rt → g v σ' H'' fun σ2 H2 => tb F σ2 H2)
    (hd : ∀ σ' G' H', Same G G' → J L σ' G' H' → E.nx σ' H') : tFor wi g tb E σ H :=
  hI G0 H0 σ G H a e _ fun Jt G1 S1 b wk => by
    refine ⟨fun i mm σ' H' => mm = L - i ∧ i ≤ L ∧ ∃ G', Same G1 G' ∧ J i σ' G' H', ⟨L, by simp, Nat.zero_le _, G1, Same.refl _, h0 _ _ b⟩, ?_⟩
    rintro i mm σ' H' ⟨rfl, hi, G', sa, iv⟩
    obtain ⟨w1, w2⟩ := wk n1 G' H' (jg _ _ _ _ iv) sa
    by_cases hlt : i < L
    · obtain ⟨go, yl⟩ := w1 i hlt
      refine .inr ⟨go, fun σ2 H2 => ∃ G', Same G1 G' ∧ J (i + 1) σ2 G' H2, fun σ2 H2 q => ⟨L - (i + 1), by omega, rfl, hlt, q⟩, fun x H'' y => ?_⟩
      obtain ⟨G'', g2, t2⟩ := yl x H'' y
      exact hs i σ' G' H' (b.g.trans sa) hlt iv x G'' H'' g2 t2 _ (fun σ3 H3 G3 s3 j3 => ⟨G3, sa.trans s3, j3⟩) (fun σ3 H3 G3 s3 j3 => ⟨G3, sa.trans s3, j3⟩) rfl rfl
    · have ei : i = L := by omega
      subst ei
      exact .inl ⟨w2, hd σ' G' H' (b.g.trans sa) iv⟩
end

theorem seq_as (A B C : TS) : tSeq A (tSeq B C) = tSeq (tSeq A B) C := rfl
def InitSp {ι : Type} (C : Addr) (P : ι → Prop) (As : ι → List Ty) (Rt : ι → Ty) : Sp := fun vs H' Q _ => ∃ i, P i ∧ ∃ G H x dx ws, H x = none ∧ H dx = none ∧ dx ≠ x ∧ H' = upd (upd H dx (.own x)) x (.ins C dx []) ∧ vs = .ref x :: ws ∧ Gr none 0 G H G H ∧ Tys G G ws (As i) ∧
  ∀ G' H'', Gr none 0 G H G' H'' → (Rt i).p G (.ref x) G' → Q .non H''
theorem init_len {ι : Type} {C : Addr} {P : ι → Prop} {As : ι → List Ty} {Rt : ι → Ty} {k : Nat} (h : ∀ i, (As i).length = k) : ∀ vs H Q E, InitSp C P As Rt vs H Q E → vs.length = k + 1 := fun vs H Q E ⟨i, _, G, H1, x, dx, ws, _, _, _, _, e, _, t, _⟩ => by
  rw [e, List.length_cons, t.len, h i]
theorem pu_make {ι : Type} {C : Addr} {P : ι → Prop} {As : ι → List Ty} {Rt : ι → Ty} {pu : Option Addr} {n n1 : Nat} {env : Env'} {ta : TA} {Rs : List Ty} {E : XK} (i : ι) (hP : P i) (ha : PuA pu n n1 env ta Rs) (hs : Subs Rs (As i)) : Pu pu n n1 env (tMake C (InitSp C P As Rt) [] E ta) (Rt i) := fun G0 H0 σ G H a e Q q =>
  ha G0 H0 σ G H a e _ fun vs G1 H1 b t x dx hx hdx hne => by
    rw [List.append_nil]
    exact ⟨i, hP, G1, H1, x, dx, vs, hx, hdx, hne, rfl, rfl, b.pure, subs_ok hs t, fun G' H'' g r => ⟨rfl, q _ G' H'' (b.trans (b.lift g)) ((Rt i).mono ((a.trans b).g) (Same.refl _) r)⟩⟩
theorem own_start {G H : Hp} {x C dx : Addr} (g : Gr none 0 G H G H) (hx : H x = none) (hdx : H dx = none) (hne : dx ≠ x) : Gr none 0 G H G (upd (upd H dx (.own x)) x (.ins C dx [])) ∧ Own H G (upd (upd H dx (.own x)) x (.ins C dx [])) x C dx [] :=
  ⟨(g.frame hdx (none_back g.s hdx) (by simp)).frame hx (none_back g.s hx) (by simp), hx, none_back g.s hx, upd_same⟩
section
variable {P : Program} {w : World} {K : PySem.W.Frag} {mg : Str → Option Value} {base : Heap}
abbrev N_panel_init : List Str := ["self", "entries", "rows", "row"]
theorem sc_panel_init : FnScope N_panel_init ["self", "entries", "rows"] (defScope s_panel_init) := ⟨rfl, rfl, rfl, by decide +kernel, rfl, by decide +kernel, by decide +kernel⟩
def spPanel (K : PySem.W.Frag) : Sp := InitSp (ι := List Str × List (List Str)) (CP K) (fun i => Ns i.1 ∧ (∀ r ∈ i.2, RowOk i.1 r) ∧ i.2.length ≤ 1000 ∧ i.2 ≠ []) (fun i => [D (eS i.1), D (eR i.2)]) (fun i => PnT K (sortS i.1) i.2)
theorem ok_panel_init (T : Tx K mg) : Di P w K mg base 5 (He.ga K "Panel") "Panel" ["self", "entries", "rows"] (spPanel K) := by
  have D_are_rows := ok_are_rows (P := P) (w := w) (base := base) T
  have D_check_entries := ok_check_entries (P := P) (w := w) (base := base) T
  have D_spots_of := ok_spots_of (P := P) (w := w) (base := base) T
  refine di_mk T.fd_panel_init T.cls_Panel T.m_Panel sc_panel_init (init_len (k := 2) fun _ => rfl) (fun _ _ _ _ _ _ us hl => match us, hl with | [_, _, _], _ => rfl) fun cdv A outer s H vs Q E hr hu64 hu65 h => ?_
  have nd := sc_panel_init.nd
  refine ⟨_, (pss_cons (ps_expr (pe_callD D_check_entries (hr.mono (by decide)) rfl (pa_cons (pv 1) pa_nil)))
    (pss_cons (ps_if (PW.pt (pw_or (pt_not (pt_val (pe_callD D_are_rows (hr.mono (by decide)) rfl (pa_cons (pv 2) (pa_cons (pv 1) pa_nil))))) (pw_or1 (pt_cmpR (k_eq K hu64) (pv 2) (pe_lst pa_nil) (nomark _))))) (pss_one ps_never) pss_nil)
    (pss_cons (k_set K (pv 0) (pe_callB (k_sorted K hu64) (by rfl) T.sorted_ (by decide +kernel) (pa_cons (pv 1) pa_nil)) rfl)
    (pss_cons (k_set K (pv 0) (pe_lc (own := [("row", 3)]) rfl nd (k_over K (pv 2)) (blkOk_by (own := [("row", 3)]) (N := N_panel_init) (sc := defScope s_panel_init) (by decide +kernel)) (fun _ _ _ _ _ => (pg_name (i := 3) nd rfl (Or.inl rfl))) (fun _ _ _ _ _ => pts_nil) (fun _ _ _ _ _ => (pe_callTy (k_list K) (by rfl) T.list_ (by decide +kernel) (pa_cons (pv 3) pa_nil)))) rfl)
    (pss_one (k_set K (pv 0) (pe_lc (own := [("row", 3)]) rfl nd (k_over K (pv 2)) (blkOk_by (own := [("row", 3)]) (N := N_panel_init) (sc := defScope s_panel_init) (by decide +kernel)) (fun _ _ _ _ _ => (pg_name (i := 3) nd rfl (Or.inl rfl))) (fun _ _ _ _ _ => pts_nil) (fun _ _ _ _ _ => (pe_callD D_spots_of (hr.mono (by decide)) rfl (pa_cons (pv 3) pa_nil)))) rfl)))))), ?_⟩
  obtain ⟨⟨ns, rs⟩, ⟨N, hr2, hl, hne2⟩, G, H1, x, dx, ws, hx, hdx, hne, rfl, rfl, g, ty, q⟩ := h
  obtain ⟨g1, o1⟩ := own_start (C := CP K) g hx hdx hne
  have e0 : EnvOk none G H1 G _ (L2.start N_panel_init (.ref x :: ws)) _ := (env0_ok (pu := none) (G := G) (H := H1) (N := N_panel_init) (vs := .ref x :: ws) (As := [Vv (.ref x), D (eS ns), D (.list (rs.map eS))]) ⟨rfl, ty⟩).any (H' := upd (upd H1 dx (.own x)) x (.ins (CP K) dx [])) rfl
  have ae : areEntries (eS ns) = true := by
    unfold areEntries
    rw [areNames_S, strsD_S]
    simp only [Bool.and_eq_true, List.all_eq_true, decide_eq_true_eq]
    refine ⟨⟨N.ok, N.nd⟩, ?_⟩
    cases ns with
    | nil => exact absurd rfl N.ne
    | cons _ _ => rfl
  have sr : SeqAt.shaped (.list (rs.map eS)) = true := shaped_list (fun d hd => by
    obtain ⟨r, hr, rfl⟩ := List.mem_map.mp hd
    exact ((N.perm (hr2 r hr)).smS (fun _ h => h) (Nat.le_trans (N.perm (hr2 r hr)).le (by decide))).s) fun d hd => by
    obtain ⟨r, hr, rfl⟩ := List.mem_map.mp hd
    exact Nat.le_trans (depth_S r) (by decide)
  have A0 : At [some (.im (Vv (.ref x))), some (.im (D (eS ns))), some (.im (D (.list (rs.map eS)))), none] (CP K) x dx [] G H1 (L2.start N_panel_init (.ref x :: ws)) G _ := ⟨g1, e0, o1⟩
  refine at_dropS A0 (pu_call1 (ι := PyData) (eS ns) (by exact ⟨.inl (N.smS (fun _ h => h) (Nat.le_trans N.le (by decide))), ae⟩) (pa_c (pu_var rfl) pa_n) (by exact ⟨sub_D, trivial⟩)) fun G1 S1 A1 => ?_
  refine at_ifS A1 (qt_or (a := false) (qt_not (a := true) (qt_B (pu_call1 (ι := List (List Str) × List Str) (rs, ns) (by exact ⟨N, hr2, hl⟩) (pa_c (pu_var rfl) (pa_c (pu_var rfl) pa_n)) (by exact ⟨sub_D, sub_D, trivial⟩)))) (fun _ => qt_test ((pu_isNil (pu_var rfl) sr).le (le_bool ?_)))) fun G2 S2 A2 => ?_
  · cases rs with
    | nil => exact absurd rfl hne2
    | cons _ _ => rfl
  refine at_setS (fs := []) A2 (pu_cb (pa_c (pu_var rfl) pa_n) (sort_RC (N.okS fun _ h => h) (Nat.le_trans N.le (by decide)))) rfl T.k_Panel T.n_Panel_names (by decide) rfl fun v1 G3 S3 s3 r1 A3 => ?_
  refine at_setS A3 (pu_lcA (pu_var rfl) [3] (by simp) (Nat.le_trans hl (by decide)) (fun r => Ln ((r.map PyData.str).map D)) (fun r hr => ⟨_, tg_name, pu_cb (pa_c (pu_var rfl) pa_n) rc_list⟩)) rfl T.k_Panel T.n_Panel_orders (by simp [putF]) rfl fun v2 G4 S4 s4 r2 A4 => ?_
  refine at_set A4 (pu_lcA (pu_var rfl) [3] (by simp) (Nat.le_trans hl (by decide)) (fun r => AnyT) (fun r hr => ⟨_, tg_name, pu_call1 (ι := List Str) r (by
    show r.length ≤ 1000
    exact Nat.le_trans (N.perm (hr2 r hr)).le (by decide)) (pa_c (pu_var rfl) pa_n) (by exact ⟨sub_D, trivial⟩)⟩)) rfl T.k_Panel T.n_Panel_spots (by simp only [putF]; split <;> simp) rfl fun v3 G5 S5 s5 r3 A5 => ?_
  refine q (upd G5 x _) S5 (A5.a.own A5.o.h0 A5.o.h A5.o.g (by simp)) ?_
  have sx := same_own (o := .ins (CP K) dx (putF "spots" v3 (putF "orders" v2 (putF "names" v1 [])))) A5.o.g
  refine ⟨x, dx, v1, v2, v3, rfl, by rw [upd_same]; rfl, ?_, ?_⟩
  · exact (le_FD _ _ _ r1 : Dq _ _ _ _).mono ((s4.trans s5).trans sx) fun _ z => z
  · exact ((ln_mapF (enc := eS) fun r _ => ln_SF2).trans le_FD _ _ _ r2 : Dq _ _ _ _).mono (s5.trans sx) fun _ z => z
abbrev N_book_init : List Str := ["self", "entries", "lines", "line"]
theorem sc_book_init : FnScope N_book_init ["self", "entries", "lines"] (defScope s_book_init) := ⟨rfl, rfl, rfl, by decide +kernel, rfl, by decide +kernel, by decide +kernel⟩
theorem once_snoc (acc xs : List Line) (l : Line) : once acc (xs ++ [l]) = if l ∈ once acc xs then once acc xs else once acc xs ++ [l] := by
  induction xs generalizing acc with
  | nil => rfl
  | cons x xs ih => exact ih _
theorem once_len (acc xs : List Line) : (once acc xs).length ≤ acc.length + xs.length := by
  induction xs generalizing acc with
  | nil => exact Nat.le_refl _
  | cons x xs ih =>
    unfold once
    rw [List.length_cons]
    by_cases h : x ∈ acc
    · rw [if_pos h]
      have := ih acc
      omega
    · rw [if_neg h]
      have := ih (acc ++ [x])
      rw [List.length_append, List.length_singleton] at this
      omega
theorem once_sub (acc xs : List Line) : ∀ l ∈ once acc xs, l ∈ acc ∨ l ∈ xs := by
  induction xs generalizing acc with
  | nil => exact fun l h => .inl h
  | cons x xs ih =>
    intro l h
    rcases ih _ l h with z | z
    · split at z
      · exact .inl z
      · rcases List.mem_append.mp z with y | y
        · exact .inl y
        · exact .inr (by simp at y; simp [y])
    · exact .inr (List.mem_cons_of_mem _ z)
def spBook (K : PySem.W.Frag) : Sp := InitSp (ι := List Str × List Line) (CB K) (fun i => Ns i.1 ∧ (∀ l ∈ i.2, LnOk i.1 l) ∧ i.2.length ≤ 100) (fun i => [D (eS i.1), D (eLs i.2)]) (fun i => BkT K (sortS i.1) (canon i.2))
theorem ok_book_init (T : Tx K mg) : Di P w K mg base 7 (He.ga K "Book") "Book" ["self", "entries", "lines"] (spBook K) := by
  have D_are_entries := ok_are_entries (P := P) (w := w) (base := base) T
  have D_copied := ok_copied (P := P) (w := w) (base := base) T
  have D_is_line := ok_is_line (P := P) (w := w) (base := base) T
  refine di_mk T.fd_book_init T.cls_Book T.m_Book sc_book_init (init_len (k := 2) fun _ => rfl) (fun _ _ _ _ _ _ us hl => match us, hl with | [_, _, _], _ => rfl) fun cdv A outer s H vs Q E hr hu64 hu65 h => ?_
  have nd := sc_book_init.nd
  refine ⟨_, (pss_cons (ps_if (pt_not (pt_val (pe_callD D_are_entries (hr.mono (by decide)) rfl (pa_cons (pv 1) pa_nil)))) (pss_one ps_never) pss_nil)
    (pss_cons (ps_if (PW.pt (pw_or (pt_not (pt_val (pe_callB (k_isi K) (by rfl) T.isinstance_ (by decide +kernel) (pa_cons (pv 2) (pa_cons (pe_bltn (v := .ty "list") (by rfl) T.list_ (by decide +kernel) rfl) pa_nil))))) (pw_or1 (pt_cmpR (k_ne K hu64) (pe_lc (own := [("line", 3)]) rfl nd (k_over K (pv 2)) (blkOk_by (own := [("line", 3)]) (N := N_book_init) (sc := defScope s_book_init) (by decide +kernel)) (fun _ _ _ _ _ => (pg_name (i := 3) nd rfl (Or.inl rfl))) (fun _ _ _ _ _ => (pts_one (pt_not (pt_val (pe_callD D_is_line (hr.mono (by decide)) rfl (pa_cons (pv 3) (pa_cons (pv 1) pa_nil))))))) (fun _ _ _ _ _ => (pv 3))) (pe_lst pa_nil) (nomark _))))) (pss_one ps_never) pss_nil)
    (pss_cons (k_set K (pv 0) (pe_callB (k_sorted K hu64) (by rfl) T.sorted_ (by decide +kernel) (pa_cons (pv 1) pa_nil)) rfl)
    (pss_cons (k_set K (pv 0) (pe_lst pa_nil) rfl)
    (pss_one (ps_for PassesOwn.never rfl (k_over K (pe_callB (k_sorted K hu64) (by rfl) T.sorted_ (by decide +kernel) (pa_cons (pv 2) pa_nil))) (pg_name (i := 3) nd rfl (Or.inl rfl))
     (pss_one (ps_if (pt_cmpR (k_ni K hu65) (pv 3) (k_fld K (pv 0) rfl) (by rfl)) (pss_one (ps_expr (k_bm K PySem.F.plainAttrs_list PySem.F.slot_list_append PySem.F.type_list_append mt_append (k_fld K (pv 0) rfl) (pa_cons (pe_callD D_copied (hr.mono (by decide)) rfl (pa_cons (pv 3) pa_nil)) pa_nil)))) pss_nil)))))))), ?_⟩
  obtain ⟨⟨ns, ls⟩, ⟨N, hok, hl⟩, G, H1, x, dx, ws, hx, hdx, hne, rfl, rfl, g, ty, q⟩ := h
  obtain ⟨g1, o1⟩ := own_start (C := CB K) g hx hdx hne
  have e0 : EnvOk none G H1 G _ (L2.start N_book_init (.ref x :: ws)) _ := (env0_ok (pu := none) (G := G) (H := H1) (N := N_book_init) (vs := .ref x :: ws) (As := [Vv (.ref x), D (eS ns), D (.list (ls.map eL))]) ⟨rfl, ty⟩).any (H' := upd (upd H1 dx (.own x)) x (.ins (CB K) dx [])) rfl
  have hl : ls.length ≤ 100 := hl
  have sms : ∀ l ∈ ls, Sm (eL l) := fun l hl => (hok l hl).sm N
  have ae : areEntries (eS ns) = true := by
    unfold areEntries
    rw [areNames_S, strsD_S]
    simp only [Bool.and_eq_true, List.all_eq_true, decide_eq_true_eq]
    refine ⟨⟨N.ok, N.nd⟩, ?_⟩
    cases ns with
    | nil => exact absurd rfl N.ne
    | cons _ _ => rfl
  have A0 : At [some (.im (Vv (.ref x))), some (.im (D (eS ns))), some (.im (D (.list (ls.map eL)))), none] (CB K) x dx [] G H1 (L2.start N_book_init (.ref x :: ws)) G _ := ⟨g1, e0, o1⟩
  refine at_ifS A0 (qt_not (a := true) (qt_B ((pu_call1 (ι := PyData) (eS ns) (by exact .inl (N.smS (fun _ h => h) (Nat.le_trans N.le (by decide)))) (pa_c (pu_var rfl) pa_n) (by exact ⟨sub_D, trivial⟩)).le (le_bool ae)))) fun G1 S1 A1 => ?_
  refine at_ifS A1 (qt_or (a := false) (qt_not (a := true) (qt_B (pu_isListT (pu_var rfl)))) (fun _ => qt_test ((pu_notNil ((pu_lcE (pu_var rfl) [3] (by simp) (Nat.le_trans hl (by decide)) (fun l => false) (fun l => D (eL l))
    (fun l hm => ⟨_, tg_name, qt_not (a := true) (qt_B ((pu_call1 (ι := PyData × List Str) (eL l, ns) (by exact sms l hm) (pa_c (pu_var rfl) (pa_c (pu_var rfl) pa_n)) (by exact ⟨sub_D, sub_D, trivial⟩)).le (le_bool (LnOk.line N (hok l hm))))), fun _ => pu_var rfl⟩)).le ln_Dm) ?_).le (le_bool ?_)))) fun G2 S2 A2 => ?_
  · rw [filter_no]
    exact shaped_nil
  · rw [filter_no]
    rfl
  refine at_setS (fs := []) A2 (pu_cb (pa_c (pu_var rfl) pa_n) (sort_RC (N.okS fun _ h => h) (Nat.le_trans N.le (by decide)))) rfl T.k_Book T.n_Book_names (by decide) rfl fun v1 G3 S3 s3 r1 A3 => ?_
  refine ⟨Nat.zero_le _, fun l hl0 => ?_⟩
  have l0 : H1 l = none := by
    cases z : H1 l with
    | none => rfl
    | some u =>
      rw [A3.a.h l u (by simp) z] at hl0
      cases hl0
  have lG : G3 l = none := none_back A3.a.s hl0
  have lx : l ≠ x := fun e => by
    subst e
    rw [A3.o.h] at hl0
    cases hl0
  obtain ⟨w, hw, hv⟩ := A3.e.getIm (i := 0) rfl
  cases (show w = _ from hv)
  refine ⟨.ref x, hw, x, CB K, dx, _, rfl, by rw [upd_ne (Ne.symm lx)]; exact A3.o.h, T.k_Book, T.n_Book_told, by simp [putF], ?_⟩
  have pf : putF "told" (.ref l) (putF "names" v1 []) = ([("names", v1), ("told", .ref l)] : List (Str × V)) := by
    have e1 : (("names" : Str) = "told") = False := by decide
    simp only [putF, e1, if_false]
  rw [pf]
  dsimp only
  have a4 : Gr none 0 G H1 G3 (upd S3 l (.lst [])) := A3.a.frame l0 lG (by simp)
  have a5 : Gr none 0 G H1 G3 (upd (upd S3 l (.lst [])) x (.ins (CB K) dx [("names", v1), ("told", .ref l)])) := a4.frame A3.o.h0 A3.o.g (by simp)
  have hS : ∀ i, i < (sortL ls).length → (sortL ls).getD i ("", [], "") ∈ ls := fun i hi => by
    rw [List.getD_eq_getElem?_getD, List.getElem?_eq_getElem hi]
    exact (sortL_perm ls).mem_iff.mp (List.getElem_mem hi)
  refine for_by (L := ((sortL ls).map eL).length) a5 (A3.e.any rfl) (pi_L (pu_cb (pa_c (pu_var rfl) pa_n) (sort_RCL sms (Nat.le_trans hl (by decide)))))
    (fun i σ' G' H' => Gr none 0 G H1 G' H' ∧ EnvOk none G H1 G' H' σ' [some (.im (Vv (.ref x))), some (.im (D (eS ns))), some (.im (D (.list (ls.map eL)))), none] ∧ Same G3 G' ∧ Own H1 G' H' x (CB K) dx [("names", v1), ("told", .ref l)] ∧ G' l = none ∧ ∃ acc, H' l = some (.lst acc) ∧ DqAll (fun _ => True) G' acc ((once [] ((sortL ls).take i)).map eL))
    (fun i σ' G' H' hh => hh.1.here) (fun G4 H4 b => ?_) (fun i σ' G' H' sg hi hJ v G'' H'' b rv F f1 f2 f3 f4 => ?_) (fun σ' G' H' sg hJ => ?_)
  · have ox : Own H1 G3 (upd (upd S3 l (.lst [])) x (.ins (CB K) dx [("names", v1), ("told", .ref l)])) x (CB K) dx [("names", v1), ("told", .ref l)] := ⟨A3.o.h0, A3.o.g, upd_same⟩
    refine ⟨a5.trans b, (A3.e.any rfl).keep b, b.g, ox.keep b, ?_, [], b.h _ _ (by simp) (by rw [upd_ne lx, upd_same]), ?_⟩
    · cases z : G4 l with
      | none => rfl
      | some u =>
        rcases b.nw _ _ z with y | y
        · rw [lG] at y
          cases y
        · rw [upd_ne lx, upd_same] at y
          cases y
    · rw [List.take_zero]
      exact .nil
  · obtain ⟨ga, ea, sa, oa, la, acc, lh, ld⟩ := hJ
    rw [List.length_map] at hi
    have hg : (sortL ls)[i]? = some (sortL ls)[i] := List.getElem?_eq_getElem hi
    have hgd : ((sortL ls).map eL).getD i .none = eL (sortL ls)[i] := by
      rw [List.getD_eq_getElem?_getD, List.getElem?_map, hg]
      rfl
    have hmem : (sortL ls)[i] ∈ ls := (sortL_perm ls).mem_iff.mp (List.getElem_mem hi)
    rw [hgd] at rv
    have tk : (sortL ls).take (i + 1) = (sortL ls).take i ++ [(sortL ls)[i]] := by rw [List.take_succ, hg]; rfl
    have hso : ∀ y ∈ once [] ((sortL ls).take i), y ∈ ls := fun y hy => by
      rcases once_sub _ _ y hy with z | z
      · cases z
      · exact (sortL_perm ls).mem_iff.mp (List.mem_of_mem_take z)
    have hlen : (once [] ((sortL ls).take i)).length ≤ 100 := by
      have h1 := once_len [] ((sortL ls).take i)
      have h2 := (sortL_perm ls).length_eq
      rw [List.length_take] at h1
      simp at h1
      omega
    have ob := oa.keep b
    have lb : H'' l = some (.lst acc) := b.h _ _ (by simp) lh
    have lg : G'' l = none := by
      cases z : G'' l with
      | none => rfl
      | some u =>
        rcases b.nw _ _ z with y | y
        · rw [la] at y
          cases y
        · rw [lh] at y
          cases y
    have ld2 := ld.mono b.g fun _ z => z
    have es := (ea.keep b).setIm 3 (v := v) (T := D (eL (sortL ls)[i])) rv
    obtain ⟨w0, hw0, hv0⟩ := es.getIm (i := 0) rfl
    cases (show w0 = _ from hv0)
    obtain ⟨w3, hw3, hv3⟩ := es.getIm (i := 3) rfl
    show (tIfS _ _ _) F _ H''
    have shl : SeqAt.shaped (eL (sortL ls)[i]) = true := (sms _ hmem).shaped
    have sha : SeqAt.shaped (.list ((once [] ((sortL ls).take i)).map eL)) = true := shL fun y hy => sms y (hso y hy)
    have c1 : (eL (sortL ls)[i]).canLay0 = true := (Bool.and_eq_true_iff.mp shl).1
    have c2 : PyData.canLayAll0 ((once [] ((sortL ls).take i)).map eL) = true := by
      have := (Bool.and_eq_true_iff.mp sha).1
      simpa [PyData.canLay0] using this
    have gb : Gr none 0 G H1 G'' H'' := ga.trans b
    refine ⟨w3, hw3, .ref x, hw0, x, CB K, dx, _, .ref l, rfl, ob.h, T.k_Book, T.n_Book_told, rfl, .inl ⟨_, _, (Dq.mono gb.s (fun _ z => z) hv3).dp c1, .lst (.inl (.inl lb)) ((ld2.mono gb.s fun _ z => z).dp c2), shl, sha, _, rfl, ?_⟩⟩
    rw [any_L]
    have tk2 : once [] ((sortL ls).take (i + 1)) = if (sortL ls)[i] ∈ once [] ((sortL ls).take i) then once [] ((sortL ls).take i) else once [] ((sortL ls).take i) ++ [(sortL ls)[i]] := by rw [tk, once_snoc]
    by_cases hin : (sortL ls)[i] ∈ once [] ((sortL ls).take i)
    · rw [decide_eq_true hin]
      show F.nx _ _
      refine f1 _ _ G'' b.g ⟨gb, es.forget 3, sa.trans b.g, ob, lg, acc, lb, ?_⟩
      rw [tk2, if_pos hin]
      exact ld2
    · rw [decide_eq_false hin]
      dsimp only
      rw [Bool.not_false, if_pos rfl]
      refine ⟨.ref x, hw0, x, CB K, dx, _, .ref l, rfl, ob.h, T.k_Book, T.n_Book_told, rfl, Or.inl ⟨rfl, _, Or.inl (Or.inl lb)⟩, ?_⟩
      refine (pu_call1 (ι := Line) (n := 0) (pu := none) (sortL ls)[i] trivial (pa_c (pu_var (i := 3) rfl) pa_n) (by exact ⟨sub_D, trivial⟩)) G H1 _ G'' H'' gb es _ fun y G5 S5 b5 r5 => ?_
      have o5 := ob.keep b5
      have l5 : S5 l = some (.lst acc) := b5.h _ _ (by simp) lb
      have g5 : G5 l = none := by
        cases z : G5 l with
        | none => rfl
        | some u =>
          rcases b5.nw _ _ z with y | y
          · rw [lg] at y
            cases y
          · rw [lb] at y
            cases y
      have lenA : acc.length ≤ 100 := by
        rw [ld2.len, List.length_map]
        exact hlen
      refine ⟨l, acc, y, rfl, rfl, l5, small_lt (by omega), ?_⟩
      refine f1 _ _ G5 (b.g.trans b5.g) ⟨(gb.trans b5).frame l0 g5 (by simp), ((es.keep b5).forget 3).any rfl, (sa.trans b.g).trans b5.g, ⟨o5.h0, o5.g, by rw [upd_ne (Ne.symm lx)]; exact o5.h⟩, g5, acc ++ [y], upd_same, ?_⟩
      rw [tk2, if_neg hin, List.map_append]
      exact (ld2.mono b5.g fun _ z => z).app (.cons (le_FD _ _ _ r5) .nil)
  · obtain ⟨ga, ea, sa, oa, la, acc, lh, ld⟩ := hJ
    rw [List.length_map, List.take_length] at ld
    have s1 := same_own (o := .lst acc) la
    have k1 := ga.own l0 lh la (by simp)
    have ox : upd G' l (.lst acc) x = none := by
      rw [upd_ne (Ne.symm lx)]
      exact oa.g
    have s2 := same_own (o := .ins (CB K) dx [("names", v1), ("told", .ref l)]) ox
    show Q .non _
    refine q _ _ (k1.own oa.h0 oa.h ox (by simp)) ⟨x, dx, v1, .ref l, rfl, upd_same, ?_, ?_⟩
    · exact (le_FD _ _ _ r1 : Dq _ _ _ _).mono ((sa.trans s1).trans s2) fun _ z => z
    · exact .lst trivial (s2 _ _ upd_same) (ld.mono (s1.trans s2) fun _ z => z)
end
end Cp
set_option Elab.async false
set_option linter.all false
set_option maxRecDepth 100000
set_option maxHeartbeats 2000000
/-! P5: breaks. -/
namespace Cp
open PySem L2 PySem.Spec PyProof.Rows
section
variable {K : PySem.W.Frag} {pu : Option Addr} {n n1 n2 : Nat} {env : Env'} {te : TE}
theorem pa_star {ds : List PyData} {tr : TA} {Rs : List Ty} (h : Pu pu n n1 env te (D (.list ds))) (hr : PuA pu n1 n2 env tr Rs) : PuA pu n n2 env (StX.tStar K te tr) (ds.map D ++ Rs) := fun G0 H0 σ G H a e Q q =>
  h G0 H0 σ G H a e _ fun x G1 S1 b1 r1 => by
    obtain ⟨l, vs, rfl, _, hv, dv⟩ := dq_list r1
    refine ⟨l, vs, rfl, .inr (.inl (.inl (b1.s _ _ hv))), hr G0 H0 σ G1 S1 (a.trans b1) (e.keep b1) _ fun ys G2 S2 b2 r2 => q _ G2 S2 (b1.trans b2) ?_⟩
    exact (d_tys (dv.mono b2.g fun _ z => z)).app r2
end
theorem eqv_str (a b : Str) : PyData.eqv (.str a) (.str b) = decide (a = b) := by
  simp only [PyData.eqv]
  by_cases h : a = b <;> simp [h]
theorem head_eqv {xs : List Str} {x : Str} (h : xs ≠ []) : ∃ y, xs[0]? = some y ∧ PyData.eqv (.str y) (.str x) = decide (xs.head? = some x) := by
  cases xs with
  | nil => exact absurd rfl h
  | cons y ys =>
    refine ⟨y, rfl, ?_⟩
    simp only [eqv_str, List.head?_cons, Option.some.injEq]
structure MtOk (row field : List Str) (x : Str) : Prop where
  ok : ∀ y ∈ row, okS y = true
  ox : okS x = true
  le : row.length ≤ 1000
  ne : ∃ y ∈ row, y ∈ field
theorem mt_row {ns row field : List Str} {x : Str} (N : Ns ns) (r : RowOk ns row) (hx : x ∈ ns) (f : ∃ y ∈ ns, y ∈ field) : MtOk row field x := by
  have R := N.perm r
  obtain ⟨y, h1, h2⟩ := f
  exact ⟨fun y hy => name_ok (R.ok y hy), name_ok (N.ok x hx), Nat.le_trans R.le (by decide), y, r.mem_iff.mpr h1, h2⟩
section
variable {P : Program} {w : World} {K : PySem.W.Frag} {mg : Str → Option Value} {base : Heap}
abbrev N_is_met : List Str := ["row", "field", "entry", "name"]
theorem sc_is_met : FnScope N_is_met ["row", "field", "entry"] (defScope s_is_met) := ⟨rfl, rfl, rfl, by decide +kernel, rfl, by decide +kernel, by decide +kernel⟩
def spMet : Sp := Prp (ι := List Str × List Str × Str) (fun i => MtOk i.1 i.2.1 i.2.2) (fun i => [D (eS i.1), D (eS i.2.1), D (.str i.2.2)]) (fun i => D (.bool (meets i.1 i.2.1 i.2.2)))
theorem ok_is_met (T : Tx K mg) : Dn P w K mg base 1 "is_met" ["row", "field", "entry"] spMet := by
  refine dn_mk T.fd_is_met T.g_is_met sc_is_met (prm_len fun _ => rfl) (fun _ _ _ _ _ _ us hl => match us, hl with | [_, _, _], _ => rfl) fun cdv A outer s H vs Q E hr hu64 hu65 h => ?_
  have nd := sc_is_met.nd
  refine ⟨_, (pss_one (ps_ret (pe_cmpR (k_eq K hu64) (pe_ix (k_ix K) (pe_lc (own := [("name", 3)]) rfl nd (k_over K (pv 0)) (blkOk_by (own := [("name", 3)]) (N := N_is_met) (sc := defScope s_is_met) (by decide +kernel)) (fun _ _ _ _ _ => (pg_name (i := 3) nd rfl (Or.inl rfl))) (fun _ _ _ _ _ => (pts_one (pt_cmpR (k_in K hu65) (pv 3) (pv 1) (by rfl)))) (fun _ _ _ _ _ => (pv 3))) pe_int (fun _ _ => rfl)) (pv 2) (nomark _)))), fn_prm (E := E) h fun i hi => ?_⟩
  obtain ⟨row, f, x⟩ := i
  obtain ⟨ok, ox, le, ne⟩ := hi
  show Sj none 0 [some (.im (D (.list (row.map .str)))), some (.im (D (eS f))), some (.im (D (.str x))), none] _ _
  have nn : row.filter (fun y => decide (y ∈ f)) ≠ [] := by
    obtain ⟨y, h1, h2⟩ := ne
    exact List.ne_nil_of_mem (List.mem_filter.mpr ⟨h1, decide_eq_true h2⟩)
  obtain ⟨y, hy, he⟩ := head_eqv (x := x) nn
  refine sj_ret (pu_op (pu_op ((pu_lcE (enc := PyData.str) (pu_var rfl) [3] (by simp) (Nat.le_trans le (by decide)) (fun y => decide (y ∈ f)) (fun y => D (.str y))
    (fun y hy => ⟨_, tg_name, qt_test (pu_op (pu_var rfl) (pu_var rfl) rv_inS), fun _ => pu_var rfl⟩)).le ln_SD) (pu_int (i := ((0 : Nat) : Int))) (rv_ixL (d := .str y) ?_)) (pu_var rfl) (rv_eq (shaped_str ?_) (shaped_str ox))) (le_bool he)
  · rw [List.getElem?_map, hy]
    rfl
  · exact ok y (List.mem_filter.mp (List.mem_of_getElem? hy)).1
abbrev N_l_meets : List Str := ["_law_row", "_law_field", "_law_name", "_law_one"]
theorem sc_l_meets : FnScope N_l_meets ["_law_row", "_law_field", "_law_name"] (defScope s_l_meets) := ⟨rfl, rfl, rfl, by decide +kernel, rfl, by decide +kernel, by decide +kernel⟩
theorem ok_l_meets (T : Tx K mg) : Dn P w K mg base 1 "_law_meets" ["_law_row", "_law_field", "_law_name"] spMet := by
  refine dn_mk T.fd_l_meets T.g_l_meets sc_l_meets (prm_len fun _ => rfl) (fun _ _ _ _ _ _ us hl => match us, hl with | [_, _, _], _ => rfl) fun cdv A outer s H vs Q E hr hu64 hu65 h => ?_
  have nd := sc_l_meets.nd
  refine ⟨_, (pss_one (ps_ret (pe_cmpR (k_eq K hu64) (pe_ix (k_ix K) (pe_lc (own := [("_law_one", 3)]) rfl nd (k_over K (pv 0)) (blkOk_by (own := [("_law_one", 3)]) (N := N_l_meets) (sc := defScope s_l_meets) (by decide +kernel)) (fun _ _ _ _ _ => (pg_name (i := 3) nd rfl (Or.inl rfl))) (fun _ _ _ _ _ => (pts_one (pt_cmpR (k_in K hu65) (pv 3) (pv 1) (by rfl)))) (fun _ _ _ _ _ => (pv 3))) pe_int (fun _ _ => rfl)) (pv 2) (nomark _)))), fn_prm (E := E) h fun i hi => ?_⟩
  obtain ⟨row, f, x⟩ := i
  obtain ⟨ok, ox, le, ne⟩ := hi
  show Sj none 0 [some (.im (D (.list (row.map .str)))), some (.im (D (eS f))), some (.im (D (.str x))), none] _ _
  have nn : row.filter (fun y => decide (y ∈ f)) ≠ [] := by
    obtain ⟨y, h1, h2⟩ := ne
    exact List.ne_nil_of_mem (List.mem_filter.mpr ⟨h1, decide_eq_true h2⟩)
  obtain ⟨y, hy, he⟩ := head_eqv (x := x) nn
  refine sj_ret (pu_op (pu_op ((pu_lcE (enc := PyData.str) (pu_var rfl) [3] (by simp) (Nat.le_trans le (by decide)) (fun y => decide (y ∈ f)) (fun y => D (.str y))
    (fun y hy => ⟨_, tg_name, qt_test (pu_op (pu_var rfl) (pu_var rfl) rv_inS), fun _ => pu_var rfl⟩)).le ln_SD) (pu_int (i := ((0 : Nat) : Int))) (rv_ixL (d := .str y) ?_)) (pu_var rfl) (rv_eq (shaped_str ?_) (shaped_str ox))) (le_bool he)
  · rw [List.getElem?_map, hy]
    rfl
  · exact ok y (List.mem_filter.mp (List.mem_of_getElem? hy)).1
abbrev N_break_of : List Str := ["line", "rows", "word", "lot", "entry", "row", "at"]
theorem sc_break_of : FnScope N_break_of ["line", "rows"] (defScope s_break_of) := ⟨rfl, rfl, rfl, by decide +kernel, rfl, by decide +kernel, by decide +kernel⟩
/-- a line of these names, rows of these names -/
structure LnRows (ns : List Str) (l : Line) (rs : List (List Str)) : Prop where
  N : Ns ns
  L : LnOk ns l
  R : ∀ r ∈ rs, RowOk ns r
  le : rs.length ≤ 300
theorem LnRows.mt1 {ns : List Str} {l : Line} {rs : List (List Str)} (h : LnRows ns l rs) {r : List Str} (hr : r ∈ rs) : MtOk r l.2.1 l.2.2 := by
  refine mt_row h.N (h.R r hr) h.L.e ?_
  have F := h.L.fld h.N
  obtain ⟨y, ys, e⟩ := List.exists_cons_of_ne_nil F.ne
  exact ⟨y, F.sub y (by rw [e]; simp), by rw [e]; simp⟩
theorem LnRows.mt2 {ns : List Str} {l : Line} {rs : List (List Str)} (h : LnRows ns l rs) {r : List Str} (hr : r ∈ rs) : MtOk r (l.2.1 ++ [l.2.2]) l.2.2 := mt_row h.N (h.R r hr) h.L.e ⟨l.2.2, h.L.e, by simp⟩
theorem shR {ns : List Str} (N : Ns ns) {rs : List (List Str)} (h : ∀ r ∈ rs, RowOk ns r) : SeqAt.shaped (eR rs) = true := shaped_list (fun d hd => by
  obtain ⟨r, hr, rfl⟩ := List.mem_map.mp hd
  exact ((N.perm (h r hr)).smS (fun _ h => h) (Nat.le_trans (N.perm (h r hr)).le (by decide))).s) fun d hd => by
  obtain ⟨r, hr, rfl⟩ := List.mem_map.mp hd
  exact Nat.le_trans (depth_S r) (by decide)
def resBrk (rs : List (List Str)) (l : Line) : PyData := if keepsLine rs l = true then .none else brkD rs l
def spBreak : Sp := Prp (ι := List Str × Line × List (List Str)) (fun i => LnRows i.1 i.2.1 i.2.2) (fun i => [D (eL i.2.1), D (eR i.2.2)]) (fun i => Fd (resBrk i.2.2 i.2.1))
theorem tn2F {a b : PyData} {T U : Ty} (h1 : T.le (Fd a)) (h2 : U.le (Fd b)) : (Tn [T, U]).le (Fd (.tuple [a, b])) := (tn_le (Us := [Fd a, Fd b]) (by exact ⟨h1, h2, trivial⟩)).trans (tn_F (ds := [a, b]))
theorem tn2D {a b : PyData} {T U : Ty} (h1 : T.le (D a)) (h2 : U.le (D b)) : (Tn [T, U]).le (D (.tuple [a, b])) := (tn_le (Us := [D a, D b]) (by exact ⟨h1, h2, trivial⟩)).trans (tn_D (ds := [a, b]))
theorem le_DD {a b : PyData} (h : a = b) : (D a).le (D b) := le_D h
theorem le_FF {a b : PyData} (h : a = b) : (Fd a).le (Fd b) := by rw [h]; exact Ty.le.rfl'
theorem any_filter {α : Type} (p : α → Bool) (xs : List α) : (xs.filter p).isEmpty = !xs.any p := by
  rw [filter_isEmpty]
  induction xs with
  | nil => rfl
  | cons x xs ih => simp [ih, Bool.not_or]
theorem ok_break_of (T : Tx K mg) : Dn P w K mg base 2 "break_of" ["line", "rows"] spBreak := by
  have D_copied := ok_copied (P := P) (w := w) (base := base) T
  have D_is_met := ok_is_met (P := P) (w := w) (base := base) T
  refine dn_mk T.fd_break_of T.g_break_of sc_break_of (prm_len fun _ => rfl) (fun _ _ _ _ _ _ us hl => match us, hl with | [_, _], _ => rfl) fun cdv A outer s H vs Q E hr hu64 hu65 h => ?_
  have nd := sc_break_of.nd
  refine ⟨_, (pss_cons (ps_asg (pv 0) (k_tgt (n := 3) K rfl (pgs_cons (pg_name (i := 2) nd rfl (Or.inl rfl)) (pgs_cons (pg_name (i := 3) nd rfl (Or.inr rfl)) (pgs_cons (pg_name (i := 4) nd rfl (Or.inr rfl)) pgs_nil)))))
    (pss_cons (ps_if (pt_cmpR (k_eq K hu64) (pv 2) pe_str (nomark _)) (pss_one (ps_ret (pe_ifExp (pt_cmpR (k_ne K hu64) (pe_lc (own := [("row", 5)]) rfl nd (k_over K (pv 1)) (blkOk_by (own := [("row", 5)]) (N := N_break_of) (sc := defScope s_break_of) (by decide +kernel)) (fun _ _ _ _ _ => (pg_name (i := 5) nd rfl (Or.inl rfl))) (fun _ _ _ _ _ => (pts_one (pt_val (pe_callD D_is_met (hr.mono (by decide)) rfl (pa_cons (pv 5) (pa_cons (pv 3) (pa_cons (pv 4) pa_nil))))))) (fun _ _ _ _ _ => (pv 5))) (pe_lst pa_nil) (nomark _)) pe_non (pe_tup (pa_cons (pe_callD D_copied (hr.mono (by decide)) rfl (pa_cons (pv 0) pa_nil)) (pa_cons pe_non pa_nil)))))) pss_nil)
    (pss_cons (ps_for PassesOwn.never rfl (k_enum K rfl T.enumerate_ (pa_cons (pv 1) pa_nil)) (k_tgt (n := 2) K rfl (pgs_cons (pg_name (i := 6) nd rfl (Or.inl rfl)) (pgs_cons (pg_name (i := 5) nd rfl (Or.inl rfl)) pgs_nil)))
     (pss_one (ps_if (pt_val (pe_callD D_is_met (hr.mono (by decide)) rfl (pa_cons (pv 5) (pa_cons (pe_lst (k_star K (pv 3) (pa_cons (pv 4) pa_nil))) (pa_cons (pv 4) pa_nil))))) (pss_one (ps_ret (pe_tup (pa_cons (pe_callD D_copied (hr.mono (by decide)) rfl (pa_cons (pv 0) pa_nil)) (pa_cons (pv 6) pa_nil))))) pss_nil)))
    (pss_one (ps_ret pe_non))))), fn_prm (E := E) h fun i hi => ?_⟩
  obtain ⟨ns, l, rs⟩ := i
  have Z : LnRows ns l rs := hi
  obtain ⟨wd, f, x⟩ := l
  show Sj none 0 [some (.im (D (.tuple [.str wd, eS f, .str x]))), some (.im (D (.list (rs.map eS)))), none, none, none, none, none] _ _
  refine sj_seq (sj_asgT (pu_var rfl) (tg_tup (js := [2, 3, 4]) rfl) ?_)
  show Sj none 0 [some (.im (D (.tuple [.str wd, eS f, .str x]))), some (.im (D (.list (rs.map eS)))), some (.im (D (.str wd))), some (.im (D (eS f))), some (.im (D (.str x))), none, none] _ _
  have hw : okS wd = true := by
    rcases Z.L.w with e | e <;> rw [show wd = _ from e]
    · exact ok_call
    · exact ok_off
  have ew : PyData.eqv (.str wd) (.str "call") = decide (wd = "call") := eqv_str _ _
  have srs : ∀ f, SeqAt.shaped (.list ((rs.filter f).map eS)) = true := fun f => shR Z.N fun r hr => Z.R r (List.mem_filter.mp hr).1
  refine sj_seq (sj_if (qt_test (pu_op (pu_var rfl) pu_str (rv_eq (shaped_str hw) (shaped_str ok_call)))) (fun hb => ?_) (fun hb => sj_next ?_))
  · have hc : wd = "call" := by
      rw [ew] at hb
      exact of_decide_eq_true hb.symm
    refine sj_ret (pu_if (qt_test (pu_notNil ((pu_lcE (pu_var rfl) [5] (by simp) (Nat.le_trans Z.le (by decide)) (fun r => meets r f x) (fun r => D (eS r))
      (fun r hr => ⟨_, tg_name, qt_B (pu_call1 (ι := List Str × List Str × Str) (r, f, x) (Z.mt1 hr) (pa_c (pu_var rfl) (pa_c (pu_var rfl) (pa_c (pu_var rfl) pa_n))) (by exact ⟨sub_D, sub_D, sub_D, trivial⟩)), fun _ => pu_var rfl⟩)).le ln_Dm) (srs _)))
      (fun hm => pu_non.le (le_nonF.trans (le_FF ?_))) (fun hm => (pu_tup (pa_c (pu_call1 (ι := Line) (wd, f, x) trivial (pa_c (pu_var rfl) pa_n) (by exact ⟨sub_D, trivial⟩)) (pa_c pu_non pa_n)) (by simp)).le ((tn2F Ty.le.rfl' le_nonF).trans (le_FF ?_)))) Ty.le.rfl'
    · rw [isEmpty_map, any_filter, Bool.not_not] at hm
      have : keepsLine rs (wd, f, x) = true := by
        unfold keepsLine
        rw [if_pos hc]
        exact hm.symm
      show PyData.none = resBrk rs (wd, f, x)
      unfold resBrk
      rw [if_pos this]
    · rw [isEmpty_map, any_filter, Bool.not_not] at hm
      have : ¬ keepsLine rs (wd, f, x) = true := by
        unfold keepsLine
        rw [if_pos hc]
        exact fun z => by rw [z] at hm; cases hm
      show _ = resBrk rs (wd, f, x)
      unfold resBrk brkD
      rw [if_neg this, if_pos hc]
  · have hc : ¬ wd = "call" := by
      rw [ew] at hb
      exact of_decide_eq_false hb.symm
    have hk : keepsLine rs (wd, f, x) = !rs.any fun r => meets r (f ++ [x]) x := by
      unfold keepsLine
      rw [if_neg hc]
    refine sj_seq (sj_for (pi_E (pa_c (pu_var rfl) pa_n)) (fun i m e => m = 0 ∧ (∀ j r, j < i → rs[j]? = some r → meets r (f ++ [x]) x = false) ∧ ∃ a b, e = [some (.im (D (.tuple [.str wd, eS f, .str x]))), some (.im (D (.list (rs.map eS)))), some (.im (D (.str wd))), some (.im (D (eS f))), some (.im (D (.str x))), a, b])
      ⟨rfl, fun j r hj => absurd hj (Nat.not_lt_zero _), _, _, rfl⟩ (fun i m e hi iv => ?_) (fun m e iv => ?_))
    · obtain ⟨rfl, no, a, b, rfl⟩ := iv
      rw [List.length_map] at hi
      have hr : rs[i]? = some rs[i] := List.getElem?_eq_getElem hi
      have hm : rs[i] ∈ rs := List.getElem_mem hi
      have hg : (rs.map eS).getD i .none = eS rs[i] := by
        rw [List.getD_eq_getElem?_getD, List.getElem?_map, hr]
        rfl
      rw [hg]
      refine ⟨_, _, tg_tup (js := [6, 5]) rfl, ?_⟩
      show Sj none 0 [some (.im (D (.tuple [.str wd, eS f, .str x]))), some (.im (D (.list (rs.map eS)))), some (.im (D (.str wd))), some (.im (D (eS f))), some (.im (D (.str x))), some (.im (D (eS rs[i]))), some (.im (D (.int i)))] _ _
      have hs : ((f.map PyData.str).map D ++ [D (.str x)]) = ((f ++ [x]).map PyData.str).map D := by simp
      refine sj_if (qt_B (pu_call1 (ι := List Str × List Str × Str) (rs[i], f ++ [x], x) (Z.mt2 hm) (pa_c (pu_var rfl) (pa_c ((pu_lst (pa_star (K := K) (ds := f.map .str) (pu_var rfl) (pa_c (pu_var rfl) pa_n)) (by
          have := (Z.L.fld Z.N).le Z.N
          simp only [List.length_append, List.length_map]
          simp at this ⊢
          omega)).le (by rw [hs]; exact ln_D)) (pa_c (pu_var rfl) pa_n))) (by exact ⟨sub_D, sub_D, sub_D, trivial⟩)))
        (fun hb => sj_ret (pu_tup (pa_c (pu_call1 (ι := Line) (wd, f, x) trivial (pa_c (pu_var rfl) pa_n) (by exact ⟨sub_D, trivial⟩)) (pa_c (pu_var rfl) pa_n)) (by simp)) ((tn2F Ty.le.rfl' le_intF).trans (le_FF ?_))) (fun hb => sj_next ⟨rfl, fun j r hj hjr => ?_, _, _, rfl⟩)
      · have hany : (rs.any fun r => meets r (f ++ [x]) x) = true := List.any_eq_true.mpr ⟨_, hm, hb.symm⟩
        have hfi : (rs.findIdx fun r => meets r (f ++ [x]) x) = i := by
          refine (List.findIdx_eq hi).mpr ⟨hb.symm, fun j hj => ?_⟩
          exact no j _ hj (List.getElem?_eq_getElem (Nat.lt_trans hj hi))
        show _ = resBrk rs (wd, f, x)
        unfold resBrk brkD
        rw [hk, hany, if_neg (by simp), if_neg hc, hfi]
      · by_cases hji : j < i
        · exact no j r hji hjr
        · have : j = i := by omega
          subst this
          rw [hr] at hjr
          cases hjr
          exact hb.symm
    · obtain ⟨rfl, no, a, b, rfl⟩ := iv
      rw [List.length_map] at no
      refine sj_ret pu_non (le_nonF.trans (le_FF ?_))
      show PyData.none = resBrk rs (wd, f, x)
      unfold resBrk
      rw [hk, if_pos]
      rw [Bool.not_eq_true', List.any_eq_false]
      intro r hr
      obtain ⟨j, hj, e⟩ := List.getElem_of_mem hr
      have := no j r hj (by rw [← e]; exact List.getElem?_eq_getElem hj)
      rw [this]
      simp
end
end Cp
set_option Elab.async false
set_option linter.all false
set_option maxRecDepth 100000
set_option maxHeartbeats 2000000
/-! P6: first breaks, calls. -/
namespace Cp
open PySem L2 PySem.Spec PyProof.Rows
section
variable {K : PySem.W.Frag} {pu : Option Addr} {n n1 n2 : Nat} {env : Env'} {te : TE} {l : Line}
theorem pu_l0 (h : Pu pu n n1 env te (D (eL l))) : Pu pu n n1 env (tOp (rIx K) te (tC (.int 0))) (D (.str l.1)) := pu_op h (pu_int (i := ((0 : Nat) : Int))) (rv_ixT rfl)
theorem pu_l1 (h : Pu pu n n1 env te (D (eL l))) : Pu pu n n1 env (tOp (rIx K) te (tC (.int 1))) (D (eS l.2.1)) := pu_op h (pu_int (i := ((1 : Nat) : Int))) (rv_ixT rfl)
theorem pu_l2 (h : Pu pu n n1 env te (D (eL l))) : Pu pu n n1 env (tOp (rIx K) te (tC (.int 2))) (D (.str l.2.2)) := pu_op h (pu_int (i := ((2 : Nat) : Int))) (rv_ixT rfl)
end
theorem LnOk.okw {ns : List Str} {l : Line} (h : LnOk ns l) : okS l.1 = true := by
  rcases h.w with e | e <;> rw [e]
  · exact ok_call
  · exact ok_off
/-- names, lines, rows -/
structure Sc (ns : List Str) (ls : List Line) (rs : List (List Str)) : Prop where
  N : Ns ns
  L : ∀ l ∈ ls, LnOk ns l
  R : ∀ r ∈ rs, RowOk ns r
  ll : ls.length ≤ 100
  rl : rs.length ≤ 100
theorem Sc.at_ {ns : List Str} {ls : List Line} {rs : List (List Str)} (h : Sc ns ls rs) {l : Line} (hl : l ∈ ls) : LnRows ns l rs := ⟨h.N, h.L l hl, h.R, Nat.le_trans h.rl (by decide)⟩
theorem Sc.perm {ns : List Str} {ls ms : List Line} {rs : List (List Str)} (h : Sc ns ls rs) (p : ms.Perm ls) : Sc ns ms rs := ⟨h.N, fun l hl => h.L l (p.mem_iff.mp hl), h.R, by rw [p.length_eq]; exact h.ll, h.rl⟩
theorem find_at {α : Type} {p : α → Bool} {xs : List α} {i : Nat} {x : α} (h : xs[i]? = some x) (hp : p x = true) (no : ∀ j y, j < i → xs[j]? = some y → p y = false) : xs.find? p = some x := by
  rw [List.find?_eq_some_iff_getElem]
  have hl := List.getElem?_eq_some_iff.mp h
  refine ⟨hp, i, hl.1, hl.2, fun j hj => ?_⟩
  have := no j _ hj (List.getElem?_eq_getElem (Nat.lt_trans hj hl.1))
  rw [this]
  rfl
theorem find_no {α : Type} {p : α → Bool} {xs : List α} (no : ∀ (j : Nat) y, xs[j]? = some y → p y = false) : xs.find? p = none := by
  rw [List.find?_eq_none]
  intro x hx
  obtain ⟨j, hj, e⟩ := List.getElem_of_mem hx
  rw [no j x (by rw [← e]; exact List.getElem?_eq_getElem hj)]
  simp
theorem firstBrk_at {ls : List Line} {rs : List (List Str)} {i : Nat} {l : Line} (h : ls[i]? = some l) (hp : keepsLine rs l = false) (no : ∀ j y, j < i → ls[j]? = some y → keepsLine rs y = true) : firstBrk ls rs = brkD rs l := by
  unfold firstBrk
  rw [find_at h (by rw [hp]; rfl) fun j y hj e => by rw [no j y hj e]; rfl]
theorem firstBrk_no {ls : List Line} {rs : List (List Str)} (no : ∀ (j : Nat) y, ls[j]? = some y → keepsLine rs y = true) : firstBrk ls rs = .none := by
  unfold firstBrk
  rw [find_no fun j y e => by rw [no j y e]; rfl]
theorem step_no {α : Type} {xs : List α} {p : α → Prop} {i : Nat} {x : α} (h : xs[i]? = some x) (hp : p x) (no : ∀ j y, j < i → xs[j]? = some y → p y) : ∀ j y, j < i + 1 → xs[j]? = some y → p y := fun j y hj e => by
  by_cases hji : j < i
  · exact no j y hji e
  · have : j = i := by omega
    subst this
    rw [h] at e
    cases e
    exact hp
theorem all_no {α : Type} {xs : List α} {p : α → Prop} (no : ∀ j y, j < xs.length → xs[j]? = some y → p y) : ∀ (j : Nat) y, xs[j]? = some y → p y := fun j y e => no j y (List.getElem?_eq_some_iff.mp e).1 e
theorem first_range {α : Type} {p : α → Bool} {xs : List α} {d : α} (h : xs.any p = true) : ((List.range xs.length).filter fun i => p (xs.getD i d))[0]? = some (xs.findIdx p) := by
  have hl : xs.findIdx p < xs.length := List.findIdx_lt_length_of_exists (by simpa [List.any_eq_true] using h)
  rw [← List.head?_eq_getElem?, List.head?_filter]
  refine find_at (i := xs.findIdx p) (by rw [List.getElem?_range hl]) ?_ fun j y hj e => ?_
  · rw [List.getD_eq_getElem?_getD, List.getElem?_eq_getElem hl]
    exact List.findIdx_getElem (p := p) (w := hl)
  · rw [List.getElem?_range (Nat.lt_trans hj hl)] at e
    cases e
    have := List.not_of_lt_findIdx hj
    rw [List.getD_eq_getElem?_getD, List.getElem?_eq_getElem (Nat.lt_trans hj hl)]
    simpa using this
section
variable {P : Program} {w : World} {K : PySem.W.Frag} {mg : Str → Option Value} {base : Heap}
abbrev N_first_break : List Str := ["book", "panel", "line", "found"]
theorem sc_first_break : FnScope N_first_break ["book", "panel"] (defScope s_first_break) := ⟨rfl, rfl, rfl, by decide +kernel, rfl, by decide +kernel, by decide +kernel⟩
def spFirst (K : PySem.W.Frag) : Sp := Prp (ι := List Str × List Line × List (List Str)) (fun i => Sc i.1 i.2.1 i.2.2) (fun i => [BkT K i.1 i.2.1, PnT K i.1 i.2.2]) (fun i => Fd (firstBrk i.2.1 i.2.2))
theorem ok_first_break (T : Tx K mg) : Dn P w K mg base 3 "first_break" ["book", "panel"] (spFirst K) := by
  have D_break_of := ok_break_of (P := P) (w := w) (base := base) T
  have D_panel_rows := ok_panel_rows (P := P) (w := w) (base := base) T
  refine dn_mk T.fd_first_break T.g_first_break sc_first_break (prm_len fun _ => rfl) (fun _ _ _ _ _ _ us hl => match us, hl with | [_, _], _ => rfl) fun cdv A outer s H vs Q E hr hu64 hu65 h => ?_
  have nd := sc_first_break.nd
  refine ⟨_, (pss_cons (ps_for PassesOwn.never rfl (k_over K (k_fld K (pv 0) rfl)) (pg_name (i := 2) nd rfl (Or.inl rfl))
     (pss_cons (ps_set (i := 3) nd rfl (Or.inl rfl) (pe_callD D_break_of (hr.mono (by decide)) rfl (pa_cons (pv 2) (pa_cons (pe_methD (pv 1) D_panel_rows (hr.mono (by decide))) pa_nil))))
     (pss_one (ps_if (pt_cmpR op_notN (pv 3) pe_non (nomark _)) (pss_one (ps_ret (pv 3))) pss_nil))))
    (pss_one (ps_ret pe_non))), fn_prm (E := E) h fun i hi => ?_⟩
  obtain ⟨ns, ls, rs⟩ := i
  have Z : Sc ns ls rs := hi
  show Sj none 0 [some (.im (BkT K ns ls)), some (.im (PnT K ns rs)), none, none] _ _
  refine sj_seq (sj_forE (enc := eL) (xs := ls) (pu_bkT T (pu_var rfl)) (fun i m e => m = 0 ∧ (∀ j l, j < i → ls[j]? = some l → keepsLine rs l = true) ∧ ∃ a b, e = [some (.im (BkT K ns ls)), some (.im (PnT K ns rs)), a, b])
    ⟨rfl, fun j r hj => absurd hj (Nat.not_lt_zero _), _, _, rfl⟩ (fun i l m e hl iv => ?_) (fun m e iv => ?_))
  · obtain ⟨rfl, no, a, b, rfl⟩ := iv
    have hm := List.mem_of_getElem? hl
    refine ⟨_, _, tg_name, ?_⟩
    show Sj none 0 [some (.im (BkT K ns ls)), some (.im (PnT K ns rs)), some (.im (D (eL l))), b] _ _
    refine sj_seq (sj_asg (pu_call1 (ι := List Str × Line × List (List Str)) (ns, l, rs) (Z.at_ hm) (pa_c (pu_var rfl) (pa_c (pu_meth (ι := List Str × List (List Str)) (ns, rs) (Nat.le_trans Z.rl (by decide)) (pu_var rfl) (pn_ins (by decide) (by decide) (by decide)) (by exact ⟨sub_Pn, trivial⟩)) pa_n)) (by exact ⟨sub_D, sub_F, trivial⟩)) ?_)
    show Sj none 0 [some (.im (BkT K ns ls)), some (.im (PnT K ns rs)), some (.im (D (eL l))), some (.im (Fd (resBrk rs l)))] _ _
    refine sj_if (qt_test (pu_op (pu_var rfl) pu_non (rv_le1 rv_notN le_FD))) (fun hb => sj_ret (pu_var rfl) (le_FF ?_)) (fun hb => sj_next ⟨rfl, step_no hl ?_ no, _, _, rfl⟩)
    · have hk : keepsLine rs l = false := by
        cases q : keepsLine rs l with
        | false => rfl
        | true =>
          unfold resBrk at hb
          rw [q] at hb
          cases hb
      show resBrk rs l = firstBrk ls rs
      rw [firstBrk_at hl hk no]
      unfold resBrk
      rw [hk]
      rfl
    · cases q : keepsLine rs l with
      | true => rfl
      | false =>
        unfold resBrk at hb
        rw [q] at hb
        cases hb
  · obtain ⟨rfl, no, a, b, rfl⟩ := iv
    exact sj_ret pu_non (le_nonF.trans (le_FF (firstBrk_no (all_no no)).symm))
abbrev N_why_broken : List Str := ["book", "panel"]
theorem sc_why_broken : FnScope N_why_broken ["book", "panel"] (defScope s_why_broken) := ⟨rfl, rfl, rfl, by decide +kernel, rfl, by decide +kernel, by decide +kernel⟩
theorem ok_why_broken (T : Tx K mg) : Dn P w K mg base 4 "why_broken" ["book", "panel"] (spFirst K) := by
  have D_check_two := ok_check_two (P := P) (w := w) (base := base) T
  have D_first_break := ok_first_break (P := P) (w := w) (base := base) T
  refine dn_mk T.fd_why_broken T.g_why_broken sc_why_broken (prm_len fun _ => rfl) (fun _ _ _ _ _ _ us hl => match us, hl with | [_, _], _ => rfl) fun cdv A outer s H vs Q E hr hu64 hu65 h => ?_
  have nd := sc_why_broken.nd
  refine ⟨_, (pss_cons (ps_expr (pe_callD D_check_two (hr.mono (by decide)) rfl (pa_cons (pv 0) (pa_cons (pv 1) pa_nil))))
    (pss_one (ps_ret (pe_callD D_first_break (hr.mono (by decide)) rfl (pa_cons (pv 0) (pa_cons (pv 1) pa_nil)))))), fn_prm (E := E) h fun i hi => ?_⟩
  obtain ⟨ns, ls, rs⟩ := i
  have Z : Sc ns ls rs := hi
  show Sj none 0 [some (.im (BkT K ns ls)), some (.im (PnT K ns rs))] _ _
  refine sj_seq (sj_drop (pu_call1 (ι := List Str × List Line × List (List Str)) (ns, ls, rs) (by exact Z.N.smS (fun _ h => h) (Nat.le_trans Z.N.le (by decide))) (pa_c (pu_var rfl) (pa_c (pu_var rfl) pa_n)) (by exact ⟨sub_Bk, sub_Pn, trivial⟩)) ?_)
  exact sj_ret (pu_call1 (ι := List Str × List Line × List (List Str)) (ns, ls, rs) Z (pa_c (pu_var rfl) (pa_c (pu_var rfl) pa_n)) (by exact ⟨sub_Bk, sub_Pn, trivial⟩)) Ty.le.rfl'
abbrev N_keeps : List Str := ["book", "panel"]
theorem sc_keeps : FnScope N_keeps ["book", "panel"] (defScope s_keeps) := ⟨rfl, rfl, rfl, by decide +kernel, rfl, by decide +kernel, by decide +kernel⟩
def spKeeps (K : PySem.W.Frag) : Sp := Prp (ι := List Str × List Line × List (List Str)) (fun i => Sc i.1 i.2.1 i.2.2) (fun i => [BkT K i.1 i.2.1, PnT K i.1 i.2.2]) (fun i => D (.bool (isNone (firstBrk i.2.1 i.2.2))))
theorem ok_keeps (T : Tx K mg) : Dn P w K mg base 4 "keeps" ["book", "panel"] (spKeeps K) := by
  have D_check_two := ok_check_two (P := P) (w := w) (base := base) T
  have D_first_break := ok_first_break (P := P) (w := w) (base := base) T
  refine dn_mk T.fd_keeps T.g_keeps sc_keeps (prm_len fun _ => rfl) (fun _ _ _ _ _ _ us hl => match us, hl with | [_, _], _ => rfl) fun cdv A outer s H vs Q E hr hu64 hu65 h => ?_
  have nd := sc_keeps.nd
  refine ⟨_, (pss_cons (ps_expr (pe_callD D_check_two (hr.mono (by decide)) rfl (pa_cons (pv 0) (pa_cons (pv 1) pa_nil))))
    (pss_one (ps_ret (pe_cmpR op_isN (pe_callD D_first_break (hr.mono (by decide)) rfl (pa_cons (pv 0) (pa_cons (pv 1) pa_nil))) pe_non (nomark _))))), fn_prm (E := E) h fun i hi => ?_⟩
  obtain ⟨ns, ls, rs⟩ := i
  have Z : Sc ns ls rs := hi
  show Sj none 0 [some (.im (BkT K ns ls)), some (.im (PnT K ns rs))] _ _
  refine sj_seq (sj_drop (pu_call1 (ι := List Str × List Line × List (List Str)) (ns, ls, rs) (by exact Z.N.smS (fun _ h => h) (Nat.le_trans Z.N.le (by decide))) (pa_c (pu_var rfl) (pa_c (pu_var rfl) pa_n)) (by exact ⟨sub_Bk, sub_Pn, trivial⟩)) ?_)
  exact sj_ret (pu_op (pu_call1 (ι := List Str × List Line × List (List Str)) (ns, ls, rs) Z (pa_c (pu_var rfl) (pa_c (pu_var rfl) pa_n)) (by exact ⟨sub_Bk, sub_Pn, trivial⟩)) pu_non (rv_le1 rv_isN le_FD)) Ty.le.rfl'
abbrev N_l_row_keeps : List Str := ["_law_row", "_law_lot", "_law_name"]
theorem sc_l_row_keeps : FnScope N_l_row_keeps ["_law_row", "_law_lot", "_law_name"] (defScope s_l_row_keeps) := ⟨rfl, rfl, rfl, by decide +kernel, rfl, by decide +kernel, by decide +kernel⟩
def spRowKeeps : Sp := Prp (ι := List Str × List Str × Str) (fun i => MtOk i.1 (i.2.1 ++ [i.2.2]) i.2.2 ∧ i.2.1.length ≤ 1000) (fun i => [D (eS i.1), D (eS i.2.1), D (.str i.2.2)]) (fun i => D (.bool (!meets i.1 (i.2.1 ++ [i.2.2]) i.2.2)))
theorem ok_l_row_keeps (T : Tx K mg) : Dn P w K mg base 2 "_law_row_keeps" ["_law_row", "_law_lot", "_law_name"] spRowKeeps := by
  have D_l_meets := ok_l_meets (P := P) (w := w) (base := base) T
  refine dn_mk T.fd_l_row_keeps T.g_l_row_keeps sc_l_row_keeps (prm_len fun _ => rfl) (fun _ _ _ _ _ _ us hl => match us, hl with | [_, _, _], _ => rfl) fun cdv A outer s H vs Q E hr hu64 hu65 h => ?_
  have nd := sc_l_row_keeps.nd
  refine ⟨_, (pss_one (ps_ret (pe_not (pe_callD D_l_meets (hr.mono (by decide)) rfl (pa_cons (pv 0) (pa_cons (pe_op op_plus (pv 1) (pe_lst (pa_cons (pv 2) pa_nil))) (pa_cons (pv 2) pa_nil))))))), fn_prm (E := E) h fun i hi => ?_⟩
  obtain ⟨row, f, x⟩ := i
  obtain ⟨h1, h2⟩ := hi
  show Sj none 0 [some (.im (D (eS row))), some (.im (D (.list (f.map .str)))), some (.im (D (.str x)))] _ _
  have e : (PyData.list (f.map .str ++ [x].map .str)) = eS (f ++ [x]) := by
    unfold eS
    rw [List.map_append]
  refine sj_ret (pu_notV (pu_call1 (ι := List Str × List Str × Str) (row, f ++ [x], x) h1 (pa_c (pu_var rfl) (pa_c ((pu_op (pu_var rfl) ((pu_lst (pa_c (pu_var rfl) pa_n) (by simp)).le (ln_D (ds := [x].map .str))) (rv_addL ?_)).le (le_D e)) (pa_c (pu_var rfl) pa_n))) (by exact ⟨sub_D, sub_D, sub_D, trivial⟩))) Ty.le.rfl'
  rw [List.length_map]
  simp at h2 ⊢
  omega
abbrev N_l_keeps_line : List Str := ["_law_rows", "_law_line_here", "_law_row"]
theorem sc_l_keeps_line : FnScope N_l_keeps_line ["_law_rows", "_law_line_here"] (defScope s_l_keeps_line) := ⟨rfl, rfl, rfl, by decide +kernel, rfl, by decide +kernel, by decide +kernel⟩
def spKeepsLine : Sp := Prp (ι := List Str × Line × List (List Str)) (fun i => LnRows i.1 i.2.1 i.2.2) (fun i => [D (eR i.2.2), D (eL i.2.1)]) (fun i => D (.bool (keepsLine i.2.2 i.2.1)))
theorem ok_l_keeps_line (T : Tx K mg) : Dn P w K mg base 3 "_law_keeps_line" ["_law_rows", "_law_line_here"] spKeepsLine := by
  have D_l_meets := ok_l_meets (P := P) (w := w) (base := base) T
  have D_l_row_keeps := ok_l_row_keeps (P := P) (w := w) (base := base) T
  refine dn_mk T.fd_l_keeps_line T.g_l_keeps_line sc_l_keeps_line (prm_len fun _ => rfl) (fun _ _ _ _ _ _ us hl => match us, hl with | [_, _], _ => rfl) fun cdv A outer s H vs Q E hr hu64 hu65 h => ?_
  have nd := sc_l_keeps_line.nd
  refine ⟨_, (pss_cons (ps_if (pt_cmpR (k_eq K hu64) (pe_ix (k_ix K) (pv 1) pe_int (fun _ _ => rfl)) pe_str (nomark _)) (pss_one (ps_ret (pe_cmpR (k_ne K hu64) (pe_lc (own := [("_law_row", 2)]) rfl nd (k_over K (pv 0)) (blkOk_by (own := [("_law_row", 2)]) (N := N_l_keeps_line) (sc := defScope s_l_keeps_line) (by decide +kernel)) (fun _ _ _ _ _ => (pg_name (i := 2) nd rfl (Or.inl rfl))) (fun _ _ _ _ _ => (pts_one (pt_val (pe_callD D_l_meets (hr.mono (by decide)) rfl (pa_cons (pv 2) (pa_cons (pe_ix (k_ix K) (pv 1) pe_int (fun _ _ => rfl)) (pa_cons (pe_ix (k_ix K) (pv 1) pe_int (fun _ _ => rfl)) pa_nil))))))) (fun _ _ _ _ _ => (pv 2))) (pe_lst pa_nil) (nomark _)))) pss_nil)
    (pss_one (ps_ret (pe_cmpR (k_eq K hu64) (pe_lc (own := [("_law_row", 2)]) rfl nd (k_over K (pv 0)) (blkOk_by (own := [("_law_row", 2)]) (N := N_l_keeps_line) (sc := defScope s_l_keeps_line) (by decide +kernel)) (fun _ _ _ _ _ => (pg_name (i := 2) nd rfl (Or.inl rfl))) (fun _ _ _ _ _ => (pts_one (pt_not (pt_val (pe_callD D_l_row_keeps (hr.mono (by decide)) rfl (pa_cons (pv 2) (pa_cons (pe_ix (k_ix K) (pv 1) pe_int (fun _ _ => rfl)) (pa_cons (pe_ix (k_ix K) (pv 1) pe_int (fun _ _ => rfl)) pa_nil)))))))) (fun _ _ _ _ _ => (pv 2))) (pe_lst pa_nil) (nomark _))))), fn_prm (E := E) h fun i hi => ?_⟩
  obtain ⟨ns, l, rs⟩ := i
  have Z : LnRows ns l rs := hi
  show Sj none 0 [some (.im (D (.list (rs.map eS)))), some (.im (D (eL l))), none] _ _
  have srs : ∀ f, SeqAt.shaped (.list ((rs.filter f).map eS)) = true := fun f => shR Z.N fun r hr => Z.R r (List.mem_filter.mp hr).1
  refine sj_seq (sj_if (qt_test (pu_op (pu_l0 (pu_var rfl)) pu_str (rv_eq (shaped_str Z.L.okw) (shaped_str ok_call)))) (fun hb => ?_) (fun hb => sj_next ?_))
  · rw [eqv_str] at hb
    have hc : l.1 = "call" := of_decide_eq_true hb.symm
    refine sj_ret (pu_notNil ((pu_lcE (pu_var rfl) [2] (by simp) (Nat.le_trans Z.le (by decide)) (fun r => meets r l.2.1 l.2.2) (fun r => D (eS r))
      (fun r hr => ⟨_, tg_name, qt_B (pu_call1 (ι := List Str × List Str × Str) (r, l.2.1, l.2.2) (Z.mt1 hr) (pa_c (pu_var rfl) (pa_c (pu_l1 (pu_var rfl)) (pa_c (pu_l2 (pu_var rfl)) pa_n))) (by exact ⟨sub_D, sub_D, sub_D, trivial⟩)), fun _ => pu_var rfl⟩)).le ln_Dm) (srs _)) (le_bool ?_)
    rw [isEmpty_map, any_filter, Bool.not_not]
    show _ = keepsLine rs l
    unfold keepsLine
    rw [if_pos hc]
  · rw [eqv_str] at hb
    have hc : ¬ l.1 = "call" := of_decide_eq_false hb.symm
    refine sj_ret (pu_isNil ((pu_lcE (pu_var rfl) [2] (by simp) (Nat.le_trans Z.le (by decide)) (fun r => !!meets r (l.2.1 ++ [l.2.2]) l.2.2) (fun r => D (eS r))
      (fun r hr => ⟨_, tg_name, qt_not (qt_B (pu_call1 (ι := List Str × List Str × Str) (r, l.2.1, l.2.2) (by exact ⟨Z.mt2 hr, Nat.le_trans ((Z.L.fld Z.N).le Z.N) (by decide)⟩) (pa_c (pu_var rfl) (pa_c (pu_l1 (pu_var rfl)) (pa_c (pu_l2 (pu_var rfl)) pa_n))) (by exact ⟨sub_D, sub_D, sub_D, trivial⟩))), fun _ => pu_var rfl⟩)).le ln_Dm) (srs _)) (le_bool ?_)
    rw [isEmpty_map, any_filter]
    show _ = keepsLine rs l
    unfold keepsLine
    rw [if_neg hc]
    simp only [Bool.not_not]
abbrev N_l_keeps : List Str := ["_law_rows", "_law_lines", "_law_line_here"]
theorem sc_l_keeps : FnScope N_l_keeps ["_law_rows", "_law_lines"] (defScope s_l_keeps) := ⟨rfl, rfl, rfl, by decide +kernel, rfl, by decide +kernel, by decide +kernel⟩
def spLKeeps : Sp := Prp (ι := List Str × List Line × List (List Str)) (fun i => Sc i.1 i.2.1 i.2.2) (fun i => [D (eR i.2.2), D (eLs i.2.1)]) (fun i => D (.bool (i.2.1.all fun l => keepsLine i.2.2 l)))
theorem ok_l_keeps (T : Tx K mg) : Dn P w K mg base 4 "_law_keeps" ["_law_rows", "_law_lines"] spLKeeps := by
  have D_l_keeps_line := ok_l_keeps_line (P := P) (w := w) (base := base) T
  refine dn_mk T.fd_l_keeps T.g_l_keeps sc_l_keeps (prm_len fun _ => rfl) (fun _ _ _ _ _ _ us hl => match us, hl with | [_, _], _ => rfl) fun cdv A outer s H vs Q E hr hu64 hu65 h => ?_
  have nd := sc_l_keeps.nd
  refine ⟨_, (pss_one (ps_ret (pe_cmpR (k_eq K hu64) (pe_lc (own := [("_law_line_here", 2)]) rfl nd (k_over K (pv 1)) (blkOk_by (own := [("_law_line_here", 2)]) (N := N_l_keeps) (sc := defScope s_l_keeps) (by decide +kernel)) (fun _ _ _ _ _ => (pg_name (i := 2) nd rfl (Or.inl rfl))) (fun _ _ _ _ _ => (pts_one (pt_not (pt_val (pe_callD D_l_keeps_line (hr.mono (by decide)) rfl (pa_cons (pv 0) (pa_cons (pv 2) pa_nil))))))) (fun _ _ _ _ _ => (pv 2))) (pe_lst pa_nil) (nomark _)))), fn_prm (E := E) h fun i hi => ?_⟩
  obtain ⟨ns, ls, rs⟩ := i
  have Z : Sc ns ls rs := hi
  show Sj none 0 [some (.im (D (eR rs))), some (.im (D (.list (ls.map eL)))), none] _ _
  refine sj_ret (pu_isNil ((pu_lcE (pu_var rfl) [2] (by simp) (Nat.le_trans Z.ll (by decide)) (fun l => !keepsLine rs l) (fun l => D (eL l))
    (fun l hl => ⟨_, tg_name, qt_not (qt_B (pu_call1 (ι := List Str × Line × List (List Str)) (ns, l, rs) (Z.at_ hl) (pa_c (pu_var rfl) (pa_c (pu_var rfl) pa_n)) (by exact ⟨sub_D, sub_D, trivial⟩))), fun _ => pu_var rfl⟩)).le ln_Dm) (shL fun l hl => (Z.L l (List.mem_filter.mp hl).1).sm Z.N)) (le_bool ?_)
  rw [isEmpty_map, filter_isEmpty]
  simp only [Bool.not_not]
abbrev N_l_first_break : List Str := ["_law_lines", "_law_base", "_law_line_here", "_law_at"]
theorem sc_l_first_break : FnScope N_l_first_break ["_law_lines", "_law_base"] (defScope s_l_first_break) := ⟨rfl, rfl, rfl, by decide +kernel, rfl, by decide +kernel, by decide +kernel⟩
def spLFirst : Sp := Prp (ι := List Str × List Line × List (List Str)) (fun i => Sc i.1 i.2.1 i.2.2) (fun i => [D (eLs i.2.1), D (eR i.2.2)]) (fun i => D (firstBrk (sortL i.2.1) i.2.2))
theorem ok_l_first_break (T : Tx K mg) : Dn P w K mg base 4 "_law_first_break" ["_law_lines", "_law_base"] spLFirst := by
  have D_l_keeps_line := ok_l_keeps_line (P := P) (w := w) (base := base) T
  have D_l_row_keeps := ok_l_row_keeps (P := P) (w := w) (base := base) T
  refine dn_mk T.fd_l_first_break T.g_l_first_break sc_l_first_break (prm_len fun _ => rfl) (fun _ _ _ _ _ _ us hl => match us, hl with | [_, _], _ => rfl) fun cdv A outer s H vs Q E hr hu64 hu65 h => ?_
  have nd := sc_l_first_break.nd
  refine ⟨_, (pss_cons (ps_for PassesOwn.never rfl (k_over K (pe_callB (k_sorted K hu64) (by rfl) T.sorted_ (by decide +kernel) (pa_cons (pv 0) pa_nil))) (pg_name (i := 2) nd rfl (Or.inr rfl))
     (pss_one (ps_if (pt_not (pt_val (pe_callD D_l_keeps_line (hr.mono (by decide)) rfl (pa_cons (pv 1) (pa_cons (pv 2) pa_nil))))) (pss_cons (ps_if (pt_cmpR (k_eq K hu64) (pe_ix (k_ix K) (pv 2) pe_int (fun _ _ => rfl)) pe_str (nomark _)) (pss_one (ps_ret (pe_tup (pa_cons (pv 2) (pa_cons pe_non pa_nil))))) pss_nil)
      (pss_one (ps_ret (pe_tup (pa_cons (pv 2) (pa_cons (pe_ix (k_ix K) (pe_lc (own := [("_law_at", 3)]) rfl nd (pi_range1 rfl T.range_ (pa_cons (pe_callB (k_len K) (by rfl) T.len_ (by decide +kernel) (pa_cons (pv 1) pa_nil)) pa_nil)) (blkOk_by (own := [("_law_at", 3)]) (N := N_l_first_break) (sc := defScope s_l_first_break) (by decide +kernel)) (fun _ _ _ _ _ => (pg_name (i := 3) nd rfl (Or.inl rfl))) (fun _ _ _ _ _ => (pts_one (pt_not (pt_val (pe_callD D_l_row_keeps (hr.mono (by decide)) rfl (pa_cons (pe_ix (k_ix K) (pv 1) (pv 3) (fun _ _ => rfl)) (pa_cons (pe_ix (k_ix K) (pv 2) pe_int (fun _ _ => rfl)) (pa_cons (pe_ix (k_ix K) (pv 2) pe_int (fun _ _ => rfl)) pa_nil)))))))) (fun _ _ _ _ _ => (pv 3))) pe_int (fun _ _ => rfl)) pa_nil)))))) pss_nil)))
    (pss_one (ps_ret pe_non))), fn_prm (E := E) h fun i hi => ?_⟩
  obtain ⟨ns, ls, rs⟩ := i
  have Z : Sc ns ls rs := hi
  have Y := Z.perm (sortL_perm ls)
  show Sj none 0 [some (.im (D (.list (ls.map eL)))), some (.im (D (.list (rs.map eS)))), none, none] _ _
  refine sj_seq (sj_forE (enc := eL) (xs := sortL ls) (pu_cb (pa_c (pu_var rfl) pa_n) (sort_RCL (fun l hl => (Z.L l hl).sm Z.N) (Nat.le_trans Z.ll (by decide)))) (fun i m e => m = 0 ∧ (∀ j l, j < i → (sortL ls)[j]? = some l → keepsLine rs l = true) ∧ ∃ a b, e = [some (.im (D (.list (ls.map eL)))), some (.im (D (.list (rs.map eS)))), a, b])
    ⟨rfl, fun j r hj => absurd hj (Nat.not_lt_zero _), _, _, rfl⟩ (fun i l m e hl iv => ?_) (fun m e iv => ?_))
  · obtain ⟨rfl, no, a, b, rfl⟩ := iv
    have hm := List.mem_of_getElem? hl
    have W := Y.at_ hm
    refine ⟨_, _, tg_name, ?_⟩
    show Sj none 0 [some (.im (D (.list (ls.map eL)))), some (.im (D (.list (rs.map eS)))), some (.im (D (eL l))), b] _ _
    refine sj_if (qt_not (qt_B (pu_call1 (ι := List Str × Line × List (List Str)) (ns, l, rs) W (pa_c (pu_var rfl) (pa_c (pu_var rfl) pa_n)) (by exact ⟨sub_D, sub_D, trivial⟩)))) (fun hb => ?_) (fun hb => sj_next ⟨rfl, step_no hl (by simpa using hb) no, _, _, rfl⟩)
    have hk : keepsLine rs l = false := by simpa using hb
    refine sj_seq (sj_if (qt_test (pu_op (pu_l0 (pu_var rfl)) pu_str (rv_eq (shaped_str W.L.okw) (shaped_str ok_call)))) (fun hc => ?_) (fun hc => sj_next ?_))
    · rw [eqv_str] at hc
      have hc2 : l.1 = "call" := of_decide_eq_true hc.symm
      refine sj_ret (pu_tup (pa_c (pu_var rfl) (pa_c pu_non pa_n)) (by simp)) ((tn2D Ty.le.rfl' Ty.le.rfl').trans (le_D ?_))
      show _ = firstBrk (sortL ls) rs
      rw [firstBrk_at hl hk no]
      unfold brkD
      rw [if_pos hc2]
    · rw [eqv_str] at hc
      have hc2 : ¬ l.1 = "call" := of_decide_eq_false hc.symm
      have hany : (rs.any fun r => meets r (l.2.1 ++ [l.2.2]) l.2.2) = true := by
        unfold keepsLine at hk
        rw [if_neg hc2] at hk
        simpa using hk
      refine sj_ret (pu_tup (pa_c (pu_var rfl) (pa_c (pu_op ((pu_lc (pi_R1 (k := rs.length) (pa_c ((pu_cb (pa_c (pu_var rfl) pa_n) rc_lenL).le (le_D (by rw [List.length_map]))) pa_n) (Nat.le_trans Z.rl (by decide))) [3] (by simp) (Nat.le_trans Z.rl (by decide))
        (fun i => !!meets (rs.getD i []) (l.2.1 ++ [l.2.2]) l.2.2) (fun i => D (.int (i : Nat))) (fun i hi => ⟨_, tg_name, qt_not (qt_B (pu_call1 (ι := List Str × List Str × Str) (rs.getD i [], l.2.1, l.2.2) (by
          refine ⟨W.mt2 ?_, Nat.le_trans ((W.L.fld W.N).le W.N) (by decide)⟩
          show rs.getD i [] ∈ rs
          rw [List.getD_eq_getElem?_getD, List.getElem?_eq_getElem hi]
          exact List.getElem_mem hi) (pa_c (pu_op (pu_var rfl) (pu_var rfl) (rv_ixL (d := eS (rs.getD i [])) (by
            rw [List.getElem?_map, List.getD_eq_getElem?_getD, List.getElem?_eq_getElem hi]
            rfl))) (pa_c (pu_l1 (pu_var rfl)) (pa_c (pu_l2 (pu_var rfl)) pa_n))) (by exact ⟨sub_D, sub_D, sub_D, trivial⟩))), fun _ => pu_var rfl⟩)).le (ln_Dm (g := fun i : Nat => PyData.int (i : Nat)))) (pu_int (i := ((0 : Nat) : Int))) (rv_ixL (d := .int (rs.findIdx fun r => meets r (l.2.1 ++ [l.2.2]) l.2.2 : Nat)) ?_)) pa_n)) (by simp)) ((tn2D Ty.le.rfl' Ty.le.rfl').trans (le_D ?_))
      · rw [List.getElem?_map]
        have := first_range (d := []) hany
        simp only [Bool.not_not]
        rw [this]
        rfl
      · show _ = firstBrk (sortL ls) rs
        rw [firstBrk_at hl hk no]
        unfold brkD
        rw [if_neg hc2]
  · obtain ⟨rfl, no, a, b, rfl⟩ := iv
    exact sj_ret pu_non (le_D (firstBrk_no (all_no no)).symm)
abbrev N_calls_of : List Str := ["book", "line"]
theorem sc_calls_of : FnScope N_calls_of ["book"] (defScope s_calls_of) := ⟨rfl, rfl, rfl, by decide +kernel, rfl, by decide +kernel, by decide +kernel⟩
def spCallsOf (K : PySem.W.Frag) : Sp := Prp (ι := List Str × List Line) (fun i => Ns i.1 ∧ (∀ l ∈ i.2, LnOk i.1 l) ∧ i.2.length ≤ 100) (fun i => [BkT K i.1 i.2]) (fun i => D (eLs (calls i.2)))
theorem ok_calls_of (T : Tx K mg) : Dn P w K mg base 1 "calls_of" ["book"] (spCallsOf K) := by
  refine dn_mk T.fd_calls_of T.g_calls_of sc_calls_of (prm_len fun _ => rfl) (fun _ _ _ _ _ _ us hl => match us, hl with | [_], _ => rfl) fun cdv A outer s H vs Q E hr hu64 hu65 h => ?_
  have nd := sc_calls_of.nd
  refine ⟨_, (pss_one (ps_ret (pe_lc (own := [("line", 1)]) rfl nd (k_over K (k_fld K (pv 0) rfl)) (blkOk_by (own := [("line", 1)]) (N := N_calls_of) (sc := defScope s_calls_of) (by decide +kernel)) (fun _ _ _ _ _ => (pg_name (i := 1) nd rfl (Or.inl rfl))) (fun _ _ _ _ _ => (pts_one (pt_cmpR (k_eq K hu64) (pe_ix (k_ix K) (pv 1) pe_int (fun _ _ => rfl)) pe_str (nomark _)))) (fun _ _ _ _ _ => (pv 1))))), fn_prm (E := E) h fun i hi => ?_⟩
  obtain ⟨ns, ls⟩ := i
  obtain ⟨N, L, le⟩ := hi
  show Sj none 0 [some (.im (BkT K ns ls)), none] _ _
  refine sj_ret (pu_lcE (pu_bkT T (pu_var rfl)) [1] (by simp) (Nat.le_trans le (by decide)) (fun l => decide (l.1 = "call")) (fun l => D (eL l))
    (fun l hl => ⟨_, tg_name, PuT.imp (qt_test (pu_op (pu_l0 (pu_var rfl)) pu_str (rv_eq (shaped_str (L l hl).okw) (shaped_str ok_call)))) fun b hb => by rw [hb, eqv_str], fun _ => pu_var rfl⟩)) ln_Dm
abbrev N_l_calls : List Str := ["_law_lines", "_law_line_here"]
theorem sc_l_calls : FnScope N_l_calls ["_law_lines"] (defScope s_l_calls) := ⟨rfl, rfl, rfl, by decide +kernel, rfl, by decide +kernel, by decide +kernel⟩
def spLCalls : Sp := Prp (ι := List Str × List Line) (fun i => Ns i.1 ∧ (∀ l ∈ i.2, LnOk i.1 l) ∧ i.2.length ≤ 100) (fun i => [D (eLs i.2)]) (fun i => D (eLs (calls (sortL i.2))))
theorem ok_l_calls (T : Tx K mg) : Dn P w K mg base 1 "_law_calls" ["_law_lines"] spLCalls := by
  refine dn_mk T.fd_l_calls T.g_l_calls sc_l_calls (prm_len fun _ => rfl) (fun _ _ _ _ _ _ us hl => match us, hl with | [_], _ => rfl) fun cdv A outer s H vs Q E hr hu64 hu65 h => ?_
  have nd := sc_l_calls.nd
  refine ⟨_, (pss_one (ps_ret (pe_lc (own := [("_law_line_here", 1)]) rfl nd (k_over K (pe_callB (k_sorted K hu64) (by rfl) T.sorted_ (by decide +kernel) (pa_cons (pv 0) pa_nil))) (blkOk_by (own := [("_law_line_here", 1)]) (N := N_l_calls) (sc := defScope s_l_calls) (by decide +kernel)) (fun _ _ _ _ _ => (pg_name (i := 1) nd rfl (Or.inl rfl))) (fun _ _ _ _ _ => (pts_one (pt_cmpR (k_eq K hu64) (pe_ix (k_ix K) (pv 1) pe_int (fun _ _ => rfl)) pe_str (nomark _)))) (fun _ _ _ _ _ => (pv 1))))), fn_prm (E := E) h fun i hi => ?_⟩
  obtain ⟨ns, ls⟩ := i
  obtain ⟨N, L, le⟩ := hi
  show Sj none 0 [some (.im (D (.list (ls.map eL)))), none] _ _
  have le2 : (sortL ls).length ≤ 100 := by
    rw [(sortL_perm ls).length_eq]
    exact le
  refine sj_ret (pu_lcE (pu_cb (pa_c (pu_var rfl) pa_n) (sort_RCL (fun l hl => (L l hl).sm N) (Nat.le_trans le (by decide)))) [1] (by simp) (Nat.le_trans le2 (by decide)) (fun l => decide (l.1 = "call")) (fun l => D (eL l))
    (fun l hl => ⟨_, tg_name, PuT.imp (qt_test (pu_op (pu_l0 (pu_var rfl)) pu_str (rv_eq (shaped_str (L l ((sortL_perm ls).mem_iff.mp hl)).okw) (shaped_str ok_call)))) fun b hb => by rw [hb, eqv_str], fun _ => pu_var rfl⟩)) ln_Dm
abbrev N_panel_eq : List Str := ["self", "other"]
theorem sc_panel_eq : FnScope N_panel_eq ["self", "other"] (defScope s_panel_eq) := ⟨rfl, rfl, rfl, by decide +kernel, rfl, by decide +kernel, by decide +kernel⟩
def spPanelEq (K : PySem.W.Frag) : Sp := Prp (ι := (List Str × List (List Str)) × List Str × List (List Str)) (fun i => SeqAt.shaped (.tuple [eS i.1.1, eR i.1.2]) = true ∧ SeqAt.shaped (.tuple [eS i.2.1, eR i.2.2]) = true) (fun i => [PnT K i.1.1 i.1.2, PnT K i.2.1 i.2.2]) (fun i => D (.bool (PyData.eqv (.tuple [eS i.1.1, eR i.1.2]) (.tuple [eS i.2.1, eR i.2.2]))))
theorem ok_panel_eq (T : Tx K mg) : Dm P w K mg base 1 (He.ga K "Panel") "__eq__" ["self", "other"] (spPanelEq K) := by
  refine dm_mk T.fd_panel_eq T.k_Panel T.t_Panel_eq sc_panel_eq (prm_len fun _ => rfl) (fun _ _ _ _ _ _ us hl => match us, hl with | [_, _], _ => rfl) fun cdv A outer s H vs Q E hr hu64 hu65 h => ?_
  have nd := sc_panel_eq.nd
  refine ⟨_, (pss_one (ps_ret (pe_and (pe_callB (C8.call_isC T.i_Panel) (by rfl) T.isinstance_ (by decide +kernel) (pa_cons (pv 1) (pa_cons (C8.pe_gc rfl T.c_Panel) pa_nil))) (pe_one (pe_cmpR (k_eq K hu64) (pe_tup (pa_cons (k_fld K (pv 0) rfl) (pa_cons (k_fld K (pv 0) rfl) pa_nil))) (pe_tup (pa_cons (k_fld K (pv 1) rfl) (pa_cons (k_fld K (pv 1) rfl) pa_nil))) (nomark _)))))), fn_prm (E := E) h fun i hi => ?_⟩
  obtain ⟨⟨ns, rs⟩, ms, qs⟩ := i
  show Sj none 0 [some (.im (PnT K ns rs)), some (.im (PnT K ms qs))] _ _
  exact sj_ret (pu_andV (a := true) (pu_cb (pa_c (pu_var rfl) (pa_c pu_c pa_n)) rc_isP) (fun _ => pu_op ((pu_tup (pa_c (pu_pnN T (pu_var rfl)) (pa_c (pu_pnO T (pu_var rfl)) pa_n)) (by simp)).le (tn2D Ty.le.rfl' Ty.le.rfl')) ((pu_tup (pa_c (pu_pnN T (pu_var rfl)) (pa_c (pu_pnO T (pu_var rfl)) pa_n)) (by simp)).le (tn2D Ty.le.rfl' Ty.le.rfl')) (rv_eq hi.1 hi.2))) (le_bool rfl)
end
end Cp
set_option Elab.async false
set_option linter.all false
set_option maxRecDepth 100000
set_option maxHeartbeats 2000000
/-! P7: offs, walks. -/
namespace Cp
open PySem L2 PySem.Spec PyProof.Rows
/-- what is asked of the offs that a walk is given -/
structure OffOk (os : List Off) : Prop where
  ok : ∀ o ∈ os, (∀ x ∈ o.1, okS x = true) ∧ o.1.length ≤ 1000 ∧ okS o.2 = true
  le : os.length ≤ 1000
structure WsOk (ns : List Str) (ls : List Line) (ws : List Wish) : Prop where
  N : Ns ns
  L : ∀ l ∈ ls, LnOk ns l
  ll : ls.length ≤ 100
  W : ∀ w ∈ ws, FldOk ns w.1 ∧ w.2 ∈ ns
  wl : ws.length ≤ 1
theorem wishOffs_len (w : Wish) : (wishOffs w).length ≤ w.1.length := by
  unfold wishOffs
  rw [List.length_map]
  exact List.length_filter_le _ _
theorem flat_len {ns : List Str} {ws : List Wish} (N : Ns ns) (W : ∀ w ∈ ws, FldOk ns w.1 ∧ w.2 ∈ ns) : (ws.flatMap wishOffs).length ≤ 4 * ws.length := by
  induction ws with
  | nil => simp
  | cons w ws ih =>
    have h1 := ih fun z hz => W z (List.mem_cons_of_mem _ hz)
    have h2 := wishOffs_len w
    have h3 := (W w List.mem_cons_self).1.le N
    rw [List.flatMap_cons, List.length_append, List.length_cons]
    omega
theorem WsOk.oo {ns : List Str} {ls : List Line} {ws : List Wish} (h : WsOk ns ls ws) : OffOk (offs ls ws) := by
  refine ⟨fun o ho => ?_, ?_⟩
  · rcases List.mem_append.mp ho with z | z
    · obtain ⟨l, hl, rfl⟩ := List.mem_map.mp z
      have L := h.L l (List.mem_filter.mp hl).1
      have F := L.fld h.N
      exact ⟨h.N.okS F.sub, Nat.le_trans (F.le h.N) (by decide), name_ok (h.N.ok _ L.e)⟩
    · obtain ⟨w, hw, hz⟩ := List.mem_flatMap.mp z
      obtain ⟨y, hy, rfl⟩ := List.mem_map.mp hz
      obtain ⟨F, e⟩ := h.W w hw
      refine ⟨fun x hx => ?_, by simp, name_ok (h.N.ok _ (F.sub y (List.mem_filter.mp hy).1))⟩
      have : x = w.2 := by simpa using hx
      rw [this]
      exact name_ok (h.N.ok _ e)
  · unfold offs
    rw [List.length_append, List.length_map]
    have h1 := List.length_filter_le (fun (l : Line) => decide (l.1 = "off")) ls
    have h2 := flat_len h.N h.W
    have h3 := h.ll
    have h4 := h.wl
    omega
theorem offs_take {ls : List Line} {ws : List Wish} {i : Nat} {w : Wish} (h : ws[i]? = some w) : offs ls (ws.take (i + 1)) = offs ls (ws.take i) ++ wishOffs w := by
  unfold offs
  rw [List.take_succ, h, List.flatMap_append, List.append_assoc]
  simp
theorem eO_wish (x n : Str) : eO ([x], n) = .tuple [.list [.str x], .str n] := rfl
theorem walk_perm (os : List Off) : ∀ (k : Nat) (row rest : List Str), ((walk os k row rest).1 ++ (walk os k row rest).2).Perm (row ++ rest)
  | 0, row, rest => List.Perm.refl _
  | k + 1, row, rest => by
    unfold walk
    by_cases h : (rest.filter fun n => !decide (n ∈ barred os row)) = []
    · rw [if_pos h]
    · rw [if_neg h]
      refine (walk_perm os k _ _).trans ?_
      rw [List.append_assoc]
      refine List.Perm.append_left row ?_
      have := List.filter_append_perm (fun n => !decide (n ∈ barred os row)) rest
      simpa using this
theorem filter_split {α : Type} (p : α → Bool) (xs : List α) : (xs.filter fun x => !p x).length + (xs.filter p).length = xs.length := by
  induction xs with
  | nil => rfl
  | cons x xs ih =>
    rw [List.filter_cons, List.filter_cons, List.length_cons]
    cases p x <;> simp <;> omega
section
variable {P : Program} {w : World} {K : PySem.W.Frag} {mg : Str → Option Value} {base : Heap}
abbrev N_offs_of : List Str := ["book", "wishes", "found", "word", "lot", "entry", "field", "name"]
theorem sc_offs_of : FnScope N_offs_of ["book", "wishes"] (defScope s_offs_of) := ⟨rfl, rfl, rfl, by decide +kernel, rfl, by decide +kernel, by decide +kernel⟩
def spOffs (K : PySem.W.Frag) : Sp := Prp (ι := List Str × List Line × List Wish) (fun i => WsOk i.1 i.2.1 i.2.2) (fun i => [BkT K i.1 i.2.1, D (eOs i.2.2)]) (fun i => D (eOs (offs i.2.1 i.2.2)))
theorem ok_offs_of (T : Tx K mg) : Dn P w K mg base 1 "offs_of" ["book", "wishes"] (spOffs K) := by
  refine dn_mk T.fd_offs_of T.g_offs_of sc_offs_of (prm_len fun _ => rfl) (fun _ _ _ _ _ _ us hl => match us, hl with | [_, _], _ => rfl) fun cdv A outer s H vs Q E hr hu64 hu65 h => ?_
  have nd := sc_offs_of.nd
  refine ⟨_, (pss_cons (ps_setLc (i := 2) (own := [("word", 3), ("lot", 4), ("entry", 5)]) rfl nd rfl rfl (sw_true rfl rfl rfl (by decide +kernel)) (k_over K (k_fld K (pv 0) rfl)) (blkOk_by (own := [("word", 3), ("lot", 4), ("entry", 5)]) (N := N_offs_of) (sc := defScope s_offs_of) (by decide +kernel)) (fun _ _ _ _ _ => (k_tgt (n := 3) K rfl (pgs_cons (pg_name (i := 3) nd rfl (Or.inl rfl)) (pgs_cons (pg_name (i := 4) nd rfl (Or.inl rfl)) (pgs_cons (pg_name (i := 5) nd rfl (Or.inl rfl)) pgs_nil))))) (fun _ _ _ _ _ => (pts_one (pt_cmpR (k_eq K hu64) (pv 3) pe_str (nomark _)))) (fun _ _ _ _ _ => (pe_tup (pa_cons (pv 4) (pa_cons (pv 5) pa_nil)))))
    (pss_cons (ps_for PassesOwn.never rfl (k_over K (pv 1)) (k_tgt (n := 2) K rfl (pgs_cons (pg_name (i := 6) nd rfl (Or.inl rfl)) (pgs_cons (pg_name (i := 5) nd rfl (Or.inr rfl)) pgs_nil)))
     (pss_one (ps_set (i := 2) nd rfl (Or.inl rfl) (pe_op op_plus (pv 2) (pe_lc (own := [("name", 7)]) rfl nd (k_over K (pv 6)) (blkOk_by (own := [("name", 7)]) (N := N_offs_of) (sc := defScope s_offs_of) (by decide +kernel)) (fun _ _ _ _ _ => (pg_name (i := 7) nd rfl (Or.inl rfl))) (fun _ _ _ _ _ => (pts_one (pt_cmpR (k_ne K hu64) (pv 7) (pv 5) (nomark _)))) (fun _ _ _ _ _ => (pe_tup (pa_cons (pe_lst (pa_cons (pv 5) pa_nil)) (pa_cons (pv 7) pa_nil)))))))))
    (pss_one (ps_ret (pv 2))))), fn_prm (E := E) h fun i hi => ?_⟩
  obtain ⟨ns, ls, ws⟩ := i
  have Z : WsOk ns ls ws := hi
  show Sj none 0 [some (.im (BkT K ns ls)), some (.im (D (.list (ws.map eO)))), none, none, none, none, none, none] _ _
  refine sj_seq (sj_asg ((pu_lcE (enc := eL) (pu_bkT T (pu_var rfl)) [3, 4, 5] (by simp) (Nat.le_trans Z.ll (by decide)) (fun l => decide (l.1 = "off")) (fun l => Tn [D (eS l.2.1), D (.str l.2.2)])
    (fun l hl => ⟨_, tg_tup (js := [3, 4, 5]) rfl, PuT.imp (qt_test (pu_op (pu_var rfl) pu_str (rv_eq (shaped_str (Z.L l hl).okw) (shaped_str ok_off)))) fun b hb => by rw [hb, eqv_str], fun _ => pu_tup (pa_c (pu_var rfl) (pa_c (pu_var rfl) pa_n)) (by simp)⟩)).le (ln_mapD (enc := fun l : Line => eO (l.2.1, l.2.2)) fun l _ => tn2D Ty.le.rfl' Ty.le.rfl')) ?_)
  have e0 : (PyData.list ((ls.filter fun (l : Line) => decide (l.1 = "off")).map fun (l : Line) => eO (l.2.1, l.2.2))) = eOs (offs ls (ws.take 0)) := by
    unfold eOs offs
    rw [List.take_zero, List.flatMap_nil, List.append_nil, List.map_map]
    rfl
  rw [e0]
  show Sj none 0 [some (.im (BkT K ns ls)), some (.im (D (.list (ws.map eO)))), some (.im (D (eOs (offs ls (ws.take 0))))), none, none, none, none, none] _ _
  refine sj_seq (sj_forE (enc := eO) (xs := ws) (pu_var rfl) (fun i m e => m = 0 ∧ ∃ a b, e = [some (.im (BkT K ns ls)), some (.im (D (.list (ws.map eO)))), some (.im (D (eOs (offs ls (ws.take i))))), none, none, a, b, none])
    ⟨rfl, _, _, rfl⟩ (fun i x m e hx iv => ?_) (fun m e iv => ?_))
  · obtain ⟨rfl, a, b, rfl⟩ := iv
    obtain ⟨f, y⟩ := x
    have hm := List.mem_of_getElem? hx
    obtain ⟨F, hy⟩ := Z.W _ hm
    have oy : okS y = true := name_ok (Z.N.ok y hy)
    refine ⟨_, _, tg_tup (js := [6, 5]) rfl, ?_⟩
    show Sj none 0 [some (.im (BkT K ns ls)), some (.im (D (.list (ws.map eO)))), some (.im (D (.list ((offs ls (ws.take i)).map eO)))), none, none, some (.im (D (.str y))), some (.im (D (.list (f.map .str)))), none] _ _
    have ew : (PyData.list ((offs ls (ws.take i)).map eO ++ (f.filter fun n => !decide (n = y)).map fun n => eO ([y], n))) = eOs (offs ls (ws.take (i + 1))) := by
      rw [offs_take hx]
      unfold eOs wishOffs
      rw [List.map_append, List.map_map]
      rfl
    refine sj_asg ((pu_op (pu_var rfl) ((pu_lcE (enc := PyData.str) (pu_var rfl) [7] (by simp) (Nat.le_trans (F.le Z.N) (by decide)) (fun n => !decide (n = y)) (fun n => Tn [Ln [D (.str y)], D (.str n)])
      (fun n hn => ⟨_, tg_name, PuT.imp (qt_test (pu_op (pu_var rfl) (pu_var rfl) (rv_ne (shaped_str (name_ok (Z.N.ok n (F.sub n hn)))) (shaped_str oy)))) fun b hb => by rw [hb, eqv_str], fun _ => pu_tup (pa_c (pu_lst (pa_c (pu_var rfl) pa_n) (by simp)) (pa_c (pu_var rfl) pa_n)) (by simp)⟩)).le (ln_mapD (enc := fun n => eO ([y], n)) fun n _ => tn2D (ln_D (ds := [.str y])) Ty.le.rfl')) (rv_addL ?_)).le (le_D ew)) ?_
    · have h1 := (WsOk.oo (ws := ws.take i) ⟨Z.N, Z.L, Z.ll, fun w hw => Z.W w (List.mem_of_mem_take hw), by
        have := Z.wl
        rw [List.length_take]
        omega⟩).le
      have h2 := List.length_filter_le (fun n => !decide (n = y)) f
      have h3 : f.length ≤ 4 := F.le Z.N
      rw [List.length_map, List.length_map]
      show (offs ls (List.take i ws)).length + (List.filter (fun n => !decide (n = y)) f).length ≤ 10000
      omega
    · exact ⟨rfl, _, _, rfl⟩
  · obtain ⟨rfl, a, b, rfl⟩ := iv
    rw [List.take_length]
    exact sj_ret (pu_var rfl) Ty.le.rfl'
abbrev N_walked : List Str := ["names", "offs", "row", "rest", "is_new", "barred", "lot", "entry", "name", "free"]
theorem sc_walked : FnScope N_walked ["names", "offs"] (defScope s_walked) := ⟨rfl, rfl, rfl, by decide +kernel, rfl, by decide +kernel, by decide +kernel⟩
structure WkOk (ns : List Str) (os : List Off) : Prop where
  N : ∀ x ∈ ns, okS x = true
  le : ns.length ≤ 1000
  O : OffOk os
def spWalked : Sp := Prp (ι := List Str × List Off) (fun i => WkOk i.1 i.2) (fun i => [D (eS i.1), D (eOs i.2)]) (fun i => Tn [D (eS (walked i.1 i.2).1), Fd (eS (walked i.1 i.2).2)])
theorem ok_walked (T : Tx K mg) : Dn P w K mg base 1 "walked" ["names", "offs"] spWalked := by
  refine dn_mk T.fd_walked T.g_walked sc_walked (prm_len fun _ => rfl) (fun _ _ _ _ _ _ us hl => match us, hl with | [_, _], _ => rfl) fun cdv A outer s H vs Q E hr hu64 hu65 h => ?_
  have nd := sc_walked.nd
  refine ⟨_, (pss_cons (ps_asg (pe_tup (pa_cons (pe_lst pa_nil) (pa_cons (pe_callTy (k_list K) (by rfl) T.list_ (by decide +kernel) (pa_cons (pv 0) pa_nil)) (pa_cons pe_bl pa_nil)))) (k_tgt (n := 3) K rfl (pgs_cons (pg_name (i := 2) nd rfl (Or.inr rfl)) (pgs_cons (pg_name (i := 3) nd rfl (Or.inl rfl)) (pgs_cons (pg_name (i := 4) nd rfl (Or.inl rfl)) pgs_nil)))))
    (pss_cons (ps_while PassesOwn.never (pt_val (pv 4))
     (pss_cons (ps_set (i := 5) nd rfl (Or.inr rfl) (pe_lc (own := [("lot", 6), ("entry", 7)]) rfl nd (k_over K (pv 1)) (blkOk_by (own := [("lot", 6), ("entry", 7)]) (N := N_walked) (sc := defScope s_walked) (by decide +kernel)) (fun _ _ _ _ _ => (k_tgt (n := 2) K rfl (pgs_cons (pg_name (i := 6) nd rfl (Or.inl rfl)) (pgs_cons (pg_name (i := 7) nd rfl (Or.inl rfl)) pgs_nil)))) (fun _ _ _ _ _ => (pts_one (pt_cmpR (k_eq K hu64) (pe_lc (own := [("name", 8)]) rfl nd (k_over K (pv 6)) (blkOk_by (own := [("name", 8)]) (by rfl)) (fun _ _ _ _ _ => (pg_name (i := 8) nd rfl (Or.inl rfl))) (fun _ _ _ _ _ => (pts_one (pt_cmpR (k_in K hu65) (pv 8) (pv 2) (by rfl)))) (fun _ _ _ _ _ => (pv 8))) (pe_lst pa_nil) (nomark _)))) (fun _ _ _ _ _ => (pv 7))))
     (pss_cons (ps_setLc (i := 9) (own := [("name", 8)]) rfl nd rfl rfl (sw_true rfl rfl rfl (by decide +kernel)) (k_over K (pv 3)) (blkOk_by (own := [("name", 8)]) (N := N_walked) (sc := defScope s_walked) (by decide +kernel)) (fun _ _ _ _ _ => (pg_name (i := 8) nd rfl (Or.inl rfl))) (fun _ _ _ _ _ => (pts_one (pt_cmpR (k_ni K hu65) (pv 8) (pv 5) (by rfl)))) (fun _ _ _ _ _ => (pv 8)))
     (pss_cons (ps_set (i := 2) nd rfl (Or.inr rfl) (pe_op op_plus (pv 2) (pv 9)))
     (pss_cons (ps_setLc (i := 3) (own := [("name", 8)]) rfl nd rfl rfl (sw_true rfl rfl rfl (by decide +kernel)) (k_over K (pv 3)) (blkOk_by (own := [("name", 8)]) (N := N_walked) (sc := defScope s_walked) (by decide +kernel)) (fun _ _ _ _ _ => (pg_name (i := 8) nd rfl (Or.inl rfl))) (fun _ _ _ _ _ => (pts_one (pt_cmpR (k_in K hu65) (pv 8) (pv 5) (by rfl)))) (fun _ _ _ _ _ => (pv 8)))
     (pss_one (ps_set (i := 4) nd rfl (Or.inl rfl) (pe_cmpR (k_ne K hu64) (pv 9) (pe_lst pa_nil) (nomark _)))))))))
    (pss_one (ps_ret (pe_tup (pa_cons (pv 2) (pa_cons (pv 3) pa_nil))))))), fn_prm (E := E) h fun i hi => ?_⟩
  obtain ⟨ns, os⟩ := i
  have Z : WkOk ns os := hi
  show Sj none 0 [some (.im (D (.list (ns.map .str)))), some (.im (D (.list (os.map eO)))), none, none, none, none, none, none, none, none] _ _
  refine sj_seq (sj_asgT ((pu_tup (pa_c (pu_lst pa_n (by simp)) (pa_c (pu_cb (pa_c (pu_var rfl) pa_n) rc_list) (pa_c pu_bl pa_n))) (by simp)).le ((tn_le (Us := [D (eS []), D (eS ns), D (.bool true)]) (by exact ⟨ln_D (ds := []), ln_SF2.trans le_FD, Ty.le.rfl', trivial⟩)).trans (tn_D (ds := [eS [], eS ns, .bool true])))) (tg_tup (js := [2, 3, 4]) rfl) ?_)
  show Sj none 0 [some (.im (D (.list (ns.map .str)))), some (.im (D (.list (os.map eO)))), some (.im (D (eS []))), some (.im (D (eS ns))), some (.im (D (.bool true))), none, none, none, none, none] _ _
  refine sj_seq (sj_while (fun k m e => m = 0 ∧ ∃ (row rest : List Str) (b : Bool) (R : Ty) (j : Nat) (a5 a9 : Option Sl), e = [some (.im (D (.list (ns.map .str)))), some (.im (D (.list (os.map eO)))), some (.im (D (.list (row.map .str)))), some (.im R), some (.im (D (.bool b))), a5, none, none, none, a9] ∧
      (∀ x ∈ row ++ rest, okS x = true) ∧ row.length + rest.length = ns.length ∧ rest.length ≤ j ∧ ((b = true ∧ k = j + 1 ∧ R.le (D (eS rest)) ∧ walk os j row rest = walked ns os) ∨ (b = false ∧ R.le (Fd (eS rest)) ∧ (row, rest) = walked ns os))) (ns.length + 1)
      ⟨rfl, [], ns, true, _, ns.length, _, _, rfl, Z.N, by simp, Nat.le_refl _, .inl ⟨rfl, rfl, Ty.le.rfl', rfl⟩⟩ fun k m e iv => ?_)
  obtain ⟨rfl, row, rest, b, R, j, a5, a9, rfl, ok, len, lej, hh⟩ := iv
  refine ⟨0, (· = b), qt_B (pu_var rfl), fun hb => ?_, fun hb => ?_⟩
  · subst hb
    rcases hh with ⟨_, rfl, hR, hw⟩ | ⟨hb, _⟩
    · have okr : ∀ x ∈ rest, okS x = true := fun x hx => ok x (List.mem_append.mpr (.inr hx))
      have len1 := Z.le
      have rl : rest.length ≤ 1000 := by omega
      refine sj_seq (sj_asg ((pu_lcE (enc := eO) (pu_var rfl) [6, 7] (by simp) (Nat.le_trans Z.O.le (by decide)) (fun o => (o.1.filter fun n => decide (n ∈ row)).isEmpty) (fun o => D (.str o.2))
        (fun o ho => ⟨_, tg_tup (js := [6, 7]) rfl, qt_test ((pu_isNil ((pu_lcE (enc := PyData.str) (xs := o.1) (pu_var rfl) [8] (by simp) (Nat.le_trans (Z.O.ok o ho).2.1 (by decide)) (fun n => decide (n ∈ row)) (fun n => D (.str n))
          (fun n hn => ⟨_, tg_name, qt_test (pu_op (pu_var rfl) (pu_var rfl) (rv_inS (xs := row))), fun _ => pu_var rfl⟩)).le ln_SD) (sm_S (Nat.le_trans (List.length_filter_le _ _) (Z.O.ok o ho).2.1) fun x hx => (Z.O.ok o ho).1 x (List.mem_filter.mp hx).1).shaped).le (le_bool (isEmpty_map _ _))), fun _ => pu_var rfl⟩)).le (ln_mapD (enc := fun o : Off => PyData.str o.2) fun _ _ => Ty.le.rfl')) ?_)
      have eb : (PyData.list ((os.filter fun o => (o.1.filter fun n => decide (n ∈ row)).isEmpty).map fun o : Off => PyData.str o.2)) = .list ((barred os row).map .str) := by
        unfold barred
        rw [List.map_map]
        rfl
      rw [eb]
      show Sj none 0 [some (.im (D (.list (ns.map .str)))), some (.im (D (.list (os.map eO)))), some (.im (D (.list (row.map .str)))), some (.im R), some (.im (D (.bool true))), some (.im (D (.list ((barred os row).map .str)))), none, none, none, a9] _ _
      refine sj_seq (sj_asg ((pu_lcE (enc := PyData.str) (xs := rest) ((pu_var rfl).le hR) [8] (by simp) (by omega) (fun n => !decide (n ∈ barred os row)) (fun n => D (.str n))
        (fun n hn => ⟨_, tg_name, qt_test (pu_op (pu_var rfl) (pu_var rfl) rv_niS), fun _ => pu_var rfl⟩)).le ln_SD) ?_)
      show Sj none 0 [some (.im (D (.list (ns.map .str)))), some (.im (D (.list (os.map eO)))), some (.im (D (.list (row.map .str)))), some (.im R), some (.im (D (.bool true))), some (.im (D (.list ((barred os row).map .str)))), none, none, none, some (.im (D (.list ((rest.filter fun n => !decide (n ∈ barred os row)).map .str))))] _ _
      have fl := filter_split (fun n => decide (n ∈ barred os row)) rest
      refine sj_seq (sj_asg (pu_op (pu_var rfl) (pu_var rfl) (rv_addL (by rw [List.length_map, List.length_map]; omega))) ?_)
      have ea : (PyData.list (row.map .str ++ (rest.filter fun n => !decide (n ∈ barred os row)).map .str)) = .list ((row ++ rest.filter fun n => !decide (n ∈ barred os row)).map .str) := by rw [List.map_append]
      rw [ea]
      show Sj none 0 [some (.im (D (.list (ns.map .str)))), some (.im (D (.list (os.map eO)))), some (.im (D (.list ((row ++ rest.filter fun n => !decide (n ∈ barred os row)).map .str)))), some (.im R), some (.im (D (.bool true))), some (.im (D (.list ((barred os row).map .str)))), none, none, none, some (.im (D (.list ((rest.filter fun n => !decide (n ∈ barred os row)).map .str))))] _ _
      refine sj_seq (sj_asg ((pu_lcE (enc := PyData.str) (xs := rest) ((pu_var rfl).le hR) [8] (by simp) (by omega) (fun n => decide (n ∈ barred os row)) (fun n => D (.str n))
        (fun n hn => ⟨_, tg_name, qt_test (pu_op (pu_var rfl) (pu_var rfl) rv_inS), fun _ => pu_var rfl⟩)).le ln_SF) ?_)
      show Sj none 0 [some (.im (D (.list (ns.map .str)))), some (.im (D (.list (os.map eO)))), some (.im (D (.list ((row ++ rest.filter fun n => !decide (n ∈ barred os row)).map .str)))), some (.im (Fd (eS (rest.filter fun n => decide (n ∈ barred os row))))), some (.im (D (.bool true))), some (.im (D (.list ((barred os row).map .str)))), none, none, none, some (.im (D (.list ((rest.filter fun n => !decide (n ∈ barred os row)).map .str))))] _ _
      have sfree : SeqAt.shaped (.list ((rest.filter fun n => !decide (n ∈ barred os row)).map .str)) = true := (sm_S (Nat.le_trans (List.length_filter_le _ _) rl) fun x hx => okr x (List.mem_filter.mp hx).1).shaped
      refine sj_asg (pu_notNil (pu_var rfl) sfree) ?_
      rw [isEmpty_map]
      by_cases hf : (rest.filter fun n => !decide (n ∈ barred os row)) = []
      · have e1 : (rest.filter fun n => decide (n ∈ barred os row)) = rest := by
          rw [List.filter_eq_self]
          intro x hx
          have := List.filter_eq_nil_iff.mp hf x hx
          simpa using this
        refine ⟨0, by omega, rfl, row, rest, false, Fd (eS rest), j, some (.im (D (.list ((barred os row).map .str)))), some (.im (D (.list (([] : List Str).map .str)))), ?_, ok, len, lej, .inr ⟨rfl, Ty.le.rfl', ?_⟩⟩
        · rw [hf, e1, List.append_nil]
          rfl
        · rw [← hw]
          cases j with
          | zero => rfl
          | succ j =>
            unfold walk
            rw [if_pos hf]
      · cases j with
        | zero =>
          have : rest = [] := List.eq_nil_of_length_eq_zero (by omega)
          rw [this] at hf
          exact absurd rfl hf
        | succ j =>
          have hpos : 0 < (rest.filter fun n => !decide (n ∈ barred os row)).length := List.length_pos_iff.mpr hf
          have en : (!(rest.filter fun n => !decide (n ∈ barred os row)).isEmpty) = true := by
            cases q : (rest.filter fun n => !decide (n ∈ barred os row)) with
            | nil => exact absurd q hf
            | cons _ _ => rfl
          rw [en]
          refine ⟨j + 1, by omega, rfl, _, _, true, _, j, _, _, rfl, fun x hx => ?_, by rw [List.length_append]; omega, by omega, .inl ⟨rfl, rfl, le_FD, ?_⟩⟩
          · rcases List.mem_append.mp hx with z | z
            · rcases List.mem_append.mp z with y | y
              · exact ok x (List.mem_append.mpr (.inl y))
              · exact okr x (List.mem_filter.mp y).1
            · exact okr x (List.mem_filter.mp z).1
          · rw [← hw]
            conv => rhs; unfold walk
            rw [if_neg hf]
    · cases hb
  · subst hb
    rcases hh with ⟨hb, _⟩ | ⟨_, hR, hw⟩
    · cases hb
    · refine sj_ret (pu_tup (pa_c (pu_var rfl) (pa_c (pu_var rfl) pa_n)) (by simp)) ?_
      show (Tn [D (eS row), R]).le (Tn [D (eS (walked ns os).1), Fd (eS (walked ns os).2)])
      rw [← hw]
      exact tn_le (by exact ⟨Ty.le.rfl', hR, trivial⟩)
end
end Cp
set_option Elab.async false
set_option linter.all false
set_option maxRecDepth 100000
set_option maxHeartbeats 2000000
/-! P8: bars, panels that keep. -/
namespace Cp
open PySem L2 PySem.Spec PyProof.Rows
theorem walked_perm (ns : List Str) (os : List Off) : ((walked ns os).1 ++ (walked ns os).2).Perm ns := walk_perm os ns.length [] ns
theorem walked_sub1 {ns : List Str} {os : List Off} {x : Str} (h : x ∈ (walked ns os).1) : x ∈ ns := (walked_perm ns os).mem_iff.mp (List.mem_append.mpr (.inl h))
theorem walked_sub2 {ns : List Str} {os : List Off} {x : Str} (h : x ∈ (walked ns os).2) : x ∈ ns := (walked_perm ns os).mem_iff.mp (List.mem_append.mpr (.inr h))
theorem walked_len (ns : List Str) (os : List Off) : (walked ns os).1.length + (walked ns os).2.length = ns.length := by
  have := (walked_perm ns os).length_eq
  rwa [List.length_append] at this
theorem sm_rest {ns : List Str} (N : Ns ns) (os : List Off) : Sm (eS (walked ns os).2) := N.smS (fun _ h => walked_sub2 h) (by
  have h1 := walked_len ns os
  have h2 := N.le
  omega)
theorem sm_row {ns : List Str} (N : Ns ns) (os : List Off) : Sm (eS (walked ns os).1) := N.smS (fun _ h => walked_sub1 h) (by
  have h1 := walked_len ns os
  have h2 := N.le
  omega)
/-- names, lines: of a book -/
structure Bo (ns : List Str) (ls : List Line) : Prop where
  N : Ns ns
  L : ∀ l ∈ ls, LnOk ns l
  ll : ls.length ≤ 100
theorem Bo.w0 {ns : List Str} {ls : List Line} (h : Bo ns ls) : WsOk ns ls [] := ⟨h.N, h.L, h.ll, fun w hw => (by cases hw), Nat.zero_le _⟩
theorem Bo.w1 {ns : List Str} {ls : List Line} (h : Bo ns ls) {l : Line} (hl : LnOk ns l) : WsOk ns ls (wishOf l) := ⟨h.N, h.L, h.ll, fun w hw => by
  have : w = (l.2.1, l.2.2) := by simpa [wishOf] using hw
  rw [this]
  exact ⟨hl.fld h.N, hl.e⟩, Nat.le_refl _⟩
theorem calls_mem {ls : List Line} {l : Line} (h : l ∈ calls ls) : l ∈ ls := (List.mem_filter.mp h).1
theorem WsOk.wk {ns : List Str} {ls : List Line} {ws : List Wish} (h : WsOk ns ls ws) : WkOk ns (offs ls ws) := ⟨h.N.okS fun _ h => h, Nat.le_trans h.N.le (by decide), h.oo⟩
section
variable {K : PySem.W.Frag} {pu : Option Addr} {n n1 : Nat} {env : Env'} {te tw : TE} {ns : List Str} {ls : List Line} {ws : List Wish} {i : Nat} {E : XK}
theorem pu_walkB {mg : Str → Option Value} (T : Tx K mg) (hb : env[i]? = some (some (.im (BkT K ns ls)))) (Z : WsOk ns ls ws) (hw : Pu pu n n env tw (D (eOs ws))) :
    Pu pu n n env (tCall spWalked [] E (tCons (tFld K (tVar i) "names") (tCons (tCall (spOffs K) [] E (tCons (tVar i) (tCons tw tNil))) tNil))) (Tn [D (eS (walked ns (offs ls ws)).1), Fd (eS (walked ns (offs ls ws)).2)]) :=
  pu_call1 (ι := List Str × List Off) (ns, offs ls ws) Z.wk (pa_c (pu_bkN T (pu_var hb)) (pa_c (pu_call1 (ι := List Str × List Line × List Wish) (ns, ls, ws) Z (pa_c (pu_var hb) (pa_c hw pa_n)) (by exact ⟨sub_Bk, sub_D, trivial⟩)) pa_n)) (by exact ⟨sub_D, sub_D, trivial⟩)
theorem pu_ws0 : Pu pu n n env (tLst tNil) (D (eOs [])) := (pu_lst pa_n (Nat.zero_le _)).le (ln_D (ds := []))
theorem pu_ws1 {l : Line} (h : Pu pu n n env te (D (eL l))) : Pu pu n n env (tLst (tCons (tTup (tCons (tOp (rIx K) te (tC (.int 1))) (tCons (tOp (rIx K) te (tC (.int 2))) tNil))) tNil)) (D (eOs (wishOf l))) :=
  (pu_lst (pa_c ((pu_tup (pa_c (pu_l1 h) (pa_c (pu_l2 h) pa_n)) (by simp)).le (tn2D Ty.le.rfl' Ty.le.rfl')) pa_n) (by simp)).le (ln_D (ds := [eO (l.2.1, l.2.2)]))
theorem pu_wrow {A B : List Str} (h : Pu pu n n1 env te (Tn [D (eS A), Fd (eS B)])) : Pu pu n n1 env (tOp (rIx K) te (tC (.int 0))) (D (eS A)) := pu_op h (pu_int (i := ((0 : Nat) : Int))) (rv_ixTT rfl)
theorem pu_wrest {A B : List Str} (h : Pu pu n n1 env te (Tn [D (eS A), Fd (eS B)])) : Pu pu n n1 env (tOp (rIx K) te (tC (.int 1))) (Fd (eS B)) := pu_op h (pu_int (i := ((1 : Nat) : Int))) (rv_ixTT rfl)
end
def stuckD (ns : List Str) (ls : List Line) (ws : List Wish) (d : PyData) : Bool := isLot d ns && (!(strsD d).isEmpty && stuckS (offs ls ws) (strsD d))
def lineOf : PyData → Line
  | .tuple [.str w, lot, e] => (w, strsD lot, strD e)
  | _ => ("", [], "")
def isBarD (ns : List Str) (ls : List Line) (d : PyData) : Bool := match d with
  | .tuple [line, lot] => if isNone line = true then stuckD ns ls [] lot else (isLineD line ns && decide (lineOf line ∈ calls ls)) && stuckD ns ls (wishOf (lineOf line)) lot
  | _ => false
theorem isBar_pair (ns : List Str) (ls : List Line) (a b : PyData) : isBarD ns ls (.tuple [a, b]) = if isNone a = true then stuckD ns ls [] b else (isLineD a ns && decide (lineOf a ∈ calls ls)) && stuckD ns ls (wishOf (lineOf a)) b := rfl
theorem lineOf_ok {d : PyData} {ns : List Str} (N : Ns ns) (h : isLineD d ns = true) : d = eL (lineOf d) ∧ LnOk ns (lineOf d) := by
  unfold isLineD at h
  split at h
  · rename_i w lot e
    simp only [Bool.and_eq_true, Bool.or_eq_true, decide_eq_true_eq] at h
    obtain ⟨h1, h2, h3, h4, h5⟩ := h
    obtain ⟨x, rfl⟩ : ∃ x, e = .str x := by
      cases e <;> first | exact ⟨_, rfl⟩ | cases h3
    have h6 : areNames lot = true := by
      unfold isField isLot isAsc at h2
      simp only [Bool.and_eq_true] at h2
      exact h2.1.1.1
    obtain ⟨xs, rfl, _, _⟩ := names_shape h6
    rw [strsD_S] at h5
    have el : lineOf (.tuple [.str w, eS xs, .str x]) = (w, xs, x) := by
      show (w, strsD (eS xs), x) = _
      rw [strsD_S]
    rw [el]
    exact ⟨rfl, h1, h2, h4, decide_eq_decide.mp (eq_of_beq h5)⟩
  · cases h
theorem held_step {os : List Off} {v : List Str} {i : Nat} {o : Off} (h : os[i]? = some o) : held (os.take (i + 1)) v = held (os.take i) v ++ (if (o.1.all fun n => decide (n ∈ v)) = true then [o.2] else []) := by
  unfold held
  rw [List.take_succ, h, List.filter_append, List.map_append]
  congr 1
  cases q : (o.1.all fun n => decide (n ∈ v)) <;> simp [q]
theorem held_len (os : List Off) (v : List Str) : (held os v).length ≤ os.length := by
  unfold held
  rw [List.length_map]
  exact List.length_filter_le _ _
theorem barD_no {ns : List Str} {ls : List Line} (h : isNone (barD ns ls) = true) : (walked ns (offs ls [])).2 = [] ∧ ∀ l ∈ calls ls, (walked ns (offs ls (wishOf l))).2 = [] := by
  unfold barD at h
  by_cases h1 : (walked ns (offs ls [])).2 = []
  · rw [if_neg (by simpa using h1)] at h
    refine ⟨h1, fun l hl => ?_⟩
    cases q : (calls ls).find? (fun l => decide ((walked ns (offs ls (wishOf l))).2 ≠ [])) with
    | some x => rw [q] at h; cases h
    | none =>
      have := List.find?_eq_none.mp q l hl
      simpa using this
  · rw [if_pos h1] at h
    cases h
theorem walked_row {ns : List Str} {os : List Off} (h : (walked ns os).2 = []) : RowOk ns (walked ns os).1 := by
  have := walked_perm ns os
  rw [h, List.append_nil] at this
  exact this
theorem keepRows_ok {ns : List Str} {ls : List Line} (h : isNone (barD ns ls) = true) : ∀ r ∈ keepRows ns ls, RowOk ns r := by
  obtain ⟨h1, h2⟩ := barD_no h
  intro r hr
  unfold keepRows at hr
  split at hr
  · have : r = (walked ns (offs ls [])).1 := by simpa using hr
    rw [this]
    exact walked_row h1
  · obtain ⟨l, hl, rfl⟩ := List.mem_map.mp hr
    exact walked_row (h2 l hl)
theorem keepRows_ne (ns : List Str) (ls : List Line) : keepRows ns ls ≠ [] := by
  unfold keepRows
  split
  · simp
  · rename_i h
    intro e
    exact h (List.map_eq_nil_iff.mp e)
theorem keepRows_len {ns : List Str} {ls : List Line} (h : ls.length ≤ 100) : (keepRows ns ls).length ≤ 100 := by
  unfold keepRows
  split
  · simp
  · rw [List.length_map]
    exact Nat.le_trans (List.length_filter_le _ _) h
/-- what some_panel answers -/
def SomeT (K : PySem.W.Frag) (ns : List Str) (ls : List Line) : Ty := if isNone (barD ns ls) = true then PnT K (sortS ns) (keepRows ns ls) else D .none
section
variable {P : Program} {w : World} {K : PySem.W.Frag} {mg : Str → Option Value} {base : Heap}
abbrev N_is_stuck_lot : List Str := ["book", "wishes", "value", "held", "lot", "entry", "name"]
theorem sc_is_stuck_lot : FnScope N_is_stuck_lot ["book", "wishes", "value"] (defScope s_is_stuck_lot) := ⟨rfl, rfl, rfl, by decide +kernel, rfl, by decide +kernel, by decide +kernel⟩
def spStuck (K : PySem.W.Frag) : Sp := Prp (ι := (List Str × List Line) × List Wish × PyData) (fun i => WsOk i.1.1 i.1.2 i.2.1 ∧ Sm i.2.2) (fun i => [BkT K i.1.1 i.1.2, D (eOs i.2.1), D i.2.2]) (fun i => D (.bool (stuckD i.1.1 i.1.2 i.2.1 i.2.2)))
theorem ok_is_stuck_lot (T : Tx K mg) : Dn P w K mg base 5 "is_stuck_lot" ["book", "wishes", "value"] (spStuck K) := by
  have D_is_lot := ok_is_lot (P := P) (w := w) (base := base) T
  have D_offs_of := ok_offs_of (P := P) (w := w) (base := base) T
  refine dn_mk T.fd_is_stuck_lot T.g_is_stuck_lot sc_is_stuck_lot (prm_len fun _ => rfl) (fun _ _ _ _ _ _ us hl => match us, hl with | [_, _, _], _ => rfl) fun cdv A outer s H vs Q E hr hu64 hu65 h => ?_
  have nd := sc_is_stuck_lot.nd
  refine ⟨_, (pss_cons (ps_if (PW.pt (pw_or (pt_not (pt_val (pe_callD D_is_lot (hr.mono (by decide)) rfl (pa_cons (pv 2) (pa_cons (k_fld K (pv 0) rfl) pa_nil))))) (pw_or1 (pt_cmpR (k_eq K hu64) (pv 2) (pe_lst pa_nil) (nomark _))))) (pss_one (ps_ret pe_bl)) pss_nil)
    (pss_cons (ps_set (i := 3) nd rfl (Or.inr rfl) (pe_lst pa_nil))
    (pss_cons (ps_for PassesOwn.never rfl (k_over K (pe_callD D_offs_of (hr.mono (by decide)) rfl (pa_cons (pv 0) (pa_cons (pv 1) pa_nil)))) (k_tgt (n := 2) K rfl (pgs_cons (pg_name (i := 4) nd rfl (Or.inl rfl)) (pgs_cons (pg_name (i := 5) nd rfl (Or.inl rfl)) pgs_nil)))
     (pss_one (ps_if (pt_cmpR (k_eq K hu64) (pe_lc (own := [("name", 6)]) rfl nd (k_over K (pv 4)) (blkOk_by (own := [("name", 6)]) (N := N_is_stuck_lot) (sc := defScope s_is_stuck_lot) (by decide +kernel)) (fun _ _ _ _ _ => (pg_name (i := 6) nd rfl (Or.inl rfl))) (fun _ _ _ _ _ => (pts_one (pt_cmpR (k_ni K hu65) (pv 6) (pv 2) (by rfl)))) (fun _ _ _ _ _ => (pv 6))) (pe_lst pa_nil) (nomark _)) (pss_one (ps_expr (k_bm K PySem.F.plainAttrs_list PySem.F.slot_list_append PySem.F.type_list_append mt_append (pv 3) (pa_cons (pv 5) pa_nil)))) pss_nil)))
    (pss_one (ps_ret (pe_cmpR (k_eq K hu64) (pe_lc (own := [("name", 6)]) rfl nd (k_over K (pv 2)) (blkOk_by (own := [("name", 6)]) (N := N_is_stuck_lot) (sc := defScope s_is_stuck_lot) (by decide +kernel)) (fun _ _ _ _ _ => (pg_name (i := 6) nd rfl (Or.inl rfl))) (fun _ _ _ _ _ => (pts_one (pt_cmpR (k_ni K hu65) (pv 6) (pv 3) (by rfl)))) (fun _ _ _ _ _ => (pv 6))) (pe_lst pa_nil) (nomark _))))))), fn_prm (E := E) h fun i hi => ?_⟩
  obtain ⟨⟨ns, ls⟩, ws, d⟩ := i
  obtain ⟨Z, sd⟩ := hi
  show Sj none 0 [some (.im (BkT K ns ls)), some (.im (D (eOs ws))), some (.im (D d)), none, none, none, none] _ _
  refine sj_seq (sj_if (qt_or (b := (strsD d).isEmpty) (qt_not (qt_B (pu_call1 (ι := PyData × List Str) (d, ns) (.inl sd) (pa_c (pu_var rfl) (pa_c (pu_bkN T (pu_var rfl)) pa_n)) (by exact ⟨sub_D, sub_D, trivial⟩)))) (fun hn => ?_))
    (fun hb => sj_ret pu_bl (le_bool ?_)) (fun hb => sj_next ?_))
  · have hn2 : isLot d ns = true := by simpa using hn
    have hn3 : areNames d = true := by
      unfold isLot isAsc at hn2
      simp only [Bool.and_eq_true] at hn2
      exact hn2.1.1
    obtain ⟨xs, rfl, _, _⟩ := names_shape hn3
    rw [strsD_S]
    exact qt_test ((pu_isNil (pu_var rfl) sd.shaped).le (le_bool (isEmpty_map _ _)))
  · show false = stuckD ns ls ws d
    unfold stuckD
    revert hb
    cases isLot d ns <;> cases (strsD d).isEmpty <;> simp
  · have h1 : isLot d ns = true := by
      revert hb
      cases isLot d ns <;> simp
    have h2 : (strsD d).isEmpty = false := by
      rw [show isLot (d, ns).1 (d, ns).2 = true from h1] at hb
      simpa using hb.symm
    have hn3 : areNames d = true := by
      unfold isLot isAsc at h1
      simp only [Bool.and_eq_true] at h1
      exact h1.1.1
    obtain ⟨xs, rfl, okx, ndx⟩ := names_shape hn3
    have lx : xs.length ≤ 1000 := by
      have := sm_list_len sd
      rwa [List.length_map] at this
    have O : OffOk (offs ls ws) := Z.oo
    have hres : stuckD ns ls ws (eS xs) = stuckS (offs ls ws) xs := by
      unfold stuckD
      rw [h1, h2, strsD_S]
      rfl
    show Sj none 0 [some (.im (BkT K ns ls)), some (.im (D (eOs ws))), some (.im (D (.list (xs.map .str)))), none, none, none, none] _ { nx := _, m := _, rt := D (.bool (stuckD ns ls ws (eS xs))) }
    rw [hres]
    refine sj_seq (sj_acNew (by simp) ?_)
    show Sj none 0 [some (.im (BkT K ns ls)), some (.im (D (eOs ws))), some (.im (D (.list (xs.map .str)))), some (.ac []), none, none, none] _ _
    refine sj_seq (sj_forE (enc := eO) (xs := offs ls ws) (pu_call1 (ι := List Str × List Line × List Wish) (ns, ls, ws) Z (pa_c (pu_var rfl) (pa_c (pu_var rfl) pa_n)) (by exact ⟨sub_Bk, sub_D, trivial⟩))
      (fun i m e => m = 0 ∧ ∃ a b, e = [some (.im (BkT K ns ls)), some (.im (D (eOs ws))), some (.im (D (.list (xs.map .str)))), some (.ac ((held ((offs ls ws).take i) xs).map .str)), a, b, none]) ⟨rfl, _, _, rfl⟩ (fun i o m e ho iv => ?_) (fun m e iv => ?_))
    · obtain ⟨rfl, a, b, rfl⟩ := iv
      have hm := List.mem_of_getElem? ho
      have Oo := O.ok o hm
      refine ⟨_, _, tg_tup (js := [4, 5]) rfl, ?_⟩
      show Sj none 0 [some (.im (BkT K ns ls)), some (.im (D (eOs ws))), some (.im (D (.list (xs.map .str)))), some (.ac ((held ((offs ls ws).take i) xs).map .str)), some (.im (D (.list (o.1.map .str)))), some (.im (D (.str o.2))), none] _ _
      refine sj_if (qt_test (pu_isNil ((pu_lcE (enc := PyData.str) (xs := o.1) (pu_var rfl) [6] (by simp) (Nat.le_trans Oo.2.1 (by decide)) (fun n => !decide (n ∈ xs)) (fun n => D (.str n))
        (fun n hn => ⟨_, tg_name, qt_test (pu_op (pu_var rfl) (pu_var rfl) rv_niS), fun _ => pu_var rfl⟩)).le ln_SD) (sm_S (Nat.le_trans (List.length_filter_le _ _) Oo.2.1) fun x hx => Oo.1 x (List.mem_filter.mp hx).1).shaped)) (fun hb => ?_) (fun hb => sj_next ⟨rfl, some (.im (D (.list (o.1.map .str)))), some (.im (D (.str o.2))), ?_⟩)
      · refine sj_acApp (ds := (held ((offs ls ws).take i) xs).map .str) rfl (pu_var rfl) ?_ ⟨rfl, some (.im (D (.list (o.1.map .str)))), some (.im (D (.str o.2))), ?_⟩
        · have h3 := held_len ((offs ls ws).take i) xs
          have h4 := O.le
          rw [List.length_take] at h3
          rw [List.length_map]
          omega
        · rw [isEmpty_map, filter_isEmpty] at hb
          have hb2 : (o.1.all fun n => decide (n ∈ xs)) = true := by simpa using hb.symm
          rw [held_step ho, if_pos hb2, List.map_append]
          rfl
      · rw [isEmpty_map, filter_isEmpty] at hb
        have hb2 : ¬ (o.1.all fun n => decide (n ∈ xs)) = true := by
          intro z
          simp only [Bool.not_not] at hb
          rw [z] at hb
          cases hb
        rw [held_step ho, if_neg hb2, List.append_nil]
    · obtain ⟨rfl, a, b, rfl⟩ := iv
      rw [List.take_length]
      refine sj_acFix 3 rfl ?_
      show Sj none 0 [some (.im (BkT K ns ls)), some (.im (D (eOs ws))), some (.im (D (.list (xs.map .str)))), some (.im (D (.list ((held (offs ls ws) xs).map .str)))), a, b, none] _ _
      refine sj_ret (pu_isNil ((pu_lcE (enc := PyData.str) (xs := xs) (pu_var rfl) [6] (by simp) (Nat.le_trans lx (by decide)) (fun n => !decide (n ∈ held (offs ls ws) xs)) (fun n => D (.str n))
        (fun n hn => ⟨_, tg_name, qt_test (pu_op (pu_var rfl) (pu_var rfl) rv_niS), fun _ => pu_var rfl⟩)).le ln_SD) (sm_S (Nat.le_trans (List.length_filter_le _ _) lx) fun x hx => name_ok (okx x (List.mem_filter.mp hx).1)).shaped) (le_bool ?_)
      rw [isEmpty_map, filter_isEmpty]
      simp only [Bool.not_not]
      rfl
abbrev N_bar_of : List Str := ["book", "rest", "line"]
theorem sc_bar_of : FnScope N_bar_of ["book"] (defScope s_bar_of) := ⟨rfl, rfl, rfl, by decide +kernel, rfl, by decide +kernel, by decide +kernel⟩
def spBar (K : PySem.W.Frag) : Sp := Prp (ι := List Str × List Line) (fun i => Bo i.1 i.2) (fun i => [BkT K i.1 i.2]) (fun i => Fd (barD i.1 i.2))
theorem ok_bar_of (T : Tx K mg) : Dn P w K mg base 2 "bar_of" ["book"] (spBar K) := by
  have D_calls_of := ok_calls_of (P := P) (w := w) (base := base) T
  have D_copied := ok_copied (P := P) (w := w) (base := base) T
  have D_offs_of := ok_offs_of (P := P) (w := w) (base := base) T
  have D_walked := ok_walked (P := P) (w := w) (base := base) T
  refine dn_mk T.fd_bar_of T.g_bar_of sc_bar_of (prm_len fun _ => rfl) (fun _ _ _ _ _ _ us hl => match us, hl with | [_], _ => rfl) fun cdv A outer s H vs Q E hr hu64 hu65 h => ?_
  have nd := sc_bar_of.nd
  refine ⟨_, (pss_cons (ps_set (i := 1) nd rfl (Or.inl rfl) (pe_ix (k_ix K) (pe_callD D_walked (hr.mono (by decide)) rfl (pa_cons (k_fld K (pv 0) rfl) (pa_cons (pe_callD D_offs_of (hr.mono (by decide)) rfl (pa_cons (pv 0) (pa_cons (pe_lst pa_nil) pa_nil))) pa_nil))) pe_int (fun _ _ => rfl)))
    (pss_cons (ps_if (pt_cmpR (k_ne K hu64) (pv 1) (pe_lst pa_nil) (nomark _)) (pss_one (ps_ret (pe_tup (pa_cons pe_non (pa_cons (pv 1) pa_nil))))) pss_nil)
    (pss_cons (ps_for PassesOwn.never rfl (k_over K (pe_callD D_calls_of (hr.mono (by decide)) rfl (pa_cons (pv 0) pa_nil))) (pg_name (i := 2) nd rfl (Or.inl rfl))
     (pss_cons (ps_set (i := 1) nd rfl (Or.inl rfl) (pe_ix (k_ix K) (pe_callD D_walked (hr.mono (by decide)) rfl (pa_cons (k_fld K (pv 0) rfl) (pa_cons (pe_callD D_offs_of (hr.mono (by decide)) rfl (pa_cons (pv 0) (pa_cons (pe_lst (pa_cons (pe_tup (pa_cons (pe_ix (k_ix K) (pv 2) pe_int (fun _ _ => rfl)) (pa_cons (pe_ix (k_ix K) (pv 2) pe_int (fun _ _ => rfl)) pa_nil))) pa_nil)) pa_nil))) pa_nil))) pe_int (fun _ _ => rfl)))
     (pss_one (ps_if (pt_cmpR (k_ne K hu64) (pv 1) (pe_lst pa_nil) (nomark _)) (pss_one (ps_ret (pe_tup (pa_cons (pe_callD D_copied (hr.mono (by decide)) rfl (pa_cons (pv 2) pa_nil)) (pa_cons (pv 1) pa_nil))))) pss_nil))))
    (pss_one (ps_ret pe_non))))), fn_prm (E := E) h fun i hi => ?_⟩
  obtain ⟨ns, ls⟩ := i
  have Z : Bo ns ls := hi
  show Sj none 0 [some (.im (BkT K ns ls)), none, none] _ _
  refine sj_seq (sj_asg (pu_wrest (pu_walkB T rfl Z.w0 pu_ws0)) ?_)
  show Sj none 0 [some (.im (BkT K ns ls)), some (.im (Fd (.list ((walked ns (offs ls [])).2.map .str)))), none] _ _
  have em : ∀ {xs : List Str} {b : Bool}, b = (!(xs.map PyData.str).isEmpty) → (b = true → xs ≠ []) ∧ (b = false → xs = []) := fun {xs b} h => by
    rw [isEmpty_map] at h
    subst h
    cases xs <;> simp
  refine sj_seq (sj_if (qt_test (pu_notNil ((pu_var rfl).le le_FD) (sm_rest Z.N _).shaped)) (fun hb => ?_) (fun hb => sj_next ?_))
  · have h1 := (em hb).1 rfl
    refine sj_ret (pu_tup (pa_c pu_non (pa_c (pu_var rfl) pa_n)) (by simp)) ((tn2F le_nonF Ty.le.rfl').trans (le_FF ?_))
    show _ = barD ns ls
    unfold barD
    rw [if_pos h1]
    rfl
  · have h1 := (em hb).2 rfl
    refine sj_seq (sj_forE (enc := eL) (xs := calls ls) (pu_call1 (ι := List Str × List Line) (ns, ls) (by exact ⟨Z.N, Z.L, Z.ll⟩) (pa_c (pu_var rfl) pa_n) (by exact ⟨sub_Bk, trivial⟩))
      (fun i m e => m = 0 ∧ (∀ j l, j < i → (calls ls)[j]? = some l → (walked ns (offs ls (wishOf l))).2 = []) ∧ ∃ a b, e = [some (.im (BkT K ns ls)), a, b]) ⟨rfl, fun j l hj => absurd hj (Nat.not_lt_zero _), _, _, rfl⟩ (fun i l m e hl iv => ?_) (fun m e iv => ?_))
    · obtain ⟨rfl, no, a, b, rfl⟩ := iv
      have hm := List.mem_of_getElem? hl
      have L := Z.L l (calls_mem hm)
      refine ⟨_, _, tg_name, ?_⟩
      show Sj none 0 [some (.im (BkT K ns ls)), a, some (.im (D (eL l)))] _ _
      refine sj_seq (sj_asg (pu_wrest (pu_walkB T rfl (Z.w1 L) (pu_ws1 (pu_var rfl)))) ?_)
      show Sj none 0 [some (.im (BkT K ns ls)), some (.im (Fd (.list ((walked ns (offs ls (wishOf l))).2.map .str)))), some (.im (D (eL l)))] _ _
      refine sj_if (qt_test (pu_notNil ((pu_var rfl).le le_FD) (sm_rest Z.N _).shaped)) (fun hb => ?_) (fun hb => sj_next ⟨rfl, step_no hl ((em hb).2 rfl) no, _, _, rfl⟩)
      have h2 := (em hb).1 rfl
      refine sj_ret (pu_tup (pa_c (pu_call1 (ι := Line) l trivial (pa_c (pu_var rfl) pa_n) (by exact ⟨sub_D, trivial⟩)) (pa_c (pu_var rfl) pa_n)) (by simp)) ((tn2F Ty.le.rfl' Ty.le.rfl').trans (le_FF ?_))
      show _ = barD ns ls
      unfold barD
      rw [if_neg (by simpa using h1), find_at (p := fun l => decide ((walked ns (offs ls (wishOf l))).2 ≠ [])) hl (decide_eq_true h2) fun j y hj e => decide_eq_false (by simpa using no j y hj e)]
      rfl
    · obtain ⟨rfl, no, a, b, rfl⟩ := iv
      refine sj_ret pu_non (le_nonF.trans (le_FF ?_))
      show _ = barD ns ls
      unfold barD
      rw [if_neg (by simpa using h1), find_no (p := fun l => decide ((walked ns (offs ls (wishOf l))).2 ≠ [])) fun j y e => decide_eq_false (by simpa using all_no no j y e)]
abbrev N_panel_that_keeps : List Str := ["book", "rows", "line"]
theorem sc_panel_that_keeps : FnScope N_panel_that_keeps ["book"] (defScope s_panel_that_keeps) := ⟨rfl, rfl, rfl, by decide +kernel, rfl, by decide +kernel, by decide +kernel⟩
def spKeepP (K : PySem.W.Frag) : Sp := Prp (ι := List Str × List Line) (fun i => Bo i.1 i.2 ∧ isNone (barD i.1 i.2) = true) (fun i => [BkT K i.1 i.2]) (fun i => PnT K (sortS i.1) (keepRows i.1 i.2))
theorem ok_panel_that_keeps (T : Tx K mg) : Dn P w K mg base 7 "panel_that_keeps" ["book"] (spKeepP K) := by
  have D_calls_of := ok_calls_of (P := P) (w := w) (base := base) T
  have D_offs_of := ok_offs_of (P := P) (w := w) (base := base) T
  have D_panel_init := ok_panel_init (P := P) (w := w) (base := base) T
  have D_walked := ok_walked (P := P) (w := w) (base := base) T
  refine dn_mk T.fd_panel_that_keeps T.g_panel_that_keeps sc_panel_that_keeps (prm_len fun _ => rfl) (fun _ _ _ _ _ _ us hl => match us, hl with | [_], _ => rfl) fun cdv A outer s H vs Q E hr hu64 hu65 h => ?_
  have nd := sc_panel_that_keeps.nd
  refine ⟨_, (pss_cons (ps_setLc (i := 1) (own := [("line", 2)]) rfl nd rfl rfl (sw_true rfl rfl rfl (by decide +kernel)) (k_over K (pe_callD D_calls_of (hr.mono (by decide)) rfl (pa_cons (pv 0) pa_nil))) (blkOk_by (own := [("line", 2)]) (N := N_panel_that_keeps) (sc := defScope s_panel_that_keeps) (by decide +kernel)) (fun _ _ _ _ _ => (pg_name (i := 2) nd rfl (Or.inl rfl))) (fun _ _ _ _ _ => pts_nil) (fun _ _ _ _ _ => (pe_ix (k_ix K) (pe_callD D_walked (hr.mono (by decide)) rfl (pa_cons (k_fld K (pv 0) rfl) (pa_cons (pe_callD D_offs_of (hr.mono (by decide)) rfl (pa_cons (pv 0) (pa_cons (pe_lst (pa_cons (pe_tup (pa_cons (pe_ix (k_ix K) (pv 2) pe_int (fun _ _ => rfl)) (pa_cons (pe_ix (k_ix K) (pv 2) pe_int (fun _ _ => rfl)) pa_nil))) pa_nil)) pa_nil))) pa_nil))) pe_int (fun _ _ => rfl))))
    (pss_one (ps_ret (pe_makeD D_panel_init (hr.mono (by decide)) rfl (pa_cons (k_fld K (pv 0) rfl) (pa_cons (pe_ifExp (pt_cmpR (k_ne K hu64) (pv 1) (pe_lst pa_nil) (nomark _)) (pv 1) (pe_lst (pa_cons (pe_ix (k_ix K) (pe_callD D_walked (hr.mono (by decide)) rfl (pa_cons (k_fld K (pv 0) rfl) (pa_cons (pe_callD D_offs_of (hr.mono (by decide)) rfl (pa_cons (pv 0) (pa_cons (pe_lst pa_nil) pa_nil))) pa_nil))) pe_int (fun _ _ => rfl)) pa_nil))) pa_nil)))))), fn_prm (E := E) h fun i hi => ?_⟩
  obtain ⟨ns, ls⟩ := i
  obtain ⟨Z, hn⟩ := hi
  have Z : Bo ns ls := Z
  show Sj none 0 [some (.im (BkT K ns ls)), none, none] _ _
  have cl : (calls ls).length ≤ 100 := Nat.le_trans (List.length_filter_le _ _) Z.ll
  refine sj_seq (sj_asg ((pu_lcA (enc := eL) (xs := calls ls) (pu_call1 (ι := List Str × List Line) (ns, ls) (by exact ⟨Z.N, Z.L, Z.ll⟩) (pa_c (pu_var rfl) pa_n) (by exact ⟨sub_Bk, trivial⟩)) [2] (by simp) (Nat.le_trans cl (by decide)) (fun l => D (eS (walked ns (offs ls (wishOf l))).1))
    (fun l hl => ⟨_, tg_name, pu_wrow (pu_walkB T rfl (Z.w1 (Z.L l (calls_mem hl))) (pu_ws1 (pu_var rfl)))⟩)).le (ln_mapD (enc := fun l => eS (walked ns (offs ls (wishOf l))).1) fun _ _ => Ty.le.rfl')) ?_)
  show Sj none 0 [some (.im (BkT K ns ls)), some (.im (D (.list ((calls ls).map fun l => eS (walked ns (offs ls (wishOf l))).1)))), none] _ _
  have sh : SeqAt.shaped (.list ((calls ls).map fun l => eS (walked ns (offs ls (wishOf l))).1)) = true := shaped_list (fun d hd => by
    obtain ⟨l, hl, rfl⟩ := List.mem_map.mp hd
    exact (sm_row Z.N _).s) fun d hd => by
    obtain ⟨l, hl, rfl⟩ := List.mem_map.mp hd
    exact Nat.le_trans (depth_S _) (by decide)
  have e1 : calls ls ≠ [] → (PyData.list ((calls ls).map fun l => eS (walked ns (offs ls (wishOf l))).1)) = eR (keepRows ns ls) := fun h => by
    unfold keepRows eR
    rw [if_neg h, List.map_map]
    rfl
  have e2 : calls ls = [] → (PyData.list [eS (walked ns (offs ls [])).1]) = eR (keepRows ns ls) := fun h => by
    unfold keepRows
    rw [if_pos h]
    rfl
  refine sj_ret (pu_make (ι := List Str × List (List Str)) (ns, keepRows ns ls) (by exact ⟨Z.N, keepRows_ok hn, Nat.le_trans (keepRows_len Z.ll) (by decide), keepRows_ne ns ls⟩) (pa_c (pu_bkN T (pu_var rfl)) (pa_c (pu_if (qt_test (pu_notNil (pu_var rfl) sh)) (fun hb => (pu_var rfl).le (le_D ?_)) (fun hb => ((pu_lst (pa_c (pu_wrow (pu_walkB T rfl Z.w0 pu_ws0)) pa_n) (by simp)).le (ln_D (ds := [eS (walked ns (offs ls [])).1]))).le (le_D ?_))) pa_n)) (by exact ⟨sub_D, sub_D, trivial⟩)) Ty.le.rfl'
  · rw [isEmpty_map] at hb
    refine e1 fun z => ?_
    rw [z] at hb
    cases hb
  · rw [isEmpty_map] at hb
    refine e2 ?_
    cases q : calls ls with
    | nil => rfl
    | cons _ _ =>
      rw [q] at hb
      cases hb
abbrev N_some_panel : List Str := ["book"]
theorem sc_some_panel : FnScope N_some_panel ["book"] (defScope s_some_panel) := ⟨rfl, rfl, rfl, by decide +kernel, rfl, by decide +kernel, by decide +kernel⟩
def spSome (K : PySem.W.Frag) : Sp := Prp (ι := List Str × List Line) (fun i => Bo i.1 i.2) (fun i => [BkT K i.1 i.2]) (fun i => SomeT K i.1 i.2)
theorem ok_some_panel (T : Tx K mg) : Dn P w K mg base 8 "some_panel" ["book"] (spSome K) := by
  have D_bar_of := ok_bar_of (P := P) (w := w) (base := base) T
  have D_check_book := ok_check_book (P := P) (w := w) (base := base) T
  have D_panel_that_keeps := ok_panel_that_keeps (P := P) (w := w) (base := base) T
  refine dn_mk T.fd_some_panel T.g_some_panel sc_some_panel (prm_len fun _ => rfl) (fun _ _ _ _ _ _ us hl => match us, hl with | [_], _ => rfl) fun cdv A outer s H vs Q E hr hu64 hu65 h => ?_
  have nd := sc_some_panel.nd
  refine ⟨_, (pss_cons (ps_expr (pe_callD D_check_book (hr.mono (by decide)) rfl (pa_cons (pv 0) pa_nil)))
    (pss_one (ps_ret (pe_ifExp (pt_cmpR op_isN (pe_callD D_bar_of (hr.mono (by decide)) rfl (pa_cons (pv 0) pa_nil)) pe_non (nomark _)) (pe_callD D_panel_that_keeps (hr.mono (by decide)) rfl (pa_cons (pv 0) pa_nil)) pe_non)))), fn_prm (E := E) h fun i hi => ?_⟩
  obtain ⟨ns, ls⟩ := i
  have Z : Bo ns ls := hi
  show Sj none 0 [some (.im (BkT K ns ls))] _ _
  refine sj_seq (sj_drop (pu_call1 (ι := List Str × List Line) (ns, ls) trivial (pa_c (pu_var rfl) pa_n) (by exact ⟨sub_Bk, trivial⟩)) ?_)
  refine sj_ret (pu_if (qt_test (pu_op (pu_call1 (ι := List Str × List Line) (ns, ls) Z (pa_c (pu_var rfl) pa_n) (by exact ⟨sub_Bk, trivial⟩)) pu_non (rv_le1 rv_isN le_FD)))
    (fun hb => (pu_call1 (ι := List Str × List Line) (ns, ls) (by exact ⟨Z, hb.symm⟩) (pa_c (pu_var rfl) pa_n) (by exact ⟨sub_Bk, trivial⟩)).le ?_) (fun hb => pu_non.le ?_)) Ty.le.rfl'
  · show (PnT K (sortS ns) (keepRows ns ls)).le (SomeT K ns ls)
    unfold SomeT
    rw [if_pos hb.symm]
    exact Ty.le.rfl'
  · show (D .none).le (SomeT K ns ls)
    unfold SomeT
    rw [if_neg (by rw [← show false = isNone (barD ns ls) from hb]; decide)]
    exact Ty.le.rfl'
abbrev N_why_none : List Str := ["book"]
theorem sc_why_none : FnScope N_why_none ["book"] (defScope s_why_none) := ⟨rfl, rfl, rfl, by decide +kernel, rfl, by decide +kernel, by decide +kernel⟩
theorem ok_why_none (T : Tx K mg) : Dn P w K mg base 3 "why_none" ["book"] (spBar K) := by
  have D_bar_of := ok_bar_of (P := P) (w := w) (base := base) T
  have D_check_book := ok_check_book (P := P) (w := w) (base := base) T
  refine dn_mk T.fd_why_none T.g_why_none sc_why_none (prm_len fun _ => rfl) (fun _ _ _ _ _ _ us hl => match us, hl with | [_], _ => rfl) fun cdv A outer s H vs Q E hr hu64 hu65 h => ?_
  have nd := sc_why_none.nd
  refine ⟨_, (pss_cons (ps_expr (pe_callD D_check_book (hr.mono (by decide)) rfl (pa_cons (pv 0) pa_nil)))
    (pss_one (ps_ret (pe_callD D_bar_of (hr.mono (by decide)) rfl (pa_cons (pv 0) pa_nil))))), fn_prm (E := E) h fun i hi => ?_⟩
  obtain ⟨ns, ls⟩ := i
  have Z : Bo ns ls := hi
  show Sj none 0 [some (.im (BkT K ns ls))] _ _
  refine sj_seq (sj_drop (pu_call1 (ι := List Str × List Line) (ns, ls) trivial (pa_c (pu_var rfl) pa_n) (by exact ⟨sub_Bk, trivial⟩)) ?_)
  exact sj_ret (pu_call1 (ι := List Str × List Line) (ns, ls) Z (pa_c (pu_var rfl) pa_n) (by exact ⟨sub_Bk, trivial⟩)) Ty.le.rfl'
abbrev N_is_bar_of : List Str := ["book", "value", "line", "lot"]
theorem sc_is_bar_of : FnScope N_is_bar_of ["book", "value"] (defScope s_is_bar_of) := ⟨rfl, rfl, rfl, by decide +kernel, rfl, by decide +kernel, by decide +kernel⟩
def spIsBar (K : PySem.W.Frag) : Sp := Prp (ι := List Str × List Line × PyData) (fun i => Bo i.1 i.2.1 ∧ Nice i.2.2) (fun i => [BkT K i.1 i.2.1, D i.2.2]) (fun i => D (.bool (isBarD i.1 i.2.1 i.2.2)))
theorem isBar_other {ns : List Str} {ls : List Line} {d : PyData} (h : ∀ a b, d ≠ .tuple [a, b]) : isBarD ns ls d = false := by
  unfold isBarD
  split
  · exact absurd rfl (h _ _)
  · rfl
theorem ok_is_bar_of (T : Tx K mg) : Dn P w K mg base 7 "is_bar_of" ["book", "value"] (spIsBar K) := by
  have D_calls_of := ok_calls_of (P := P) (w := w) (base := base) T
  have D_is_line := ok_is_line (P := P) (w := w) (base := base) T
  have D_is_stuck_lot := ok_is_stuck_lot (P := P) (w := w) (base := base) T
  refine dn_mk T.fd_is_bar_of T.g_is_bar_of sc_is_bar_of (prm_len fun _ => rfl) (fun _ _ _ _ _ _ us hl => match us, hl with | [_, _], _ => rfl) fun cdv A outer s H vs Q E hr hu64 hu65 h => ?_
  have nd := sc_is_bar_of.nd
  refine ⟨_, (pss_cons (ps_if (PW.pt (pw_or (pt_not (pt_val (pe_callB (k_isi K) (by rfl) T.isinstance_ (by decide +kernel) (pa_cons (pv 1) (pa_cons (pe_bltn (v := .ty "tuple") (by rfl) T.tuple_ (by decide +kernel) rfl) pa_nil))))) (pw_or1 (pt_cmpR (k_ne K hu64) (pe_callB (k_len K) (by rfl) T.len_ (by decide +kernel) (pa_cons (pv 1) pa_nil)) pe_int (nomark _))))) (pss_one (ps_ret pe_bl)) pss_nil)
    (pss_cons (ps_asg (pv 1) (k_tgt (n := 2) K rfl (pgs_cons (pg_name (i := 2) nd rfl (Or.inl rfl)) (pgs_cons (pg_name (i := 3) nd rfl (Or.inl rfl)) pgs_nil))))
    (pss_cons (ps_if (pt_cmpR op_isN (pv 2) pe_non (nomark _)) (pss_one (ps_ret (pe_callD D_is_stuck_lot (hr.mono (by decide)) rfl (pa_cons (pv 0) (pa_cons (pe_lst pa_nil) (pa_cons (pv 3) pa_nil)))))) pss_nil)
    (pss_cons (ps_if (PW.pt (pw_or (pt_not (pt_val (pe_callD D_is_line (hr.mono (by decide)) rfl (pa_cons (pv 2) (pa_cons (k_fld K (pv 0) rfl) pa_nil))))) (pw_or1 (pt_cmpR (k_ni K hu65) (pv 2) (pe_callD D_calls_of (hr.mono (by decide)) rfl (pa_cons (pv 0) pa_nil)) (by rfl))))) (pss_one (ps_ret pe_bl)) pss_nil)
    (pss_one (ps_ret (pe_callD D_is_stuck_lot (hr.mono (by decide)) rfl (pa_cons (pv 0) (pa_cons (pe_lst (pa_cons (pe_tup (pa_cons (pe_ix (k_ix K) (pv 2) pe_int (fun _ _ => rfl)) (pa_cons (pe_ix (k_ix K) (pv 2) pe_int (fun _ _ => rfl)) pa_nil))) pa_nil)) (pa_cons (pv 3) pa_nil)))))))))), fn_prm (E := E) h fun i hi => ?_⟩
  obtain ⟨ns, ls, d⟩ := i
  obtain ⟨Z, nd2⟩ := hi
  have Z : Bo ns ls := Z
  show Sj none 0 [some (.im (BkT K ns ls)), some (.im (D d)), none, none] _ _
  by_cases ht : ∃ ds, d = .tuple ds
  · obtain ⟨ds, rfl⟩ := ht
    have sd : Sm (.tuple ds) := by
      rcases nd2 with h | h
      · exact h
      · cases h
    by_cases hl : ds.length = 2
    · obtain ⟨a, b, rfl⟩ : ∃ a b, ds = [a, b] := by
        match ds, hl with
        | [a, b], _ => exact ⟨a, b, rfl⟩
      have mem := sm_tup_mem sd
      have sa := mem a (by simp)
      have sb := mem b (by simp)
      refine sj_seq (sj_if (B := (· = false)) (qt_or (a := false) (qt_not (a := true) (qt_B (pu_isTupT (pu_var rfl)))) (fun _ => qt_test ((pu_op (pu_cb (pa_c (pu_var rfl) pa_n) rc_lenT) pu_int (rv_ne (shaped_int _) (shaped_int _))).le (le_bool rfl)))) (fun hb => by cases hb) (fun hb => sj_next ?_))
      refine sj_seq (sj_asgT (pu_var rfl) (tg_tup (js := [2, 3]) rfl) ?_)
      show Sj none 0 [some (.im (BkT K ns ls)), some (.im (D (.tuple [a, b]))), some (.im (D a)), some (.im (D b))] _ _
      refine sj_seq (sj_if (qt_test (pu_op (pu_var rfl) pu_non rv_isN)) (fun hb => ?_) (fun hb => sj_next ?_))
      · refine sj_ret (pu_call1 (ι := (List Str × List Line) × List Wish × PyData) ((ns, ls), [], b) (by exact ⟨Z.w0, sb⟩) (pa_c (pu_var rfl) (pa_c pu_ws0 (pa_c (pu_var rfl) pa_n))) (by exact ⟨sub_Bk, sub_D, sub_D, trivial⟩)) (le_bool ?_)
        show _ = isBarD ns ls (.tuple [a, b])
        rw [isBar_pair, if_pos hb.symm]
      · have hne : ¬ isNone a = true := by
          rw [← hb]
          decide
        refine sj_seq (sj_if (qt_or (b := !decide (lineOf a ∈ calls ls)) (qt_not (qt_B (pu_call1 (ι := PyData × List Str) (a, ns) sa (pa_c (pu_var rfl) (pa_c (pu_bkN T (pu_var rfl)) pa_n)) (by exact ⟨sub_D, sub_D, trivial⟩)))) (fun hz => ?_)) (fun hc => sj_ret pu_bl (le_bool ?_)) (fun hc => sj_next ?_))
        · have hz2 : isLineD a ns = true := by simpa using hz
          have ea := (lineOf_ok Z.N hz2).1
          have sc : SeqAt.shaped (.list ((calls ls).map eL)) = true := shL fun l hl => (Z.L l (calls_mem hl)).sm Z.N
          refine PuT.imp (qt_test (pu_op (pu_var rfl) (pu_call1 (ι := List Str × List Line) (ns, ls) (by exact ⟨Z.N, Z.L, Z.ll⟩) (pa_c (pu_var rfl) pa_n) (by exact ⟨sub_Bk, trivial⟩)) (rv_niD sa.shaped sc))) fun c hcc => ?_
          rw [hcc]
          conv => lhs; rw [ea]
          rw [any_L]
        · show false = isBarD ns ls (.tuple [a, b])
          rw [isBar_pair, if_neg hne]
          revert hc
          cases isLineD a ns <;> cases decide (lineOf a ∈ calls ls) <;> simp
        · have h1 : isLineD a ns = true := by
            revert hc
            cases isLineD a ns <;> simp
          have h2 : decide (lineOf a ∈ calls ls) = true := by
            rw [show isLineD (a, ns).1 (a, ns).2 = true from h1] at hc
            revert hc
            cases decide (lineOf a ∈ calls ls) <;> simp
          obtain ⟨ea, La⟩ := lineOf_ok Z.N h1
          have hv : Pu none 0 0 [some (.im (BkT K ns ls)), some (.im (D (.tuple [a, b]))), some (.im (D a)), some (.im (D b))] (tVar 2) (D (eL (lineOf a))) := by
            rw [← ea]
            exact pu_var rfl
          refine sj_ret (pu_call1 (ι := (List Str × List Line) × List Wish × PyData) ((ns, ls), wishOf (lineOf a), b) (by exact ⟨Z.w1 La, sb⟩) (pa_c (pu_var rfl) (pa_c (pu_ws1 hv) (pa_c (pu_var rfl) pa_n))) (by exact ⟨sub_Bk, sub_D, sub_D, trivial⟩)) (le_bool ?_)
          show _ = isBarD ns ls (.tuple [a, b])
          rw [isBar_pair, if_neg hne, h1, h2]
          rfl
    · refine sj_seq (sj_if (B := (· = true)) (PuT.imp (qt_or (a := false) (b := true) (qt_not (a := true) (qt_B (pu_isTupT (pu_var rfl))))
        (fun _ => qt_test ((pu_op (pu_cb (pa_c (pu_var rfl) pa_n) rc_lenT) pu_int (rv_ne (shaped_int _) (shaped_int _))).le (le_bool ?_)))) fun b hb => hb) (fun hb => sj_ret pu_bl (le_bool ?_)) (fun hb => by cases hb))
      · have : PyData.eqv (.int (ds.length : Nat)) (.int 2) = false := by
          simp only [PyData.eqv]
          refine decide_eq_false fun e => hl ?_
          omega
        rw [this]
        rfl
      · refine (isBar_other fun a b q => hl ?_).symm
        rw [PyData.tuple.inj q]
        rfl
  · have hn : tyName d ≠ "tuple" := by
      cases d <;> first | exact absurd ⟨_, rfl⟩ ht | (simp only [tyName]; decide)
    refine sj_seq (sj_if (B := (· = true)) (PuT.imp (qt_or (b := true) (qt_not (qt_B (pu_isTup (pu_var rfl)))) (fun hz => by rw [decide_eq_false hn] at hz; cases hz)) fun b hb => by rw [hb, decide_eq_false hn]; rfl) (fun hb => sj_ret pu_bl (le_bool ?_)) (fun hb => by cases hb))
    exact (isBar_other fun a b q => ht ⟨_, q⟩).symm
abbrev N_is_bar : List Str := ["book", "value"]
theorem sc_is_bar : FnScope N_is_bar ["book", "value"] (defScope s_is_bar) := ⟨rfl, rfl, rfl, by decide +kernel, rfl, by decide +kernel, by decide +kernel⟩
theorem ok_is_bar (T : Tx K mg) : Dn P w K mg base 8 "is_bar" ["book", "value"] (spIsBar K) := by
  have D_check_book := ok_check_book (P := P) (w := w) (base := base) T
  have D_is_bar_of := ok_is_bar_of (P := P) (w := w) (base := base) T
  refine dn_mk T.fd_is_bar T.g_is_bar sc_is_bar (prm_len fun _ => rfl) (fun _ _ _ _ _ _ us hl => match us, hl with | [_, _], _ => rfl) fun cdv A outer s H vs Q E hr hu64 hu65 h => ?_
  have nd := sc_is_bar.nd
  refine ⟨_, (pss_cons (ps_expr (pe_callD D_check_book (hr.mono (by decide)) rfl (pa_cons (pv 0) pa_nil)))
    (pss_one (ps_ret (pe_callD D_is_bar_of (hr.mono (by decide)) rfl (pa_cons (pv 0) (pa_cons (pv 1) pa_nil)))))), fn_prm (E := E) h fun i hi => ?_⟩
  obtain ⟨ns, ls, d⟩ := i
  show Sj none 0 [some (.im (BkT K ns ls)), some (.im (D d))] _ _
  refine sj_seq (sj_drop (pu_call1 (ι := List Str × List Line) (ns, ls) trivial (pa_c (pu_var rfl) pa_n) (by exact ⟨sub_Bk, trivial⟩)) ?_)
  exact sj_ret (pu_call1 (ι := List Str × List Line × PyData) (ns, ls, d) hi (pa_c (pu_var rfl) (pa_c (pu_var rfl) pa_n)) (by exact ⟨sub_Bk, sub_D, trivial⟩)) Ty.le.rfl'
end
end Cp
set_option Elab.async false
set_option linter.all false
set_option maxRecDepth 100000
set_option maxHeartbeats 2000000
/-! L1: the law's own reckoning. -/
namespace Cp
open PySem L2 PySem.Spec PyProof.Rows
def fieldsN : List Str → List (List Str) → List (List Str)
  | [], acc => acc
  | x :: r, acc => fieldsN r (acc ++ acc.map fun s => s ++ [x])
def fields (ns : List Str) : List (List Str) := (fieldsN ns [[]]).drop 1
def taken1 (os : List Off) (ns t : List Str) : List Str := t ++ (((ns.filter fun n => !decide (n ∈ t)).filter fun n => !decide (n ∈ barred os t)).take 1)
def takenN (os : List Off) (ns : List Str) : Nat → List Str
  | 0 => []
  | k + 1 => taken1 os ns (takenN os ns k)
def lRest (ns : List Str) (os : List Off) : List Str := ns.filter fun n => !decide (n ∈ takenN os ns ns.length)
def longer (ns : List Str) (row : List Str) : List (List Str) := (ns.filter fun n => !decide (n ∈ row)).map fun n => row ++ [n]
def rowsN (ns : List Str) : Nat → List (List Str)
  | 0 => [[]]
  | k + 1 => (rowsN ns k).flatMap (longer ns)
def allRows (ns : List Str) : List (List Str) := rowsN ns ns.length
def rowKeeps (os : List Off) (row : List Str) : Bool := os.all fun o => !meets row (o.1 ++ [o.2]) o.2
def keptRows (ns : List Str) (os : List Off) : List (List Str) := (allRows ns).filter (rowKeeps os)
def stuckL (ns : List Str) (os : List Off) (v : List Str) : Bool := !(v.isEmpty || !(v.all fun n => decide (n ∈ ns))) && stuckS os v
def lBarD (ns : List Str) (ls : List Line) : PyData := if lRest ns (offs ls []) ≠ [] then .tuple [.none, eS (lRest ns (offs ls []))] else
  match (calls (sortL ls)).find? (fun l => decide (lRest ns (offs ls (wishOf l)) ≠ [])) with
  | some l => .tuple [eL l, eS (lRest ns (offs ls (wishOf l)))]
  | none => .none
def eLo : Option Line → PyData
  | none => .none
  | some l => eL l
def lIsBar (ns : List Str) (ls : List Line) (line : Option Line) (v : List Str) : Bool := match line with
  | none => stuckL ns (offs ls []) v
  | some l => decide (l ∈ calls (sortL ls)) && stuckL ns (offs ls (wishOf l)) v
theorem takenN_len (os : List Off) (ns : List Str) : ∀ k, (takenN os ns k).length ≤ k
  | 0 => Nat.le_refl _
  | k + 1 => by
    have := takenN_len os ns k
    unfold takenN taken1
    rw [List.length_append, List.length_take]
    omega
theorem takenN_sub (os : List Off) (ns : List Str) : ∀ k, ∀ x ∈ takenN os ns k, x ∈ ns
  | 0, x, h => by cases h
  | k + 1, x, h => by
    unfold takenN taken1 at h
    rcases List.mem_append.mp h with z | z
    · exact takenN_sub os ns k x z
    · exact (List.mem_filter.mp (List.mem_filter.mp (List.mem_of_mem_take z)).1).1
theorem barred_step {os : List Off} {t : List Str} {i : Nat} {o : Off} (h : os[i]? = some o) : barred (os.take (i + 1)) t = barred (os.take i) t ++ (if (o.1.filter fun n => decide (n ∈ t)).isEmpty = true then [o.2] else []) := by
  unfold barred
  rw [List.take_succ, h, List.filter_append, List.map_append]
  congr 1
  cases q : (o.1.filter fun n => decide (n ∈ t)).isEmpty <;> simp [q]
theorem filter_and {α : Type} (p q : α → Bool) (xs : List α) : (xs.filter p).filter q = xs.filter fun x => p x && q x := by
  rw [List.filter_filter]
  congr 1
  funext x
  exact Bool.and_comm _ _
theorem filter_snoc (xs A : List Str) (x : Str) : (xs.filter fun n => !decide (n ∈ A)).filter (fun n => !decide (n = x)) = xs.filter fun n => !decide (n ∈ A ++ [x]) := by
  rw [filter_and]
  congr 1
  funext n
  by_cases h1 : n ∈ A <;> by_cases h2 : n = x <;> simp [h1, h2]
theorem flatMap_take {α β : Type} (f : α → List β) {xs : List α} {i : Nat} {x : α} (h : xs[i]? = some x) : (xs.take (i + 1)).flatMap f = (xs.take i).flatMap f ++ f x := by
  rw [List.take_succ, h, List.flatMap_append]
  simp
theorem longer_len {ns : List Str} (N : ns.length ≤ 4) (row : List Str) : (longer ns row).length ≤ 4 := by
  unfold longer
  rw [List.length_map]
  exact Nat.le_trans (List.length_filter_le _ _) N
theorem flat_long {ns : List Str} (N : ns.length ≤ 4) : ∀ xs : List (List Str), (xs.flatMap (longer ns)).length ≤ 4 * xs.length
  | [] => by simp
  | x :: xs => by
    have h1 := flat_long N xs
    have h2 := longer_len N x
    rw [List.flatMap_cons, List.length_append, List.length_cons]
    omega
theorem rowsN_len {ns : List Str} (N : ns.length ≤ 4) : ∀ k, k ≤ 4 → (rowsN ns k).length ≤ 256
  | 0, _ => by simp [rowsN]
  | 1, _ => by
    have h := flat_long N (rowsN ns 0)
    show ((rowsN ns 0).flatMap (longer ns)).length ≤ 256
    have h0 : (rowsN ns 0).length = 1 := rfl
    omega
  | 2, _ => by
    have h := flat_long N (rowsN ns 0)
    have g := flat_long N (rowsN ns 1)
    have e1 : rowsN ns 1 = (rowsN ns 0).flatMap (longer ns) := rfl
    have h0 : (rowsN ns 0).length = 1 := rfl
    show ((rowsN ns 1).flatMap (longer ns)).length ≤ 256
    rw [← e1] at h
    omega
  | 3, _ => by
    have h := flat_long N (rowsN ns 0)
    have g := flat_long N (rowsN ns 1)
    have f := flat_long N (rowsN ns 2)
    have e1 : rowsN ns 1 = (rowsN ns 0).flatMap (longer ns) := rfl
    have e2 : rowsN ns 2 = (rowsN ns 1).flatMap (longer ns) := rfl
    have h0 : (rowsN ns 0).length = 1 := rfl
    show ((rowsN ns 2).flatMap (longer ns)).length ≤ 256
    rw [← e1] at h
    rw [← e2] at g
    omega
  | 4, _ => by
    have h := flat_long N (rowsN ns 0)
    have g := flat_long N (rowsN ns 1)
    have f := flat_long N (rowsN ns 2)
    have e := flat_long N (rowsN ns 3)
    have e1 : rowsN ns 1 = (rowsN ns 0).flatMap (longer ns) := rfl
    have e2 : rowsN ns 2 = (rowsN ns 1).flatMap (longer ns) := rfl
    have e3 : rowsN ns 3 = (rowsN ns 2).flatMap (longer ns) := rfl
    have h0 : (rowsN ns 0).length = 1 := rfl
    show ((rowsN ns 3).flatMap (longer ns)).length ≤ 256
    rw [← e1] at h
    rw [← e2] at g
    rw [← e3] at f
    omega
  | k + 5, h => by omega
theorem fieldsN_len : ∀ (ns : List Str) (acc : List (List Str)), (fieldsN ns acc).length = acc.length * 2 ^ ns.length
  | [], acc => by simp [fieldsN]
  | x :: r, acc => by
    unfold fieldsN
    rw [fieldsN_len r, List.length_append, List.length_map, List.length_cons, Nat.pow_succ, ← Nat.two_mul, Nat.mul_comm 2, Nat.mul_assoc, Nat.mul_comm 2]
theorem fieldsN_app : ∀ (xs ys : List Str) (acc : List (List Str)), fieldsN (xs ++ ys) acc = fieldsN ys (fieldsN xs acc)
  | [], _, _ => rfl
  | x :: xs, ys, acc => fieldsN_app xs ys _
theorem fieldsN_sub : ∀ (ns : List Str) (acc : List (List Str)) (f : List Str), f ∈ fieldsN ns acc → ∃ s ∈ acc, ∃ t, t.Sublist ns ∧ f = s ++ t
  | [], acc, f, h => ⟨f, h, [], List.Sublist.refl _, by simp⟩
  | x :: r, acc, f, h => by
    obtain ⟨s, hs, t, ht, rfl⟩ := fieldsN_sub r _ f h
    rcases List.mem_append.mp hs with z | z
    · exact ⟨s, z, t, ht.cons _, rfl⟩
    · obtain ⟨s', hs', rfl⟩ := List.mem_map.mp z
      exact ⟨s', hs', x :: t, ht.cons_cons _, by simp⟩
theorem rowsN_sub {ns : List Str} : ∀ (k : Nat) (r : List Str), r ∈ rowsN ns k → (∀ x ∈ r, x ∈ ns) ∧ r.Nodup ∧ r.length = k
  | 0, r, h => by
    have : r = [] := by simpa [rowsN] using h
    subst this
    exact ⟨fun x hx => (by cases hx), List.nodup_nil, rfl⟩
  | k + 1, r, h => by
    obtain ⟨s, hs, hr⟩ := List.mem_flatMap.mp h
    obtain ⟨n, hn, rfl⟩ := List.mem_map.mp hr
    obtain ⟨h1, h2, h3⟩ := rowsN_sub k s hs
    obtain ⟨h4, h5⟩ := List.mem_filter.mp hn
    have h6 : n ∉ s := by simpa using h5
    refine ⟨fun x hx => ?_, ?_, by rw [List.length_append, h3]; rfl⟩
    · rcases List.mem_append.mp hx with z | z
      · exact h1 x z
      · have : x = n := by simpa using z
        rw [this]
        exact h4
    · rw [List.nodup_append]
      refine ⟨h2, by simp, fun a ha b hb e => ?_⟩
      have : b = n := by simpa using hb
      exact h6 (by rw [← this, ← e]; exact ha)
section
variable {P : Program} {w : World} {K : PySem.W.Frag} {mg : Str → Option Value} {base : Heap}
abbrev N_l_fields : List Str := ["_law_names_here", "_law_found", "_law_name", "_law_some"]
theorem sc_l_fields : FnScope N_l_fields ["_law_names_here"] (defScope s_l_fields) := ⟨rfl, rfl, rfl, by decide +kernel, rfl, by decide +kernel, by decide +kernel⟩
def spFields : Sp := Prp (ι := List Str) (fun i => i.length ≤ 4) (fun i => [D (eS i)]) (fun i => D (eR (fields i)))
theorem ok_l_fields (T : Tx K mg) : Dn P w K mg base 1 "_law_fields" ["_law_names_here"] spFields := by
  refine dn_mk T.fd_l_fields T.g_l_fields sc_l_fields (prm_len fun _ => rfl) (fun _ _ _ _ _ _ us hl => match us, hl with | [_], _ => rfl) fun cdv A outer s H vs Q E hr hu64 hu65 h => ?_
  have nd := sc_l_fields.nd
  refine ⟨_, (pss_cons (ps_set (i := 1) nd rfl (Or.inl rfl) (pe_lst (pa_cons (pe_lst pa_nil) pa_nil)))
    (pss_cons (ps_for PassesOwn.never rfl (k_over K (pv 0)) (pg_name (i := 2) nd rfl (Or.inr rfl))
     (pss_one (ps_set (i := 1) nd rfl (Or.inl rfl) (pe_op op_plus (pv 1) (pe_lc (own := [("_law_some", 3)]) rfl nd (k_over K (pv 1)) (blkOk_by (own := [("_law_some", 3)]) (N := N_l_fields) (sc := defScope s_l_fields) (by decide +kernel)) (fun _ _ _ _ _ => (pg_name (i := 3) nd rfl (Or.inl rfl))) (fun _ _ _ _ _ => pts_nil) (fun _ _ _ _ _ => (pe_op op_plus (pv 3) (pe_lst (pa_cons (pv 2) pa_nil)))))))))
    (pss_one (ps_ret (pe_slice (k_sl K) (pv 1) (po_some pe_int) po_none))))), fn_prm (E := E) h fun i hi => ?_⟩
  have le : i.length ≤ 4 := hi
  show Sj none 0 [some (.im (D (.list (i.map .str)))), none, none, none] _ _
  refine sj_seq (sj_asg ((pu_lst (pa_c ((pu_lst pa_n (by simp)).le (ln_D (ds := []))) pa_n) (by simp)).le (ln_D (ds := [.list []]))) ?_)
  show Sj none 0 [some (.im (D (.list (i.map .str)))), some (.im (D (eR (fieldsN (i.take 0) [[]])))), none, none] _ _
  refine sj_seq (sj_forE (enc := PyData.str) (xs := i) (pu_var rfl) (fun j m e => m = 0 ∧ ∃ a b, e = [some (.im (D (.list (i.map .str)))), some (.im (D (eR (fieldsN (i.take j) [[]])))), a, b]) ⟨rfl, _, _, rfl⟩ (fun j x m e hx iv => ?_) (fun m e iv => ?_))
  · obtain ⟨rfl, a, b, rfl⟩ := iv
    refine ⟨_, _, tg_name, ?_⟩
    show Sj none 0 [some (.im (D (.list (i.map .str)))), some (.im (D (.list ((fieldsN (i.take j) [[]]).map eS)))), some (.im (D (.str x))), b] _ _
    have hl : (fieldsN (i.take j) [[]]).length ≤ 16 := by
      rw [fieldsN_len, List.length_singleton, Nat.one_mul]
      have h1 : (i.take j).length ≤ 4 := by
        rw [List.length_take]
        omega
      exact Nat.le_trans (Nat.pow_le_pow_right (by decide) h1) (by decide)
    have hs : ∀ s ∈ fieldsN (i.take j) [[]], s.length ≤ 4 := fun s hs => by
      obtain ⟨s0, h0, t, ht, rfl⟩ := fieldsN_sub _ _ _ hs
      have : s0 = [] := by simpa using h0
      subst this
      have h1 := ht.length_le
      rw [List.length_take] at h1
      simp
      omega
    have e1 : ∀ s : List Str, (PyData.list (s.map .str ++ [.str x])) = eS (s ++ [x]) := fun s => by
      unfold eS
      rw [List.map_append]
      rfl
    have e2 : (PyData.list ((fieldsN (i.take j) [[]]).map eS ++ (fieldsN (i.take j) [[]]).map fun s => eS (s ++ [x]))) = eR (fieldsN (i.take (j + 1)) [[]]) := by
      rw [List.take_succ, hx, fieldsN_app]
      show _ = eR (fieldsN (i.take j) [[]] ++ (fieldsN (i.take j) [[]]).map fun s => s ++ [x])
      unfold eR
      rw [List.map_append, List.map_map]
      rfl
    refine sj_asg ((pu_op (pu_var rfl) ((pu_lcA (enc := eS) (xs := fieldsN (i.take j) [[]]) (pu_var rfl) [3] (by simp) (by omega) (fun s => D (eS (s ++ [x])))
      (fun s hm => ⟨_, tg_name, (pu_op (pu_var rfl) ((pu_lst (pa_c (pu_var rfl) pa_n) (by simp)).le (ln_D (ds := [.str x]))) (rv_addL (by
        rw [List.length_map]
        have := hs s hm
        simp
        omega))).le (le_D (e1 s))⟩)).le (ln_mapD (enc := fun s => eS (s ++ [x])) fun _ _ => Ty.le.rfl')) (rv_addL (by
          rw [List.length_map, List.length_map]
          omega))).le (le_D e2)) ⟨rfl, _, _, rfl⟩
  · obtain ⟨rfl, a, b, rfl⟩ := iv
    rw [List.take_length]
    refine sj_ret ((pu_from (k := 1) (ds := (fieldsN i [[]]).map eS) (pu_var rfl) (po_s (pu_int (i := ((1 : Nat) : Int)))) po_n).le (le_D ?_)) Ty.le.rfl'
    show _ = eR ((fieldsN i [[]]).drop 1)
    unfold eR
    rw [List.map_drop]
abbrev N_l_is_part : List Str := ["_law_one", "_law_other", "_law_name"]
theorem sc_l_is_part : FnScope N_l_is_part ["_law_one", "_law_other"] (defScope s_l_is_part) := ⟨rfl, rfl, rfl, by decide +kernel, rfl, by decide +kernel, by decide +kernel⟩
def spPart : Sp := Prp (ι := List Str × List Str) (fun i => (∀ x ∈ i.1, okS x = true) ∧ i.1.length ≤ 1000) (fun i => [D (eS i.1), D (eS i.2)]) (fun i => D (.bool (i.1.all fun n => decide (n ∈ i.2))))
theorem ok_l_is_part (T : Tx K mg) : Dn P w K mg base 1 "_law_is_part" ["_law_one", "_law_other"] spPart := by
  refine dn_mk T.fd_l_is_part T.g_l_is_part sc_l_is_part (prm_len fun _ => rfl) (fun _ _ _ _ _ _ us hl => match us, hl with | [_, _], _ => rfl) fun cdv A outer s H vs Q E hr hu64 hu65 h => ?_
  have nd := sc_l_is_part.nd
  refine ⟨_, (pss_one (ps_ret (pe_cmpR (k_eq K hu64) (pe_lc (own := [("_law_name", 2)]) rfl nd (k_over K (pv 0)) (blkOk_by (own := [("_law_name", 2)]) (N := N_l_is_part) (sc := defScope s_l_is_part) (by decide +kernel)) (fun _ _ _ _ _ => (pg_name (i := 2) nd rfl (Or.inl rfl))) (fun _ _ _ _ _ => (pts_one (pt_cmpR (k_ni K hu65) (pv 2) (pv 1) (by rfl)))) (fun _ _ _ _ _ => (pv 2))) (pe_lst pa_nil) (nomark _)))), fn_prm (E := E) h fun i hi => ?_⟩
  obtain ⟨a, b⟩ := i
  obtain ⟨ok, le⟩ := hi
  show Sj none 0 [some (.im (D (.list (a.map .str)))), some (.im (D (.list (b.map .str)))), none] _ _
  refine sj_ret (pu_isNil ((pu_lcE (enc := PyData.str) (xs := a) (pu_var rfl) [2] (by simp) (Nat.le_trans le (by decide)) (fun n => !decide (n ∈ b)) (fun n => D (.str n))
    (fun n hn => ⟨_, tg_name, qt_test (pu_op (pu_var rfl) (pu_var rfl) rv_niS), fun _ => pu_var rfl⟩)).le ln_SD) (sm_S (Nat.le_trans (List.length_filter_le _ _) le) fun x hx => ok x (List.mem_filter.mp hx).1).shaped) (le_bool ?_)
  rw [isEmpty_map, filter_isEmpty]
  simp only [Bool.not_not]
abbrev N_l_offs : List Str := ["_law_lines", "_law_wishes", "_law_found", "_law_line_here", "_law_field", "_law_name", "_law_one"]
theorem sc_l_offs : FnScope N_l_offs ["_law_lines", "_law_wishes"] (defScope s_l_offs) := ⟨rfl, rfl, rfl, by decide +kernel, rfl, by decide +kernel, by decide +kernel⟩
def spLOffs : Sp := Prp (ι := List Str × List Line × List Wish) (fun i => WsOk i.1 i.2.1 i.2.2) (fun i => [D (eLs i.2.1), D (eOs i.2.2)]) (fun i => D (eOs (offs i.2.1 i.2.2)))
theorem ok_l_offs (T : Tx K mg) : Dn P w K mg base 1 "_law_offs" ["_law_lines", "_law_wishes"] spLOffs := by
  refine dn_mk T.fd_l_offs T.g_l_offs sc_l_offs (prm_len fun _ => rfl) (fun _ _ _ _ _ _ us hl => match us, hl with | [_, _], _ => rfl) fun cdv A outer s H vs Q E hr hu64 hu65 h => ?_
  have nd := sc_l_offs.nd
  refine ⟨_, (pss_cons (ps_setLc (i := 2) (own := [("_law_line_here", 3)]) rfl nd rfl rfl (sw_true rfl rfl rfl (by decide +kernel)) (k_over K (pv 0)) (blkOk_by (own := [("_law_line_here", 3)]) (N := N_l_offs) (sc := defScope s_l_offs) (by decide +kernel)) (fun _ _ _ _ _ => (pg_name (i := 3) nd rfl (Or.inl rfl))) (fun _ _ _ _ _ => (pts_one (pt_cmpR (k_eq K hu64) (pe_ix (k_ix K) (pv 3) pe_int (fun _ _ => rfl)) pe_str (nomark _)))) (fun _ _ _ _ _ => (pe_tup (pa_cons (pe_ix (k_ix K) (pv 3) pe_int (fun _ _ => rfl)) (pa_cons (pe_ix (k_ix K) (pv 3) pe_int (fun _ _ => rfl)) pa_nil)))))
    (pss_cons (ps_for PassesOwn.never rfl (k_over K (pv 1)) (k_tgt (n := 2) K rfl (pgs_cons (pg_name (i := 4) nd rfl (Or.inl rfl)) (pgs_cons (pg_name (i := 5) nd rfl (Or.inr rfl)) pgs_nil)))
     (pss_one (ps_set (i := 2) nd rfl (Or.inl rfl) (pe_op op_plus (pv 2) (pe_lc (own := [("_law_one", 6)]) rfl nd (k_over K (pv 4)) (blkOk_by (own := [("_law_one", 6)]) (N := N_l_offs) (sc := defScope s_l_offs) (by decide +kernel)) (fun _ _ _ _ _ => (pg_name (i := 6) nd rfl (Or.inl rfl))) (fun _ _ _ _ _ => (pts_one (pt_cmpR (k_ne K hu64) (pv 6) (pv 5) (nomark _)))) (fun _ _ _ _ _ => (pe_tup (pa_cons (pe_lst (pa_cons (pv 5) pa_nil)) (pa_cons (pv 6) pa_nil)))))))))
    (pss_one (ps_ret (pv 2))))), fn_prm (E := E) h fun i hi => ?_⟩
  obtain ⟨ns, ls, ws⟩ := i
  have Z : WsOk ns ls ws := hi
  show Sj none 0 [some (.im (D (.list (ls.map eL)))), some (.im (D (.list (ws.map eO)))), none, none, none, none, none] _ _
  refine sj_seq (sj_asg ((pu_lcE (enc := eL) (pu_var rfl) [3] (by simp) (Nat.le_trans Z.ll (by decide)) (fun l => decide (l.1 = "off")) (fun l => Tn [D (eS l.2.1), D (.str l.2.2)])
    (fun l hl => ⟨_, tg_name, PuT.imp (qt_test (pu_op (pu_l0 (pu_var rfl)) pu_str (rv_eq (shaped_str (Z.L l hl).okw) (shaped_str ok_off)))) fun b hb => by rw [hb, eqv_str], fun _ => pu_tup (pa_c (pu_l1 (pu_var rfl)) (pa_c (pu_l2 (pu_var rfl)) pa_n)) (by simp)⟩)).le (ln_mapD (enc := fun l : Line => eO (l.2.1, l.2.2)) fun l _ => tn2D Ty.le.rfl' Ty.le.rfl')) ?_)
  have e0 : (PyData.list ((ls.filter fun (l : Line) => decide (l.1 = "off")).map fun (l : Line) => eO (l.2.1, l.2.2))) = eOs (offs ls (ws.take 0)) := by
    unfold eOs offs
    rw [List.take_zero, List.flatMap_nil, List.append_nil, List.map_map]
    rfl
  rw [e0]
  show Sj none 0 [some (.im (D (.list (ls.map eL)))), some (.im (D (.list (ws.map eO)))), some (.im (D (eOs (offs ls (ws.take 0))))), none, none, none, none] _ _
  refine sj_seq (sj_forE (enc := eO) (xs := ws) (pu_var rfl) (fun i m e => m = 0 ∧ ∃ a b, e = [some (.im (D (.list (ls.map eL)))), some (.im (D (.list (ws.map eO)))), some (.im (D (eOs (offs ls (ws.take i))))), none, a, b, none])
    ⟨rfl, _, _, rfl⟩ (fun i x m e hx iv => ?_) (fun m e iv => ?_))
  · obtain ⟨rfl, a, b, rfl⟩ := iv
    obtain ⟨f, y⟩ := x
    have hm := List.mem_of_getElem? hx
    obtain ⟨F, hy⟩ := Z.W _ hm
    have oy : okS y = true := name_ok (Z.N.ok y hy)
    refine ⟨_, _, tg_tup (js := [4, 5]) rfl, ?_⟩
    show Sj none 0 [some (.im (D (.list (ls.map eL)))), some (.im (D (.list (ws.map eO)))), some (.im (D (.list ((offs ls (ws.take i)).map eO)))), none, some (.im (D (.list (f.map .str)))), some (.im (D (.str y))), none] _ _
    have ew : (PyData.list ((offs ls (ws.take i)).map eO ++ (f.filter fun n => !decide (n = y)).map fun n => eO ([y], n))) = eOs (offs ls (ws.take (i + 1))) := by
      rw [offs_take hx]
      unfold eOs wishOffs
      rw [List.map_append, List.map_map]
      rfl
    refine sj_asg ((pu_op (pu_var rfl) ((pu_lcE (enc := PyData.str) (xs := f) (pu_var rfl) [6] (by simp) (Nat.le_trans (F.le Z.N) (by decide)) (fun n => !decide (n = y)) (fun n => Tn [Ln [D (.str y)], D (.str n)])
      (fun n hn => ⟨_, tg_name, PuT.imp (qt_test (pu_op (pu_var rfl) (pu_var rfl) (rv_ne (shaped_str (name_ok (Z.N.ok n (F.sub n hn)))) (shaped_str oy)))) fun b hb => by rw [hb, eqv_str], fun _ => pu_tup (pa_c (pu_lst (pa_c (pu_var rfl) pa_n) (by simp)) (pa_c (pu_var rfl) pa_n)) (by simp)⟩)).le (ln_mapD (enc := fun n => eO ([y], n)) fun n _ => tn2D (ln_D (ds := [.str y])) Ty.le.rfl')) (rv_addL ?_)).le (le_D ew)) ?_
    · have h1 := (WsOk.oo (ws := ws.take i) ⟨Z.N, Z.L, Z.ll, fun w hw => Z.W w (List.mem_of_mem_take hw), by
        have := Z.wl
        rw [List.length_take]
        omega⟩).le
      have h2 := List.length_filter_le (fun n => !decide (n = y)) f
      have h3 : f.length ≤ 4 := F.le Z.N
      rw [List.length_map, List.length_map]
      omega
    · exact ⟨rfl, _, _, rfl⟩
  · obtain ⟨rfl, a, b, rfl⟩ := iv
    rw [List.take_length]
    exact sj_ret (pu_var rfl) Ty.le.rfl'
abbrev N_l_taken : List Str := ["_law_names_here", "_law_lines", "_law_wishes", "_law_offs_here", "_law_line_here", "_law_field", "_law_name", "_law_one", "_law_taken_here", "_law_turn", "_law_free", "_law_lot"]
theorem sc_l_taken : FnScope N_l_taken ["_law_names_here", "_law_lines", "_law_wishes"] (defScope s_l_taken) := ⟨rfl, rfl, rfl, by decide +kernel, rfl, by decide +kernel, by decide +kernel⟩
def spTaken : Sp := Prp (ι := List Str × List Line × List Wish) (fun i => WsOk i.1 i.2.1 i.2.2) (fun i => [D (eS i.1), D (eLs i.2.1), D (eOs i.2.2)]) (fun i => D (eS (takenN (offs i.2.1 i.2.2) i.1 i.1.length)))
theorem ok_l_taken (T : Tx K mg) : Dn P w K mg base 1 "_law_taken" ["_law_names_here", "_law_lines", "_law_wishes"] spTaken := by
  refine dn_mk T.fd_l_taken T.g_l_taken sc_l_taken (prm_len fun _ => rfl) (fun _ _ _ _ _ _ us hl => match us, hl with | [_, _, _], _ => rfl) fun cdv A outer s H vs Q E hr hu64 hu65 h => ?_
  have nd := sc_l_taken.nd
  refine ⟨_, (pss_cons (ps_setLc (i := 3) (own := [("_law_line_here", 4)]) rfl nd rfl rfl (sw_true rfl rfl rfl (by decide +kernel)) (k_over K (pv 1)) (blkOk_by (own := [("_law_line_here", 4)]) (N := N_l_taken) (sc := defScope s_l_taken) (by decide +kernel)) (fun _ _ _ _ _ => (pg_name (i := 4) nd rfl (Or.inl rfl))) (fun _ _ _ _ _ => (pts_one (pt_cmpR (k_eq K hu64) (pe_ix (k_ix K) (pv 4) pe_int (fun _ _ => rfl)) pe_str (nomark _)))) (fun _ _ _ _ _ => (pe_tup (pa_cons (pe_ix (k_ix K) (pv 4) pe_int (fun _ _ => rfl)) (pa_cons (pe_ix (k_ix K) (pv 4) pe_int (fun _ _ => rfl)) pa_nil)))))
    (pss_cons (ps_for PassesOwn.never rfl (k_over K (pv 2)) (k_tgt (n := 2) K rfl (pgs_cons (pg_name (i := 5) nd rfl (Or.inl rfl)) (pgs_cons (pg_name (i := 6) nd rfl (Or.inr rfl)) pgs_nil)))
     (pss_one (ps_set (i := 3) nd rfl (Or.inl rfl) (pe_op op_plus (pv 3) (pe_lc (own := [("_law_one", 7)]) rfl nd (k_over K (pv 5)) (blkOk_by (own := [("_law_one", 7)]) (N := N_l_taken) (sc := defScope s_l_taken) (by decide +kernel)) (fun _ _ _ _ _ => (pg_name (i := 7) nd rfl (Or.inl rfl))) (fun _ _ _ _ _ => (pts_one (pt_cmpR (k_ne K hu64) (pv 7) (pv 6) (nomark _)))) (fun _ _ _ _ _ => (pe_tup (pa_cons (pe_lst (pa_cons (pv 6) pa_nil)) (pa_cons (pv 7) pa_nil)))))))))
    (pss_cons (ps_set (i := 8) nd rfl (Or.inr rfl) (pe_lst pa_nil))
    (pss_cons (ps_for PassesOwn.never rfl (pi_range1 rfl T.range_ (pa_cons (pe_callB (k_len K) (by rfl) T.len_ (by decide +kernel) (pa_cons (pv 0) pa_nil)) pa_nil)) (pg_name (i := 9) nd rfl (Or.inl rfl))
     (pss_cons (ps_setLc (i := 10) (own := [("_law_one", 7)]) rfl nd rfl rfl (sw_true rfl rfl rfl (by decide +kernel)) (k_over K (pv 0)) (blkOk_by (own := [("_law_one", 7)]) (N := N_l_taken) (sc := defScope s_l_taken) (by decide +kernel)) (fun _ _ _ _ _ => (pg_name (i := 7) nd rfl (Or.inl rfl))) (fun _ _ _ _ _ => (pts_one (pt_cmpR (k_ni K hu65) (pv 7) (pv 8) (by rfl)))) (fun _ _ _ _ _ => (pv 7)))
     (pss_cons (ps_for PassesOwn.never rfl (k_over K (pv 3)) (k_tgt (n := 2) K rfl (pgs_cons (pg_name (i := 11) nd rfl (Or.inl rfl)) (pgs_cons (pg_name (i := 6) nd rfl (Or.inr rfl)) pgs_nil)))
      (pss_one (ps_if (pt_cmpR (k_eq K hu64) (pe_lc (own := [("_law_one", 7)]) rfl nd (k_over K (pv 11)) (blkOk_by (own := [("_law_one", 7)]) (N := N_l_taken) (sc := defScope s_l_taken) (by decide +kernel)) (fun _ _ _ _ _ => (pg_name (i := 7) nd rfl (Or.inl rfl))) (fun _ _ _ _ _ => (pts_one (pt_cmpR (k_in K hu65) (pv 7) (pv 8) (by rfl)))) (fun _ _ _ _ _ => (pv 7))) (pe_lst pa_nil) (nomark _)) (pss_one (ps_setLc (i := 10) (own := [("_law_one", 7)]) rfl nd rfl rfl (sw_true rfl rfl rfl (by decide +kernel)) (k_over K (pv 10)) (blkOk_by (own := [("_law_one", 7)]) (N := N_l_taken) (sc := defScope s_l_taken) (by decide +kernel)) (fun _ _ _ _ _ => (pg_name (i := 7) nd rfl (Or.inl rfl))) (fun _ _ _ _ _ => (pts_one (pt_cmpR (k_ne K hu64) (pv 7) (pv 6) (nomark _)))) (fun _ _ _ _ _ => (pv 7)))) pss_nil)))
     (pss_one (ps_set (i := 8) nd rfl (Or.inr rfl) (pe_op op_plus (pv 8) (pe_slice (k_sl K) (pv 10) po_none (po_some pe_int))))))))
    (pss_one (ps_ret (pv 8))))))), fn_prm (E := E) h fun i hi => ?_⟩
  obtain ⟨ns, ls, ws⟩ := i
  have Z : WsOk ns ls ws := hi
  have O : OffOk (offs ls ws) := Z.oo
  have nle : ns.length ≤ 4 := Z.N.le
  show Sj none 0 [some (.im (D (.list (ns.map .str)))), some (.im (D (.list (ls.map eL)))), some (.im (D (.list (ws.map eO)))), none, none, none, none, none, none, none, none, none] _ _
  refine sj_seq (sj_asg ((pu_lcE (enc := eL) (pu_var rfl) [4] (by simp) (Nat.le_trans Z.ll (by decide)) (fun l => decide (l.1 = "off")) (fun l => Tn [D (eS l.2.1), D (.str l.2.2)])
    (fun l hl => ⟨_, tg_name, PuT.imp (qt_test (pu_op (pu_l0 (pu_var rfl)) pu_str (rv_eq (shaped_str (Z.L l hl).okw) (shaped_str ok_off)))) fun b hb => by rw [hb, eqv_str], fun _ => pu_tup (pa_c (pu_l1 (pu_var rfl)) (pa_c (pu_l2 (pu_var rfl)) pa_n)) (by simp)⟩)).le (ln_mapD (enc := fun l : Line => eO (l.2.1, l.2.2)) fun l _ => tn2D Ty.le.rfl' Ty.le.rfl')) ?_)
  have e0 : (PyData.list ((ls.filter fun (l : Line) => decide (l.1 = "off")).map fun (l : Line) => eO (l.2.1, l.2.2))) = eOs (offs ls (ws.take 0)) := by
    unfold eOs offs
    rw [List.take_zero, List.flatMap_nil, List.append_nil, List.map_map]
    rfl
  rw [e0]
  show Sj none 0 [some (.im (D (.list (ns.map .str)))), some (.im (D (.list (ls.map eL)))), some (.im (D (.list (ws.map eO)))), some (.im (D (eOs (offs ls (ws.take 0))))), none, none, none, none, none, none, none, none] _ _
  refine sj_seq (sj_forE (enc := eO) (xs := ws) (pu_var rfl) (fun i m e => m = 0 ∧ ∃ a b, e = [some (.im (D (.list (ns.map .str)))), some (.im (D (.list (ls.map eL)))), some (.im (D (.list (ws.map eO)))), some (.im (D (eOs (offs ls (ws.take i))))), none, a, b, none, none, none, none, none])
    ⟨rfl, _, _, rfl⟩ (fun i x m e hx iv => ?_) (fun m e iv => ?_))
  · obtain ⟨rfl, a, b, rfl⟩ := iv
    obtain ⟨f, y⟩ := x
    have hm := List.mem_of_getElem? hx
    obtain ⟨F, hy⟩ := Z.W _ hm
    have oy : okS y = true := name_ok (Z.N.ok y hy)
    refine ⟨_, _, tg_tup (js := [5, 6]) rfl, ?_⟩
    show Sj none 0 [some (.im (D (.list (ns.map .str)))), some (.im (D (.list (ls.map eL)))), some (.im (D (.list (ws.map eO)))), some (.im (D (.list ((offs ls (ws.take i)).map eO)))), none, some (.im (D (.list (f.map .str)))), some (.im (D (.str y))), none, none, none, none, none] _ _
    have ew : (PyData.list ((offs ls (ws.take i)).map eO ++ (f.filter fun n => !decide (n = y)).map fun n => eO ([y], n))) = eOs (offs ls (ws.take (i + 1))) := by
      rw [offs_take hx]
      unfold eOs wishOffs
      rw [List.map_append, List.map_map]
      rfl
    refine sj_asg ((pu_op (pu_var rfl) ((pu_lcE (enc := PyData.str) (xs := f) (pu_var rfl) [7] (by simp) (Nat.le_trans (F.le Z.N) (by decide)) (fun n => !decide (n = y)) (fun n => Tn [Ln [D (.str y)], D (.str n)])
      (fun n hn => ⟨_, tg_name, PuT.imp (qt_test (pu_op (pu_var rfl) (pu_var rfl) (rv_ne (shaped_str (name_ok (Z.N.ok n (F.sub n hn)))) (shaped_str oy)))) fun b hb => by rw [hb, eqv_str], fun _ => pu_tup (pa_c (pu_lst (pa_c (pu_var rfl) pa_n) (by simp)) (pa_c (pu_var rfl) pa_n)) (by simp)⟩)).le (ln_mapD (enc := fun n => eO ([y], n)) fun n _ => tn2D (ln_D (ds := [.str y])) Ty.le.rfl')) (rv_addL ?_)).le (le_D ew)) ?_
    · have h1 := (WsOk.oo (ws := ws.take i) ⟨Z.N, Z.L, Z.ll, fun w hw => Z.W w (List.mem_of_mem_take hw), by
        have := Z.wl
        rw [List.length_take]
        omega⟩).le
      have h2 := List.length_filter_le (fun n => !decide (n = y)) f
      have h3 : f.length ≤ 4 := F.le Z.N
      rw [List.length_map, List.length_map]
      omega
    · exact ⟨rfl, _, _, rfl⟩
  · obtain ⟨rfl, a, b, rfl⟩ := iv
    rw [List.take_length]
    generalize ho : offs ls ws = os at O ⊢
    refine sj_seq (sj_asg ((pu_lst pa_n (by simp)).le (ln_D (ds := []))) ?_)
    show Sj none 0 [some (.im (D (.list (ns.map .str)))), some (.im (D (.list (ls.map eL)))), some (.im (D (.list (ws.map eO)))), some (.im (D (.list (os.map eO)))), none, a, b, none, some (.im (D (.list ((takenN os ns 0).map .str)))), none, none, none] _ _
    refine sj_seq (sj_for (pi_R1 (k := ns.length) (pa_c ((pu_cb (pa_c (pu_var rfl) pa_n) rc_lenL).le (le_D (by rw [List.length_map]))) pa_n) (by omega)) (fun i m e => m = 0 ∧ ∃ a b c d f, e = [some (.im (D (.list (ns.map .str)))), some (.im (D (.list (ls.map eL)))), some (.im (D (.list (ws.map eO)))), some (.im (D (.list (os.map eO)))), none, a, b, none, some (.im (D (.list ((takenN os ns i).map .str)))), c, d, f])
      ⟨rfl, _, _, _, _, _, rfl⟩ (fun i m e hi iv => ?_) (fun m e iv => ?_))
    · obtain ⟨rfl, a, b, c, d, f, rfl⟩ := iv
      refine ⟨_, _, tg_name, ?_⟩
      show Sj none 0 [some (.im (D (.list (ns.map .str)))), some (.im (D (.list (ls.map eL)))), some (.im (D (.list (ws.map eO)))), some (.im (D (.list (os.map eO)))), none, a, b, none, some (.im (D (.list ((takenN os ns i).map .str)))), some (.im (D (.int i))), d, f] _ _
      have tl := takenN_len os ns i
      generalize htt : takenN os ns i = t at tl ⊢
      refine sj_seq (sj_asg ((pu_lcE (enc := PyData.str) (xs := ns) (pu_var rfl) [7] (by simp) (by omega) (fun n => !decide (n ∈ t)) (fun n => D (.str n))
        (fun n hn => ⟨_, tg_name, qt_test (pu_op (pu_var rfl) (pu_var rfl) rv_niS), fun _ => pu_var rfl⟩)).le ln_SD) ?_)
      have e3 : (ns.filter fun n => !decide (n ∈ t)) = (ns.filter fun n => !decide (n ∈ t)).filter fun n => !decide (n ∈ barred (os.take 0) t) := by
        rw [List.take_zero]
        symm
        exact List.filter_eq_self.mpr fun x _ => by simp [barred]
      rw [e3]
      show Sj none 0 [some (.im (D (.list (ns.map .str)))), some (.im (D (.list (ls.map eL)))), some (.im (D (.list (ws.map eO)))), some (.im (D (.list (os.map eO)))), none, a, b, none, some (.im (D (.list (t.map .str)))), some (.im (D (.int i))), some (.im (D (eS ((ns.filter fun n => !decide (n ∈ t)).filter fun n => !decide (n ∈ barred (os.take 0) t))))), f] _ _
      refine sj_seq (sj_forE (enc := eO) (xs := os) (pu_var rfl) (fun j m e => m = 0 ∧ ∃ b f, e = [some (.im (D (.list (ns.map .str)))), some (.im (D (.list (ls.map eL)))), some (.im (D (.list (ws.map eO)))), some (.im (D (.list (os.map eO)))), none, a, b, none, some (.im (D (.list (t.map .str)))), some (.im (D (.int i))), some (.im (D (eS ((ns.filter fun n => !decide (n ∈ t)).filter fun n => !decide (n ∈ barred (os.take j) t))))), f])
        ⟨rfl, _, _, rfl⟩ (fun j o m e hx iv => ?_) (fun m e iv => ?_))
      · obtain ⟨rfl, b, f, rfl⟩ := iv
        have Oo := O.ok o (List.mem_of_getElem? hx)
        refine ⟨_, _, tg_tup (js := [11, 6]) rfl, ?_⟩
        generalize hF : ((ns.filter fun n => !decide (n ∈ t)).filter fun n => !decide (n ∈ barred (os.take j) t)) = F
        have Fl : F.length ≤ 4 := by
          rw [← hF]
          exact Nat.le_trans (List.length_filter_le _ _) (Nat.le_trans (List.length_filter_le _ _) nle)
        have Fs : ∀ x ∈ F, okS x = true := fun x hx => by
          rw [← hF] at hx
          exact name_ok (Z.N.ok x (List.mem_filter.mp (List.mem_filter.mp hx).1).1)
        show Sj none 0 [some (.im (D (.list (ns.map .str)))), some (.im (D (.list (ls.map eL)))), some (.im (D (.list (ws.map eO)))), some (.im (D (.list (os.map eO)))), none, a, some (.im (D (.str o.2))), none, some (.im (D (.list (t.map .str)))), some (.im (D (.int i))), some (.im (D (.list (F.map .str)))), some (.im (D (.list (o.1.map .str))))] _ _
        refine sj_if (qt_test (pu_isNil ((pu_lcE (enc := PyData.str) (xs := o.1) (pu_var rfl) [7] (by simp) (Nat.le_trans Oo.2.1 (by decide)) (fun n => decide (n ∈ t)) (fun n => D (.str n))
          (fun n hn => ⟨_, tg_name, qt_test (pu_op (pu_var rfl) (pu_var rfl) rv_inS), fun _ => pu_var rfl⟩)).le ln_SD) (sm_S (Nat.le_trans (List.length_filter_le _ _) Oo.2.1) fun x hx => Oo.1 x (List.mem_filter.mp hx).1).shaped)) (fun hb => ?_) (fun hb => sj_next ⟨rfl, some (.im (D (.str o.2))), some (.im (D (.list (o.1.map .str)))), ?_⟩)
        · rw [isEmpty_map] at hb
          refine sj_asg ((pu_lcE (enc := PyData.str) (xs := F) (pu_var rfl) [7] (by simp) (by omega) (fun n => !decide (n = o.2)) (fun n => D (.str n))
            (fun n hn => ⟨_, tg_name, PuT.imp (qt_test (pu_op (pu_var rfl) (pu_var rfl) (rv_ne (shaped_str (Fs n hn)) (shaped_str Oo.2.2)))) fun b hb => by rw [hb, eqv_str], fun _ => pu_var rfl⟩)).le ln_SD) ⟨rfl, some (.im (D (.str o.2))), some (.im (D (.list (o.1.map .str)))), ?_⟩
          rw [barred_step hx, if_pos hb.symm, ← filter_snoc, hF]
          rfl
        · rw [isEmpty_map] at hb
          rw [barred_step hx, if_neg (by rw [← hb]; decide), List.append_nil, hF]
          rfl
      · obtain ⟨rfl, b, f, rfl⟩ := iv
        rw [List.take_length]
        generalize hF : ((ns.filter fun n => !decide (n ∈ t)).filter fun n => !decide (n ∈ barred os t)) = F
        have Fl : F.length ≤ 4 := by
          rw [← hF]
          exact Nat.le_trans (List.length_filter_le _ _) (Nat.le_trans (List.length_filter_le _ _) nle)
        show Sj none 0 [some (.im (D (.list (ns.map .str)))), some (.im (D (.list (ls.map eL)))), some (.im (D (.list (ws.map eO)))), some (.im (D (.list (os.map eO)))), none, a, b, none, some (.im (D (.list (t.map .str)))), some (.im (D (.int i))), some (.im (D (.list (F.map .str)))), f] _ _
        have e4 : (PyData.list (t.map .str ++ (F.map .str).take 1)) = .list ((takenN os ns (i + 1)).map .str) := by
          show _ = PyData.list ((taken1 os ns (takenN os ns i)).map .str)
          unfold taken1
          rw [htt, hF, List.map_append, List.map_take]
        refine sj_asg ((pu_op (pu_var rfl) (pu_uptoK (k := 1) (pu_var rfl) po_n (po_s (pu_int (i := ((1 : Nat) : Int))))) (rv_addL (by
          rw [List.length_map, List.length_take]
          omega))).le (le_D e4)) ⟨rfl, _, _, _, _, _, rfl⟩
    · obtain ⟨rfl, a, b, c, d, f, rfl⟩ := iv
      exact sj_ret (pu_var rfl) Ty.le.rfl'
abbrev N_l_rest : List Str := ["_law_names_here", "_law_lines", "_law_wishes", "_law_gone", "_law_name"]
theorem sc_l_rest : FnScope N_l_rest ["_law_names_here", "_law_lines", "_law_wishes"] (defScope s_l_rest) := ⟨rfl, rfl, rfl, by decide +kernel, rfl, by decide +kernel, by decide +kernel⟩
def spRest : Sp := Prp (ι := List Str × List Line × List Wish) (fun i => WsOk i.1 i.2.1 i.2.2) (fun i => [D (eS i.1), D (eLs i.2.1), D (eOs i.2.2)]) (fun i => D (eS (lRest i.1 (offs i.2.1 i.2.2))))
theorem ok_l_rest (T : Tx K mg) : Dn P w K mg base 2 "_law_rest" ["_law_names_here", "_law_lines", "_law_wishes"] spRest := by
  have D_l_taken := ok_l_taken (P := P) (w := w) (base := base) T
  refine dn_mk T.fd_l_rest T.g_l_rest sc_l_rest (prm_len fun _ => rfl) (fun _ _ _ _ _ _ us hl => match us, hl with | [_, _, _], _ => rfl) fun cdv A outer s H vs Q E hr hu64 hu65 h => ?_
  have nd := sc_l_rest.nd
  refine ⟨_, (pss_cons (ps_set (i := 3) nd rfl (Or.inr rfl) (pe_callD D_l_taken (hr.mono (by decide)) rfl (pa_cons (pv 0) (pa_cons (pv 1) (pa_cons (pv 2) pa_nil)))))
    (pss_one (ps_ret (pe_lc (own := [("_law_name", 4)]) rfl nd (k_over K (pv 0)) (blkOk_by (own := [("_law_name", 4)]) (N := N_l_rest) (sc := defScope s_l_rest) (by decide +kernel)) (fun _ _ _ _ _ => (pg_name (i := 4) nd rfl (Or.inl rfl))) (fun _ _ _ _ _ => (pts_one (pt_cmpR (k_ni K hu65) (pv 4) (pv 3) (by rfl)))) (fun _ _ _ _ _ => (pv 4)))))), fn_prm (E := E) h fun i hi => ?_⟩
  obtain ⟨ns, ls, ws⟩ := i
  have Z : WsOk ns ls ws := hi
  show Sj none 0 [some (.im (D (.list (ns.map .str)))), some (.im (D (.list (ls.map eL)))), some (.im (D (.list (ws.map eO)))), none, none] _ _
  refine sj_seq (sj_asg (pu_call1 (ι := List Str × List Line × List Wish) (ns, ls, ws) Z (pa_c (pu_var rfl) (pa_c (pu_var rfl) (pa_c (pu_var rfl) pa_n))) (by exact ⟨sub_D, sub_D, sub_D, trivial⟩)) ?_)
  show Sj none 0 [some (.im (D (.list (ns.map .str)))), some (.im (D (.list (ls.map eL)))), some (.im (D (.list (ws.map eO)))), some (.im (D (.list ((takenN (offs ls ws) ns ns.length).map .str)))), none] _ _
  exact sj_ret ((pu_lcE (enc := PyData.str) (xs := ns) (pu_var rfl) [4] (by simp) (Nat.le_trans Z.N.le (by decide)) (fun n => !decide (n ∈ takenN (offs ls ws) ns ns.length)) (fun n => D (.str n))
        (fun n hn => ⟨_, tg_name, qt_test (pu_op (pu_var rfl) (pu_var rfl) rv_niS), fun _ => pu_var rfl⟩)).le ln_SD) Ty.le.rfl'
end
end Cp
set_option Elab.async false
set_option linter.all false
set_option maxRecDepth 100000
set_option maxHeartbeats 2000000
/-! L2x: the law's own reckoning, rows and bars. -/
namespace Cp
open PySem L2 PySem.Spec PyProof.Rows
theorem perm_of_sub {r ns : List Str} (h1 : ∀ x ∈ r, x ∈ ns) (h2 : r.Nodup) (h3 : ns.length ≤ r.length) (nd : ns.Nodup) : r.Perm ns := by
  refine (List.perm_ext_iff_of_nodup h2 nd).mpr fun x => ⟨h1 x, fun hx => ?_⟩
  by_cases h : x ∈ r
  · exact h
  · have := sub_len (xs := x :: r) (ns := ns) (List.nodup_cons.mpr ⟨h, h2⟩) fun y hy => by
      rcases List.mem_cons.mp hy with e | e
      · rw [e]
        exact hx
      · exact h1 y e
    rw [List.length_cons] at this
    omega
theorem rows_ok {ns : List Str} (N : Ns ns) {r : List Str} (h : r ∈ allRows ns) : RowOk ns r := by
  obtain ⟨h1, h2, h3⟩ := rowsN_sub _ r h
  exact perm_of_sub h1 h2 (Nat.le_of_eq h3.symm) N.nd
theorem lRest_sub {ns : List Str} {os : List Off} {x : Str} (h : x ∈ lRest ns os) : x ∈ ns := (List.mem_filter.mp h).1
theorem sm_lrest {ns : List Str} (N : Ns ns) (os : List Off) : Sm (eS (lRest ns os)) := N.smS (fun _ h => lRest_sub h) (Nat.le_trans (List.length_filter_le _ _) (Nat.le_trans N.le (by decide)))
theorem offs_mem {ns : List Str} {ls : List Line} {ws : List Wish} (Z : WsOk ns ls ws) {o : Off} (h : o ∈ offs ls ws) : (∀ x ∈ o.1, x ∈ ns) ∧ o.1 ≠ [] ∧ o.2 ∈ ns ∧ o.1.length ≤ 4 ∧ o.2 ∉ o.1 := by
  rcases List.mem_append.mp h with z | z
  · obtain ⟨l, hl, rfl⟩ := List.mem_map.mp z
    have L := Z.L l (List.mem_filter.mp hl).1
    have F := L.fld Z.N
    have hw : l.1 = "off" := of_decide_eq_true (List.mem_filter.mp hl).2
    refine ⟨F.sub, F.ne, L.e, F.le Z.N, fun hx => ?_⟩
    have := L.x.mp hx
    rw [hw] at this
    exact absurd this (by decide)
  · obtain ⟨w, hw, hz⟩ := List.mem_flatMap.mp z
    obtain ⟨y, hy, rfl⟩ := List.mem_map.mp hz
    obtain ⟨F, e⟩ := Z.W w hw
    have hy2 := List.mem_filter.mp hy
    refine ⟨fun x hx => ?_, by simp, F.sub y hy2.1, by simp, fun hx => ?_⟩
    · have : x = w.2 := by simpa using hx
      rw [this]
      exact e
    · have h1 : y = w.2 := by simpa using hx
      have h2 : ¬ y = w.2 := by simpa using hy2.2
      exact h2 h1
section
variable {P : Program} {w : World} {K : PySem.W.Frag} {mg : Str → Option Value} {base : Heap}
abbrev N_l_all_rows : List Str := ["_law_names_here", "_law_found", "_law_turn", "_law_longer", "_law_row", "_law_name"]
theorem sc_l_all_rows : FnScope N_l_all_rows ["_law_names_here"] (defScope s_l_all_rows) := ⟨rfl, rfl, rfl, by decide +kernel, rfl, by decide +kernel, by decide +kernel⟩
def spAllRows : Sp := Prp (ι := List Str) (fun i => Ns i) (fun i => [D (eS i)]) (fun i => D (eR (allRows i)))
theorem ok_l_all_rows (T : Tx K mg) : Dn P w K mg base 1 "_law_all_rows" ["_law_names_here"] spAllRows := by
  refine dn_mk T.fd_l_all_rows T.g_l_all_rows sc_l_all_rows (prm_len fun _ => rfl) (fun _ _ _ _ _ _ us hl => match us, hl with | [_], _ => rfl) fun cdv A outer s H vs Q E hr hu64 hu65 h => ?_
  have nd := sc_l_all_rows.nd
  refine ⟨_, (pss_cons (ps_set (i := 1) nd rfl (Or.inl rfl) (pe_lst (pa_cons (pe_lst pa_nil) pa_nil)))
    (pss_cons (ps_for PassesOwn.never rfl (pi_range1 rfl T.range_ (pa_cons (pe_callB (k_len K) (by rfl) T.len_ (by decide +kernel) (pa_cons (pv 0) pa_nil)) pa_nil)) (pg_name (i := 2) nd rfl (Or.inl rfl))
     (pss_cons (ps_set (i := 3) nd rfl (Or.inl rfl) (pe_lst pa_nil))
     (pss_cons (ps_for PassesOwn.never rfl (k_over K (pv 1)) (pg_name (i := 4) nd rfl (Or.inr rfl))
      (pss_one (ps_set (i := 3) nd rfl (Or.inl rfl) (pe_op op_plus (pv 3) (pe_lc (own := [("_law_name", 5)]) rfl nd (k_over K (pv 0)) (blkOk_by (own := [("_law_name", 5)]) (N := N_l_all_rows) (sc := defScope s_l_all_rows) (by decide +kernel)) (fun _ _ _ _ _ => (pg_name (i := 5) nd rfl (Or.inl rfl))) (fun _ _ _ _ _ => (pts_one (pt_cmpR (k_ni K hu65) (pv 5) (pv 4) (by rfl)))) (fun _ _ _ _ _ => (pe_op op_plus (pv 4) (pe_lst (pa_cons (pv 5) pa_nil)))))))))
     (pss_one (ps_set (i := 1) nd rfl (Or.inl rfl) (pv 3))))))
    (pss_one (ps_ret (pv 1))))), fn_prm (E := E) h fun i hi => ?_⟩
  have N : Ns i := hi
  have nle := N.le
  show Sj none 0 [some (.im (D (.list (i.map .str)))), none, none, none, none, none] _ _
  refine sj_seq (sj_asg ((pu_lst (pa_c ((pu_lst pa_n (by simp)).le (ln_D (ds := []))) pa_n) (by simp)).le (ln_D (ds := [.list []]))) ?_)
  show Sj none 0 [some (.im (D (.list (i.map .str)))), some (.im (D (eR (rowsN i 0)))), none, none, none, none] _ _
  refine sj_seq (sj_for (pi_R1 (k := i.length) (pa_c ((pu_cb (pa_c (pu_var rfl) pa_n) rc_lenL).le (le_D (by rw [List.length_map]))) pa_n) (by omega)) (fun k m e => m = 0 ∧ ∃ a b c, e = [some (.im (D (.list (i.map .str)))), some (.im (D (eR (rowsN i k)))), a, b, c, none])
    ⟨rfl, _, _, _, rfl⟩ (fun k m e hk iv => ?_) (fun m e iv => ?_))
  · obtain ⟨rfl, a, b, c, rfl⟩ := iv
    refine ⟨_, _, tg_name, ?_⟩
    have rl := rowsN_len nle k (by omega)
    have rs := fun r => rowsN_sub (ns := i) k r
    show Sj none 0 [some (.im (D (.list (i.map .str)))), some (.im (D (eR (rowsN i k)))), some (.im (D (.int k))), b, c, none] _ _
    have e9 : rowsN i (k + 1) = (rowsN i k).flatMap (longer i) := rfl
    rw [e9]
    generalize rowsN i k = X at rl rs ⊢
    refine sj_seq (sj_asg ((pu_lst pa_n (by simp)).le (ln_D (ds := []))) ?_)
    show Sj none 0 [some (.im (D (.list (i.map .str)))), some (.im (D (.list (X.map eS)))), some (.im (D (.int k))), some (.im (D (eR ((X.take 0).flatMap (longer i))))), c, none] _ _
    refine sj_seq (sj_forE (enc := eS) (xs := X) (pu_var rfl) (fun j m e => m = 0 ∧ ∃ c, e = [some (.im (D (.list (i.map .str)))), some (.im (D (.list (X.map eS)))), some (.im (D (.int k))), some (.im (D (eR ((X.take j).flatMap (longer i))))), c, none])
      ⟨rfl, _, rfl⟩ (fun j r m e hr iv => ?_) (fun m e iv => ?_))
    · obtain ⟨rfl, c, rfl⟩ := iv
      refine ⟨_, _, tg_name, ?_⟩
      have hm := List.mem_of_getElem? hr
      obtain ⟨r1, r2, r3⟩ := rs r hm
      have fl := flat_long nle (X.take j)
      rw [List.length_take] at fl
      rw [flatMap_take (longer i) hr]
      generalize (X.take j).flatMap (longer i) = Y at fl ⊢
      show Sj none 0 [some (.im (D (.list (i.map .str)))), some (.im (D (.list (X.map eS)))), some (.im (D (.int k))), some (.im (D (.list (Y.map eS)))), some (.im (D (.list (r.map .str)))), none] _ _
      have e1 : ∀ x : Str, (PyData.list (r.map .str ++ [.str x])) = eS (r ++ [x]) := fun x => by
        unfold eS
        rw [List.map_append]
        rfl
      have e2 : (PyData.list (Y.map eS ++ (i.filter fun n => !decide (n ∈ r)).map fun n => eS (r ++ [n]))) = eR (Y ++ longer i r) := by
        unfold eR longer
        rw [List.map_append, List.map_map]
        rfl
      refine sj_asg ((pu_op (pu_var rfl) ((pu_lcE (enc := PyData.str) (xs := i) (pu_var rfl) [5] (by simp) (by omega) (fun n => !decide (n ∈ r)) (fun n => D (eS (r ++ [n])))
        (fun n hn => ⟨_, tg_name, qt_test (pu_op (pu_var rfl) (pu_var rfl) rv_niS), fun _ => (pu_op (pu_var rfl) ((pu_lst (pa_c (pu_var rfl) pa_n) (by simp)).le (ln_D (ds := [.str n]))) (rv_addL (by
          rw [List.length_map]
          simp
          omega))).le (le_D (e1 n))⟩)).le (ln_mapD (enc := fun n => eS (r ++ [n])) fun _ _ => Ty.le.rfl')) (rv_addL (by
            have := List.length_filter_le (fun n => !decide (n ∈ r)) i
            rw [List.length_map, List.length_map]
            omega))).le (le_D e2)) ⟨rfl, _, rfl⟩
    · obtain ⟨rfl, c, rfl⟩ := iv
      rw [List.take_length]
      exact sj_asg (pu_var rfl) ⟨rfl, _, _, _, rfl⟩
  · obtain ⟨rfl, a, b, c, rfl⟩ := iv
    exact sj_ret (pu_var rfl) Ty.le.rfl'
theorem filter_take {α : Type} (p : α → Bool) {xs : List α} {i : Nat} {x : α} (h : xs[i]? = some x) : (xs.take (i + 1)).filter p = (xs.take i).filter p ++ if p x = true then [x] else [] := by
  rw [List.take_succ, h, List.filter_append]
  congr 1
  cases q : p x <;> simp [q]
abbrev N_l_kept_rows : List Str := ["_law_names_here", "_law_lines", "_law_wishes", "_law_found", "_law_row", "_law_lot", "_law_name"]
theorem sc_l_kept_rows : FnScope N_l_kept_rows ["_law_names_here", "_law_lines", "_law_wishes"] (defScope s_l_kept_rows) := ⟨rfl, rfl, rfl, by decide +kernel, rfl, by decide +kernel, by decide +kernel⟩
def spKept : Sp := Prp (ι := List Str × List Line × List Wish) (fun i => WsOk i.1 i.2.1 i.2.2) (fun i => [D (eS i.1), D (eLs i.2.1), D (eOs i.2.2)]) (fun i => D (eR (keptRows i.1 (offs i.2.1 i.2.2))))
theorem ok_l_kept_rows (T : Tx K mg) : Dn P w K mg base 3 "_law_kept_rows" ["_law_names_here", "_law_lines", "_law_wishes"] spKept := by
  have D_l_all_rows := ok_l_all_rows (P := P) (w := w) (base := base) T
  have D_l_offs := ok_l_offs (P := P) (w := w) (base := base) T
  have D_l_row_keeps := ok_l_row_keeps (P := P) (w := w) (base := base) T
  refine dn_mk T.fd_l_kept_rows T.g_l_kept_rows sc_l_kept_rows (prm_len fun _ => rfl) (fun _ _ _ _ _ _ us hl => match us, hl with | [_, _, _], _ => rfl) fun cdv A outer s H vs Q E hr hu64 hu65 h => ?_
  have nd := sc_l_kept_rows.nd
  refine ⟨_, (pss_cons (ps_set (i := 3) nd rfl (Or.inl rfl) (pe_lst pa_nil))
    (pss_cons (ps_for PassesOwn.never rfl (k_over K (pe_callD D_l_all_rows (hr.mono (by decide)) rfl (pa_cons (pv 0) pa_nil))) (pg_name (i := 4) nd rfl (Or.inr rfl))
     (pss_one (ps_if (pt_cmpR (k_eq K hu64) (pe_lc (own := [("_law_lot", 5), ("_law_name", 6)]) rfl nd (k_over K (pe_callD D_l_offs (hr.mono (by decide)) rfl (pa_cons (pv 1) (pa_cons (pv 2) pa_nil)))) (blkOk_by (own := [("_law_lot", 5), ("_law_name", 6)]) (N := N_l_kept_rows) (sc := defScope s_l_kept_rows) (by decide +kernel)) (fun _ _ _ _ _ => (k_tgt (n := 2) K rfl (pgs_cons (pg_name (i := 5) nd rfl (Or.inl rfl)) (pgs_cons (pg_name (i := 6) nd rfl (Or.inl rfl)) pgs_nil)))) (fun _ _ _ _ _ => (pts_one (pt_not (pt_val (pe_callD D_l_row_keeps (hr.mono (by decide)) rfl (pa_cons (pv 4) (pa_cons (pv 5) (pa_cons (pv 6) pa_nil)))))))) (fun _ _ _ _ _ => pe_int)) (pe_lst pa_nil) (nomark _)) (pss_one (ps_expr (k_bm K PySem.F.plainAttrs_list PySem.F.slot_list_append PySem.F.type_list_append mt_append (pv 3) (pa_cons (pv 4) pa_nil)))) pss_nil)))
    (pss_one (ps_ret (pv 3))))), fn_prm (E := E) h fun i hi => ?_⟩
  obtain ⟨ns, ls, ws⟩ := i
  have Z : WsOk ns ls ws := hi
  show Sj none 0 [some (.im (D (eS ns))), some (.im (D (eLs ls))), some (.im (D (eOs ws))), none, none, none, none] _ _
  have al := rowsN_len Z.N.le ns.length Z.N.le
  refine sj_seq (sj_acNew (by simp) ?_)
  show Sj none 0 [some (.im (D (eS ns))), some (.im (D (eLs ls))), some (.im (D (eOs ws))), some (.ac []), none, none, none] _ _
  refine sj_seq (sj_forE (enc := eS) (xs := allRows ns) (pu_call1 (ι := List Str) ns Z.N (pa_c (pu_var rfl) pa_n) (by exact ⟨sub_D, trivial⟩))
    (fun i m e => m = 0 ∧ ∃ a, e = [some (.im (D (eS ns))), some (.im (D (eLs ls))), some (.im (D (eOs ws))), some (.ac ((((allRows ns).take i).filter (rowKeeps (offs ls ws))).map eS)), a, none, none]) ⟨rfl, _, rfl⟩ (fun i r m e hr iv => ?_) (fun m e iv => ?_))
  · obtain ⟨rfl, a, rfl⟩ := iv
    have hm := List.mem_of_getElem? hr
    have R := rows_ok Z.N hm
    refine ⟨_, _, tg_name, ?_⟩
    have O := Z.oo
    show Sj none 0 [some (.im (D (eS ns))), some (.im (D (eLs ls))), some (.im (D (eOs ws))), some (.ac ((((allRows ns).take i).filter (rowKeeps (offs ls ws))).map eS)), some (.im (D (eS r))), none, none] _ _
    refine sj_if (qt_test (pu_isNil ((pu_lcE (enc := eO) (xs := offs ls ws) (pu_call1 (ι := List Str × List Line × List Wish) (ns, ls, ws) Z (pa_c (pu_var rfl) (pa_c (pu_var rfl) pa_n)) (by exact ⟨sub_D, sub_D, trivial⟩)) [5, 6] (by simp) (Nat.le_trans O.le (by decide)) (fun o => !!meets r (o.1 ++ [o.2]) o.2) (fun o => D (.int 1))
      (fun o ho => ⟨_, tg_tup (js := [5, 6]) rfl, qt_not (qt_B (pu_call1 (ι := List Str × List Str × Str) (r, o.1, o.2) (by
        obtain ⟨h1, h2, h3, h4, h5⟩ := offs_mem Z ho
        exact ⟨mt_row Z.N R h3 ⟨o.2, h3, by simp⟩, Nat.le_trans h4 (by decide)⟩) (pa_c (pu_var rfl) (pa_c (pu_var rfl) (pa_c (pu_var rfl) pa_n))) (by exact ⟨sub_D, sub_D, sub_D, trivial⟩))), fun _ => pu_int⟩)).le (ln_mapD (enc := fun _ : Off => PyData.int 1) fun _ _ => Ty.le.rfl')) (shaped_list (fun d hd => by
        obtain ⟨x, hx, rfl⟩ := List.mem_map.mp hd
        rfl) fun d hd => by
        obtain ⟨x, hx, rfl⟩ := List.mem_map.mp hd
        simp [PyData.depth]))) (fun hb => ?_) (fun hb => sj_next ⟨rfl, some (.im (D (eS r))), ?_⟩)
    · rw [isEmpty_map, filter_isEmpty] at hb
      have hk : rowKeeps (offs ls ws) r = true := by
        unfold rowKeeps
        simpa using hb.symm
      refine sj_acApp (ds := (((allRows ns).take i).filter (rowKeeps (offs ls ws))).map eS) rfl (pu_var rfl) ?_ ⟨rfl, some (.im (D (eS r))), ?_⟩
      · have h1 := List.length_filter_le (rowKeeps (offs ls ws)) ((allRows ns).take i)
        rw [List.length_take] at h1
        have h2 : (allRows ns).length ≤ 256 := al
        rw [List.length_map]
        omega
      · rw [filter_take _ hr, if_pos hk, List.map_append]
        rfl
    · rw [isEmpty_map, filter_isEmpty] at hb
      have hk : ¬ rowKeeps (offs ls ws) r = true := by
        unfold rowKeeps
        intro z
        simp only [Bool.not_not] at hb
        rw [z] at hb
        cases hb
      rw [filter_take _ hr, if_neg hk, List.append_nil]
  · obtain ⟨rfl, a, rfl⟩ := iv
    rw [List.take_length]
    refine sj_acFix 3 rfl ?_
    exact sj_ret (pu_var rfl) Ty.le.rfl'
abbrev N_l_is_stuck : List Str := ["_law_names_here", "_law_lines", "_law_wishes", "_law_value", "_law_name", "_law_held", "_law_lot"]
theorem sc_l_is_stuck : FnScope N_l_is_stuck ["_law_names_here", "_law_lines", "_law_wishes", "_law_value"] (defScope s_l_is_stuck) := ⟨rfl, rfl, rfl, by decide +kernel, rfl, by decide +kernel, by decide +kernel⟩
def spLStuck : Sp := Prp (ι := (List Str × List Line) × List Wish × List Str) (fun i => WsOk i.1.1 i.1.2 i.2.1 ∧ (∀ x ∈ i.2.2, okS x = true) ∧ i.2.2.length ≤ 1000) (fun i => [D (eS i.1.1), D (eLs i.1.2), D (eOs i.2.1), D (eS i.2.2)]) (fun i => D (.bool (stuckL i.1.1 (offs i.1.2 i.2.1) i.2.2)))
theorem ok_l_is_stuck (T : Tx K mg) : Dn P w K mg base 2 "_law_is_stuck" ["_law_names_here", "_law_lines", "_law_wishes", "_law_value"] spLStuck := by
  have D_l_is_part := ok_l_is_part (P := P) (w := w) (base := base) T
  have D_l_offs := ok_l_offs (P := P) (w := w) (base := base) T
  refine dn_mk T.fd_l_is_stuck T.g_l_is_stuck sc_l_is_stuck (prm_len fun _ => rfl) (fun _ _ _ _ _ _ us hl => match us, hl with | [_, _, _, _], _ => rfl) fun cdv A outer s H vs Q E hr hu64 hu65 h => ?_
  have nd := sc_l_is_stuck.nd
  refine ⟨_, (pss_cons (ps_if (PW.pt (pw_or (pt_cmpR (k_eq K hu64) (pv 3) (pe_lst pa_nil) (nomark _)) (pw_or1 (pt_cmpR (k_ne K hu64) (pe_lc (own := [("_law_name", 4)]) rfl nd (k_over K (pv 3)) (blkOk_by (own := [("_law_name", 4)]) (N := N_l_is_stuck) (sc := defScope s_l_is_stuck) (by decide +kernel)) (fun _ _ _ _ _ => (pg_name (i := 4) nd rfl (Or.inl rfl))) (fun _ _ _ _ _ => (pts_one (pt_cmpR (k_ni K hu65) (pv 4) (pv 0) (by rfl)))) (fun _ _ _ _ _ => (pv 4))) (pe_lst pa_nil) (nomark _))))) (pss_one (ps_ret pe_bl)) pss_nil)
    (pss_cons (ps_set (i := 5) nd rfl (Or.inr rfl) (pe_lc (own := [("_law_lot", 6), ("_law_name", 4)]) rfl nd (k_over K (pe_callD D_l_offs (hr.mono (by decide)) rfl (pa_cons (pv 1) (pa_cons (pv 2) pa_nil)))) (blkOk_by (own := [("_law_lot", 6), ("_law_name", 4)]) (N := N_l_is_stuck) (sc := defScope s_l_is_stuck) (by decide +kernel)) (fun _ _ _ _ _ => (k_tgt (n := 2) K rfl (pgs_cons (pg_name (i := 6) nd rfl (Or.inl rfl)) (pgs_cons (pg_name (i := 4) nd rfl (Or.inl rfl)) pgs_nil)))) (fun _ _ _ _ _ => (pts_one (pt_val (pe_callD D_l_is_part (hr.mono (by decide)) rfl (pa_cons (pv 6) (pa_cons (pv 3) pa_nil)))))) (fun _ _ _ _ _ => (pv 4))))
    (pss_one (ps_ret (pe_cmpR (k_eq K hu64) (pe_lc (own := [("_law_name", 4)]) rfl nd (k_over K (pv 3)) (blkOk_by (own := [("_law_name", 4)]) (N := N_l_is_stuck) (sc := defScope s_l_is_stuck) (by decide +kernel)) (fun _ _ _ _ _ => (pg_name (i := 4) nd rfl (Or.inl rfl))) (fun _ _ _ _ _ => (pts_one (pt_cmpR (k_ni K hu65) (pv 4) (pv 5) (by rfl)))) (fun _ _ _ _ _ => (pv 4))) (pe_lst pa_nil) (nomark _)))))), fn_prm (E := E) h fun i hi => ?_⟩
  obtain ⟨⟨ns, ls⟩, ws, v⟩ := i
  obtain ⟨Z, ok, le⟩ := hi
  have Z : WsOk ns ls ws := Z
  have le : v.length ≤ 1000 := le
  have ok : ∀ x ∈ v, okS x = true := ok
  have O := Z.oo
  have nle := Z.N.le
  show Sj none 0 [some (.im (D (.list (ns.map .str)))), some (.im (D (eLs ls))), some (.im (D (eOs ws))), some (.im (D (.list (v.map .str)))), none, none, none] _ _
  have smv : ∀ p : Str → Bool, SeqAt.shaped (.list ((v.filter p).map .str)) = true := fun p => (sm_S (Nat.le_trans (List.length_filter_le _ _) le) fun x hx => ok x (List.mem_filter.mp hx).1).shaped
  refine sj_seq (sj_if (qt_or (qt_test ((pu_isNil (pu_var rfl) (sm_S le ok).shaped).le (le_bool (isEmpty_map _ _)))) (fun _ => qt_test ((pu_notNil ((pu_lcE (enc := PyData.str) (xs := v) (pu_var rfl) [4] (by simp) (by omega) (fun n => !decide (n ∈ ns)) (fun n => D (.str n))
    (fun n hn => ⟨_, tg_name, qt_test (pu_op (pu_var rfl) (pu_var rfl) rv_niS), fun _ => pu_var rfl⟩)).le ln_SD) (smv _)).le (le_bool (by rw [isEmpty_map, filter_isEmpty])))))
    (fun hb => sj_ret pu_bl (le_bool ?_)) (fun hb => sj_next ?_))
  · show false = stuckL ns (offs ls ws) v
    unfold stuckL
    simp only [Bool.not_not] at hb
    rw [← hb]
    rfl
  · have hr : stuckL ns (offs ls ws) v = stuckS (offs ls ws) v := by
      unfold stuckL
      simp only [Bool.not_not] at hb
      rw [← hb]
      rfl
    show Sj none 0 [some (.im (D (.list (ns.map .str)))), some (.im (D (eLs ls))), some (.im (D (eOs ws))), some (.im (D (.list (v.map .str)))), none, none, none] _ { nx := _, m := _, rt := D (.bool (stuckL ns (offs ls ws) v)) }
    rw [hr]
    refine sj_seq (sj_asg ((pu_lcE (enc := eO) (xs := offs ls ws) (pu_call1 (ι := List Str × List Line × List Wish) (ns, ls, ws) Z (pa_c (pu_var rfl) (pa_c (pu_var rfl) pa_n)) (by exact ⟨sub_D, sub_D, trivial⟩)) [6, 4] (by simp) (Nat.le_trans O.le (by decide)) (fun o => o.1.all fun n => decide (n ∈ v)) (fun o => D (.str o.2))
      (fun o ho => ⟨_, tg_tup (js := [6, 4]) rfl, qt_B (pu_call1 (ι := List Str × List Str) (o.1, v) (by exact ⟨(O.ok o ho).1, (O.ok o ho).2.1⟩) (pa_c (pu_var rfl) (pa_c (pu_var rfl) pa_n)) (by exact ⟨sub_D, sub_D, trivial⟩)), fun _ => pu_var rfl⟩)).le (ln_mapD (enc := fun o : Off => PyData.str o.2) fun _ _ => Ty.le.rfl')) ?_)
    have eh : (PyData.list (((offs ls ws).filter fun o => o.1.all fun n => decide (n ∈ v)).map fun o : Off => PyData.str o.2)) = .list ((held (offs ls ws) v).map .str) := by
      unfold held
      rw [List.map_map]
      rfl
    rw [eh]
    show Sj none 0 [some (.im (D (.list (ns.map .str)))), some (.im (D (eLs ls))), some (.im (D (eOs ws))), some (.im (D (.list (v.map .str)))), none, some (.im (D (.list ((held (offs ls ws) v).map .str)))), none] _ _
    refine sj_ret (pu_isNil ((pu_lcE (enc := PyData.str) (xs := v) (pu_var rfl) [4] (by simp) (by omega) (fun n => !decide (n ∈ held (offs ls ws) v)) (fun n => D (.str n))
      (fun n hn => ⟨_, tg_name, qt_test (pu_op (pu_var rfl) (pu_var rfl) rv_niS), fun _ => pu_var rfl⟩)).le ln_SD) (smv _)) (le_bool ?_)
    rw [isEmpty_map, filter_isEmpty]
    simp only [Bool.not_not]
    rfl
abbrev N_l_first_bar : List Str := ["_law_names_here", "_law_lines", "_law_rest_here", "_law_line_here"]
theorem sc_l_first_bar : FnScope N_l_first_bar ["_law_names_here", "_law_lines"] (defScope s_l_first_bar) := ⟨rfl, rfl, rfl, by decide +kernel, rfl, by decide +kernel, by decide +kernel⟩
def spLBar : Sp := Prp (ι := List Str × List Line) (fun i => Bo i.1 i.2) (fun i => [D (eS i.1), D (eLs i.2)]) (fun i => D (lBarD i.1 i.2))
theorem ok_l_first_bar (T : Tx K mg) : Dn P w K mg base 3 "_law_first_bar" ["_law_names_here", "_law_lines"] spLBar := by
  have D_l_calls := ok_l_calls (P := P) (w := w) (base := base) T
  have D_l_rest := ok_l_rest (P := P) (w := w) (base := base) T
  refine dn_mk T.fd_l_first_bar T.g_l_first_bar sc_l_first_bar (prm_len fun _ => rfl) (fun _ _ _ _ _ _ us hl => match us, hl with | [_, _], _ => rfl) fun cdv A outer s H vs Q E hr hu64 hu65 h => ?_
  have nd := sc_l_first_bar.nd
  refine ⟨_, (pss_cons (ps_set (i := 2) nd rfl (Or.inl rfl) (pe_callD D_l_rest (hr.mono (by decide)) rfl (pa_cons (pv 0) (pa_cons (pv 1) (pa_cons (pe_lst pa_nil) pa_nil)))))
    (pss_cons (ps_if (pt_cmpR (k_ne K hu64) (pv 2) (pe_lst pa_nil) (nomark _)) (pss_one (ps_ret (pe_tup (pa_cons pe_non (pa_cons (pv 2) pa_nil))))) pss_nil)
    (pss_cons (ps_for PassesOwn.never rfl (k_over K (pe_callD D_l_calls (hr.mono (by decide)) rfl (pa_cons (pv 1) pa_nil))) (pg_name (i := 3) nd rfl (Or.inl rfl))
     (pss_cons (ps_set (i := 2) nd rfl (Or.inl rfl) (pe_callD D_l_rest (hr.mono (by decide)) rfl (pa_cons (pv 0) (pa_cons (pv 1) (pa_cons (pe_lst (pa_cons (pe_tup (pa_cons (pe_ix (k_ix K) (pv 3) pe_int (fun _ _ => rfl)) (pa_cons (pe_ix (k_ix K) (pv 3) pe_int (fun _ _ => rfl)) pa_nil))) pa_nil)) pa_nil)))))
     (pss_one (ps_if (pt_cmpR (k_ne K hu64) (pv 2) (pe_lst pa_nil) (nomark _)) (pss_one (ps_ret (pe_tup (pa_cons (pv 3) (pa_cons (pv 2) pa_nil))))) pss_nil))))
    (pss_one (ps_ret pe_non))))), fn_prm (E := E) h fun i hi => ?_⟩
  obtain ⟨ns, ls⟩ := i
  have Z : Bo ns ls := hi
  show Sj none 0 [some (.im (D (eS ns))), some (.im (D (eLs ls))), none, none] _ _
  refine sj_seq (sj_asg (pu_call1 (ι := List Str × List Line × List Wish) (ns, ls, []) Z.w0 (pa_c (pu_var rfl) (pa_c (pu_var rfl) (pa_c pu_ws0 pa_n))) (by exact ⟨sub_D, sub_D, sub_D, trivial⟩)) ?_)
  show Sj none 0 [some (.im (D (eS ns))), some (.im (D (eLs ls))), some (.im (D (.list ((lRest ns (offs ls [])).map .str)))), none] _ _
  have em : ∀ {xs : List Str} {b : Bool}, b = (!(xs.map PyData.str).isEmpty) → (b = true → xs ≠ []) ∧ (b = false → xs = []) := fun {xs b} h => by
    rw [isEmpty_map] at h
    subst h
    cases xs <;> simp
  refine sj_seq (sj_if (qt_test (pu_notNil (pu_var rfl) (sm_lrest Z.N _).shaped)) (fun hb => ?_) (fun hb => sj_next ?_))
  · have h1 := (em hb).1 rfl
    refine sj_ret (pu_tup (pa_c pu_non (pa_c (pu_var rfl) pa_n)) (by simp)) ((tn2D Ty.le.rfl' Ty.le.rfl').trans (le_D ?_))
    show _ = lBarD ns ls
    unfold lBarD
    rw [if_pos h1]
    rfl
  · have h1 := (em hb).2 rfl
    refine sj_seq (sj_forE (enc := eL) (xs := calls (sortL ls)) (pu_call1 (ι := List Str × List Line) (ns, ls) (by exact ⟨Z.N, Z.L, Z.ll⟩) (pa_c (pu_var rfl) pa_n) (by exact ⟨sub_D, trivial⟩))
      (fun i m e => m = 0 ∧ (∀ j l, j < i → (calls (sortL ls))[j]? = some l → lRest ns (offs ls (wishOf l)) = []) ∧ ∃ a b, e = [some (.im (D (eS ns))), some (.im (D (eLs ls))), a, b]) ⟨rfl, fun j l hj => absurd hj (Nat.not_lt_zero _), _, _, rfl⟩ (fun i l m e hl iv => ?_) (fun m e iv => ?_))
    · obtain ⟨rfl, no, a, b, rfl⟩ := iv
      have hm := List.mem_of_getElem? hl
      have L := Z.L l ((sortL_perm ls).mem_iff.mp (calls_mem hm))
      refine ⟨_, _, tg_name, ?_⟩
      show Sj none 0 [some (.im (D (eS ns))), some (.im (D (eLs ls))), a, some (.im (D (eL l)))] _ _
      refine sj_seq (sj_asg (pu_call1 (ι := List Str × List Line × List Wish) (ns, ls, wishOf l) (Z.w1 L) (pa_c (pu_var rfl) (pa_c (pu_var rfl) (pa_c (pu_ws1 (pu_var rfl)) pa_n))) (by exact ⟨sub_D, sub_D, sub_D, trivial⟩)) ?_)
      show Sj none 0 [some (.im (D (eS ns))), some (.im (D (eLs ls))), some (.im (D (.list ((lRest ns (offs ls (wishOf l))).map .str)))), some (.im (D (eL l)))] _ _
      refine sj_if (qt_test (pu_notNil (pu_var rfl) (sm_lrest Z.N _).shaped)) (fun hb => ?_) (fun hb => sj_next ⟨rfl, step_no hl ((em hb).2 rfl) no, _, _, rfl⟩)
      have h2 := (em hb).1 rfl
      refine sj_ret (pu_tup (pa_c (pu_var rfl) (pa_c (pu_var rfl) pa_n)) (by simp)) ((tn2D Ty.le.rfl' Ty.le.rfl').trans (le_D ?_))
      show _ = lBarD ns ls
      unfold lBarD
      rw [if_neg (by simpa using h1), find_at (p := fun l => decide (lRest ns (offs ls (wishOf l)) ≠ [])) hl (decide_eq_true h2) fun j y hj e => decide_eq_false (by simpa using no j y hj e)]
      rfl
    · obtain ⟨rfl, no, a, b, rfl⟩ := iv
      refine sj_ret pu_non (le_D ?_)
      show _ = lBarD ns ls
      unfold lBarD
      rw [if_neg (by simpa using h1), find_no (p := fun l => decide (lRest ns (offs ls (wishOf l)) ≠ [])) fun j y e => decide_eq_false (by simpa using all_no no j y e)]
abbrev N_l_is_bar : List Str := ["_law_names_here", "_law_lines", "_law_line_here", "_law_lot"]
theorem sc_l_is_bar : FnScope N_l_is_bar ["_law_names_here", "_law_lines", "_law_line_here", "_law_lot"] (defScope s_l_is_bar) := ⟨rfl, rfl, rfl, by decide +kernel, rfl, by decide +kernel, by decide +kernel⟩
def spLIsBar : Sp := Prp (ι := (List Str × List Line) × Option Line × List Str) (fun i => Bo i.1.1 i.1.2 ∧ (∀ l, i.2.1 = some l → Sm (eL l)) ∧ (∀ x ∈ i.2.2, okS x = true) ∧ i.2.2.length ≤ 1000) (fun i => [D (eS i.1.1), D (eLs i.1.2), D (eLo i.2.1), D (eS i.2.2)]) (fun i => D (.bool (lIsBar i.1.1 i.1.2 i.2.1 i.2.2)))
theorem ok_l_is_bar (T : Tx K mg) : Dn P w K mg base 3 "_law_is_bar" ["_law_names_here", "_law_lines", "_law_line_here", "_law_lot"] spLIsBar := by
  have D_l_calls := ok_l_calls (P := P) (w := w) (base := base) T
  have D_l_is_stuck := ok_l_is_stuck (P := P) (w := w) (base := base) T
  refine dn_mk T.fd_l_is_bar T.g_l_is_bar sc_l_is_bar (prm_len fun _ => rfl) (fun _ _ _ _ _ _ us hl => match us, hl with | [_, _, _, _], _ => rfl) fun cdv A outer s H vs Q E hr hu64 hu65 h => ?_
  have nd := sc_l_is_bar.nd
  refine ⟨_, (pss_cons (ps_if (pt_cmpR op_isN (pv 2) pe_non (nomark _)) (pss_one (ps_ret (pe_callD D_l_is_stuck (hr.mono (by decide)) rfl (pa_cons (pv 0) (pa_cons (pv 1) (pa_cons (pe_lst pa_nil) (pa_cons (pv 3) pa_nil))))))) pss_nil)
    (pss_one (ps_ret (pe_and (pe_cmpR (k_in K hu65) (pv 2) (pe_callD D_l_calls (hr.mono (by decide)) rfl (pa_cons (pv 1) pa_nil)) (by rfl)) (pe_one (pe_callD D_l_is_stuck (hr.mono (by decide)) rfl (pa_cons (pv 0) (pa_cons (pv 1) (pa_cons (pe_lst (pa_cons (pe_tup (pa_cons (pe_ix (k_ix K) (pv 2) pe_int (fun _ _ => rfl)) (pa_cons (pe_ix (k_ix K) (pv 2) pe_int (fun _ _ => rfl)) pa_nil))) pa_nil)) (pa_cons (pv 3) pa_nil)))))))))), fn_prm (E := E) h fun i hi => ?_⟩
  obtain ⟨⟨ns, ls⟩, lo, v⟩ := i
  obtain ⟨Z, sl, ok, le⟩ := hi
  have Z : Bo ns ls := Z
  show Sj none 0 [some (.im (D (eS ns))), some (.im (D (eLs ls))), some (.im (D (eLo lo))), some (.im (D (eS v)))] _ _
  cases lo with
  | none =>
    refine sj_seq (sj_if (B := (· = true)) (qt_test (pu_op (pu_var rfl) pu_non (rv_isN (d := .none)))) (fun hb => ?_) (fun hb => by cases hb))
    exact sj_ret (pu_call1 (ι := (List Str × List Line) × List Wish × List Str) ((ns, ls), [], v) (by exact ⟨Z.w0, ok, le⟩) (pa_c (pu_var rfl) (pa_c (pu_var rfl) (pa_c pu_ws0 (pa_c (pu_var rfl) pa_n)))) (by exact ⟨sub_D, sub_D, sub_D, sub_D, trivial⟩)) Ty.le.rfl'
  | some l =>
    refine sj_seq (sj_if (B := (· = false)) (qt_test (pu_op (pu_var rfl) pu_non (rv_isN (d := eL l)))) (fun hb => by cases hb) (fun hb => sj_next ?_))
    have sml := sl l rfl
    have sc : SeqAt.shaped (.list ((calls (sortL ls)).map eL)) = true := shL fun l hl => (Z.L l ((sortL_perm ls).mem_iff.mp (calls_mem hl))).sm Z.N
    refine sj_ret (pu_andV ((pu_op (pu_var rfl) (pu_call1 (ι := List Str × List Line) (ns, ls) (by exact ⟨Z.N, Z.L, Z.ll⟩) (pa_c (pu_var rfl) pa_n) (by exact ⟨sub_D, trivial⟩)) (rv_inD sml.shaped sc)).le (le_bool (any_L l _))) (fun ha => ?_)) Ty.le.rfl'
    have hc := of_decide_eq_true ha
    exact pu_call1 (ι := (List Str × List Line) × List Wish × List Str) ((ns, ls), wishOf l, v) (by exact ⟨Z.w1 (Z.L l ((sortL_perm ls).mem_iff.mp (calls_mem hc))), ok, le⟩) (pa_c (pu_var rfl) (pa_c (pu_var rfl) (pa_c (pu_ws1 (pu_var rfl)) (pa_c (pu_var rfl) pa_n)))) (by exact ⟨sub_D, sub_D, sub_D, sub_D, trivial⟩)
end
end Cp
set_option Elab.async false
set_option linter.all false
set_option maxRecDepth 100000
set_option maxHeartbeats 1000000
/-! H2: purses: reading, writing; numbers. -/
namespace Cp
open PySem L2 PySem.Spec PyProof.Rows
abbrev rTimes : L2.R2 := rI CMul fun i j => .int (i * j)
abbrev rRest : L2.R2 := rI (fun _ j => 0 < j) fun i j => .int (i % j)
abbrev rOver : L2.R2 := rI CDiv fun i j => .int (i / j)
def CPowA (i j : Int) : Prop := 0 ≤ j ∧ (Builtin.Int.intBits i : Int) * j ≤ 2 ^ 27
abbrev rPowA : L2.R2 := rI CPowA fun i j => .int (i ^ j.toNat)
section
variable {X : Cx}
theorem op_times : OpR X (binaryOp .Mult) rTimes := op_mul
theorem op_rest : OpR X (binaryOp .Mod) rRest := op_mod
theorem op_div : OpR X (binaryOp .FloorDiv) rOver := op_fdiv
theorem op_powA : OpR X (binaryOp .Pow) rPowA := opI fun _ _ _ _ _ _ _ hc q => PyProof.Rows.pow_int hc.1 hc.2 q
end
/-- some number of a kind -/
def IntW (B : Int → Prop) : Ty := Ex fun i : Int => Wh (B i) (D (.int i))
/-- some natural of a kind -/
def NatW (B : Nat → Prop) : Ty := Ex fun i : Nat => Wh (B i) (D (.int (i : Nat)))
section
variable {K : PySem.W.Frag} {T1 T2 T T' : Ty} {pu : Option Addr} {n n1 n2 n3 m : Nat} {env : Env'} {te ta tb : TE}
theorem rv_res {r : L2.R2} (h : RV r T1 T2 T) (l : T.le T') : RV r T1 T2 T' := fun pu n G0 G H x y g s h1 h2 Q q => h pu n G0 G H x y g s h1 h2 Q fun v G' H' g' r' => q v G' H' g' (l _ _ _ r')
theorem le_intW {B : Int → Prop} {i : Int} (h : B i) : (D (.int i)).le (IntW B) := le_ex i (le_wh h Ty.le.rfl')
theorem le_natW {B : Nat → Prop} {i : Nat} (h : B i) : (D (.int (i : Nat))).le (NatW B) := le_ex i (le_wh h Ty.le.rfl')
theorem int_nat {B : Int → Prop} {C : Nat → Prop} (h : ∀ i, B i → 0 ≤ i ∧ C i.toNat) : (IntW B).le (NatW C) := ex_le fun i => wh_le fun hi => by
  obtain ⟨h1, h2⟩ := h i hi
  have e : i = ((i.toNat : Nat) : Int) := by omega
  have := le_natW (B := C) h2
  rw [← e] at this
  exact this
theorem rv_int2 {r : L2.R2} {A B C : Int → Prop} {f : Int → Int → Int} (h : ∀ i j, A i → B j → RV r (D (.int i)) (D (.int j)) (D (.int (f i j))) ∧ C (f i j)) : RV r (IntW A) (IntW B) (IntW C) :=
  rv_ex1 fun i => rv_wh1 fun hi => rv_ex2 fun j => rv_wh2 fun hj => rv_res (h i j hi hj).1 (le_intW (h i j hi hj).2)
theorem rv_times {i j : Int} (h : CMul i j) : RV rTimes (D (.int i)) (D (.int j)) (D (.int (i * j))) := fun pu n G0 G H x y g _ h1 h2 Q q => ⟨i, j, dq_int h1, dq_int h2, h, q _ G H g (.int _)⟩
theorem rv_rest {i j : Int} (h : 0 < j) : RV rRest (D (.int i)) (D (.int j)) (D (.int (i % j))) := fun pu n G0 G H x y g _ h1 h2 Q q => ⟨i, j, dq_int h1, dq_int h2, h, q _ G H g (.int _)⟩
theorem rv_over {i j : Int} (h : CDiv i j) : RV rOver (D (.int i)) (D (.int j)) (D (.int (i / j))) := fun pu n G0 G H x y g _ h1 h2 Q q => ⟨i, j, dq_int h1, dq_int h2, h, q _ G H g (.int _)⟩
theorem rv_pow {i j : Int} (h : CPowA i j) : RV rPowA (D (.int i)) (D (.int j)) (D (.int (i ^ j.toNat))) := fun pu n G0 G H x y g _ h1 h2 Q q => ⟨i, j, dq_int h1, dq_int h2, h, q _ G H g (.int _)⟩
theorem pu_bits {i : Int} (h : Pu pu n n1 env te (D (.int i))) : Pu pu n n1 env (tBits te) (D (.int (Builtin.Int.intBits i : Nat))) := fun G0 H0 σ G H a e Q q =>
  h G0 H0 σ G H a e _ fun v G' H' b r => ⟨i, dq_int r, q _ G' H' b (.int _)⟩
/-! a purse's places -/
variable {p : Addr} {i : Nat}
theorem pu_purse {k : Nat} {B : Int → Prop} (hi : env[i]? = some (some (.im (Vv (.ref p))))) (hB : ∀ {H : Hp}, PurseAt H p n → ∃ xs v, H p = some (.lst xs) ∧ xs[k]? = some (.int v) ∧ B v) :
    Pu (some p) n n env (tOp (rIx K) (tVar i) (tC (.int (k : Nat)))) (IntW B) := fun G0 H0 σ G H a e Q q => by
  obtain ⟨w, hw, hv⟩ := e.getIm hi
  cases (show w = _ from hv)
  obtain ⟨xs, v, h1, h2, h3⟩ := hB (a.w p rfl).2
  exact ⟨.ref p, hw, .inl ⟨p, xs, k, .int v, rfl, rfl, .inl (.inl h1), atI_of h2, q _ G H a.here ⟨v, h3, .int v⟩⟩⟩
theorem pu_p0 (hi : env[i]? = some (some (.im (Vv (.ref p))))) : Pu (some p) n n env (tOp (rIx K) (tVar i) (tC (.int 0))) (IntW fun a => 0 ≤ a ∧ a.natAbs < 2 ^ 1600) := pu_purse (k := 0) hi fun ⟨a, b, c, d, h1, h2, h3, h4, h5⟩ => ⟨_, a, h1, rfl, h2⟩
theorem pu_p1 (hi : env[i]? = some (some (.im (Vv (.ref p))))) : Pu (some p) n n env (tOp (rIx K) (tVar i) (tC (.int 1))) (IntW fun b => 0 ≤ b ∧ b < 2147483629) := pu_purse (k := 1) hi fun ⟨a, b, c, d, h1, h2, h3, h4, h5⟩ => ⟨_, b, h1, rfl, h3⟩
theorem pu_p2 (hi : env[i]? = some (some (.im (Vv (.ref p))))) : Pu (some p) n n env (tOp (rIx K) (tVar i) (tC (.int 2))) (IntW fun c => 0 ≤ c ∧ c ≤ n) := pu_purse (k := 2) hi fun ⟨a, b, c, d, h1, h2, h3, h4, h5⟩ => ⟨_, c, h1, rfl, h4⟩
theorem pu_p3 (hi : env[i]? = some (some (.im (Vv (.ref p))))) : Pu (some p) n n env (tOp (rIx K) (tVar i) (tC (.int 3))) (IntW fun d => 0 ≤ d ∧ d ≤ 63) := pu_purse (k := 3) hi fun ⟨a, b, c, d, h1, h2, h3, h4, h5⟩ => ⟨_, d, h1, rfl, h5⟩
/-- the purse changes -/
theorem Gr.purse {G0 H0 G H : Hp} {o : HO} (a : Gr (some p) n G0 H0 G H) (h : PurseAt (upd H p o) p m) : Gr (some p) m G0 H0 G (upd H p o) where
  g := a.g
  s := fun b u e => by
    rw [upd_ne (ne_of_none e (a.w p rfl).1)]
    exact a.s _ _ e
  h := fun b u hb e => by
    rw [upd_ne (fun z => hb (by rw [z]))]
    exact a.h b u hb e
  nw := a.nw
  w := fun q e => by
    cases e
    exact ⟨(a.w p rfl).1, h⟩
theorem EnvOk.purse {G0 H0 G H : Hp} {σ : L2.St} {o : HO} (e : EnvOk (some p) G0 H0 G H σ env) : EnvOk (some p) G0 H0 G (upd H p o) σ env := by
  refine ⟨e.len, fun i s hi => ?_, e.uq⟩
  obtain ⟨v, h1, h2⟩ := e.at_ i s hi
  refine ⟨v, h1, ?_⟩
  cases s with
  | im T => exact h2
  | ac ds =>
    obtain ⟨l, vs, e1, e2, e3, e4, e5, e6⟩ := h2
    exact ⟨l, vs, e1, e2, e3, e4, by rw [upd_ne (fun z => e4 (by rw [z]))]; exact e5, e6⟩
theorem sj_pset {k : Nat} {B : Int → Prop} {O : Out} (h : Pu (some p) n n1 env te (IntW B)) (hi : env[i]? = some (some (.im (Vv (.ref p))))) (hB : ∀ {H : Hp} {v : Int}, PurseAt H p n1 → B v → ∃ xs, H p = some (.lst xs) ∧ ixN xs.length (k : Nat) = some k ∧ ∀ H', H' p = some (.lst (xs.set k (.int v))) → PurseAt H' p m)
    (q : O.nx m env) : Sj (some p) n env (tAsg te (gSub (tVar i) (tC (.int (k : Nat))) rSetL)) O := fun G0 H0 σ G H a e E h1 _ _ _ =>
  h G0 H0 σ G H a e _ fun v G1 H1 b ⟨x, hx, r⟩ => by
    obtain ⟨w, hw, hv⟩ := e.getIm hi
    cases (show w = _ from hv)
    have ab := a.trans b
    obtain ⟨xs, g1, g2, g3⟩ := hB (ab.w p rfl).2 hx
    refine ⟨.ref p, hw, p, xs, k, k, rfl, rfl, g1, g2, ?_⟩
    rw [dq_int r]
    exact h1 _ _ _ G1 _ q (ab.purse (g3 _ upd_same)) b.g (e.keep b).purse
theorem sj_pset0 {O : Out} (h : Pu (some p) n n1 env te (IntW fun a => 0 ≤ a ∧ a.natAbs < 2 ^ 1600)) (hi : env[i]? = some (some (.im (Vv (.ref p))))) (q : O.nx n1 env) : Sj (some p) n env (tAsg te (gSub (tVar i) (tC (.int 0)) rSetL)) O :=
  sj_pset (k := 0) h hi (fun ⟨a, b, c, d, h1, h2, h3, h4, h5⟩ hv => ⟨_, h1, rfl, fun H' e => ⟨_, b, c, d, e, hv, h3, h4, h5⟩⟩) q
theorem sj_pset2 {O : Out} (h : Pu (some p) n n1 env te (IntW fun c => 0 ≤ c ∧ c ≤ (m : Int))) (hi : env[i]? = some (some (.im (Vv (.ref p))))) (q : O.nx m env) : Sj (some p) n env (tAsg te (gSub (tVar i) (tC (.int 2)) rSetL)) O :=
  sj_pset (k := 2) h hi (fun ⟨a, b, c, d, h1, h2, h3, h4, h5⟩ hv => ⟨_, h1, rfl, fun H' e => ⟨a, b, _, d, e, h2, h3, hv, h5⟩⟩) q
/-! a loop of unknown length -/
def PuIX (pu : Option Addr) (n n' : Nat) (env : Env') (wi : TI) (B : Nat → Prop) (T : Nat → Ty) : Prop :=
  ∀ (G0 H0 : Hp) (σ : L2.St) (G H : Hp), Gr pu n G0 H0 G H → EnvOk pu G0 H0 G H σ env → ∀ R : It → Hp → Prop, (∀ L J G' H', B L → Gr pu n' G H G' H' → Wk pu G0 J L T G' → R J H') → wi σ H R
theorem pi_R1X {ta : TE} {B : Nat → Prop} (h : Pu pu n n1 env ta (NatW B)) (hk : ∀ k, B k → k ≤ 100000) : PuIX pu n n1 env (iRng1 (tCons ta tNil)) B (fun i => D (.int (i : Nat))) := fun G0 H0 σ G H a e R r =>
  h G0 H0 σ G H a e _ fun v G' H' b ⟨k, hB, hv⟩ => by
    have := hk k hB
    rw [dq_int hv]
    refine ⟨k, rfl, by omega, by omega, r k _ G' H' hB b fun m G2 S2 g2 s2 => ⟨fun i hi => ⟨by show i < ((k : Int)).toNat; omega, fun x H'' y => ?_⟩, by show ((k : Int)).toNat ≤ k; omega⟩⟩
    obtain ⟨e1, e2⟩ := y
    subst e1
    refine ⟨G2, g2, ?_⟩
    rw [e2, Int.zero_add]
    exact .int _
theorem sj_forX {wi : TI} {g : TG} {tb : TS} {B : Nat → Prop} {T : Nat → Ty} {O : Out} (hI : PuIX pu n n1 env wi B T) (Iv : Nat → Nat → Env' → Prop) (h0 : Iv 0 n1 env)
    (hs : ∀ L i m e, B L → i < L → Iv i m e → ∃ js e', Tg js g (T i) e e' ∧ Sj pu m e' tb { nx := Iv (i + 1), ct := Iv (i + 1), bk := O.nx, m := O.m, rt := O.rt })
    (hd : ∀ L m e, B L → Iv L m e → O.nx m e) : Sj pu n env (tFor wi g tb) O := fun G0 H0 σ G H a e E k1 k2 k3 k4 =>
  hI G0 H0 σ G H a e _ fun L J G1 S1 hB b wk => by
    refine ⟨fun i mm σ' H' => mm = L - i ∧ i ≤ L ∧ ∃ m e' G', Iv i m e' ∧ Gr pu m G0 H0 G' H' ∧ EnvOk pu G0 H0 G' H' σ' e' ∧ Same G1 G', ⟨L, by simp, Nat.zero_le _, n1, env, G1, h0, a.trans b, e.keep b, Same.refl _⟩, ?_⟩
    rintro i mm σ' H' ⟨rfl, hi, m, e', G', iv, ga, ea, sa⟩
    obtain ⟨w1, w2⟩ := wk m G' H' ga.here sa
    by_cases hlt : i < L
    · obtain ⟨go, yl⟩ := w1 i hlt
      refine .inr ⟨go, fun σ2 H2 => ∃ m e' G', Iv (i + 1) m e' ∧ Gr pu m G0 H0 G' H2 ∧ EnvOk pu G0 H0 G' H2 σ2 e' ∧ Same G1 G', fun σ2 H2 ⟨m2, e2, G2, q⟩ => ⟨L - (i + 1), by omega, rfl, hlt, m2, e2, G2, q⟩, fun x H'' y => ?_⟩
      obtain ⟨G'', g2, t2⟩ := yl x H'' y
      obtain ⟨js, e2, tg, sj⟩ := hs L i m e' hB hlt iv
      refine tg pu m G0 H0 G'' H'' σ' x g2.here (ea.keep g2) t2 _ fun σ3 e3 _ => ?_
      refine sj.grown ((sa.trans g2.g)) (ga.trans g2) e3 ?_ ?_ ?_ ?_
      · exact fun n' env' σ4 G4 H4 iv4 g4 s4 e4 => ⟨n', env', G4, iv4, g4, e4, s4⟩
      · exact fun n' env' σ4 G4 H4 iv4 g4 s4 e4 => k1 _ _ _ _ _ iv4 g4 (b.g.trans s4) e4
      · exact fun n' env' σ4 G4 H4 iv4 g4 s4 e4 => ⟨n', env', G4, iv4, g4, e4, s4⟩
      · exact k4
    · have ei : i = L := by omega
      subst ei
      exact .inl ⟨w2, k1 _ _ σ' G' H' (hd _ _ _ hB iv) ga (b.g.trans sa) ea⟩
end
end Cp
set_option Elab.async false
set_option linter.all false
set_option maxRecDepth 100000
set_option maxHeartbeats 2000000
/-! P9: draws. -/
namespace Cp
open PySem L2 PySem.Spec PyProof.Rows
section
variable {K : PySem.W.Frag} {pu : Option Addr} {n n1 n2 n3 : Nat} {env : Env'} {te : TE} {tl th : TO}
theorem sj_asgXW {ι : Type} {B : ι → Prop} {f : ι → Ty} {i : Nat} {O : Out} (h : Pu pu n n1 env te (Ex fun x => Wh (B x) (f x))) (k : ∀ x, B x → O.nx n1 (env.set i (some (.im (f x))))) : Sj pu n env (tAsg te (gName i)) O := fun G0 H0 σ G H a e E h1 _ _ _ =>
  h G0 H0 σ G H a e _ fun v G' H' b ⟨x, hx, r⟩ => h1 _ _ _ G' H' (k x hx) (a.trans b) b.g ((e.keep b).setIm i r)
theorem sj_openXW {ι : Type} {B : ι → Prop} {f : ι → Ty} {t : TS} {O : Out} (i : Nat) (hi : env[i]? = some (some (.im (Ex fun x => Wh (B x) (f x))))) (k : ∀ x, B x → Sj pu n (env.set i (some (.im (f x)))) t O) : Sj pu n env t O := fun G0 H0 σ G H a e E h1 h2 h3 h4 => by
  obtain ⟨v, hv, x, hB, hx⟩ := e.getIm hi
  have e2 := e.setIm i (v := v) (T := f x) hx
  rw [set_same hv] at e2
  exact k x hB G0 H0 σ G H a e2 E h1 h2 h3 h4
theorem rc_ex1 {ι : Type} {r : List V → Hp → VK → Prop} {f : ι → Ty} {R : Ty} (h : ∀ i, RC r [f i] R) : RC r [Ex f] R := fun pu n G0 G H vs g s ht Q q => by
  obtain ⟨v, rfl, i, hi⟩ := tys1 ht
  exact h i pu n G0 G H [v] g s ⟨hi, trivial⟩ Q q
theorem rc_wh1 {p : Prop} {r : List V → Hp → VK → Prop} {T : Ty} {R : Ty} (h : p → RC r [T] R) : RC r [Wh p T] R := fun pu n G0 G H vs g s ht Q q => by
  obtain ⟨v, rfl, hp, hi⟩ := tys1 ht
  exact h hp pu n G0 G H [v] g s ⟨hi, trivial⟩ Q q
theorem rc_res {r : List V → Hp → VK → Prop} {Rs : List Ty} {R R' : Ty} (h : RC r Rs R) (l : R.le R') : RC r Rs R' := fun pu n G0 G H vs g s ht Q q => h pu n G0 G H vs g s ht Q fun v G' H' g' r' => q v G' H' g' (l _ _ _ r')
/-- x[:k] of some list -/
theorem pu_uptoX {B : List PyData → Prop} {C : Nat → Prop} (h : Pu pu n n1 env te (Ex fun ds => Wh (B ds) (D (.list ds)))) (hl : PuO pu n1 n1 env tl (· = none)) (hh : PuO pu n1 n2 env th fun o => ∃ k : Nat, o = some (k : Int) ∧ C k) :
    Pu pu n n2 env (tSl (rSlL K) te tl th) (Ex fun es => Wh (∃ ds k, B ds ∧ C k ∧ es = ds.take k) (D (.list es))) := fun G0 H0 σ G H a e Q q =>
  h G0 H0 σ G H a e _ fun x G1 S1 b1 ⟨ds, hB, r1⟩ => hl G0 H0 σ G1 S1 (a.trans b1) (e.keep b1) _ fun o G2 S2 b2 ho => hh G0 H0 σ G2 S2 ((a.trans b1).trans b2) ((e.keep b1).keep b2) _ fun o2 G3 S3 b3 ho2 => by
    obtain ⟨k, hk, hC⟩ := ho2
    obtain ⟨l, vs, rfl, _, hv, dv⟩ := dq_list r1
    subst ho hk
    refine ⟨l, vs, rfl, .inl (.inl (b3.s _ _ (b3.g _ _ (b2.g _ _ hv)))), fun p hp => ?_⟩
    have gn := b3.new (o := .lst (cutV vs none (some (k : Int)))) hp
    have dd := (dv.mono ((b2.g.trans b3.g).trans gn.g) fun _ z => z).take k
    have e1 := cutV_upto vs k
    exact q _ _ _ (((b1.trans b2).trans b3).trans gn) ⟨ds.take k, ⟨ds, k, hB, hC, rfl⟩, .lst trivial upd_same (by rw [e1] at dd ⊢; exact dd)⟩
theorem po_sN {B : Nat → Prop} (h : Pu pu n n1 env te (NatW B)) : PuO pu n n1 env (tPart te) (fun o => ∃ k : Nat, o = some (k : Int) ∧ B k) := fun G0 H0 σ G H a e Q q => h G0 H0 σ G H a e _ fun v G' H' b ⟨i, hi, r⟩ => ⟨i, dq_int r, q _ G' H' b ⟨i, rfl, hi⟩⟩
/-! a tuple of values stored to names -/
def setsT (e : Env') : List Nat → List Ty → Env'
  | j :: js, T :: Ts => setsT (e.set j (some (.im T))) js Ts
  | _, _ => e
theorem tg_listT {js : List Nat} : ∀ {Ts : List Ty} {vs : List V} {e : Env'} {pu : Option Addr} {n : Nat} {G0 H0 G H : Hp} {σ : L2.St}, Ts.length = js.length → Tys G0 G vs Ts → EnvOk pu G0 H0 G H σ e → ∀ Q : L2.St → Hp → Prop,
    (∀ σ', EnvOk pu G0 H0 G H σ' (setsT e js Ts) → (∀ ws : List Nat, (∀ j ∈ js, j ∈ ws) → L2.wipe σ' ws = L2.wipe σ ws) → Q σ' H) → gNames js vs σ H Q := by
  induction js with
  | nil =>
    intro ds vs e pu n G0 H0 G H σ hl hd he Q q
    cases ds with
    | nil =>
      cases vs with
      | nil => exact ⟨rfl, q σ he fun _ _ => rfl⟩
      | cons _ _ => exact hd.elim
    | cons _ _ => cases hl
  | cons j js ih =>
    intro ds vs e pu n G0 H0 G H σ hl hd he Q q
    cases ds with
    | nil => cases hl
    | cons T Ts =>
      cases vs with
      | nil => exact hd.elim
      | cons v vs =>
        refine ⟨_, _, rfl, ?_⟩
        exact ih (n := n) (by simpa using hl) hd.2 (he.setIm j (T := T) hd.1) Q fun σ' e' hw => q σ' e' fun ws hws => by
          rw [hw ws fun x hx => hws x (List.mem_cons_of_mem _ hx), wipe_set (hws j List.mem_cons_self)]
theorem tg_tupT {js : List Nat} {Ts : List Ty} {e : Env'} (hl : Ts.length = js.length) : Tg js (gTup K js.length (gNames js)) (Tn Ts) e (setsT e js Ts) := fun pu n G0 H0 G H σ v g h t Q q => by
  obtain ⟨a, vs, rfl, _, ha, da⟩ := t
  exact ⟨a, vs, rfl, .inl (.inl (g.s _ _ ha)), by rw [da.len, hl], tg_listT (n := n) hl da h Q q⟩
theorem rv_ixX {ds : List PyData} {B : Nat → Prop} (hB : ∀ k, B k → k < ds.length) : RV (rIx K) (D (.list ds)) (NatW B) (Ex fun d => Wh (d ∈ ds) (D d)) := rv_ex2 fun k => rv_wh2 fun hk => rv_res (rv_ixL (List.getElem?_eq_getElem (hB k hk))) (le_ex _ (le_wh (List.getElem_mem _) Ty.le.rfl'))
theorem tys3 {G0 G : Hp} {vs : List V} {T U W : Ty} (h : Tys G0 G vs [T, U, W]) : ∃ v w u, vs = [v, w, u] ∧ T.p G0 v G ∧ U.p G0 w G ∧ W.p G0 u G := by
  match vs, h with
  | [v, w, u], h => exact ⟨v, w, u, rfl, h.1, h.2.1, h.2.2.1⟩
theorem natW_le {B C : Nat → Prop} (h : ∀ k, B k → C k) : (NatW B).le (NatW C) := ex_le fun k => wh_le fun hk => le_natW (h k hk)
/-- 1 + a drawn number -/
theorem rv_one {B : Nat → Prop} : RV rPlus (D (.int 1)) (NatW B) (NatW fun k => ∃ j, B j ∧ k = j + 1) := rv_ex2 fun j => rv_wh2 fun hj => rv_res rv_addI (by
  have e : (1 : Int) + (j : Nat) = ((j + 1 : Nat) : Int) := by omega
  rw [e]
  exact le_natW ⟨j, hj, rfl⟩)
end
section
variable {P : Program} {w : World} {K : PySem.W.Frag} {mg : Str → Option Value} {base : Heap}
abbrev N_l_mixed : List Str := ["_law_seed", "_law_turn", "_law_at", "_law_mixed_here"]
theorem sc_l_mixed : FnScope N_l_mixed ["_law_seed", "_law_turn", "_law_at"] (defScope s_l_mixed) := ⟨rfl, rfl, rfl, by decide +kernel, rfl, by decide +kernel, by decide +kernel⟩
def spMixed : Sp := Prp (ι := Int × Int × Int) (fun i => 0 ≤ i.2.1 ∧ i.2.1 ≤ 100000000) (fun i => [D (.int i.1), D (.int i.2.1), D (.int i.2.2)]) (fun i => IntW fun v => 0 ≤ v ∧ v < 2147483587)
theorem ok_l_mixed (T : Tx K mg) : Dn P w K mg base 1 "_law_mixed" ["_law_seed", "_law_turn", "_law_at"] spMixed := by
  refine dn_mk T.fd_l_mixed T.g_l_mixed sc_l_mixed (prm_len fun _ => rfl) (fun _ _ _ _ _ _ us hl => match us, hl with | [_, _, _], _ => rfl) fun cdv A outer s H vs Q E hr hu64 hu65 h => ?_
  have nd := sc_l_mixed.nd
  refine ⟨_, (pss_cons (ps_set (i := 3) nd rfl (Or.inl rfl) (pe_op op_plus (pe_op op_times (pv 0) pe_int) (pe_op op_times (pe_op op_times pe_int (pv 1)) (pv 1))))
    (pss_cons (ps_set (i := 3) nd rfl (Or.inl rfl) (pe_op op_rest (pe_op op_plus (pe_op op_plus (pv 3) (pe_op op_times pe_int (pv 2))) (pv 1)) pe_int))
    (pss_cons (ps_set (i := 3) nd rfl (Or.inl rfl) (pe_op op_rest (pe_op op_plus (pe_op op_times (pv 3) (pv 3)) pe_int) pe_int))
    (pss_one (ps_ret (pe_op op_rest (pe_op op_times (pv 3) pe_int) pe_int)))))), fn_prm (E := E) h fun i hi => ?_⟩
  obtain ⟨s, t, a⟩ := i
  obtain ⟨h1, h2⟩ := hi
  have h1 : 0 ≤ t := h1
  have h2 : t ≤ 100000000 := h2
  show Sj none 0 [some (.im (D (.int s))), some (.im (D (.int t))), some (.im (D (.int a))), none] _ _
  have cR : ∀ (x y : Int), 0 ≤ y → y < 3000000000 → CMul x y := fun x y h1 h2 => .inr ⟨by omega, by omega⟩
  have cL : ∀ (x y : Int), 0 ≤ x → x < 3000000000 → CMul x y := fun x y h1 h2 => .inl ⟨by omega, by omega⟩
  refine sj_seq (sj_asg (pu_op (pu_op (pu_var rfl) pu_int (rv_times (cR _ _ (by decide) (by decide)))) (pu_op (pu_op pu_int (pu_var rfl) (rv_times (cL _ _ (by decide) (by decide)))) (pu_var rfl) (rv_times (cR _ _ h1 (by omega)))) rv_addI) ?_)
  refine sj_seq (sj_asg (pu_op (pu_op (pu_op (pu_var rfl) (pu_op pu_int (pu_var rfl) (rv_times (cL _ _ (by decide) (by decide)))) rv_addI) (pu_var rfl) rv_addI) pu_int (rv_rest (by decide))) ?_)
  generalize hm : (s * 69069 + 104729 * t * t + 7919 * a + t) % 2147483647 = x
  have hx1 : 0 ≤ x := by rw [← hm]; exact Int.emod_nonneg _ (by decide)
  have hx2 : x < 2147483647 := by rw [← hm]; exact Int.emod_lt_of_pos _ (by decide)
  refine sj_seq (sj_asg (pu_op (pu_op (pu_op (pu_var rfl) (pu_var rfl) (rv_times (cL _ _ hx1 (by omega)))) pu_int rv_addI) pu_int (rv_rest (by decide))) ?_)
  refine sj_ret (pu_op (pu_op (pu_var rfl) pu_int (rv_times (cR _ _ (by decide) (by decide)))) pu_int (rv_rest (by decide))) (le_intW ⟨Int.emod_nonneg _ (by decide), Int.emod_lt_of_pos _ (by decide)⟩)
abbrev N_l_draw : List Str := ["_law_purse_here", "_law_many", "_law_drawn", "_law_found", "_law_piece"]
theorem sc_l_draw : FnScope N_l_draw ["_law_purse_here", "_law_many"] (defScope s_l_draw) := ⟨rfl, rfl, rfl, by decide +kernel, rfl, by decide +kernel, by decide +kernel⟩
def spDraw : Sp := Prm (ι := Addr × Nat × Nat) (fun i => some i.1) (fun i => i.2.1) (fun i => i.2.1 + 1) (fun i => 1 ≤ i.2.2 ∧ i.2.2 ≤ 300 ∧ i.2.1 ≤ 10000000) (fun i => [Vv (.ref i.1), D (.int (i.2.2 : Nat))]) (fun i => NatW fun k => k < i.2.2)
theorem ok_l_draw (T : Tx K mg) : Dn P w K mg base 2 "_law_draw" ["_law_purse_here", "_law_many"] spDraw := by
  have D_l_mixed := ok_l_mixed (P := P) (w := w) (base := base) T
  refine dn_mk T.fd_l_draw T.g_l_draw sc_l_draw (prm_len fun _ => rfl) (fun _ _ _ _ _ _ us hl => match us, hl with | [_, _], _ => rfl) fun cdv A outer s H vs Q E hr hu64 hu65 h => ?_
  have nd := sc_l_draw.nd
  refine ⟨_, (pss_cons (ps_if (pt_cmpR op_gt (pe_ix (k_ix K) (pv 0) pe_int (fun _ _ => rfl)) pe_int (nomark _)) (pss_cons (ps_set (i := 2) nd rfl (Or.inl rfl) (pe_op op_rest (pe_ix (k_ix K) (pv 0) pe_int (fun _ _ => rfl)) (pv 1)))
     (pss_cons (ps_asg (pe_op op_div (pe_ix (k_ix K) (pv 0) pe_int (fun _ _ => rfl)) (pv 1)) (pg_sub (pv 0) pe_int set_list))
     (pss_one (ps_ret (pv 2))))) pss_nil)
    (pss_cons (ps_set (i := 3) nd rfl (Or.inl rfl) pe_int)
    (pss_cons (ps_for PassesOwn.never rfl (pi_range1 rfl T.range_ (pa_cons (pe_op op_plus pe_int (pe_op op_div (pe_bits (pv 1)) pe_int)) pa_nil)) (pg_name (i := 4) nd rfl (Or.inl rfl))
     (pss_cons (ps_asg (pe_op op_plus (pe_ix (k_ix K) (pv 0) pe_int (fun _ _ => rfl)) pe_int) (pg_sub (pv 0) pe_int set_list))
     (pss_one (ps_set (i := 3) nd rfl (Or.inl rfl) (pe_op op_plus (pe_op op_times (pv 3) pe_int) (pe_callD D_l_mixed (hr.mono (by decide)) rfl (pa_cons (pe_ix (k_ix K) (pv 0) pe_int (fun _ _ => rfl)) (pa_cons (pe_ix (k_ix K) (pv 0) pe_int (fun _ _ => rfl)) (pa_cons (pe_ix (k_ix K) (pv 0) pe_int (fun _ _ => rfl)) pa_nil)))))))))
    (pss_one (ps_ret (pe_op op_rest (pv 3) (pv 1))))))), fn_prm (E := E) h fun i hi => ?_⟩
  obtain ⟨p, n, m⟩ := i
  obtain ⟨h1, h2, h3⟩ := hi
  have h1 : 1 ≤ m := h1
  have h2 : m ≤ 300 := h2
  have h3 : n ≤ 10000000 := h3
  have hm : (0 : Int) < (m : Nat) := by omega
  have bits : (1 : Int) + ((Builtin.Int.intBits (m : Nat) : Nat) : Int) / 28 = ((1 : Nat) : Int) := by
    have h7 : Builtin.Int.intBits ((m : Nat) : Int) ≤ 9 := intBits_le (by
      show m < 2 ^ 9
      omega)
    omega
  have modN : ∀ {A : Int → Prop}, RV rRest (IntW A) (D (.int (m : Nat))) (NatW fun k => k < m) := rv_ex1 fun i => rv_wh1 fun hi => rv_res (rv_rest hm) ((le_intW (B := fun v => 0 ≤ v ∧ v < m) ⟨Int.emod_nonneg _ (by omega), Int.emod_lt_of_pos _ hm⟩).trans (int_nat fun i hi => ⟨hi.1, by omega⟩))
  show Sj (some p) n [some (.im (Vv (.ref p))), some (.im (D (.int (m : Nat)))), none, none, none] _ _
  refine sj_seq (sj_if (B := fun _ => True) (qt_testX (pu_op (pu_p0 rfl) pu_int (rv_ex1 fun i => rv_wh1 fun hi => rv_res rv_gt (le_ex (f := fun b => Wh True (D (.bool b))) _ (le_wh trivial Ty.le.rfl'))))) (fun _ => ?_) (fun _ => sj_next ?_))
  · refine sj_seq (sj_asg (pu_op (pu_p0 rfl) (pu_var rfl) modN) ?_)
    refine sj_seq (sj_pset0 (pu_op (pu_p0 rfl) (pu_var rfl) (rv_ex1 fun i => rv_wh1 fun hi => rv_res (rv_over ⟨hm, by omega⟩) (le_intW ?_))) rfl ?_)
    · obtain ⟨g1, g2⟩ := hi
      have k1 : 0 ≤ i / (m : Nat) := Int.ediv_nonneg g1 (by omega)
      have k2 : i / (m : Nat) ≤ i := Int.ediv_le_self _ g1
      have k3 : (i / (m : Nat)).natAbs ≤ i.natAbs := by
        clear g2
        omega
      exact ⟨k1, Nat.lt_of_le_of_lt k3 g2⟩
    · exact sj_ret (pu_var rfl) Ty.le.rfl' (Nat.le_succ _)
  · refine sj_seq (sj_asg (pu_int.le (le_intW (B := fun v => 0 ≤ v) (by decide))) ?_)
    show Sj (some p) n [some (.im (Vv (.ref p))), some (.im (D (.int (m : Nat)))), none, some (.im (IntW fun v => 0 ≤ v)), none] _ _
    refine sj_seq (sj_for (pi_R1 (k := 1) (pa_c ((pu_op pu_int (pu_op (pu_bits (pu_var rfl)) pu_int (rv_over ⟨by decide, by decide⟩)) rv_addI).le (le_D (by rw [bits]))) pa_n) (by decide)) (fun i k e => k = n + i ∧ ∃ a, e = [some (.im (Vv (.ref p))), some (.im (D (.int (m : Nat)))), none, some (.im (IntW fun v => 0 ≤ v)), a])
      ⟨rfl, _, rfl⟩ (fun i k e hi iv => ?_) (fun k e iv => ?_))
    · obtain ⟨rfl, a, rfl⟩ := iv
      refine ⟨_, _, tg_name, ?_⟩
      show Sj (some p) (n + i) [some (.im (Vv (.ref p))), some (.im (D (.int (m : Nat)))), none, some (.im (IntW fun v => 0 ≤ v)), some (.im (D (.int i)))] _ _
      refine sj_seq (sj_pset2 (m := n + (i + 1)) (pu_op (pu_p2 rfl) pu_int (rv_ex1 fun c => rv_wh1 fun hc => rv_res rv_addI (le_intW ?_))) rfl ?_)
      · obtain ⟨g1, g2⟩ := hc
        refine ⟨by omega, ?_⟩
        push_cast at g2 ⊢
        omega
      · refine sj_asg (pu_op (pu_op (pu_var rfl) pu_int (rv_ex1 fun x => rv_wh1 fun hx => rv_res (rv_times (.inr ⟨by decide, by decide⟩)) (le_intW (B := fun v => 0 ≤ v) (by omega)))) (pu_call (ι := Int × Int × Int) (R := IntW fun v => 0 ≤ v ∧ v < 2147483587) (pa_c (pu_p1 rfl) (pa_c (pu_p2 rfl) (pa_c (pu_p3 rfl) pa_n))) (fun G0 G vs ty => ?_))
          (rv_ex1 fun x => rv_wh1 fun hx => rv_ex2 fun y => rv_wh2 fun hy => rv_res rv_addI (le_intW (B := fun v => 0 ≤ v) (by omega)))) ⟨rfl, _, rfl⟩
        obtain ⟨v1, v2, v3, rfl, ⟨i1, g1, r1⟩, ⟨i2, g2, r2⟩, ⟨i3, g3, r3⟩⟩ := tys3 ty
        refine ⟨(i1, i2, i3), ⟨g2.1, ?_⟩, ⟨r1, r2, r3, trivial⟩, Ty.le.rfl'⟩
        have := g2.2
        push_cast at this
        show i2 ≤ 100000000
        omega
    · obtain ⟨rfl, a, rfl⟩ := iv
      exact sj_ret (pu_op (pu_var rfl) (pu_var rfl) modN) Ty.le.rfl' (Nat.le_refl _)
theorem pu_draw {p : Addr} {n n1 m : Nat} {env : Env'} {tr : TA} {E : XK} (h1 : 1 ≤ m) (h2 : m ≤ 300) (h3 : n1 ≤ 10000000) (ha : PuA (some p) n n1 env tr [Vv (.ref p), D (.int (m : Nat))]) : Pu (some p) n (n1 + 1) env (tCall spDraw [] E tr) (NatW fun k => k < m) := by
  exact pu_callP1 (ι := Addr × Nat × Nat) (pn := fun i => some i.1) (k := fun i => i.2.1) (k' := fun i => i.2.1 + 1) (P := fun i => 1 ≤ i.2.2 ∧ i.2.2 ≤ 300 ∧ i.2.1 ≤ 10000000) (As := fun i => [Vv (.ref i.1), D (.int (i.2.2 : Nat))]) (Rt := fun i => NatW fun k => k < i.2.2) (p, n1, m) ⟨h1, h2, h3⟩ rfl (Nat.le_refl _) ha ⟨sub_V, sub_D, trivial⟩
abbrev N_l_one_of : List Str := ["_law_purse_here", "_law_some"]
theorem sc_l_one_of : FnScope N_l_one_of ["_law_purse_here", "_law_some"] (defScope s_l_one_of) := ⟨rfl, rfl, rfl, by decide +kernel, rfl, by decide +kernel, by decide +kernel⟩
def spOneOf : Sp := Prm (ι := Addr × Nat × List PyData) (fun i => some i.1) (fun i => i.2.1) (fun i => i.2.1 + 1) (fun i => i.2.2 ≠ [] ∧ i.2.2.length ≤ 300 ∧ i.2.1 ≤ 10000000) (fun i => [Vv (.ref i.1), D (.list i.2.2)]) (fun i => Ex fun d => Wh (d ∈ i.2.2) (D d))
theorem ok_l_one_of (T : Tx K mg) : Dn P w K mg base 3 "_law_one_of" ["_law_purse_here", "_law_some"] spOneOf := by
  have D_l_draw := ok_l_draw (P := P) (w := w) (base := base) T
  refine dn_mk T.fd_l_one_of T.g_l_one_of sc_l_one_of (prm_len fun _ => rfl) (fun _ _ _ _ _ _ us hl => match us, hl with | [_, _], _ => rfl) fun cdv A outer s H vs Q E hr hu64 hu65 h => ?_
  have nd := sc_l_one_of.nd
  refine ⟨_, (pss_one (ps_ret (pe_ix (k_ix K) (pv 1) (pe_callD D_l_draw (hr.mono (by decide)) rfl (pa_cons (pv 0) (pa_cons (pe_callB (k_len K) (by rfl) T.len_ (by decide +kernel) (pa_cons (pv 1) pa_nil)) pa_nil))) (fun _ _ => rfl)))), fn_prm (E := E) h fun i hi => ?_⟩
  obtain ⟨p, n, ds⟩ := i
  obtain ⟨h1, h2, h3⟩ := hi
  have h1 : ds ≠ [] := h1
  show Sj (some p) n [some (.im (Vv (.ref p))), some (.im (D (.list ds)))] _ _
  refine sj_ret (pu_op (pu_var rfl) (pu_draw (List.length_pos_iff.mpr h1) h2 h3 (pa_c (pu_var rfl) (pa_c (pu_cb (pa_c (pu_var rfl) pa_n) rc_lenL) pa_n))) (rv_ixX fun k hk => hk)) Ty.le.rfl' (Nat.le_refl _)
abbrev N_l_shuffled : List Str := ["_law_purse_here", "_law_some", "_law_found", "_law_item"]
theorem sc_l_shuffled : FnScope N_l_shuffled ["_law_purse_here", "_law_some"] (defScope s_l_shuffled) := ⟨rfl, rfl, rfl, by decide +kernel, rfl, by decide +kernel, by decide +kernel⟩
def spShuf : Sp := Prm (ι := Addr × Nat × List PyData) (fun i => some i.1) (fun i => i.2.1) (fun i => i.2.1 + i.2.2.length) (fun i => i.2.2.length ≤ 50 ∧ i.2.1 ≤ 9000000) (fun i => [Vv (.ref i.1), D (.list i.2.2)]) (fun i => Ex fun ps => Wh (ps.Perm i.2.2) (D (.list ps)))
theorem ins_perm {α : Type} {ps : List α} {d : α} (j : Nat) : (ps.take j ++ [d] ++ ps.drop j).Perm (ps ++ [d]) := by
  have h : (ps.take j ++ ps.drop j).Perm ps := by rw [List.take_append_drop]
  refine List.Perm.trans ?_ (h.append_right [d])
  rw [List.append_assoc, List.append_assoc]
  exact List.Perm.append_left _ List.perm_append_comm
theorem ok_l_shuffled (T : Tx K mg) : Dn P w K mg base 3 "_law_shuffled" ["_law_purse_here", "_law_some"] spShuf := by
  have D_l_draw := ok_l_draw (P := P) (w := w) (base := base) T
  refine dn_mk T.fd_l_shuffled T.g_l_shuffled sc_l_shuffled (prm_len fun _ => rfl) (fun _ _ _ _ _ _ us hl => match us, hl with | [_, _], _ => rfl) fun cdv A outer s H vs Q E hr hu64 hu65 h => ?_
  have nd := sc_l_shuffled.nd
  refine ⟨_, (pss_cons (ps_set (i := 2) nd rfl (Or.inl rfl) (pe_lst pa_nil))
    (pss_cons (ps_for PassesOwn.never rfl (k_over K (pv 1)) (pg_name (i := 3) nd rfl (Or.inl rfl))
     (pss_one (ps_expr (k_bm K PySem.F.plainAttrs_list PySem.F.slot_list_insert PySem.F.type_list_insert mt_insert (pv 2) (pa_cons (pe_callD D_l_draw (hr.mono (by decide)) rfl (pa_cons (pv 0) (pa_cons (pe_op op_plus (pe_callB (k_len K) (by rfl) T.len_ (by decide +kernel) (pa_cons (pv 2) pa_nil)) pe_int) pa_nil))) (pa_cons (pv 3) pa_nil))))))
    (pss_one (ps_ret (pv 2))))), fn_prm (E := E) h fun i hi => ?_⟩
  obtain ⟨p, n, ds⟩ := i
  obtain ⟨h1, h3⟩ := hi
  have h1 : ds.length ≤ 50 := h1
  have h3 : n ≤ 9000000 := h3
  show Sj (some p) n [some (.im (Vv (.ref p))), some (.im (D (.list ds))), none, none] _ _
  refine sj_seq (sj_acNew (by simp) ?_)
  show Sj (some p) n [some (.im (Vv (.ref p))), some (.im (D (.list ds))), some (.ac []), none] _ _
  refine sj_seq (sj_for (pi_L (pu_var rfl)) (fun i m e => m = n + i ∧ ∃ ps a, ps.Perm (ds.take i) ∧ e = [some (.im (Vv (.ref p))), some (.im (D (.list ds))), some (.ac ps), a]) ⟨rfl, _, _, List.Perm.refl _, rfl⟩ (fun i m e hi iv => ?_) (fun m e iv => ?_))
  · obtain ⟨rfl, ps, a, hp, rfl⟩ := iv
    have hpl := hp.length_eq
    rw [List.length_take] at hpl
    have hd : ds[i]? = some (ds.getD i .none) := by rw [List.getD_eq_getElem?_getD, List.getElem?_eq_getElem hi]; rfl
    refine ⟨_, _, tg_name, ?_⟩
    show Sj (some p) (n + i) [some (.im (Vv (.ref p))), some (.im (D (.list ds))), some (.ac ps), some (.im (D (ds.getD i .none)))] _ _
    refine sj_acIns (n1 := n + i + 1) (B := fun k => k < ps.length + 1) rfl (pu_draw (m := ps.length + 1) (by omega) (by omega) (by omega) (pa_c (pu_var rfl) (pa_c ((pu_op (pu_acLen rfl) pu_int rv_addI).le (le_D (by push_cast; rfl))) pa_n))) (fun k hk => by omega) (pu_var rfl) (by omega) (fun j hj => ⟨rfl, _, _, ?_, rfl⟩)
    rw [List.take_succ, hd]
    exact (ins_perm j).trans (hp.append_right _)
  · obtain ⟨rfl, ps, a, hp, rfl⟩ := iv
    rw [List.take_length] at hp
    refine sj_acFix 2 rfl ?_
    exact sj_ret (pu_var rfl) (le_ex (f := fun ps => Wh (ps.Perm ds) (D (.list ps))) ps (le_wh hp Ty.le.rfl')) (Nat.le_refl _)
abbrev N_l_word : List Str := ["_law_purse_here", "_law_found", "_law_turn"]
theorem sc_l_word : FnScope N_l_word ["_law_purse_here"] (defScope s_l_word) := ⟨rfl, rfl, rfl, by decide +kernel, rfl, by decide +kernel, by decide +kernel⟩
def spWord : Sp := Prm (ι := Addr × Nat) (fun i => some i.1) (fun i => i.2) (fun i => i.2 + 10) (fun i => i.2 ≤ 9000000) (fun i => [Vv (.ref i.1)]) (fun i => Ex fun x => Wh (nameOk x = true) (D (.str x)))
theorem ok_l_word (T : Tx K mg) : Dn P w K mg base 3 "_law_word" ["_law_purse_here"] spWord := by
  have D_l_draw := ok_l_draw (P := P) (w := w) (base := base) T
  refine dn_mk T.fd_l_word T.g_l_word sc_l_word (prm_len fun _ => rfl) (fun _ _ _ _ _ _ us hl => match us, hl with | [_], _ => rfl) fun cdv A outer s H vs Q E hr hu64 hu65 h => ?_
  have nd := sc_l_word.nd
  refine ⟨_, (pss_cons (ps_set (i := 1) nd rfl (Or.inl rfl) pe_str)
    (pss_cons (ps_for PassesOwn.never rfl (pi_range1 rfl T.range_ (pa_cons (pe_op op_plus pe_int (pe_callD D_l_draw (hr.mono (by decide)) rfl (pa_cons (pv 0) (pa_cons pe_int pa_nil)))) pa_nil)) (pg_name (i := 2) nd rfl (Or.inl rfl))
     (pss_one (ps_set (i := 1) nd rfl (Or.inl rfl) (pe_op op_plus (pv 1) (pe_ix (k_ix K) pe_str (pe_callD D_l_draw (hr.mono (by decide)) rfl (pa_cons (pv 0) (pa_cons pe_int pa_nil))) (fun _ _ => rfl))))))
    (pss_one (ps_ret (pv 1))))), fn_prm (E := E) h fun i hi => ?_⟩
  obtain ⟨p, n⟩ := i
  have h3 : n ≤ 9000000 := hi
  show Sj (some p) n [some (.im (Vv (.ref p))), none, none] _ _
  refine sj_seq (sj_asg pu_str ?_)
  show Sj (some p) n [some (.im (Vv (.ref p))), some (.im (D (.str ""))), none] _ _
  refine sj_seq (sj_forX (n1 := n + 1) (B := fun k => 1 ≤ k ∧ k ≤ 8) (pi_R1X ((pu_op pu_int (pu_draw (m := 8) (by decide) (by decide) (by omega) (pa_c (pu_var rfl) (pa_c pu_int pa_n))) rv_one).le (natW_le fun k ⟨j, hj, e⟩ => (by
      have hj : j < 8 := hj
      omega : 1 ≤ k ∧ k ≤ 8))) fun k hk => by omega)
    (fun i m e => m = n + 1 + i ∧ ∃ (x : Str) (a : Option Sl), x.length = i ∧ (∀ c ∈ x.cps.toList, c ∈ letters.cps.toList) ∧ e = [some (.im (Vv (.ref p))), some (.im (D (.str x))), a]) ⟨rfl, "", _, rfl, fun c hc => absurd hc (by rw [show ("" : Str).cps.toList = [] from rfl]; simp), rfl⟩ (fun L i m e hL hi iv => ?_) (fun L m e hL iv => ?_))
  · obtain ⟨rfl, x, a, hx, hc, rfl⟩ := iv
    refine ⟨_, _, tg_name, ?_⟩
    show Sj (some p) (n + 1 + i) [some (.im (Vv (.ref p))), some (.im (D (.str x))), some (.im (D (.int i)))] _ _
    have lz : letters.cps.toList.length = 26 := by decide +kernel
    refine sj_asgXW (B := fun y : Str => y.length = i + 1 ∧ ∀ c ∈ y.cps.toList, c ∈ letters.cps.toList) (n1 := n + 1 + i + 1) (pu_op (T2 := Ex fun c : Nat => Wh (c ∈ letters.cps.toList) (D (.str ⟨#[c]⟩))) (pu_var rfl) (pu_op pu_str (pu_draw (m := 26) (by decide) (by decide) (by omega) (pa_c (pu_var rfl) (pa_c pu_int pa_n)))
      (rv_ex2 fun k => rv_wh2 fun hk => rv_res (rv_ixS (z := letters) (i := k) (c := letters.cps.toList[k]'(by rw [lz]; exact hk)) (List.getElem?_eq_getElem _) (by decide +kernel)) (le_ex _ (le_wh (List.getElem_mem _) Ty.le.rfl'))))
      (rv_ex2 fun c => rv_wh2 fun hcl => rv_res (rv_addS (by
        show x.length + 1 ≤ 10000
        omega)) (le_ex (f := fun y : Str => Wh (y.length = i + 1 ∧ ∀ c ∈ y.cps.toList, c ∈ letters.cps.toList) (D (.str y))) (x ++ ⟨#[c]⟩) (le_wh ?_ Ty.le.rfl')))) (fun y hy => ⟨by omega, y, _, hy.1, hy.2, rfl⟩)
    have ea : (x ++ (⟨#[c]⟩ : Str)).cps = x.cps ++ #[c] := rfl
    refine ⟨?_, fun d hd => ?_⟩
    · show (x ++ (⟨#[c]⟩ : Str)).cps.size = i + 1
      rw [ea, Array.size_append]
      have : x.cps.size = x.length := rfl
      rw [this, hx]
      rfl
    · rw [ea, Array.toList_append] at hd
      rcases List.mem_append.mp hd with z | z
      · exact hc d z
      · have : d = c := by simpa using z
        rw [this]
        exact hcl
  · obtain ⟨rfl, x, a, hx, hc, rfl⟩ := iv
    refine sj_ret (pu_var rfl) (le_ex (f := fun y : Str => Wh (nameOk y = true) (D (.str y))) x (le_wh ?_ Ty.le.rfl')) ?_
    · unfold nameOk
      simp only [Bool.and_eq_true, decide_eq_true_eq, List.all_eq_true]
      exact ⟨⟨by omega, by omega⟩, fun c h => hc c h⟩
    · show n + 1 + L ≤ n + 10
      omega
end
end Cp
set_option Elab.async false
set_option linter.all false
set_option maxRecDepth 100000
set_option maxHeartbeats 2000000
/-! P10: drawn names, rows, lines. -/
namespace Cp
open PySem L2 PySem.Spec PyProof.Rows
theorem perm_map {α β : Type} (f : α → β) : ∀ {xs : List α} {ps : List β}, ps.Perm (xs.map f) → ∃ ys : List α, ys.Perm xs ∧ ps = ys.map f
  | [], ps, h => ⟨[], List.Perm.refl _, by
    have := h.length_eq
    exact List.eq_nil_of_length_eq_zero this⟩
  | x :: xs, ps, h => by
    have hm : f x ∈ ps := h.mem_iff.mpr (by simp)
    obtain ⟨l1, l2, rfl⟩ := List.append_of_mem hm
    have h2 : (l1 ++ l2).Perm (xs.map f) := by
      have h3 : (f x :: (l1 ++ l2)).Perm (f x :: xs.map f) := List.perm_middle.symm.trans h
      exact (List.perm_cons _).mp h3
    obtain ⟨ys, hy, e⟩ := perm_map f h2
    obtain ⟨y1, y2, rfl, e1, e2⟩ := List.append_eq_map_iff.mp e
    exact ⟨y1 ++ x :: y2, List.perm_middle.trans (hy.cons x), by rw [List.map_append, List.map_cons, e1, e2]⟩
section
variable {K : PySem.W.Frag} {pu : Option Addr} {n n1 n2 : Nat} {env : Env'} {te ta : TE} {tr : TA} {p : Addr} {E : XK}
theorem pu_oneOf {α : Type} {enc : α → PyData} {xs : List α} (h1 : xs ≠ []) (h2 : xs.length ≤ 300) (h3 : n1 ≤ 10000000) (ha : PuA (some p) n n1 env tr [Vv (.ref p), D (.list (xs.map enc))]) : Pu (some p) n (n1 + 1) env (tCall spOneOf [] E tr) (Ex fun x => Wh (x ∈ xs) (D (enc x))) :=
  Pu.le (pu_callP1 (ι := Addr × Nat × List PyData) (pn := fun i => some i.1) (k := fun i => i.2.1) (k' := fun i => i.2.1 + 1) (P := fun i => i.2.2 ≠ [] ∧ i.2.2.length ≤ 300 ∧ i.2.1 ≤ 10000000) (As := fun i => [Vv (.ref i.1), D (.list i.2.2)]) (Rt := fun i => Ex fun d => Wh (d ∈ i.2.2) (D d)) (p, n1, xs.map enc)
    ⟨by simpa using h1, by rw [List.length_map]; exact h2, h3⟩ rfl (Nat.le_refl _) ha ⟨sub_V, sub_D, trivial⟩) (ex_le fun d => wh_le fun hd => by
    obtain ⟨x, hx, e⟩ := List.mem_map.mp hd
    rw [← e]
    exact le_ex (f := fun x => Wh (x ∈ xs) (D (enc x))) x (le_wh hx Ty.le.rfl'))
theorem pu_shuf {α : Type} {enc : α → PyData} {xs : List α} (h1 : xs.length ≤ 50) (h3 : n1 ≤ 9000000) (ha : PuA (some p) n n1 env tr [Vv (.ref p), D (.list (xs.map enc))]) : Pu (some p) n (n1 + xs.length) env (tCall spShuf [] E tr) (Ex fun ys : List α => Wh (ys.Perm xs) (D (.list (ys.map enc)))) := by
  have := pu_callP1 (ι := Addr × Nat × List PyData) (E := E) (pn := fun i => some i.1) (k := fun i => i.2.1) (k' := fun i => i.2.1 + i.2.2.length) (P := fun i => i.2.2.length ≤ 50 ∧ i.2.1 ≤ 9000000) (As := fun i => [Vv (.ref i.1), D (.list i.2.2)]) (Rt := fun i => Ex fun ps => Wh (ps.Perm i.2.2) (D (.list ps))) (p, n1, xs.map enc)
    ⟨by rw [List.length_map]; exact h1, h3⟩ rfl (Nat.le_refl _) ha ⟨sub_V, sub_D, trivial⟩
  have e : n1 + (xs.map enc).length = n1 + xs.length := by rw [List.length_map]
  simp only [e] at this
  exact this.le (ex_le fun ps => wh_le fun hp => by
    obtain ⟨ys, hy, e⟩ := perm_map enc hp
    rw [e]
    exact le_ex (f := fun ys : List α => Wh (ys.Perm xs) (D (.list (ys.map enc)))) ys (le_wh hy Ty.le.rfl'))
theorem pu_word (h3 : n1 ≤ 9000000) (ha : PuA (some p) n n1 env tr [Vv (.ref p)]) : Pu (some p) n (n1 + 10) env (tCall spWord [] E tr) (Ex fun x => Wh (nameOk x = true) (D (.str x))) :=
  pu_callP1 (ι := Addr × Nat) (pn := fun i => some i.1) (k := fun i => i.2) (k' := fun i => i.2 + 10) (P := fun i => i.2 ≤ 9000000) (As := fun i => [Vv (.ref i.1)]) (Rt := fun i => Ex fun x => Wh (nameOk x = true) (D (.str x))) (p, n1) h3 rfl (Nat.le_refl _) ha ⟨sub_V, trivial⟩
theorem po_sK {th : TE} {k : Nat} (h : Pu pu n n1 env th (D (.int (k : Nat)))) : PuO pu n n1 env (tPart th) (fun o => ∃ j : Nat, o = some (j : Int) ∧ j = k) := fun G0 H0 σ G H a e Q q => h G0 H0 σ G H a e _ fun v G' H' b r => ⟨k, dq_int r, q _ G' H' b ⟨k, rfl, rfl⟩⟩
/-- i, j = e, [] -/
theorem sj_parAc {i j : Nat} {T1 : Ty} {O : Out} (h : Pu pu n n1 env ta T1) (hj : j < env.length) (k : O.nx n1 ((env.set i (some (.im T1))).set j (some (.ac [])))) : Sj pu n env (tPar i j (tCons ta (tCons (tLst tNil) tNil))) O := fun G0 H0 σ G H a e E h1 h2 h3 h4 =>
  h G0 H0 σ G H a e _ fun v G' H' b r => by
    have := sj_acNew (O := O) (pu := pu) (n := n1) (env := env.set i (some (.im T1))) (i := j) (by rw [List.length_set]; exact hj) k G0 H0 (σ.set i (some v)) G' H' (a.trans b) ((e.keep b).setIm i r) E (fun n' env' σ' G2 H2 w2 a2 s2 e2 => h1 n' env' σ' G2 H2 w2 a2 (b.g.trans s2) e2)
      (fun n' env' σ' G2 H2 w2 a2 s2 e2 => h2 n' env' σ' G2 H2 w2 a2 (b.g.trans s2) e2) (fun n' env' σ' G2 H2 w2 a2 s2 e2 => h3 n' env' σ' G2 H2 w2 a2 (b.g.trans s2) e2) h4
    exact ⟨this.1, fun q hq => ⟨v, .ref q, rfl, this.2 q hq⟩⟩
end
def names8 : List Str := ["ale", "bun", "cob", "a", "zz", "egg", "marrows", "jam"]
theorem names8_ok : (names8.all nameOk && decide names8.Nodup) = true := by decide +kernel
/-- some sorted names -/
def NamesT : Ty := Ex fun ns => Wh (Ns ns ∧ sortS ns = ns) (D (eS ns))
def RowsT (ns : List Str) (m : Nat) : Ty := Ex fun rs => Wh ((∀ r ∈ rs, RowOk ns r) ∧ rs.length = m) (D (eR rs))
def LineT (ns : List Str) : Ty := Ex fun l => Wh (LnOk ns l) (D (eL l))
theorem fld_take {ns ys : List Str} (N : Ns ns) (hp : ys.Perm ns) (k : Nat) (hk : 1 ≤ k) : FldOk ns (sortS (ys.take k)) := by
  have sp := sortS_perm (ys.take k)
  refine ⟨fun x hx => hp.mem_iff.mp (List.mem_of_mem_take (sp.mem_iff.mp hx)), sp.nodup_iff.mpr ((hp.nodup_iff.mpr N.nd).sublist (List.take_sublist _ _)), sortS_eq sp, fun e => ?_⟩
  have h1 := sp.length_eq
  rw [e, List.length_take, hp.length_eq] at h1
  have h2 : ns.length ≠ 0 := fun z => N.ne (List.eq_nil_of_length_eq_zero z)
  have h3 : ([] : List Str).length = 0 := rfl
  omega
section
variable {P : Program} {w : World} {K : PySem.W.Frag} {mg : Str → Option Value} {base : Heap}
abbrev N_l_names : List Str := ["_law_purse_here", "_law_many", "_law_some", "_law_fresh", "_law_word_here"]
theorem sc_l_names : FnScope N_l_names ["_law_purse_here", "_law_many"] (defScope s_l_names) := ⟨rfl, rfl, rfl, by decide +kernel, rfl, by decide +kernel, by decide +kernel⟩
def spNames : Sp := Prm (ι := Addr × Nat × Nat) (fun i => some i.1) (fun i => i.2.1) (fun i => i.2.1 + 20) (fun i => 1 ≤ i.2.2 ∧ i.2.2 ≤ 4 ∧ i.2.1 ≤ 8000000) (fun i => [Vv (.ref i.1), D (.int (i.2.2 : Nat))]) (fun _ => NamesT)
theorem ok_l_names (T : Tx K mg) : Dn P w K mg base 4 "_law_names" ["_law_purse_here", "_law_many"] spNames := by
  have D_l_shuffled := ok_l_shuffled (P := P) (w := w) (base := base) T
  have D_l_word := ok_l_word (P := P) (w := w) (base := base) T
  refine dn_mk T.fd_l_names T.g_l_names sc_l_names (prm_len fun _ => rfl) (fun _ _ _ _ _ _ us hl => match us, hl with | [_, _], _ => rfl) fun cdv A outer s H vs Q E hr hu64 hu65 h => ?_
  have nd := sc_l_names.nd
  refine ⟨_, (pss_cons (ps_asg (pe_tup (pa_cons (pe_lst (pa_cons pe_str (pa_cons pe_str (pa_cons pe_str (pa_cons pe_str (pa_cons pe_str (pa_cons pe_str (pa_cons pe_str (pa_cons pe_str pa_nil))))))))) (pa_cons (pe_callD D_l_word (hr.mono (by decide)) rfl (pa_cons (pv 0) pa_nil)) pa_nil))) (k_tgt (n := 2) K rfl (pgs_cons (pg_name (i := 2) nd rfl (Or.inr rfl)) (pgs_cons (pg_name (i := 3) nd rfl (Or.inl rfl)) pgs_nil))))
    (pss_one (ps_ret (pe_callB (k_sorted K hu64) (by rfl) T.sorted_ (by decide +kernel) (pa_cons (pe_slice (k_sl K) (pe_callD D_l_shuffled (hr.mono (by decide)) rfl (pa_cons (pv 0) (pa_cons (pe_op op_plus (pv 2) (pe_lc (own := [("_law_word_here", 4)]) rfl nd (k_over K (pe_lst (pa_cons (pv 3) pa_nil))) (blkOk_by (own := [("_law_word_here", 4)]) (N := N_l_names) (sc := defScope s_l_names) (by decide +kernel)) (fun _ _ _ _ _ => (pg_name (i := 4) nd rfl (Or.inl rfl))) (fun _ _ _ _ _ => (pts_one (pt_cmpR (k_ni K hu65) (pv 4) (pv 2) (by rfl)))) (fun _ _ _ _ _ => (pv 4)))) pa_nil))) po_none (po_some (pv 1))) pa_nil))))), fn_prm (E := E) h fun i hi => ?_⟩
  obtain ⟨p, n, m⟩ := i
  obtain ⟨h1, h2, h3⟩ := hi
  have h1 : 1 ≤ m := h1
  have h2 : m ≤ 4 := h2
  have h3 : n ≤ 8000000 := h3
  show Sj (some p) n [some (.im (Vv (.ref p))), some (.im (D (.int (m : Nat)))), none, none, none] _ _
  refine sj_seq (sj_asgT (js := [2, 3]) (pu_tup (pa_c ((pu_lst (pa_c pu_str (pa_c pu_str (pa_c pu_str (pa_c pu_str (pa_c pu_str (pa_c pu_str (pa_c pu_str (pa_c pu_str pa_n)))))))) (by simp)).le (ln_D (ds := names8.map .str))) (pa_c (pu_word (n1 := n) (by omega) (pa_c (pu_var rfl) pa_n)) pa_n)) (by simp)) (tg_tupT (js := [2, 3]) rfl) ?_)
  show Sj (some p) (n + 10) [some (.im (Vv (.ref p))), some (.im (D (.int (m : Nat)))), some (.im (D (.list (names8.map .str)))), some (.im (Ex fun x => Wh (nameOk x = true) (D (.str x)))), none] _ _
  refine sj_openXW 3 rfl fun x hx => ?_
  show Sj (some p) (n + 10) [some (.im (Vv (.ref p))), some (.im (D (.int (m : Nat)))), some (.im (D (.list (names8.map .str)))), some (.im (D (.str x))), none] _ _
  have e1 : (PyData.list (names8.map .str ++ ([x].filter fun y => !decide (y ∈ names8)).map .str)) = .list ((names8 ++ [x].filter fun y => !decide (y ∈ names8)).map .str) := by rw [List.map_append]
  have n8 := names8_ok
  rw [Bool.and_eq_true, List.all_eq_true, decide_eq_true_eq] at n8
  have hall : ∀ y ∈ names8 ++ [x].filter (fun y => !decide (y ∈ names8)), nameOk y = true := fun y hy => by
    rcases List.mem_append.mp hy with z | z
    · exact n8.1 y z
    · have : y = x := by simpa using (List.mem_filter.mp z).1
      rw [this]
      exact hx
  have hnd : (names8 ++ [x].filter (fun y => !decide (y ∈ names8))).Nodup := by
    rw [List.nodup_append]
    refine ⟨n8.2, List.Nodup.sublist List.filter_sublist (by simp), fun a ha b hb e => ?_⟩
    have := (List.mem_filter.mp hb).2
    rw [← e] at this
    simp [ha] at this
  have hlen : 8 ≤ (names8 ++ [x].filter (fun y => !decide (y ∈ names8))).length ∧ (names8 ++ [x].filter (fun y => !decide (y ∈ names8))).length ≤ 9 := by
    have h8 : names8.length = 8 := rfl
    have hf := List.length_filter_le (fun y => !decide (y ∈ names8)) [x]
    have hs : [x].length = 1 := rfl
    rw [List.length_append]
    omega
  have hx1 : [x].length ≤ 10000 := by simp
  refine sj_ret (pu_cb (pa_c (pu_uptoX (B := fun ds => ∃ ys : List Str, ds = ys.map .str ∧ ys.Perm (names8 ++ [x].filter (fun y => !decide (y ∈ names8)))) (C := fun j => j = m) ((pu_shuf (enc := PyData.str) (n1 := n + 10) (by omega) (by omega) (pa_c (pu_var rfl) (pa_c ((pu_op (pu_var rfl) ((pu_lcE (enc := PyData.str) (xs := [x]) ((pu_lst (pa_c (pu_var rfl) pa_n) (by simp)).le (ln_D (ds := [.str x]))) [4] (by simp) hx1 (fun y => !decide (y ∈ names8)) (fun y => D (.str y))
    (fun y hy => ⟨_, tg_name, qt_test (pu_op (pu_var rfl) (pu_var rfl) rv_niS), fun _ => pu_var rfl⟩)).le ln_SD) (rv_addL (by
      rw [List.length_map, List.length_map]
      rw [List.length_append] at hlen
      omega))).le (le_D e1)) pa_n))).le (ex_le fun ys => wh_le fun hy => le_ex (f := fun ds => Wh (∃ ys : List Str, ds = ys.map .str ∧ ys.Perm (names8 ++ [x].filter (fun y => !decide (y ∈ names8)))) (D (.list ds))) _ (le_wh ⟨ys, rfl, hy⟩ Ty.le.rfl'))) po_n (po_sK (pu_var rfl))) pa_n)
    (rc_ex1 fun es => rc_wh1 fun ⟨ds, k, ⟨ys, e2, hp⟩, hk, e3⟩ => (?_ : RC (rSortQ K) [D (.list es)] NamesT))) Ty.le.rfl' ?_
  · subst hk e3 e2
    rw [← List.map_take]
    have ht : ∀ y ∈ ys.take k, nameOk y = true := fun y hy => hall y (hp.mem_iff.mp (List.mem_of_mem_take hy))
    have hl : (ys.take k).length = k := by
      rw [List.length_take, hp.length_eq]
      omega
    refine rc_res (sort_RC (fun y hy => name_ok (ht y hy)) (by omega)) (le_FD.trans (le_ex (f := fun ns => Wh (Ns ns ∧ sortS ns = ns) (D (eS ns))) (sortS (ys.take k)) (le_wh ⟨⟨fun y hy => ht y ((sortS_perm _).mem_iff.mp hy), (sortS_perm _).nodup_iff.mpr ((hp.nodup_iff.mpr hnd).sublist (List.take_sublist _ _)), fun e => ?_, ?_⟩, sortS_eq (sortS_perm _)⟩ Ty.le.rfl')))
    · have := (sortS_perm (ys.take k)).length_eq
      rw [e, hl] at this
      have h0 : ([] : List Str).length = 0 := rfl
      omega
    · rw [(sortS_perm (ys.take k)).length_eq]
      omega
  · show n + 10 + (names8 ++ [x].filter (fun y => !decide (y ∈ names8))).length ≤ n + 20
    omega
abbrev N_l_rows_of : List Str := ["_law_purse_here", "_law_names_here", "_law_many", "_law_base", "_law_found", "_law_way", "_law_turn", "_law_row", "_law_cut", "_law_head", "_law_name"]
theorem sc_l_rows_of : FnScope N_l_rows_of ["_law_purse_here", "_law_names_here", "_law_many"] (defScope s_l_rows_of) := ⟨rfl, rfl, rfl, by decide +kernel, rfl, by decide +kernel, by decide +kernel⟩
def spRowsOf : Sp := Prm (ι := Addr × Nat × List Str × Nat) (fun i => some i.1) (fun i => i.2.1) (fun i => i.2.1 + 100) (fun i => Ns i.2.2.1 ∧ i.2.2.2 ≤ 3 ∧ i.2.1 ≤ 8000000) (fun i => [Vv (.ref i.1), D (eS i.2.2.1), D (.int (i.2.2.2 : Nat))]) (fun i => RowsT i.2.2.1 i.2.2.2)
theorem mix_perm {ns row bs : List Str} (N : Ns ns) (h1 : row.Perm ns) (h2 : bs.Perm ns) (k : Nat) : (row.take k ++ bs.filter fun n => !decide (n ∈ row.take k)).Perm ns := by
  have nd : (row.take k ++ bs.filter fun n => !decide (n ∈ row.take k)).Nodup := by
    rw [List.nodup_append]
    refine ⟨(h1.nodup_iff.mpr N.nd).sublist (List.take_sublist _ _), (h2.nodup_iff.mpr N.nd).sublist List.filter_sublist, fun a ha b hb e => ?_⟩
    have := (List.mem_filter.mp hb).2
    rw [← e] at this
    simp [ha] at this
  refine (List.perm_ext_iff_of_nodup nd N.nd).mpr fun x => ⟨fun hx => ?_, fun hx => ?_⟩
  · rcases List.mem_append.mp hx with z | z
    · exact h1.mem_iff.mp (List.mem_of_mem_take z)
    · exact h2.mem_iff.mp (List.mem_filter.mp z).1
  · by_cases hk : x ∈ row.take k
    · exact List.mem_append.mpr (.inl hk)
    · exact List.mem_append.mpr (.inr (List.mem_filter.mpr ⟨h2.mem_iff.mpr hx, by simp [hk]⟩))
theorem ok_l_rows_of (T : Tx K mg) : Dn P w K mg base 4 "_law_rows_of" ["_law_purse_here", "_law_names_here", "_law_many"] spRowsOf := by
  have D_l_draw := ok_l_draw (P := P) (w := w) (base := base) T
  have D_l_shuffled := ok_l_shuffled (P := P) (w := w) (base := base) T
  refine dn_mk T.fd_l_rows_of T.g_l_rows_of sc_l_rows_of (prm_len fun _ => rfl) (fun _ _ _ _ _ _ us hl => match us, hl with | [_, _, _], _ => rfl) fun cdv A outer s H vs Q E hr hu64 hu65 h => ?_
  have nd := sc_l_rows_of.nd
  refine ⟨_, (pss_cons (ps_par (i := 3) (j := 4) (by rfl) nd rfl rfl (by decide) rfl rfl (pa_cons (pe_callD D_l_shuffled (hr.mono (by decide)) rfl (pa_cons (pv 0) (pa_cons (pv 1) pa_nil))) (pa_cons (pe_lst pa_nil) pa_nil)) (by rfl))
    (pss_cons (ps_set (i := 5) nd rfl (Or.inl rfl) (pe_callD D_l_draw (hr.mono (by decide)) rfl (pa_cons (pv 0) (pa_cons pe_int pa_nil))))
    (pss_cons (ps_for PassesOwn.never rfl (pi_range1 rfl T.range_ (pa_cons (pv 2) pa_nil)) (pg_name (i := 6) nd rfl (Or.inl rfl))
     (pss_cons (ps_set (i := 7) nd rfl (Or.inl rfl) (pe_callD D_l_shuffled (hr.mono (by decide)) rfl (pa_cons (pv 0) (pa_cons (pv 1) pa_nil))))
     (pss_cons (ps_if (pt_cmpR op_gt (pv 5) pe_int (nomark _)) (pss_cons (ps_asg (pe_tup (pa_cons (pe_callD D_l_draw (hr.mono (by decide)) rfl (pa_cons (pv 0) (pa_cons (pe_callB (k_len K) (by rfl) T.len_ (by decide +kernel) (pa_cons (pv 1) pa_nil)) pa_nil))) (pa_cons (pe_slice (k_sl K) (pv 7) po_none (po_some (pe_op op_minus (pe_op op_plus (pe_callD D_l_draw (hr.mono (by decide)) rfl (pa_cons (pv 0) (pa_cons pe_int pa_nil))) (pv 5)) pe_int))) pa_nil))) (k_tgt (n := 2) K rfl (pgs_cons (pg_name (i := 8) nd rfl (Or.inl rfl)) (pgs_cons (pg_name (i := 9) nd rfl (Or.inr rfl)) pgs_nil))))
      (pss_cons (ps_set (i := 7) nd rfl (Or.inl rfl) (pe_op op_plus (pv 9) (pe_lc (own := [("_law_name", 10)]) rfl nd (k_over K (pv 3)) (blkOk_by (own := [("_law_name", 10)]) (N := N_l_rows_of) (sc := defScope s_l_rows_of) (by decide +kernel)) (fun _ _ _ _ _ => (pg_name (i := 10) nd rfl (Or.inl rfl))) (fun _ _ _ _ _ => (pts_one (pt_cmpR (k_ni K hu65) (pv 10) (pv 9) (by rfl)))) (fun _ _ _ _ _ => (pv 10)))))
      (pss_one (ps_set (i := 7) nd rfl (Or.inl rfl) (pe_ifExp (pt_cmpR op_gt (pv 8) pe_int (nomark _)) (pv 7) (k_rev K (pv 7))))))) pss_nil)
     (pss_one (ps_expr (k_bm K PySem.F.plainAttrs_list PySem.F.slot_list_append PySem.F.type_list_append mt_append (pv 4) (pa_cons (pv 7) pa_nil)))))))
    (pss_one (ps_ret (pv 4)))))), fn_prm (E := E) h fun i hi => ?_⟩
  obtain ⟨p, n, ns, m⟩ := i
  obtain ⟨N, h2, h3⟩ := hi
  have N : Ns ns := N
  have h2 : m ≤ 3 := h2
  have h3 : n ≤ 8000000 := h3
  have nle := N.le
  have nne : 1 ≤ ns.length := List.length_pos_iff.mpr N.ne
  show Sj (some p) n [some (.im (Vv (.ref p))), some (.im (D (.list (ns.map .str)))), some (.im (D (.int (m : Nat)))), none, none, none, none, none, none, none, none] _ _
  refine sj_seq (sj_parAc (pu_shuf (enc := PyData.str) (n1 := n) (by omega) (by omega) (pa_c (pu_var rfl) (pa_c (pu_var rfl) pa_n))) (by simp) ?_)
  refine sj_openXW 3 rfl fun bs hbs => ?_
  show Sj (some p) (n + ns.length) [some (.im (Vv (.ref p))), some (.im (D (.list (ns.map .str)))), some (.im (D (.int (m : Nat)))), some (.im (D (.list (bs.map .str)))), some (.ac []), none, none, none, none, none, none] _ _
  refine sj_seq (sj_asgXW (B := fun k => k < 3) (pu_draw (n1 := n + ns.length) (m := 3) (by decide) (by decide) (by omega) (pa_c (pu_var rfl) (pa_c pu_int pa_n))) fun wy hwy => ?_)
  show Sj (some p) (n + ns.length + 1) [some (.im (Vv (.ref p))), some (.im (D (.list (ns.map .str)))), some (.im (D (.int (m : Nat)))), some (.im (D (.list (bs.map .str)))), some (.ac []), some (.im (D (.int (wy : Nat)))), none, none, none, none, none] _ _
  refine sj_seq (sj_for (pi_R1 (k := m) (pa_c (pu_var rfl) pa_n) (by omega)) (fun i k e => k ≤ n + 5 + 6 * i ∧ ∃ (rs : List (List Str)) (a b c d : Option Sl), (∀ r ∈ rs, RowOk ns r) ∧ rs.length = i ∧ e = [some (.im (Vv (.ref p))), some (.im (D (.list (ns.map .str)))), some (.im (D (.int (m : Nat)))), some (.im (D (.list (bs.map .str)))), some (.ac (rs.map eS)), some (.im (D (.int (wy : Nat)))), a, b, c, d, none])
    ⟨by omega, [], _, _, _, _, (fun r hr => (by cases hr)), rfl, rfl⟩ (fun i k e hi iv => ?_) (fun k e iv => ?_))
  · obtain ⟨hk, rs, a, b, c, d, hrs, hrl, rfl⟩ := iv
    refine ⟨_, _, tg_name, ?_⟩
    show Sj (some p) k [some (.im (Vv (.ref p))), some (.im (D (.list (ns.map .str)))), some (.im (D (.int (m : Nat)))), some (.im (D (.list (bs.map .str)))), some (.ac (rs.map eS)), some (.im (D (.int (wy : Nat)))), some (.im (D (.int (i : Nat)))), b, c, d, none] _ _
    refine sj_seq (sj_asgXW (f := fun ys : List Str => D (.list (ys.map .str))) (B := fun ys => ys.Perm ns) (pu_shuf (enc := PyData.str) (n1 := k) (by omega) (by omega) (pa_c (pu_var rfl) (pa_c (pu_var rfl) pa_n))) fun row hrow => ?_)
    show Sj (some p) (k + ns.length) [some (.im (Vv (.ref p))), some (.im (D (.list (ns.map .str)))), some (.im (D (.int (m : Nat)))), some (.im (D (.list (bs.map .str)))), some (.ac (rs.map eS)), some (.im (D (.int (wy : Nat)))), some (.im (D (.int (i : Nat)))), some (.im (D (.list (row.map .str)))), c, d, none] _ _
    have rest : ∀ (k' : Nat) (r : List Str) (c d : Option Sl), k' ≤ n + 5 + 6 * (i + 1) → RowOk ns r → Sj (some p) k' [some (.im (Vv (.ref p))), some (.im (D (.list (ns.map .str)))), some (.im (D (.int (m : Nat)))), some (.im (D (.list (bs.map .str)))), some (.ac (rs.map eS)), some (.im (D (.int (wy : Nat)))), some (.im (D (.int (i : Nat)))), some (.im (D (.list (r.map .str)))), c, d, none]
        (tDrop (tBM K "list" rAppend (tVar 4) (tCons (tVar 7) tNil))) { nx := fun k e => k ≤ n + 5 + 6 * (i + 1) ∧ ∃ (rs : List (List Str)) (a b c d : Option Sl), (∀ r ∈ rs, RowOk ns r) ∧ rs.length = i + 1 ∧ e = [some (.im (Vv (.ref p))), some (.im (D (.list (ns.map .str)))), some (.im (D (.int (m : Nat)))), some (.im (D (.list (bs.map .str)))), some (.ac (rs.map eS)), some (.im (D (.int (wy : Nat)))), a, b, c, d, none], ct := fun k e => k ≤ n + 5 + 6 * (i + 1) ∧ ∃ (rs : List (List Str)) (a b c d : Option Sl), (∀ r ∈ rs, RowOk ns r) ∧ rs.length = i + 1 ∧ e = [some (.im (Vv (.ref p))), some (.im (D (.list (ns.map .str)))), some (.im (D (.int (m : Nat)))), some (.im (D (.list (bs.map .str)))), some (.ac (rs.map eS)), some (.im (D (.int (wy : Nat)))), a, b, c, d, none], bk := fun n' e' => Sj (some p) n' e' (tRet (tVar 4)) { nx := fun k e => k ≤ n + 100 ∧ ∀ (G0 G : Hp), (RowsT ns m).p G0 V.non G, m := n + 100, rt := RowsT ns m }, m := n + 100, rt := RowsT ns m } := fun k' r c d hk' hr => by
      refine sj_acApp (ds := rs.map eS) rfl (pu_var rfl) (by
        rw [List.length_map]
        omega) ⟨hk', rs ++ [r], some (.im (D (.int (i : Nat)))), some (.im (D (.list (r.map .str)))), c, d, fun x hx => ?_, by rw [List.length_append, hrl]; rfl, ?_⟩
      · rcases List.mem_append.mp hx with z | z
        · exact hrs x z
        · have : x = r := by simpa using z
          rw [this]
          exact hr
      · rw [List.map_append]
        rfl
    refine sj_seq (sj_if (qt_test (pu_op (pu_var rfl) pu_int rv_gt)) (fun hb => ?_) (fun hb => sj_next (rest _ _ _ _ (by omega) hrow)))
    have hw1 : 1 ≤ wy := by
      have := of_decide_eq_true hb.symm
      omega
    refine sj_seq (sj_asgT (js := [8, 9]) (pu_tup (pa_c (pu_draw (n1 := k + ns.length) (m := ns.length) nne (by omega) (by omega) (pa_c (pu_var rfl) (pa_c ((pu_cb (pa_c (pu_var rfl) pa_n) rc_lenL).le (le_D (by rw [List.length_map]))) pa_n)))
      (pa_c (pu_upto (ds := row.map .str) (B := fun _ => True) (pu_var rfl) po_n (po_sN (B := fun _ => True) (pu_op (pu_op (pu_draw (n1 := k + ns.length + 1) (m := 3) (by decide) (by decide) (by omega) (pa_c (pu_var rfl) (pa_c pu_int pa_n))) (pu_var rfl) (rv_ex1 fun j => rv_wh1 fun hj => rv_res rv_addI (le_intW (B := fun v => 1 ≤ v) (by omega)))) pu_int (rv_ex1 fun v => rv_wh1 fun hv => rv_res rv_subI ((le_intW (B := fun v => 0 ≤ v) (by omega)).trans (int_nat fun v hv => ⟨hv, trivial⟩)))))) pa_n)) (by simp)) (tg_tupT (js := [8, 9]) rfl) ?_)
    refine sj_openXW 8 rfl fun cut hcut => ?_
    refine sj_openXW 9 rfl fun j hj => ?_
    show Sj (some p) (k + ns.length + 1 + 1) [some (.im (Vv (.ref p))), some (.im (D (.list (ns.map .str)))), some (.im (D (.int (m : Nat)))), some (.im (D (.list (bs.map .str)))), some (.ac (rs.map eS)), some (.im (D (.int (wy : Nat)))), some (.im (D (.int (i : Nat)))), some (.im (D (.list (row.map .str)))), some (.im (D (.int (cut : Nat)))), some (.im (D (.list ((row.map PyData.str).take j)))), none] _ _
    rw [← List.map_take]
    have mp := mix_perm N hrow hbs j
    have mpl := mp.length_eq
    generalize hh : row.take j = head at mp mpl ⊢
    have el : (PyData.list (head.map .str ++ (bs.filter fun n => !decide (n ∈ head)).map .str)) = .list ((head ++ bs.filter fun n => !decide (n ∈ head)).map .str) := by rw [List.map_append]
    have bl := hbs.length_eq
    refine sj_seq (sj_asg ((pu_op (pu_var rfl) ((pu_lcE (enc := PyData.str) (xs := bs) (pu_var rfl) [10] (by simp) (by omega) (fun n => !decide (n ∈ head)) (fun n => D (.str n))
      (fun n hn => ⟨_, tg_name, qt_test (pu_op (pu_var rfl) (pu_var rfl) rv_niS), fun _ => pu_var rfl⟩)).le ln_SD) (rv_addL (by
        rw [List.length_append] at mpl
        rw [List.length_map, List.length_map]
        omega))).le (le_D el)) ?_)
    generalize hq : (head ++ bs.filter fun n => !decide (n ∈ head)) = row2 at mp mpl ⊢
    show Sj (some p) (k + ns.length + 1 + 1) [some (.im (Vv (.ref p))), some (.im (D (.list (ns.map .str)))), some (.im (D (.int (m : Nat)))), some (.im (D (.list (bs.map .str)))), some (.ac (rs.map eS)), some (.im (D (.int (wy : Nat)))), some (.im (D (.int (i : Nat)))), some (.im (D (.list (row2.map .str)))), some (.im (D (.int (cut : Nat)))), some (.im (D (.list (head.map .str)))), none] _ _
    refine sj_asgXW (f := fun r : List Str => D (.list (r.map .str))) (B := fun r => RowOk ns r) (pu_if (qt_test (pu_op (pu_var rfl) pu_int rv_gt)) (fun _ => (pu_var rfl).le (le_ex (f := fun r : List Str => Wh (RowOk ns r) (D (.list (r.map .str)))) row2 (le_wh mp Ty.le.rfl')))
      (fun _ => (pu_rev (pu_var rfl)).le (le_ex (f := fun r : List Str => Wh (RowOk ns r) (D (.list (r.map .str)))) row2.reverse (le_wh ((List.reverse_perm row2).trans mp) (le_D (by rw [List.map_reverse])))))) fun r hr => ?_
    exact rest _ _ _ _ (by omega) hr
  · obtain ⟨hk, rs, a, b, c, d, hrs, hrl, rfl⟩ := iv
    refine sj_acFix 4 rfl ?_
    exact sj_ret (pu_var rfl) (show (D (eR rs)).le (RowsT ns m) from le_ex (f := fun rs : List (List Str) => Wh ((∀ r ∈ rs, RowOk ns r) ∧ rs.length = m) (D (eR rs))) rs (le_wh ⟨hrs, hrl⟩ Ty.le.rfl')) (by
      show k ≤ n + 100
      omega)
abbrev N_l_line : List Str := ["_law_purse_here", "_law_names_here", "_law_field", "_law_name", "_law_rest_here", "_law_one"]
theorem sc_l_line : FnScope N_l_line ["_law_purse_here", "_law_names_here"] (defScope s_l_line) := ⟨rfl, rfl, rfl, by decide +kernel, rfl, by decide +kernel, by decide +kernel⟩
def spLine : Sp := Prm (ι := Addr × Nat × List Str) (fun i => some i.1) (fun i => i.2.1) (fun i => i.2.1 + 20) (fun i => Ns i.2.2 ∧ i.2.1 ≤ 8000000) (fun i => [Vv (.ref i.1), D (eS i.2.2)]) (fun i => LineT i.2.2)
theorem ok_l_line (T : Tx K mg) : Dn P w K mg base 4 "_law_line" ["_law_purse_here", "_law_names_here"] spLine := by
  have D_l_draw := ok_l_draw (P := P) (w := w) (base := base) T
  have D_l_one_of := ok_l_one_of (P := P) (w := w) (base := base) T
  have D_l_shuffled := ok_l_shuffled (P := P) (w := w) (base := base) T
  refine dn_mk T.fd_l_line T.g_l_line sc_l_line (prm_len fun _ => rfl) (fun _ _ _ _ _ _ us hl => match us, hl with | [_, _], _ => rfl) fun cdv A outer s H vs Q E hr hu64 hu65 h => ?_
  have nd := sc_l_line.nd
  refine ⟨_, (pss_cons (ps_set (i := 2) nd rfl (Or.inl rfl) (pe_callB (k_sorted K hu64) (by rfl) T.sorted_ (by decide +kernel) (pa_cons (pe_slice (k_sl K) (pe_callD D_l_shuffled (hr.mono (by decide)) rfl (pa_cons (pv 0) (pa_cons (pv 1) pa_nil))) po_none (po_some (pe_op op_plus pe_int (pe_callD D_l_draw (hr.mono (by decide)) rfl (pa_cons (pv 0) (pa_cons (pe_callB (k_len K) (by rfl) T.len_ (by decide +kernel) (pa_cons (pv 1) pa_nil)) pa_nil)))))) pa_nil)))
    (pss_cons (ps_set (i := 3) nd rfl (Or.inr rfl) (pe_callD D_l_one_of (hr.mono (by decide)) rfl (pa_cons (pv 0) (pa_cons (pv 2) pa_nil))))
    (pss_cons (ps_setLc (i := 4) (own := [("_law_one", 5)]) rfl nd rfl rfl (sw_true rfl rfl rfl (by decide +kernel)) (k_over K (pv 2)) (blkOk_by (own := [("_law_one", 5)]) (N := N_l_line) (sc := defScope s_l_line) (by decide +kernel)) (fun _ _ _ _ _ => (pg_name (i := 5) nd rfl (Or.inl rfl))) (fun _ _ _ _ _ => (pts_one (pt_cmpR (k_ne K hu64) (pv 5) (pv 3) (nomark _)))) (fun _ _ _ _ _ => (pv 5)))
    (pss_cons (ps_if (PW.pt (pw_or (pt_cmpR (k_eq K hu64) (pv 4) (pe_lst pa_nil) (nomark _)) (pw_or1 (pt_cmpR (k_eq K hu64) (pe_callD D_l_draw (hr.mono (by decide)) rfl (pa_cons (pv 0) (pa_cons pe_int pa_nil))) pe_int (nomark _))))) (pss_one (ps_ret (pe_tup (pa_cons pe_str (pa_cons (pv 2) (pa_cons (pv 3) pa_nil)))))) pss_nil)
    (pss_one (ps_ret (pe_tup (pa_cons pe_str (pa_cons (pv 4) (pa_cons (pv 3) pa_nil)))))))))), fn_prm (E := E) h fun i hi => ?_⟩
  obtain ⟨p, n, ns⟩ := i
  obtain ⟨N, h3⟩ := hi
  have N : Ns ns := N
  have h3 : n ≤ 8000000 := h3
  have nle := N.le
  have nne : 1 ≤ ns.length := List.length_pos_iff.mpr N.ne
  show Sj (some p) n [some (.im (Vv (.ref p))), some (.im (D (.list (ns.map .str)))), none, none, none, none] _ _
  refine sj_seq (sj_asgXW (f := fun f : List Str => D (.list (f.map .str))) (B := fun f => FldOk ns f) (pu_cb (pa_c (pu_uptoX (B := fun ds => ∃ ys : List Str, ds = ys.map .str ∧ ys.Perm ns) (C := fun j => 1 ≤ j) ((pu_shuf (enc := PyData.str) (n1 := n) (by omega) (by omega) (pa_c (pu_var rfl) (pa_c (pu_var rfl) pa_n))).le (ex_le fun ys => wh_le fun hy => le_ex (f := fun ds => Wh (∃ ys : List Str, ds = ys.map .str ∧ ys.Perm ns) (D (.list ds))) _ (le_wh ⟨ys, rfl, hy⟩ Ty.le.rfl'))) po_n
    (po_sN ((pu_op pu_int (pu_draw (n1 := n + ns.length) (m := ns.length) nne (by omega) (by omega) (pa_c (pu_var rfl) (pa_c ((pu_cb (pa_c (pu_var rfl) pa_n) rc_lenL).le (le_D (by rw [List.length_map]))) pa_n))) rv_one).le (natW_le fun k ⟨j, hj, e⟩ => (by omega : 1 ≤ k))))) pa_n)
    (rc_ex1 fun es => rc_wh1 fun ⟨ds, k, ⟨ys, e2, hp⟩, hk, e3⟩ => (?_ : RC (rSortQ K) [D (.list es)] (Ex fun f : List Str => Wh (FldOk ns f) (D (.list (f.map .str))))))) fun f hf => ?_)
  · subst e3 e2
    rw [← List.map_take]
    have F := fld_take N hp k hk
    refine rc_res (sort_RC (fun y hy => name_ok (N.ok y (hp.mem_iff.mp (List.mem_of_mem_take hy)))) ?_) (le_FD.trans (le_ex (f := fun f : List Str => Wh (FldOk ns f) (D (.list (f.map .str)))) _ (le_wh F Ty.le.rfl')))
    have := hp.length_eq
    rw [List.length_take]
    omega
  show Sj (some p) (n + ns.length + 1) [some (.im (Vv (.ref p))), some (.im (D (.list (ns.map .str)))), some (.im (D (.list (f.map .str)))), none, none, none] _ _
  have fle := hf.le N
  have fok : ∀ y ∈ f, okS y = true := fun y hy => name_ok (N.ok y (hf.sub y hy))
  refine sj_seq (sj_asgXW (f := fun x : Str => D (.str x)) (B := fun x => x ∈ f) (pu_oneOf (enc := PyData.str) (n1 := n + ns.length + 1) hf.ne (by omega) (by omega) (pa_c (pu_var rfl) (pa_c (pu_var rfl) pa_n))) fun x hx => ?_)
  have okx := fok x hx
  refine sj_seq (sj_asg ((pu_lcE (enc := PyData.str) (xs := f) (pu_var rfl) [5] (by simp) (by omega) (fun y => !decide (y = x)) (fun y => D (.str y))
    (fun y hy => ⟨_, tg_name, PuT.imp (qt_test (pu_op (pu_var rfl) (pu_var rfl) (rv_ne (shaped_str (fok y hy)) (shaped_str okx)))) fun b hb => by rw [hb, eqv_str], fun _ => pu_var rfl⟩)).le ln_SD) ?_)
  generalize hg : f.filter (fun y => !decide (y = x)) = g
  have gsub : g.Sublist f := by
    rw [← hg]
    exact List.filter_sublist
  have gok : ∀ y ∈ g, okS y = true := fun y hy => fok y (gsub.subset hy)
  have gle := gsub.length_le
  have gx : x ∉ g := by
    rw [← hg]
    simp
  show Sj (some p) (n + ns.length + 1 + 1) [some (.im (Vv (.ref p))), some (.im (D (.list (ns.map .str)))), some (.im (D (.list (f.map .str)))), some (.im (D (.str x))), some (.im (D (.list (g.map .str)))), none] _ _
  have LT : ∀ {l : Line}, LnOk ns l → (D (eL l)).le (LineT ns) := fun {l} h => le_ex (f := fun l => Wh (LnOk ns l) (D (eL l))) l (le_wh h Ty.le.rfl')
  refine sj_seq (sj_if (B := fun b => b = false → g ≠ []) (qt_orX (n1 := n + ns.length + 1 + 1) (n2 := n + ns.length + 1 + 1 + 1) (A := fun b => b = g.isEmpty) (B := fun _ => True) (PuT.imp (qt_test (pu_isNil (pu_var rfl) (sm_S (by omega) gok).shaped)) fun b hb => by rw [hb, isEmpty_map])
    (fun _ => qt_testX (pu_op (pu_draw (n1 := n + ns.length + 1 + 1) (m := 2) (by decide) (by decide) (by omega) (pa_c (pu_var rfl) (pa_c pu_int pa_n))) pu_int (rv_ex1 fun k => rv_wh1 fun hk => rv_res (rv_eq (shaped_int _) (shaped_int _)) (le_ex (f := fun b => Wh True (D (.bool b))) _ (le_wh trivial Ty.le.rfl'))))) (Nat.le_succ _) (fun _ h => by cases h) (fun b ha _ _ e => by rw [e] at ha; cases ha)) (fun _ => ?_) (fun hb => sj_next ?_))
  · refine sj_ret (pu_tup (pa_c pu_str (pa_c (pu_var rfl) (pa_c (pu_var rfl) pa_n))) (by simp)) ((tn_D (ds := [.str "call", eS f, .str x])).trans (LT (l := ("call", f, x)) ⟨.inl rfl, (fld_iff N).mpr hf, hf.sub x hx, ⟨fun _ => rfl, fun _ => hx⟩⟩)) ?_
    show n + ns.length + 1 + 1 + 1 ≤ n + 20
    omega
  · have gne := hb rfl
    refine sj_ret (pu_tup (pa_c pu_str (pa_c (pu_var rfl) (pa_c (pu_var rfl) pa_n))) (by simp)) ((tn_D (ds := [.str "off", eS g, .str x])).trans (LT (l := ("off", g, x)) ⟨.inr rfl, (fld_iff N).mpr ⟨fun y hy => hf.sub y (gsub.subset hy), hf.nd.sublist gsub, sortS_sub hf.so gsub, gne⟩, hf.sub x hx, ⟨fun h => absurd h gx, fun h => absurd (show ("off" : Str) = "call" from h) (by decide)⟩⟩)) ?_
    show n + ns.length + 1 + 1 + 1 ≤ n + 20
    omega
end
end Cp
set_option Elab.async false
set_option linter.all false
set_option maxRecDepth 100000
set_option maxHeartbeats 2000000
/-! P11: drawn books, drawn panels. -/
namespace Cp
open PySem L2 PySem.Spec PyProof.Rows
theorem once_app (acc xs : List Line) : ∃ t, t.Sublist xs ∧ once acc xs = acc ++ t := by
  induction xs generalizing acc with
  | nil => exact ⟨[], List.Sublist.refl _, by simp [once]⟩
  | cons x xs ih =>
    unfold once
    by_cases h : x ∈ acc
    · rw [if_pos h]
      obtain ⟨t, h1, h2⟩ := ih acc
      exact ⟨t, h1.cons _, h2⟩
    · rw [if_neg h]
      obtain ⟨t, h1, h2⟩ := ih (acc ++ [x])
      exact ⟨x :: t, h1.cons_cons _, by rw [h2]; simp⟩
theorem once_mem (acc xs : List Line) (l : Line) : l ∈ once acc xs ↔ l ∈ acc ∨ l ∈ xs := by
  induction xs generalizing acc with
  | nil => simp [once]
  | cons x xs ih =>
    unfold once
    rw [ih]
    by_cases h : x ∈ acc
    · rw [if_pos h]
      constructor
      · rintro (z | z)
        · exact .inl z
        · exact .inr (List.mem_cons_of_mem _ z)
      · rintro (z | z)
        · exact .inl z
        · rcases List.mem_cons.mp z with e | z
          · exact .inl (by rw [e]; exact h)
          · exact .inr z
    · rw [if_neg h, List.mem_append, List.mem_singleton, List.mem_cons, or_assoc]
theorem once_nd (acc xs : List Line) (h : acc.Nodup) : (once acc xs).Nodup := by
  induction xs generalizing acc with
  | nil => exact h
  | cons x xs ih =>
    unfold once
    by_cases hx : x ∈ acc
    · rw [if_pos hx]
      exact ih acc h
    · rw [if_neg hx]
      refine ih _ ?_
      rw [List.nodup_append]
      refine ⟨h, by simp, fun a ha b hb e => ?_⟩
      have : b = x := by simpa using hb
      exact hx (by rw [← this, ← e]; exact ha)
theorem canon_mem {ls : List Line} {l : Line} : l ∈ canon ls ↔ l ∈ ls := by
  unfold canon
  rw [once_mem]
  constructor
  · rintro (z | z)
    · cases z
    · exact (sortL_perm ls).mem_iff.mp z
  · exact fun z => .inr ((sortL_perm ls).mem_iff.mpr z)
theorem canon_of {xs ls : List Line} (nd : ls.Nodup) (h : ∀ l, l ∈ xs ↔ l ∈ ls) : canon xs = sortL ls := by
  have p : (canon xs).Perm ls := (List.perm_ext_iff_of_nodup (once_nd _ _ List.nodup_nil) nd).mpr fun l => (canon_mem (ls := xs)).trans (h l)
  rw [← sortL_eq p]
  symm
  refine sortL_of ?_
  obtain ⟨t, h1, h2⟩ := once_app [] (sortL xs)
  unfold canon
  rw [h2, List.nil_append]
  exact (sortL_pw xs).sublist h1
section
variable {K : PySem.W.Frag} {pu : Option Addr} {n n1 n2 : Nat} {env : Env'} {te tl : TE} {tr : TA} {p : Addr} {E : XK} {ns : List Str}
def PuIG {ι : Type} (pu : Option Addr) (n n' : Nat) (env : Env') (wi : TI) (B : ι → Prop) (L : ι → Nat) (T : ι → Nat → Ty) : Prop :=
  ∀ (G0 H0 : Hp) (σ : L2.St) (G H : Hp), Gr pu n G0 H0 G H → EnvOk pu G0 H0 G H σ env → ∀ R : It → Hp → Prop, (∀ x J G' H', B x → Gr pu n' G H G' H' → Wk pu G0 J (L x) (T x) G' → R J H') → wi σ H R
theorem PuIX.g {wi : TI} {B : Nat → Prop} {T : Nat → Ty} (h : PuIX pu n n1 env wi B T) : PuIG pu n n1 env wi B (fun k => k) (fun _ => T) := fun G0 H0 σ G H a e R r => h G0 H0 σ G H a e R fun L J G' H' hB g w => r L J G' H' hB g w
theorem pi_LX {ι : Type} {B : ι → Prop} {ds : ι → List PyData} (h : Pu pu n n1 env tl (Ex fun x => Wh (B x) (D (.list (ds x))))) : PuIG pu n n1 env (iList K tl) B (fun x => (ds x).length) (fun x i => D ((ds x).getD i .none)) := fun G0 H0 σ G H a e R r =>
  h G0 H0 σ G H a e _ fun v G' H' b ⟨x, hB, t⟩ => by
    obtain ⟨l, vs, rfl, _, ha, da⟩ := dq_list t
    refine ⟨l, rfl, ⟨vs, .inl (.inl (b.s _ _ ha))⟩, r x _ G' H' hB b fun m G2 S2 g2 s2 => ⟨fun i hi => ?_, ⟨vs, .inl (.inl (g2.s _ _ (s2 _ _ ha))), by rw [da.len]; exact Nat.le_refl _⟩⟩⟩
    have hi' : i < vs.length := by rw [da.len]; exact hi
    obtain ⟨d, hd, dv⟩ := da.at_ (List.getElem?_eq_getElem hi')
    have hS : SqL K S2 l vs := .inl (.inl (g2.s _ _ (s2 _ _ ha)))
    refine ⟨⟨vs, vs[i], hS, List.getElem?_eq_getElem hi'⟩, fun x' H'' y => ?_⟩
    obtain ⟨e1, y⟩ := y
    subst e1
    have ex := y vs hS
    rw [List.getElem?_eq_getElem hi'] at ex
    cases ex
    refine ⟨G2, g2, ?_⟩
    have e2 : (ds x).getD i .none = d := by rw [List.getD_eq_getElem?_getD, hd]; rfl
    show Dq _ _ _ ((ds x).getD i .none)
    rw [e2]
    exact dv.mono s2 fun _ z => z
/-- a comprehension without a test, each turn may draw -/
theorem pu_lcX {ι : Type} {B : ι → Prop} {L : ι → Nat} {T : ι → Nat → Ty} {wi : TI} {g : TG} {vs : List Nat} (hI : PuIG pu n n1 env wi B L T) (js : List Nat) (hjs : ∀ j ∈ js, j ∈ vs) (hL : ∀ x, B x → L x ≤ 10000) (c : Nat) (Rf : ι → Nat → Ty)
    (hs : ∀ x i, B x → i < L x → ∃ e', Tg js g (T x i) (wipeE env vs) e' ∧ Pu pu (n1 + c * i) (n1 + c * (i + 1)) e' te (Rf x i)) (hn : ∀ x, B x → n1 + c * L x ≤ n2) : Pu pu n n2 env (tLc wi g tYes te vs) (Ex fun x => Wh (B x) (Ln ((List.range (L x)).map (Rf x)))) := fun G0 H0 σ G H a e Q q =>
  hI G0 H0 σ G H a e _ fun x J G1 S1 hB b wk Da hD => by
    have hLx := hL x hB
    have hDH : H Da = none := by
      cases z : H Da with
      | none => rfl
      | some u =>
        have hp : pu ≠ some Da := b.noPurse hD
        rw [b.h Da u hp z] at hD
        cases hD
    have hp : pu ≠ some Da := a.noPurse hDH
    refine ⟨fun i mm H' => mm = L x - i ∧ i ≤ L x ∧ ∃ G' acc, Gr pu (n1 + c * i) G H G' H' ∧ G' Da = none ∧ H' Da = some (.lst acc) ∧ Tys G0 G' acc ((List.range i).map (Rf x)) ∧ Same G1 G', ⟨L x, by simp, Nat.zero_le _, G1, [], b.frame hDH (none_back b.s hD) hp, none_back b.s hD, upd_same, trivial, Same.refl _⟩, ?_⟩
    rintro i mm H' ⟨rfl, hi, G', acc, ga, gD, hDa, ty, sa⟩
    have hE := e.keep ga
    obtain ⟨w1, w2⟩ := wk (n1 + c * i) G' H' ga.here sa
    by_cases hlt : i < L x
    · obtain ⟨go, yl⟩ := w1 i hlt
      refine .inr ⟨go, fun H2 => ∃ G' acc, Gr pu (n1 + c * (i + 1)) G H G' H2 ∧ G' Da = none ∧ H2 Da = some (.lst acc) ∧ Tys G0 G' acc ((List.range (i + 1)).map (Rf x)) ∧ Same G1 G', fun H2 q2 => ⟨L x - (i + 1), by omega, rfl, hlt, q2⟩, fun y H'' yy => ?_⟩
      obtain ⟨G'', g2, t2⟩ := yl y H'' yy
      have no : ∀ {X Y X' Y' : Hp} {k : Nat}, Gr pu k X Y X' Y' → X Da = none → Y Da ≠ none → X' Da = none := fun {X Y X' Y' k} g hx hy => by
        cases z : X' Da with
        | none => rfl
        | some u =>
          rcases g.nw _ _ z with z | z
          · rw [hx] at z
            cases z
          · exact absurd z hy
      have c2 : H'' Da = some (.lst acc) := g2.h _ _ hp hDa
      have d2 : G'' Da = none := no g2 gD (by rw [hDa]; simp)
      obtain ⟨e', tg, he⟩ := hs x i hB hlt
      refine tg pu (n1 + c * i) G0 H0 G'' H'' _ y g2.here ((hE.keep g2).wipe vs) t2 _ fun σ3 e3 hw => ⟨by rw [hw vs hjs, wipe_twice], ?_⟩
      refine he G0 H0 σ3 G'' H'' ((a.trans ga).trans g2) e3 _ fun z G4 S4 g4 ry => ?_
      have c4 : S4 Da = some (.lst acc) := g4.h _ _ hp c2
      have d4 : G4 Da = none := no g4 d2 (by rw [c2]; simp)
      have hlen : acc.length ≤ i := by
        rw [ty.len, List.length_map, List.length_range]
        exact Nat.le_refl _
      refine ⟨acc, c4, small_lt (by omega), G4, acc ++ [z], ((ga.trans g2).trans g4).frame hDH d4 hp, d4, upd_same, ?_, sa.trans (g2.g.trans g4.g)⟩
      rw [List.range_succ, List.map_append]
      exact (ty.mono (Same.refl _) (g2.g.trans g4.g)).app ⟨ry, trivial⟩
    · have ei : i = L x := by omega
      subst ei
      refine .inl ⟨w2, q _ _ _ ((ga.own hDH hDa gD hp).up (hn x hB)) ⟨x, hB, Da, acc, rfl, none_back (a.g.trans a.s) hDH, upd_same, ty.mono (Same.refl _) (same_own gD)⟩⟩
theorem range_getI {α : Type} [Inhabited α] (xs : List α) : (List.range xs.length).map (fun i => xs.getD i default) = xs := range_get default xs
theorem pu_lcEX {α : Type} [Inhabited α] {enc : α → PyData} {B : List α → Prop} {g : TG} {vs : List Nat} (h : Pu pu n n1 env tl (Ex fun xs : List α => Wh (B xs) (D (.list (xs.map enc))))) (js : List Nat) (hjs : ∀ j ∈ js, j ∈ vs) (hL : ∀ xs, B xs → xs.length ≤ 10000) (Rf : α → Ty)
    (hs : ∀ xs x, B xs → x ∈ xs → ∃ e', Tg js g (D (enc x)) (wipeE env vs) e' ∧ Pu pu n1 n1 e' te (Rf x)) : Pu pu n n1 env (tLc (iList K tl) g tYes te vs) (Ex fun xs => Wh (B xs) (Ln (xs.map Rf))) := by
  have key := pu_lcX (n2 := n1) (te := te) (g := g) (vs := vs) (pi_LX (K := K) h) js hjs (fun xs hB => by rw [List.length_map]; exact hL xs hB) 0 (fun xs i => Rf (xs.getD i default)) (fun xs i hB hi => by
    rw [List.length_map] at hi
    have he : (xs.map enc).getD i .none = enc (xs.getD i default) := by
      rw [List.getD_eq_getElem?_getD, List.getElem?_map, List.getD_eq_getElem?_getD, List.getElem?_eq_getElem hi]
      rfl
    rw [he]
    have hm : xs.getD i default ∈ xs := by
      rw [List.getD_eq_getElem?_getD, List.getElem?_eq_getElem hi]
      exact List.getElem_mem hi
    obtain ⟨e', h1, h2⟩ := hs xs _ hB hm
    exact ⟨e', h1, by simpa using h2⟩) (fun xs _ => by simp)
  refine key.le (ex_le fun xs => wh_le fun hB => le_ex (f := fun xs => Wh (B xs) (Ln (xs.map Rf))) xs (le_wh hB ?_))
  rw [List.length_map]
  have e : (List.range xs.length).map (fun i => Rf (xs.getD i default)) = xs.map Rf := by
    conv => rhs; rw [← range_getI xs]
    rw [List.map_map]
    rfl
  rw [e]
  exact Ty.le.rfl'
theorem tys_ex {α : Type} {B : α → Prop} {enc : α → PyData} {G0 G : Hp} : ∀ {is : List Nat} {vs : List V}, Tys G0 G vs (is.map fun _ => Ex fun x => Wh (B x) (D (enc x))) → ∃ xs : List α, (∀ x ∈ xs, B x) ∧ xs.length = is.length ∧ DqAll (fun _ => True) G vs (xs.map enc)
  | [], [], _ => ⟨[], (fun x hx => by cases hx), rfl, .nil⟩
  | i :: is, v :: vs, ⟨⟨x, hx, h⟩, t⟩ => by
    obtain ⟨xs, h1, h2, h3⟩ := tys_ex t
    exact ⟨x :: xs, fun y hy => by
      rcases List.mem_cons.mp hy with e | e
      · rw [e]
        exact hx
      · exact h1 y e, by rw [List.length_cons, List.length_cons, h2], .cons h h3⟩
  | [], _ :: _, h => h.elim
  | _ :: _, [], h => h.elim
theorem ln_ex {α : Type} {B : α → Prop} {enc : α → PyData} {is : List Nat} : (Ln (is.map fun _ => Ex fun x => Wh (B x) (D (enc x)))).le (Ex fun xs : List α => Wh ((∀ x ∈ xs, B x) ∧ xs.length = is.length) (D (.list (xs.map enc)))) := fun G0 v G ⟨a, vs, e1, e2, e3, e4⟩ => by
  obtain ⟨xs, h1, h2, h3⟩ := tys_ex e4
  subst e1
  exact ⟨xs, ⟨h1, h2⟩, .lst trivial e3 h3⟩
theorem pu_makeX {ι : Type} {C : Addr} {P : ι → Prop} {As : ι → List Ty} {Rt : ι → Ty} {ta : TA} {Rs : List Ty} {R : Ty} (ha : PuA pu n n1 env ta Rs) (hs : ∀ G0 G vs, Tys G0 G vs Rs → ∃ i, P i ∧ Tys G G vs (As i) ∧ (Rt i).le R) : Pu pu n n1 env (tMake C (InitSp C P As Rt) [] E ta) R := fun G0 H0 σ G H a e Q q =>
  ha G0 H0 σ G H a e _ fun vs G1 H1 b t x dx hx hdx hne => by
    rw [List.append_nil]
    obtain ⟨i, hP, ty, hR⟩ := hs G0 G1 vs t
    exact ⟨i, hP, G1, H1, x, dx, vs, hx, hdx, hne, rfl, rfl, b.pure, ty, fun G' H'' g r => ⟨rfl, q _ G' H'' (b.trans (b.lift g)) (R.mono ((a.trans b).g) (Same.refl _) (hR _ _ _ r))⟩⟩
theorem pu_rows {B : Nat → Prop} (N : Ns ns) (h3 : n1 ≤ 8000000) (hB : ∀ k, B k → k ≤ 3) (ha : PuA (some p) n n1 env tr [Vv (.ref p), D (eS ns), NatW B]) : Pu (some p) n (n1 + 100) env (tCall spRowsOf [] E tr) (Ex fun rs => Wh ((∀ r ∈ rs, RowOk ns r) ∧ B rs.length) (D (eR rs))) :=
  pu_callP (ι := Addr × Nat × List Str × Nat) (pn := fun i => some i.1) (k := fun i => i.2.1) (k' := fun i => i.2.1 + 100) (P := fun i => Ns i.2.2.1 ∧ i.2.2.2 ≤ 3 ∧ i.2.1 ≤ 8000000) (As := fun i => [Vv (.ref i.1), D (eS i.2.2.1), D (.int (i.2.2.2 : Nat))]) (Rt := fun i => RowsT i.2.2.1 i.2.2.2) ha fun G0 G vs ty => by
    obtain ⟨v, w, u, rfl, h1, h2, k, hk, h4⟩ := tys3 ty
    refine ⟨(p, n1, ns, k), ⟨N, hB k hk, h3⟩, rfl, Nat.le_refl _, Nat.le_refl _, ⟨h1, h2, h4, trivial⟩, ex_le fun rs => wh_le fun hr => le_ex (f := fun rs => Wh ((∀ r ∈ rs, RowOk ns r) ∧ B rs.length) (D (eR rs))) rs (le_wh ⟨hr.1, ?_⟩ Ty.le.rfl')⟩
    rw [hr.2]
    exact hk
theorem pu_line (N : Ns ns) (h3 : n1 ≤ 8000000) (ha : PuA (some p) n n1 env tr [Vv (.ref p), D (eS ns)]) : Pu (some p) n (n1 + 20) env (tCall spLine [] E tr) (LineT ns) :=
  pu_callP1 (ι := Addr × Nat × List Str) (pn := fun i => some i.1) (k := fun i => i.2.1) (k' := fun i => i.2.1 + 20) (P := fun i => Ns i.2.2 ∧ i.2.1 ≤ 8000000) (As := fun i => [Vv (.ref i.1), D (eS i.2.2)]) (Rt := fun i => LineT i.2.2) (p, n1, ns) ⟨N, h3⟩ rfl (Nat.le_refl _) ha ⟨sub_V, sub_D, trivial⟩
end
/-- some lines, each once -/
structure LsOk (ns : List Str) (ls : List Line) : Prop where
  L : ∀ l ∈ ls, LnOk ns l
  nd : ls.Nodup
  le : ls.length ≤ 7
def LinesT (ns : List Str) : Ty := Ex fun ls => Wh (LsOk ns ls) (D (eLs ls))
/-- rows for a panel -/
def PRowsT (ns : List Str) : Ty := Ex fun rs => Wh ((∀ r ∈ rs, RowOk ns r) ∧ 1 ≤ rs.length ∧ rs.length ≤ 5) (D (eR rs))
section
variable {P : Program} {w : World} {K : PySem.W.Frag} {mg : Str → Option Value} {base : Heap}
abbrev N_l_book_lines : List Str := ["_law_purse_here", "_law_names_here", "_law_most", "_law_way", "_law_found", "_law_base", "_law_turn", "_law_line_here"]
theorem sc_l_book_lines : FnScope N_l_book_lines ["_law_purse_here", "_law_names_here", "_law_most"] (defScope s_l_book_lines) := ⟨rfl, rfl, rfl, by decide +kernel, rfl, by decide +kernel, by decide +kernel⟩
def spBookLines : Sp := Prm (ι := Addr × Nat × List Str × Nat) (fun i => some i.1) (fun i => i.2.1) (fun i => i.2.1 + 500) (fun i => Ns i.2.2.1 ∧ i.2.2.2 ≤ 7 ∧ i.2.1 ≤ 7000000) (fun i => [Vv (.ref i.1), D (eS i.2.2.1), D (.int (i.2.2.2 : Nat))]) (fun i => LinesT i.2.2.1)
theorem ok_l_book_lines (T : Tx K mg) : Dn P w K mg base 5 "_law_book_lines" ["_law_purse_here", "_law_names_here", "_law_most"] spBookLines := by
  have D_l_draw := ok_l_draw (P := P) (w := w) (base := base) T
  have D_l_keeps_line := ok_l_keeps_line (P := P) (w := w) (base := base) T
  have D_l_line := ok_l_line (P := P) (w := w) (base := base) T
  have D_l_rows_of := ok_l_rows_of (P := P) (w := w) (base := base) T
  refine dn_mk T.fd_l_book_lines T.g_l_book_lines sc_l_book_lines (prm_len fun _ => rfl) (fun _ _ _ _ _ _ us hl => match us, hl with | [_, _, _], _ => rfl) fun cdv A outer s H vs Q E hr hu64 hu65 h => ?_
  have nd := sc_l_book_lines.nd
  refine ⟨_, (pss_cons (ps_par (i := 3) (j := 4) (by rfl) nd rfl rfl (by decide) rfl rfl (pa_cons (pe_callD D_l_draw (hr.mono (by decide)) rfl (pa_cons (pv 0) (pa_cons pe_int pa_nil))) (pa_cons (pe_lst pa_nil) pa_nil)) (by rfl))
    (pss_cons (ps_set (i := 5) nd rfl (Or.inl rfl) (pe_callD D_l_rows_of (hr.mono (by decide)) rfl (pa_cons (pv 0) (pa_cons (pv 1) (pa_cons (pe_op op_plus pe_int (pe_callD D_l_draw (hr.mono (by decide)) rfl (pa_cons (pv 0) (pa_cons pe_int pa_nil)))) pa_nil)))))
    (pss_cons (ps_for PassesOwn.never rfl (pi_range1 rfl T.range_ (pa_cons (pe_callD D_l_draw (hr.mono (by decide)) rfl (pa_cons (pv 0) (pa_cons (pe_op op_plus (pv 2) pe_int) pa_nil))) pa_nil)) (pg_name (i := 6) nd rfl (Or.inl rfl))
     (pss_cons (ps_set (i := 7) nd rfl (Or.inl rfl) (pe_callD D_l_line (hr.mono (by decide)) rfl (pa_cons (pv 0) (pa_cons (pv 1) pa_nil))))
     (pss_one (ps_if (PW.pt (pw_and (pt_cmpR (k_ni K hu65) (pv 7) (pv 4) (by rfl)) (pw_and1 (PW.pt (pw_or (pt_cmpR (k_eq K hu64) (pv 3) pe_int (nomark _)) (pw_or1 (pt_val (pe_callD D_l_keeps_line (hr.mono (by decide)) rfl (pa_cons (pv 5) (pa_cons (pv 7) pa_nil)))))))))) (pss_one (ps_expr (k_bm K PySem.F.plainAttrs_list PySem.F.slot_list_append PySem.F.type_list_append mt_append (pv 4) (pa_cons (pv 7) pa_nil)))) pss_nil))))
    (pss_one (ps_ret (pv 4)))))), fn_prm (E := E) h fun i hi => ?_⟩
  obtain ⟨p, n, ns, m⟩ := i
  obtain ⟨N, h2, h3⟩ := hi
  have N : Ns ns := N
  have h2 : m ≤ 7 := h2
  have h3 : n ≤ 7000000 := h3
  show Sj (some p) n [some (.im (Vv (.ref p))), some (.im (D (eS ns))), some (.im (D (.int (m : Nat)))), none, none, none, none, none] _ _
  refine sj_seq (sj_parAc (pu_draw (n1 := n) (m := 3) (by decide) (by decide) (by omega) (pa_c (pu_var rfl) (pa_c pu_int pa_n))) (by simp) ?_)
  refine sj_openXW 3 rfl fun wy hwy => ?_
  show Sj (some p) (n + 1) [some (.im (Vv (.ref p))), some (.im (D (eS ns))), some (.im (D (.int (m : Nat)))), some (.im (D (.int (wy : Nat)))), some (.ac []), none, none, none] _ _
  refine sj_seq (sj_asgXW (f := fun rs => D (eR rs)) (B := fun rs => (∀ r ∈ rs, RowOk ns r) ∧ rs.length ≤ 3) (pu_rows (B := fun k => k ≤ 3) (n1 := n + 1 + 1) N (by omega) (fun k hk => hk) (pa_c (pu_var rfl) (pa_c (pu_var rfl) (pa_c ((pu_op pu_int (pu_draw (n1 := n + 1) (m := 3) (by decide) (by decide) (by omega) (pa_c (pu_var rfl) (pa_c pu_int pa_n))) rv_one).le (natW_le fun k ⟨j, hj, e⟩ => (by omega : k ≤ 3))) pa_n)))) fun bs hbs => ?_)
  show Sj (some p) (n + 1 + 1 + 100) [some (.im (Vv (.ref p))), some (.im (D (eS ns))), some (.im (D (.int (m : Nat)))), some (.im (D (.int (wy : Nat)))), some (.ac []), some (.im (D (eR bs))), none, none] _ _
  refine sj_seq (sj_forX (n1 := n + 1 + 1 + 100 + 1) (B := fun k => k ≤ 7) (pi_R1X ((pu_draw (n1 := n + 1 + 1 + 100) (m := m + 1) (by omega) (by omega) (by omega) (pa_c (pu_var rfl) (pa_c ((pu_op (pu_var rfl) pu_int rv_addI).le (le_D (by push_cast; rfl))) pa_n))).le (natW_le fun k hk => (by omega : k ≤ 7))) fun k hk => by omega)
    (fun i k e => k = n + 103 + 20 * i ∧ ∃ (ls : List Line) (a b : Option Sl), (∀ l ∈ ls, LnOk ns l) ∧ ls.Nodup ∧ ls.length ≤ i ∧ e = [some (.im (Vv (.ref p))), some (.im (D (eS ns))), some (.im (D (.int (m : Nat)))), some (.im (D (.int (wy : Nat)))), some (.ac (ls.map eL)), some (.im (D (eR bs))), a, b])
    ⟨by omega, [], _, _, (fun l hl => by cases hl), List.nodup_nil, Nat.le_refl _, rfl⟩ (fun L i k e hL hi iv => ?_) (fun L k e hL iv => ?_))
  · obtain ⟨rfl, ls, a, b, hls, hnd, hle, rfl⟩ := iv
    refine ⟨_, _, tg_name, ?_⟩
    show Sj (some p) (n + 103 + 20 * i) [some (.im (Vv (.ref p))), some (.im (D (eS ns))), some (.im (D (.int (m : Nat)))), some (.im (D (.int (wy : Nat)))), some (.ac (ls.map eL)), some (.im (D (eR bs))), some (.im (D (.int (i : Nat)))), b] _ _
    refine sj_seq (sj_asgXW (f := fun l => D (eL l)) (B := fun l => LnOk ns l) (pu_line (n1 := n + 103 + 20 * i) N (by omega) (pa_c (pu_var rfl) (pa_c (pu_var rfl) pa_n))) fun l hl => ?_)
    show Sj (some p) (n + 103 + 20 * i + 20) [some (.im (Vv (.ref p))), some (.im (D (eS ns))), some (.im (D (.int (m : Nat)))), some (.im (D (.int (wy : Nat)))), some (.ac (ls.map eL)), some (.im (D (eR bs))), some (.im (D (.int (i : Nat)))), some (.im (D (eL l)))] _ _
    have sml := hl.sm N
    have sls : SeqAt.shaped (.list (ls.map eL)) = true := shL fun l hl => (hls l hl).sm N
    refine sj_if (B := fun b => b = true → l ∉ ls) (PuT.imp (qt_and (qt_test ((pu_acNi rfl (pu_var rfl) sml.shaped sls).le (le_bool (by rw [any_L])))) (fun _ => qt_or (qt_test (pu_op (pu_var rfl) pu_int (rv_eq (shaped_int _) (shaped_int _)))) (fun _ => qt_B (pu_call1 (ι := List Str × Line × List (List Str)) (ns, l, bs) (by exact ⟨N, hl, hbs.1, Nat.le_trans hbs.2 (by decide)⟩) (pa_c (pu_var rfl) (pa_c (pu_var rfl) pa_n)) (by exact ⟨sub_D, sub_D, trivial⟩))))) fun b hb e => ?_) (fun hb => ?_) (fun hb => sj_next ⟨by omega, ls, _, _, hls, hnd, by omega, rfl⟩)
    · rw [e] at hb
      have := (Bool.and_eq_true_iff.mp hb.symm).1
      simpa using this
    · have hni := hb rfl
      refine sj_acApp (ds := ls.map eL) rfl (pu_var rfl) (by
        rw [List.length_map]
        omega) ⟨by omega, ls ++ [l], some (.im (D (.int (i : Nat)))), some (.im (D (eL l))), fun x hx => ?_, ?_, ?_, ?_⟩
      · rcases List.mem_append.mp hx with z | z
        · exact hls x z
        · have : x = l := by simpa using z
          rw [this]
          exact hl
      · rw [List.nodup_append]
        refine ⟨hnd, by simp, fun a ha b hb e => ?_⟩
        have : b = l := by simpa using hb
        exact hni (by rw [← this, ← e]; exact ha)
      · rw [List.length_append]
        show ls.length + 1 ≤ i + 1
        omega
      · rw [List.map_append]
        rfl
  · obtain ⟨rfl, ls, a, b, hls, hnd, hle, rfl⟩ := iv
    refine sj_acFix 4 rfl ?_
    refine sj_ret (pu_var rfl) (show (D (eLs ls)).le (LinesT ns) from le_ex (f := fun ls => Wh (LsOk ns ls) (D (eLs ls))) ls (le_wh ⟨hls, hnd, by omega⟩ Ty.le.rfl')) ?_
    show n + 103 + 20 * L ≤ n + 500
    omega
abbrev N_l_some_names : List Str := ["_law_purse_here", "_law_most"]
theorem sc_l_some_names : FnScope N_l_some_names ["_law_purse_here", "_law_most"] (defScope s_l_some_names) := ⟨rfl, rfl, rfl, by decide +kernel, rfl, by decide +kernel, by decide +kernel⟩
def spSomeNames : Sp := Prm (ι := Addr × Nat) (fun i => some i.1) (fun i => i.2) (fun i => i.2 + 40) (fun i => i.2 ≤ 7000000) (fun i => [Vv (.ref i.1), D (.int 4)]) (fun _ => NamesT)
theorem rc_max2 {i j : Int} : RC (fun xs H Q => ∃ i j, xs = [.int i, .int j] ∧ Q (.int (if j > i then j else i)) H) [D (.int i), D (.int j)] (D (.int (if j > i then j else i))) := fun pu n G0 G H vs g s ty Q q => by
  obtain ⟨v, w, rfl, h1, h2⟩ := tys2 ty
  exact ⟨i, j, by rw [dq_int h1, dq_int h2], q _ G H g (.int _)⟩
theorem ln_ex4 {ι : Type} {A B C : Ty} {B2 : ι → Prop} {f : ι → Ty} : (Ln [A, B, C, Ex fun i => Wh (B2 i) (f i)]).le (Ex fun i => Wh (B2 i) (Ln [A, B, C, f i])) := fun G0 v G ⟨a, vs, e1, e2, e3, e4⟩ => by
  match vs, e4 with
  | [v1, v2, v3, v4], ⟨h1, h2, h3, ⟨i, hi, h4⟩, _⟩ => exact ⟨i, hi, a, _, e1, e2, e3, h1, h2, h3, h4, trivial⟩
theorem ok_l_some_names (T : Tx K mg) : Dn P w K mg base 5 "_law_some_names" ["_law_purse_here", "_law_most"] spSomeNames := by
  have D_l_draw := ok_l_draw (P := P) (w := w) (base := base) T
  have D_l_names := ok_l_names (P := P) (w := w) (base := base) T
  have D_l_one_of := ok_l_one_of (P := P) (w := w) (base := base) T
  refine dn_mk T.fd_l_some_names T.g_l_some_names sc_l_some_names (prm_len fun _ => rfl) (fun _ _ _ _ _ _ us hl => match us, hl with | [_, _], _ => rfl) fun cdv A outer s H vs Q E hr hu64 hu65 h => ?_
  have nd := sc_l_some_names.nd
  refine ⟨_, (pss_one (ps_ret (pe_callD D_l_names (hr.mono (by decide)) rfl (pa_cons (pv 0) (pa_cons (pe_callD D_l_one_of (hr.mono (by decide)) rfl (pa_cons (pv 0) (pa_cons (pe_lst (pa_cons (pv 1) (pa_cons (pv 1) (pa_cons (pe_callB (call_max2 rfl) (by rfl) T.max_ (by decide +kernel) (pa_cons pe_int (pa_cons (pe_op op_minus (pv 1) pe_int) pa_nil))) (pa_cons (pe_op op_plus pe_int (pe_callD D_l_draw (hr.mono (by decide)) rfl (pa_cons (pv 0) (pa_cons (pv 1) pa_nil)))) pa_nil))))) pa_nil))) pa_nil))))), fn_prm (E := E) h fun i hi => ?_⟩
  obtain ⟨p, n⟩ := i
  have h3 : n ≤ 7000000 := hi
  show Sj (some p) n [some (.im (Vv (.ref p))), some (.im (D (.int 4)))] _ _
  have one : Pu (some p) n (n + 1 + 1) [some (.im (Vv (.ref p))), some (.im (D (.int 4)))] (tCall spOneOf [] E0 (tCons (tVar 0) (tCons (tLst (tCons (tVar 1) (tCons (tVar 1) (tCons (tCB (fun xs H Q => ∃ i j, xs = [V.int i, V.int j] ∧ Q (.int (if j > i then j else i)) H) (tCons (tC (.int 1)) (tCons (tOp rMinus (tVar 1) (tC (.int 1))) tNil))) (tCons (tOp rPlus (tC (.int 1)) (tCall spDraw [] E0 (tCons (tVar 0) (tCons (tVar 1) tNil)))) tNil))))) tNil))) (NatW fun k => 1 ≤ k ∧ k ≤ 4) := by
    refine pu_callP (ι := Addr × Nat × List PyData) (pn := fun i => some i.1) (k := fun i => i.2.1) (k' := fun i => i.2.1 + 1) (P := fun i => i.2.2 ≠ [] ∧ i.2.2.length ≤ 300 ∧ i.2.1 ≤ 10000000) (As := fun i => [Vv (.ref i.1), D (.list i.2.2)]) (Rt := fun i => Ex fun d => Wh (d ∈ i.2.2) (D d))
      (Rs := [Vv (.ref p), Ex fun k : Nat => Wh (1 ≤ k ∧ k ≤ 4) (D (.list [.int 4, .int 4, .int 3, .int (k : Nat)]))]) (n1 := n + 1)
      (pa_c (pu_var rfl) (pa_c ((pu_lst (pa_c (pu_var (T := D (.int 4)) rfl) (pa_c (pu_var (T := D (.int 4)) rfl) (pa_c ((pu_cb (pa_c (pu_int (i := 1)) (pa_c (pu_op (pu_var (T := D (.int 4)) rfl) (pu_int (i := 1)) rv_subI) pa_n)) rc_max2).le (le_D (b := .int 3) rfl)) (pa_c ((pu_op pu_int (pu_draw (n1 := n) (m := 4) (by decide) (by decide) (by omega) (pa_c (pu_var rfl) (pa_c (pu_var rfl) pa_n))) rv_one).le (natW_le (C := fun k => 1 ≤ k ∧ k ≤ 4) fun k ⟨j, hj, e⟩ => (by omega : 1 ≤ k ∧ k ≤ 4))) pa_n)))) (by simp)).le (ln_ex4.trans (ex_le fun k => wh_le fun hk => le_ex (f := fun k : Nat => Wh (1 ≤ k ∧ k ≤ 4) (D (.list [.int 4, .int 4, .int 3, .int (k : Nat)]))) k (le_wh hk (ln_D (ds := [.int 4, .int 4, .int 3, .int (k : Nat)])))))) pa_n)) fun G0 G vs ty => ?_
    obtain ⟨v, w, rfl, h1, k, hk, h2⟩ := tys2 ty
    refine ⟨(p, n + 1, [.int 4, .int 4, .int 3, .int (k : Nat)]), ⟨by simp, by simp, by
      show n + 1 ≤ 10000000
      omega⟩, rfl, Nat.le_refl _, Nat.le_refl _, ⟨h1, h2, trivial⟩, ex_le fun d => wh_le fun hd => ?_⟩
    have hd2 : d = .int ((4 : Nat) : Int) ∨ d = .int ((3 : Nat) : Int) ∨ d = .int (k : Nat) := by
      simp only [List.mem_cons, List.not_mem_nil, or_false] at hd
      rcases hd with h | h | h | h
      · exact .inl h
      · exact .inl h
      · exact .inr (.inl h)
      · exact .inr (.inr h)
    rcases hd2 with e | e | e <;> rw [e]
    · exact le_natW (by decide)
    · exact le_natW (by decide)
    · exact le_natW hk
  refine sj_ret (n1 := n + 1 + 1 + 20) (pu_callP (ι := Addr × Nat × Nat) (pn := fun i => some i.1) (k := fun i => i.2.1) (k' := fun i => i.2.1 + 20) (P := fun i => 1 ≤ i.2.2 ∧ i.2.2 ≤ 4 ∧ i.2.1 ≤ 8000000) (As := fun i => [Vv (.ref i.1), D (.int (i.2.2 : Nat))]) (Rt := fun _ => NamesT) (R := NamesT) (n1 := n + 1 + 1) (pa_c (pu_var rfl) (pa_c one pa_n)) fun G0 G vs ty => ?_) Ty.le.rfl' ?_
  · obtain ⟨v, w, rfl, h1, k, hk, h2⟩ := tys2 ty
    exact ⟨(p, n + 1 + 1, k), ⟨hk.1, hk.2, by
      show n + 1 + 1 ≤ 8000000
      omega⟩, rfl, Nat.le_refl _, Nat.le_refl _, ⟨h1, h2, trivial⟩, Ty.le.rfl'⟩
  · show n + 1 + 1 + 20 ≤ n + 40
    omega
abbrev N_l_book : List Str := ["_law_purse_here", "_law_names_here", "_law_lines", "_law_told", "_law_line_here"]
theorem sc_l_book : FnScope N_l_book ["_law_purse_here", "_law_names_here", "_law_lines"] (defScope s_l_book) := ⟨rfl, rfl, rfl, by decide +kernel, rfl, by decide +kernel, by decide +kernel⟩
def spBookL (K : PySem.W.Frag) : Sp := Prm (ι := Addr × Nat × List Str × List Line) (fun i => some i.1) (fun i => i.2.1) (fun i => i.2.1 + 30) (fun i => (Ns i.2.2.1 ∧ sortS i.2.2.1 = i.2.2.1) ∧ LsOk i.2.2.1 i.2.2.2 ∧ i.2.1 ≤ 7000000) (fun i => [Vv (.ref i.1), D (eS i.2.2.1), D (eLs i.2.2.2)]) (fun i => BkT K i.2.2.1 (sortL i.2.2.2))
theorem ok_l_book (T : Tx K mg) : Dn P w K mg base 9 "_law_book" ["_law_purse_here", "_law_names_here", "_law_lines"] (spBookL K) := by
  have D_book_init := ok_book_init (P := P) (w := w) (base := base) T
  have D_l_draw := ok_l_draw (P := P) (w := w) (base := base) T
  have D_l_shuffled := ok_l_shuffled (P := P) (w := w) (base := base) T
  refine dn_mk T.fd_l_book T.g_l_book sc_l_book (prm_len fun _ => rfl) (fun _ _ _ _ _ _ us hl => match us, hl with | [_, _, _], _ => rfl) fun cdv A outer s H vs Q E hr hu64 hu65 h => ?_
  have nd := sc_l_book.nd
  refine ⟨_, (pss_cons (ps_setLc (i := 3) (own := [("_law_line_here", 4)]) rfl nd rfl rfl (sw_true rfl rfl rfl (by decide +kernel)) (k_over K (pe_callD D_l_shuffled (hr.mono (by decide)) rfl (pa_cons (pv 0) (pa_cons (pv 2) pa_nil)))) (blkOk_by (own := [("_law_line_here", 4)]) (N := N_l_book) (sc := defScope s_l_book) (by decide +kernel)) (fun _ _ _ _ _ => (pg_name (i := 4) nd rfl (Or.inl rfl))) (fun _ _ _ _ _ => pts_nil) (fun _ _ _ _ _ => (pe_tup (pa_cons (pe_ix (k_ix K) (pv 4) pe_int (fun _ _ => rfl)) (pa_cons (pe_callTy (k_list K) (by rfl) T.list_ (by decide +kernel) (pa_cons (pe_ix (k_ix K) (pv 4) pe_int (fun _ _ => rfl)) pa_nil)) (pa_cons (pe_ix (k_ix K) (pv 4) pe_int (fun _ _ => rfl)) pa_nil))))))
    (pss_one (ps_ret (pe_makeD D_book_init (hr.mono (by decide)) rfl (pa_cons (pe_callD D_l_shuffled (hr.mono (by decide)) rfl (pa_cons (pv 0) (pa_cons (pv 1) pa_nil))) (pa_cons (pe_op op_plus (pv 3) (pe_slice (k_sl K) (pv 3) po_none (po_some (pe_callD D_l_draw (hr.mono (by decide)) rfl (pa_cons (pv 0) (pa_cons pe_int pa_nil)))))) pa_nil)))))), fn_prm (E := E) h fun i hi => ?_⟩
  obtain ⟨p, n, ns, ls⟩ := i
  obtain ⟨⟨N, so⟩, Z, h3⟩ := hi
  have N : Ns ns := N
  have so : sortS ns = ns := so
  have Z : LsOk ns ls := Z
  have h3 : n ≤ 7000000 := h3
  have nle := N.le
  have lle := Z.le
  show Sj (some p) n [some (.im (Vv (.ref p))), some (.im (D (.list (ns.map .str)))), some (.im (D (.list (ls.map eL)))), none, none] _ _
  refine sj_seq (sj_asgXW (f := fun ys => D (.list (ys.map eL))) (B := fun ys : List Line => ys.Perm ls) ((pu_lcEX (enc := eL) (B := fun ys => ys.Perm ls) (pu_shuf (enc := eL) (n1 := n) (by omega) (by omega) (pa_c (pu_var rfl) (pa_c (pu_var rfl) pa_n))) [4] (by simp) (fun ys hy => by
      rw [hy.length_eq]
      omega) (fun l => Tn [D (.str l.1), Ln ((l.2.1.map PyData.str).map D), D (.str l.2.2)])
    (fun ys l _ hl => ⟨_, tg_name, pu_tup (pa_c (pu_l0 (pu_var rfl)) (pa_c (pu_cb (pa_c (pu_l1 (pu_var rfl)) pa_n) rc_list) (pa_c (pu_l2 (pu_var rfl)) pa_n))) (by simp)⟩)).le (ex_le fun ys => wh_le fun hy => le_ex (f := fun ys : List Line => Wh (ys.Perm ls) (D (.list (ys.map eL)))) ys (le_wh hy (ln_mapD (enc := eL) fun l _ => (tn_le (Us := [D (.str l.1), D (eS l.2.1), D (.str l.2.2)]) (by exact ⟨Ty.le.rfl', ln_SF2.trans le_FD, Ty.le.rfl', trivial⟩)).trans (tn_D (ds := [.str l.1, eS l.2.1, .str l.2.2])))))) fun ys hys => ?_)
  have yl := hys.length_eq
  show Sj (some p) (n + ls.length) [some (.im (Vv (.ref p))), some (.im (D (.list (ns.map .str)))), some (.im (D (.list (ls.map eL)))), some (.im (D (.list (ys.map eL)))), none] _ _
  refine sj_ret (n1 := n + ls.length + ns.length + 1) (pu_makeX (ι := List Str × List Line) (Rs := [Ex fun ms : List Str => Wh (ms.Perm ns) (D (.list (ms.map .str))), Ex fun k : Nat => Wh True (D (.list (ys.map eL ++ (ys.map eL).take k)))]) (R := BkT K ns (sortL ls)) (pa_c (pu_shuf (enc := PyData.str) (n1 := n + ls.length) (by omega) (by omega) (pa_c (pu_var rfl) (pa_c (pu_var rfl) pa_n)))
    (pa_c (pu_op (pu_var rfl) (pu_upto (B := fun _ => True) (pu_var rfl) po_n (po_sN (B := fun _ => True) ((pu_draw (n1 := n + ls.length + ns.length) (m := 2) (by decide) (by decide) (by omega) (pa_c (pu_var rfl) (pa_c pu_int pa_n))).le (natW_le fun _ _ => trivial)))) (rv_ex2 fun k => rv_wh2 fun _ => rv_res (rv_addL (by
      rw [List.length_take, List.length_map]
      omega)) (le_ex (f := fun k : Nat => Wh True (D (.list (ys.map eL ++ (ys.map eL).take k)))) k (le_wh trivial Ty.le.rfl')))) pa_n)) fun G0 G vs ty => ?_) Ty.le.rfl' ?_
  · obtain ⟨v, w, rfl, ⟨ms, hm, h1⟩, k, _, h2⟩ := tys2 ty
    rw [← List.map_take, ← List.map_append] at h2
    refine ⟨(ms, ys ++ ys.take k), ⟨N.perm hm, fun l hl => ?_, ?_⟩, ⟨h1, h2, trivial⟩, ?_⟩
    · have hl2 : l ∈ ys := by
        rcases List.mem_append.mp hl with z | z
        · exact z
        · exact List.mem_of_mem_take z
      exact (Z.L l (hys.mem_iff.mp hl2)).perm hm
    · show (ys ++ ys.take k).length ≤ 100
      rw [List.length_append, List.length_take]
      omega
    · show (BkT K (sortS ms) (canon (ys ++ ys.take k))).le (BkT K ns (sortL ls))
      rw [sortS_eq hm, so, canon_of Z.nd fun l => ?_]
      · exact Ty.le.rfl'
      · rw [List.mem_append]
        constructor
        · rintro (z | z)
          · exact hys.mem_iff.mp z
          · exact hys.mem_iff.mp (List.mem_of_mem_take z)
        · exact fun z => .inl (hys.mem_iff.mpr z)
  · show n + ls.length + ns.length + 1 ≤ n + 30
    omega
abbrev N_l_panel_rows : List Str := ["_law_purse_here", "_law_names_here", "_law_lines", "_law_every", "_law_found", "_law_turn"]
theorem sc_l_panel_rows : FnScope N_l_panel_rows ["_law_purse_here", "_law_names_here", "_law_lines"] (defScope s_l_panel_rows) := ⟨rfl, rfl, rfl, by decide +kernel, rfl, by decide +kernel, by decide +kernel⟩
def spPanelRows : Sp := Prm (ι := Addr × Nat × List Str × List Line) (fun i => some i.1) (fun i => i.2.1) (fun i => i.2.1 + 500) (fun i => Ns i.2.2.1 ∧ LsOk i.2.2.1 i.2.2.2 ∧ i.2.1 ≤ 7000000) (fun i => [Vv (.ref i.1), D (eS i.2.2.1), D (eLs i.2.2.2)]) (fun i => PRowsT i.2.2.1)
theorem ok_l_panel_rows (T : Tx K mg) : Dn P w K mg base 5 "_law_panel_rows" ["_law_purse_here", "_law_names_here", "_law_lines"] spPanelRows := by
  have D_l_draw := ok_l_draw (P := P) (w := w) (base := base) T
  have D_l_kept_rows := ok_l_kept_rows (P := P) (w := w) (base := base) T
  have D_l_one_of := ok_l_one_of (P := P) (w := w) (base := base) T
  have D_l_rows_of := ok_l_rows_of (P := P) (w := w) (base := base) T
  refine dn_mk T.fd_l_panel_rows T.g_l_panel_rows sc_l_panel_rows (prm_len fun _ => rfl) (fun _ _ _ _ _ _ us hl => match us, hl with | [_, _, _], _ => rfl) fun cdv A outer s H vs Q E hr hu64 hu65 h => ?_
  have nd := sc_l_panel_rows.nd
  refine ⟨_, (pss_cons (ps_set (i := 3) nd rfl (Or.inr rfl) (pe_callD D_l_kept_rows (hr.mono (by decide)) rfl (pa_cons (pv 1) (pa_cons (pv 2) (pa_cons (pe_lst pa_nil) pa_nil)))))
    (pss_cons (ps_if (PW.pt (pw_or (pt_cmpR (k_eq K hu64) (pv 3) (pe_lst pa_nil) (nomark _)) (pw_or1 (pt_cmpR (k_eq K hu64) (pe_callD D_l_draw (hr.mono (by decide)) rfl (pa_cons (pv 0) (pa_cons pe_int pa_nil))) pe_int (nomark _))))) (pss_one (ps_ret (pe_callD D_l_rows_of (hr.mono (by decide)) rfl (pa_cons (pv 0) (pa_cons (pv 1) (pa_cons (pe_op op_plus pe_int (pe_callD D_l_draw (hr.mono (by decide)) rfl (pa_cons (pv 0) (pa_cons pe_int pa_nil)))) pa_nil)))))) pss_nil)
    (pss_cons (ps_setLc (i := 4) (own := [("_law_turn", 5)]) rfl nd rfl rfl (sw_true rfl rfl rfl (by decide +kernel)) (pi_range1 rfl T.range_ (pa_cons (pe_op op_plus pe_int (pe_callD D_l_draw (hr.mono (by decide)) rfl (pa_cons (pv 0) (pa_cons pe_int pa_nil)))) pa_nil)) (blkOk_by (own := [("_law_turn", 5)]) (N := N_l_panel_rows) (sc := defScope s_l_panel_rows) (by decide +kernel)) (fun _ _ _ _ _ => (pg_name (i := 5) nd rfl (Or.inl rfl))) (fun _ _ _ _ _ => pts_nil) (fun _ _ _ _ _ => (pe_callD D_l_one_of (hr.mono (by decide)) rfl (pa_cons (pv 0) (pa_cons (pv 3) pa_nil)))))
    (pss_one (ps_ret (pe_ifExp (pt_cmpR (k_eq K hu64) (pe_callD D_l_draw (hr.mono (by decide)) rfl (pa_cons (pv 0) (pa_cons pe_int pa_nil))) pe_int (nomark _)) (pe_op op_plus (pv 4) (pe_callD D_l_rows_of (hr.mono (by decide)) rfl (pa_cons (pv 0) (pa_cons (pv 1) (pa_cons pe_int pa_nil))))) (pv 4))))))), fn_prm (E := E) h fun i hi => ?_⟩
  obtain ⟨p, n, ns, ls⟩ := i
  obtain ⟨N, Z, h3⟩ := hi
  have N : Ns ns := N
  have Z : LsOk ns ls := Z
  have h3 : n ≤ 7000000 := h3
  have WZ : WsOk ns ls [] := ⟨N, Z.L, Nat.le_trans Z.le (by decide), (fun w hw => by cases hw), Nat.zero_le _⟩
  have PR : ∀ {rs : List (List Str)}, (∀ r ∈ rs, RowOk ns r) → 1 ≤ rs.length → rs.length ≤ 5 → (D (eR rs)).le (PRowsT ns) := fun {rs} h1 h2 h3 => le_ex (f := fun rs : List (List Str) => Wh ((∀ r ∈ rs, RowOk ns r) ∧ 1 ≤ rs.length ∧ rs.length ≤ 5) (D (eR rs))) rs (le_wh ⟨h1, h2, h3⟩ Ty.le.rfl')
  show Sj (some p) n [some (.im (Vv (.ref p))), some (.im (D (eS ns))), some (.im (D (eLs ls))), none, none, none] _ _
  refine sj_seq (sj_asg (pu_call1 (ι := List Str × List Line × List Wish) (ns, ls, []) WZ (pa_c (pu_var rfl) (pa_c (pu_var rfl) (pa_c pu_ws0 pa_n))) (by exact ⟨sub_D, sub_D, sub_D, trivial⟩)) ?_)
  have ev : ∀ r ∈ keptRows ns (offs ls []), RowOk ns r := fun r hr => rows_ok N (List.mem_filter.mp hr).1
  have evl : (keptRows ns (offs ls [])).length ≤ 256 := Nat.le_trans (List.length_filter_le _ _) (rowsN_len N.le ns.length N.le)
  generalize keptRows ns (offs ls []) = X at ev evl
  show Sj (some p) n [some (.im (Vv (.ref p))), some (.im (D (eS ns))), some (.im (D (eLs ls))), some (.im (D (.list (X.map eS)))), none, none] _ _
  refine sj_seq (sj_if (B := fun b => b = false → X ≠ []) (qt_orX (n1 := n) (n2 := n + 1) (A := fun b => b = X.isEmpty) (B := fun _ => True) (PuT.imp (qt_test (pu_isNil (pu_var rfl) (shR N ev))) fun b hb => by rw [hb, isEmpty_map])
    (fun _ => qt_testX (pu_op (pu_draw (n1 := n) (m := 4) (by decide) (by decide) (by omega) (pa_c (pu_var rfl) (pa_c pu_int pa_n))) pu_int (rv_ex1 fun k => rv_wh1 fun hk => rv_res (rv_eq (shaped_int _) (shaped_int _)) (le_ex (f := fun b => Wh True (D (.bool b))) _ (le_wh trivial Ty.le.rfl'))))) (Nat.le_succ _) (fun _ h => by cases h) (fun b ha _ _ e => by rw [e] at ha; cases ha)) (fun _ => ?_) (fun hb => sj_next ?_))
  · refine sj_ret (n1 := n + 1 + 1 + 100) (pu_rows (B := fun k => 1 ≤ k ∧ k ≤ 3) (n1 := n + 1 + 1) N (by omega) (fun k hk => hk.2) (pa_c (pu_var rfl) (pa_c (pu_var rfl) (pa_c ((pu_op pu_int (pu_draw (n1 := n + 1) (m := 3) (by decide) (by decide) (by omega) (pa_c (pu_var rfl) (pa_c pu_int pa_n))) rv_one).le (natW_le fun k ⟨j, hj, e⟩ => (by omega : 1 ≤ k ∧ k ≤ 3))) pa_n)))) (ex_le fun rs => wh_le fun hr => PR hr.1 hr.2.1 (Nat.le_trans hr.2.2 (by decide))) ?_
    show n + 1 + 1 + 100 ≤ n + 500
    omega
  · have hX := hb rfl
    refine sj_seq (sj_asgXW (f := fun rs => D (.list (rs.map eS))) (B := fun rs : List (List Str) => (∀ r ∈ rs, RowOk ns r) ∧ 1 ≤ rs.length ∧ rs.length ≤ 4) (n1 := n + 1 + 1 + 4) ((pu_lcX (n1 := n + 1 + 1) (n2 := n + 1 + 1 + 4) (PuIX.g (B := fun k => 1 ≤ k ∧ k ≤ 4) (pi_R1X ((pu_op pu_int (pu_draw (n1 := n + 1) (m := 4) (by decide) (by decide) (by omega) (pa_c (pu_var rfl) (pa_c pu_int pa_n))) rv_one).le (natW_le fun k ⟨j, hj, e⟩ => (by omega : 1 ≤ k ∧ k ≤ 4))) fun k hk => by omega)) [5] (by simp) (fun k hk => by omega) 1 (fun _ _ => Ex fun r => Wh (r ∈ X) (D (eS r)))
      (fun k i hk hi => ⟨_, tg_name, (pu_oneOf (enc := eS) (n1 := n + 1 + 1 + 1 * i) hX (by omega) (by omega) (pa_c (pu_var rfl) (pa_c (pu_var rfl) pa_n))).up (by omega)⟩) (fun k hk => by omega)).le (ex_le fun k => wh_le fun hk => ln_ex.trans (ex_le fun rs => wh_le fun hr => le_ex (f := fun rs : List (List Str) => Wh ((∀ r ∈ rs, RowOk ns r) ∧ 1 ≤ rs.length ∧ rs.length ≤ 4) (D (.list (rs.map eS)))) rs (le_wh ⟨fun r h => ev r (hr.1 r h), by
        have := hr.2
        rw [List.length_range] at this
        omega⟩ Ty.le.rfl')))) fun rs hrs => ?_)
    show Sj (some p) (n + 1 + 1 + 4) [some (.im (Vv (.ref p))), some (.im (D (eS ns))), some (.im (D (eLs ls))), some (.im (D (.list (X.map eS)))), some (.im (D (.list (rs.map eS)))), none] _ _
    refine sj_ret (n1 := n + 1 + 1 + 4 + 1 + 100) (pu_if (B := fun _ => True) (qt_testX (pu_op (pu_draw (n1 := n + 1 + 1 + 4) (m := 5) (by decide) (by decide) (by omega) (pa_c (pu_var rfl) (pa_c pu_int pa_n))) pu_int (rv_ex1 fun k => rv_wh1 fun hk => rv_res (rv_eq (shaped_int _) (shaped_int _)) (le_ex (f := fun b => Wh True (D (.bool b))) _ (le_wh trivial Ty.le.rfl')))))
      (fun _ => pu_op (pu_var rfl) (pu_rows (B := fun k => k = 1) (n1 := n + 1 + 1 + 4 + 1) N (by omega) (fun k hk => by omega) (pa_c (pu_var rfl) (pa_c (pu_var rfl) (pa_c (pu_int.le (le_natW (i := 1) rfl)) pa_n)))) (rv_ex2 fun qs => rv_wh2 fun hq => rv_res (rv_addL (by
        rw [List.length_map, List.length_map]
        omega)) ((le_D (by rw [← List.map_append]; rfl)).trans (PR (rs := rs ++ qs) (fun r hr => ?_) ?_ ?_))))
      (fun _ => ((pu_var rfl).le (PR hrs.1 hrs.2.1 (Nat.le_trans hrs.2.2 (by decide)))).up (by omega))) Ty.le.rfl' ?_
    · rcases List.mem_append.mp hr with z | z
      · exact hrs.1 r z
      · exact hq.1 r z
    · rw [List.length_append]
      omega
    · rw [List.length_append]
      omega
    · show n + 1 + 1 + 4 + 1 + 100 ≤ n + 500
      omega
end
end Cp
set_option Elab.async false
set_option linter.all false
set_option maxRecDepth 100000
set_option maxHeartbeats 4000000
/-! P12: bars, as the law sees them. -/
namespace Cp
open PySem L2 PySem.Spec PyProof.Rows
/-! ### the order of the lines does not matter -/
theorem offs_mem_congr {ls ms : List Line} {ws : List Wish} (h : ∀ l, l ∈ ls ↔ l ∈ ms) (o : Off) : o ∈ offs ls ws ↔ o ∈ offs ms ws := by
  unfold offs
  simp only [List.mem_append, List.mem_map, List.mem_filter]
  constructor
  · rintro (⟨l, ⟨h1, h2⟩, h3⟩ | z)
    · exact .inl ⟨l, ⟨(h l).mp h1, h2⟩, h3⟩
    · exact .inr z
  · rintro (⟨l, ⟨h1, h2⟩, h3⟩ | z)
    · exact .inl ⟨l, ⟨(h l).mpr h1, h2⟩, h3⟩
    · exact .inr z
theorem held_mem {os : List Off} {v : List Str} {x : Str} : x ∈ held os v ↔ ∃ o ∈ os, (∀ n ∈ o.1, n ∈ v) ∧ o.2 = x := by
  unfold held
  simp only [List.mem_map, List.mem_filter, List.all_eq_true, decide_eq_true_eq]
  exact ⟨fun ⟨o, ⟨h1, h2⟩, h3⟩ => ⟨o, h1, h2, h3⟩, fun ⟨o, h1, h2, h3⟩ => ⟨o, ⟨h1, h2⟩, h3⟩⟩
theorem stuckS_congr {os ps : List Off} (h : ∀ o, o ∈ os ↔ o ∈ ps) (v : List Str) : stuckS os v = stuckS ps v := by
  have key : ∀ n, decide (n ∈ held os v) = decide (n ∈ held ps v) := fun n => by
    refine decide_eq_decide.mpr ?_
    rw [held_mem, held_mem]
    exact ⟨fun ⟨o, h1, h2⟩ => ⟨o, (h o).mp h1, h2⟩, fun ⟨o, h1, h2⟩ => ⟨o, (h o).mpr h1, h2⟩⟩
  unfold stuckS
  simp only [key]
theorem sortL_mem {ls : List Line} (l : Line) : l ∈ sortL ls ↔ l ∈ ls := (sortL_perm ls).mem_iff
theorem stuckD_eq {ns : List Str} {ls : List Line} {ws : List Wish} {v : List Str} (N : Ns ns) (so : sortS ns = ns) (hv : v.Sublist ns) : stuckD ns (sortL ls) ws (eS v) = stuckL ns (offs ls ws) v := by
  have h1 : isLot (eS v) ns = true := isLot_S.mpr ⟨fun x hx => N.ok x (hv.subset hx), N.nd.sublist hv, sortS_sub so hv, fun x hx => hv.subset hx⟩
  have h2 : (v.all fun n => decide (n ∈ ns)) = true := List.all_eq_true.mpr fun x hx => decide_eq_true (hv.subset hx)
  unfold stuckD stuckL
  rw [h1, h2, strsD_S, stuckS_congr (offs_mem_congr sortL_mem)]
  cases v.isEmpty <;> simp
theorem lineOf_eL (l : Line) : lineOf (eL l) = l := by
  obtain ⟨w, f, e⟩ := l
  show (w, strsD (eS f), e) = _
  rw [strsD_S]
theorem isBar_eq {ns : List Str} {ls : List Line} {lo : Option Line} {v : List Str} (N : Ns ns) (so : sortS ns = ns) (Z : LsOk ns ls) (hv : v.Sublist ns) : isBarD ns (sortL ls) (.tuple [eLo lo, eS v]) = lIsBar ns ls lo v := by
  rw [isBar_pair]
  cases lo with
  | none =>
    rw [if_pos (show isNone (eLo none) = true from rfl)]
    exact stuckD_eq N so hv
  | some l =>
    rw [if_neg (by simp [eLo, isNone, eL])]
    show ((isLineD (eL l) ns && decide (lineOf (eL l) ∈ calls (sortL ls))) && stuckD ns (sortL ls) (wishOf (lineOf (eL l))) (eS v)) = (decide (l ∈ calls (sortL ls)) && stuckL ns (offs ls (wishOf l)) v)
    rw [lineOf_eL]
    by_cases hc : l ∈ calls (sortL ls)
    · rw [LnOk.line N (Z.L l ((sortL_mem l).mp (calls_mem hc))), decide_eq_true hc, stuckD_eq N so hv]
      simp
    · rw [decide_eq_false hc]
      simp
theorem fields_sub {ns f : List Str} (h : f ∈ fields ns) : f.Sublist ns := by
  obtain ⟨s, hs, t, ht, rfl⟩ := fieldsN_sub ns [[]] f (List.mem_of_mem_drop h)
  have : s = [] := by simpa using hs
  subst this
  simpa using ht
theorem fields_len {ns : List Str} (h : ns.length ≤ 4) : (fields ns).length ≤ 16 := by
  unfold fields
  rw [List.length_drop, fieldsN_len, List.length_singleton, Nat.one_mul]
  exact Nat.le_trans (Nat.sub_le _ _) (Nat.le_trans (Nat.pow_le_pow_right (by decide) h) (by decide))
/-! ### odd bars -/
def odd1 (ns : List Str) : List PyData := [.none, .int 5, .str "bar", .list [], .dict [], .tuple [], .tuple [.none], .tuple [.none, .list []], .list [.none, eS ns], .tuple [.none, eS ns, .int 0], .tuple [eS ns, .none]]
def odd2 (ns : List Str) : List PyData := [.tuple [.str "call", eS ns], .tuple [.none, .tuple (ns.map .str)], .tuple [.none, .list (ns.map .str ++ (ns.map .str).take 1)], .tuple [.none, .none], .tuple [.bool true, eS ns]]
def odd3 (ns : List Str) (x : Str) : List PyData := [.tuple [.tuple [.str "call", eS ns], eS ns], .tuple [.none, .list [.none, .str x]], .tuple [.none, .list [.str x, .int 5]], .tuple [.none, .list [.list [.str x]]]]
def oddD (ns : List Str) (x : Str) : List PyData := odd1 ns ++ odd2 ns ++ odd3 ns x
theorem stuck_no {ns : List Str} {ls : List Line} {ws : List Wish} {d : PyData} (h : areNames d = false) : stuckD ns ls ws d = false := by
  unfold stuckD isLot isAsc
  rw [h]
  rfl
theorem bar_none {ns : List Str} {ls : List Line} {d : PyData} (h : areNames d = false) : isBarD ns ls (.tuple [.none, d]) = false := by
  rw [isBar_pair, if_pos (show isNone .none = true from rfl)]
  exact stuck_no h
theorem bar_line {ns : List Str} {ls : List Line} {a d : PyData} (h : isNone a = false) (h2 : isLineD a ns = false) : isBarD ns ls (.tuple [a, d]) = false := by
  rw [isBar_pair, if_neg (by rw [h]; decide), h2]
  rfl
theorem odd_no {ns : List Str} {x : Str} {ls : List Line} (N : Ns ns) (hx : ns[0]? = some x) : ∀ d ∈ oddD ns x, isBarD ns ls d = false := by
  obtain ⟨r, rfl⟩ : ∃ r, ns = x :: r := by
    cases ns with
    | nil => cases hx
    | cons y r => exact ⟨r, by simpa using hx⟩
  intro d hd
  simp only [oddD, odd1, odd2, odd3, List.mem_append, List.mem_cons, List.not_mem_nil, or_false] at hd
  have oth : ∀ {d : PyData}, (∀ a b, d ≠ .tuple [a, b]) → isBarD (x :: r) ls d = false := fun h => isBar_other h
  rcases hd with (h | h) | h
  · rcases h with rfl | rfl | rfl | rfl | rfl | rfl | rfl | rfl | rfl | rfl | rfl
    · exact oth fun a b e => by cases e
    · exact oth fun a b e => by cases e
    · exact oth fun a b e => by cases e
    · exact oth fun a b e => by cases e
    · exact oth fun a b e => by cases e
    · exact oth fun a b e => by cases e
    · exact oth fun a b e => by cases e
    · rw [isBar_pair, if_pos (show isNone .none = true from rfl)]
      unfold stuckD
      have : (strsD (.list [])).isEmpty = true := rfl
      rw [this]
      simp
    · exact oth fun a b e => by cases e
    · exact oth fun a b e => by cases e
    · exact bar_line rfl rfl
  · rcases h with rfl | rfl | rfl | rfl | rfl
    · exact bar_line rfl rfl
    · exact bar_none rfl
    · refine bar_none ?_
      have e : (PyData.list ((x :: r).map .str ++ ((x :: r).map PyData.str).take 1)) = eS ((x :: r) ++ [x]) := by
        unfold eS
        rw [List.map_append]
        rfl
      rw [e, areNames_S]
      have : ¬ ((x :: r) ++ [x]).Nodup := fun h => by
        rw [List.nodup_append] at h
        exact h.2.2 x (by simp) x (by simp) rfl
      rw [decide_eq_false this, Bool.and_false]
    · exact bar_none rfl
    · exact bar_line rfl rfl
  · rcases h with rfl | rfl | rfl | rfl
    · exact bar_line rfl rfl
    · exact bar_none rfl
    · refine bar_none ?_
      unfold areNames
      simp [isName]
    · exact bar_none rfl
theorem sm_list {ds : List PyData} {n : Nat} (h : ∀ d ∈ ds, sm d = true) (h2 : ∀ d ∈ ds, d.depth ≤ n) (hn : n ≤ 7) (hl : ds.length ≤ 1000) : Sm (.list ds) ∧ (PyData.list ds).depth ≤ n + 1 := by
  have h3 : PyData.depthAll ds ≤ n := depthAll_le.mpr h2
  have hd : (PyData.list ds).depth ≤ n + 1 := by
    simp only [PyData.depth]
    omega
  refine ⟨⟨?_, Nat.le_trans hd (by omega)⟩, hd⟩
  simp only [sm, Bool.and_eq_true, decide_eq_true_eq]
  exact ⟨hl, smAll_mem.mpr h⟩
theorem sm_tuple {ds : List PyData} {n : Nat} (h : ∀ d ∈ ds, sm d = true) (h2 : ∀ d ∈ ds, d.depth ≤ n) (hn : n ≤ 7) (hl : ds.length ≤ 1000) : Sm (.tuple ds) ∧ (PyData.tuple ds).depth ≤ n + 1 := by
  have h3 : PyData.depthAll ds ≤ n := depthAll_le.mpr h2
  have hd : (PyData.tuple ds).depth ≤ n + 1 := by
    simp only [PyData.depth]
    omega
  refine ⟨⟨?_, Nat.le_trans hd (by omega)⟩, hd⟩
  simp only [sm, Bool.and_eq_true, decide_eq_true_eq]
  exact ⟨hl, smAll_mem.mpr h⟩
/-- small, of a depth -/
structure Sd (n : Nat) (d : PyData) : Prop where
  s : sm d = true
  d : d.depth ≤ n
theorem Sd.sm' {n : Nat} {d : PyData} (h : Sd n d) (hn : n ≤ 8) : Sm d := ⟨h.s, Nat.le_trans h.d hn⟩
theorem sd_tup {n : Nat} {ds : List PyData} (h : ∀ d ∈ ds, Sd n d) (hl : ds.length ≤ 1000) : Sd (n + 1) (.tuple ds) := by
  have h3 : PyData.depthAll ds ≤ n := depthAll_le.mpr fun d hd => (h d hd).d
  refine ⟨?_, ?_⟩
  · simp only [sm, Bool.and_eq_true, decide_eq_true_eq]
    exact ⟨hl, smAll_mem.mpr fun d hd => (h d hd).s⟩
  · simp only [PyData.depth]
    omega
theorem sd_list {n : Nat} {ds : List PyData} (h : ∀ d ∈ ds, Sd n d) (hl : ds.length ≤ 1000) : Sd (n + 1) (.list ds) := by
  have h3 : PyData.depthAll ds ≤ n := depthAll_le.mpr fun d hd => (h d hd).d
  refine ⟨?_, ?_⟩
  · simp only [sm, Bool.and_eq_true, decide_eq_true_eq]
    exact ⟨hl, smAll_mem.mpr fun d hd => (h d hd).s⟩
  · simp only [PyData.depth]
    omega
theorem sd_none {n : Nat} : Sd n .none := ⟨rfl, by simp [PyData.depth]⟩
theorem sd_int {n : Nat} {i : Int} : Sd n (.int i) := ⟨rfl, by simp [PyData.depth]⟩
theorem sd_bool {n : Nat} {i : Bool} : Sd n (.bool i) := ⟨rfl, by simp [PyData.depth]⟩
theorem sd_str {n : Nat} {x : Str} (h : okS x = true) : Sd n (.str x) := ⟨sm_str h, by simp [PyData.depth]⟩
theorem Sd.up {n m : Nat} {d : PyData} (h : Sd n d) (hn : n ≤ m) : Sd m d := ⟨h.s, Nat.le_trans h.d hn⟩
theorem all1 {p : PyData → Prop} {a : PyData} (h : p a) : ∀ d ∈ [a], p d := fun d hd => by
  have : d = a := by simpa using hd
  rw [this]
  exact h
theorem all2 {p : PyData → Prop} {a b : PyData} (h1 : p a) (h2 : p b) : ∀ d ∈ [a, b], p d := fun d hd => by
  rcases List.mem_cons.mp hd with e | hd
  · rw [e]
    exact h1
  · exact all1 h2 d hd
theorem all3 {p : PyData → Prop} {a b c : PyData} (h1 : p a) (h2 : p b) (h3 : p c) : ∀ d ∈ [a, b, c], p d := fun d hd => by
  rcases List.mem_cons.mp hd with e | hd
  · rw [e]
    exact h1
  · exact all2 h2 h3 d hd
theorem odd_nice {ns : List Str} {x : Str} (N : Ns ns) (hx : ns[0]? = some x) : ∀ d ∈ oddD ns x, Nice d := by
  have nle := N.le
  have okx : okS x = true := name_ok (N.ok x (List.mem_of_getElem? hx))
  have S : Sd 1 (eS ns) := ⟨(N.smS (fun _ h => h) (Nat.le_trans N.le (by decide))).s, depth_S ns⟩
  have T : Sd 1 (.tuple (ns.map .str)) := sd_tup (n := 0) (fun d hd => by
    obtain ⟨y, hy, rfl⟩ := List.mem_map.mp hd
    exact sd_str (name_ok (N.ok y hy))) (by rw [List.length_map]; omega)
  have T2 : Sd 1 (.list (ns.map .str ++ (ns.map .str).take 1)) := sd_list (n := 0) (fun d hd => by
    have hd2 : d ∈ ns.map .str := by
      rcases List.mem_append.mp hd with z | z
      · exact z
      · exact List.mem_of_mem_take z
    obtain ⟨y, hy, rfl⟩ := List.mem_map.mp hd2
    exact sd_str (name_ok (N.ok y hy))) (by
      rw [List.length_append, List.length_take, List.length_map]
      omega)
  have okb : okS "bar" = true := by decide +kernel
  have L0 : Sd 1 (.list []) := sd_list (n := 0) (fun d hd => by cases hd) (by simp)
  have one : ∀ {a : PyData}, Sd 2 a → Nice a := fun h => .inl (h.sm' (by decide))
  have one3 : ∀ {a : PyData}, Sd 3 a → Nice a := fun h => .inl (h.sm' (by decide))
  have p2 : ∀ {a b : PyData}, Sd 1 a → Sd 1 b → Nice (.tuple [a, b]) := fun h1 h2 => one (sd_tup (all2 h1 h2) (by simp))
  intro d hd
  simp only [oddD, odd1, odd2, odd3, List.mem_append, List.mem_cons, List.not_mem_nil, or_false] at hd
  rcases hd with (h | h) | h
  · rcases h with rfl | rfl | rfl | rfl | rfl | rfl | rfl | rfl | rfl | rfl | rfl
    · exact one sd_none
    · exact one sd_int
    · exact one (sd_str okb)
    · exact one (L0.up (by decide))
    · exact .inr rfl
    · exact one (sd_tup (n := 1) (fun d hd => by cases hd) (by simp))
    · exact one (sd_tup (all1 sd_none) (by simp))
    · exact p2 sd_none L0
    · exact one (sd_list (all2 sd_none S) (by simp))
    · exact one (sd_tup (all3 sd_none S sd_int) (by simp))
    · exact p2 S sd_none
  · rcases h with rfl | rfl | rfl | rfl | rfl
    · exact p2 (sd_str ok_call) S
    · exact p2 sd_none T
    · exact p2 sd_none T2
    · exact p2 sd_none sd_none
    · exact p2 sd_bool S
  · rcases h with rfl | rfl | rfl | rfl
    · exact one3 (sd_tup (all2 (sd_tup (all2 (sd_str ok_call) S) (by simp)) (S.up (by decide))) (by simp))
    · exact p2 sd_none (sd_list (n := 0) (all2 sd_none (sd_str okx)) (by simp))
    · exact p2 sd_none (sd_list (n := 0) (all2 (sd_str okx) sd_int) (by simp))
    · exact one3 (sd_tup (all2 sd_none (sd_list (n := 1) (all1 (sd_list (n := 0) (all1 (sd_str okx)) (by simp))) (by simp))) (by simp))
section
variable {K : PySem.W.Frag} {pu : Option Addr} {n n1 n2 n3 : Nat} {env : Env'} {ta tb tc : TE} {a b c : PyData}
theorem pu_T0 : Pu pu n n env (tTup tNil) (D (.tuple [])) := (pu_tup pa_n (Nat.zero_le _)).le (tn_D (ds := []))
theorem pu_T1 (h : Pu pu n n1 env ta (D a)) : Pu pu n n1 env (tTup (tCons ta tNil)) (D (.tuple [a])) := (pu_tup (pa_c h pa_n) (by simp)).le (tn_D (ds := [a]))
theorem pu_T2 (h : Pu pu n n1 env ta (D a)) (h2 : Pu pu n1 n2 env tb (D b)) : Pu pu n n2 env (tTup (tCons ta (tCons tb tNil))) (D (.tuple [a, b])) := (pu_tup (pa_c h (pa_c h2 pa_n)) (by simp)).le (tn_D (ds := [a, b]))
theorem pu_T3 (h : Pu pu n n1 env ta (D a)) (h2 : Pu pu n1 n2 env tb (D b)) (h3 : Pu pu n2 n3 env tc (D c)) : Pu pu n n3 env (tTup (tCons ta (tCons tb (tCons tc tNil)))) (D (.tuple [a, b, c])) := (pu_tup (pa_c h (pa_c h2 (pa_c h3 pa_n))) (by simp)).le (tn_D (ds := [a, b, c]))
theorem pu_L0 : Pu pu n n env (tLst tNil) (D (.list [])) := (pu_lst pa_n (Nat.zero_le _)).le (ln_D (ds := []))
theorem pu_L1 (h : Pu pu n n1 env ta (D a)) : Pu pu n n1 env (tLst (tCons ta tNil)) (D (.list [a])) := (pu_lst (pa_c h pa_n) (by simp)).le (ln_D (ds := [a]))
theorem pu_L2 (h : Pu pu n n1 env ta (D a)) (h2 : Pu pu n1 n2 env tb (D b)) : Pu pu n n2 env (tLst (tCons ta (tCons tb tNil))) (D (.list [a, b])) := (pu_lst (pa_c h (pa_c h2 pa_n)) (by simp)).le (ln_D (ds := [a, b]))
theorem pu_dict0 : Pu pu n n env tDNewK (D (.dict [])) := fun G0 H0 σ G H a e Q q p hp => q _ _ _ (a.here.new hp) (.dic trivial upd_same)
end
def somes (ns : List Str) (x : Str) (ls : List Line) : List (Option Line) := [none] ++ ls.map some ++ [some (("call", ns, x) : Line), some (("off", ns, x) : Line)]
theorem boolStr_ok (b : Bool) : okS (boolStr b) = true := by cases b <;> decide +kernel
section
variable {P : Program} {w : World} {K : PySem.W.Frag} {mg : Str → Option Value} {base : Heap}
abbrev N_l_bars_right : List Str := ["_law_names_here", "_law_lines", "_law_made", "_law_odd", "_law_value", "_law_some", "_law_line_here", "_law_lot"]
theorem sc_l_bars_right : FnScope N_l_bars_right ["_law_names_here", "_law_lines", "_law_made"] (defScope s_l_bars_right) := ⟨rfl, rfl, rfl, by decide +kernel, rfl, by decide +kernel, by decide +kernel⟩
def spBars (K : PySem.W.Frag) : Sp := Prp (ι := List Str × List Line) (fun i => (Ns i.1 ∧ sortS i.1 = i.1) ∧ LsOk i.1 i.2) (fun i => [D (eS i.1), D (eLs i.2), BkT K i.1 (sortL i.2)]) (fun i => D (.bool true))
theorem ok_l_bars_right (T : Tx K mg) : Dn P w K mg base 9 "_law_bars_right" ["_law_names_here", "_law_lines", "_law_made"] (spBars K) := by
  have D_is_bar := ok_is_bar (P := P) (w := w) (base := base) T
  have D_l_fields := ok_l_fields (P := P) (w := w) (base := base) T
  have D_l_is_bar := ok_l_is_bar (P := P) (w := w) (base := base) T
  refine dn_mk T.fd_l_bars_right T.g_l_bars_right sc_l_bars_right (prm_len fun _ => rfl) (fun _ _ _ _ _ _ us hl => match us, hl with | [_, _, _], _ => rfl) fun cdv A outer s H vs Q E hr hu64 hu65 h => ?_
  have nd := sc_l_bars_right.nd
  refine ⟨_, (pss_cons (ps_set (i := 3) nd rfl (Or.inl rfl) (pe_lst (pa_cons pe_non (pa_cons pe_int (pa_cons pe_str (pa_cons (pe_lst pa_nil) (pa_cons pe_dnewK (pa_cons (pe_tup pa_nil) (pa_cons (pe_tup (pa_cons pe_non pa_nil)) (pa_cons (pe_tup (pa_cons pe_non (pa_cons (pe_lst pa_nil) pa_nil))) (pa_cons (pe_lst (pa_cons pe_non (pa_cons (pv 0) pa_nil))) (pa_cons (pe_tup (pa_cons pe_non (pa_cons (pv 0) (pa_cons pe_int pa_nil)))) (pa_cons (pe_tup (pa_cons (pv 0) (pa_cons pe_non pa_nil))) pa_nil)))))))))))))
    (pss_cons (ps_set (i := 3) nd rfl (Or.inl rfl) (pe_op op_plus (pv 3) (pe_lst (pa_cons (pe_tup (pa_cons pe_str (pa_cons (pv 0) pa_nil))) (pa_cons (pe_tup (pa_cons pe_non (pa_cons (pe_callTy (k_tuple K) (by rfl) T.tuple_ (by decide +kernel) (pa_cons (pv 0) pa_nil)) pa_nil))) (pa_cons (pe_tup (pa_cons pe_non (pa_cons (pe_op op_plus (pv 0) (pe_slice (k_sl K) (pv 0) po_none (po_some pe_int))) pa_nil))) (pa_cons (pe_tup (pa_cons pe_non (pa_cons pe_non pa_nil))) (pa_cons (pe_tup (pa_cons pe_bl (pa_cons (pv 0) pa_nil))) pa_nil))))))))
    (pss_cons (ps_set (i := 3) nd rfl (Or.inl rfl) (pe_op op_plus (pv 3) (pe_lst (pa_cons (pe_tup (pa_cons (pe_tup (pa_cons pe_str (pa_cons (pv 0) pa_nil))) (pa_cons (pv 0) pa_nil))) (pa_cons (pe_tup (pa_cons pe_non (pa_cons (pe_lst (pa_cons pe_non (pa_cons (pe_ix (k_ix K) (pv 0) pe_int (fun _ _ => rfl)) pa_nil))) pa_nil))) (pa_cons (pe_tup (pa_cons pe_non (pa_cons (pe_lst (pa_cons (pe_ix (k_ix K) (pv 0) pe_int (fun _ _ => rfl)) (pa_cons pe_int pa_nil))) pa_nil))) (pa_cons (pe_tup (pa_cons pe_non (pa_cons (pe_lst (pa_cons (pe_lst (pa_cons (pe_ix (k_ix K) (pv 0) pe_int (fun _ _ => rfl)) pa_nil)) pa_nil)) pa_nil))) pa_nil)))))))
    (pss_cons (ps_if (pt_cmpR (k_ne K hu64) (pe_lc (own := [("_law_value", 4)]) rfl nd (k_over K (pv 3)) (blkOk_by (own := [("_law_value", 4)]) (N := N_l_bars_right) (sc := defScope s_l_bars_right) (by decide +kernel)) (fun _ _ _ _ _ => (pg_name (i := 4) nd rfl (Or.inl rfl))) (fun _ _ _ _ _ => (pts_one (pt_cmpR op_notBl (pe_callD D_is_bar (hr.mono (by decide)) rfl (pa_cons (pv 2) (pa_cons (pv 4) pa_nil))) pe_bl (nomark _)))) (fun _ _ _ _ _ => (pv 4))) (pe_lst pa_nil) (nomark _)) (pss_one (ps_ret pe_bl)) pss_nil)
    (pss_cons (ps_set (i := 5) nd rfl (Or.inl rfl) (pe_op op_plus (pe_op op_plus (pe_lst (pa_cons pe_non pa_nil)) (pv 1)) (pe_lst (pa_cons (pe_tup (pa_cons pe_str (pa_cons (pe_callTy (k_list K) (by rfl) T.list_ (by decide +kernel) (pa_cons (pv 0) pa_nil)) (pa_cons (pe_ix (k_ix K) (pv 0) pe_int (fun _ _ => rfl)) pa_nil)))) (pa_cons (pe_tup (pa_cons pe_str (pa_cons (pe_callTy (k_list K) (by rfl) T.list_ (by decide +kernel) (pa_cons (pv 0) pa_nil)) (pa_cons (pe_ix (k_ix K) (pv 0) pe_int (fun _ _ => rfl)) pa_nil)))) pa_nil)))))
    (pss_cons (ps_for PassesOwn.never rfl (k_over K (pv 5)) (pg_name (i := 6) nd rfl (Or.inl rfl))
     (pss_one (ps_for PassesOwn.never rfl (k_over K (pe_callD D_l_fields (hr.mono (by decide)) rfl (pa_cons (pv 0) pa_nil))) (pg_name (i := 7) nd rfl (Or.inl rfl))
      (pss_one (ps_if (pt_cmpR (k_ne K hu64) (pe_callTy call_strB (by rfl) T.str_ (by decide +kernel) (pa_cons (pe_callD D_is_bar (hr.mono (by decide)) rfl (pa_cons (pv 2) (pa_cons (pe_tup (pa_cons (pv 6) (pa_cons (pe_callTy (k_list K) (by rfl) T.list_ (by decide +kernel) (pa_cons (pv 7) pa_nil)) pa_nil))) pa_nil))) pa_nil)) (pe_callTy call_strB (by rfl) T.str_ (by decide +kernel) (pa_cons (pe_callD D_l_is_bar (hr.mono (by decide)) rfl (pa_cons (pv 0) (pa_cons (pv 1) (pa_cons (pv 6) (pa_cons (pv 7) pa_nil))))) pa_nil)) (nomark _)) (pss_one (ps_ret pe_bl)) pss_nil)))))
    (pss_one (ps_ret pe_bl)))))))), fn_prm (E := E) h fun i hi => ?_⟩
  obtain ⟨ns, ls⟩ := i
  obtain ⟨⟨N, so⟩, Z⟩ := hi
  have N : Ns ns := N
  have so : sortS ns = ns := so
  have Z : LsOk ns ls := Z
  have nle := N.le
  obtain ⟨x, hx⟩ : ∃ x, ns[0]? = some x := by
    cases hns : ns with
    | nil => exact absurd hns N.ne
    | cons y r => exact ⟨y, rfl⟩
  have hxm : x ∈ ns := List.mem_of_getElem? hx
  have Bs : Bo ns (sortL ls) := ⟨N, fun l hl => Z.L l ((sortL_mem l).mp hl), by rw [(sortL_perm ls).length_eq]; exact Nat.le_trans Z.le (by decide)⟩
  have Bl : Bo ns ls := ⟨N, Z.L, Nat.le_trans Z.le (by decide)⟩
  have lle := Z.le
  have hx2 : (ns.map PyData.str)[0]? = some (.str x) := by rw [List.getElem?_map, hx]; rfl
  show Sj none 0 [some (.im (D (.list (ns.map .str)))), some (.im (D (.list (ls.map eL)))), some (.im (BkT K ns (sortL ls))), none, none, none, none, none] _ _
  refine sj_seq (sj_asg ((pu_lst (pa_c pu_non (pa_c pu_int (pa_c pu_str (pa_c pu_L0 (pa_c pu_dict0 (pa_c pu_T0 (pa_c (pu_T1 pu_non) (pa_c (pu_T2 pu_non pu_L0) (pa_c (pu_L2 pu_non (pu_var rfl)) (pa_c (pu_T3 pu_non (pu_var rfl) pu_int) (pa_c (pu_T2 (pu_var rfl) pu_non) pa_n))))))))))) (by simp)).le (ln_D (ds := odd1 ns))) ?_)
  show Sj none 0 [some (.im (D (.list (ns.map .str)))), some (.im (D (.list (ls.map eL)))), some (.im (BkT K ns (sortL ls))), some (.im (D (.list (odd1 ns)))), none, none, none, none] _ _
  refine sj_seq (sj_asg (pu_op (pu_var rfl) ((pu_lst (pa_c (pu_T2 pu_str (pu_var rfl)) (pa_c (pu_T2 pu_non (pu_cb (pa_c (pu_var rfl) pa_n) rc_tuple)) (pa_c (pu_T2 pu_non (pu_op (pu_var rfl) (pu_uptoK (k := 1) (pu_var rfl) po_n (po_s (pu_int (i := ((1 : Nat) : Int))))) (rv_addL (by
    rw [List.length_take, List.length_map]
    omega)))) (pa_c (pu_T2 pu_non pu_non) (pa_c (pu_T2 pu_bl (pu_var rfl)) pa_n))))) (by simp)).le (ln_D (ds := odd2 ns))) (rv_addL (by simp [odd1, odd2]))) ?_)
  show Sj none 0 [some (.im (D (.list (ns.map .str)))), some (.im (D (.list (ls.map eL)))), some (.im (BkT K ns (sortL ls))), some (.im (D (.list (odd1 ns ++ odd2 ns)))), none, none, none, none] _ _
  refine sj_seq (sj_asg (pu_op (pu_var rfl) ((pu_lst (pa_c (pu_T2 (pu_T2 pu_str (pu_var rfl)) (pu_var rfl)) (pa_c (pu_T2 pu_non (pu_L2 pu_non (pu_op (pu_var rfl) (pu_int (i := ((0 : Nat) : Int))) (rv_ixL hx2)))) (pa_c (pu_T2 pu_non (pu_L2 (pu_op (pu_var rfl) (pu_int (i := ((0 : Nat) : Int))) (rv_ixL hx2)) pu_int)) (pa_c (pu_T2 pu_non (pu_L1 (pu_L1 (pu_op (pu_var rfl) (pu_int (i := ((0 : Nat) : Int))) (rv_ixL hx2))))) pa_n)))) (by simp)).le (ln_D (ds := odd3 ns x))) (rv_addL (by simp [odd1, odd2, odd3]))) ?_)
  have eo : (PyData.list (odd1 ns ++ odd2 ns ++ odd3 ns x)) = .list ((oddD ns x).map fun d => d) := by
    rw [List.map_id']
    rfl
  rw [eo]
  have ol : (oddD ns x).length ≤ 10000 := by simp [oddD, odd1, odd2, odd3]
  show Sj none 0 [some (.im (D (.list (ns.map .str)))), some (.im (D (.list (ls.map eL)))), some (.im (BkT K ns (sortL ls))), some (.im (D (.list ((oddD ns x).map fun d => d)))), none, none, none, none] _ _
  refine sj_seq (sj_if (B := (· = false)) (qt_test ((pu_notNil ((pu_lcE (enc := fun d => d) (xs := oddD ns x) (pu_var rfl) [4] (by simp) ol (fun d => false) (fun d => D d)
    (fun d hd => ⟨_, tg_name, qt_test ((pu_op ((pu_call1 (ι := List Str × List Line × PyData) (ns, sortL ls, d) (by exact ⟨Bs, odd_nice N hx d hd⟩) (pa_c (pu_var rfl) (pa_c (pu_var rfl) pa_n)) (by exact ⟨sub_Bk, sub_D, trivial⟩)).le (le_bool (odd_no N hx d hd))) pu_bl rv_isNotB).le (le_bool (by rfl))), fun h => by cases h⟩)).le ln_Dm) (by rw [filter_no]; exact shaped_nil)).le (le_bool (by rw [filter_no]; rfl)))) (fun hb => by cases hb) (fun _ => sj_next ?_))
  have es : (PyData.list ([PyData.none] ++ ls.map eL ++ [eL ("call", ns, x), eL ("off", ns, x)])) = .list ((somes ns x ls).map eLo) := by
    unfold somes
    rw [List.map_append, List.map_append, List.map_map]
    rfl
  have pl : ∀ {wd : Str}, Pu none 0 0 [some (.im (D (.list (ns.map .str)))), some (.im (D (.list (ls.map eL)))), some (.im (BkT K ns (sortL ls))), some (.im (D (.list ((oddD ns x).map fun d => d)))), none, none, none, none] (tTup (tCons (tC (.str wd)) (tCons (tCB (rListQ K) (tCons (tVar 0) tNil)) (tCons (tOp (rIx K) (tVar 0) (tC (.int 0))) tNil)))) (D (eL (wd, ns, x))) := fun {wd} =>
    pu_T3 pu_str ((pu_cb (pa_c (pu_var rfl) pa_n) rc_list).le (ln_SF2.trans le_FD)) (pu_op (pu_var rfl) (pu_int (i := ((0 : Nat) : Int))) (rv_ixL hx2))
  refine sj_seq (sj_asg ((pu_op (pu_op (pu_L1 pu_non) (pu_var rfl) (rv_addL (by
    rw [List.length_map]
    simp
    omega))) (pu_L2 pl pl) (rv_addL (by
    rw [List.length_append, List.length_map]
    simp
    omega))).le (le_D es)) ?_)
  show Sj none 0 [some (.im (D (.list (ns.map .str)))), some (.im (D (.list (ls.map eL)))), some (.im (BkT K ns (sortL ls))), some (.im (D (.list ((oddD ns x).map fun d => d)))), none, some (.im (D (.list ((somes ns x ls).map eLo)))), none, none] _ _
  have sml : ∀ lo ∈ somes ns x ls, ∀ l, lo = some l → Sm (eL l) := fun lo hlo l e => by
    subst e
    have Sn : Sm (eS ns) := N.smS (fun _ h => h) (Nat.le_trans N.le (by decide))
    have okx : okS x = true := name_ok (N.ok x hxm)
    unfold somes at hlo
    simp only [List.mem_append, List.mem_cons, List.not_mem_nil, or_false, List.mem_map, Option.some.injEq] at hlo
    rcases hlo with (h | ⟨m, hm, rfl⟩) | (h | h)
    · cases h
    · exact (Z.L m hm).sm N
    · rw [h]
      exact sm_L ok_call okx Sn
    · rw [h]
      exact sm_L ok_off okx Sn
  have smlo : ∀ lo ∈ somes ns x ls, Sm (eLo lo) := fun lo hlo => by
    cases lo with
    | none => exact ⟨rfl, by simp [eLo, PyData.depth]⟩
    | some l => exact sml _ hlo l rfl
  refine sj_seq (sj_forE (enc := eLo) (xs := somes ns x ls) (pu_var rfl) (fun i m e => m = 0 ∧ ∃ a b, e = [some (.im (D (.list (ns.map .str)))), some (.im (D (.list (ls.map eL)))), some (.im (BkT K ns (sortL ls))), some (.im (D (.list ((oddD ns x).map fun d => d)))), none, some (.im (D (.list ((somes ns x ls).map eLo)))), a, b]) ⟨rfl, _, _, rfl⟩ (fun i lo m e hl iv => ?_) (fun m e iv => ?_))
  · obtain ⟨rfl, a, b, rfl⟩ := iv
    have hlo := List.mem_of_getElem? hl
    refine ⟨_, _, tg_name, ?_⟩
    show Sj none 0 [some (.im (D (.list (ns.map .str)))), some (.im (D (.list (ls.map eL)))), some (.im (BkT K ns (sortL ls))), some (.im (D (.list ((oddD ns x).map fun d => d)))), none, some (.im (D (.list ((somes ns x ls).map eLo)))), some (.im (D (eLo lo))), b] _ _
    refine sj_forE (enc := eS) (xs := fields ns) (pu_call1 (ι := List Str) ns nle (pa_c (pu_var rfl) pa_n) (by exact ⟨sub_D, trivial⟩)) (fun j m e => m = 0 ∧ ∃ b, e = [some (.im (D (.list (ns.map .str)))), some (.im (D (.list (ls.map eL)))), some (.im (BkT K ns (sortL ls))), some (.im (D (.list ((oddD ns x).map fun d => d)))), none, some (.im (D (.list ((somes ns x ls).map eLo)))), some (.im (D (eLo lo))), b]) ⟨rfl, _, rfl⟩ (fun j v m e hv iv => ?_) (fun m e iv => ?_)
    · obtain ⟨rfl, b, rfl⟩ := iv
      have sv := fields_sub (List.mem_of_getElem? hv)
      have okv : ∀ y ∈ v, okS y = true := fun y hy => name_ok (N.ok y (sv.subset hy))
      have vle : v.length ≤ 1000 := Nat.le_trans sv.length_le (Nat.le_trans nle (by decide))
      refine ⟨_, _, tg_name, ?_⟩
      show Sj none 0 [some (.im (D (.list (ns.map .str)))), some (.im (D (.list (ls.map eL)))), some (.im (BkT K ns (sortL ls))), some (.im (D (.list ((oddD ns x).map fun d => d)))), none, some (.im (D (.list ((somes ns x ls).map eLo)))), some (.im (D (eLo lo))), some (.im (D (.list (v.map .str))))] _ _
      have nice : Nice (.tuple [eLo lo, eS v]) := by
        have h1 := smlo lo hlo
        have h2 := sm_S vle okv
        refine .inl ((sd_tup (n := 3) (all2 ⟨h1.s, ?_⟩ ⟨h2.s, Nat.le_trans (depth_S v) (by decide)⟩) (by simp)).sm' (by decide))
        cases lo with
        | none => simp [eLo, PyData.depth]
        | some l => exact Nat.le_trans (depth_tup3 (n := 1) (by simp [PyData.depth]) (depth_S l.2.1) (by simp [PyData.depth])) (by decide)
      refine sj_if (B := (· = false)) (qt_test ((pu_op (pu_cb (pa_c ((pu_call1 (ι := List Str × List Line × PyData) (ns, sortL ls, .tuple [eLo lo, eS v]) (by exact ⟨Bs, nice⟩) (pa_c (pu_var rfl) (pa_c (pu_T2 (pu_var rfl) ((pu_cb (pa_c (pu_var rfl) pa_n) rc_list).le (ln_SF2.trans le_FD))) pa_n)) (by exact ⟨sub_Bk, sub_D, trivial⟩)).le (le_bool (isBar_eq N so Z sv))) pa_n) rc_strB)
        (pu_cb (pa_c (pu_call1 (ι := (List Str × List Line) × Option Line × List Str) ((ns, ls), lo, v) (by exact ⟨Bl, fun l e => sml lo hlo l e, okv, vle⟩) (pa_c (pu_var rfl) (pa_c (pu_var rfl) (pa_c (pu_var rfl) (pa_c (pu_var rfl) pa_n)))) (by exact ⟨sub_D, sub_D, sub_D, sub_D, trivial⟩)) pa_n) rc_strB) (rv_ne (shaped_str (boolStr_ok _)) (shaped_str (boolStr_ok _)))).le (le_bool (by rw [eqv_str, decide_eq_true rfl]; rfl)))) (fun hb => by cases hb) (fun _ => sj_next ⟨rfl, _, rfl⟩)
    · obtain ⟨rfl, b, rfl⟩ := iv
      exact ⟨rfl, _, _, rfl⟩
  · obtain ⟨rfl, a, b, rfl⟩ := iv
    exact sj_ret pu_bl Ty.le.rfl'
end
end Cp
set_option Elab.async false
set_option linter.all false
set_option maxRecDepth 100000
set_option maxHeartbeats 2000000
/-! MA: what is left on the table, and the rows that keep. -/
namespace Cp
open PySem L2
theorem barred_mem {os : List Off} {row : List Str} {x : Str} : x ∈ barred os row ↔ ∃ o ∈ os, (∀ n ∈ o.1, n ∉ row) ∧ o.2 = x := by
  unfold barred
  simp only [List.mem_map, List.mem_filter, List.isEmpty_iff, List.filter_eq_nil_iff, decide_eq_true_eq]
  exact ⟨fun ⟨o, ⟨h1, h2⟩, h3⟩ => ⟨o, h1, h2, h3⟩, fun ⟨o, h1, h2, h3⟩ => ⟨o, ⟨h1, h2⟩, h3⟩⟩
/-- a set in which each is barred by it -/
def Stuck (ns : List Str) (os : List Off) (V : Str → Prop) : Prop := ∀ x, V x → x ∈ ns ∧ ∃ o ∈ os, o.2 = x ∧ ∀ n ∈ o.1, V n
theorem Stuck.barred {ns : List Str} {os : List Off} {V : Str → Prop} (h : Stuck ns os V) {row : List Str} (hr : ∀ y ∈ row, ¬ V y) {x : Str} (hx : V x) : x ∈ barred os row := by
  obtain ⟨_, o, ho, e, hv⟩ := h x hx
  exact barred_mem.mpr ⟨o, ho, fun n hn hrow => hr n hrow (hv n hn), e⟩
theorem walk_out {ns : List Str} {os : List Off} {V : Str → Prop} (h : Stuck ns os V) : ∀ (k : Nat) (row rest : List Str), (∀ y ∈ row, ¬ V y) → ∀ y ∈ (walk os k row rest).1, ¬ V y
  | 0, row, rest, hr => hr
  | k + 1, row, rest, hr => by
    unfold walk
    split
    · exact hr
    · refine walk_out h k _ _ fun y hy hv => ?_
      rcases List.mem_append.mp hy with z | z
      · exact hr y z hv
      · have := (List.mem_filter.mp z).2
        simp [h.barred hr hv] at this
theorem walk_sub (os : List Off) : ∀ (k : Nat) (row rest : List Str), (walk os k row rest).2.Sublist rest
  | 0, row, rest => List.Sublist.refl _
  | k + 1, row, rest => by
    unfold walk
    split
    · exact List.Sublist.refl _
    · exact (walk_sub os k _ _).trans List.filter_sublist
theorem walk_end (os : List Off) : ∀ (k : Nat) (row rest : List Str), rest.length ≤ k → ∀ x ∈ (walk os k row rest).2, x ∈ barred os (walk os k row rest).1
  | 0, row, rest, hl, x, hx => by
    have : rest = [] := List.eq_nil_of_length_eq_zero (by omega)
    rw [this] at hx
    cases hx
  | k + 1, row, rest, hl, x, hx => by
    unfold walk at hx ⊢
    by_cases h : (rest.filter fun n => !decide (n ∈ barred os row)) = []
    · rw [if_pos h] at hx ⊢
      have := List.filter_eq_nil_iff.mp h x hx
      simpa using this
    · rw [if_neg h] at hx ⊢
      refine walk_end os k _ _ ?_ x hx
      have fl := filter_split (fun n => decide (n ∈ barred os row)) rest
      have hp := List.length_pos_iff.mpr h
      omega
/-- the lots are of the names -/
def LotsIn (ns : List Str) (os : List Off) : Prop := ∀ o ∈ os, ∀ n ∈ o.1, n ∈ ns
theorem walked_stuck {ns : List Str} {os : List Off} (h : LotsIn ns os) (nd : ns.Nodup) : Stuck ns os (fun x => x ∈ (walked ns os).2) := by
  intro x hx
  refine ⟨walked_sub2 hx, ?_⟩
  obtain ⟨o, ho, h1, h2⟩ := barred_mem.mp (walk_end os ns.length [] ns (Nat.le_refl _) x hx)
  refine ⟨o, ho, h2, fun n hn => ?_⟩
  have := (walked_perm ns os).mem_iff.mpr (h o ho n hn)
  rcases List.mem_append.mp this with z | z
  · exact absurd z (h1 n hn)
  · exact z
theorem walked_mem {ns : List Str} {os : List Off} (h : LotsIn ns os) (nd : ns.Nodup) {x : Str} : x ∈ (walked ns os).2 ↔ ∃ V, Stuck ns os V ∧ V x := by
  constructor
  · exact fun hx => ⟨_, walked_stuck h nd, hx⟩
  · rintro ⟨V, hV, hx⟩
    have := (walked_perm ns os).mem_iff.mpr (hV x hx).1
    rcases List.mem_append.mp this with z | z
    · exact absurd hx (walk_out hV ns.length [] ns (fun y hy => by cases hy) x z)
    · exact z
def openOf (os : List Off) (ns t : List Str) : List Str := (ns.filter fun n => !decide (n ∈ t)).filter fun n => !decide (n ∈ barred os t)
theorem takenN_nd (os : List Off) {ns : List Str} (nd : ns.Nodup) : ∀ k, (takenN os ns k).Nodup
  | 0 => List.nodup_nil
  | k + 1 => by
    unfold takenN taken1
    rw [List.nodup_append]
    refine ⟨takenN_nd os nd k, ((nd.sublist List.filter_sublist).sublist List.filter_sublist).sublist (List.take_sublist _ _), fun a ha b hb e => ?_⟩
    have := (List.mem_filter.mp (List.mem_filter.mp (List.mem_of_mem_take hb)).1).2
    rw [← e] at this
    simp [ha] at this
theorem takenN_full (os : List Off) (ns : List Str) : ∀ k, (takenN os ns k).length = k ∨ openOf os ns (takenN os ns k) = []
  | 0 => .inl rfl
  | k + 1 => by
    have e : takenN os ns (k + 1) = takenN os ns k ++ (openOf os ns (takenN os ns k)).take 1 := rfl
    cases q : openOf os ns (takenN os ns k) with
    | nil =>
      right
      rw [e, q, List.take_nil, List.append_nil, q]
    | cons x r =>
      rcases takenN_full os ns k with z | z
      · left
        rw [e, q, List.length_append, z]
        rfl
      · rw [q] at z
        cases z
theorem takenN_out {ns : List Str} {os : List Off} {V : Str → Prop} (h : Stuck ns os V) : ∀ k, ∀ y ∈ takenN os ns k, ¬ V y
  | 0, y, hy => by cases hy
  | k + 1, y, hy => by
    have ih := takenN_out h k
    unfold takenN taken1 at hy
    rcases List.mem_append.mp hy with z | z
    · exact ih y z
    · intro hv
      have := (List.mem_filter.mp (List.mem_of_mem_take z)).2
      simp [h.barred ih hv] at this
theorem lRest_mem {ns : List Str} {os : List Off} (h : LotsIn ns os) (nd : ns.Nodup) {x : Str} : x ∈ lRest ns os ↔ ∃ V, Stuck ns os V ∧ V x := by
  have op : openOf os ns (takenN os ns ns.length) = [] := by
    rcases takenN_full os ns ns.length with z | z
    · unfold openOf
      have p := perm_of_sub (takenN_sub os ns ns.length) (takenN_nd os nd ns.length) (Nat.le_of_eq z.symm) nd
      rw [List.filter_eq_nil_iff]
      intro y hy
      have hy2 := List.mem_filter.mp hy
      have : y ∈ takenN os ns ns.length := p.mem_iff.mpr hy2.1
      simp [this] at hy2
    · exact z
  constructor
  · intro hx
    refine ⟨fun y => y ∈ lRest ns os, fun y hy => ⟨lRest_sub hy, ?_⟩, hx⟩
    have hb : y ∈ barred os (takenN os ns ns.length) := by
      have := List.filter_eq_nil_iff.mp op y hy
      simpa using this
    obtain ⟨o, ho, h1, h2⟩ := barred_mem.mp hb
    exact ⟨o, ho, h2, fun n hn => List.mem_filter.mpr ⟨h o ho n hn, by simp [h1 n hn]⟩⟩
  · rintro ⟨V, hV, hx⟩
    refine List.mem_filter.mpr ⟨(hV x hx).1, ?_⟩
    have := takenN_out hV ns.length x
    simp only [Bool.not_eq_true', decide_eq_false_iff_not]
    exact fun z => this z hx
theorem stuck_congr {ns : List Str} {os ps : List Off} (h : ∀ o, o ∈ os ↔ o ∈ ps) {V : Str → Prop} : Stuck ns os V ↔ Stuck ns ps V :=
  ⟨fun s x hx => ⟨(s x hx).1, let ⟨o, ho, r⟩ := (s x hx).2; ⟨o, (h o).mp ho, r⟩⟩, fun s x hx => ⟨(s x hx).1, let ⟨o, ho, r⟩ := (s x hx).2; ⟨o, (h o).mpr ho, r⟩⟩⟩
theorem sub_filter {s ns : List Str} (h : s.Sublist ns) (nd : ns.Nodup) : s = ns.filter fun x => decide (x ∈ s) := by
  induction h with
  | slnil => rfl
  | @cons l1 l2 a h ih =>
    rw [List.nodup_cons] at nd
    have ha : a ∉ l1 := fun z => nd.1 (h.subset z)
    rw [List.filter_cons, if_neg (by simpa using ha)]
    exact ih nd.2
  | @cons_cons l1 l2 a h ih =>
    rw [List.nodup_cons] at nd
    rw [List.filter_cons, if_pos (by simp)]
    have e : (l2.filter fun x => decide (x ∈ a :: l1)) = l2.filter fun x => decide (x ∈ l1) := by
      refine List.filter_congr fun x hx => ?_
      have : x ≠ a := fun z => nd.1 (by rw [← z]; exact hx)
      simp [this]
    rw [e, ← ih nd.2]
theorem rest_eq {ns : List Str} {os ps : List Off} (nd : ns.Nodup) (h1 : LotsIn ns os) (h : ∀ o, o ∈ os ↔ o ∈ ps) : (walked ns os).2 = lRest ns ps := by
  have h2 : LotsIn ns ps := fun o ho => h1 o ((h o).mpr ho)
  rw [sub_filter (s := (walked ns os).2) (walk_sub os ns.length [] ns) nd, sub_filter (s := lRest ns ps) List.filter_sublist nd]
  refine List.filter_congr fun x _ => decide_eq_decide.mpr ?_
  show x ∈ (walked ns os).2 ↔ _
  rw [walked_mem h1 nd, lRest_mem h2 nd]
  exact ⟨fun ⟨V, a, b⟩ => ⟨V, (stuck_congr h).mp a, b⟩, fun ⟨V, a, b⟩ => ⟨V, (stuck_congr h).mpr a, b⟩⟩
/-! ### bars -/
theorem Bo.sort {ns : List Str} {ls : List Line} (h : Bo ns ls) : Bo ns (sortL ls) := ⟨h.N, fun l hl => h.L l ((sortL_mem l).mp hl), by rw [(sortL_perm ls).length_eq]; exact h.ll⟩
theorem WsOk.lots {ns : List Str} {ls : List Line} {ws : List Wish} (h : WsOk ns ls ws) : LotsIn ns (offs ls ws) := fun o ho => (offs_mem h ho).1
theorem bo_rest {ns : List Str} {ls : List Line} {ws : List Wish} (h : WsOk ns (sortL ls) ws) : (walked ns (offs (sortL ls) ws)).2 = lRest ns (offs ls ws) := rest_eq h.N.nd h.lots (offs_mem_congr sortL_mem)
theorem find_congr {α : Type} {p q : α → Bool} : ∀ {xs : List α}, (∀ x ∈ xs, p x = q x) → xs.find? p = xs.find? q
  | [], _ => rfl
  | x :: xs, h => by
    rw [List.find?_cons, List.find?_cons, h x List.mem_cons_self, find_congr fun y hy => h y (List.mem_cons_of_mem _ hy)]
theorem bar_eq {ns : List Str} {ls : List Line} (h : Bo ns ls) : barD ns (sortL ls) = lBarD ns ls := by
  have S := h.sort
  have e0 := bo_rest S.w0
  have e1 : ∀ l ∈ calls (sortL ls), (walked ns (offs (sortL ls) (wishOf l))).2 = lRest ns (offs ls (wishOf l)) := fun l hl => bo_rest (S.w1 (S.L l (calls_mem hl)))
  unfold barD lBarD
  rw [e0, find_congr (q := fun l => decide (lRest ns (offs ls (wishOf l)) ≠ [])) fun l hl => by rw [e1 l hl]]
  cases q : (calls (sortL ls)).find? (fun l => decide (lRest ns (offs ls (wishOf l)) ≠ [])) with
  | none => rfl
  | some l =>
    have := e1 l (List.mem_of_find?_eq_some q)
    dsimp only
    rw [this]
/-! ### rows that keep -/
theorem find_sub {r : List Str} {V W : Str → Bool} {x : Str} (h : r.find? V = some x) (hx : W x = true) (s : ∀ y, W y = true → V y = true) : r.find? W = some x := by
  induction r with
  | nil => cases h
  | cons y r ih =>
    rw [List.find?_cons] at h ⊢
    cases hy : V y with
    | true =>
      rw [hy] at h
      cases h
      rw [hx]
    | false =>
      rw [hy] at h
      have : W y = false := by
        cases q : W y with
        | false => rfl
        | true =>
          rw [s y q] at hy
          cases hy
      rw [this]
      exact ih h
theorem meets_find (r f : List Str) (x : Str) : meets r f x = true ↔ r.find? (fun y => decide (y ∈ f)) = some x := by
  unfold meets
  rw [List.head?_filter, decide_eq_true_eq]
theorem good_walk {os : List Off} : ∀ (k : Nat) (row rest : List Str), (row ++ rest).Nodup → (∀ o ∈ os, o.2 ∈ row → meets row (o.1 ++ [o.2]) o.2 = false) → ∀ o ∈ os, o.2 ∈ (walk os k row rest).1 → meets (walk os k row rest).1 (o.1 ++ [o.2]) o.2 = false
  | 0, row, rest, nd, h => h
  | k + 1, row, rest, nd, h => by
    unfold walk
    split
    · exact h
    · have ndr := nd
      rw [List.nodup_append] at ndr
      refine good_walk k _ _ ?_ fun o ho hx => ?_
      · rw [List.append_assoc]
        have p := List.filter_append_perm (fun n => !decide (n ∈ barred os row)) rest
        simp only [Bool.not_not] at p
        exact (p.append_left row).nodup_iff.mpr nd
      · unfold meets
        rw [List.filter_append]
        by_cases hr : o.2 ∈ row
        · have h1 := h o ho hr
          unfold meets at h1
          have ne : (row.filter fun y => decide (y ∈ o.1 ++ [o.2])) ≠ [] := List.ne_nil_of_mem (List.mem_filter.mpr ⟨hr, by simp⟩)
          obtain ⟨z, zs, e⟩ := List.exists_cons_of_ne_nil ne
          rw [e] at h1 ⊢
          exact h1
        · have hf : o.2 ∈ rest.filter fun n => !decide (n ∈ barred os row) := by
            rcases List.mem_append.mp hx with z | z
            · exact absurd z hr
            · exact z
          have hnb : o.2 ∉ barred os row := by
            have := (List.mem_filter.mp hf).2
            simpa using this
          have : ∃ n ∈ o.1, n ∈ row := by
            refine Classical.byContradiction fun hc => hnb (barred_mem.mpr ⟨o, ho, fun n hn hrow => hc ⟨n, hn, hrow⟩, rfl⟩)
          obtain ⟨n, hn, hrow⟩ := this
          have ne : (row.filter fun y => decide (y ∈ o.1 ++ [o.2])) ≠ [] := List.ne_nil_of_mem (List.mem_filter.mpr ⟨hrow, by simp [hn]⟩)
          obtain ⟨z, zs, e⟩ := List.exists_cons_of_ne_nil ne
          have hz : z ∈ row := (List.mem_filter.mp (by rw [e]; exact List.mem_cons_self : z ∈ row.filter fun y => decide (y ∈ o.1 ++ [o.2]))).1
          rw [e]
          show decide ((z :: _).head? = some o.2) = false
          refine decide_eq_false fun q => ?_
          have : z = o.2 := by simpa using q
          exact hr (by rw [← this]; exact hz)
theorem walked_keeps {ns : List Str} {os : List Off} (nd : ns.Nodup) (hin : ∀ o ∈ os, o.2 ∈ ns) (h : (walked ns os).2 = []) : rowKeeps os (walked ns os).1 = true := by
  unfold rowKeeps
  rw [List.all_eq_true]
  intro o ho
  have R : (walked ns os).1.Perm ns := walked_row h
  have := good_walk (os := os) ns.length [] ns (by simpa using nd) (fun o _ hx => by cases hx) o ho (R.mem_iff.mpr (hin o ho))
  show (!meets (walked ns os).1 _ _) = true
  rw [show meets (walked ns os).1 (o.1 ++ [o.2]) o.2 = false from this]
  rfl
theorem keeps_rest {ns r : List Str} {os : List Off} (h1 : LotsIn ns os) (nd : ns.Nodup) (hr : r.Perm ns) (hk : rowKeeps os r = true) : lRest ns os = [] := by
  cases q : lRest ns os with
  | nil => rfl
  | cons y ys =>
    exfalso
    have hy : y ∈ lRest ns os := by rw [q]; exact List.mem_cons_self
    have hyr : y ∈ r := hr.mem_iff.mpr (lRest_sub hy)
    cases f : r.find? (fun z => decide (z ∈ lRest ns os)) with
    | none =>
      have := List.find?_eq_none.mp f y hyr
      simp [hy] at this
    | some x =>
      have hx : x ∈ lRest ns os := by simpa using List.find?_some f
      obtain ⟨V, hV, hVx⟩ := (lRest_mem h1 nd).mp hx
      obtain ⟨_, o, ho, e, hv⟩ := hV x hVx
      have hl : ∀ n ∈ o.1, n ∈ lRest ns os := fun n hn => (lRest_mem h1 nd).mpr ⟨V, hV, hv n hn⟩
      have hm : meets r (o.1 ++ [o.2]) o.2 = true := (meets_find _ _ _).mpr (by
        rw [e]
        refine find_sub f (by simp) fun z hz => ?_
        have hz2 : z ∈ o.1 ++ [x] := of_decide_eq_true hz
        rcases List.mem_append.mp hz2 with w | w
        · exact decide_eq_true (hl z w)
        · have : z = x := by simpa using w
          rw [this]
          exact decide_eq_true hx)
      have := List.all_eq_true.mp hk o ho
      rw [hm] at this
      cases this
theorem rowKeeps_app (os ps : List Off) (r : List Str) : rowKeeps (os ++ ps) r = (rowKeeps os r && rowKeeps ps r) := by
  unfold rowKeeps
  rw [List.all_append]
theorem offs_wish (ls : List Line) (l : Line) : offs ls (wishOf l) = offs ls [] ++ wishOffs (l.2.1, l.2.2) := by
  unfold offs wishOf
  simp
theorem wish_meets {r f : List Str} {e : Str} (he : e ∈ f) (hr : ∃ y ∈ r, y ∈ f) : rowKeeps (wishOffs (f, e)) r = meets r f e := by
  have key : rowKeeps (wishOffs (f, e)) r = true ↔ meets r f e = true := by
    rw [meets_find]
    unfold rowKeeps wishOffs
    rw [List.all_eq_true]
    constructor
    · intro h
      cases q : r.find? (fun y => decide (y ∈ f)) with
      | none =>
        obtain ⟨y, h1, h2⟩ := hr
        have := List.find?_eq_none.mp q y h1
        simp [h2] at this
      | some x =>
        have hx : x ∈ f := by simpa using List.find?_some q
        by_cases hxe : x = e
        · rw [hxe]
        · exfalso
          have := h ([e], x) (List.mem_map.mpr ⟨x, List.mem_filter.mpr ⟨hx, by simp [hxe]⟩, rfl⟩)
          have hm : meets r ([e] ++ [x]) x = true := (meets_find _ _ _).mpr (find_sub q (by simp) fun z hz => by
            have hz2 : z ∈ [e] ++ [x] := of_decide_eq_true hz
            simp only [List.mem_append, List.mem_cons, List.not_mem_nil, or_false] at hz2
            rcases hz2 with w | w <;> rw [w]
            · exact decide_eq_true he
            · exact decide_eq_true hx)
          rw [hm] at this
          cases this
    · intro q o ho
      obtain ⟨n, hn, rfl⟩ := List.mem_map.mp ho
      obtain ⟨h1, h2⟩ := List.mem_filter.mp hn
      have hne : ¬ n = e := by simpa using h2
      have hf : r.find? (fun y => decide (y ∈ [e] ++ [n])) = some e := find_sub q (by simp) fun z hz => by
        have hz2 : z ∈ [e] ++ [n] := of_decide_eq_true hz
        simp only [List.mem_append, List.mem_cons, List.not_mem_nil, or_false] at hz2
        rcases hz2 with w | w <;> rw [w]
        · exact decide_eq_true he
        · exact decide_eq_true h1
      have hm : ¬ meets r ([e] ++ [n]) n = true := fun z => by
        have := (meets_find _ _ _).mp z
        rw [hf] at this
        exact hne (Option.some.inj this).symm
      show (!meets r ([e] ++ [n]) n) = true
      simpa using hm
  cases h1 : rowKeeps (wishOffs (f, e)) r <;> cases h2 : meets r f e <;> simp_all
theorem allRows_of {ns r : List Str} (nd : ns.Nodup) (h : r.Perm ns) : r ∈ allRows ns := by
  have nr := h.nodup_iff.mpr nd
  have key : ∀ k, k ≤ r.length → r.take k ∈ rowsN ns k := by
    intro k
    induction k with
    | zero =>
      intro _
      simp [rowsN]
    | succ k ih =>
      intro hk
      have hg : r[k]? = some r[k] := List.getElem?_eq_getElem (by omega)
      have e : r.take (k + 1) = r.take k ++ [r[k]] := by rw [List.take_succ, hg]; rfl
      rw [e]
      refine List.mem_flatMap.mpr ⟨r.take k, ih (by omega), List.mem_map.mpr ⟨r[k], List.mem_filter.mpr ⟨h.mem_iff.mp (List.getElem_mem _), ?_⟩, rfl⟩⟩
      have h2 : (r.take (k + 1)).Nodup := nr.sublist (List.take_sublist _ _)
      rw [e, List.nodup_append] at h2
      have : r[k] ∉ r.take k := fun z => h2.2.2 _ z _ (by simp) rfl
      simpa using this
  have := key r.length (Nat.le_refl _)
  rw [List.take_length, h.length_eq] at this
  exact this
theorem kept_mem {ns r : List Str} {os : List Off} (N : Ns ns) : r ∈ keptRows ns os ↔ r.Perm ns ∧ rowKeeps os r = true := by
  unfold keptRows
  rw [List.mem_filter]
  exact ⟨fun ⟨a, b⟩ => ⟨rows_ok N a, b⟩, fun ⟨a, b⟩ => ⟨allRows_of N.nd a, b⟩⟩
theorem rest_kept {ns : List Str} {ls : List Line} {ws : List Wish} (Z : WsOk ns ls ws) : lRest ns (offs ls ws) = [] ↔ ∃ r, r.Perm ns ∧ rowKeeps (offs ls ws) r = true := by
  constructor
  · intro h
    have e := rest_eq (ps := offs ls ws) Z.N.nd Z.lots (fun _ => Iff.rfl)
    rw [h] at e
    exact ⟨_, walked_row e, walked_keeps Z.N.nd (fun o ho => (offs_mem Z ho).2.2.1) e⟩
  · rintro ⟨r, h1, h2⟩
    exact keeps_rest Z.lots Z.N.nd h1 h2
theorem fld_met {ns r f : List Str} (F : FldOk ns f) (h : r.Perm ns) : ∃ y ∈ r, y ∈ f := by
  obtain ⟨y, ys, e⟩ := List.exists_cons_of_ne_nil F.ne
  exact ⟨y, h.mem_iff.mpr (F.sub y (by rw [e]; simp)), by rw [e]; simp⟩
theorem call_kept {ns : List Str} {ls : List Line} {l : Line} (B : Bo ns ls) (L : LnOk ns l) (hc : l.1 = "call") : (keptRows ns (offs ls [])).any (fun r => meets r l.2.1 l.2.2) = true ↔ lRest ns (offs ls (wishOf l)) = [] := by
  rw [rest_kept (B.w1 L), List.any_eq_true]
  have F := L.fld B.N
  have he : l.2.2 ∈ l.2.1 := L.x.mpr hc
  constructor
  · rintro ⟨r, hr, hm⟩
    obtain ⟨h1, h2⟩ := (kept_mem B.N).mp hr
    exact ⟨r, h1, by rw [offs_wish, rowKeeps_app, h2, wish_meets he (fld_met F h1), hm]; rfl⟩
  · rintro ⟨r, h1, h2⟩
    rw [offs_wish, rowKeeps_app, Bool.and_eq_true, wish_meets he (fld_met F h1)] at h2
    exact ⟨r, (kept_mem B.N).mpr ⟨h1, h2.1⟩, h2.2⟩
theorem lBar_none {ns : List Str} {ls : List Line} : isNone (lBarD ns ls) = true ↔ lRest ns (offs ls []) = [] ∧ ∀ l ∈ calls (sortL ls), lRest ns (offs ls (wishOf l)) = [] := by
  unfold lBarD
  by_cases h : lRest ns (offs ls []) = []
  · rw [if_neg (by simpa using h)]
    cases q : (calls (sortL ls)).find? (fun l => decide (lRest ns (offs ls (wishOf l)) ≠ [])) with
    | none =>
      refine ⟨fun _ => ⟨h, fun l hl => ?_⟩, fun _ => rfl⟩
      have := List.find?_eq_none.mp q l hl
      simpa using this
    | some l =>
      refine Iff.intro (fun z => absurd (show false = true from z) (by decide)) fun ⟨_, z⟩ => ?_
      have h1 := List.find?_some q
      have h2 := z l (List.mem_of_find?_eq_some q)
      simp [h2] at h1
  · rw [if_pos h]
    exact Iff.intro (fun z => absurd (show false = true from z) (by decide)) fun z => absurd z.1 h
/-- all kept rows meet all calls just where no bar is told -/
theorem every_iff {ns : List Str} {ls : List Line} (B : Bo ns ls) : (!(keptRows ns (offs ls [])).isEmpty && ((calls (sortL ls)).filter fun l => !keepsLine (keptRows ns (offs ls [])) l).isEmpty) = isNone (lBarD ns ls) := by
  have h1 : (!(keptRows ns (offs ls [])).isEmpty) = true ↔ lRest ns (offs ls []) = [] := by
    rw [rest_kept B.w0]
    constructor
    · intro h
      cases q : keptRows ns (offs ls []) with
      | nil => rw [q] at h; cases h
      | cons r rs =>
        have : r ∈ keptRows ns (offs ls []) := by rw [q]; exact List.mem_cons_self
        exact ⟨r, (kept_mem B.N).mp this⟩
    · rintro ⟨r, hr⟩
      have := (kept_mem B.N).mpr hr
      cases q : keptRows ns (offs ls []) with
      | nil => rw [q] at this; cases this
      | cons _ _ => rfl
  have h2 : ((calls (sortL ls)).filter fun l => !keepsLine (keptRows ns (offs ls [])) l).isEmpty = true ↔ ∀ l ∈ calls (sortL ls), lRest ns (offs ls (wishOf l)) = [] := by
    rw [filter_isEmpty, List.all_eq_true]
    simp only [Bool.not_not]
    have key : ∀ l ∈ calls (sortL ls), (keepsLine (keptRows ns (offs ls [])) l = true ↔ lRest ns (offs ls (wishOf l)) = []) := fun l hl => by
      have hc : l.1 = "call" := of_decide_eq_true (List.mem_filter.mp hl).2
      rw [← call_kept B (B.L l ((sortL_mem l).mp (calls_mem hl))) hc]
      unfold keepsLine
      rw [if_pos hc]
    exact ⟨fun h l hl => (key l hl).mp (h l hl), fun h l hl => (key l hl).mpr (h l hl)⟩
  rw [Bool.eq_iff_iff, Bool.and_eq_true, h1, h2, lBar_none]
/-! ### the panel that keeps -/
theorem mem_keepRows {ns : List Str} {ls : List Line} {r : List Str} (h : r ∈ keepRows ns ls) : ∃ ws, (ws = [] ∨ ∃ l ∈ calls ls, ws = wishOf l) ∧ r = (walked ns (offs ls ws)).1 := by
  unfold keepRows at h
  split at h
  · exact ⟨[], .inl rfl, by simpa using h⟩
  · obtain ⟨l, hl, rfl⟩ := List.mem_map.mp h
    exact ⟨wishOf l, .inr ⟨l, hl, rfl⟩, rfl⟩
theorem keepRows_keep {ns : List Str} {ls : List Line} (B : Bo ns ls) (hb : isNone (barD ns ls) = true) : ∀ l ∈ ls, keepsLine (keepRows ns ls) l = true := by
  obtain ⟨b1, b2⟩ := barD_no hb
  have rk : ∀ ws, (ws = [] ∨ ∃ l ∈ calls ls, ws = wishOf l) → rowKeeps (offs ls ws) (walked ns (offs ls ws)).1 = true := fun ws hw => by
    rcases hw with rfl | ⟨l, hl, rfl⟩
    · exact walked_keeps B.N.nd (fun o ho => (offs_mem B.w0 ho).2.2.1) b1
    · exact walked_keeps B.N.nd (fun o ho => (offs_mem (B.w1 (B.L l (calls_mem hl))) ho).2.2.1) (b2 l hl)
  intro l hl
  have L := B.L l hl
  unfold keepsLine
  by_cases hc : l.1 = "call"
  · rw [if_pos hc, List.any_eq_true]
    have hcl : l ∈ calls ls := List.mem_filter.mpr ⟨hl, decide_eq_true hc⟩
    have hne : calls ls ≠ [] := List.ne_nil_of_mem hcl
    refine ⟨(walked ns (offs ls (wishOf l))).1, ?_, ?_⟩
    · unfold keepRows
      rw [if_neg hne]
      exact List.mem_map.mpr ⟨l, hcl, rfl⟩
    · have := rk (wishOf l) (.inr ⟨l, hcl, rfl⟩)
      have R : (walked ns (offs ls (wishOf l))).1.Perm ns := walked_row (b2 l hcl)
      conv at this => lhs; arg 1; rw [offs_wish]
      rw [rowKeeps_app, Bool.and_eq_true, wish_meets (L.x.mpr hc) (fld_met (L.fld B.N) R)] at this
      exact this.2
  · rw [if_neg hc, Bool.not_eq_true', List.any_eq_false]
    intro r hr
    obtain ⟨ws, hw, rfl⟩ := mem_keepRows hr
    have h1 := rk ws hw
    have ho : ((l.2.1, l.2.2) : Off) ∈ offs ls ws := by
      unfold offs
      refine List.mem_append.mpr (.inl (List.mem_map.mpr ⟨l, List.mem_filter.mpr ⟨hl, ?_⟩, rfl⟩))
      rcases L.w with e | e
      · exact absurd e hc
      · exact decide_eq_true e
    have := List.all_eq_true.mp h1 _ ho
    simpa using this
theorem firstBrk_none {ls : List Line} {rs : List (List Str)} : isNone (firstBrk ls rs) = ls.all fun l => keepsLine rs l := by
  unfold firstBrk
  cases q : ls.find? (fun l => !keepsLine rs l) with
  | none =>
    symm
    show (ls.all fun l => keepsLine rs l) = true
    rw [List.all_eq_true]
    intro l hl
    have := List.find?_eq_none.mp q l hl
    simpa using this
  | some l =>
    symm
    have h1 := List.find?_some q
    have h2 := List.mem_of_find?_eq_some q
    show (ls.all fun l => keepsLine rs l) = false
    rw [List.all_eq_false]
    exact ⟨l, h2, by simpa using h1⟩
theorem all_perm {α : Type} {p : α → Bool} {xs ys : List α} (h : xs.Perm ys) : xs.all p = ys.all p := by
  rw [Bool.eq_iff_iff, List.all_eq_true, List.all_eq_true]
  exact ⟨fun a x hx => a x (h.mem_iff.mpr hx), fun a x hx => a x (h.mem_iff.mp hx)⟩
theorem isNone_eq {d : PyData} (h : isNone d = true) : d = .none := by cases d <;> first | rfl | cases h
/-! ### equal data -/
mutual
theorem eqv_self : ∀ d : PyData, sm d = true → PyData.eqv d d = true
  | .none, _ => by simp [PyData.eqv]
  | .bool _, _ => by simp [PyData.eqv]
  | .int _, _ => by simp [PyData.eqv]
  | .str _, _ => by simp [PyData.eqv]
  | .list xs, h => by
    simp only [sm, Bool.and_eq_true] at h
    simp only [PyData.eqv]
    exact eqvAll_self xs h.2
  | .tuple xs, h => by
    simp only [sm, Bool.and_eq_true] at h
    simp only [PyData.eqv]
    exact eqvAll_self xs h.2
  | .dict _, h => by simp [sm] at h
theorem eqvAll_self : ∀ ds : List PyData, smAll ds = true → PyData.eqvAll ds ds = true
  | [], _ => by simp [PyData.eqvAll]
  | d :: ds, h => by
    simp only [smAll, Bool.and_eq_true] at h
    simp only [PyData.eqvAll, eqv_self d h.1, eqvAll_self ds h.2, Bool.and_self]
end
end Cp
set_option Elab.async false
set_option linter.all false
set_option maxRecDepth 100000
set_option maxHeartbeats 2000000
/-! NE: != of two instances with an own ==. -/
namespace Cp
open PySem L2 PySem.Spec PyProof.Rows
section
variable {prog : Program} {w : World} {A : Around} {E : Value → Shared → Prop} {s : Shared} {K : PySem.W.Frag} {x y C f : Addr} {ox : Obj} {od : Option Obj}
theorem ifBound_objNe {M : Model} {args : List Value} {Q : Option Value → Shared → Prop} (X : K.In s.heap) (I : PySem.W.InstAt s.heap x ox C od) (hs : PySem.W.findIn K (.ref C) "__ne__" = some (some (.builtin "object.__ne__")))
    (h : wpAny M A (call (.builtin "object.__ne__") (.ref x :: args)) (fun v => Q (some v)) E s) : wpAny M A (callSpecialIfBound? (.ref x) "__ne__" args) Q E s := by
  simp only [callSpecialIfBound?, bindSpecialIfBound?]
  refine wpAny_holding (wpAny_bind (wpAny_bind (wpAny_bind (I.type.here ((PySem.W.looks_findIn X hs).here ?_)))))
  refine wpAny_bind (wpAny_askSetting (wpAny_ite ?_))
  have fin : wpAny M A (call (.builtin "object.__ne__") ([.ref x] ++ args) >>= fun v => pure (some v)) Q E s := wpAny_bind (wpAny_mono h (fun v s' h' => wpAny_pure h') fun _ _ h' => h')
  split
  · exact wpAny_bind (wpAny_of_eq (PySem.F.cmp_object.ne.bind _) (wpAny_pure (by exact fin)))
  · exact wpAny_tryCatch (wpAny_bind (wpAny_of_eq (PySem.F.cmp_object.ne.bind _) (wpAny_pure (by exact fin))))
theorem entry_ne (hu : A.units < cLine) (X : K.In s.heap) (I : PySem.W.InstAt s.heap x ox C od) (hs : PySem.W.findIn K (.ref C) "__eq__" = some (some (.ref f))) (hf : PySem.W.isFn K (.ref f) = true) {Q : Fin → Shared → Prop}
    (hcall : wpAny (model prog w) A (call (.ref f) [.ref x, .ref y]) (fun v s' => ∃ b, v = .bool b ∧ Q (.done (.ret (.bool (!b)))) s') E s) :
    wpAny (model prog w) A (Builtin.«object.__ne__» ⟨[.ref x, .ref y], []⟩) Q E s := by
  unfold Builtin.«object.__ne__»
  repeat (first
    | with_reducible refine wpAny_cRoomFor hu ?_
    | (refine wpAny_bind (m := callSpecialIfBound? (.ref x) (Str.ofString "__eq__") [.ref y])
        (PySem.W.ifBound_K X I hs hf (wpAny_mono hcall (fun r s' hr => by
          obtain ⟨b, rfl, hq⟩ := hr
          repeat (first | exact hq | exact wpAny_pure hq | exact wpAny_truthy_bool hq | (refine wpAny_bind (m := truthy (.bool _)) (wpAny_truthy_bool ?_)) | wp_step)) fun _ _ e => e)))
    | wp_step)
theorem ne_own (hu : A.units + 1 < cLine) (X : K.In s.heap) (I : PySem.W.InstAt s.heap x ox C od) {oy : Obj} {oyd : Option Obj} (J : PySem.W.InstAt s.heap y oy C oyd) (hm : PySem.W.mroIn K C (.type "object") = some true) (hn : PySem.W.findIn K (.ref C) "__ne__" = some (some (.builtin "object.__ne__")))
    (hs : PySem.W.findIn K (.ref C) "__eq__" = some (some (.ref f))) (hf : PySem.W.isFn K (.ref f) = true) {Q : Value → Shared → Prop}
    (hcall : wpAny (model prog w) A.in1 (call (.ref f) [.ref x, .ref y]) (fun v s' => ∃ b, v = .bool b ∧ Q (.bool (!b)) s') E s) :
    wpAny (model prog w) A (compareOp .NotEq (.ref x) (.ref y)) Q E s := by
  have one : wpAny (model prog w) A (tryCompare (.ref x) "__ne__" (.ref y)) (fun r s' => ∃ b : Bool, r = some (.bool b) ∧ Q (.bool b) s') E s := by
    unfold tryCompare
    refine wpAny_bind (ifBound_objNe X I hn (wpAny_call (codeAny_call_builtin PySem.F.cmp_object.ne.plain PySem.F.cmpEntry_ne (PySem.W.check_slot PySem.F.cmpKind_ne PySem.F.cmpSplit_ne (I.type.andThen (PySem.W.looks_mroIn X hm)) (PySem.F.cmpArgs_ne _ _) (entry_ne (A := A.in1) hu X I hs hf (wpAny_mono hcall (fun v s' hv => ?_) fun _ _ e => e))))))
    obtain ⟨b, rfl, hq⟩ := hv
    exact ⟨b, rfl, wpAny_pure ⟨!b, rfl, hq⟩⟩
  show wpAny (model prog w) A (richCompare .NotEq (.ref x) (.ref y)) Q E s
  unfold richCompare
  simp only [oneThing_ref]
  refine wpAny_holding (wpAny_bind (wpAny_cRoomFor (Nat.lt_of_succ_lt hu) ?_))
  rw [cmpInfo_NotEq]
  dsimp only
  refine wpAny_bind (I.type.here (wpAny_bind (J.type.here ?_)))
  rw [show (Value.ref C != Value.ref C) = false from by simp]
  simp only [Bool.false_eq_true, if_false]
  refine wpAny_bind (wpAny_pure ?_)
  simp only [Bool.false_eq_true, if_false]
  refine wpAny_bind (wpAny_mono one (fun r s' z => ?_) fun _ _ e => e)
  obtain ⟨v, rfl, hq⟩ := z
  exact wpAny_pure hq
end
/-- x != y, by the own == of the class at C -/
def rNeO (C : Addr) (sp : Sp) : L2.R2 := fun x y H Q => ∃ a b dx dy fs gs, x = .ref a ∧ y = .ref b ∧ H a = some (.ins C dx fs) ∧ H b = some (.ins C dy gs) ∧ sp [x, y] H (fun v H' => ∃ c : Bool, v = .bl c ∧ Q (.bl (!c)) H') E0
/-- what != asks of the class -/
structure NeC (K : PySem.W.Frag) (C : Addr) : Prop where
  m : PySem.W.mroIn K C (.type "object") = some true
  n : PySem.W.findIn K (.ref C) "__ne__" = some (some (.builtin "object.__ne__"))
theorem op_neO {X : Cx} {C : Addr} {k : Nat} {ps : List Str} {sp : Sp} (c : NeC X.K C) (d : Dm X.prog X.w X.K X.mg X.base k C "__eq__" ps sp) (hr : Room (k + 1) X.A) : OpR X (compareOp .NotEq) (rNeO C sp) := by
  intro pins s σ H x y u v Q I rx ry h
  obtain ⟨a, b, dx, dy, fs, gs, rfl, rfl, ha, hb', hsp⟩ := h
  cases rx
  cases ry
  obtain ⟨f, fd, hc, hm, hb, F⟩ := d.ex
  obtain ⟨mA, J, _⟩ := ins_get I.hok ha
  obtain ⟨mB, J', _⟩ := ins_get I.hok hb'
  obtain ⟨od, J, _⟩ := J.look
  obtain ⟨od', J', _⟩ := J'.look
  have hu := hr.units
  refine ne_own (by omega) I.kIn J J' c.m c.n hm.at_ hm.fn ?_
  have e0 : Env0 X.prog X.w X.K X.mg X.base X.A.in1 X.stack s H := by
    have e := I.env0
    exact ⟨e.frames, e.mod, e.bs, e.bsz, e.funs, e.frf, e.hok, e.bare⟩
  have hl := F.len _ _ _ _ hsp
  have r2 : Vals [V.ref a, V.ref b] [Value.ref a, Value.ref b] := .cons rfl (.cons rfl .nil)
  refine wpAny_call (codeAny_mono (F.run X.A.in1 X.stack s H ⟨[.ref a, .ref b], []⟩ [.ref a, .ref b] [.ref a, .ref b] _ E0 hr.in1 e0 (by
    have := hb s [.ref a, .ref b] I.kIn (by simpa using hl)
    simpa using this) r2 hsp) fun r s' hq => ?_)
  cases r with
  | error e => exact pass0 pins σ H s e s' I hq
  | ok fl =>
    cases fl with
    | ret w =>
      obtain ⟨z, H', I', rz, b', ez, q⟩ := I.after hq
      subst ez
      cases rz
      exact ⟨b', rfl, .bl (!b'), H', I', rfl, q⟩
    | next => exact False.elim hq
    | brk => exact False.elim hq
    | cont => exact False.elim hq
end Cp
set_option Elab.async false
set_option linter.all false
set_option maxRecDepth 100000
set_option maxHeartbeats 4000000
/-! P13: the law on one purse. -/
namespace Cp
open PySem L2 PySem.Spec PyProof.Rows
section
variable {K : PySem.W.Frag} {pu : Option Addr} {n n1 n2 m : Nat} {env : Env'} {te ta tb : TE} {tr : TA} {p : Addr} {E : XK} {ns : List Str} {ls : List Line}
theorem pu_someNames (h3 : n1 ≤ 7000000) (ha : PuA (some p) n n1 env tr [Vv (.ref p), D (.int 4)]) : Pu (some p) n (n1 + 40) env (tCall spSomeNames [] E tr) NamesT :=
  pu_callP1 (ι := Addr × Nat) (pn := fun i => some i.1) (k := fun i => i.2) (k' := fun i => i.2 + 40) (P := fun i => i.2 ≤ 7000000) (As := fun i => [Vv (.ref i.1), D (.int 4)]) (Rt := fun _ => NamesT) (p, n1) h3 rfl (Nat.le_refl _) ha ⟨sub_V, sub_D, trivial⟩
theorem pu_bookLines (k : Nat) (N : Ns ns) (hk : k ≤ 7) (h3 : n1 ≤ 7000000) (ha : PuA (some p) n n1 env tr [Vv (.ref p), D (eS ns), D (.int (k : Nat))]) : Pu (some p) n (n1 + 500) env (tCall spBookLines [] E tr) (LinesT ns) :=
  pu_callP1 (ι := Addr × Nat × List Str × Nat) (pn := fun i => some i.1) (k := fun i => i.2.1) (k' := fun i => i.2.1 + 500) (P := fun i => Ns i.2.2.1 ∧ i.2.2.2 ≤ 7 ∧ i.2.1 ≤ 7000000) (As := fun i => [Vv (.ref i.1), D (eS i.2.2.1), D (.int (i.2.2.2 : Nat))]) (Rt := fun i => LinesT i.2.2.1) (p, n1, ns, k) ⟨N, hk, h3⟩ rfl (Nat.le_refl _) ha ⟨sub_V, sub_D, sub_D, trivial⟩
theorem pu_book (N : Ns ns) (so : sortS ns = ns) (Z : LsOk ns ls) (h3 : n1 ≤ 7000000) (ha : PuA (some p) n n1 env tr [Vv (.ref p), D (eS ns), D (eLs ls)]) : Pu (some p) n (n1 + 30) env (tCall (spBookL K) [] E tr) (BkT K ns (sortL ls)) :=
  pu_callP1 (ι := Addr × Nat × List Str × List Line) (pn := fun i => some i.1) (k := fun i => i.2.1) (k' := fun i => i.2.1 + 30) (P := fun i => (Ns i.2.2.1 ∧ sortS i.2.2.1 = i.2.2.1) ∧ LsOk i.2.2.1 i.2.2.2 ∧ i.2.1 ≤ 7000000) (As := fun i => [Vv (.ref i.1), D (eS i.2.2.1), D (eLs i.2.2.2)]) (Rt := fun i => BkT K i.2.2.1 (sortL i.2.2.2)) (p, n1, ns, ls) ⟨⟨N, so⟩, Z, h3⟩ rfl (Nat.le_refl _) ha ⟨sub_V, sub_D, sub_D, trivial⟩
theorem pu_panelRows (N : Ns ns) (Z : LsOk ns ls) (h3 : n1 ≤ 7000000) (ha : PuA (some p) n n1 env tr [Vv (.ref p), D (eS ns), D (eLs ls)]) : Pu (some p) n (n1 + 500) env (tCall spPanelRows [] E tr) (PRowsT ns) :=
  pu_callP1 (ι := Addr × Nat × List Str × List Line) (pn := fun i => some i.1) (k := fun i => i.2.1) (k' := fun i => i.2.1 + 500) (P := fun i => Ns i.2.2.1 ∧ LsOk i.2.2.1 i.2.2.2 ∧ i.2.1 ≤ 7000000) (As := fun i => [Vv (.ref i.1), D (eS i.2.2.1), D (eLs i.2.2.2)]) (Rt := fun i => PRowsT i.2.2.1) (p, n1, ns, ls) ⟨N, Z, h3⟩ rfl (Nat.le_refl _) ha ⟨sub_V, sub_D, sub_D, trivial⟩
/-- the same datum, twice -/
theorem pu_neSame {d : PyData} {T1 T2 : Ty} (S : Sm d) (h1 : Pu pu n n1 env ta T1) (l1 : T1.le (D d)) (h2 : Pu pu n1 n2 env tb T2) (l2 : T2.le (D d)) : Pu pu n n2 env (tOp (rNeD K) ta tb) (D (.bool false)) :=
  (pu_op (h1.le l1) (h2.le l2) (rv_ne S.shaped S.shaped)).le (le_bool (by rw [eqv_self d S.s]; rfl))
theorem pu_eqSame {d : PyData} {T1 T2 : Ty} (S : Sm d) (h1 : Pu pu n n1 env ta T1) (l1 : T1.le (D d)) (h2 : Pu pu n1 n2 env tb T2) (l2 : T2.le (D d)) : Pu pu n n2 env (tOp (rEqD K) ta tb) (D (.bool true)) :=
  (pu_op (h1.le l1) (h2.le l2) (rv_eq S.shaped S.shaped)).le (le_bool (eqv_self d S.s))
/-- two truths, the same -/
theorem pu_neBool {a b : Bool} (e : a = b) (h1 : Pu pu n n1 env ta (D (.bool a))) (h2 : Pu pu n1 n2 env tb (D (.bool b))) : Pu pu n n2 env (tOp (rNeD K) ta tb) (D (.bool false)) :=
  (pu_op h1 h2 (rv_ne (shaped_bool _) (shaped_bool _))).le (le_bool (by subst e; simp only [PyData.eqv, decide_eq_true_eq]; cases a <;> rfl))
theorem rv_someN : RV rIsN (SomeT K ns ls) (D .none) (D (.bool (!isNone (barD ns ls)))) := fun pu n G0 G H v w g _ r1 r2 Q q => by
  unfold SomeT at r1
  refine ⟨dq_non r2, ?_⟩
  by_cases h : isNone (barD ns ls) = true
  · rw [if_pos h] at r1
    obtain ⟨a, dx, v1, v2, v3, e, _⟩ := r1
    subst e
    have : q = q := rfl
    exact q (.bl (decide (V.ref a = .non))) G H g (by
      rw [h, decide_eq_false (fun z => by cases z)]
      exact .bl false)
  · rw [if_neg h] at r1
    rw [dq_non r1]
    exact q _ G H g (by
      rw [decide_eq_true rfl]
      have : isNone (barD ns ls) = false := by simpa using h
      rw [this]
      exact .bl true)
theorem rv_someNot : RV rNotN (SomeT K ns ls) (D .none) (D (.bool (isNone (barD ns ls)))) := fun pu n G0 G H v w g _ r1 r2 Q q => by
  unfold SomeT at r1
  refine ⟨dq_non r2, ?_⟩
  by_cases h : isNone (barD ns ls) = true
  · rw [if_pos h] at r1
    obtain ⟨a, dx, v1, v2, v3, e, _⟩ := r1
    subst e
    exact q _ G H g (by
      rw [h, decide_eq_false (fun z => by cases z)]
      exact .bl true)
  · rw [if_neg h] at r1
    rw [dq_non r1]
    exact q _ G H g (by
      rw [decide_eq_true rfl]
      have : isNone (barD ns ls) = false := by simpa using h
      rw [this]
      exact .bl false)
theorem rv_neO {ns ms : List Str} {rs qs : List (List Str)} (h1 : SeqAt.shaped (.tuple [eS ns, eR rs]) = true) (h2 : SeqAt.shaped (.tuple [eS ms, eR qs]) = true) : RV (rNeO (CP K) (spPanelEq K)) (PnT K ns rs) (PnT K ms qs) (D (.bool (!PyData.eqv (.tuple [eS ns, eR rs]) (.tuple [eS ms, eR qs])))) := fun pu n G0 G H x y g _ r1 r2 Q q => by
  have r1' := r1
  have r2' := r2
  obtain ⟨a, dx, v1, v2, v3, e1, e2, _⟩ := r1
  obtain ⟨b, dy, w1, w2, w3, f1, f2, _⟩ := r2
  refine ⟨a, b, dx, dy, _, _, e1, f1, g.s _ _ e2, g.s _ _ f2, ?_⟩
  exact ⟨((ns, rs), ms, qs), ⟨h1, h2⟩, G, g.pure, ⟨r1', r2', trivial⟩, fun v G' H' g' r => ⟨_, dq_bool r, q _ G' H' (g.lift g') (.bl _)⟩⟩
theorem sj_seqU {t u : TS} {O : Out} {env' : Env'} (h : Sj pu n env t { O with nx := fun k e => k ≤ m ∧ e = env' }) (h2 : Sj pu m env' u O) : Sj pu n env (tSeq t u) O := sj_seq fun G0 H0 σ G H a e E k1 k2 k3 k4 =>
  h G0 H0 σ G H a e E (fun n' e' σ' G' H' ⟨hk, he⟩ a' s' ee => k1 n' e' σ' G' H' (by subst he; exact h2.up hk) a' s' ee) k2 k3 k4
/-! what is handed out is changed, and known no more -/
def EnvSub : Env' → Prop
  | [] => True
  | none :: r => EnvSub r
  | some (.im T) :: r => T.sub T ∧ EnvSub r
  | some (.ac _) :: _ => False
theorem EnvSub.at_ : ∀ {env : Env'} {i : Nat} {s : Sl}, EnvSub env → env[i]? = some (some s) → ∃ T, s = .im T ∧ T.sub T
  | none :: r, 0, s, h, e => by simp at e
  | none :: r, i + 1, s, h, e => EnvSub.at_ (env := r) (i := i) h (by simpa using e)
  | some (.im T) :: r, 0, s, h, e => ⟨T, by simpa using e.symm, h.1⟩
  | some (.im T) :: r, i + 1, s, h, e => EnvSub.at_ (env := r) (i := i) h.2 (by simpa using e)
  | some (.ac _) :: _, _, _, h, _ => h.elim
  | [], i, s, h, e => by simp at e
theorem EnvOk.base {G0 H0 G H : Hp} {σ : L2.St} (hs : EnvSub env) (e : EnvOk pu G0 H0 G H σ env) : EnvOk pu G H G H σ env := by
  refine ⟨e.len, fun i s hi => ?_, fun i j ds es h1 => ?_⟩
  · obtain ⟨T, rfl, hT⟩ := hs.at_ hi
    obtain ⟨v, hv, hp⟩ := e.getIm hi
    exact ⟨_, hv, v, rfl, hT _ _ _ hp⟩
  · obtain ⟨T, e2, _⟩ := hs.at_ h1
    cases e2
/-- less is known -/
theorem Gr.less {G0 H0 G H : Hp} (a : Gr pu n G0 H0 G H) : Gr pu n G0 H0 G0 H := ⟨Same.refl _, a.g.trans a.s, a.h, fun _ _ e => .inl e, fun q e => ⟨none_back a.g (a.w q e).1, (a.w q e).2⟩⟩
/-- a block that leaves but one name, and that unknown -/
def Scr (pu : Option Addr) (n m : Nat) (env : Env') (i : Nat) (t : TS) : Prop := ∀ (σ : L2.St) (G H : Hp), Gr pu n G H G H → EnvOk pu G H G H σ env → ∀ E : Ends, (∀ v H', Gr pu m G H G H' → E.nx (σ.set i (some v)) H') → t E σ H
theorem sj_scr {t u : TS} {i : Nat} {O : Out} (hs : EnvSub env) (h : Scr pu n m env i t) (k : Sj pu m (env.set i none) u O) : Sj pu n env (tSeq t u) O := fun G0 H0 σ G H a e E k1 k2 k3 k4 =>
  h σ G H a.here (e.base hs) { E with nx := u E } fun v H' g => k G0 H0 _ G H' (a.trans g) ((e.keep g).setNo i (some v)) E k1 k2 k3 k4
/-- an own object changes, within what came behind -/
theorem Gr.spoil {G H G2 S2 : Hp} {l : Addr} {o o' : HO} (a : Gr pu n G H G2 S2) (hl : G l = none) (h2 : G2 l = some o) : Gr pu n G H G (upd S2 l o') := by
  have hH : H l = none := by
    rcases a.nw l o h2 with z | z
    · rw [hl] at z
      cases z
    · exact z
  exact a.less.frame hH hl fun e => by
    rw [(a.w l e).1] at h2
    cases h2
end
end Cp
set_option Elab.async false
set_option linter.all false
set_option maxRecDepth 100000
set_option maxHeartbeats 4000000
/-! P14: the law on one purse. -/
namespace Cp
open PySem L2 PySem.Spec PyProof.Rows
section
variable {K : PySem.W.Frag} {pu : Option Addr} {n n1 n2 m : Nat} {env : Env'} {te ta tb : TE} {tt : TT} {tr : TA} {p : Addr} {E : XK} {ns : List Str} {ls : List Line}
theorem rv_ixF {ds : List PyData} {i : Nat} {d : PyData} (h : ds[i]? = some d) : RV (rIx K) (Fd (.tuple ds)) (D (.int i)) (Fd d) := fun pu n G0 G H x y g _ h1 h2 Q q => by
  obtain ⟨a, vs, rfl, _, ha, da⟩ := dq_tup h1
  obtain ⟨v, hv, dv⟩ := da.get h
  exact .inr (.inl ⟨a, vs, i, v, rfl, dq_int h2, .inl (.inl (g.s _ _ ha)), atI_of hv, q v G H g dv⟩)
theorem scr_brk {i : Nat} {rs : List (List Str)} {x : Str} (hi : i < env.length) (hl : ∀ l ∈ ls, l.2.1.length ≤ 4) (hp : Pu pu n m env te (Fd (firstBrk ls rs))) (ht : PuT pu m m (env.set i (some (.im (Fd (firstBrk ls rs))))) tt (· = false)) :
    Scr pu n m env i (tSeq (tAsg te (gName i)) (tSeq (tIfS tt (tRet (tC (.bl false))) tNext) (tIfS (tTest (tOp rNotN (tVar i) (tC .non))) (tDrop (tBM K "list" rAppend (tOp (rIx K) (tOp (rIx K) (tVar i) (tC (.int 0))) (tC (.int 1))) (tCons (tC (.str x)) tNil))) tNext))) := fun σ G H g e E k =>
  hp G H σ G H g e _ fun v G1 S1 g1 r1 => by
    have e1 := (e.keep g1).setIm i (v := v) (T := Fd (firstBrk ls rs)) r1
    have hv : (σ.set i (some v))[i]? = some (some v) := List.getElem?_set_self (by rw [e.len]; exact hi)
    refine ht G H (σ.set i (some v)) G1 S1 g1 e1 _ fun b G2 S2 g2 hb => ?_
    subst hb
    have g12 := g1.trans g2
    have e2 := e1.keep g2
    have henv : (env.set i (some (.im (Fd (firstBrk ls rs)))))[i]? = some (some (.im (Fd (firstBrk ls rs)))) := List.getElem?_set_self hi
    refine ⟨v, hv, rfl, _, rfl, ?_⟩
    cases hf : ls.find? (fun l => !keepsLine rs l) with
    | none =>
      have ed : firstBrk ls rs = .none := by
        unfold firstBrk
        rw [hf]
      rw [ed] at r1
      rw [dq_non r1] at hv ⊢
      exact k .non S2 g12.less
    | some l =>
      have ed : firstBrk ls rs = brkD rs l := by
        unfold firstBrk
        rw [hf]
      rw [ed] at henv
      obtain ⟨a, vs, ea, _⟩ := dq_tup (by rw [ed] at r1; exact r1)
      have en : (!decide (v = V.non)) = true := by
        rw [ea, decide_eq_false (fun z => by cases z)]
        rfl
      rw [if_pos en]
      have hx : Pu pu m m (env.set i (some (.im (Fd (firstBrk ls rs))))) (tOp (rIx K) (tOp (rIx K) (tVar i) (tC (.int 0))) (tC (.int 1))) (Fd (eS l.2.1)) := by
        rw [ed]
        exact pu_op (pu_op (pu_var henv) (pu_int (i := ((0 : Nat) : Int))) (rv_ixF (d := eL l) rfl)) (pu_int (i := ((1 : Nat) : Int))) (rv_ixF (d := eS l.2.1) rfl)
      refine hx G H (σ.set i (some v)) G2 S2 g12 e2 _ fun y G3 S3 g3 r3 => ?_
      obtain ⟨b, ws, rfl, hb, h3, d3⟩ := dq_list r3
      have hlen : ws.length ≤ 4 := by
        rw [d3.len, List.length_map]
        exact hl l (List.mem_of_find?_eq_some hf)
      exact ⟨Or.inl ⟨rfl, _, Or.inl (Or.inl (g3.s _ _ h3))⟩, b, ws, .str x, rfl, rfl, g3.s _ _ h3, small_lt (by omega), k v _ ((g12.trans g3).spoil hb h3)⟩
theorem scr_bar {i : Nat} {x : Str} (hi : i < env.length) (N : Ns ns) (L : ∀ l ∈ ls, LnOk ns l) (hp : Pu pu n m env te (Fd (barD ns ls))) :
    Scr pu n m env i (tSeq (tAsg te (gName i)) (tIfS (tTest (tOp rNotN (tVar i) (tC .non))) (tSeq (tDrop (tBM K "list" rAppend (tOp (rIx K) (tVar i) (tC (.int 1))) (tCons (tC (.str x)) tNil))) (tIfS (tTest (tOp rNotN (tOp (rIx K) (tVar i) (tC (.int 0))) (tC .non))) (tDrop (tBM K "list" rAppend (tOp (rIx K) (tOp (rIx K) (tVar i) (tC (.int 0))) (tC (.int 1))) (tCons (tC (.str x)) tNil))) tNext)) tNext)) := fun σ G H g e E k =>
  hp G H σ G H g e _ fun v G1 S1 g1 r1 => by
    have e1 := (e.keep g1).setIm i (v := v) (T := Fd (barD ns ls)) r1
    have hv : (σ.set i (some v))[i]? = some (some v) := List.getElem?_set_self (by rw [e.len]; exact hi)
    refine ⟨v, hv, rfl, _, rfl, ?_⟩
    have two : barD ns ls = .none ∨ ∃ d r, barD ns ls = .tuple [d, eS r] ∧ r.length ≤ 4 ∧ (d = .none ∨ ∃ l, d = eL l ∧ l.2.1.length ≤ 4) := by
      have nl := N.le
      unfold barD
      by_cases h : (walked ns (offs ls [])).2 ≠ []
      · rw [if_pos h]
        refine .inr ⟨_, _, rfl, ?_, .inl rfl⟩
        have := walked_len ns (offs ls [])
        omega
      · rw [if_neg h]
        cases hf : (calls ls).find? (fun l => decide ((walked ns (offs ls (wishOf l))).2 ≠ [])) with
        | none => exact .inl rfl
        | some l =>
          refine .inr ⟨_, _, rfl, ?_, .inr ⟨l, rfl, ?_⟩⟩
          · have := walked_len ns (offs ls (wishOf l))
            omega
          · exact ((L l (calls_mem (List.mem_of_find?_eq_some hf))).fld N).le N
    rcases two with ed | ⟨d, r, ed, hr, hd⟩
    · rw [ed] at r1
      rw [dq_non r1] at hv ⊢
      exact k .non S1 g1.less
    · rw [ed] at r1
      obtain ⟨a, vs, ea, pa, ha, da⟩ := dq_tup r1
      obtain ⟨v0, h0, d0⟩ := da.get (i := 0) (d := d) rfl
      obtain ⟨v1, h1, d1⟩ := da.get (i := 1) (d := eS r) rfl
      obtain ⟨l1, w1, el1, p1, hl1, dl1⟩ := dq_list d1
      subst ea el1
      have en : (!decide (V.ref a = V.non)) = true := by
        rw [decide_eq_false (fun z => by cases z)]
        rfl
      dsimp only
      rw [if_pos en]
      have sa := g1.s _ _ ha
      have s1 := g1.s _ _ hl1
      have n1 : a ≠ l1 := fun z => by
        rw [← z, ha] at hl1
        cases hl1
      have hw1 : w1.length ≤ 4 := by
        rw [dl1.len, List.length_map]
        exact hr
      have q1 := g1.spoil (o' := .lst (w1 ++ [.str x])) p1 hl1
      refine ⟨_, hv, .inr (.inl ⟨a, vs, 1, .ref l1, rfl, rfl, .inl (.inl sa), atI_of h1, ?_⟩)⟩
      refine ⟨Or.inl ⟨rfl, _, Or.inl (Or.inl s1)⟩, l1, w1, .str x, rfl, rfl, s1, small_lt (by omega), ?_⟩
      have sa2 : upd S1 l1 (.lst (w1 ++ [.str x])) a = some (.tup vs) := by rw [upd_ne n1]; exact sa
      refine ⟨_, hv, .inr (.inl ⟨a, vs, 0, v0, rfl, rfl, .inl (.inl sa2), atI_of h0, rfl, _, rfl, ?_⟩)⟩
      rcases hd with rfl | ⟨l, rfl, hl⟩
      · rw [dq_non d0]
        exact k _ _ q1
      · obtain ⟨a1, us, ea1, _, ha1, da1⟩ := dq_tup d0
        obtain ⟨u1, hu1, du1⟩ := da1.get (i := 1) (d := eS l.2.1) rfl
        obtain ⟨l2, w2, el2, p2, hl2, dl2⟩ := dq_list du1
        subst ea1 el2
        have en2 : (!decide (V.ref a1 = V.non)) = true := by
          rw [decide_eq_false (fun z => by cases z)]
          rfl
        rw [if_pos en2]
        have n2 : a1 ≠ l1 := fun z => by
          rw [← z, ha1] at hl1
          cases hl1
        have sa3 : upd S1 l1 (.lst (w1 ++ [.str x])) a1 = some (.tup us) := by rw [upd_ne n2]; exact g1.s _ _ ha1
        have hw2 : w2.length ≤ 4 := by
          rw [dl2.len, List.length_map]
          exact hl
        obtain ⟨w3, h3, hw3⟩ : ∃ w3, upd S1 l1 (.lst (w1 ++ [.str x])) l2 = some (.lst w3) ∧ w3.length ≤ 10 := by
          by_cases z : l2 = l1
          · rw [z, upd_same]
            exact ⟨_, rfl, by rw [List.length_append]; show w1.length + 1 ≤ 10; omega⟩
          · rw [upd_ne z]
            exact ⟨w2, g1.s _ _ hl2, by omega⟩
        have H2 : H l2 = none := by
          rcases g1.nw _ _ hl2 with z | z
          · rw [p2] at z
            cases z
          · exact z
        refine ⟨_, hv, .inr (.inl ⟨a, vs, 0, .ref a1, rfl, rfl, .inl (.inl sa2), atI_of h0, .inr (.inl ⟨a1, us, 1, .ref l2, rfl, rfl, .inl (.inl sa3), atI_of hu1, ?_⟩)⟩)⟩
        refine ⟨Or.inl ⟨rfl, _, Or.inl (Or.inl h3)⟩, l2, w3, .str x, rfl, rfl, h3, small_lt (by omega), ?_⟩
        refine k _ _ (q1.frame H2 p2 fun z => ?_)
        have := (g1.w _ z).1
        rw [hl2] at this
        cases this
end
theorem sd_L {ns : List Str} {l : Line} (N : Ns ns) (L : LnOk ns l) : Sd 2 (eL l) := ⟨(L.sm N).s, depth_tup3 (n := 1) (by simp [PyData.depth]) (depth_S l.2.1) (by simp [PyData.depth])⟩
theorem sd_S {ns xs : List Str} (N : Ns ns) (h : ∀ x ∈ xs, x ∈ ns) (hl : xs.length ≤ 1000) : Sd 1 (eS xs) := ⟨(N.smS h hl).s, depth_S xs⟩
theorem sm_brk {ns : List Str} {ls : List Line} {rs : List (List Str)} (N : Ns ns) (L : ∀ l ∈ ls, LnOk ns l) : Sm (firstBrk ls rs) := by
  unfold firstBrk
  cases hf : ls.find? (fun l => !keepsLine rs l) with
  | none => exact sd_none.sm' (Nat.zero_le 8)
  | some l =>
    refine (sd_tup (n := 2) (all2 (sd_L N (L l (List.mem_of_find?_eq_some hf))) ?_) (by simp)).sm' (by decide)
    split
    · exact sd_none
    · exact sd_int
theorem sm_lbar {ns : List Str} {ls : List Line} (B : Bo ns ls) : Sm (lBarD ns ls) := by
  have sr : ∀ os, Sd 2 (eS (lRest ns os)) := fun os => (sd_S B.N (fun x hx => lRest_sub hx) (Nat.le_trans (List.length_filter_le _ _) (Nat.le_trans B.N.le (by decide)))).up (by decide)
  unfold lBarD
  split
  · exact (sd_tup (n := 2) (all2 sd_none (sr _)) (by simp)).sm' (by decide)
  · cases hf : (calls (sortL ls)).find? (fun l => decide (lRest ns (offs ls (wishOf l)) ≠ [])) with
    | none => exact sd_none.sm' (Nat.zero_le 8)
    | some l => exact (sd_tup (n := 2) (all2 (sd_L B.N (B.L l ((sortL_mem l).mp (calls_mem (List.mem_of_find?_eq_some hf))))) (sr _)) (by simp)).sm' (by decide)
theorem sm_Ls {ns : List Str} {ls : List Line} (N : Ns ns) (L : ∀ l ∈ ls, LnOk ns l) (hl : ls.length ≤ 1000) : Sm (eLs ls) := (sd_list (n := 2) (fun d hd => by
  obtain ⟨l, hl, rfl⟩ := List.mem_map.mp hd
  exact sd_L N (L l hl)) (by rw [List.length_map]; exact hl)).sm' (by decide)
theorem sd_R {ns : List Str} {rs : List (List Str)} (N : Ns ns) (R : ∀ r ∈ rs, RowOk ns r) (hl : rs.length ≤ 1000) : Sd 2 (eR rs) := sd_list (n := 1) (fun d hd => by
  obtain ⟨r, hr, rfl⟩ := List.mem_map.mp hd
  exact sd_S N (fun x hx => (R r hr).mem_iff.mp hx) (by rw [(R r hr).length_eq]; exact Nat.le_trans N.le (by decide))) (by rw [List.length_map]; exact hl)
section
variable {P : Program} {w : World} {K : PySem.W.Frag} {mg : Str → Option Value} {base : Heap}
theorem sub_some {ns : List Str} {ls : List Line} : (SomeT K ns ls).sub (SomeT K ns ls) := by
  unfold SomeT
  split
  · exact sub_Pn
  · exact sub_D
theorem seq3 (A B C U : TS) : tSeq A (tSeq B (tSeq C U)) = tSeq (tSeq A (tSeq B C)) U := rfl
theorem pn_so {ns : List Str} {rs : List (List Str)} (so : sortS ns = ns) : (PnT K (sortS ns) rs).le (PnT K ns rs) := by
  rw [so]
  exact Ty.le.rfl'
abbrev N_l_right : List Str := ["_law_purse_here", "_law_names_here", "_law_lines", "_law_made", "_law_base", "_law_panel", "_law_row", "_law_due", "_law_said", "_law_others", "_law_more", "_law_near", "_law_bar", "_law_some", "_law_every", "_law_unmet", "_law_line_here", "_law_told", "_law_again"]
theorem sc_l_right : FnScope N_l_right ["_law_purse_here"] (defScope s_l_right) := ⟨rfl, rfl, rfl, by decide +kernel, rfl, by decide +kernel, by decide +kernel⟩
def spRight : Sp := Prm (ι := Addr × Nat) (fun i => some i.1) (fun i => i.2) (fun i => i.2 + 5000) (fun i => i.2 ≤ 1000000) (fun i => [Vv (.ref i.1)]) (fun _ => D (.bool true))
theorem ok_l_right (T : Tx K mg) (NP : NeC K (CP K)) : Dn P w K mg base 10 "_law_right" ["_law_purse_here"] (spRight) := by
  have D_book_lines := ok_book_lines (P := P) (w := w) (base := base) T
  have D_keeps := ok_keeps (P := P) (w := w) (base := base) T
  have D_l_bars_right := ok_l_bars_right (P := P) (w := w) (base := base) T
  have D_l_book := ok_l_book (P := P) (w := w) (base := base) T
  have D_l_book_lines := ok_l_book_lines (P := P) (w := w) (base := base) T
  have D_l_calls := ok_l_calls (P := P) (w := w) (base := base) T
  have D_l_first_bar := ok_l_first_bar (P := P) (w := w) (base := base) T
  have D_l_first_break := ok_l_first_break (P := P) (w := w) (base := base) T
  have D_l_keeps := ok_l_keeps (P := P) (w := w) (base := base) T
  have D_l_keeps_line := ok_l_keeps_line (P := P) (w := w) (base := base) T
  have D_l_kept_rows := ok_l_kept_rows (P := P) (w := w) (base := base) T
  have D_l_panel_rows := ok_l_panel_rows (P := P) (w := w) (base := base) T
  have D_l_shuffled := ok_l_shuffled (P := P) (w := w) (base := base) T
  have D_l_some_names := ok_l_some_names (P := P) (w := w) (base := base) T
  have D_panel_entries := ok_panel_entries (P := P) (w := w) (base := base) T
  have D_panel_eq := ok_panel_eq (P := P) (w := w) (base := base) T
  have D_panel_init := ok_panel_init (P := P) (w := w) (base := base) T
  have D_panel_rows := ok_panel_rows (P := P) (w := w) (base := base) T
  have D_some_panel := ok_some_panel (P := P) (w := w) (base := base) T
  have D_why_broken := ok_why_broken (P := P) (w := w) (base := base) T
  have D_why_none := ok_why_none (P := P) (w := w) (base := base) T
  refine dn_mk T.fd_l_right T.g_l_right sc_l_right (prm_len fun _ => rfl) (fun _ _ _ _ _ _ us hl => match us, hl with | [_], _ => rfl) fun cdv A outer s H vs Q E hr hu64 hu65 h => ?_
  have nd := sc_l_right.nd
  refine ⟨_, (pss_cons (ps_set (i := 1) nd rfl (Or.inl rfl) (pe_callD D_l_some_names (hr.mono (by decide)) rfl (pa_cons (pv 0) (pa_cons pe_int pa_nil))))
    (pss_cons (ps_set (i := 2) nd rfl (Or.inl rfl) (pe_callD D_l_book_lines (hr.mono (by decide)) rfl (pa_cons (pv 0) (pa_cons (pv 1) (pa_cons pe_int pa_nil)))))
    (pss_cons (ps_par (i := 3) (j := 4) (by rfl) nd rfl rfl (by decide) rfl rfl (pa_cons (pe_callD D_l_book (hr.mono (by decide)) rfl (pa_cons (pv 0) (pa_cons (pv 1) (pa_cons (pv 2) pa_nil)))) (pa_cons (pe_callD D_l_panel_rows (hr.mono (by decide)) rfl (pa_cons (pv 0) (pa_cons (pv 1) (pa_cons (pv 2) pa_nil)))) pa_nil)) (by rfl))
    (pss_cons (ps_set (i := 5) nd rfl (Or.inl rfl) (pe_makeD D_panel_init (hr.mono (by decide)) rfl (pa_cons (pe_callD D_l_shuffled (hr.mono (by decide)) rfl (pa_cons (pv 0) (pa_cons (pv 1) pa_nil))) (pa_cons (pe_lc (own := [("_law_row", 6)]) rfl nd (k_over K (pv 4)) (blkOk_by (own := [("_law_row", 6)]) (N := N_l_right) (sc := defScope s_l_right) (by decide +kernel)) (fun _ _ _ _ _ => (pg_name (i := 6) nd rfl (Or.inl rfl))) (fun _ _ _ _ _ => pts_nil) (fun _ _ _ _ _ => (pe_callTy (k_list K) (by rfl) T.list_ (by decide +kernel) (pa_cons (pv 6) pa_nil)))) pa_nil))))
    (pss_cons (ps_set (i := 7) nd rfl (Or.inl rfl) (pe_callD D_l_first_break (hr.mono (by decide)) rfl (pa_cons (pv 2) (pa_cons (pv 4) pa_nil))))
    (pss_cons (ps_set (i := 8) nd rfl (Or.inl rfl) (pe_callD D_why_broken (hr.mono (by decide)) rfl (pa_cons (pv 3) (pa_cons (pv 5) pa_nil))))
    (pss_cons (ps_if (PW.pt (pw_or (pt_cmpR (k_ne K hu64) (pv 8) (pv 7) (nomark _)) (pw_or1 (pt_cmpR (k_ne K hu64) (pe_callTy call_strB (by rfl) T.str_ (by decide +kernel) (pa_cons (pe_callD D_keeps (hr.mono (by decide)) rfl (pa_cons (pv 3) (pa_cons (pv 5) pa_nil))) pa_nil)) (pe_callTy call_strB (by rfl) T.str_ (by decide +kernel) (pa_cons (pe_cmpR op_isN (pv 7) pe_non (nomark _)) pa_nil)) (nomark _))))) (pss_one (ps_ret pe_bl)) pss_nil)
    (pss_cons (ps_if (pt_cmpR op_notN (pv 8) pe_non (nomark _)) (pss_one (ps_expr (k_bm K PySem.F.plainAttrs_list PySem.F.slot_list_append PySem.F.type_list_append mt_append (pe_ix (k_ix K) (pe_ix (k_ix K) (pv 8) pe_int (fun _ _ => rfl)) pe_int (fun _ _ => rfl)) (pa_cons pe_str pa_nil)))) pss_nil)
    (pss_cons (ps_par (i := 9) (j := 10) (by rfl) nd rfl rfl (by decide) rfl rfl (pa_cons (pe_callD D_l_panel_rows (hr.mono (by decide)) rfl (pa_cons (pv 0) (pa_cons (pv 1) (pa_cons (pv 2) pa_nil)))) (pa_cons (pe_callD D_l_book_lines (hr.mono (by decide)) rfl (pa_cons (pv 0) (pa_cons (pv 1) (pa_cons pe_int pa_nil)))) pa_nil)) (by rfl))
    (pss_cons (ps_set (i := 11) nd rfl (Or.inl rfl) (pe_callD D_l_book (hr.mono (by decide)) rfl (pa_cons (pv 0) (pa_cons (pv 1) (pa_cons (pv 10) pa_nil)))))
    (pss_cons (ps_if (pt_cmpR (k_ne K hu64) (pe_callD D_why_broken (hr.mono (by decide)) rfl (pa_cons (pv 3) (pa_cons (pe_makeD D_panel_init (hr.mono (by decide)) rfl (pa_cons (pv 1) (pa_cons (pv 9) pa_nil))) pa_nil))) (pe_callD D_l_first_break (hr.mono (by decide)) rfl (pa_cons (pv 2) (pa_cons (pv 9) pa_nil))) (nomark _)) (pss_one (ps_ret pe_bl)) pss_nil)
    (pss_cons (ps_if (PW.pt (pw_or (pt_cmpR (k_ne K hu64) (pe_callD D_why_broken (hr.mono (by decide)) rfl (pa_cons (pv 11) (pa_cons (pv 5) pa_nil))) (pe_callD D_l_first_break (hr.mono (by decide)) rfl (pa_cons (pv 10) (pa_cons (pv 4) pa_nil))) (nomark _)) (pw_or1 (pt_cmpR (k_ne K hu64) (pe_callD D_keeps (hr.mono (by decide)) rfl (pa_cons (pv 11) (pa_cons (pv 5) pa_nil))) (pe_callD D_l_keeps (hr.mono (by decide)) rfl (pa_cons (pv 4) (pa_cons (pv 10) pa_nil))) (nomark _))))) (pss_one (ps_ret pe_bl)) pss_nil)
    (pss_cons (ps_if (pt_cmpR (k_ne K hu64) (pe_callD D_keeps (hr.mono (by decide)) rfl (pa_cons (pv 3) (pa_cons (pv 5) pa_nil))) (pe_cmpR op_isN (pv 7) pe_non (nomark _)) (nomark _)) (pss_one (ps_ret pe_bl)) pss_nil)
    (pss_cons (ps_if (PW.pt (pw_or (pt_cmpR (k_ne K hu64) (pe_callD D_why_broken (hr.mono (by decide)) rfl (pa_cons (pv 3) (pa_cons (pv 5) pa_nil))) (pv 7) (nomark _)) (pw_or1 (pt_cmpR (k_ne K hu64) (pe_methD (pv 3) D_book_lines (hr.mono (by decide))) (pe_callB (k_sorted K hu64) (by rfl) T.sorted_ (by decide +kernel) (pa_cons (pv 2) pa_nil)) (nomark _))))) (pss_one (ps_ret pe_bl)) pss_nil)
    (pss_cons (ps_par (i := 12) (j := 13) (by rfl) nd rfl rfl (by decide) rfl rfl (pa_cons (pe_callD D_l_first_bar (hr.mono (by decide)) rfl (pa_cons (pv 1) (pa_cons (pv 2) pa_nil))) (pa_cons (pe_callD D_some_panel (hr.mono (by decide)) rfl (pa_cons (pv 3) pa_nil)) pa_nil)) (by rfl))
    (pss_cons (ps_if (PW.pt (pw_or (pt_cmpR (k_ne K hu64) (pe_callD D_why_none (hr.mono (by decide)) rfl (pa_cons (pv 3) pa_nil)) (pv 12) (nomark _)) (pw_or1 (pt_cmpR (k_ne K hu64) (pe_cmpR op_isN (pv 13) pe_non (nomark _)) (pe_cmpR op_notN (pv 12) pe_non (nomark _)) (nomark _))))) (pss_one (ps_ret pe_bl)) pss_nil)
    (pss_cons (ps_set (i := 14) nd rfl (Or.inr rfl) (pe_callD D_l_kept_rows (hr.mono (by decide)) rfl (pa_cons (pv 1) (pa_cons (pv 2) (pa_cons (pe_lst pa_nil) pa_nil)))))
    (pss_cons (ps_setLc (i := 15) (own := [("_law_line_here", 16)]) rfl nd rfl rfl (sw_true rfl rfl rfl (by decide +kernel)) (k_over K (pe_callD D_l_calls (hr.mono (by decide)) rfl (pa_cons (pv 2) pa_nil))) (blkOk_by (own := [("_law_line_here", 16)]) (N := N_l_right) (sc := defScope s_l_right) (by decide +kernel)) (fun _ _ _ _ _ => (pg_name (i := 16) nd rfl (Or.inl rfl))) (fun _ _ _ _ _ => (pts_one (pt_not (pt_val (pe_callD D_l_keeps_line (hr.mono (by decide)) rfl (pa_cons (pv 14) (pa_cons (pv 16) pa_nil))))))) (fun _ _ _ _ _ => (pv 16)))
    (pss_cons (ps_if (pt_cmpR (k_ne K hu64) (pe_and (pe_cmpR (k_ne K hu64) (pv 14) (pe_lst pa_nil) (nomark _)) (pe_one (pe_cmpR (k_eq K hu64) (pv 15) (pe_lst pa_nil) (nomark _)))) (pe_cmpR op_isN (pv 12) pe_non (nomark _)) (nomark _)) (pss_one (ps_ret pe_bl)) pss_nil)
    (pss_cons (ps_if (PW.pt (pw_and (pt_cmpR op_notN (pv 13) pe_non (nomark _)) (pw_and1 (PW.pt (pw_or (pt_cmpR (k_ne K hu64) (pe_methD (pv 13) D_panel_entries (hr.mono (by decide))) (pv 1) (nomark _)) (pw_or1 (pt_cmpR op_notN (pe_callD D_l_first_break (hr.mono (by decide)) rfl (pa_cons (pv 2) (pa_cons (pe_methD (pv 13) D_panel_rows (hr.mono (by decide))) pa_nil))) pe_non (nomark _)))))))) (pss_one (ps_ret pe_bl)) pss_nil)
    (pss_cons (ps_if (pt_cmpR op_notN (pv 13) pe_non (nomark _)) (pss_one (ps_if (PW.pt (pw_or (pt_not (pt_val (pe_callD D_keeps (hr.mono (by decide)) rfl (pa_cons (pv 3) (pa_cons (pv 13) pa_nil))))) (pw_or1 (pt_cmpR (op_neO NP D_panel_eq (hr.mono (by decide))) (pe_callD D_some_panel (hr.mono (by decide)) rfl (pa_cons (pe_callD D_l_book (hr.mono (by decide)) rfl (pa_cons (pv 0) (pa_cons (pv 1) (pa_cons (pv 2) pa_nil)))) pa_nil)) (pv 13) (nomark _))))) (pss_one (ps_ret pe_bl)) pss_nil)) pss_nil)
    (pss_cons (ps_set (i := 17) nd rfl (Or.inl rfl) (pe_callD D_why_none (hr.mono (by decide)) rfl (pa_cons (pv 3) pa_nil)))
    (pss_cons (ps_if (pt_cmpR op_notN (pv 17) pe_non (nomark _)) (pss_cons (ps_expr (k_bm K PySem.F.plainAttrs_list PySem.F.slot_list_append PySem.F.type_list_append mt_append (pe_ix (k_ix K) (pv 17) pe_int (fun _ _ => rfl)) (pa_cons pe_str pa_nil)))
     (pss_one (ps_if (pt_cmpR op_notN (pe_ix (k_ix K) (pv 17) pe_int (fun _ _ => rfl)) pe_non (nomark _)) (pss_one (ps_expr (k_bm K PySem.F.plainAttrs_list PySem.F.slot_list_append PySem.F.type_list_append mt_append (pe_ix (k_ix K) (pe_ix (k_ix K) (pv 17) pe_int (fun _ _ => rfl)) pe_int (fun _ _ => rfl)) (pa_cons pe_str pa_nil)))) pss_nil))) pss_nil)
    (pss_cons (ps_set (i := 18) nd rfl (Or.inl rfl) (pe_callD D_l_book (hr.mono (by decide)) rfl (pa_cons (pv 0) (pa_cons (pv 1) (pa_cons (pv 2) pa_nil)))))
    (pss_cons (ps_if (PW.pt (pw_or (pt_cmpR (k_ne K hu64) (pe_callD D_why_none (hr.mono (by decide)) rfl (pa_cons (pv 3) pa_nil)) (pv 12) (nomark _)) (pw_or1 (pt_not (pt_val (pe_callD D_l_bars_right (hr.mono (by decide)) rfl (pa_cons (pv 1) (pa_cons (pv 2) (pa_cons (pv 18) pa_nil))))))))) (pss_one (ps_ret pe_bl)) pss_nil)
    (pss_one (ps_ret (pe_and (pe_cmpR (k_eq K hu64) (pe_callD D_why_broken (hr.mono (by decide)) rfl (pa_cons (pv 3) (pa_cons (pv 5) pa_nil))) (pv 7) (nomark _)) (pe_and (pe_cmpR (k_eq K hu64) (pe_methD (pv 3) D_book_lines (hr.mono (by decide))) (pe_callB (k_sorted K hu64) (by rfl) T.sorted_ (by decide +kernel) (pa_cons (pv 2) pa_nil)) (nomark _)) (pe_one (pe_cmpR (k_eq K hu64) (pe_methD (pv 5) D_panel_rows (hr.mono (by decide))) (pv 4) (nomark _)))))))))))))))))))))))))))))))), fn_prm (E := E) h fun i hi => ?_⟩
  obtain ⟨p, n⟩ := i
  have h3 : n ≤ 1000000 := hi
  show Sj (some p) n [some (.im (Vv (.ref p))), none, none, none, none, none, none, none, none, none, none, none, none, none, none, none, none, none, none] _ _
  refine sj_seq (sj_asgXW (f := fun ns => D (eS ns)) (B := fun ns => Ns ns ∧ sortS ns = ns) (pu_someNames (n1 := n) (by omega) (pa_c (pu_var rfl) (pa_c pu_int pa_n))) fun ns hns => ?_)
  obtain ⟨N, so⟩ := hns
  have nle := N.le
  refine sj_seq (sj_asgXW (f := fun ls => D (eLs ls)) (B := fun ls => LsOk ns ls) (pu_bookLines 7 (n1 := n + 40) N (by decide) (by omega) (pa_c (pu_var rfl) (pa_c (pu_var rfl) (pa_c (pu_int (i := ((7 : Nat) : Int))) pa_n)))) fun ls Z => ?_)
  have lle := Z.le
  have Bl : Bo ns ls := ⟨N, Z.L, by omega⟩
  have Bs := Bl.sort
  have sl := (sortL_perm ls).length_eq
  refine sj_seq (sj_par (pa_c (pu_book (K := K) (n1 := n + 40 + 500) N so Z (by omega) (pa_c (pu_var rfl) (pa_c (pu_var rfl) (pa_c (pu_var rfl) pa_n)))) (pa_c (pu_panelRows (n1 := n + 40 + 500 + 30) N Z (by omega) (pa_c (pu_var rfl) (pa_c (pu_var rfl) (pa_c (pu_var rfl) pa_n)))) pa_n)) ?_)
  refine sj_openXW (f := fun rs => D (eR rs)) (B := fun rs : List (List Str) => (∀ r ∈ rs, RowOk ns r) ∧ 1 ≤ rs.length ∧ rs.length ≤ 5) 4 rfl fun rs hrs => ?_
  obtain ⟨R, r1, r5⟩ := hrs
  show Sj (some p) (n + 40 + 500 + 30 + 500) [some (.im (Vv (.ref p))), some (.im (D (.list (ns.map .str)))), some (.im (D (.list (ls.map eL)))), some (.im (BkT K ns (sortL ls))), some (.im (D (.list (rs.map eS)))), none, none, none, none, none, none, none, none, none, none, none, none, none, none] _ _
  refine sj_seq (sj_asg (pu_makeX (ι := List Str × List (List Str)) (n1 := n + 40 + 500 + 30 + 500 + ns.length) (Rs := [Ex fun ms : List Str => Wh (ms.Perm ns) (D (.list (ms.map .str))), D (eR rs)]) (R := PnT K ns rs) (pa_c (pu_shuf (enc := PyData.str) (n1 := n + 40 + 500 + 30 + 500) (by omega) (by omega) (pa_c (pu_var rfl) (pa_c (pu_var rfl) pa_n))) (pa_c ((pu_lcA (enc := eS) (xs := rs) (pu_var rfl) [6] (by simp) (by omega) (fun r => Ln ((r.map PyData.str).map D)) (fun r hr => ⟨_, tg_name, pu_cb (pa_c (pu_var rfl) pa_n) rc_list⟩)).le (ln_mapD (enc := eS) fun r _ => ln_SF2.trans le_FD)) pa_n)) fun G0 G vs ty => ?_) ?_)
  · obtain ⟨v, w, rfl, ⟨ms, hm, g1⟩, g2⟩ := tys2 ty
    refine ⟨(ms, rs), ⟨N.perm hm, fun r hr => (R r hr).trans hm.symm, by
      show rs.length ≤ 1000
      omega, fun e => by
      have e : rs = [] := e
      rw [e] at r1
      exact absurd r1 (by decide)⟩, ⟨g1, g2, trivial⟩, ?_⟩
    show (PnT K (sortS ms) rs).le (PnT K ns rs)
    rw [sortS_eq hm, so]
    exact Ty.le.rfl'
  have Sc1 : Sc ns (sortL ls) rs := ⟨N, Bs.L, R, by omega, by omega⟩
  have Sc0 : Sc ns ls rs := ⟨N, Z.L, R, by omega, by omega⟩
  refine sj_seq (sj_asg (pu_call1 (ι := List Str × List Line × List (List Str)) (ns, ls, rs) Sc0 (pa_c (pu_var rfl) (pa_c (pu_var rfl) pa_n)) (by exact ⟨sub_D, sub_D, trivial⟩)) ?_)
  show Sj (some p) (n + 40 + 500 + 30 + 500 + ns.length) [some (.im (Vv (.ref p))), some (.im (D (.list (ns.map .str)))), some (.im (D (.list (ls.map eL)))), some (.im (BkT K ns (sortL ls))), some (.im (D (.list (rs.map eS)))), some (.im (PnT K ns rs)), none, some (.im (D (firstBrk (sortL ls) rs))), none, none, none, none, none, none, none, none, none, none, none] _ _
  have Sb := sm_brk (rs := rs) N Bs.L
  rw [seq3]
  refine sj_scr (i := 8) (by exact ⟨sub_V, sub_D, sub_D, sub_Bk, sub_D, sub_Pn, sub_D, trivial⟩) (scr_brk (by simp) (fun l hl => ((Bs.L l hl).fld N).le N)
    (pu_call1 (ι := List Str × List Line × List (List Str)) (ns, sortL ls, rs) Sc1 (pa_c (pu_var rfl) (pa_c (pu_var rfl) pa_n)) (by exact ⟨sub_Bk, sub_Pn, trivial⟩))
    (qt_or (a := false) (b := false) (qt_test (pu_neSame Sb (pu_var rfl) le_FD (pu_var rfl) Ty.le.rfl')) (fun _ => qt_test ((pu_op (pu_cb (pa_c (pu_call1 (ι := List Str × List Line × List (List Str)) (ns, sortL ls, rs) Sc1 (pa_c (pu_var rfl) (pa_c (pu_var rfl) pa_n)) (by exact ⟨sub_Bk, sub_Pn, trivial⟩)) pa_n) rc_strB)
      (pu_cb (pa_c (pu_op (pu_var rfl) pu_non rv_isN) pa_n) rc_strB) (rv_ne (shaped_str (boolStr_ok _)) (shaped_str (boolStr_ok _)))).le (le_bool (by rw [eqv_str, decide_eq_true rfl]; rfl)))))) ?_
  show Sj (some p) (n + 40 + 500 + 30 + 500 + ns.length) [some (.im (Vv (.ref p))), some (.im (D (.list (ns.map .str)))), some (.im (D (.list (ls.map eL)))), some (.im (BkT K ns (sortL ls))), some (.im (D (.list (rs.map eS)))), some (.im (PnT K ns rs)), none, some (.im (D (firstBrk (sortL ls) rs))), none, none, none, none, none, none, none, none, none, none, none] _ _
  generalize hn1 : n + 40 + 500 + 30 + 500 + ns.length = n1
  refine sj_seq (sj_par (pa_c (pu_panelRows (n1 := n1) N Z (by omega) (pa_c (pu_var rfl) (pa_c (pu_var rfl) (pa_c (pu_var rfl) pa_n)))) (pa_c (pu_bookLines 4 (n1 := n1 + 500) N (by decide) (by omega) (pa_c (pu_var rfl) (pa_c (pu_var rfl) (pa_c (pu_int (i := ((4 : Nat) : Int))) pa_n)))) pa_n)) ?_)
  refine sj_openXW (f := fun rs => D (eR rs)) (B := fun rs : List (List Str) => (∀ r ∈ rs, RowOk ns r) ∧ 1 ≤ rs.length ∧ rs.length ≤ 5) 9 rfl fun qs hqs => ?_
  obtain ⟨R2, q1, q5⟩ := hqs
  refine sj_openXW (f := fun ls => D (eLs ls)) (B := fun ls => LsOk ns ls) 10 rfl fun ms Y => ?_
  have mle := Y.le
  have Bm : Bo ns ms := ⟨N, Y.L, by omega⟩
  have Bms := Bm.sort
  have sml := (sortL_perm ms).length_eq
  refine sj_seq (sj_asg (pu_book (K := K) (n1 := n1 + 500 + 500) N so Y (by omega) (pa_c (pu_var rfl) (pa_c (pu_var rfl) (pa_c (pu_var rfl) pa_n)))) ?_)
  show Sj (some p) (n1 + 500 + 500 + 30) [some (.im (Vv (.ref p))), some (.im (D (.list (ns.map .str)))), some (.im (D (.list (ls.map eL)))), some (.im (BkT K ns (sortL ls))), some (.im (D (.list (rs.map eS)))), some (.im (PnT K ns rs)), none, some (.im (D (firstBrk (sortL ls) rs))), none, some (.im (D (.list (qs.map eS)))), some (.im (D (.list (ms.map eL)))), some (.im (BkT K ns (sortL ms))), none, none, none, none, none, none, none] _ _
  have Sq1 : Sc ns (sortL ls) qs := ⟨N, Bs.L, R2, by omega, by omega⟩
  have Sq0 : Sc ns ls qs := ⟨N, Z.L, R2, by omega, by omega⟩
  have Sm1 : Sc ns (sortL ms) rs := ⟨N, Bms.L, R, by omega, by omega⟩
  have Sm0 : Sc ns ms rs := ⟨N, Y.L, R, by omega, by omega⟩
  have pno : qs ≠ [] := fun e => by
    rw [e] at q1
    exact absurd q1 (by decide)
  refine sj_seq (sj_if (B := (· = false)) (qt_test (pu_neSame (sm_brk (rs := qs) N Bs.L) (pu_call1 (ι := List Str × List Line × List (List Str)) (ns, sortL ls, qs) Sq1 (pa_c (pu_var rfl) (pa_c ((pu_make (ι := List Str × List (List Str)) (ns, qs) (by exact ⟨N, R2, by
      show qs.length ≤ 1000
      omega, pno⟩) (pa_c (pu_var rfl) (pa_c (pu_var rfl) pa_n)) (by exact ⟨sub_D, sub_D, trivial⟩)).le (pn_so so)) pa_n)) (by exact ⟨sub_Bk, sub_Pn, trivial⟩)) le_FD
    (pu_call1 (ι := List Str × List Line × List (List Str)) (ns, ls, qs) Sq0 (pa_c (pu_var rfl) (pa_c (pu_var rfl) pa_n)) (by exact ⟨sub_D, sub_D, trivial⟩)) Ty.le.rfl')) (fun hb => by cases hb) (fun _ => sj_next ?_))
  refine sj_seq (sj_if (B := (· = false)) (qt_or (a := false) (b := false) (qt_test (pu_neSame (sm_brk (rs := rs) N Bms.L) (pu_call1 (ι := List Str × List Line × List (List Str)) (ns, sortL ms, rs) Sm1 (pa_c (pu_var rfl) (pa_c (pu_var rfl) pa_n)) (by exact ⟨sub_Bk, sub_Pn, trivial⟩)) le_FD
    (pu_call1 (ι := List Str × List Line × List (List Str)) (ns, ms, rs) Sm0 (pa_c (pu_var rfl) (pa_c (pu_var rfl) pa_n)) (by exact ⟨sub_D, sub_D, trivial⟩)) Ty.le.rfl'))
    (fun _ => qt_test (pu_neBool (firstBrk_none.trans (all_perm (sortL_perm ms))) (pu_call1 (ι := List Str × List Line × List (List Str)) (ns, sortL ms, rs) Sm1 (pa_c (pu_var rfl) (pa_c (pu_var rfl) pa_n)) (by exact ⟨sub_Bk, sub_Pn, trivial⟩))
      (pu_call1 (ι := List Str × List Line × List (List Str)) (ns, ms, rs) Sm0 (pa_c (pu_var rfl) (pa_c (pu_var rfl) pa_n)) (by exact ⟨sub_D, sub_D, trivial⟩))))) (fun hb => by cases hb) (fun _ => sj_next ?_))
  refine sj_seq (sj_if (B := (· = false)) (qt_test (pu_neBool rfl (pu_call1 (ι := List Str × List Line × List (List Str)) (ns, sortL ls, rs) Sc1 (pa_c (pu_var rfl) (pa_c (pu_var rfl) pa_n)) (by exact ⟨sub_Bk, sub_Pn, trivial⟩)) (pu_op (pu_var rfl) pu_non rv_isN))) (fun hb => by cases hb) (fun _ => sj_next ?_))
  have sLs := sm_Ls N Bs.L (by omega)
  have srt : ∀ {env : Env'} {k : Nat} {te : TE}, Pu (some p) k k env te (D (.list (ls.map eL))) → Pu (some p) k k env (tCB (rSortQ K) (tCons te tNil)) (D (eLs (sortL ls))) := fun h => pu_cb (pa_c h pa_n) (sort_RCL (fun l hl => (Z.L l hl).sm N) (by omega))
  refine sj_seq (sj_if (B := (· = false)) (qt_or (a := false) (b := false) (qt_test (pu_neSame Sb (pu_call1 (ι := List Str × List Line × List (List Str)) (ns, sortL ls, rs) Sc1 (pa_c (pu_var rfl) (pa_c (pu_var rfl) pa_n)) (by exact ⟨sub_Bk, sub_Pn, trivial⟩)) le_FD (pu_var rfl) Ty.le.rfl'))
    (fun _ => qt_test (pu_neSame sLs (pu_meth (ι := List Str × List Line) (ns, sortL ls) (by
      show (sortL ls).length ≤ 1000
      omega) (pu_var rfl) (bk_ins (by decide) (by decide)) (by exact ⟨sub_Bk, trivial⟩)) le_FD (srt (pu_var rfl)) Ty.le.rfl'))) (fun hb => by cases hb) (fun _ => sj_next ?_))
  refine sj_seq (sj_par (pa_c (pu_call1 (ι := List Str × List Line) (ns, ls) Bl (pa_c (pu_var rfl) (pa_c (pu_var rfl) pa_n)) (by exact ⟨sub_D, sub_D, trivial⟩)) (pa_c (pu_call1 (ι := List Str × List Line) (ns, sortL ls) Bs (pa_c (pu_var rfl) pa_n) (by exact ⟨sub_Bk, trivial⟩)) pa_n)) ?_)
  show Sj (some p) (n1 + 500 + 500 + 30) [some (.im (Vv (.ref p))), some (.im (D (.list (ns.map .str)))), some (.im (D (.list (ls.map eL)))), some (.im (BkT K ns (sortL ls))), some (.im (D (.list (rs.map eS)))), some (.im (PnT K ns rs)), none, some (.im (D (firstBrk (sortL ls) rs))), none, some (.im (D (.list (qs.map eS)))), some (.im (D (.list (ms.map eL)))), some (.im (BkT K ns (sortL ms))), some (.im (D (lBarD ns ls))), some (.im (SomeT K ns (sortL ls))), none, none, none, none, none] _ _
  have be := bar_eq Bl
  have Slb := sm_lbar Bl
  have pwn : ∀ {env : Env'} {k : Nat}, env[3]? = some (some (.im (BkT K ns (sortL ls)))) → Pu (some p) k k env (tCall (spBar K) [] E0 (tCons (tVar 3) tNil)) (Fd (barD ns (sortL ls))) := fun h => pu_call1 (ι := List Str × List Line) (ns, sortL ls) Bs (pa_c (pu_var h) pa_n) (by exact ⟨sub_Bk, trivial⟩)
  have lbF : (Fd (barD ns (sortL ls))).le (D (lBarD ns ls)) := by
    rw [be]
    exact le_FD
  refine sj_seq (sj_if (B := (· = false)) (qt_or (a := false) (b := false) (qt_test (pu_neSame Slb (pwn rfl) lbF (pu_var rfl) Ty.le.rfl')) (fun _ => qt_test (pu_neBool (by rw [be]) (pu_op (pu_var rfl) pu_non rv_someN) (pu_op (pu_var rfl) pu_non rv_notN)))) (fun hb => by cases hb) (fun _ => sj_next ?_))
  have ev : ∀ r ∈ keptRows ns (offs ls []), RowOk ns r := fun r hr => rows_ok N (List.mem_filter.mp hr).1
  have evl : (keptRows ns (offs ls [])).length ≤ 256 := Nat.le_trans (List.length_filter_le _ _) (rowsN_len N.le ns.length N.le)
  have eiff := every_iff Bl
  refine sj_seq (sj_asg (pu_call1 (ι := List Str × List Line × List Wish) (ns, ls, []) Bl.w0 (pa_c (pu_var rfl) (pa_c (pu_var rfl) (pa_c pu_ws0 pa_n))) (by exact ⟨sub_D, sub_D, sub_D, trivial⟩)) ?_)
  generalize keptRows ns (offs ls []) = X at ev evl eiff
  have cl : (calls (sortL ls)).length ≤ 100 := Nat.le_trans (List.length_filter_le _ _) (by omega)
  refine sj_seq (sj_asg ((pu_lcE (enc := eL) (xs := calls (sortL ls)) (pu_call1 (ι := List Str × List Line) (ns, ls) (by exact ⟨N, Z.L, by
    show ls.length ≤ 100
    omega⟩) (pa_c (pu_var rfl) pa_n) (by exact ⟨sub_D, trivial⟩)) [16] (by simp) (by omega) (fun l => !keepsLine X l) (fun l => D (eL l))
    (fun l hl => ⟨_, tg_name, qt_not (qt_B (pu_call1 (ι := List Str × Line × List (List Str)) (ns, l, X) (by exact ⟨N, Bs.L l (calls_mem hl), ev, by
      show X.length ≤ 300
      omega⟩) (pa_c (pu_var rfl) (pa_c (pu_var rfl) pa_n)) (by exact ⟨sub_D, sub_D, trivial⟩))), fun _ => pu_var rfl⟩)).le ln_Dm) ?_)
  have su : SeqAt.shaped (.list (((calls (sortL ls)).filter fun l => !keepsLine X l).map eL)) = true := shL fun l hl => (Bs.L l (calls_mem (List.mem_filter.mp hl).1)).sm N
  show Sj (some p) (n1 + 500 + 500 + 30) [some (.im (Vv (.ref p))), some (.im (D (.list (ns.map .str)))), some (.im (D (.list (ls.map eL)))), some (.im (BkT K ns (sortL ls))), some (.im (D (.list (rs.map eS)))), some (.im (PnT K ns rs)), none, some (.im (D (firstBrk (sortL ls) rs))), none, some (.im (D (.list (qs.map eS)))), some (.im (D (.list (ms.map eL)))), some (.im (BkT K ns (sortL ms))), some (.im (D (lBarD ns ls))), some (.im (SomeT K ns (sortL ls))), some (.im (D (.list (X.map eS)))), some (.im (D (.list (((calls (sortL ls)).filter fun l => !keepsLine X l).map eL)))), none, none, none] _ _
  refine sj_seq (sj_if (B := (· = false)) (qt_test (pu_neBool (a := !X.isEmpty && ((calls (sortL ls)).filter fun l => !keepsLine X l).isEmpty) eiff (pu_andV ((pu_notNil (pu_var rfl) (shR N ev)).le (le_bool (by rw [isEmpty_map]))) (fun _ => (pu_isNil (pu_var rfl) su).le (le_bool (by rw [isEmpty_map])))) (pu_op (pu_var rfl) pu_non rv_isN))) (fun hb => by cases hb) (fun _ => sj_next ?_))
  have hsome : isNone (barD ns (sortL ls)) = true → SomeT K ns (sortL ls) = PnT K ns (keepRows ns (sortL ls)) := fun h => by
    unfold SomeT
    rw [if_pos h, so]
  have krl : (keepRows ns (sortL ls)).length ≤ 100 := keepRows_len Bs.ll
  have Sk : isNone (barD ns (sortL ls)) = true → Sc ns (sortL ls) (keepRows ns (sortL ls)) := fun h => ⟨N, Bs.L, keepRows_ok h, Bs.ll, krl⟩
  have Sk0 : isNone (barD ns (sortL ls)) = true → Sc ns ls (keepRows ns (sortL ls)) := fun h => ⟨N, Z.L, keepRows_ok h, Bl.ll, krl⟩
  have fk : isNone (barD ns (sortL ls)) = true → isNone (firstBrk (sortL ls) (keepRows ns (sortL ls))) = true := fun h => by
    rw [firstBrk_none, List.all_eq_true]
    exact keepRows_keep Bs h
  have sS : Sm (eS ns) := N.smS (fun _ h => h) (by omega)
  refine sj_seq (sj_if (B := (· = false)) (PuT.imp (qt_and (b := false) (qt_test (pu_op (pu_var rfl) pu_non rv_someNot)) (fun hb => qt_or (a := false) (b := false) (qt_test (pu_neSame sS (pu_meth (ι := List Str × List (List Str)) (ns, keepRows ns (sortL ls)) trivial ((pu_var rfl).le (by rw [hsome hb]; exact Ty.le.rfl')) (pn_ins (by decide) (by decide) (by decide)) (by exact ⟨sub_Pn, trivial⟩)) le_FD (pu_var rfl) Ty.le.rfl'))
    (fun _ => qt_test ((pu_op (pu_call1 (ι := List Str × List Line × List (List Str)) (ns, ls, keepRows ns (sortL ls)) (Sk0 hb) (pa_c (pu_var rfl) (pa_c (pu_meth (ι := List Str × List (List Str)) (ns, keepRows ns (sortL ls)) (by
      show (keepRows ns (sortL ls)).length ≤ 1000
      omega) ((pu_var rfl).le (by rw [hsome hb]; exact Ty.le.rfl')) (pn_ins (by decide) (by decide) (by decide)) (by exact ⟨sub_Pn, trivial⟩)) pa_n)) (by exact ⟨sub_D, sub_F, trivial⟩)) pu_non rv_notN).le (le_bool (by
        show (!isNone (firstBrk (sortL ls) (keepRows ns (sortL ls)))) = false
        rw [fk hb]
        rfl)))))) fun b hb => by rw [hb, Bool.and_false]) (fun hb => by cases hb) (fun _ => sj_next ?_))
  have shk : isNone (barD ns (sortL ls)) = true → Sm (.tuple [eS ns, eR (keepRows ns (sortL ls))]) := fun h => (sd_tup (n := 2) (all2 ((sd_S N (fun _ h => h) (by omega)).up (by decide)) (sd_R N (keepRows_ok h) (by omega))) (by simp)).sm' (by decide)
  refine sj_seqU (m := n1 + 500 + 500 + 30 + 30) (env' := [some (.im (Vv (.ref p))), some (.im (D (.list (ns.map .str)))), some (.im (D (.list (ls.map eL)))), some (.im (BkT K ns (sortL ls))), some (.im (D (.list (rs.map eS)))), some (.im (PnT K ns rs)), none, some (.im (D (firstBrk (sortL ls) rs))), none, some (.im (D (.list (qs.map eS)))), some (.im (D (.list (ms.map eL)))), some (.im (BkT K ns (sortL ms))), some (.im (D (lBarD ns ls))), some (.im (SomeT K ns (sortL ls))), some (.im (D (.list (X.map eS)))), some (.im (D (.list (((calls (sortL ls)).filter fun l => !keepsLine X l).map eL)))), none, none, none])
    (sj_if (qt_test (pu_op (pu_var rfl) pu_non rv_someNot)) (fun hb => ?_) (fun _ => sj_next ⟨by omega, rfl⟩)) ?_
  · have hb2 : isNone (barD ns (sortL ls)) = true := hb.symm
    have hv : ∀ {k : Nat}, Pu (some p) k k [some (.im (Vv (.ref p))), some (.im (D (.list (ns.map .str)))), some (.im (D (.list (ls.map eL)))), some (.im (BkT K ns (sortL ls))), some (.im (D (.list (rs.map eS)))), some (.im (PnT K ns rs)), none, some (.im (D (firstBrk (sortL ls) rs))), none, some (.im (D (.list (qs.map eS)))), some (.im (D (.list (ms.map eL)))), some (.im (BkT K ns (sortL ms))), some (.im (D (lBarD ns ls))), some (.im (SomeT K ns (sortL ls))), some (.im (D (.list (X.map eS)))), some (.im (D (.list (((calls (sortL ls)).filter fun l => !keepsLine X l).map eL)))), none, none, none] (tVar 13) (PnT K ns (keepRows ns (sortL ls))) := fun {k} => by
      rw [hsome hb2]
      exact pu_var rfl
    refine sj_if (B := (· = false)) (qt_orX (n1 := n1 + 500 + 500 + 30) (n2 := n1 + 500 + 500 + 30 + 30) (A := (· = false)) (B := (· = false)) (qt_not (a := true) (qt_B ((pu_call1 (ι := List Str × List Line × List (List Str)) (ns, sortL ls, keepRows ns (sortL ls)) (Sk hb2) (pa_c (pu_var rfl) (pa_c hv pa_n)) (by exact ⟨sub_Bk, sub_Pn, trivial⟩)).le (le_bool (fk hb2)))))
      (fun _ => qt_test ((pu_op (T1 := PnT K ns (keepRows ns (sortL ls))) ((pu_call1 (ι := List Str × List Line) (ns, sortL ls) Bs (pa_c (pu_book (K := K) (n1 := n1 + 500 + 500 + 30) N so Z (by omega) (pa_c (pu_var rfl) (pa_c (pu_var rfl) (pa_c (pu_var rfl) pa_n)))) pa_n) (by exact ⟨sub_Bk, trivial⟩)).le (by
        show (SomeT K ns (sortL ls)).le _
        rw [hsome hb2]
        exact Ty.le.rfl')) hv (rv_neO (shk hb2).shaped (shk hb2).shaped)).le (le_bool (by rw [eqv_self _ (shk hb2).s]; rfl)))) (by omega) (fun h => h) (fun b _ h => h)) (fun hb => by cases hb) (fun _ => sj_next ⟨Nat.le_refl _, rfl⟩)
  rw [seq_as]
  refine sj_scr (i := 17) (by exact ⟨sub_V, sub_D, sub_D, sub_Bk, sub_D, sub_Pn, sub_D, sub_D, sub_D, sub_Bk, sub_D, sub_some, sub_D, sub_D, trivial⟩) (scr_bar (by simp) N Bs.L (pwn rfl)) ?_
  generalize hn2 : n1 + 500 + 500 + 30 + 30 = n2
  refine sj_seq (sj_asg (pu_book (K := K) (n1 := n2) N so Z (by omega) (pa_c (pu_var rfl) (pa_c (pu_var rfl) (pa_c (pu_var rfl) pa_n)))) ?_)
  refine sj_seq (sj_if (B := (· = false)) (qt_or (a := false) (b := false) (qt_test (pu_neSame Slb (pwn rfl) lbF (pu_var rfl) Ty.le.rfl')) (fun _ => qt_not (a := true) (qt_B (pu_call1 (ι := List Str × List Line) (ns, ls) (by exact ⟨⟨N, so⟩, Z⟩) (pa_c (pu_var rfl) (pa_c (pu_var rfl) (pa_c (pu_var rfl) pa_n))) (by exact ⟨sub_D, sub_D, sub_Bk, trivial⟩))))) (fun hb => by cases hb) (fun _ => sj_next ?_))
  refine sj_ret (pu_andV (a := true) (b := true) (pu_eqSame Sb (pu_call1 (ι := List Str × List Line × List (List Str)) (ns, sortL ls, rs) Sc1 (pa_c (pu_var rfl) (pa_c (pu_var rfl) pa_n)) (by exact ⟨sub_Bk, sub_Pn, trivial⟩)) le_FD (pu_var rfl) Ty.le.rfl') (fun _ => pu_andV (a := true) (b := true) (pu_eqSame sLs (pu_meth (ι := List Str × List Line) (ns, sortL ls) (by
      show (sortL ls).length ≤ 1000
      omega) (pu_var rfl) (bk_ins (by decide) (by decide)) (by exact ⟨sub_Bk, trivial⟩)) le_FD (srt (pu_var rfl)) Ty.le.rfl')
    (fun _ => pu_eqSame ((sd_R N R (by omega)).sm' (by decide)) (pu_meth (ι := List Str × List (List Str)) (ns, rs) (by
      show rs.length ≤ 1000
      omega) (pu_var rfl) (pn_ins (by decide) (by decide) (by decide)) (by exact ⟨sub_Pn, trivial⟩)) le_FD (pu_var rfl) Ty.le.rfl'))) Ty.le.rfl' ?_
  show n2 + 30 ≤ n + 5000
  omega
end
end Cp
set_option Elab.async false
set_option linter.all false
set_option maxRecDepth 100000
set_option maxHeartbeats 4000000
/-! P15: purses, the law. -/
namespace Cp
open PySem L2 PySem.Spec PyProof.Rows
/-- the script -/
def ScT (K : PySem.W.Frag) (zs : List Int) : Ty := ⟨fun _ v G => ∃ a, v = .ref a ∧ SqL K G a (zs.map V.int), fun _ e ⟨a, h1, h2⟩ => ⟨a, h1, h2.ext e⟩⟩
def PurT : Ty := Ex fun i : Int × Int × Int => Wh ((0 ≤ i.1 ∧ i.1.natAbs < 2 ^ 1600) ∧ (0 ≤ i.2.1 ∧ i.2.1 < 2147483629) ∧ 0 ≤ i.2.2 ∧ i.2.2 ≤ 63) (Ln [D (.int i.1), D (.int i.2.1), D (.int 0), D (.int i.2.2)])
theorem cut_map (zs : List Int) (lo hi : Option Int) : ∃ ks : List Int, cutV (zs.map V.int) lo hi = ks.map V.int := by
  unfold cutV
  rw [← List.map_drop, ← List.map_take]
  exact ⟨_, rfl⟩
theorem ints_dq {P : Addr → Prop} {G : Hp} : ∀ ks : List Int, DqAll P G (ks.map V.int) (ks.map PyData.int)
  | [] => .nil
  | k :: ks => .cons (.int k) (ints_dq ks)
theorem ints_vals {P : Addr → Prop} {G : Hp} : ∀ {ks : List Int} {vs : List V}, DqAll P G vs (ks.map .int) → vs = ks.map V.int
  | [], [], _ => rfl
  | k :: ks, v :: vs, h => by
    cases h with
    | cons h t => rw [dq_int h, ints_vals t, List.map_cons]
  | [], _ :: _, h => by cases h
  | _ :: _, [], h => by cases h
section
variable {K : PySem.W.Frag} {pu : Option Addr} {n n1 n2 n3 : Nat} {env : Env'} {te : TE} {tl th : TO} {zs : List Int}
theorem pu_cut (h : Pu pu n n1 env te (ScT K zs)) {A B : Option Int → Prop} (hl : PuO pu n1 n2 env tl A) (hh : PuO pu n2 n3 env th B) : Pu pu n n3 env (tSl (rSlL K) te tl th) (Ex fun ks : List Int => D (.list (ks.map .int))) := fun G0 H0 σ G H a e Q q =>
  h G0 H0 σ G H a e _ fun x G1 S1 b1 r1 => hl G0 H0 σ G1 S1 (a.trans b1) (e.keep b1) _ fun o G2 S2 b2 ho => hh G0 H0 σ G2 S2 ((a.trans b1).trans b2) ((e.keep b1).keep b2) _ fun o2 G3 S3 b3 ho2 => by
    obtain ⟨l, rfl, hv⟩ := r1
    refine ⟨l, _, rfl, hv.ext ((b2.g.trans b3.g).trans b3.s), fun p hp => ?_⟩
    have gn := b3.new (o := .lst (cutV (zs.map V.int) o o2)) hp
    obtain ⟨ks, hk⟩ := cut_map zs o o2
    exact q _ _ _ (((b1.trans b2).trans b3).trans gn) ⟨ks, .lst trivial upd_same (by rw [hk]; exact ints_dq ks)⟩
theorem rc_sum : RC (rSum K) [Ex fun ks : List Int => D (.list (ks.map .int))] (IntW fun _ => True) := fun pu n G0 G H vs g s h Q q => by
  obtain ⟨v, rfl, ks, h1⟩ := tys1 h
  obtain ⟨a, xs, rfl, _, ha, da⟩ := dq_list h1
  rw [ints_vals da] at ha
  exact ⟨a, ks, rfl, .inl (.inl (g.s _ _ ha)), q _ G H g ⟨ks.sum, trivial, .int _⟩⟩
theorem rc_lenSc : RC (rLenA K) [ScT K zs] (D (.int zs.length)) := fun pu n G0 G H vs g _ h Q q => by
  obtain ⟨v, rfl, a, rfl, ha⟩ := tys1 h
  refine .inl ⟨a, _, rfl, .inl (ha.ext g.s), ?_⟩
  rw [List.length_map]
  exact q _ G H g (.int _)
theorem rc_min2 {i j : Int} : RC (fun xs H Q => ∃ i j, xs = [.int i, .int j] ∧ Q (.int (if j < i then j else i)) H) [D (.int i), D (.int j)] (D (.int (if j < i then j else i))) := fun pu n G0 G H vs g s ty Q q => by
  obtain ⟨v, w, rfl, h1, h2⟩ := tys2 ty
  exact ⟨i, j, by rw [dq_int h1, dq_int h2], q _ G H g (.int _)⟩
theorem sub_Sc : (ScT K zs).sub (ScT K zs) := fun _ _ _ h => h
end
theorem pow_ok1 : CPowA 10 18 := ⟨by decide, by decide +kernel⟩
theorem pow_ok2 : CPowA 10 60 := ⟨by decide, by decide +kernel⟩
def bigM : Int := (10 ^ (60 : Int).toNat) ^ (8 : Int).toNat
theorem pow_ok3 : CPowA (10 ^ (60 : Int).toNat) 8 := ⟨by decide, by decide +kernel⟩
theorem big_pos : 0 < bigM := by decide +kernel
theorem big_lt : bigM.natAbs < 2 ^ 1600 := by decide +kernel
theorem big_mod (v : Int) : 0 ≤ v % bigM ∧ (v % bigM).natAbs < 2 ^ 1600 := by
  have h1 := Int.emod_nonneg v (Int.ne_of_gt big_pos)
  have h2 := Int.emod_lt_of_pos v big_pos
  refine ⟨h1, Nat.lt_trans ?_ big_lt⟩
  generalize bigM = M at h1 h2
  omega
section
variable {P : Program} {w : World} {K : PySem.W.Frag} {mg : Str → Option Value} {base : Heap}
abbrev N_l_purse : List Str := ["_law_script", "_law_at", "_law_seed"]
theorem sc_l_purse : FnScope N_l_purse ["_law_script", "_law_at"] (defScope s_l_purse) := ⟨rfl, rfl, rfl, by decide +kernel, rfl, by decide +kernel, by decide +kernel⟩
def spPurse (K : PySem.W.Frag) : Sp := Prp (ι := List Int × Nat) (fun i => i.2 ≤ 3) (fun i => [ScT K i.1, D (.int (i.2 : Nat))]) (fun _ => PurT)
theorem ok_l_purse (T : Tx K mg) : Dn P w K mg base 1 "_law_purse" ["_law_script", "_law_at"] (spPurse K) := by
  refine dn_mk T.fd_l_purse T.g_l_purse sc_l_purse (prm_len fun _ => rfl) (fun _ _ _ _ _ _ us hl => match us, hl with | [_, _], _ => rfl) fun cdv A outer s H vs Q E hr hu64 hu65 h => ?_
  have nd := sc_l_purse.nd
  refine ⟨_, (pss_cons (ps_set (i := 2) nd rfl (Or.inl rfl) (pe_callB (k_sum K rfl) (by rfl) T.sum_ (by decide +kernel) (pa_cons (pe_slice (k_sl K) (pv 0) (po_some (pv 1)) (po_some (pe_op op_plus (pv 1) pe_int))) pa_nil)))
    (pss_one (ps_ret (pe_lst (pa_cons (pe_op op_rest (pe_callB (call_max2 rfl) (by rfl) T.max_ (by decide +kernel) (pa_cons (pe_op op_minus (pv 2) (pe_op op_powA pe_int pe_int)) (pa_cons pe_int pa_nil))) (pe_op op_powA (pe_op op_powA pe_int pe_int) pe_int)) (pa_cons (pe_op op_rest (pv 2) pe_int) (pa_cons pe_int (pa_cons (pv 1) pa_nil)))))))), fn_prm (E := E) h fun i hi => ?_⟩
  obtain ⟨zs, t⟩ := i
  have ht : t ≤ 3 := hi
  show Sj none 0 [some (.im (ScT K zs)), some (.im (D (.int (t : Nat)))), none] _ _
  refine sj_seq (sj_asgXW (f := fun v => D (.int v)) (B := fun _ => True) (pu_cb (pa_c (pu_cut (pu_var rfl) (po_s (pu_var rfl)) (po_s (pu_op (pu_var rfl) pu_int rv_addI))) pa_n) rc_sum) fun v _ => ?_)
  refine sj_ret ((pu_lst (pa_c (pu_op (pu_cb (pa_c (pu_op (pu_var rfl) (pu_op pu_int pu_int (rv_pow pow_ok1)) rv_subI) (pa_c pu_int pa_n)) rc_max2) (pu_op (pu_op pu_int pu_int (rv_pow pow_ok2)) pu_int (rv_pow pow_ok3)) (rv_rest big_pos)) (pa_c (pu_op (pu_var rfl) pu_int (rv_rest (by decide))) (pa_c pu_int (pa_c (pu_var rfl) pa_n)))) (by simp)).le (le_ex (f := fun i : Int × Int × Int => Wh ((0 ≤ i.1 ∧ i.1.natAbs < 2 ^ 1600) ∧ (0 ≤ i.2.1 ∧ i.2.1 < 2147483629) ∧ 0 ≤ i.2.2 ∧ i.2.2 ≤ 63) (Ln [D (.int i.1), D (.int i.2.1), D (.int 0), D (.int i.2.2)])) (_, _, _) (le_wh ⟨big_mod _, ⟨Int.emod_nonneg _ (by decide), Int.emod_lt_of_pos _ (by decide)⟩, (by
    show (0 : Int) ≤ ((t : Nat) : Int)
    omega), (by
    show ((t : Nat) : Int) ≤ 63
    omega)⟩ Ty.le.rfl'))) Ty.le.rfl'
abbrev N_l_purses : List Str := ["_law_script", "_law_few", "_law_at"]
theorem sc_l_purses : FnScope N_l_purses ["_law_script", "_law_few"] (defScope s_l_purses) := ⟨rfl, rfl, rfl, by decide +kernel, rfl, by decide +kernel, by decide +kernel⟩
def PursesT : Ty := Ex fun k : Nat => Wh (1 ≤ k ∧ k ≤ 3) (Ln ((List.range k).map fun _ => PurT))
def spPurses (K : PySem.W.Frag) : Sp := Prp (ι := List Int) (fun _ => True) (fun i => [ScT K i, D (.int 3)]) (fun _ => PursesT)
theorem few_of (m : Nat) : ∃ k : Nat, 1 ≤ k ∧ k ≤ 3 ∧ (if (if ((m : Nat) : Int) < 3 then ((m : Nat) : Int) else 3) > 1 then (if ((m : Nat) : Int) < 3 then ((m : Nat) : Int) else 3) else 1) = ((k : Nat) : Int) := by
  by_cases h : m < 3
  · rw [if_pos (show ((m : Nat) : Int) < 3 by omega)]
    by_cases h2 : 1 < m
    · exact ⟨m, by omega, by omega, by rw [if_pos (by omega)]⟩
    · exact ⟨1, by omega, by omega, by rw [if_neg (by omega)]; rfl⟩
  · rw [if_neg (show ¬ ((m : Nat) : Int) < 3 by omega)]
    exact ⟨3, by omega, by omega, rfl⟩
theorem ok_l_purses (T : Tx K mg) : Dn P w K mg base 2 "_law_purses" ["_law_script", "_law_few"] (spPurses K) := by
  have D_l_purse := ok_l_purse (P := P) (w := w) (base := base) T
  refine dn_mk T.fd_l_purses T.g_l_purses sc_l_purses (prm_len fun _ => rfl) (fun _ _ _ _ _ _ us hl => match us, hl with | [_, _], _ => rfl) fun cdv A outer s H vs Q E hr hu64 hu65 h => ?_
  have nd := sc_l_purses.nd
  refine ⟨_, (pss_one (ps_ret (pe_lc (own := [("_law_at", 2)]) rfl nd (pi_range1 rfl T.range_ (pa_cons (pe_callB (call_max2 rfl) (by rfl) T.max_ (by decide +kernel) (pa_cons pe_int (pa_cons (pe_callB (call_min2 rfl) (by rfl) T.min_ (by decide +kernel) (pa_cons (pv 1) (pa_cons (pe_callB (k_len K) (by rfl) T.len_ (by decide +kernel) (pa_cons (pv 0) pa_nil)) pa_nil))) pa_nil))) pa_nil)) (blkOk_by (own := [("_law_at", 2)]) (N := N_l_purses) (sc := defScope s_l_purses) (by decide +kernel)) (fun _ _ _ _ _ => (pg_name (i := 2) nd rfl (Or.inl rfl))) (fun _ _ _ _ _ => pts_nil) (fun _ _ _ _ _ => (pe_callD D_l_purse (hr.mono (by decide)) rfl (pa_cons (pv 0) (pa_cons (pv 2) pa_nil))))))), fn_prm (E := E) h fun i hi => ?_⟩
  show Sj none 0 [some (.im (ScT K i)), some (.im (D (.int 3))), none] _ _
  obtain ⟨k, k1, k3, hk⟩ := few_of i.length
  refine sj_ret ((pu_lc (pi_R1 (k := k) (pa_c ((pu_cb (pa_c pu_int (pa_c (pu_cb (pa_c (pu_var rfl) (pa_c (pu_cb (pa_c (pu_var rfl) pa_n) rc_lenSc) pa_n)) rc_min2) pa_n)) rc_max2).le (le_D (by rw [hk]))) pa_n) (by omega)) [2] (by simp) (by omega) (fun _ => true) (fun _ => PurT)
    (fun j hj => ⟨_, tg_name, qt_yes, fun _ => pu_call1 (ι := List Int × Nat) (i, j) (by show j ≤ 3; omega) (pa_c (pu_var rfl) (pa_c (pu_var rfl) pa_n)) (by exact ⟨sub_Sc, sub_D, trivial⟩)⟩)).le (le_ex (f := fun k : Nat => Wh (1 ≤ k ∧ k ≤ 3) (Ln ((List.range k).map fun _ => PurT))) k (le_wh ⟨k1, k3⟩ (by
      rw [List.filter_eq_self.mpr fun _ _ => rfl]
      exact Ty.le.rfl')))) Ty.le.rfl'
end
end Cp
set_option Elab.async false
set_option linter.all false
set_option maxRecDepth 100000
set_option maxHeartbeats 2000000
/-! MB: the law's own small book. -/
namespace Cp
open PySem L2 PySem.Spec PyProof.Rows
def n3 : List Str := ["ann", "bob", "cy"]
def la : Line := ("call", ["ann", "bob"], "bob")
def lb : Line := ("call", ["bob", "cy"], "cy")
def lc : Line := ("off", ["ann"], "bob")
def ls3 : List Line := [la, lb, lc]
theorem asc_of {l : List Str} (h : decide (l.Pairwise fun a b => PySem.W.dataLe false PyData.str a b = true) = true) : sortS l = l := by
  have h2 : l.Pairwise fun a b => PySem.W.dataLe false PyData.str a b = true := of_decide_eq_true h
  exact sortS_of h2
theorem ns_of {l : List Str} (h : (l.all nameOk && (decide l.Nodup && (!l.isEmpty && decide (l.length ≤ 4)))) = true) : Ns l := by
  simp only [Bool.and_eq_true, List.all_eq_true, decide_eq_true_eq] at h
  exact ⟨h.1, h.2.1, fun e => by rw [e] at h; exact absurd h.2.2.1 (by decide), h.2.2.2⟩
theorem N3 : Ns n3 := ns_of (by decide +kernel)
theorem so3 : sortS n3 = n3 := asc_of (by decide +kernel)
def n1a : List Str := ["a"]
theorem N1 : Ns n1a := ns_of (by decide +kernel)
theorem so1 : sortS n1a = n1a := asc_of (by decide +kernel)
theorem f_ab : FldOk n3 ["ann", "bob"] := ⟨by decide +kernel, by decide +kernel, asc_of (by decide +kernel), by decide⟩
theorem f_bc : FldOk n3 ["bob", "cy"] := ⟨by decide +kernel, by decide +kernel, asc_of (by decide +kernel), by decide⟩
theorem f_a : FldOk n3 ["ann"] := ⟨by decide +kernel, by decide +kernel, asc_of (by decide +kernel), by decide⟩
theorem ok_la : LnOk n3 la := ⟨.inl rfl, (fld_iff N3).mpr f_ab, by decide +kernel, by decide +kernel⟩
theorem ok_lb : LnOk n3 lb := ⟨.inl rfl, (fld_iff N3).mpr f_bc, by decide +kernel, by decide +kernel⟩
theorem ok_lc : LnOk n3 lc := ⟨.inr rfl, (fld_iff N3).mpr f_a, by decide +kernel, by decide +kernel⟩
theorem ls3_ok : LsOk n3 ls3 := ⟨fun l hl => by
  unfold ls3 at hl
  simp only [List.mem_cons, List.not_mem_nil, or_false] at hl
  rcases hl with rfl | rfl | rfl
  · exact ok_la
  · exact ok_lb
  · exact ok_lc, by decide +kernel, by decide⟩
theorem sort3 : sortL ls3 = ls3 := sortL_of (by
  unfold leL
  decide +kernel)
theorem canon3 : canon [lc, lb, la] = ls3 := by
  rw [canon_of (ls := ls3) ls3_ok.nd fun l => ?_, sort3]
  unfold ls3
  simp only [List.mem_cons, List.not_mem_nil, or_false]
  constructor
  · rintro (h | h | h)
    · exact .inr (.inr h)
    · exact .inr (.inl h)
    · exact .inl h
  · rintro (h | h | h)
    · exact .inr (.inr h)
    · exact .inr (.inl h)
    · exact .inl h
theorem canon0 : canon [] = [] := by
  rw [canon_of (ls := []) List.nodup_nil fun _ => Iff.rfl]
  exact sortL_of List.Pairwise.nil
theorem bar3 : barD n3 ls3 = .tuple [eL la, eS ["ann", "bob"]] := by kernel_rfl
theorem bar1 : barD n1a [] = .none := by kernel_rfl
theorem isbar_a : isBarD n3 ls3 (.tuple [.none, eS ["ann", "bob"]]) = false := by
  have h := isBar_eq (lo := none) (v := ["ann", "bob"]) N3 so3 ls3_ok (by decide +kernel)
  rw [sort3] at h
  refine Eq.trans h ?_
  show stuckL n3 (offs ls3 []) ["ann", "bob"] = false
  decide +kernel
theorem isbar_b : isBarD n3 ls3 (.tuple [eL la, eS ["ann", "bob"]]) = true := by
  have h := isBar_eq (lo := some la) (v := ["ann", "bob"]) N3 so3 ls3_ok (by decide +kernel)
  rw [sort3] at h
  refine Eq.trans h ?_
  show (decide (la ∈ calls (sortL ls3)) && stuckL n3 (offs ls3 (wishOf la)) ["ann", "bob"]) = true
  rw [sort3]
  decide +kernel
end Cp
set_option Elab.async false
set_option linter.all false
set_option maxRecDepth 100000
set_option maxHeartbeats 4000000
/-! P16: the law. -/
namespace Cp
open PySem L2 PySem.Spec PyProof.Rows
theorem EnvOk.im {G0 H0 G H G' H' : Hp} {σ : L2.St} {env : Env'} {pu pv : Option Addr} (hn : noAc env = true) (e : EnvOk pu G0 H0 G H σ env) (s : Same G G') : EnvOk pv G0 H0 G' H' σ env := by
  have no : ∀ {i : Nat} {ds : List PyData}, env[i]? ≠ some (some (.ac ds)) := fun {i ds} h => by
    have := List.all_eq_true.mp hn _ (List.mem_of_getElem? h)
    cases this
  refine ⟨e.len, fun i sl hi => ?_, fun i j ds es h1 => absurd h1 no⟩
  cases sl with
  | im T =>
    obtain ⟨v, h1, h2⟩ := e.getIm hi
    exact ⟨_, h1, v, rfl, T.mono (Same.refl _) s h2⟩
  | ac ds => exact absurd hi no
theorem purses_of {G0 G : Hp} : ∀ {is : List Nat} {vs : List V}, Tys G0 G vs (is.map fun _ => PurT) → ∃ ps : List Addr, vs = ps.map V.ref ∧ ps.length = is.length ∧ ∀ p ∈ ps, G0 p = none ∧ ∃ a b d : Int, G p = some (.lst [.int a, .int b, .int 0, .int d]) ∧ (0 ≤ a ∧ a.natAbs < 2 ^ 1600) ∧ (0 ≤ b ∧ b < 2147483629) ∧ 0 ≤ d ∧ d ≤ 63
  | [], [], _ => ⟨[], rfl, rfl, fun p hp => by cases hp⟩
  | i :: is, v :: vs, ⟨⟨⟨a, b, d⟩, hb, l, ws, e1, e2, e3, e4⟩, t⟩ => by
    obtain ⟨ps, h1, h2, h3⟩ := purses_of t
    refine ⟨l :: ps, by rw [e1, h1]; rfl, by rw [List.length_cons, List.length_cons, h2], fun p hp => ?_⟩
    rcases List.mem_cons.mp hp with z | z
    · subst z
      refine ⟨e2, a, b, d, ?_, hb.1, hb.2.1, hb.2.2⟩
      match ws, e4 with
      | [x1, x2, x3, x4], ⟨y1, y2, y3, y4, _⟩ =>
        rw [e3, dq_int y1, dq_int y2, dq_int y3, dq_int y4]
    · exact h3 p z
  | [], _ :: _, h => h.elim
  | _ :: _, [], h => h.elim
/-- what is known, but for the purses -/
def rmv (G : Hp) (ps : List Addr) : Hp := fun a => if a ∈ ps then none else G a
theorem rmv_in {G : Hp} {ps : List Addr} {a : Addr} (h : a ∈ ps) : rmv G ps a = none := by
  unfold rmv
  rw [if_pos h]
theorem rmv_out {G : Hp} {ps : List Addr} {a : Addr} (h : a ∉ ps) : rmv G ps a = G a := by
  unfold rmv
  rw [if_neg h]
theorem rmv_some {G : Hp} {ps : List Addr} {a : Addr} {o : HO} (h : rmv G ps a = some o) : G a = some o := by
  by_cases z : a ∈ ps
  · rw [rmv_in z] at h
    cases h
  · rwa [rmv_out z] at h
def spLaw (K : PySem.W.Frag) : Sp := fun vs H Q _ => ∃ (a : Addr) (zs : List Int), vs = [.ref a] ∧ SqL K H a (zs.map V.int) ∧ ∀ H', Q (.bl true) H'
theorem law_len {K : PySem.W.Frag} : ∀ vs H Q E, spLaw K vs H Q E → vs.length = 1 := fun vs H Q E ⟨a, zs, e, _⟩ => by rw [e]; rfl
theorem fn_mk {P : Program} {w : World} {K : PySem.W.Frag} {mg : Str → Option Value} {base : Heap} {k : Nat} {x q : Str} {ps N : List Str} {sp : Sp} {params : Arguments} {body : List Stmt} {scope : Scope} {f : Addr} {fd : FuncData} (F : FunD K x q params body scope [] [] f fd) (S : FnScope N ps scope) (len : ∀ vs H Q E, sp vs H Q E → vs.length = ps.length)
    (b : BodyOk P w K mg base N q body scope f k sp) : FnOk P w K mg base CX0 (k + 1) f fd ps sp := F.ok S len fun cdv A outer s H vs Q E hr h => by
  obtain ⟨t, h1, h2⟩ := b cdv A outer s H vs Q E hr hr.units (by have := hr.un; omega) h
  exact ⟨t, h1.nox, h2⟩
theorem run_sj {env : Env'} {t : TS} {G0 H0 G H : Hp} {σ : L2.St} {E : Ends} (a : Gr none 0 G0 H0 G H) (e : EnvOk none G0 H0 G H σ env) (hr : ∀ v G' H', (D (.bool true)).p G0 v G' → E.rt v H') (h : Sj none 0 env t { nx := fun _ _ => False, m := 0, rt := D (.bool true) }) : t E σ H :=
  h G0 H0 σ G H a e E (fun _ _ _ _ _ z => z.elim) (fun _ _ _ _ _ z => z.elim) (fun _ _ _ _ _ z => z.elim) fun v G' H' _ r => hr v G' H' r
theorem bo3 : Bo n3 ls3 := ⟨N3, ls3_ok.L, by decide⟩
theorem bo1 : Bo n1a [] := ⟨N1, (fun l hl => by cases hl), by decide⟩
theorem sc1 : Sc n1a [] [n1a] := ⟨N1, (fun l hl => by cases hl), (fun r hr => by
  have : r = n1a := by simpa using hr
  rw [this]
  exact List.Perm.refl _), by decide, by decide⟩
theorem bk3 {K : PySem.W.Frag} : (BkT K (sortS n3) (canon [lc, lb, la])).le (BkT K n3 ls3) := by
  rw [so3, canon3]
  exact Ty.le.rfl'
theorem bk1 {K : PySem.W.Frag} : (BkT K (sortS n1a) (canon [])).le (BkT K n1a []) := by
  rw [so1, canon0]
  exact Ty.le.rfl'
theorem some3 {K : PySem.W.Frag} : (SomeT K n3 ls3).le (D .none) := by
  unfold SomeT
  rw [bar3, if_neg (by decide)]
  exact Ty.le.rfl'
section
variable {K : PySem.W.Frag} {pu : Option Addr} {n : Nat} {env : Env'}
theorem pu_la : Pu pu n n env (tTup (tCons (tC (.str "call")) (tCons (tLst (tCons (tC (.str "ann")) (tCons (tC (.str "bob")) tNil))) (tCons (tC (.str "bob")) tNil)))) (D (eL la)) := pu_T3 pu_str (pu_L2 pu_str pu_str) pu_str
theorem pu_lb : Pu pu n n env (tTup (tCons (tC (.str "call")) (tCons (tLst (tCons (tC (.str "bob")) (tCons (tC (.str "cy")) tNil))) (tCons (tC (.str "cy")) tNil)))) (D (eL lb)) := pu_T3 pu_str (pu_L2 pu_str pu_str) pu_str
theorem pu_lc3 : Pu pu n n env (tTup (tCons (tC (.str "off")) (tCons (tLst (tCons (tC (.str "ann")) tNil)) (tCons (tC (.str "bob")) tNil)))) (D (eL lc)) := pu_T3 pu_str (pu_L1 pu_str) pu_str
theorem pu_ab : Pu pu n n env (tLst (tCons (tC (.str "ann")) (tCons (tC (.str "bob")) tNil))) (D (eS ["ann", "bob"])) := pu_L2 pu_str pu_str
theorem pu_book1 : Pu pu n n env (tMake (CB K) (spBook K) [] E0 (tCons (tLst (tCons (tC (.str "a")) tNil)) (tCons (tLst tNil) tNil))) (BkT K n1a []) :=
  (pu_make (ι := List Str × List Line) (P := fun i => Ns i.1 ∧ (∀ l ∈ i.2, LnOk i.1 l) ∧ i.2.length ≤ 100) (As := fun i => [D (eS i.1), D (eLs i.2)]) (Rt := fun i => BkT K (sortS i.1) (canon i.2)) (n1a, []) ⟨N1, (fun l hl => by cases hl), by decide⟩ (pa_c (pu_L1 pu_str) (pa_c pu_L0 pa_n)) ⟨sub_D, sub_D, trivial⟩).le bk1
end
theorem sm_bar3 : Sm (.tuple [eL la, eS ["ann", "bob"]]) := (sd_tup (n := 2) (all2 (sd_L N3 ok_la) ((sd_S N3 f_ab.sub (by decide)).up (by decide))) (by simp)).sm' (by decide)
theorem sm_bar3n : Sm (.tuple [.none, eS ["ann", "bob"]]) := (sd_tup (n := 2) (all2 sd_none ((sd_S N3 f_ab.sub (by decide)).up (by decide))) (by simp)).sm' (by decide)
section
variable {P : Program} {w : World} {K : PySem.W.Frag} {mg : Str → Option Value} {base : Heap}
abbrev N_law : List Str := ["_law_script", "_law_purse_here", "_law_names_here", "_law_early"]
theorem sc_law : FnScope N_law ["_law_script"] (defScope s_law) := ⟨rfl, rfl, rfl, by decide +kernel, rfl, by decide +kernel, by decide +kernel⟩
theorem ok_law (T : Tx K mg) (NP : NeC K (CP K)) {fd : FuncData} (F : FunD K "law" "law" (defArgs s_law) (defBody s_law) (defScope s_law) [] [] (He.ga K "law") fd) : FnOk P w K mg base CX0 11 (He.ga K "law") fd ["_law_script"] (spLaw K) := by
  have D_book_init := ok_book_init (P := P) (w := w) (base := base) T
  have D_is_bar := ok_is_bar (P := P) (w := w) (base := base) T
  have D_keeps := ok_keeps (P := P) (w := w) (base := base) T
  have D_l_purses := ok_l_purses (P := P) (w := w) (base := base) T
  have D_l_right := ok_l_right (P := P) (w := w) (base := base) T NP
  have D_panel_init := ok_panel_init (P := P) (w := w) (base := base) T
  have D_some_panel := ok_some_panel (P := P) (w := w) (base := base) T
  have D_why_none := ok_why_none (P := P) (w := w) (base := base) T
  refine fn_mk F sc_law law_len fun cdv A outer s H vs Q E hr hu64 hu65 h => ?_
  have nd := sc_law.nd
  refine ⟨_, (pss_cons (ps_for PassesOwn.never rfl (k_over K (pe_callD D_l_purses (hr.mono (by decide)) rfl (pa_cons (pv 0) (pa_cons pe_int pa_nil)))) (pg_name (i := 1) nd rfl (Or.inl rfl))
     (pss_one (ps_if (pt_not (pt_val (pe_callD D_l_right (hr.mono (by decide)) rfl (pa_cons (pv 1) pa_nil)))) (pss_one (ps_ret pe_bl)) pss_nil)))
    (pss_cons (ps_set (i := 2) nd rfl (Or.inl rfl) (pe_lst (pa_cons pe_str (pa_cons pe_str (pa_cons pe_str pa_nil)))))
    (pss_cons (ps_set (i := 3) nd rfl (Or.inl rfl) (pe_makeD D_book_init (hr.mono (by decide)) rfl (pa_cons (pv 2) (pa_cons (pe_lst (pa_cons (pe_tup (pa_cons pe_str (pa_cons (pe_lst (pa_cons pe_str pa_nil)) (pa_cons pe_str pa_nil)))) (pa_cons (pe_tup (pa_cons pe_str (pa_cons (pe_lst (pa_cons pe_str (pa_cons pe_str pa_nil))) (pa_cons pe_str pa_nil)))) (pa_cons (pe_tup (pa_cons pe_str (pa_cons (pe_lst (pa_cons pe_str (pa_cons pe_str pa_nil))) (pa_cons pe_str pa_nil)))) pa_nil)))) pa_nil))))
    (pss_cons (ps_if (PW.pt (pw_or (pt_cmpR (k_ne K hu64) (pe_callD D_why_none (hr.mono (by decide)) rfl (pa_cons (pv 3) pa_nil)) (pe_tup (pa_cons (pe_tup (pa_cons pe_str (pa_cons (pe_lst (pa_cons pe_str (pa_cons pe_str pa_nil))) (pa_cons pe_str pa_nil)))) (pa_cons (pe_lst (pa_cons pe_str (pa_cons pe_str pa_nil))) pa_nil))) (nomark _)) (pw_or1 (pt_cmpR op_notN (pe_callD D_some_panel (hr.mono (by decide)) rfl (pa_cons (pv 3) pa_nil)) pe_non (nomark _))))) (pss_one (ps_ret pe_bl)) pss_nil)
    (pss_cons (ps_if (PW.pt (pw_or (pt_val (pe_callD D_is_bar (hr.mono (by decide)) rfl (pa_cons (pv 3) (pa_cons (pe_tup (pa_cons pe_non (pa_cons (pe_lst (pa_cons pe_str (pa_cons pe_str pa_nil))) pa_nil))) pa_nil)))) (pw_or1 (pt_not (pt_val (pe_callD D_is_bar (hr.mono (by decide)) rfl (pa_cons (pv 3) (pa_cons (pe_tup (pa_cons (pe_tup (pa_cons pe_str (pa_cons (pe_lst (pa_cons pe_str (pa_cons pe_str pa_nil))) (pa_cons pe_str pa_nil)))) (pa_cons (pe_lst (pa_cons pe_str (pa_cons pe_str pa_nil))) pa_nil))) pa_nil)))))))) (pss_one (ps_ret pe_bl)) pss_nil)
    (pss_one (ps_ret (pe_and (pe_callD D_keeps (hr.mono (by decide)) rfl (pa_cons (pe_makeD D_book_init (hr.mono (by decide)) rfl (pa_cons (pe_lst (pa_cons pe_str pa_nil)) (pa_cons (pe_lst pa_nil) pa_nil))) (pa_cons (pe_makeD D_panel_init (hr.mono (by decide)) rfl (pa_cons (pe_lst (pa_cons pe_str pa_nil)) (pa_cons (pe_lst (pa_cons (pe_lst (pa_cons pe_str pa_nil)) pa_nil)) pa_nil))) pa_nil))) (pe_one (pe_cmpR op_notN (pe_callD D_some_panel (hr.mono (by decide)) rfl (pa_cons (pe_makeD D_book_init (hr.mono (by decide)) rfl (pa_cons (pe_lst (pa_cons pe_str pa_nil)) (pa_cons (pe_lst pa_nil) pa_nil))) pa_nil)) pe_non (nomark _))))))))))), ?_⟩
  obtain ⟨a, zs, rfl, hS, hQ⟩ := h
  have g0 : Gr none 0 H H H H := ⟨Same.refl _, Same.refl _, fun _ _ _ e => e, fun _ _ e => .inl e, fun _ e => by cases e⟩
  have e0 : EnvOk none H H H H (L2.start N_law [.ref a]) [some (.im (ScT K zs)), none, none, none] := env0_ok (As := [ScT K zs]) ⟨⟨a, rfl, hS⟩, trivial⟩
  refine (pu_call1 (ι := List Int) (pu := none) (n := 0) zs trivial (pa_c (pu_var (i := 0) rfl) (pa_c (pu_int (i := 3)) pa_n)) (by exact ⟨sub_Sc, sub_D, trivial⟩) : Pu none 0 0 [some (.im (ScT K zs)), none, none, none] (tCall (spPurses K) [] E0 (tCons (tVar 0) (tCons (tC (.int 3)) tNil))) PursesT) H H (L2.start N_law [.ref a]) H H g0 e0 _ fun v G1 S1 g1 r1 => ?_
  obtain ⟨k, ⟨k1, k3⟩, l, vs, rfl, hl0, hl1, ty⟩ := r1
  obtain ⟨ps, rfl, hpl, hps⟩ := purses_of ty
  rw [List.length_range] at hpl
  have hlp : l ∉ ps := fun z => by
    obtain ⟨_, x, y, d, e, _⟩ := hps l z
    rw [hl1] at e
    have e2 := HO.lst.inj (Option.some.inj e)
    cases ps with
    | nil => cases z
    | cons p r => cases e2
  have gr : Gr none 0 H H (rmv G1 ps) S1 := by
    refine ⟨fun b o e => ?_, fun b o e => g1.s b o (rmv_some e), g1.h, fun b o e => g1.nw b o (rmv_some e), fun _ e => by cases e⟩
    have : b ∉ ps := fun z => by
      rw [(hps b z).1] at e
      cases e
    rw [rmv_out this]
    exact g1.g b o e
  refine ⟨l, rfl, ⟨ps.map V.ref, .inl (.inl (g1.s _ _ hl1))⟩, ?_⟩
  refine ⟨fun i mm σ' H' => mm = k - i ∧ i ≤ k ∧ ∃ (G' : Hp) (b : Option Sl), Gr none 0 H H G' H' ∧ EnvOk none H H G' H' σ' [some (.im (ScT K zs)), b, none, none] ∧ noAc [b] = true ∧ G' l = some (.lst (ps.map V.ref)) ∧ ∀ p ∈ ps, G' p = none ∧ PurseAt H' p (5000 * i), ⟨k, by simp, Nat.zero_le _, rmv G1 ps, none, gr, e0.keep gr, rfl, by rw [rmv_out hlp]; exact hl1, fun p hp => ⟨rmv_in hp, ?_⟩⟩, ?_⟩
  · obtain ⟨_, x, y, d, e, b1, b2, b3⟩ := hps p hp
    exact ⟨x, y, 0, d, g1.s _ _ e, b1, b2, ⟨by decide, by omega⟩, b3⟩
  rintro i mm σ' H' ⟨rfl, hi, G', b, ga, ea, hb, hl, hp⟩
  have hS' : SqL K H' l (ps.map V.ref) := .inl (.inl (ga.s _ _ hl))
  by_cases hlt : i < k
  · have hip : i < ps.length := by omega
    have hg : (ps.map V.ref)[i]? = some (.ref ps[i]) := by rw [List.getElem?_map, List.getElem?_eq_getElem hip]; rfl
    have hm : ps[i] ∈ ps := List.getElem_mem hip
    refine .inr ⟨⟨_, _, hS', hg⟩, fun σ2 H2 => ∃ (G' : Hp) (b : Option Sl), Gr none 0 H H G' H2 ∧ EnvOk none H H G' H2 σ2 [some (.im (ScT K zs)), b, none, none] ∧ noAc [b] = true ∧ G' l = some (.lst (ps.map V.ref)) ∧ ∀ p ∈ ps, G' p = none ∧ PurseAt H2 p (5000 * (i + 1)), fun σ2 H2 q2 => ⟨k - (i + 1), by omega, rfl, hlt, q2⟩, fun x H'' y => ?_⟩
    obtain ⟨y1, y2⟩ := y
    have y1 := y1.symm
    subst y1
    have hx := y2 _ hS'
    rw [hg] at hx
    have hx2 : V.ref ps[i] = x := Option.some.inj hx
    subst hx2
    have e1 := ea.setIm 1 (v := .ref ps[i]) (T := Vv (.ref ps[i])) rfl
    have hv : (σ'.set 1 (some (V.ref ps[i])))[1]? = some (some (.ref ps[i])) := by
      obtain ⟨w1, h1, h2⟩ := e1.getIm (i := 1) rfl
      cases (show w1 = _ from h2)
      exact h1
    have gp : Gr (some ps[i]) (5000 * i) G' H' G' H' := ⟨Same.refl _, ga.s, fun _ _ _ e => e, fun _ _ e => .inl e, fun q e => by
      cases e
      exact hp _ hm⟩
    refine ⟨.ref ps[i], hv, ⟨(ps[i], 5000 * i), (by
      show 5000 * i ≤ 1000000
      omega), G', gp, ⟨rfl, trivial⟩, fun v G2 S2 g2 r2 => ⟨true, dq_bool r2, ?_⟩⟩⟩
    have hH : ∀ p ∈ ps, H p = none := fun p hp => (hps p hp).1
    show ∃ (G' : Hp) (b : Option Sl), Gr none 0 H H G' S2 ∧ EnvOk none H H G' S2 _ [some (.im (ScT K zs)), b, none, none] ∧ noAc [b] = true ∧ G' l = some (.lst (ps.map V.ref)) ∧ ∀ p ∈ ps, G' p = none ∧ PurseAt S2 p (5000 * (i + 1))
    refine ⟨G2, some (.im (Vv (.ref ps[i]))), ⟨ga.g.trans g2.g, g2.s, fun c o _ e => ?_, fun c o e => ?_, fun _ e => by cases e⟩, EnvOk.im rfl e1 g2.g, rfl, g2.g _ _ hl, fun p hpm => ?_⟩
    · refine g2.h c o (fun z => ?_) (ga.h c o (by simp) e)
      have z2 := Option.some.inj z
      rw [← z2, hH _ hm] at e
      cases e
    · rcases g2.nw c o e with z | z
      · exact ga.nw c o z
      · cases q : H c with
        | none => exact .inr rfl
        | some u =>
          rw [ga.h c u (by simp) q] at z
          cases z
    · have hG : G2 p = none := by
        cases q : G2 p with
        | none => rfl
        | some u =>
          rcases g2.nw p u q with z | z
          · rw [(hp p hpm).1] at z
            cases z
          · exact absurd z (hp p hpm).2.some
      refine ⟨hG, ?_⟩
      by_cases hpe : p = ps[i]
      · rw [hpe]
        exact (g2.w _ rfl).2.up (by
          show 5000 * i + 5000 ≤ 5000 * (i + 1)
          omega) fun _ z => z
      · exact (hp p hpm).2.up (by omega) fun o z => g2.h p o (fun y => hpe (Option.some.inj y).symm) z
  · have ei : i = k := by omega
    refine .inl ⟨⟨_, hS', by rw [List.length_map]; omega⟩, ?_⟩
    have bob : Bo n3 ls3 := bo3
    have nice1 : Nice (.tuple [.none, eS ["ann", "bob"]]) := .inl sm_bar3n
    have nice2 : Nice (.tuple [eL la, eS ["ann", "bob"]]) := .inl sm_bar3
    dsimp only
    refine run_sj ga ea (fun v G2 H2 r => by
      show Q v H2
      rw [dq_bool r]
      exact hQ H2) ?_
    refine sj_seq (sj_asg ((pu_lst (pa_c pu_str (pa_c pu_str (pa_c pu_str pa_n))) (by simp)).le (ln_D (ds := n3.map .str))) ?_)
    refine sj_seq (sj_asg ((pu_make (ι := List Str × List Line) (n3, [lc, lb, la]) (by exact ⟨N3, (fun l hl => ls3_ok.L l (canon_mem.mp (by
      have h2 : canon ls3 = ls3 := (canon_of ls3_ok.nd fun _ => Iff.rfl).trans sort3
      rw [h2, ← canon3]
      exact canon_mem.mpr hl))), by decide⟩) (pa_c (pu_var (i := 2) rfl) (pa_c ((pu_lst (pa_c pu_lc3 (pa_c pu_lb (pa_c pu_la pa_n))) (by simp)).le (ln_D (ds := [eL lc, eL lb, eL la]))) pa_n)) (by exact ⟨sub_D, sub_D, trivial⟩)).le bk3) ?_)
    refine sj_seq (sj_if (B := (· = false)) (qt_or (a := false) (b := false) (qt_test (pu_neSame sm_bar3 (pu_call1 (ι := List Str × List Line) (n3, ls3) bob (pa_c (pu_var (i := 3) rfl) pa_n) (by exact ⟨sub_Bk, trivial⟩)) (by
      show (Fd (barD n3 ls3)).le _
      rw [bar3]
      exact le_FD) (pu_T2 pu_la pu_ab) Ty.le.rfl')) (fun _ => qt_test (pu_op ((pu_call1 (ι := List Str × List Line) (n3, ls3) bob (pa_c (pu_var (i := 3) rfl) pa_n) (by exact ⟨sub_Bk, trivial⟩)).le some3) pu_non (rv_notN (d := .none))))) (fun hb => by cases hb) (fun _ => sj_next ?_))
    refine sj_seq (sj_if (B := (· = false)) (qt_or (a := false) (b := false) (qt_B ((pu_call1 (ι := List Str × List Line × PyData) (n3, ls3, .tuple [.none, eS ["ann", "bob"]]) (by exact ⟨bob, nice1⟩) (pa_c (pu_var (i := 3) rfl) (pa_c (pu_T2 pu_non pu_ab) pa_n)) (by exact ⟨sub_Bk, sub_D, trivial⟩)).le (le_bool isbar_a)))
      (fun _ => qt_not (a := true) (qt_B ((pu_call1 (ι := List Str × List Line × PyData) (n3, ls3, .tuple [eL la, eS ["ann", "bob"]]) (by exact ⟨bob, nice2⟩) (pa_c (pu_var (i := 3) rfl) (pa_c (pu_T2 pu_la pu_ab) pa_n)) (by exact ⟨sub_Bk, sub_D, trivial⟩)).le (le_bool isbar_b))))) (fun hb => by cases hb) (fun _ => sj_next ?_))
    refine sj_ret (pu_andV (a := true) (b := true) ((pu_call1 (ι := List Str × List Line × List (List Str)) (n1a, [], [n1a]) sc1 (pa_c pu_book1 (pa_c ((pu_make (ι := List Str × List (List Str)) (n1a, [n1a]) (by exact ⟨N1, sc1.R, by decide, by decide⟩) (pa_c (pu_L1 pu_str) (pa_c (pu_L1 (pu_L1 pu_str)) pa_n)) (by exact ⟨sub_D, sub_D, trivial⟩)).le (pn_so so1)) pa_n)) (by exact ⟨sub_Bk, sub_Pn, trivial⟩)).le (le_bool rfl))
      (fun _ => (pu_op (pu_call1 (ι := List Str × List Line) (n1a, []) bo1 (pa_c pu_book1 pa_n) (by exact ⟨sub_Bk, trivial⟩)) pu_non rv_someNot).le (le_bool (by rw [bar1]; rfl)))) Ty.le.rfl'
end
end Cp
set_option Elab.async false
set_option linter.all false
set_option maxRecDepth 100000
set_option maxHeartbeats 0
/-! P17: the whole. -/
namespace Cp
open PySem PySem.Spec PyProof.Rows L2
theorem insB_ok {K : PySem.W.Frag} {C : Addr} (c : Cls K C) (h : insB K C = true) : C8.InsC K C := by
  obtain ⟨h1, h2⟩ := He.ba h
  obtain ⟨h3, h4⟩ := He.ba h2
  obtain ⟨h5, h6⟩ := He.ba h4
  obtain ⟨h7, h8⟩ := He.ba h6
  exact ⟨c, He.eqO_ok h1, He.eqO_ok h3, of_decide_eq_true h5, of_decide_eq_true h7, of_decide_eq_true h8⟩
theorem facts {P : Program} {w : World} {K : PySem.W.Frag} {h : Heap} {mg : Str → Option Value} {f : Addr} (X : K.In h) (G : h.Ns mainGlobals mg) (hfa : mg ("law" : Str) = some (.ref f)) (c : He.SaysX fa fn [] [] exB w h K) :
    ∃ fd : FuncData, (∀ (s : Shared) (v : Value), BindsTo s fd ⟨[v], []⟩ [("_law_script", v)]) ∧ ∀ base : Heap, K.In base → base.Ns mainGlobals mg → FnOk P w K mg base CX0 11 f fd ["_law_script"] (spLaw K) := by
  have d := c.t.d
  obtain ⟨m1, m2⟩ := He.ba c.more
  obtain ⟨m3, m4⟩ := He.ba m2
  have kP : Cls K (CP K) := He.cls_ok (d.fact 79 (f := .cls "Panel") rfl)
  have kB : Cls K (CB K) := He.cls_ok (d.fact 80 (f := .cls "Book") rfl)
  have iP := insB_ok kP m1
  have iB := insB_ok kB m3
  have T : Tx K mg := ⟨d, fun x hx => He.glo_ok X G hx, fun x hx => He.free_ok X G hx, He.str_ok X G (d.fact 76 (f := .str "LETTERS" "abcdefghijklmnopqrstuvwxyz") rfl), iP, iB⟩
  have NP : NeC K (CP K) := ⟨iP.hm, He.eqO_ok m4⟩
  have e := hfa.symm.trans T.g_law
  cases e
  obtain ⟨fd, F⟩ := T.fd_law
  have b := FunD.bindsA (ps := ["_law_script"]) F fun _ _ _ _ _ _ us hl => match us, hl with | [_], _ => rfl
  exact ⟨fd, fun s v => b s [v] rfl, fun base _ _ => ok_law T NP F⟩
end Cp
open PySem PySem.W PySem.Calls PyProof.Rows
theorem PySem.Challenge.cw_cardpanel_k67_whole_panels_that_keep_and_holds : PySem.Challenge.rw_cardpanel_k67_whole_panels_that_keep_and.Holds := by
  w_on; o_law
  refine HandSHeadRun.head_any (r := Cp.R) (q := view Cp.R.prog [78]) (H := Cp.hk) (ob := Cp.ob) (M := 6000) (loose := Cp.loose) (d := HandSHeadRun.topDef Cp.R.prog 78) (kwd := []) Cp.ob_eq
    (by kernel_rfl) (fun s => by kernel_rfl) Cp.run (by kernel_rfl) (by kernel_rfl) (by kernel_rfl) (by rfl) (by first | assumption | decide +kernel) (by decide +kernel) ⟨rfl, rfl, rfl, rfl, rfl, by decide +kernel⟩ ?hw ?hc
  case hw => w_witness2
  case hc =>
    refine L2.walk_ofE (l := PySem.Challenge.rw_cardpanel_k67_whole_panels_that_keep_and) (n := 63) (k := 11) (x := "_law_script") (CX := L2.CX0) rfl (by decide) (by kernel_rfl) ⟨rfl, by decide, by decide⟩ ?F (fun _ _ _ _ z => z)
    intro w mg fa h Y G hmg0
    obtain ⟨K, KX, c⟩ := Y
    have hmg : mg ("law" : PySem.Str) = some (.ref fa) := by
      have e : (HandSHeadRun.topDef Cp.R.prog 78).name = ("law" : PySem.Str) := by kernel_rfl
      rw [← e]
      exact hmg0
    obtain ⟨fd, hb, hF⟩ := Cp.facts (P := (PySem.Challenge.rw_cardpanel_k67_whole_panels_that_keep_and).prog) (w := w) KX G hmg c
    exact ⟨K, fd, Cp.spLaw K, KX, hb, fun H a ns hl _ hS => ⟨a, ns, rfl, hS, fun _ => rfl⟩, hF⟩
