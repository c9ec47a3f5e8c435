import PyProof.Rows.All
import Wide.All
import OpenK.AllK
import Wide.FinOn
import KE.KStateDown
import Lean
import HandS.ForMost
import HandS.WordsExc
import HandS.Defaults
import HandS.Property
import HandS.IsInst
import HandS.Head0
import HandS.Head1
import HandS.Head2
import HandS.HeadEnd
import HandS.HeadHook1
import HandS.HeadHook2
import HandS.Star
import HandS.TupAny
import HandS.TupMul
import HandS.Walk
import HandS.StrMore
import HandS.Flow
import HandS.NoneIn
import HandS.RaiseMore
import HandS.OwnEq
import HandS.CallRecv
import HandS.Wide
import HandS.Style
import HandS.Replace
import HandS.DictComp
import KE.GoesMore
import KE.GoesEnumKw
import HandS.Iter
import KE.KDictZip
import KE.SortData
import HandS.Dict
import HandS.SetKeys
import PySem.Challenge.RW_tallyhouse_k82_whole_tickets_and_ranges
set_option Elab.async false
set_option linter.all false
set_option maxRecDepth 100000
set_option maxHeartbeats 0
namespace TH
open PySem PySem.Spec PyProof.Rows L2
def top (i : Nat) : Stmt := PySem.Challenge.pw_tallyhouse_k82_whole_tickets_and_ranges.main.body.getD i (.Pass ⟨0, 0, 0, 0⟩)
abbrev s_product_of : Stmt := top 11
abbrev s_columns_of : Stmt := top 12
abbrev s_led_on : Stmt := top 13
abbrev s_table_product : Stmt := top 14
abbrev s_still_table : Stmt := top 15
abbrev s_times_column : Stmt := top 16
abbrev s_is_integer_tickets : Stmt := top 19
abbrev s_are_integers : Stmt := top 21
abbrev s_are_digits : Stmt := top 22
abbrev s_is_ticket : Stmt := top 23
abbrev s_is_table : Stmt := top 32
abbrev s_are_tables : Stmt := top 33
abbrev s_need_same_digits : Stmt := top 45
abbrev s_beside : Stmt := top 46
abbrev s_without_bridge : Stmt := top 47
abbrev s_added : Stmt := top 48
abbrev s_times : Stmt := top 49
abbrev s_lessened : Stmt := top 50
abbrev s_met : Stmt := top 51
abbrev s_ahead : Stmt := top 52
abbrev s_behind : Stmt := top 53
abbrev s_are_rising : Stmt := top 70
abbrev s_is_integer_rewriters : Stmt := top 75
abbrev s_is_state : Stmt := top 77
abbrev s_is_digit : Stmt := top 78
abbrev s_is_move : Stmt := top 79
abbrev s_up_to : Stmt := top 81
abbrev s_one_ahead : Stmt := top 82
abbrev s_met_states : Stmt := top 83
abbrev s_table_through : Stmt := top 84
abbrev s_through : Stmt := top 85
abbrev s_sums : Stmt := top 87
abbrev s_steps : Stmt := top 88
abbrev s_whole_table : Stmt := top 89
abbrev s_columns_to : Stmt := top 90
abbrev s_block_sum : Stmt := top 91
abbrev s_roll_sums : Stmt := top 92
abbrev s_roll_sum : Stmt := top 93
abbrev s_sum_to : Stmt := top 94
abbrev s_check_range : Stmt := top 95
abbrev s_range_sum : Stmt := top 96
abbrev s_is_first : Stmt := top 97
abbrev s_is_last : Stmt := top 98
abbrev s_beginnings_from : Stmt := top 99
abbrev s_beginnings_to : Stmt := top 100
abbrev s_beginnings : Stmt := top 101
abbrev s_ticket_ahead : Stmt := top 102
abbrev s_ticket_behind : Stmt := top 103
abbrev s_law_deck : Stmt := top 107
abbrev s_law_draw : Stmt := top 108
abbrev s_law_pick : Stmt := top 109
abbrev s_law_line : Stmt := top 110
abbrev s_law_world : Stmt := top 111
abbrev s_law_code : Stmt := top 112
abbrev s_law_led : Stmt := top 113
abbrev s_law_line_of : Stmt := top 114
abbrev s_law_dot : Stmt := top 115
abbrev s_law_worth : Stmt := top 116
abbrev s_law_pages : Stmt := top 117
abbrev s_law_page : Stmt := top 118
abbrev s_law_cuts_right : Stmt := top 119
abbrev s_law_range_right : Stmt := top 120
abbrev s_law_roll_right : Stmt := top 121
abbrev s_law : Stmt := top 122
abbrev s_Tally_init : Stmt := inClass (top 43) 0
abbrev s_Tally_len : Stmt := inClass (top 43) 3
abbrev s_Tally_eq : Stmt := inClass (top 43) 4
abbrev s_Tally_step : Stmt := inClass (top 43) 6
abbrev s_Tally_row : Stmt := inClass (top 43) 7
abbrev s_Tally_worth : Stmt := inClass (top 43) 8
abbrev s_Tally_table : Stmt := inClass (top 43) 9
abbrev s_Rewriter_init : Stmt := inClass (top 80) 0
abbrev s_Rewriter_moves_from : Stmt := inClass (top 80) 4
abbrev s_Piece_init : Stmt := inClass (top 105) 0
abbrev s_Piece_joined : Stmt := inClass (top 105) 4
abbrev s_Piece_led : Stmt := inClass (top 105) 5
abbrev s_Piece_worth_now : Stmt := inClass (top 105) 3
def d_product_of : He.DefD := ⟨("product_of", none), "product_of", "product_of", defArgs s_product_of, defBody s_product_of, defScope s_product_of, [], []⟩
def d_columns_of : He.DefD := ⟨("columns_of", none), "columns_of", "columns_of", defArgs s_columns_of, defBody s_columns_of, defScope s_columns_of, [], []⟩
def d_led_on : He.DefD := ⟨("led_on", none), "led_on", "led_on", defArgs s_led_on, defBody s_led_on, defScope s_led_on, [], []⟩
def d_table_product : He.DefD := ⟨("table_product", none), "table_product", "table_product", defArgs s_table_product, defBody s_table_product, defScope s_table_product, [], []⟩
def d_still_table : He.DefD := ⟨("still_table", none), "still_table", "still_table", defArgs s_still_table, defBody s_still_table, defScope s_still_table, [], []⟩
def d_times_column : He.DefD := ⟨("times_column", none), "times_column", "times_column", defArgs s_times_column, defBody s_times_column, defScope s_times_column, [], []⟩
def d_is_integer_tickets : He.DefD := ⟨("is_integer_tickets", none), "is_integer", "is_integer", defArgs s_is_integer_tickets, defBody s_is_integer_tickets, defScope s_is_integer_tickets, [], []⟩
def d_are_integers : He.DefD := ⟨("are_integers", none), "are_integers", "are_integers", defArgs s_are_integers, defBody s_are_integers, defScope s_are_integers, [], []⟩
def d_are_digits : He.DefD := ⟨("are_digits", none), "are_digits", "are_digits", defArgs s_are_digits, defBody s_are_digits, defScope s_are_digits, [], []⟩
def d_is_ticket : He.DefD := ⟨("is_ticket", none), "is_ticket", "is_ticket", defArgs s_is_ticket, defBody s_is_ticket, defScope s_is_ticket, [], []⟩
def d_is_table : He.DefD := ⟨("is_table", none), "is_table", "is_table", defArgs s_is_table, defBody s_is_table, defScope s_is_table, [], []⟩
def d_are_tables : He.DefD := ⟨("are_tables", none), "are_tables", "are_tables", defArgs s_are_tables, defBody s_are_tables, defScope s_are_tables, [], []⟩
def d_need_same_digits : He.DefD := ⟨("need_same_digits", none), "need_same_digits", "need_same_digits", defArgs s_need_same_digits, defBody s_need_same_digits, defScope s_need_same_digits, [], []⟩
def d_beside : He.DefD := ⟨("beside", none), "beside", "beside", defArgs s_beside, defBody s_beside, defScope s_beside, [], []⟩
def d_without_bridge : He.DefD := ⟨("without_bridge", none), "without_bridge", "without_bridge", defArgs s_without_bridge, defBody s_without_bridge, defScope s_without_bridge, [], []⟩
def d_added : He.DefD := ⟨("added", none), "added", "added", defArgs s_added, defBody s_added, defScope s_added, [], []⟩
def d_times : He.DefD := ⟨("times", none), "times", "times", defArgs s_times, defBody s_times, defScope s_times, [], []⟩
def d_lessened : He.DefD := ⟨("lessened", none), "lessened", "lessened", defArgs s_lessened, defBody s_lessened, defScope s_lessened, [], []⟩
def d_met : He.DefD := ⟨("met", none), "met", "met", defArgs s_met, defBody s_met, defScope s_met, [], []⟩
def d_ahead : He.DefD := ⟨("ahead", none), "ahead", "ahead", defArgs s_ahead, defBody s_ahead, defScope s_ahead, [], []⟩
def d_behind : He.DefD := ⟨("behind", none), "behind", "behind", defArgs s_behind, defBody s_behind, defScope s_behind, [], []⟩
def d_are_rising : He.DefD := ⟨("are_rising", none), "are_rising", "are_rising", defArgs s_are_rising, defBody s_are_rising, defScope s_are_rising, [], []⟩
def d_is_integer_rewriters : He.DefD := ⟨("is_integer_rewriters", none), "is_integer", "is_integer", defArgs s_is_integer_rewriters, defBody s_is_integer_rewriters, defScope s_is_integer_rewriters, [], []⟩
def d_is_state : He.DefD := ⟨("is_state", none), "is_state", "is_state", defArgs s_is_state, defBody s_is_state, defScope s_is_state, [], []⟩
def d_is_digit : He.DefD := ⟨("is_digit", none), "is_digit", "is_digit", defArgs s_is_digit, defBody s_is_digit, defScope s_is_digit, [], []⟩
def d_is_move : He.DefD := ⟨("is_move", none), "is_move", "is_move", defArgs s_is_move, defBody s_is_move, defScope s_is_move, [], []⟩
def d_up_to : He.DefD := ⟨("up_to", none), "up_to", "up_to", defArgs s_up_to, defBody s_up_to, defScope s_up_to, [], []⟩
def d_one_ahead : He.DefD := ⟨("one_ahead", none), "one_ahead", "one_ahead", defArgs s_one_ahead, defBody s_one_ahead, defScope s_one_ahead, [], []⟩
def d_met_states : He.DefD := ⟨("met_states", none), "met_states", "met_states", defArgs s_met_states, defBody s_met_states, defScope s_met_states, [], []⟩
def d_table_through : He.DefD := ⟨("table_through", none), "table_through", "table_through", defArgs s_table_through, defBody s_table_through, defScope s_table_through, [], []⟩
def d_through : He.DefD := ⟨("through", none), "through", "through", defArgs s_through, defBody s_through, defScope s_through, [], []⟩
def d_sums : He.DefD := ⟨("sums", none), "sums", "sums", defArgs s_sums, defBody s_sums, defScope s_sums, [], []⟩
def d_steps : He.DefD := ⟨("steps", none), "steps", "steps", defArgs s_steps, defBody s_steps, defScope s_steps, [], []⟩
def d_whole_table : He.DefD := ⟨("whole_table", none), "whole_table", "whole_table", defArgs s_whole_table, defBody s_whole_table, defScope s_whole_table, [], []⟩
def d_columns_to : He.DefD := ⟨("columns_to", none), "columns_to", "columns_to", defArgs s_columns_to, defBody s_columns_to, defScope s_columns_to, [], []⟩
def d_block_sum : He.DefD := ⟨("block_sum", none), "block_sum", "block_sum", defArgs s_block_sum, defBody s_block_sum, defScope s_block_sum, [], []⟩
def d_roll_sums : He.DefD := ⟨("roll_sums", none), "roll_sums", "roll_sums", defArgs s_roll_sums, defBody s_roll_sums, defScope s_roll_sums, [], []⟩
def d_roll_sum : He.DefD := ⟨("roll_sum", none), "roll_sum", "roll_sum", defArgs s_roll_sum, defBody s_roll_sum, defScope s_roll_sum, [], []⟩
def d_sum_to : He.DefD := ⟨("sum_to", none), "sum_to", "sum_to", defArgs s_sum_to, defBody s_sum_to, defScope s_sum_to, [], []⟩
def d_check_range : He.DefD := ⟨("check_range", none), "check_range", "check_range", defArgs s_check_range, defBody s_check_range, defScope s_check_range, [], []⟩
def d_range_sum : He.DefD := ⟨("range_sum", none), "range_sum", "range_sum", defArgs s_range_sum, defBody s_range_sum, defScope s_range_sum, [], []⟩
def d_is_first : He.DefD := ⟨("is_first", none), "is_first", "is_first", defArgs s_is_first, defBody s_is_first, defScope s_is_first, [], []⟩
def d_is_last : He.DefD := ⟨("is_last", none), "is_last", "is_last", defArgs s_is_last, defBody s_is_last, defScope s_is_last, [], []⟩
def d_beginnings_from : He.DefD := ⟨("beginnings_from", none), "beginnings_from", "beginnings_from", defArgs s_beginnings_from, defBody s_beginnings_from, defScope s_beginnings_from, [], []⟩
def d_beginnings_to : He.DefD := ⟨("beginnings_to", none), "beginnings_to", "beginnings_to", defArgs s_beginnings_to, defBody s_beginnings_to, defScope s_beginnings_to, [], []⟩
def d_beginnings : He.DefD := ⟨("beginnings", none), "beginnings", "beginnings", defArgs s_beginnings, defBody s_beginnings, defScope s_beginnings, [], []⟩
def d_ticket_ahead : He.DefD := ⟨("ticket_ahead", none), "ticket_ahead", "ticket_ahead", defArgs s_ticket_ahead, defBody s_ticket_ahead, defScope s_ticket_ahead, [], []⟩
def d_ticket_behind : He.DefD := ⟨("ticket_behind", none), "ticket_behind", "ticket_behind", defArgs s_ticket_behind, defBody s_ticket_behind, defScope s_ticket_behind, [], []⟩
def d_law_deck : He.DefD := ⟨("_law_deck", none), "_law_deck", "_law_deck", defArgs s_law_deck, defBody s_law_deck, defScope s_law_deck, [], []⟩
def d_law_draw : He.DefD := ⟨("_law_draw", none), "_law_draw", "_law_draw", defArgs s_law_draw, defBody s_law_draw, defScope s_law_draw, [], []⟩
def d_law_pick : He.DefD := ⟨("_law_pick", none), "_law_pick", "_law_pick", defArgs s_law_pick, defBody s_law_pick, defScope s_law_pick, [], []⟩
def d_law_line : He.DefD := ⟨("_law_line", none), "_law_line", "_law_line", defArgs s_law_line, defBody s_law_line, defScope s_law_line, [], []⟩
def d_law_world : He.DefD := ⟨("_law_world", none), "_law_world", "_law_world", defArgs s_law_world, defBody s_law_world, defScope s_law_world, [], []⟩
def d_law_code : He.DefD := ⟨("_law_code", none), "_law_code", "_law_code", defArgs s_law_code, defBody s_law_code, defScope s_law_code, [], []⟩
def d_law_led : He.DefD := ⟨("_law_led", none), "_law_led", "_law_led", defArgs s_law_led, defBody s_law_led, defScope s_law_led, [], []⟩
def d_law_line_of : He.DefD := ⟨("_law_line_of", none), "_law_line_of", "_law_line_of", defArgs s_law_line_of, defBody s_law_line_of, defScope s_law_line_of, [], []⟩
def d_law_dot : He.DefD := ⟨("_law_dot", none), "_law_dot", "_law_dot", defArgs s_law_dot, defBody s_law_dot, defScope s_law_dot, [], []⟩
def d_law_worth : He.DefD := ⟨("_law_worth", none), "_law_worth", "_law_worth", defArgs s_law_worth, defBody s_law_worth, defScope s_law_worth, [], []⟩
def d_law_pages : He.DefD := ⟨("_law_pages", none), "_law_pages", "_law_pages", defArgs s_law_pages, defBody s_law_pages, defScope s_law_pages, [], []⟩
def d_law_page : He.DefD := ⟨("_law_page", none), "_law_page", "_law_page", defArgs s_law_page, defBody s_law_page, defScope s_law_page, [], []⟩
def d_law_cuts_right : He.DefD := ⟨("_law_cuts_right", none), "_law_cuts_right", "_law_cuts_right", defArgs s_law_cuts_right, defBody s_law_cuts_right, defScope s_law_cuts_right, [], []⟩
def d_law_range_right : He.DefD := ⟨("_law_range_right", none), "_law_range_right", "_law_range_right", defArgs s_law_range_right, defBody s_law_range_right, defScope s_law_range_right, [], []⟩
def d_law_roll_right : He.DefD := ⟨("_law_roll_right", none), "_law_roll_right", "_law_roll_right", defArgs s_law_roll_right, defBody s_law_roll_right, defScope s_law_roll_right, [], []⟩
def d_law : He.DefD := ⟨("law", none), "law", "law", defArgs s_law, defBody s_law, defScope s_law, [], []⟩
def d_Tally_init : He.DefD := ⟨("Tally", some "__init__"), "__init__", "Tally.__init__", defArgs s_Tally_init, defBody s_Tally_init, defScope s_Tally_init, [], []⟩
def d_Tally_len : He.DefD := ⟨("Tally", some "__len__"), "__len__", "Tally.__len__", defArgs s_Tally_len, defBody s_Tally_len, defScope s_Tally_len, [], []⟩
def d_Tally_eq : He.DefD := ⟨("Tally", some "__eq__"), "__eq__", "Tally.__eq__", defArgs s_Tally_eq, defBody s_Tally_eq, defScope s_Tally_eq, [], []⟩
def d_Tally_step : He.DefD := ⟨("Tally", some "step"), "step", "Tally.step", defArgs s_Tally_step, defBody s_Tally_step, defScope s_Tally_step, [], []⟩
def d_Tally_row : He.DefD := ⟨("Tally", some "row"), "row", "Tally.row", defArgs s_Tally_row, defBody s_Tally_row, defScope s_Tally_row, [], []⟩
def d_Tally_worth : He.DefD := ⟨("Tally", some "worth"), "worth", "Tally.worth", defArgs s_Tally_worth, defBody s_Tally_worth, defScope s_Tally_worth, [], []⟩
def d_Tally_table : He.DefD := ⟨("Tally", some "table"), "table", "Tally.table", defArgs s_Tally_table, defBody s_Tally_table, defScope s_Tally_table, [], []⟩
def d_Rewriter_init : He.DefD := ⟨("Rewriter", some "__init__"), "__init__", "Rewriter.__init__", defArgs s_Rewriter_init, defBody s_Rewriter_init, defScope s_Rewriter_init, [], []⟩
def d_Rewriter_moves_from : He.DefD := ⟨("Rewriter", some "moves_from"), "moves_from", "Rewriter.moves_from", defArgs s_Rewriter_moves_from, defBody s_Rewriter_moves_from, defScope s_Rewriter_moves_from, [], []⟩
def d_Piece_init : He.DefD := ⟨("Piece", some "__init__"), "__init__", "Piece.__init__", defArgs s_Piece_init, defBody s_Piece_init, defScope s_Piece_init, [], []⟩
def d_Piece_joined : He.DefD := ⟨("Piece", some "joined"), "joined", "Piece.joined", defArgs s_Piece_joined, defBody s_Piece_joined, defScope s_Piece_joined, [], []⟩
def d_Piece_led : He.DefD := ⟨("Piece", some "led"), "led", "Piece.led", defArgs s_Piece_led, defBody s_Piece_led, defScope s_Piece_led, [], []⟩
def fn : List He.DefD := [d_product_of, d_columns_of, d_led_on, d_table_product, d_still_table, d_times_column, d_is_integer_tickets, d_are_integers, d_are_digits, d_is_ticket, d_is_table, d_are_tables, d_need_same_digits, d_beside, d_without_bridge, d_added, d_times, d_lessened, d_met, d_ahead, d_behind, d_are_rising, d_is_integer_rewriters, d_is_state, d_is_digit, d_is_move, d_up_to, d_one_ahead, d_met_states, d_table_through, d_through, d_sums, d_steps, d_whole_table, d_columns_to, d_block_sum, d_roll_sums, d_roll_sum, d_sum_to, d_check_range, d_range_sum, d_is_first, d_is_last, d_beginnings_from, d_beginnings_to, d_beginnings, d_ticket_ahead, d_ticket_behind, d_law_deck, d_law_draw, d_law_pick, d_law_line, d_law_world, d_law_code, d_law_led, d_law_line_of, d_law_dot, d_law_worth, d_law_pages, d_law_page, d_law_cuts_right, d_law_range_right, d_law_roll_right, d_law, d_Tally_init, d_Tally_len, d_Tally_eq, d_Tally_step, d_Tally_row, d_Tally_worth, d_Tally_table, d_Rewriter_init, d_Rewriter_moves_from, d_Piece_init, d_Piece_joined, d_Piece_led]
def fa : List He.Fa := [.glo "product_of", .glo "columns_of", .glo "led_on", .glo "table_product", .glo "still_table", .glo "times_column", .glo "is_integer_tickets", .glo "are_integers", .glo "are_digits", .glo "is_ticket", .glo "is_table", .glo "are_tables", .glo "need_same_digits", .glo "beside", .glo "without_bridge", .glo "added", .glo "times", .glo "lessened", .glo "met", .glo "ahead", .glo "behind", .glo "are_rising", .glo "is_integer_rewriters", .glo "is_state", .glo "is_digit", .glo "is_move", .glo "up_to", .glo "one_ahead", .glo "met_states", .glo "table_through", .glo "through", .glo "sums", .glo "steps", .glo "whole_table", .glo "columns_to", .glo "block_sum", .glo "roll_sums", .glo "roll_sum", .glo "sum_to", .glo "check_range", .glo "range_sum", .glo "is_first", .glo "is_last", .glo "beginnings_from", .glo "beginnings_to", .glo "beginnings", .glo "ticket_ahead", .glo "ticket_behind", .glo "_law_deck", .glo "_law_draw", .glo "_law_pick", .glo "_law_line", .glo "_law_world", .glo "_law_code", .glo "_law_led", .glo "_law_line_of", .glo "_law_dot", .glo "_law_worth", .glo "_law_pages", .glo "_law_page", .glo "_law_cuts_right", .glo "_law_range_right", .glo "_law_roll_right", .glo "law", .glo "Tally", .glo "Rewriter", .glo "Piece", .free "sum", .free "zip", .free "tuple", .free "range", .free "len", .free "int", .free "isinstance", .free "all", .free "str", .free "bool", .free "list", .free "enumerate", .free "dict", .free "sorted", .free "repr", .free "min", .str "FIGURES_tickets" "0123456789", .int "MOVE_PARTS" 4, .cls "Tally", .mkr "Tally", .meth "Tally" "__init__", .meth "Tally" "__len__", .meth "Tally" "__eq__", .meth "Tally" "step", .meth "Tally" "row", .meth "Tally" "worth", .meth "Tally" "table", .noat "Tally" "digits", .noat "Tally" "start", .noat "Tally" "tables", .noat "Tally" "ends", .noat "Tally" "table_by_digit", .cls "Rewriter", .mkr "Rewriter", .meth "Rewriter" "__init__", .meth "Rewriter" "moves_from", .noat "Rewriter" "digits", .noat "Rewriter" "written", .noat "Rewriter" "size", .noat "Rewriter" "moves", .noat "Rewriter" "ends", .noat "Rewriter" "moves_by_key", .cls "Piece", .mkr "Piece", .meth "Piece" "__init__", .meth "Piece" "joined", .meth "Piece" "led", .noat "Piece" "tally", .noat "Piece" "table_now", .noat "Piece" "ticket"]
/-- an instance of the class x is one of the class x -/
def isiB (K : PySem.W.Frag) (x : Str) : Bool := He.eqO (PySem.W.findIn K (.ref (He.ga K x)) "__class__") (some (some (.builtin "object.__class__"))) && (decide (PySem.W.specialIn K (.builtin "object.__class__") "__get__" = some (some (.builtin "getset_descriptor.__get__"))) && (decide (PySem.W.takesIn K (.builtin "object.__class__") = some true) && (decide (PySem.W.mroIn K (He.ga K x) (.type "object") = some true) && decide (PySem.W.kitOne K (.ref (He.ga K x)) (.ref (He.ga K x)) = some true))))
/-- the property of the class Piece: its object, its getter -/
def propAt (K : PySem.W.Frag) : Addr := match PySem.W.findIn K (.ref (He.ga K "Piece")) "worth_now" with
  | some (some (.ref p)) => p
  | _ => 0
def getAt (K : PySem.W.Frag) : Addr := match PySem.W.recIn K (propAt K) "property" with
  | some (.ref g :: _) => g
  | _ => 0
def propB (K : PySem.W.Frag) : Bool := He.eqO (PySem.W.findIn K (.ref (He.ga K "Piece")) "worth_now") (some (some (.ref (propAt K)))) && (decide (PySem.W.specialIn K (.ref (propAt K)) "__get__" = some (some (.builtin "property.__get__"))) && (decide (PySem.W.takesIn K (.ref (propAt K)) = some true) &&
  ((match PySem.W.recIn K (propAt K) "property" with
  | some (.ref g :: _) => decide (g = getAt K)
  | _ => false) && (PySem.W.keepIn K (.ref (getAt K)) && (match K.lookup (getAt K) with
  | some ⟨_, _, .func fd, _⟩ => PySem.W.codeIn K fd.code "Piece.worth_now" && He.dflB K fd.defaults []
  | _ => false)))))
def getW (K : PySem.W.Frag) : He.FnW := match K.lookup (getAt K) with
  | some ⟨_, _, .func fd, _⟩ => some (fd.name, fd.qualname, fd.params, fd.body, fd.scope, fd.globals, fd.closure, fd.builtins)
  | _ => none
def getV : He.FnW := some ("worth_now", "Piece.worth_now", defArgs s_Piece_worth_now, .stmts (defBody s_Piece_worth_now), defScope s_Piece_worth_now, mainGlobals, [], builtinsNs)
def exB (K : PySem.W.Frag) : Bool := isiB K "Tally" && (isiB K "Piece" && propB K)
abbrev AlX : Type := He.AlD × (Bool × He.FnW)
def obsX (K : PySem.W.Frag) : AlX := (He.obsD fa fn K, (exB K, getW K))
def valX : AlX := (He.valD fn, (true, getV))
def SaysX (K : PySem.W.Frag) : Prop := obsX K = valX
/-- the addresses that the facts lean on (found by a trial run: the smallest list for which all facts hold) -/
def asX : List Addr := [3, 159, 164, 169, 174, 179, 184, 519, 191, 196, 201, 206, 211, 216, 377, 388, 393, 400, 405, 410, 417, 422, 429, 436, 451, 526, 533, 540, 600, 609, 614, 621, 626, 631, 638, 645, 650, 655, 662, 667, 674, 681, 688, 695, 702, 709, 714, 719, 724, 731, 738, 791, 802, 809, 816, 821, 826, 833, 838, 845, 850, 857, 862, 867, 872, 877, 882, 887, 158, 163, 168, 173, 178, 183, 518, 190, 195, 200, 205, 210, 215, 376, 387, 392, 399, 404, 409, 416, 421, 428, 435, 450, 525, 532, 539, 599, 608, 613, 620, 625, 630, 637, 644, 649, 654, 661, 666, 673, 680, 687, 694, 701, 708, 713, 718, 723, 730, 737, 790, 801, 808, 815, 820, 825, 832, 837, 844, 849, 856, 861, 866, 871, 876, 881, 886, 307, 331, 338, 353, 360, 367, 374, 552, 583, 752, 774, 781, 788, 306, 330, 337, 352, 359, 366, 373, 551, 582, 751, 773, 780, 787, 772]
def obsXG (g : Addr → Option Obj) : AlX := obsX (He.frG g asX)
def hk : PySem.W.Hook where
  α := AlX
  obs := fun s => obsXG s.heap.get?
  val := fun _ => valX
  says := fun _ h => ∃ K : PySem.W.Frag, K.In h ∧ SaysX K
  of := fun _ _ e => ⟨_, He.frG_in, e⟩
  keeps := fun _ _ _ ⟨K, hK, c⟩ k => ⟨K, PySem.W.Frag.In.keeps hK k, c⟩
abbrev R : PySem.W.OpenRow := PySem.W.OpenLaw.row PySem.Challenge.rw_tallyhouse_k82_whole_tickets_and_ranges
def ob (s : PySem.W.SharedT) : AlX := obsXG (HandSHeadRun.getT s)
theorem ob_eq (s : PySem.W.SharedT) : ob s = hk.obs s.abs := by
  have e : HandSHeadRun.getT s = s.abs.heap.get? := funext (HandSHeadRun.getT_eq s)
  show obsXG (HandSHeadRun.getT s) = obsXG s.abs.heap.get?
  rw [e]
def loose0 : List PySem.Str := [("BLANK_rewritertexts" : PySem.Str), ("BLANK_tallytexts" : PySem.Str), ("BREAK" : PySem.Str), ("BadRewriter" : PySem.Str), ("BadTally" : PySem.Str), ("BadText" : PySem.Str), ("BadTicket" : PySem.Str), ("ENDS_rewritertexts" : PySem.Str), ("ENDS_tallytexts" : PySem.Str), ("FIGURES_rewritertexts" : PySem.Str), ("FIGURES_tickets" : PySem.Str), ("HEAD_WORDS" : PySem.Str), ("HEAD_rewritertexts" : PySem.Str), ("HEAD_tallytexts" : PySem.Str), ("Lines" : PySem.Str), ("MINUS" : PySem.Str), ("MOVE" : PySem.Str), ("MOVE_PARTS" : PySem.Str), ("MOVE_WORDS" : PySem.Str), ("NO_STRING" : PySem.Str), ("OtherDigits" : PySem.Str), ("OtherRoll" : PySem.Str), ("OtherTally" : PySem.Str), ("PAIR" : PySem.Str), ("Piece" : PySem.Str), ("READS" : PySem.Str), ("REWRITER" : PySem.Str), ("Reading" : PySem.Str), ("Rewriter" : PySem.Str), ("START" : PySem.Str), ("TABLE" : PySem.Str), ("Tally" : PySem.Str), ("TallyError" : PySem.Str), ("WRITES" : PySem.Str), ("_law_code" : PySem.Str), ("_law_cuts_right" : PySem.Str), ("_law_deck" : PySem.Str), ("_law_dot" : PySem.Str)]
def loose1 : List PySem.Str := [("_law_draw" : PySem.Str), ("_law_led" : PySem.Str), ("_law_line" : PySem.Str), ("_law_line_of" : PySem.Str), ("_law_page" : PySem.Str), ("_law_pages" : PySem.Str), ("_law_pick" : PySem.Str), ("_law_range_right" : PySem.Str), ("_law_roll_right" : PySem.Str), ("_law_world" : PySem.Str), ("_law_worth" : PySem.Str), ("_wall" : PySem.Str), ("added" : PySem.Str), ("ahead" : PySem.Str), ("are_digits" : PySem.Str), ("are_integers" : PySem.Str), ("are_rising" : PySem.Str), ("are_tables" : PySem.Str), ("beginnings" : PySem.Str), ("beginnings_from" : PySem.Str), ("beginnings_to" : PySem.Str), ("behind" : PySem.Str), ("beside" : PySem.Str), ("block_sum" : PySem.Str), ("check_range" : PySem.Str), ("columns_of" : PySem.Str), ("columns_to" : PySem.Str), ("is_digit" : PySem.Str), ("is_first" : PySem.Str), ("is_integer" : PySem.Str), ("is_integer_rewriters" : PySem.Str), ("is_integer_tickets" : PySem.Str), ("is_last" : PySem.Str), ("is_move" : PySem.Str), ("is_state" : PySem.Str), ("is_table" : PySem.Str), ("is_ticket" : PySem.Str), ("led_on" : PySem.Str)]
def loose2 : List PySem.Str := [("lessened" : PySem.Str), ("met" : PySem.Str), ("met_states" : PySem.Str), ("need_same_digits" : PySem.Str), ("number_in" : PySem.Str), ("number_in_rewritertexts" : PySem.Str), ("number_in_tallytexts" : PySem.Str), ("one_ahead" : PySem.Str), ("parts_in" : PySem.Str), ("product_of" : PySem.Str), ("range_sum" : PySem.Str), ("rewriter_parts" : PySem.Str), ("rewriter_text" : PySem.Str), ("roll_sum" : PySem.Str), ("roll_sums" : PySem.Str), ("row_in" : PySem.Str), ("steps" : PySem.Str), ("still_table" : PySem.Str), ("sum_to" : PySem.Str), ("sums" : PySem.Str), ("table_lines" : PySem.Str), ("table_product" : PySem.Str), ("table_through" : PySem.Str), ("text_of" : PySem.Str), ("through" : PySem.Str), ("ticket_ahead" : PySem.Str), ("ticket_behind" : PySem.Str), ("times" : PySem.Str), ("times_column" : PySem.Str), ("up_to" : PySem.Str), ("whole_table" : PySem.Str), ("without_bridge" : PySem.Str), ("words_of" : PySem.Str)]
def loose : List PySem.Str := loose0 ++ loose1 ++ loose2
theorem run (w : World) : HandSHeadRun.RunEq R (PySem.W.view R.prog [122]) hk ob 9000 loose w := by
  intro os
  kernel_rfl
end TH
set_option maxHeartbeats 4000000
namespace TH
open PySem PySem.Spec PyProof.Rows L2
def Ex (H H' : Hp) : Prop := ∀ a o, H a = some o → H' a = some o
theorem Ex.refl (H : Hp) : Ex H H := fun _ _ h => h
theorem Ex.trans {H H1 H2 : Hp} (a : Ex H H1) (b : Ex H1 H2) : Ex H H2 := fun x o h => b x o (a x o h)
theorem Ex.new {H : Hp} {p : Addr} {o : HO} (h : H p = none) : Ex H (upd H p o) := fun a u e => by
  rw [upd_ne (ne_of_none e h)]
  exact e
theorem Ex.upd2 {G H : Hp} {p : Addr} {o : HO} (e : Ex G H) : Ex (upd G p o) (upd H p o) := fun a u h => by
  by_cases x : a = p
  · subst x
    rw [upd_same] at h ⊢
    exact h
  · rw [upd_ne x] at h ⊢
    exact e a u h
theorem Ex.mut {H H' : Hp} {p : Addr} {o : HO} (e : Ex H H') (h : H p = none) : Ex H (upd H' p o) := fun a u ha => by
  rw [upd_ne (ne_of_none ha h)]
  exact e a u ha
theorem Ex.none {H H' : Hp} (e : Ex H H') {p : Addr} (h : H' p = none) : H p = none := by
  cases q : H p with
  | none => rfl
  | some o =>
    rw [e p o q] at h
    cases h
theorem ex_rd {H H' : Hp} {a : Addr} {u : HO} (e : Ex H H') (h : Rd H a u) : Rd H' a u := by
  rcases h with h | ⟨o, h⟩
  · exact .inl (e a _ h)
  · exact .inr ⟨o, e a _ h⟩
theorem ex_l {K : PySem.W.Frag} {H H' : Hp} {a : Addr} {xs : List V} (e : Ex H H') (h : SqL K H a xs) : SqL K H' a xs := by
  rcases h with h | h
  · exact .inl (ex_rd e h)
  · exact .inr h
theorem ex_t {K : PySem.W.Frag} {H H' : Hp} {a : Addr} {xs : List V} (e : Ex H H') (h : SqT K H a xs) : SqT K H' a xs := by
  rcases h with h | h
  · exact .inl (ex_rd e h)
  · exact .inr h
inductive D where
  | non | bl (b : Bool) | int (i : Int) | str (s : Str)
  | tup (ds : List D) | lst (ds : List D)
  | dic (kvs : List (Key × D))
  | dct (kvs : List (List Key × D))
  | ins (C : Addr) (fs : List (Str × D))
mutual
def Rep (K : PySem.W.Frag) (G : Hp) : D → V → Prop
  | .non, v => v = .non
  | .bl b, v => v = .bl b
  | .int i, v => v = .int i
  | .str s, v => v = .str s
  | .tup ds, v => ∃ a vs, v = .ref a ∧ G a = some (.tup vs) ∧ Reps K G ds vs
  | .lst ds, v => ∃ a vs, v = .ref a ∧ G a = some (.lst vs) ∧ Reps K G ds vs
  | .dic kvs, v => ∃ a vs, v = .ref a ∧ G a = some (.dK vs) ∧ RepK K G kvs vs
  | .dct kvs, v => ∃ a vs, v = .ref a ∧ G a = some (.dT vs) ∧ RepT K G kvs vs
  | .ins C fs, v => ∃ a dx vs, v = .ref a ∧ G a = some (.ins C dx vs) ∧ RepF K G fs vs
def Reps (K : PySem.W.Frag) (G : Hp) : List D → List V → Prop
  | [], vs => vs = []
  | d :: ds, vs => ∃ v r, vs = v :: r ∧ Rep K G d v ∧ Reps K G ds r
def RepK (K : PySem.W.Frag) (G : Hp) : List (Key × D) → List (Key × V) → Prop
  | [], vs => vs = []
  | (k, d) :: ds, vs => ∃ v r, vs = (k, v) :: r ∧ Rep K G d v ∧ RepK K G ds r
def RepT (K : PySem.W.Frag) (G : Hp) : List (List Key × D) → List (List Key × V) → Prop
  | [], vs => vs = []
  | (k, d) :: ds, vs => ∃ v r, vs = (k, v) :: r ∧ Rep K G d v ∧ RepT K G ds r
def RepF (K : PySem.W.Frag) (G : Hp) : List (Str × D) → List (Str × V) → Prop
  | [], vs => vs = []
  | (k, d) :: ds, vs => ∃ v r, vs = (k, v) :: r ∧ Rep K G d v ∧ RepF K G ds r
end
mutual
theorem Rep.mono {K : PySem.W.Frag} {G G' : Hp} (e : Ex G G') : ∀ {d : D} {v : V}, Rep K G d v → Rep K G' d v
  | .non, _, h => h
  | .bl _, _, h => h
  | .int _, _, h => h
  | .str _, _, h => h
  | .tup _, _, ⟨a, vs, h1, h2, h3⟩ => ⟨a, vs, h1, e _ _ h2, Reps.mono e h3⟩
  | .lst _, _, ⟨a, vs, h1, h2, h3⟩ => ⟨a, vs, h1, e _ _ h2, Reps.mono e h3⟩
  | .dic _, _, ⟨a, vs, h1, h2, h3⟩ => ⟨a, vs, h1, e _ _ h2, RepK.mono e h3⟩
  | .dct _, _, ⟨a, vs, h1, h2, h3⟩ => ⟨a, vs, h1, e _ _ h2, RepT.mono e h3⟩
  | .ins _ _, _, ⟨a, dx, vs, h1, h2, h3⟩ => ⟨a, dx, vs, h1, e _ _ h2, RepF.mono e h3⟩
theorem Reps.mono {K : PySem.W.Frag} {G G' : Hp} (e : Ex G G') : ∀ {ds : List D} {vs : List V}, Reps K G ds vs → Reps K G' ds vs
  | [], _, h => h
  | _ :: _, _, ⟨v, r, h1, h2, h3⟩ => ⟨v, r, h1, Rep.mono e h2, Reps.mono e h3⟩
theorem RepK.mono {K : PySem.W.Frag} {G G' : Hp} (e : Ex G G') : ∀ {ds : List (Key × D)} {vs : List (Key × V)}, RepK K G ds vs → RepK K G' ds vs
  | [], _, h => h
  | (_, _) :: _, _, ⟨v, r, h1, h2, h3⟩ => ⟨v, r, h1, Rep.mono e h2, RepK.mono e h3⟩
theorem RepT.mono {K : PySem.W.Frag} {G G' : Hp} (e : Ex G G') : ∀ {ds : List (List Key × D)} {vs : List (List Key × V)}, RepT K G ds vs → RepT K G' ds vs
  | [], _, h => h
  | (_, _) :: _, _, ⟨v, r, h1, h2, h3⟩ => ⟨v, r, h1, Rep.mono e h2, RepT.mono e h3⟩
theorem RepF.mono {K : PySem.W.Frag} {G G' : Hp} (e : Ex G G') : ∀ {ds : List (Str × D)} {vs : List (Str × V)}, RepF K G ds vs → RepF K G' ds vs
  | [], _, h => h
  | (_, _) :: _, _, ⟨v, r, h1, h2, h3⟩ => ⟨v, r, h1, Rep.mono e h2, RepF.mono e h3⟩
end
theorem Reps.length {K : PySem.W.Frag} {G : Hp} : ∀ {ds : List D} {vs : List V}, Reps K G ds vs → vs.length = ds.length
  | [], _, h => by rw [show _ = [] from h]; rfl
  | _ :: _, _, ⟨_, _, h1, _, h3⟩ => by rw [h1, List.length_cons, List.length_cons, Reps.length h3]
theorem Reps.get {K : PySem.W.Frag} {G : Hp} : ∀ {ds : List D} {vs : List V} {i : Nat} {d : D}, Reps K G ds vs → ds[i]? = some d → ∃ v, vs[i]? = some v ∧ Rep K G d v
  | [], _, _, _, _, e => by simp at e
  | x :: _, _, 0, d, ⟨v, r, h1, h2, _⟩, e => by
    have e1 : x = d := Option.some.inj e
    rw [h1, ← e1]
    exact ⟨v, rfl, h2⟩
  | _ :: _, _, i + 1, d, ⟨v, r, h1, _, h3⟩, e => by
    obtain ⟨u, h4, h5⟩ := Reps.get (i := i) (d := d) h3 e
    rw [h1]
    exact ⟨u, h4, h5⟩
theorem Reps.getV {K : PySem.W.Frag} {G : Hp} {ds : List D} {vs : List V} {i : Nat} {v : V} (h : Reps K G ds vs) (e : vs[i]? = some v) : ∃ d, ds[i]? = some d ∧ Rep K G d v := by
  have hl : i < vs.length := (List.getElem?_eq_some_iff.mp e).1
  have hd : i < ds.length := by rw [← h.length]; exact hl
  obtain ⟨u, h1, h2⟩ := h.get (List.getElem?_eq_getElem hd)
  rw [e] at h1
  cases h1
  exact ⟨_, List.getElem?_eq_getElem hd, h2⟩
theorem Reps.append {K : PySem.W.Frag} {G : Hp} : ∀ {ds es : List D} {vs us : List V}, Reps K G ds vs → Reps K G es us → Reps K G (ds ++ es) (vs ++ us)
  | [], _, _, _, h, h' => by rw [show _ = [] from h]; exact h'
  | _ :: _, _, _, _, ⟨v, r, h1, h2, h3⟩, h' => ⟨v, r ++ _, by rw [h1]; rfl, h2, Reps.append h3 h'⟩
theorem Reps.one {K : PySem.W.Frag} {G : Hp} {d : D} {v : V} (h : Rep K G d v) : Reps K G [d] [v] := ⟨v, [], rfl, h, rfl⟩
theorem Reps.take {K : PySem.W.Frag} {G : Hp} : ∀ {ds : List D} {vs : List V} (n : Nat), Reps K G ds vs → Reps K G (ds.take n) (vs.take n)
  | _, _, 0, _ => by rw [List.take_zero, List.take_zero]; exact rfl
  | [], _, n + 1, h => by rw [show _ = [] from h]; exact rfl
  | _ :: _, _, n + 1, ⟨v, r, h1, h2, h3⟩ => by
    rw [h1]
    exact ⟨v, r.take n, rfl, h2, Reps.take n h3⟩
theorem Reps.drop {K : PySem.W.Frag} {G : Hp} : ∀ {ds : List D} {vs : List V} (n : Nat), Reps K G ds vs → Reps K G (ds.drop n) (vs.drop n)
  | _, _, 0, h => h
  | [], _, n + 1, h => by rw [show _ = [] from h]; exact rfl
  | _ :: _, _, n + 1, ⟨v, r, h1, _, h3⟩ => by
    rw [h1]
    exact Reps.drop n h3
theorem Reps.of_ints {K : PySem.W.Frag} {G : Hp} : ∀ (ns : List Int), Reps K G (ns.map D.int) (ns.map V.int)
  | [] => rfl
  | n :: ns => ⟨.int n, ns.map V.int, rfl, rfl, Reps.of_ints ns⟩
theorem Reps.ints {K : PySem.W.Frag} {G : Hp} : ∀ {ns : List Int} {vs : List V}, Reps K G (ns.map D.int) vs → vs = ns.map V.int
  | [], _, h => h
  | n :: ns, _, ⟨v, r, h1, h2, h3⟩ => by
    rw [h1, show v = V.int n from h2, Reps.ints h3]
    rfl
theorem Reps.strs {K : PySem.W.Frag} {G : Hp} : ∀ {ns : List Str} {vs : List V}, Reps K G (ns.map D.str) vs → vs = ns.map V.str
  | [], _, h => h
  | n :: ns, _, ⟨v, r, h1, h2, h3⟩ => by
    rw [h1, show v = V.str n from h2, Reps.strs h3]
    rfl
theorem Reps.bls {K : PySem.W.Frag} {G : Hp} : ∀ {ns : List Bool} {vs : List V}, Reps K G (ns.map D.bl) vs → vs = ns.map V.bl
  | [], _, h => h
  | n :: ns, _, ⟨v, r, h1, h2, h3⟩ => by
    rw [h1, show v = V.bl n from h2, Reps.bls h3]
    rfl
theorem RepF.look {K : PySem.W.Frag} {G : Hp} : ∀ {fs : List (Str × D)} {vs : List (Str × V)} {f : Str} {d : D}, RepF K G fs vs → fs.lookup f = some d → ∃ v, vs.lookup f = some v ∧ Rep K G d v
  | [], _, _, _, _, e => by cases e
  | (g, x) :: r, _, f, d, ⟨v, r', h1, h2, h3⟩, e => by
    rw [h1]
    have e' : (match f == g with | true => some x | false => r.lookup f) = some d := e
    show ∃ u, (match f == g with | true => some v | false => r'.lookup f) = some u ∧ _
    cases q : (f == g) with
    | true =>
      rw [q] at e'
      cases e'
      exact ⟨v, rfl, h2⟩
    | false =>
      rw [q] at e'
      exact RepF.look h3 e'
theorem RepF.lookN {K : PySem.W.Frag} {G : Hp} : ∀ {fs : List (Str × D)} {vs : List (Str × V)} {f : Str}, RepF K G fs vs → fs.lookup f = none → vs.lookup f = none
  | [], _, _, h, _ => by rw [show _ = [] from h]; rfl
  | (g, x) :: r, _, f, ⟨v, r', h1, h2, h3⟩, e => by
    rw [h1]
    have e' : (match f == g with | true => some x | false => r.lookup f) = none := e
    show (match f == g with | true => some v | false => r'.lookup f) = none
    cases q : (f == g) with
    | true =>
      rw [q] at e'
      cases e'
    | false =>
      rw [q] at e'
      exact RepF.lookN h3 e'
structure Stp (G H G' H' : Hp) : Prop where
  g : Ex G G'
  h : Ex H H'
  s : Ex G' H'
  o : ∀ a, H a ≠ none → G a = none → G' a = none
theorem Stp.refl {G H : Hp} (e : Ex G H) : Stp G H G H := ⟨.refl G, .refl H, e, fun _ _ h => h⟩
theorem Stp.trans {G H G1 H1 G2 H2 : Hp} (a : Stp G H G1 H1) (b : Stp G1 H1 G2 H2) : Stp G H G2 H2 :=
  ⟨a.g.trans b.g, a.h.trans b.h, b.s, fun x h1 h2 => by
    refine b.o x (fun q => h1 ?_) (a.o x h1 h2)
    exact a.h.none q⟩
/-- a new object, never to be written -/
theorem Stp.new {G H : Hp} {p : Addr} {o : HO} (e : Ex G H) (h : H p = none) : Stp G H (upd G p o) (upd H p o) :=
  ⟨.new (e.none h), .new h, e.upd2, fun a h1 h2 => by
    have : a ≠ p := fun q => h1 (by rw [q]; exact h)
    rw [upd_ne this]
    exact h2⟩
/-- a new object that may be written -/
theorem Stp.newO {G H : Hp} {p : Addr} {o : HO} (e : Ex G H) (h : H p = none) : Stp G H G (upd H p o) :=
  ⟨.refl G, .new h, e.mut (e.none h), fun _ _ h2 => h2⟩
/-- an object that may be written (the entry does not know it) is written -/
theorem Stp.mut {G0 H0 G H : Hp} {p : Addr} {o : HO} (s : Stp G0 H0 G H) (h0 : H0 p = none) (hg : G p = none) : Stp G0 H0 G (upd H p o) :=
  ⟨s.g, s.h.mut h0, s.s.mut hg, s.o⟩
/-- an object that may be written is from now on never written -/
theorem Stp.freeze {G0 H0 G H : Hp} {p : Addr} {o : HO} (s : Stp G0 H0 G H) (h0 : H0 p = none) (hg : G p = none) (hh : H p = some o) : Stp G0 H0 (upd G p o) H :=
  ⟨s.g.mut (Ex.none s.g hg), s.h, fun a u e => by
    by_cases x : a = p
    · subst x
      rw [upd_same] at e
      rw [hh]
      exact e
    · rw [upd_ne x] at e
      exact s.s a u e, fun a h1 h2 => by
    have : a ≠ p := fun q => h1 (by rw [q]; exact h0)
    rw [upd_ne this]
    exact s.o a h1 h2⟩
inductive Sl where
  | no | d (x : D) | own (ds : List D) | raw (v : V)
def SlR (K : PySem.W.Frag) (G H : Hp) : Sl → Option V → Prop
  | .no, _ => True
  | .d x, o => ∃ v, o = some v ∧ Rep K G x v
  | .own ds, o => ∃ p vs, o = some (.ref p) ∧ H p = some (.lst vs) ∧ G p = none ∧ Reps K G ds vs
  | .raw v, o => o = some v
structure EnvR (K : PySem.W.Frag) (G H : Hp) (σ : L2.St) (env : List Sl) : Prop where
  len : σ.length = env.length
  at_ : ∀ (i : Nat) (x : Sl) (o : Option V), env[i]? = some x → σ[i]? = some o → SlR K G H x o
theorem SlR.mono {K : PySem.W.Frag} {G H G' H' : Hp} {x : Sl} {o : Option V} (s : Stp G H G' H') (h : SlR K G H x o) : SlR K G' H' x o := by
  cases x with
  | no => trivial
  | d x =>
    obtain ⟨v, e, r⟩ := h
    exact ⟨v, e, r.mono s.g⟩
  | own ds =>
    obtain ⟨p, vs, e, h1, h2, r⟩ := h
    exact ⟨p, vs, e, s.h _ _ h1, s.o p (by rw [h1]; exact fun z => nomatch z) h2, r.mono s.g⟩
  | raw v => exact h
theorem EnvR.mono {K : PySem.W.Frag} {G H G' H' : Hp} {σ : L2.St} {env : List Sl} (E : EnvR K G H σ env) (s : Stp G H G' H') : EnvR K G' H' σ env :=
  ⟨E.len, fun i x o h1 h2 => (E.at_ i x o h1 h2).mono s⟩
theorem EnvR.get {K : PySem.W.Frag} {G H : Hp} {σ : L2.St} {env : List Sl} {i : Nat} {x : Sl} (E : EnvR K G H σ env) (h : env[i]? = some x) : ∃ o, σ[i]? = some o ∧ SlR K G H x o := by
  have hl : i < env.length := (List.getElem?_eq_some_iff.mp h).1
  have hs : i < σ.length := by rw [E.len]; exact hl
  exact ⟨_, List.getElem?_eq_getElem hs, E.at_ i x _ h (List.getElem?_eq_getElem hs)⟩
theorem EnvR.d {K : PySem.W.Frag} {G H : Hp} {σ : L2.St} {env : List Sl} {i : Nat} {x : D} (E : EnvR K G H σ env) (h : env[i]? = some (.d x)) : ∃ v, σ[i]? = some (some v) ∧ Rep K G x v := by
  obtain ⟨o, e, v, rfl, r⟩ := E.get h
  exact ⟨v, e, r⟩
theorem EnvR.setS {K : PySem.W.Frag} {G H : Hp} {σ : L2.St} {env : List Sl} {i : Nat} {x : Sl} {o : Option V} (E : EnvR K G H σ env) (h : SlR K G H x o) : EnvR K G H (σ.set i o) (env.set i x) := by
  refine ⟨by rw [List.length_set, List.length_set, E.len], fun j y u h1 h2 => ?_⟩
  by_cases e : i = j
  · subst e
    have l1 : i < env.length := by
      have := (List.getElem?_eq_some_iff.mp h1).1
      rw [List.length_set] at this
      exact this
    have l2 : i < σ.length := by rw [E.len]; exact l1
    rw [List.getElem?_set_self l1] at h1
    rw [List.getElem?_set_self l2] at h2
    cases h1
    cases h2
    exact h
  · rw [List.getElem?_set_ne e] at h1 h2
    exact E.at_ j y u h1 h2
theorem EnvR.set {K : PySem.W.Frag} {G H : Hp} {σ : L2.St} {env : List Sl} {i : Nat} {x : D} {v : V} (E : EnvR K G H σ env) (h : Rep K G x v) : EnvR K G H (σ.set i (some v)) (env.set i (.d x)) := E.setS ⟨v, rfl, h⟩
/-- some slots forgotten -/
def Le (env env' : List Sl) : Prop := env.length = env'.length ∧ ∀ (i : Nat) (x : Sl), env'[i]? = some x → x = .no ∨ env[i]? = some x
theorem Le.refl (env : List Sl) : Le env env := ⟨rfl, fun _ _ h => .inr h⟩
theorem EnvR.le {K : PySem.W.Frag} {G H : Hp} {σ : L2.St} {env env' : List Sl} (E : EnvR K G H σ env) (l : Le env env') : EnvR K G H σ env' :=
  ⟨E.len.trans l.1, fun i x o h1 h2 => by
    rcases l.2 i x h1 with e | e
    · subst e
      trivial
    · exact E.at_ i x o e h2⟩
theorem Le.nil : Le [] [] := .refl []
theorem Le.cons {x : Sl} {a b : List Sl} (h : Le a b) : Le (x :: a) (x :: b) := ⟨by rw [List.length_cons, List.length_cons, h.1], fun i y e => match i, e with
  | 0, e => .inr e
  | i + 1, e => h.2 i y e⟩
theorem Le.no {x : Sl} {a b : List Sl} (h : Le a b) : Le (x :: a) (.no :: b) := ⟨by rw [List.length_cons, List.length_cons, h.1], fun i y e => match i, e with
  | 0, e => .inl (Option.some.inj e).symm
  | i + 1, e => h.2 i y e⟩
end TH
set_option maxHeartbeats 4000000
namespace TH
open PySem PySem.Spec PyProof.Rows L2
structure Gx where
  P : Program
  w : World
  K : PySem.W.Frag
  mg : Str → Option Value
  base : Heap
structure Sc where
  N : List Str
  sc : Scope
  fb : Str → Bool
structure CC (W : Gx) (S : Sc) (k : Nat) (X : Cx) : Prop where
  P : X.prog = W.P
  w : X.w = W.w
  K : X.K = W.K
  mg : X.mg = W.mg
  base : X.base = W.base
  N : X.N = S.N
  sc : X.env.scope = S.sc
  fb : X.fn = S.fb
  calm : X.calm = true
  room : Room k X.A
def defS (N : List Str) (sc : Scope) : Sc := ⟨N, sc, fun _ => true⟩
def blkS (S : Sc) (scope : Scope) : Sc := ⟨S.N, relS scope S.sc, fun x => scope.names.lookup x == some .cell⟩
theorem cc_def {W : Gx} {k : Nat} {N : List Str} {sc : Scope} {qual : Str} {f : Addr} {cdv : Value} {A : Around} {outer : List Env} {s : Shared} {H : Hp} {E : XK} (hr : Room k (A.deeper (envOfC qual sc s.heap.objs.size f cdv))) :
    CC W (defS N sc) k (cxOf CX0 W.P W.w W.K W.mg W.base N qual sc f cdv A outer s H E).nox := ⟨rfl, rfl, rfl, rfl, rfl, rfl, rfl, rfl, rfl, hr⟩
theorem cc_blk {W : Gx} {S : Sc} {k : Nat} {X : Cx} (h : CC W S k X) (scope : Scope) (s : Shared) (H : Hp) (C : Addr) (cl : List (Str × Addr)) (fp : List Addr) : CC W (blkS S scope) k (X.blk s H scope (compEnvC scope cl C X.env) fp) :=
  ⟨h.P, h.w, h.K, h.mg, h.base, h.N, by
    show relabel scope X.env = relS scope S.sc
    rw [← h.sc]
    rfl, rfl, h.calm, h.room⟩
structure wE (W : Gx) (S : Sc) (k : Nat) (e : Expr) (σ : L2.St) (H : Hp) (Q : VK) : Prop where
  run : ∀ X, CC W S k X → ∀ pins s, Inv X pins σ H s → wpAny (model X.prog X.w) X.A (eval e X.env) (EP X pins σ Q) X.xe s
structure wT (W : Gx) (S : Sc) (k : Nat) (e : Expr) (σ : L2.St) (H : Hp) (Q : Bool → Hp → Prop) : Prop where
  run : ∀ X, CC W S k X → ∀ pins s, Inv X pins σ H s → wpAny (model X.prog X.w) X.A (isTrue e X.env (eval e X.env)) (TP X pins σ Q) X.xe s
structure wA (W : Gx) (S : Sc) (k : Nat) (es : List Expr) (σ : L2.St) (H : Hp) (Q : List V → Hp → Prop) : Prop where
  run : ∀ X, CC W S k X → ∀ (pos : Pos) pins s, Inv X pins σ H s → wpAny (model X.prog X.w) X.A (spliced (backTo pos (starEach es X.env))) (AP X pins σ Q) X.xe s
structure wI (W : Gx) (S : Sc) (k : Nat) (tg iter : Expr) (σ : L2.St) (H : Hp) (R : It → Hp → Prop) : Prop where
  run : ∀ X, CC W S k X → ∀ pins s, Inv X pins σ H s → wpAny (model X.prog X.w) X.A (eval iter X.env) (fun v s1 => wpAny (model X.prog X.w) X.A (pyIter v) (PIE X pins σ tg R) X.xe s1) X.xe s
structure wG (W : Gx) (S : Sc) (k : Nat) (tg : Expr) (v : V) (σ : L2.St) (H : Hp) (Q : L2.St → Hp → Prop) : Prop where
  run : ∀ X, CC W S k X → ∀ pins s u, Inv X pins σ H s → RelV v u → wpAny (model X.prog X.w) X.A (assign tg X.env u) (fun _ s' => ∃ σ' H', Inv X pins σ' H' s' ∧ Q σ' H') X.xe s
structure wS (W : Gx) (S : Sc) (k : Nat) (st : Stmt) (D : Ends) (σ : L2.St) (H : Hp) : Prop where
  run : ∀ X, CC W S k X → ∀ pins s, Inv X pins σ H s → wpAny (model X.prog X.w) X.A (exec st X.env) (SP X pins D) X.xe s
structure wSs (W : Gx) (S : Sc) (k : Nat) (st : List Stmt) (D : Ends) (σ : L2.St) (H : Hp) : Prop where
  run : ∀ X, CC W S k X → ∀ pins s, Inv X pins σ H s → wpAny (model X.prog X.w) X.A (execs st X.env) (SP X pins D) X.xe s
section
variable {W : Gx} {S : Sc} {k : Nat} {X : Cx}
theorem pe_w (h : CC W S k X) (e : Expr) : PE X e (wE W S k e) := ⟨fun pins s _ _ _ I q => q.run X h pins s I⟩
theorem pt_w (h : CC W S k X) (e : Expr) : PT X e (wT W S k e) := ⟨fun pins s _ _ _ I q => q.run X h pins s I⟩
theorem pa_w (h : CC W S k X) (es : List Expr) : PA X es (wA W S k es) := ⟨fun pos pins s _ _ _ I q => q.run X h pos pins s I⟩
theorem pi_w (h : CC W S k X) (tg it : Expr) : PI X tg it (wI W S k tg it) := ⟨fun pins s _ _ _ I q => q.run X h pins s I⟩
theorem pg_w (h : CC W S k X) (tg : Expr) : PG X tg (wG W S k tg) := ⟨fun pins s _ _ _ u _ I r q => q.run X h pins s u I r⟩
theorem ps_w (h : CC W S k X) (st : Stmt) : PS X st (wS W S k st) := ⟨fun pins s _ _ _ I q => q.run X h pins s I⟩
theorem pss_w (h : CC W S k X) (st : List Stmt) : PSs X st (wSs W S k st) := ⟨fun pins s _ _ _ I q => q.run X h pins s I⟩
theorem wE_of {e : Expr} {t : TE} (hp : ∀ X, CC W S k X → PE X e t) {σ : L2.St} {H : Hp} {Q : VK} (h : t σ H Q) : wE W S k e σ H Q := ⟨fun X hX pins s I => (hp X hX).run pins s σ H Q I h⟩
theorem wT_of {e : Expr} {t : TT} (hp : ∀ X, CC W S k X → PT X e t) {σ : L2.St} {H : Hp} {Q : Bool → Hp → Prop} (h : t σ H Q) : wT W S k e σ H Q := ⟨fun X hX pins s I => (hp X hX).run pins s σ H Q I h⟩
theorem wA_of {es : List Expr} {t : TA} (hp : ∀ X, CC W S k X → PA X es t) {σ : L2.St} {H : Hp} {Q : List V → Hp → Prop} (h : t σ H Q) : wA W S k es σ H Q := ⟨fun X hX pos pins s I => (hp X hX).run pos pins s σ H Q I h⟩
theorem wI_of {tg it : Expr} {t : TI} (hp : ∀ X, CC W S k X → PI X tg it t) {σ : L2.St} {H : Hp} {R : It → Hp → Prop} (h : t σ H R) : wI W S k tg it σ H R := ⟨fun X hX pins s I => (hp X hX).run pins s σ H R I h⟩
theorem wG_of {tg : Expr} {t : TG} (hp : ∀ X, CC W S k X → PG X tg t) {v : V} {σ : L2.St} {H : Hp} {Q : L2.St → Hp → Prop} (h : t v σ H Q) : wG W S k tg v σ H Q := ⟨fun X hX pins s u I r => (hp X hX).run pins s σ H v u Q I r h⟩
theorem wS_of {st : Stmt} {t : TS} (hp : ∀ X, CC W S k X → PS X st t) {σ : L2.St} {H : Hp} {D : Ends} (h : t D σ H) : wS W S k st D σ H := ⟨fun X hX pins s I => (hp X hX).run pins s σ H D I h⟩
theorem wSs_of {st : List Stmt} {t : TS} (hp : ∀ X, CC W S k X → PSs X st t) {σ : L2.St} {H : Hp} {D : Ends} (h : t D σ H) : wSs W S k st D σ H := ⟨fun X hX pins s I => (hp X hX).run pins s σ H D I h⟩
theorem wE_X {e : Expr} {t : Cx → TE} (hp : ∀ X, CC W S k X → PE X e (t X)) {σ : L2.St} {H : Hp} {Q : VK} (h : ∀ X, CC W S k X → t X σ H Q) : wE W S k e σ H Q := ⟨fun X hX pins s I => (hp X hX).run pins s σ H Q I (h X hX)⟩
theorem wT_X {e : Expr} {t : Cx → TT} (hp : ∀ X, CC W S k X → PT X e (t X)) {σ : L2.St} {H : Hp} {Q : Bool → Hp → Prop} (h : ∀ X, CC W S k X → t X σ H Q) : wT W S k e σ H Q := ⟨fun X hX pins s I => (hp X hX).run pins s σ H Q I (h X hX)⟩
theorem wA_X {es : List Expr} {t : Cx → TA} (hp : ∀ X, CC W S k X → PA X es (t X)) {σ : L2.St} {H : Hp} {Q : List V → Hp → Prop} (h : ∀ X, CC W S k X → t X σ H Q) : wA W S k es σ H Q := ⟨fun X hX pos pins s I => (hp X hX).run pos pins s σ H Q I (h X hX)⟩
theorem wI_X {tg it : Expr} {t : Cx → TI} (hp : ∀ X, CC W S k X → PI X tg it (t X)) {σ : L2.St} {H : Hp} {R : It → Hp → Prop} (h : ∀ X, CC W S k X → t X σ H R) : wI W S k tg it σ H R := ⟨fun X hX pins s I => (hp X hX).run pins s σ H R I (h X hX)⟩
theorem wG_X {tg : Expr} {t : Cx → TG} (hp : ∀ X, CC W S k X → PG X tg (t X)) {v : V} {σ : L2.St} {H : Hp} {Q : L2.St → Hp → Prop} (h : ∀ X, CC W S k X → t X v σ H Q) : wG W S k tg v σ H Q := ⟨fun X hX pins s u I r => (hp X hX).run pins s σ H v u Q I r (h X hX)⟩
theorem wS_X {st : Stmt} {t : Cx → TS} (hp : ∀ X, CC W S k X → PS X st (t X)) {σ : L2.St} {H : Hp} {D : Ends} (h : ∀ X, CC W S k X → t X D σ H) : wS W S k st D σ H := ⟨fun X hX pins s I => (hp X hX).run pins s σ H D I (h X hX)⟩
theorem wSs_cons {st : Stmt} {r : List Stmt} {σ : L2.St} {H : Hp} {D : Ends} (h : wS W S k st { D with nx := wSs W S k r D } σ H) : wSs W S k (st :: r) D σ H := wSs_of (fun X hX => pss_cons (ps_w hX st) (pss_w hX r)) h
theorem wSs_one {st : Stmt} {σ : L2.St} {H : Hp} {D : Ends} (h : wS W S k st D σ H) : wSs W S k [st] D σ H := wSs_of (fun X hX => pss_one (ps_w hX st)) h
theorem wSs_nil {σ : L2.St} {H : Hp} {D : Ends} (h : D.nx σ H) : wSs W S k [] D σ H := wSs_of (fun X hX => pss_nil) h
end
section
variable (W : Gx) (S : Sc) (k : Nat)
/-- the expression comes to a value of which P is true -/
def JP (e : Expr) (env : List Sl) (P : V → Hp → Hp → Prop) : Prop := ∀ σ G H, Ex G H → EnvR W.K G H σ env → ∀ Q : VK, (∀ v G' H', Stp G H G' H' → P v G' H' → Q v H') → wE W S k e σ H Q
/-- .. to the datum d -/
def J (e : Expr) (env : List Sl) (d : D) : Prop := JP W S k e env fun v G' _ => Rep W.K G' d v
/-- .. to a list (read here and now) of the items ds | a new list | a tuple -/
def JL (e : Expr) (env : List Sl) (ds : List D) : Prop := JP W S k e env fun v G' H' => ∃ a vs, v = .ref a ∧ H' a = some (.lst vs) ∧ Reps W.K G' ds vs
def JN (e : Expr) (env : List Sl) (ds : List D) : Prop := ∀ σ G H, Ex G H → EnvR W.K G H σ env → ∀ Q : VK, (∀ p vs G' H', Stp G H G' H' → H p = none → G' p = none → H' p = some (.lst vs) → Reps W.K G' ds vs → Q (.ref p) H') → wE W S k e σ H Q
def JT (e : Expr) (env : List Sl) (b : Bool) : Prop := ∀ σ G H, Ex G H → EnvR W.K G H σ env → ∀ Q : Bool → Hp → Prop, (∀ G' H', Stp G H G' H' → Q b H') → wT W S k e σ H Q
def JA (es : List Expr) (env : List Sl) (ds : List D) : Prop := ∀ σ G H, Ex G H → EnvR W.K G H σ env → ∀ Q : List V → Hp → Prop, (∀ vs G' H', Stp G H G' H' → Reps W.K G' ds vs → Q vs H') → wA W S k es σ H Q
end
/-- a source of turns: the items of a list, a tuple, a text .. -/
structure ItOk (K : PySem.W.Frag) (G' : Hp) (J : It) (ds : List D) : Prop where
  go : ∀ i G1 H1, i < ds.length → Ex G' G1 → Ex G1 H1 → J.go i H1
  stop : ∀ G1 H1, Ex G' G1 → Ex G1 H1 → J.stop ds.length H1
  yld : ∀ i d G1 H1 x H2, ds[i]? = some d → Ex G' G1 → Ex G1 H1 → J.yld i H1 x H2 → ∃ G2, Stp G1 H1 G2 H2 ∧ Rep K G2 d x
def JI (W : Gx) (S : Sc) (k : Nat) (tg it : Expr) (env : List Sl) (ds : List D) : Prop := ∀ σ G H, Ex G H → EnvR W.K G H σ env → ∀ R : It → Hp → Prop, (∀ I G' H', Stp G H G' H' → ItOk W.K G' I ds → R I H') → wI W S k tg it σ H R
section
variable {W : Gx} {S : Sc} {k : Nat} {env : List Sl}
theorem JP.imp {e : Expr} {P P' : V → Hp → Hp → Prop} (h : JP W S k e env P) (hp : ∀ v G' H', Ex G' H' → P v G' H' → P' v G' H') : JP W S k e env P' := fun σ G H x E Q q => h σ G H x E Q fun v G' H' s p => q v G' H' s (hp v G' H' s.s p)
theorem JN.lst {e : Expr} {ds : List D} (h : JN W S k e env ds) : J W S k e env (.lst ds) := fun σ G H x E Q q => h σ G H x E Q fun p vs G' H' s hn hg hh r =>
  q (.ref p) (upd G' p (.lst vs)) H' (s.freeze hn hg hh) ⟨p, vs, rfl, upd_same, r.mono (.new hg)⟩
theorem JN.l {e : Expr} {ds : List D} (h : JN W S k e env ds) : JL W S k e env ds := fun σ G H x E Q q => h σ G H x E Q fun p vs G' H' s hn hg hh r =>
  q (.ref p) G' H' s ⟨p, vs, rfl, hh, r⟩
theorem J.l {e : Expr} {ds : List D} (h : J W S k e env (.lst ds)) : JL W S k e env ds := JP.imp h fun v G' H' x ⟨a, vs, e, h1, h2⟩ => ⟨a, vs, e, x _ _ h1, h2⟩
theorem J.is {e : Expr} {d d' : D} (h : J W S k e env d) (x : d = d') : J W S k e env d' := x ▸ h
theorem JN.is {e : Expr} {d d' : List D} (h : JN W S k e env d) (x : d = d') : JN W S k e env d' := x ▸ h
theorem JT.is {e : Expr} {d d' : Bool} (h : JT W S k e env d) (x : d = d') : JT W S k e env d' := x ▸ h
theorem J.le {e : Expr} {d : D} {env' : List Sl} (h : J W S k e env' d) (l : Le env env') : J W S k e env d := fun σ G H x E Q q => h σ G H x (E.le l) Q q
/-- a name that the piece sees -/
abbrev VisS (S : Sc) (x : Str) : Prop := Vis S.sc x
theorem j_var {i : Nat} {x : Str} {pos : Pos} {d : D} (hN : S.N[i]? = some x) (hv : VisS S x) (he : env[i]? = some (.d d)) (hd : (x == ("__debug__" : Str)) = false := by decide) (hcd : (x == ("__classdict__" : Str)) = false := by decide) : J W S k (.Name x pos) env d :=
  fun σ G H x0 E Q q => wE_of (fun X hX => pe_var (i := i) (by rw [hX.N]; exact hN) (by rw [hX.sc]; exact hv) hd hcd) (by
    obtain ⟨v, e, r⟩ := E.d he
    exact ⟨v, e, q v G H (.refl x0) r⟩)
/-- a name that holds a list that is being made -/
theorem jl_var {i : Nat} {x : Str} {pos : Pos} {ds : List D} (hN : S.N[i]? = some x) (hv : VisS S x) (he : env[i]? = some (.own ds)) (hd : (x == ("__debug__" : Str)) = false := by decide) (hcd : (x == ("__classdict__" : Str)) = false := by decide) : JL W S k (.Name x pos) env ds :=
  fun σ G H x0 E Q q => wE_of (fun X hX => pe_var (i := i) (by rw [hX.N]; exact hN) (by rw [hX.sc]; exact hv) hd hcd) (by
    obtain ⟨o, e, p, vs, rfl, h1, h2, r⟩ := E.get he
    exact ⟨.ref p, e, q (.ref p) G H (.refl x0) ⟨p, vs, rfl, h1, r⟩⟩)
theorem j_int {i : Int} {j pos} : J W S k (.Constant (.int i) j pos) env (.int i) := fun σ G H x E Q q => wE_of (fun X hX => pe_int) (q _ G H (.refl x) rfl)
theorem j_bl {b : Bool} {j pos} : J W S k (.Constant (.bool b) j pos) env (.bl b) := fun σ G H x E Q q => wE_of (fun X hX => pe_bl) (q _ G H (.refl x) rfl)
theorem j_non {j pos} : J W S k (.Constant .none j pos) env .non := fun σ G H x E Q q => wE_of (fun X hX => pe_non) (q _ G H (.refl x) rfl)
theorem j_str {z : Str} {j pos} : J W S k (.Constant (.str z) j pos) env (.str z) := fun σ G H x E Q q => wE_of (fun X hX => pe_str) (q _ G H (.refl x) rfl)
abbrev GlS (S : Sc) (x : Str) : Prop := S.sc.names.lookup x = some .globalImplicit
theorem CC.gl {X : Cx} (h : CC W S k X) {x : Str} (g : GlS S x) : Gl X x := by
  show X.env.scope.names.lookup x = _
  rw [h.sc]
  exact g
theorem j_glob {x : Str} {pos : Pos} {d : D} {v : V} {u : Value} (hg : GlS S x) (hm : W.mg x = some u) (r : RelV v u) (hr : ∀ G, Rep W.K G d v) (hd : (x == ("__debug__" : Str)) = false := by decide) : J W S k (.Name x pos) env d :=
  fun σ G H x0 E Q q => wE_of (fun X hX => pe_glob (hX.gl hg) (by rw [hX.mg]; exact hm) r hd) (q v G H (.refl x0) (hr G))
/-- not a starred one -/
abbrev Plain (e : Expr) : Prop := ∀ (es : List Expr) (env : Env), starEach (e :: es) env = (false, eval e env) :: starEach es env
theorem ja_nil : JA W S k [] env [] := fun σ G H x E Q q => wA_of (fun X hX => pa_nil) (q [] G H (.refl x) rfl)
theorem ja_cons {e : Expr} {es : List Expr} {d : D} {ds : List D} (h1 : J W S k e env d) (h2 : JA W S k es env ds) (hp : Plain e := by intro _ _; rfl) : JA W S k (e :: es) env (d :: ds) := fun σ G H x E Q q =>
  wA_of (fun X hX => pa_cons (pe_w hX e) (pa_w hX es) (hp es X.env)) (h1 σ G H x E _ fun v G1 H1 s1 r1 => h2 σ G1 H1 s1.s (E.mono s1) _ fun vs G2 H2 s2 r2 => q (v :: vs) G2 H2 (s1.trans s2) ⟨v, vs, rfl, r1.mono s2.g, r2⟩)
theorem ja_star {e : Expr} {es : List Expr} {p : Pos} {ds es' : List D} (h1 : JL W S k e env ds) (h2 : JA W S k es env es') (hs : ∀ env, starEach (.Starred e p :: es) env = (true, eval e env) :: starEach es env := by intro _; rfl) : JA W S k (.Starred e p :: es) env (ds ++ es') := fun σ G H x E Q q =>
  wA_X (fun X hX => StX.pa_star (pe_w hX e) (pa_w hX es) (hs X.env)) fun X hX => (h1 σ G H x E _ fun v G1 H1 s1 ⟨a, vs, e, r1, r2⟩ => ⟨a, vs, e, .inr (by rw [hX.K]; exact .of r1), h2 σ G1 H1 s1.s (E.mono s1) _ fun us G2 H2 s2 r3 => q (vs ++ us) G2 H2 (s1.trans s2) ((r2.mono s2.g).append r3)⟩)
theorem ja_starT {e : Expr} {es : List Expr} {p : Pos} {ds es' : List D} (h1 : J W S k e env (.tup ds)) (h2 : JA W S k es env es') (hs : ∀ env, starEach (.Starred e p :: es) env = (true, eval e env) :: starEach es env := by intro _; rfl) : JA W S k (.Starred e p :: es) env (ds ++ es') := fun σ G H x E Q q =>
  wA_X (fun X hX => StX.pa_star (pe_w hX e) (pa_w hX es) (hs X.env)) fun X hX => (h1 σ G H x E _ fun v G1 H1 s1 ⟨a, vs, e, r1, r2⟩ => ⟨a, vs, e, .inl (by rw [hX.K]; exact .of (s1.s _ _ r1)), h2 σ G1 H1 s1.s (E.mono s1) _ fun us G2 H2 s2 r3 => q (vs ++ us) G2 H2 (s1.trans s2) ((r2.mono s2.g).append r3)⟩)
theorem sz {n : Nat} (h : n ≤ 100000) : n ≤ sizeLine := Nat.le_trans h (by decide)
theorem szlt {n : Nat} (h : n < 100000) : n < sizeLine := Nat.lt_of_lt_of_le h (by decide)
theorem j_tup {es : List Expr} {ds : List D} {x1 pos} (h : JA W S k es env ds) (hl : ds.length ≤ 100000 := by decide) : J W S k (.Tuple es x1 pos) env (.tup ds) := fun σ G H x E Q q =>
  wE_of (fun X hX => pe_tup (pa_w hX es)) (h σ G H x E _ fun vs G1 H1 s1 r => ⟨sz (by rw [r.length]; exact hl), fun p hp => q (.ref p) _ _ (s1.trans (.new s1.s hp)) ⟨p, vs, rfl, upd_same, r.mono (.new (s1.s.none hp))⟩⟩)
theorem jn_lst {es : List Expr} {ds : List D} {pos} (h : JA W S k es env ds) (hl : ds.length ≤ 100000 := by decide) : JN W S k (.List es pos) env ds := fun σ G H x E Q q =>
  wE_of (fun X hX => pe_lst (pa_w hX es)) (h σ G H x E _ fun vs G1 H1 s1 r => ⟨sz (by rw [r.length]; exact hl), fun p hp => q p vs G1 _ (s1.trans (.newO s1.s hp)) (s1.h.none hp) (s1.s.none hp) upd_same r⟩)
theorem jp_op {op : Operator} {r : R2} {a b : Expr} {pos : Pos} {A B : V → Hp → Hp → Prop} {P : V → Hp → Hp → Prop} (ho : ∀ X, CC W S k X → OpR X (binaryOp op) r) (ha : JP W S k a env A) (hb : JP W S k b env B)
    (hA : ∀ v G H G' H', Stp G H G' H' → A v G H → A v G' H') (hr : ∀ x y G H, Ex G H → A x G H → B y G H → ∀ Q : VK, (∀ v G' H', Stp G H G' H' → P v G' H' → Q v H') → r x y H Q) : JP W S k (.BinOp a op b pos) env P := fun σ G H x E Q q =>
  wE_of (fun X hX => pe_op (ho X hX) (pe_w hX a) (pe_w hX b)) (ha σ G H x E _ fun u G1 H1 s1 h1 => hb σ G1 H1 s1.s (E.mono s1) _ fun v G2 H2 s2 h2 =>
    hr u v G2 H2 s2.s (hA u _ _ _ _ s2 h1) h2 Q fun v' G3 H3 s3 p => q v' G3 H3 ((s1.trans s2).trans s3) p)
theorem rep_stab {K : PySem.W.Frag} {d : D} : ∀ v G H G' H', Stp G H G' H' → Rep K G d v → Rep K G' d v := fun _ _ _ _ _ s h => h.mono s.g
theorem lst_stab {K : PySem.W.Frag} {ds : List D} : ∀ v G H G' H', Stp G H G' H' → (∃ a vs, v = V.ref a ∧ H a = some (.lst vs) ∧ Reps K G ds vs) → (∃ a vs, v = V.ref a ∧ H' a = some (.lst vs) ∧ Reps K G' ds vs) := fun _ _ _ _ _ s ⟨a, vs, e, h1, h2⟩ => ⟨a, vs, e, s.h _ _ h1, h2.mono s.g⟩
variable {a b c : Expr} {pos : Pos} {i j : Int} {y z : Str}
theorem j_opI0 {op : Operator} {g : Int → Int → Int} (ho : ∀ X : Cx, OpR X (binaryOp op) (rI0 fun i j => .int (g i j))) (ha : J W S k a env (.int i)) (hb : J W S k b env (.int j)) : J W S k (.BinOp a op b pos) env (.int (g i j)) :=
  jp_op (fun X _ => ho X) ha hb rep_stab fun x y G H e h1 h2 Q q => ⟨i, j, h1, h2, q _ G H (.refl e) rfl⟩
theorem j_opI {op : Operator} {C : Int → Int → Prop} {g : Int → Int → Int} (ho : ∀ X : Cx, OpR X (binaryOp op) (rI C fun i j => .int (g i j))) (ha : J W S k a env (.int i)) (hb : J W S k b env (.int j)) (hc : C i j) : J W S k (.BinOp a op b pos) env (.int (g i j)) :=
  jp_op (fun X _ => ho X) ha hb rep_stab fun x y G H e h1 h2 Q q => ⟨i, j, h1, h2, hc, q _ G H (.refl e) rfl⟩
theorem j_add (ha : J W S k a env (.int i)) (hb : J W S k b env (.int j)) : J W S k (.BinOp a .Add b pos) env (.int (i + j)) := j_opI0 (fun _ => op_add) ha hb
theorem j_sub (ha : J W S k a env (.int i)) (hb : J W S k b env (.int j)) : J W S k (.BinOp a .Sub b pos) env (.int (i - j)) := j_opI0 (fun _ => op_sub) ha hb
theorem j_mul (ha : J W S k a env (.int i)) (hb : J W S k b env (.int j)) (hc : CMul i j) : J W S k (.BinOp a .Mult b pos) env (.int (i * j)) := j_opI (fun _ => op_mul) ha hb hc
theorem j_addS (ha : J W S k a env (.str y)) (hb : J W S k b env (.str z)) (hl : y.length + z.length ≤ 100000) : J W S k (.BinOp a .Add b pos) env (.str (y ++ z)) :=
  jp_op (fun X _ => op_add_str) ha hb rep_stab fun x y' G H e h1 h2 Q q => ⟨y, z, h1, h2, sz hl, q _ G H (.refl e) rfl⟩
/-- list + list: a new one -/
theorem jn_cat {ds es : List D} (ha : JL W S k a env ds) (hb : JL W S k b env es) (hl : ds.length + es.length ≤ 100000) : JN W S k (.BinOp a .Add b pos) env (ds ++ es) := fun σ G H x E Q q =>
  wE_of (fun X hX => pe_op op_cat (pe_w hX a) (pe_w hX b)) (ha σ G H x E _ fun u G1 H1 s1 ⟨p1, xs, e1, h1, r1⟩ => hb σ G1 H1 s1.s (E.mono s1) _ fun v G2 H2 s2 ⟨p2, ys, e2, h2, r2⟩ => by
    subst e1 e2
    refine ⟨p1, p2, xs, ys, rfl, rfl, s2.h _ _ h1, h2, sz (by rw [r1.length, r2.length]; exact hl), fun p hp => ?_⟩
    have s := s1.trans s2
    exact q p (xs ++ ys) G2 _ (s.trans (.newO s.s hp)) (s.h.none hp) (s.s.none hp) upd_same ((r1.mono s2.g).append r2))
end
end TH
set_option maxHeartbeats 4000000
namespace TH
open PySem PySem.Spec PyProof.Rows L2
section
variable {W : Gx} {S : Sc} {k : Nat} {env : List Sl} {a b c e : Expr} {pos p p2 : Pos} {i j : Int} {y z : Str}
theorem jp_callB {id : String} {x : Str} {es : List Expr} {ds : List D} {r : Cx → List V → Hp → VK → Prop} {P : V → Hp → Hp → Prop} (hc : ∀ X, CC W S k X → CallR X (.builtin id) (r X)) (hg : GlS S x) (hm : W.mg x = none) (hv : bootBuiltins x = some (.builtin id)) (ha : JA W S k (e :: es) env ds)
    (he : Plain e := by intro _ _; rfl) (hpl : ∀ env : Env, (backTo pos (starEach es env)).any (·.1) = false := by intro _; rfl) (hn : x ≠ "__name__" := by decide) (hdb : (x == ("__debug__" : Str)) = false := by decide)
    (hr : ∀ X vs G H, CC W S k X → Ex G H → Reps W.K G ds vs → ∀ Q : VK, (∀ v G' H', Stp G H G' H' → P v G' H' → Q v H') → r X vs H Q) : JP W S k (.Call (.Name x p) (e :: es) [] pos) env P := fun σ G H x0 E Q q =>
  wE_X (fun X hX => pe_callB (hc X hX) (hX.gl hg) (by rw [hX.mg]; exact hm) hv (pa_w hX _) hn hdb (he es X.env) (hpl X.env)) fun X hX => ha σ G H x0 E _ fun vs G1 H1 s1 r1 => hr X vs G1 H1 hX s1.s r1 Q fun v G2 H2 s2 p => q v G2 H2 (s1.trans s2) p
theorem jp_callTy {T : String} {x : Str} {es : List Expr} {ds : List D} {r : Cx → List V → Hp → VK → Prop} {P : V → Hp → Hp → Prop} (hc : ∀ X, CC W S k X → CallR X (.type T) (r X)) (hg : GlS S x) (hm : W.mg x = none) (hv : bootBuiltins x = some (.type T)) (ha : JA W S k (e :: es) env ds)
    (he : Plain e := by intro _ _; rfl) (hpl : ∀ env : Env, (backTo pos (starEach es env)).any (·.1) = false := by intro _; rfl) (hn : x ≠ "__name__" := by decide) (hdb : (x == ("__debug__" : Str)) = false := by decide)
    (hr : ∀ X vs G H, CC W S k X → Ex G H → Reps W.K G ds vs → ∀ Q : VK, (∀ v G' H', Stp G H G' H' → P v G' H' → Q v H') → r X vs H Q) : JP W S k (.Call (.Name x p) (e :: es) [] pos) env P := fun σ G H x0 E Q q =>
  wE_X (fun X hX => pe_callTy (hc X hX) (hX.gl hg) (by rw [hX.mg]; exact hm) hv (pa_w hX _) hn hdb (he es X.env) (hpl X.env)) fun X hX => ha σ G H x0 E _ fun vs G1 H1 s1 r1 => hr X vs G1 H1 hX s1.s r1 Q fun v G2 H2 s2 p => q v G2 H2 (s1.trans s2) p
/-- .. of one list, read where it stands -/
theorem jp_callBL {id : String} {x : Str} {ds : List D} {r : Cx → List V → Hp → VK → Prop} {P : V → Hp → Hp → Prop} (hc : ∀ X, CC W S k X → CallR X (.builtin id) (r X)) (hg : GlS S x) (hm : W.mg x = none) (hv : bootBuiltins x = some (.builtin id)) (ha : JL W S k e env ds)
    (hr : ∀ X a vs G H, CC W S k X → Ex G H → H a = some (.lst vs) → Reps W.K G ds vs → ∀ Q : VK, (∀ v G' H', Stp G H G' H' → P v G' H' → Q v H') → r X [.ref a] H Q)
    (he : Plain e := by intro _ _; rfl) (hn : x ≠ "__name__" := by decide) (hdb : (x == ("__debug__" : Str)) = false := by decide) : JP W S k (.Call (.Name x p) [e] [] pos) env P := fun σ G H x0 E Q q =>
  wE_X (fun X hX => pe_callB (hc X hX) (hX.gl hg) (by rw [hX.mg]; exact hm) hv (pa_cons (pe_w hX e) pa_nil (he [] X.env)) hn hdb (he [] X.env) rfl) fun X hX => ha σ G H x0 E _ fun v G1 H1 s1 ⟨a, vs, e1, h1, r1⟩ => by
    subst e1
    exact hr X a vs G1 H1 hX s1.s h1 r1 Q fun v G2 H2 s2 p => q v G2 H2 (s1.trans s2) p
theorem jp_callTyL {T : String} {x : Str} {ds : List D} {r : Cx → List V → Hp → VK → Prop} {P : V → Hp → Hp → Prop} (hc : ∀ X, CC W S k X → CallR X (.type T) (r X)) (hg : GlS S x) (hm : W.mg x = none) (hv : bootBuiltins x = some (.type T)) (ha : JL W S k e env ds)
    (hr : ∀ X a vs G H, CC W S k X → Ex G H → H a = some (.lst vs) → Reps W.K G ds vs → ∀ Q : VK, (∀ v G' H', Stp G H G' H' → P v G' H' → Q v H') → r X [.ref a] H Q)
    (he : Plain e := by intro _ _; rfl) (hn : x ≠ "__name__" := by decide) (hdb : (x == ("__debug__" : Str)) = false := by decide) : JP W S k (.Call (.Name x p) [e] [] pos) env P := fun σ G H x0 E Q q =>
  wE_X (fun X hX => pe_callTy (hc X hX) (hX.gl hg) (by rw [hX.mg]; exact hm) hv (pa_cons (pe_w hX e) pa_nil (he [] X.env)) hn hdb (he [] X.env) rfl) fun X hX => ha σ G H x0 E _ fun v G1 H1 s1 ⟨a, vs, e1, h1, r1⟩ => by
    subst e1
    exact hr X a vs G1 H1 hX s1.s h1 r1 Q fun v G2 H2 s2 p => q v G2 H2 (s1.trans s2) p
theorem j_sum {ns : List Int} (ha : JL W S k e env (ns.map D.int)) (hg : GlS S "sum" := by exact rfl) (hm : W.mg "sum" = none := by assumption) (he : Plain e := by intro _ _; rfl) : J W S k (.Call (.Name "sum" p) [e] [] pos) env (.int ns.sum) :=
  jp_callBL (r := fun X => rSum X.K) (fun X hX => cr_sum hX.calm) hg hm (by decide +kernel) ha (fun X a vs G H hX x h r Q q => by
    rw [hX.K]
    exact ⟨a, ns, rfl, .of (by rw [← r.ints]; exact h), q _ G H (.refl x) rfl⟩) he
theorem j_all {bs : List Bool} (ha : JL W S k e env (bs.map D.bl)) (hg : GlS S "all" := by exact rfl) (hm : W.mg "all" = none := by assumption) (he : Plain e := by intro _ _; rfl) : J W S k (.Call (.Name "all" p) [e] [] pos) env (.bl (bs.all id)) :=
  jp_callBL (r := fun X => rAll X.K) (fun X hX => cr_all hX.calm) hg hm (by decide +kernel) ha (fun X a vs G H hX x h r Q q => by
    rw [hX.K]
    exact ⟨a, bs, rfl, .of (by rw [← r.bls]; exact h), q _ G H (.refl x) rfl⟩) he
theorem j_tupleL {ds : List D} (ha : JL W S k e env ds) (hg : GlS S "tuple" := by exact rfl) (hm : W.mg "tuple" = none := by assumption) (he : Plain e := by intro _ _; rfl) : J W S k (.Call (.Name "tuple" p) [e] [] pos) env (.tup ds) :=
  jp_callTyL (r := fun X => fun xs H Q => ∃ p ys, xs = [.ref p] ∧ ((SqL X.K H p ys ∧ ∀ l, H l = none → Q (.ref l) (upd H l (.tup ys))) ∨ (SqT X.K H p ys ∧ Q (.ref p) H))) (fun X hX => call_tuple_of) hg hm (by decide +kernel) ha (fun X a vs G H hX x h r Q q =>
    ⟨a, vs, rfl, .inl ⟨.of h, fun l hl => q (.ref l) _ _ (.new x hl) ⟨l, vs, rfl, upd_same, r.mono (.new (x.none hl))⟩⟩⟩) he
theorem jn_listL {ds : List D} (ha : JL W S k e env ds) (hg : GlS S "list" := by exact rfl) (hm : W.mg "list" = none := by assumption) (he : Plain e := by intro _ _; rfl) : JN W S k (.Call (.Name "list" p) [e] [] pos) env ds := fun σ G H x0 E Q q =>
  wE_X (fun X hX => pe_callTy call_list_of (hX.gl hg) (by rw [hX.mg]; exact hm) (by decide +kernel) (pa_cons (pe_w hX e) pa_nil (he [] X.env)) (by decide) (by decide) (he [] X.env) rfl) fun X hX => ha σ G H x0 E _ fun v G1 H1 s1 ⟨a, vs, e1, h1, r1⟩ => by
    subst e1
    exact ⟨a, vs, rfl, .inl (.of h1), fun l hl => q l vs G1 _ (s1.trans (.newO s1.s hl)) (s1.h.none hl) (s1.s.none hl) upd_same r1⟩
theorem jn_listT {ds : List D} (ha : J W S k e env (.tup ds)) (hg : GlS S "list" := by exact rfl) (hm : W.mg "list" = none := by assumption) (he : Plain e := by intro _ _; rfl) : JN W S k (.Call (.Name "list" p) [e] [] pos) env ds := fun σ G H x0 E Q q =>
  wE_X (fun X hX => pe_callTy call_list_of (hX.gl hg) (by rw [hX.mg]; exact hm) (by decide +kernel) (pa_cons (pe_w hX e) pa_nil (he [] X.env)) (by decide) (by decide) (he [] X.env) rfl) fun X hX => ha σ G H x0 E _ fun v G1 H1 s1 ⟨a, vs, e1, h1, r1⟩ => by
    subst e1
    exact ⟨a, vs, rfl, .inr (.of (s1.s _ _ h1)), fun l hl => q l vs G1 _ (s1.trans (.newO s1.s hl)) (s1.h.none hl) (s1.s.none hl) upd_same r1⟩
theorem j_lenL {ds : List D} (ha : JL W S k e env ds) (hg : GlS S "len" := by exact rfl) (hm : W.mg "len" = none := by assumption) (he : Plain e := by intro _ _; rfl) : J W S k (.Call (.Name "len" p) [e] [] pos) env (.int (ds.length : Int)) :=
  jp_callBL (r := fun X => fun xs H Q => ∃ p ys, xs = [.ref p] ∧ (SqL X.K H p ys ∨ SqT X.K H p ys) ∧ Q (.int ys.length) H) (fun X hX => call_len_seq) hg hm (by decide +kernel) ha (fun X a vs G H hX x h r Q q =>
    ⟨a, vs, rfl, .inl (.of h), q _ G H (.refl x) (by show V.int _ = V.int _; rw [r.length])⟩) he
theorem j_lenT {ds : List D} (ha : J W S k e env (.tup ds)) (hg : GlS S "len" := by exact rfl) (hm : W.mg "len" = none := by assumption) (he : Plain e := by intro _ _; rfl) : J W S k (.Call (.Name "len" p) [e] [] pos) env (.int (ds.length : Int)) :=
  jp_callB (r := fun X => fun xs H Q => ∃ p ys, xs = [.ref p] ∧ (SqL X.K H p ys ∨ SqT X.K H p ys) ∧ Q (.int ys.length) H) (fun X hX => call_len_seq) hg hm (by decide +kernel) (ja_cons ha ja_nil he) he (fun _ => rfl) (hr := fun X vs G H hX x ⟨v, r, e1, ⟨a, us, e2, h1, h2⟩, e3⟩ Q q => by
    subst e1
    subst e2
    rw [show r = [] from e3]
    exact ⟨a, us, rfl, .inr (.of (x _ _ h1)), q _ G H (.refl x) (by show V.int _ = V.int _; rw [h2.length])⟩)
theorem j_lenS (ha : J W S k e env (.str z)) (hl : z.length ≤ 100000) (hg : GlS S "len" := by exact rfl) (hm : W.mg "len" = none := by assumption) (he : Plain e := by intro _ _; rfl) : J W S k (.Call (.Name "len" p) [e] [] pos) env (.int (z.length : Int)) :=
  jp_callB (r := fun X => fun xs H Q => ∃ z, xs = [.str z] ∧ z.length ≤ sizeLine ∧ Q (.int z.length) H) (fun X hX => call_len_str) hg hm (by decide +kernel) (ja_cons ha ja_nil he) he (fun _ => rfl) (hr := fun X vs G H hX x ⟨v, r, e1, e2, e3⟩ Q q => by
    subst e1
    rw [show v = V.str z from e2, show r = [] from e3]
    exact ⟨z, rfl, sz hl, q _ G H (.refl x) rfl⟩)
theorem j_intB {q0 : Bool} (ha : J W S k e env (.bl q0)) (hg : GlS S "int" := by exact rfl) (hm : W.mg "int" = none := by assumption) (he : Plain e := by intro _ _; rfl) : J W S k (.Call (.Name "int" p) [e] [] pos) env (.int (if q0 then 1 else 0)) :=
  jp_callTy (r := fun X => fun xs H Q => (∃ i, xs = [.int i] ∧ Q (.int i) H) ∨ ∃ k, xs = [.bl k] ∧ Q (.int (if k then 1 else 0)) H) (fun X hX => call_int1) hg hm (by decide +kernel) (ja_cons ha ja_nil he) he (fun _ => rfl) (hr := fun X vs G H hX x ⟨v, r, e1, e2, e3⟩ Q q => by
    subst e1
    rw [show v = V.bl q0 from e2, show r = [] from e3]
    exact .inr ⟨q0, rfl, q _ G H (.refl x) rfl⟩)
theorem j_intI (ha : J W S k e env (.int i)) (hg : GlS S "int" := by exact rfl) (hm : W.mg "int" = none := by assumption) (he : Plain e := by intro _ _; rfl) : J W S k (.Call (.Name "int" p) [e] [] pos) env (.int i) :=
  jp_callTy (r := fun X => fun xs H Q => (∃ i, xs = [.int i] ∧ Q (.int i) H) ∨ ∃ k, xs = [.bl k] ∧ Q (.int (if k then 1 else 0)) H) (fun X hX => call_int1) hg hm (by decide +kernel) (ja_cons ha ja_nil he) he (fun _ => rfl) (hr := fun X vs G H hX x ⟨v, r, e1, e2, e3⟩ Q q => by
    subst e1
    rw [show v = V.int i from e2, show r = [] from e3]
    exact .inl ⟨i, rfl, q _ G H (.refl x) rfl⟩)
theorem j_repr (ha : J W S k e env (.int i)) (hi : i.natAbs.log2 < 1920) (hg : GlS S "repr" := by exact rfl) (hm : W.mg "repr" = none := by assumption) (he : Plain e := by intro _ _; rfl) : J W S k (.Call (.Name "repr" p) [e] [] pos) env (.str (toString i)) :=
  jp_callB (r := fun X => fun xs H Q => ∃ i, xs = [.int i] ∧ i.natAbs.log2 < 1920 ∧ Q (.str (toString i)) H) (fun X hX => SkE.call_repr_int) hg hm (by decide +kernel) (ja_cons ha ja_nil he) he (fun _ => rfl) (hr := fun X vs G H hX x ⟨v, r, e1, e2, e3⟩ Q q => by
    subst e1
    rw [show v = V.int i from e2, show r = [] from e3]
    exact ⟨i, rfl, hi, q _ G H (.refl x) rfl⟩)
/-- sorted(texts), fewer than 64 -/
theorem jn_sortedS {xs : List Str} (ys : List Str) (ha : JL W S k e env (xs.map D.str)) (hl : xs.length < 64) (hy : ∀ zs : List Str, zs.Perm xs → sortedS zs = true → zs = ys) (hg : GlS S "sorted" := by exact rfl) (hm : W.mg "sorted" = none := by assumption) (he : Plain e := by intro _ _; rfl) :
    JN W S k (.Call (.Name "sorted" p) [e] [] pos) env (ys.map D.str) := fun σ G H x0 E Q q =>
  wE_X (fun X hX => pe_callB cr_sortedS (hX.gl hg) (by rw [hX.mg]; exact hm) (by decide +kernel) (pa_cons (pe_w hX e) pa_nil (he [] X.env)) (by decide) (by decide) (he [] X.env) rfl) fun X hX => ha σ G H x0 E _ fun v G1 H1 s1 ⟨a, vs, e1, h1, r1⟩ => by
    subst e1
    refine ⟨a, xs, rfl, .of (by rw [← r1.strs]; exact h1), hl, fun zs l hp hs hl' => ?_⟩
    have ez := hy zs hp hs
    subst ez
    have rr : ∀ ns : List Str, Reps W.K G1 (ns.map D.str) (ns.map V.str) := fun ns => by
      induction ns with
      | nil => exact rfl
      | cons n r ih => exact ⟨_, _, rfl, rfl, ih⟩
    exact q l _ G1 _ (s1.trans (.newO s1.s hl')) (s1.h.none hl') (s1.s.none hl') upd_same (rr zs)
theorem j_isi {T : String} {d : D} {v0 : V} {t : Value} {r : Bool} {tn : Str} {pt : Pos} (ha : J W S k a env d) (hty : ∀ G v, Rep W.K G d v → TyX W.K G v t) (hT : RelV (.ty T) (.type T)) (hk : PySem.W.kitOne W.K t (.type T) = some r) (hgT : GlS S tn) (hmT : W.mg tn = none) (hvT : bootBuiltins tn = some (.type T)) (hnT : tn ≠ "__name__" := by decide) (hdT : (tn == ("__debug__" : Str)) = false := by decide)
    (hg : GlS S "isinstance" := by exact rfl) (hm : W.mg "isinstance" = none := by assumption) (he : Plain a := by intro _ _; rfl) (hx : ∀ G H v, Ex G H → TyX W.K G v t → TyX W.K H v t) : J W S k (.Call (.Name "isinstance" p) [a, .Name tn pt] [] pos) env (.bl r) := fun σ G H x0 E Q q =>
  wE_X (fun X hX => pe_callB call_isi (hX.gl hg) (by rw [hX.mg]; exact hm) (by decide +kernel) (pa_cons (pe_w hX a) (pa_cons (pe_bltn (v := .ty T) (hX.gl hgT) (by rw [hX.mg]; exact hmT) hvT hT hnT hdT) pa_nil) (he _ X.env)) (by decide) (by decide) (he _ X.env) rfl) fun X hX => ha σ G H x0 E _ fun v G1 H1 s1 r1 => by
    refine ⟨v, .ty T, t, .type T, r, rfl, .ty T, ?_, ?_, q _ G1 H1 s1 rfl⟩
    · rw [hX.K]
      exact hx _ _ _ s1.s (hty G1 v r1)
    · rw [hX.K]
      exact hk
abbrev PlIx (b : Expr) : Prop := PlainIx b
theorem j_ixL {ds : List D} {d : D} (ha : JL W S k a env ds) (hb : J W S k b env (.int i)) (hd : atI ds i = some d) (hs : PlIx b := by intro _ _; rfl) : J W S k (.Subscript a b pos) env d := fun σ G H x E Q q =>
  wE_X (fun X hX => pe_ix ix_list (pe_w hX a) (pe_w hX b) hs) fun X hX => ha σ G H x E _ fun u G1 H1 s1 ⟨p1, vs, e1, h1, r1⟩ => hb σ G1 H1 s1.s (E.mono s1) _ fun v G2 H2 s2 h2 => by
    subst e1
    have r2 := r1.mono s2.g
    unfold atI at hd
    cases hx : ixN ds.length i with
    | none =>
      rw [hx] at hd
      cases hd
    | some m =>
      rw [hx] at hd
      obtain ⟨w, h3, h4⟩ := r2.get (show ds[m]? = some d from hd)
      refine ⟨p1, vs, i, w, rfl, h2, .of (s2.h _ _ h1), ?_, q w G2 H2 (s1.trans s2) h4⟩
      unfold atI
      rw [r2.length, hx]
      exact h3
theorem j_ixT {ds : List D} {d : D} (ha : J W S k a env (.tup ds)) (hb : J W S k b env (.int i)) (hd : atI ds i = some d) (hs : PlIx b := by intro _ _; rfl) : J W S k (.Subscript a b pos) env d := fun σ G H x E Q q =>
  wE_X (fun X hX => pe_ix ix_tup (pe_w hX a) (pe_w hX b) hs) fun X hX => ha σ G H x E _ fun u G1 H1 s1 ⟨p1, vs, e1, h1, r1⟩ => hb σ G1 H1 s1.s (E.mono s1) _ fun v G2 H2 s2 h2 => by
    subst e1
    have r2 := r1.mono s2.g
    unfold atI at hd
    cases hx : ixN ds.length i with
    | none =>
      rw [hx] at hd
      cases hd
    | some m =>
      rw [hx] at hd
      obtain ⟨w, h3, h4⟩ := r2.get (show ds[m]? = some d from hd)
      refine ⟨p1, vs, i, w, rfl, h2, .of (s2.h _ _ (s1.s _ _ h1)), ?_, q w G2 H2 (s1.trans s2) h4⟩
      unfold atI
      rw [r2.length, hx]
      exact h3
theorem j_ixS {ch : Nat} (ha : J W S k a env (.str z)) (hb : J W S k b env (.int i)) (hl : z.length ≤ 100000) (hd : atI z.cps.toList i = some ch) (hs : PlIx b := by intro _ _; rfl) : J W S k (.Subscript a b pos) env (.str ⟨#[ch]⟩) := fun σ G H x E Q q =>
  wE_X (fun X hX => pe_ix ix_str (pe_w hX a) (pe_w hX b) hs) fun X hX => ha σ G H x E _ fun u G1 H1 s1 h1 => hb σ G1 H1 s1.s (E.mono s1) _ fun v G2 H2 s2 h2 => ⟨z, i, ch, h1, h2, sz hl, hd, q _ G2 H2 (s1.trans s2) rfl⟩
/-- d[k] of a dict with text (or int) keys -/
def valD {κ : Type} [DecidableEq κ] (kvs : List (κ × D)) (k : κ) : Option D := (kvs.find? fun kv => decide (kv.1 = k)).map (·.2)
theorem RepK.val {K : PySem.W.Frag} {G : Hp} : ∀ {kvs : List (Key × D)} {vs : List (Key × V)} {q : Key} {d : D}, RepK K G kvs vs → valD kvs q = some d → ∃ v, valV vs q = some v ∧ Rep K G d v
  | [], _, _, _, _, e => by cases e
  | (g, x) :: r, _, q, d, ⟨v, r', h1, h2, h3⟩, e => by
    rw [h1]
    by_cases hq : g = q
    · have e1 : valD ((g, x) :: r) q = some x := by
        unfold valD
        rw [List.find?_cons_of_pos (by simpa using hq)]
        rfl
      rw [e1] at e
      cases e
      exact ⟨v, valV_pos (p := (g, v)) hq, h2⟩
    · have e1 : valD ((g, x) :: r) q = valD r q := by
        unfold valD
        rw [List.find?_cons_of_neg (by simpa using hq)]
      rw [e1] at e
      obtain ⟨u, h4, h5⟩ := RepK.val h3 e
      exact ⟨u, by rw [valV_neg (p := (g, v)) hq]; exact h4, h5⟩
theorem j_dget {kvs : List (Key × D)} {d dk : D} {q0 : Key} (ha : J W S k a env (.dic kvs)) (hb : J W S k b env dk) (hk : ∀ G v, Rep W.K G dk v → v = kV q0) (hd : valD kvs q0 = some d) (hs : NoSl b := by intro _ _; rfl) : J W S k (.Subscript a b pos) env d := fun σ G H x E Q q =>
  wE_X (fun X hX => pe_dget (hu_of hX.room) (pe_w hX a) (pe_w hX b) hs) fun X hX => ha σ G H x E _ fun u G1 H1 s1 ⟨p1, vs, e1, h1, r1⟩ => hb σ G1 H1 s1.s (E.mono s1) _ fun v G2 H2 s2 h2 => by
    subst e1
    obtain ⟨w, h3, h4⟩ := (r1.mono s2.g).val hd
    refine ⟨p1, w, rfl, ?_, q w G2 H2 (s1.trans s2) h4⟩
    rw [hk G2 v h2, ← h3]
    exact DGet.k (s2.h _ _ (s1.s _ _ h1))
def JO (W : Gx) (S : Sc) (k : Nat) (e : Option Expr) (env : List Sl) (o : Option Int) : Prop := match e, o with
  | none, none => True
  | some e, some i => J W S k e env (.int i)
  | _, _ => False
theorem jo_none : JO W S k none env none := trivial
theorem jo_some (h : J W S k e env (.int i)) : JO W S k (some e) env (some i) := h
def wO (W : Gx) (S : Sc) (k : Nat) (e : Option Expr) : TO := match e with
  | none => tNoPart
  | some e => tPart (wE W S k e)
theorem po_w {X : Cx} (hX : CC W S k X) (e : Option Expr) : PO X e (wO W S k e) := match e with
  | none => po_none
  | some e => po_some (pe_w hX e)
theorem JO.run {e : Option Expr} {o : Option Int} (h : JO W S k e env o) {σ : L2.St} {G H : Hp} (x : Ex G H) (E : EnvR W.K G H σ env) {Q : Option Int → Hp → Prop} (q : ∀ G' H', Stp G H G' H' → Q o H') : wO W S k e σ H Q := by
  cases e with
  | none =>
    cases o with
    | none => exact q G H (.refl x)
    | some i => exact h.elim
  | some e =>
    cases o with
    | none => exact h.elim
    | some i => exact (show J W S k e env (.int i) from h) σ G H x E _ fun v G1 H1 s1 r => ⟨i, r, q G1 H1 s1⟩
theorem cut_len {α β : Type} {n : Nat} (lo hi : Option Int) (xs : List α) (ys : List β) (h : xs.length = ys.length) : True := trivial
def cutD (xs : List D) (lo hi : Option Int) : List D := (xs.drop (HT.sIx xs.length 0 lo)).take (HT.sIx xs.length xs.length hi - HT.sIx xs.length 0 lo)
theorem Reps.cut {K : PySem.W.Frag} {G : Hp} {ds : List D} {vs : List V} (h : Reps K G ds vs) (lo hi : Option Int) : Reps K G (cutD ds lo hi) (cutV vs lo hi) := by
  unfold cutD cutV
  rw [h.length]
  exact (h.drop _).take _
theorem jn_sliceL {ds : List D} {lo hi : Option Expr} {l u : Option Int} (ha : JL W S k a env ds) (hl : JO W S k lo env l) (hu : JO W S k hi env u) : JN W S k (.Subscript a (.Slice lo hi none p2) pos) env (cutD ds l u) := fun σ G H x E Q q =>
  wE_X (fun X hX => pe_slice sl_list (pe_w hX a) (po_w hX lo) (po_w hX hi)) fun X hX => ha σ G H x E _ fun w G1 H1 s1 ⟨p1, vs, e1, h1, r1⟩ => hl.run s1.s (E.mono s1) fun G2 H2 s2 => hu.run s2.s ((E.mono s1).mono s2) fun G3 H3 s3 => by
    subst e1
    have s := (s1.trans s2).trans s3
    exact ⟨p1, vs, rfl, .of (s3.h _ _ (s2.h _ _ h1)), fun p hp => q p _ G3 _ (s.trans (.newO s.s hp)) (s.h.none hp) (s.s.none hp) upd_same ((r1.mono (s2.trans s3).g).cut l u)⟩
theorem sIx_le' (n d : Nat) (h : d ≤ n) (o : Option Int) : HT.sIx n d o ≤ n + (o.getD 0).toNat := by
  unfold HT.sIx
  cases o with
  | none => exact Nat.le_trans h (Nat.le_add_right _ _)
  | some v =>
    show (if v < 0 then (v + (n : Int)).toNat else min v.toNat n) ≤ _
    split
    · omega
    · omega
/-- a tuple's slice: a new one, or the same object where it is whole -/
theorem j_sliceT {ds : List D} {lo hi : Option Expr} {l u : Option Int} (ha : J W S k a env (.tup ds)) (hl : JO W S k lo env l) (hu : JO W S k hi env u) : J W S k (.Subscript a (.Slice lo hi none p2) pos) env (.tup (cutD ds l u)) := fun σ G H x E Q q =>
  wE_X (fun X hX => pe_slice sl_tupA (pe_w hX a) (po_w hX lo) (po_w hX hi)) fun X hX => ha σ G H x E _ fun w G1 H1 s1 ⟨p1, vs, e1, h1, r1⟩ => hl.run s1.s (E.mono s1) fun G2 H2 s2 => hu.run s2.s ((E.mono s1).mono s2) fun G3 H3 s3 => by
    subst e1
    have s := (s1.trans s2).trans s3
    have r3 := r1.mono (s2.trans s3).g
    refine ⟨p1, vs, rfl, .of (s3.h _ _ (s2.h _ _ (s1.s _ _ h1))), fun hw => ?_, fun _ p hp => q _ _ _ (s.trans (.new s.s hp)) ⟨p, _, rfl, upd_same, (r3.cut l u).mono (.new (s.s.none hp))⟩⟩
    have ec : cutD ds l u = ds := by
      unfold cutD
      rw [← r3.length, hw.1, hw.2, List.drop_zero, Nat.sub_zero, r3.length, List.take_length]
    rw [ec] at q
    exact q _ G3 H3 s ⟨p1, vs, rfl, s3.g _ _ (s2.g _ _ h1), r3⟩
theorem j_sliceS {lo hi : Option Expr} {l u : Option Int} (ha : J W S k a env (.str z)) (hl : JO W S k lo env l) (hu : JO W S k hi env u) (hz : z.length ≤ 100000) : J W S k (.Subscript a (.Slice lo hi none p2) pos) env (.str (cutS z l u)) := fun σ G H x E Q q =>
  wE_X (fun X hX => pe_slice sl_str (pe_w hX a) (po_w hX lo) (po_w hX hi)) fun X hX => ha σ G H x E _ fun w G1 H1 s1 h1 => hl.run s1.s (E.mono s1) fun G2 H2 s2 => hu.run s2.s ((E.mono s1).mono s2) fun G3 H3 s3 =>
    ⟨z, h1, sz hz, q _ G3 H3 ((s1.trans s2).trans s3) rfl⟩
end
end TH
set_option maxHeartbeats 4000000
namespace TH
open PySem PySem.Spec PyProof.Rows L2
section
variable {W : Gx} {S : Sc} {k : Nat} {env : List Sl} {a b c e : Expr} {pos p p2 : Pos} {i j : Int} {y z : Str} {d d' : D}
/-- op answers r on d and d' -/
def CmpD (W : Gx) (S : Sc) (k : Nat) (op : CmpOp) (d d' : D) (r : Bool) : Prop := ∀ X, CC W S k X → ∃ R : R2, OpR X (compareOp op) R ∧ ∀ G H u v, Ex G H → Rep W.K G d u → Rep W.K G d' v → ∀ Q : VK, Q (.bl r) H → R u v H Q
theorem j_cmp {op : CmpOp} {r : Bool} (hc : CmpD W S k op d d' r) (ha : J W S k a env d) (hb : J W S k b env d') (hm : behindInMarks op b = false := by first | exact nomark _ | rfl) : J W S k (.Compare a [op] [b] pos) env (.bl r) := fun σ G H x E Q q =>
  wE.mk fun X hX pins s I => by
    obtain ⟨R, hR, h⟩ := hc X hX
    refine (pe_cmpR (pos := pos) hR (pe_w hX a) (pe_w hX b) hm).run pins s σ H Q I ?_
    exact ha σ G H x E _ fun u G1 H1 s1 r1 => hb σ G1 H1 s1.s (E.mono s1) _ fun v G2 H2 s2 r2 => h G2 H2 u v s2.s (r1.mono s2.g) r2 Q (q _ G2 H2 (s1.trans s2) rfl)
theorem jt_cmp {op : CmpOp} {r : Bool} (hc : CmpD W S k op d d' r) (ha : J W S k a env d) (hb : J W S k b env d') (hm : behindInMarks op b = false := by first | exact nomark _ | rfl) : JT W S k (.Compare a [op] [b] pos) env r := fun σ G H x E Q q =>
  wT.mk fun X hX pins s I => by
    obtain ⟨R, hR, h⟩ := hc X hX
    refine (pt_cmpR (pos := pos) hR (pe_w hX a) (pe_w hX b) hm).run pins s σ H Q I ?_
    exact ha σ G H x E _ fun u G1 H1 s1 r1 => hb σ G1 H1 s1.s (E.mono s1) _ fun v G2 H2 s2 r2 => h G2 H2 u v s2.s (r1.mono s2.g) r2 _ ⟨r, rfl, q G2 H2 (s1.trans s2)⟩
theorem j_chain {op op' : CmpOp} {d2 : D} {r r' : Bool} (hc : CmpD W S k op d d' r) (hc' : CmpD W S k op' d' d2 r') (ha : J W S k a env d) (hb : J W S k b env d') (hcc : J W S k c env d2) (hm : lastMarks [op, op'] [b, c] = false := by with_unfolding_all rfl) : J W S k (.Compare a [op, op'] [b, c] pos) env (.bl (r && r')) := fun σ G H x E Q q =>
  wE.mk fun X hX pins s I => by
    obtain ⟨R, hR, h⟩ := hc X hX
    obtain ⟨R', hR', h'⟩ := hc' X hX
    refine (pe_chain (pos := pos) hR hR' (pe_w hX a) (pe_w hX b) (pe_w hX c) hm).run pins s σ H Q I ?_
    refine ha σ G H x E _ fun u G1 H1 s1 r1 => hb σ G1 H1 s1.s (E.mono s1) _ fun v G2 H2 s2 r2 => h G2 H2 u v s2.s (r1.mono s2.g) r2 _ ⟨r, rfl, ?_⟩
    cases r with
    | false => exact iteF (q _ G2 H2 (s1.trans s2) rfl)
    | true => exact iteT (hcc σ G2 H2 s2.s ((E.mono s1).mono s2) _ fun w G3 H3 s3 r3 => h' G3 H3 v w s3.s (r2.mono s3.g) r3 Q (q _ G3 H3 ((s1.trans s2).trans s3) rfl))
theorem jt_chain {op op' : CmpOp} {d2 : D} {r r' : Bool} (hc : CmpD W S k op d d' r) (hc' : CmpD W S k op' d' d2 r') (ha : J W S k a env d) (hb : J W S k b env d') (hcc : J W S k c env d2) (hm : lastMarks [op, op'] [b, c] = false := by with_unfolding_all rfl) : JT W S k (.Compare a [op, op'] [b, c] pos) env (r && r') := fun σ G H x E Q q =>
  wT.mk fun X hX pins s I => by
    obtain ⟨R, hR, h⟩ := hc X hX
    obtain ⟨R', hR', h'⟩ := hc' X hX
    refine (pt_chain (pos := pos) hR hR' (pe_w hX a) (pe_w hX b) (pe_w hX c) hm).run pins s σ H Q I ?_
    refine ha σ G H x E _ fun u G1 H1 s1 r1 => hb σ G1 H1 s1.s (E.mono s1) _ fun v G2 H2 s2 r2 => h G2 H2 u v s2.s (r1.mono s2.g) r2 _ ⟨r, rfl, ?_⟩
    cases r with
    | false => exact iteF ⟨_, rfl, q G2 H2 (s1.trans s2)⟩
    | true => exact iteT (hcc σ G2 H2 s2.s ((E.mono s1).mono s2) _ fun w G3 H3 s3 r3 => h' G3 H3 v w s3.s (r2.mono s3.g) r3 _ ⟨_, rfl, q G3 H3 ((s1.trans s2).trans s3)⟩)
theorem CmpD.is {op : CmpOp} {r r' : Bool} (h : CmpD W S k op d d' r) (e : r = r') : CmpD W S k op d d' r' := e ▸ h
theorem c_ltI : CmpD W S k .Lt (.int i) (.int j) (decide (i < j)) := fun X hX => ⟨_, op_lt, fun G H u v x h1 h2 Q q => ⟨i, j, h1, h2, q⟩⟩
theorem c_leI : CmpD W S k .LtE (.int i) (.int j) (decide (i ≤ j)) := fun X hX => ⟨_, op_le, fun G H u v x h1 h2 Q q => ⟨i, j, h1, h2, q⟩⟩
theorem c_gtI : CmpD W S k .Gt (.int i) (.int j) (decide (j < i)) := fun X hX => ⟨_, op_gt, fun G H u v x h1 h2 Q q => ⟨i, j, h1, h2, q⟩⟩
theorem c_geI : CmpD W S k .GtE (.int i) (.int j) (decide (j ≤ i)) := fun X hX => ⟨_, op_ge, fun G H u v x h1 h2 Q q => ⟨i, j, h1, h2, q⟩⟩
theorem c_eqI : CmpD W S k .Eq (.int i) (.int j) (decide (i = j)) := fun X hX => ⟨_, op_eq, fun G H u v x h1 h2 Q q => by
  rw [show u = V.int i from h1, show v = V.int j from h2]
  refine ⟨rfl, ?_⟩
  rw [dec_int, show (i == j) = decide (i = j) from rfl]
  exact q⟩
theorem c_neI : CmpD W S k .NotEq (.int i) (.int j) (!decide (i = j)) := fun X hX => ⟨_, op_ne, fun G H u v x h1 h2 Q q => by
  rw [show u = V.int i from h1, show v = V.int j from h2]
  refine ⟨rfl, ?_⟩
  rw [dec_int, show (i == j) = decide (i = j) from rfl]
  exact q⟩
theorem c_eqS : CmpD W S k .Eq (.str y) (.str z) (decide (y = z)) := fun X hX => ⟨_, op_eq, fun G H u v x h1 h2 Q q => by
  rw [show u = V.str y from h1, show v = V.str z from h2]
  refine ⟨rfl, ?_⟩
  rw [show decide (V.str y = V.str z) = decide (y = z) from decide_eq_decide.mpr ⟨fun h => V.str.inj h, fun h => congrArg V.str h⟩]
  exact q⟩
theorem c_neS : CmpD W S k .NotEq (.str y) (.str z) (!decide (y = z)) := fun X hX => ⟨_, op_ne, fun G H u v x h1 h2 Q q => by
  rw [show u = V.str y from h1, show v = V.str z from h2]
  refine ⟨rfl, ?_⟩
  rw [show decide (V.str y = V.str z) = decide (y = z) from decide_eq_decide.mpr ⟨fun h => V.str.inj h, fun h => congrArg V.str h⟩]
  exact q⟩
theorem c_ltS : CmpD W S k .Lt (.str y) (.str z) (decide (y.cps.toList < z.cps.toList)) := fun X hX => ⟨_, op_lt_str, fun G H u v x h1 h2 Q q => ⟨y, z, h1, h2, q⟩⟩
theorem c_gtS : CmpD W S k .Gt (.str y) (.str z) (decide (z.cps.toList < y.cps.toList)) := fun X hX => ⟨_, op_gt_str, fun G H u v x h1 h2 Q q => ⟨y, z, h1, h2, q⟩⟩
theorem c_inSign {ch : Nat} : CmpD W S k .In (.str ⟨#[ch]⟩) (.str z) (decide (ch ∈ z.cps.toList)) := fun X hX => ⟨_, op_in_sign, fun G H u v x h1 h2 Q q => ⟨ch, z, h1, h2, q⟩⟩
theorem c_notN (hd : ∀ G v, Rep W.K G d v → v ≠ .non) : CmpD W S k .IsNot d .non true := fun X hX => ⟨_, op_notN, fun G H u v x h1 h2 Q q => ⟨h2, by rw [decide_eq_false (hd G u h1)]; exact q⟩⟩
theorem c_notN0 : CmpD W S k .IsNot .non .non false := fun X hX => ⟨_, op_notN, fun G H u v x h1 h2 Q q => ⟨h2, by rw [decide_eq_true (show u = V.non from h1)]; exact q⟩⟩
/-- x in a tuple of ints -/
theorem c_inT {ns : List Int} : CmpD W S k .In (.int i) (.tup (ns.map D.int)) (ns.any fun m => m == i) := fun X hX => ⟨_, op_in_seq, fun G H u v x h1 ⟨q0, vs, e, h2, r⟩ Q q => by
  subst e
  rw [show u = V.int i from h1]
  have ev := r.ints
  subst ev
  refine ⟨q0, _, rfl, .inr (.of (x _ _ h2)), rfl, ?_, ?_⟩
  · rw [List.all_map]
    exact List.all_eq_true.mpr fun _ _ => rfl
  · have e2 : inV (.int i) (ns.map V.int) = ns.any fun m => m == i := by
      unfold inV
      rw [List.any_map]
      rfl
    show Q (.bl (inV (.int i) (ns.map V.int))) H
    rw [e2]
    exact q⟩
mutual
def toP : D → PyData
  | .non => .none
  | .bl b => .bool b
  | .int i => .int i
  | .str s => .str s
  | .tup ds => .tuple (toPs ds)
  | .lst ds => .list (toPs ds)
  | _ => .none
def toPs : List D → List PyData
  | [] => []
  | d :: ds => toP d :: toPs ds
end
mutual
/-- made of None, bools, ints, texts, lists, tuples alone -/
def plainD : D → Bool
  | .non => true
  | .bl _ => true
  | .int _ => true
  | .str _ => true
  | .tup ds => plainDs ds
  | .lst ds => plainDs ds
  | _ => false
def plainDs : List D → Bool
  | [] => true
  | d :: ds => plainD d && plainDs ds
end
mutual
theorem dp_of {K : PySem.W.Frag} {G H : Hp} (x : Ex G H) : ∀ {d : D} {v : V}, plainD d = true → Rep K G d v → Dp K H v (toP d)
  | .non, v, _, h => by rw [show v = V.non from h]; exact .non
  | .bl b, v, _, h => by rw [show v = V.bl b from h]; exact .bl b
  | .int b, v, _, h => by rw [show v = V.int b from h]; exact .int b
  | .str b, v, _, h => by rw [show v = V.str b from h]; exact .str b
  | .tup ds, v, hp, ⟨a, vs, h1, h2, h3⟩ => by
    rw [h1]
    exact .tup (.of (x _ _ h2)) (dps_of x hp h3)
  | .lst ds, v, hp, ⟨a, vs, h1, h2, h3⟩ => by
    rw [h1]
    exact .lst (.of (x _ _ h2)) (dps_of x hp h3)
  | .dic _, _, hp, _ => by cases hp
  | .dct _, _, hp, _ => by cases hp
  | .ins _ _, _, hp, _ => by cases hp
theorem dps_of {K : PySem.W.Frag} {G H : Hp} (x : Ex G H) : ∀ {ds : List D} {vs : List V}, plainDs ds = true → Reps K G ds vs → DpAll K H vs (toPs ds)
  | [], vs, _, h => by rw [show vs = [] from h]; exact .nil
  | d :: ds, vs, hp, ⟨v, r, h1, h2, h3⟩ => by
    have hp2 : (plainD d && plainDs ds) = true := hp
    rw [Bool.and_eq_true] at hp2
    rw [h1]
    exact .cons (dp_of x hp2.1 h2) (dps_of x hp2.2 h3)
end
theorem c_eqD {r : Bool} (h1 : plainD d = true) (h2 : plainD d' = true) (h3 : SeqAt.shaped (toP d) = true) (h4 : SeqAt.shaped (toP d') = true) (hr : PyData.eqv (toP d) (toP d') = r) : CmpD W S k .Eq d d' r := fun X hX => ⟨_, op_eqD hX.room.units, fun G H u v x r1 r2 Q q => by
  rw [hX.K]
  exact ⟨toP d, toP d', dp_of x h1 r1, dp_of x h2 r2, h3, h4, by rw [hr]; exact q⟩⟩
theorem c_neD {r : Bool} (h1 : plainD d = true) (h2 : plainD d' = true) (h3 : SeqAt.shaped (toP d) = true) (h4 : SeqAt.shaped (toP d') = true) (hr : PyData.eqv (toP d) (toP d') = r) : CmpD W S k .NotEq d d' (!r) := fun X hX => ⟨_, op_neD hX.room.units, fun G H u v x r1 r2 Q q => by
  rw [hX.K]
  exact ⟨toP d, toP d', dp_of x h1 r1, dp_of x h2 r2, h3, h4, by rw [hr]; exact q⟩⟩
theorem jt_val {r : Bool} (h : J W S k e env (.bl r)) (he : ∀ (env : Env) whole, isTrue e env whole = (do let v ← whole; standAt e.pos; holding [v] (truthy v)) := by intro _ _; rfl) : JT W S k e env r := fun σ G H x E Q q =>
  wT_of (fun X hX => pt_val (pe_w hX e) (he X.env)) (h σ G H x E _ fun v G1 H1 s1 r1 => ⟨r, r1, q G1 H1 s1⟩)
theorem jt_not {r : Bool} (h : JT W S k a env r) : JT W S k (.UnaryOp .Not a pos) env (!r) := fun σ G H x E Q q =>
  wT_of (fun X hX => pt_not (pt_w hX a)) (h σ G H x E _ fun G1 H1 s1 => q G1 H1 s1)
theorem jt_and {r r' : Bool} (h : JT W S k a env r) (h' : r = true → JT W S k b env r') : JT W S k (.BoolOp .And [a, b] pos) env (r && r') := fun σ G H x E Q q =>
  wT_of (fun X hX => (pw_and (pt_w hX a) (pw_and1 (pt_w hX b))).pt) (h σ G H x E _ fun G1 H1 s1 => by
    cases r with
    | false => exact iteF (q G1 H1 s1)
    | true => exact iteT (h' rfl σ G1 H1 s1.s (E.mono s1) _ fun G2 H2 s2 => q G2 H2 (s1.trans s2)))
theorem jt_or {r r' : Bool} (h : JT W S k a env r) (h' : r = false → JT W S k b env r') : JT W S k (.BoolOp .Or [a, b] pos) env (r || r') := fun σ G H x E Q q =>
  wT_of (fun X hX => (pw_or (pt_w hX a) (pw_or1 (pt_w hX b))).pt) (h σ G H x E _ fun G1 H1 s1 => by
    cases r with
    | true => exact iteT (q G1 H1 s1)
    | false => exact iteF (h' rfl σ G1 H1 s1.s (E.mono s1) _ fun G2 H2 s2 => q G2 H2 (s1.trans s2)))
theorem jt_or3 {r r' r2 : Bool} (h : JT W S k a env r) (h' : r = false → JT W S k b env r') (h2 : r = false → r' = false → JT W S k c env r2) : JT W S k (.BoolOp .Or [a, b, c] pos) env (r || (r' || r2)) := fun σ G H x E Q q =>
  wT_of (fun X hX => (pw_or (pt_w hX a) (pw_or (pt_w hX b) (pw_or1 (pt_w hX c)))).pt) (h σ G H x E _ fun G1 H1 s1 => by
    cases r with
    | true => exact iteT (q G1 H1 s1)
    | false => exact iteF (h' rfl σ G1 H1 s1.s (E.mono s1) _ fun G2 H2 s2 => by
      cases r' with
      | true => exact iteT (q G2 H2 (s1.trans s2))
      | false => exact iteF (h2 rfl rfl σ G2 H2 s2.s ((E.mono s1).mono s2) _ fun G3 H3 s3 => q G3 H3 ((s1.trans s2).trans s3))))
theorem j_and {r r' : Bool} (h : J W S k a env (.bl r)) (h' : r = true → J W S k b env (.bl r')) : J W S k (.BoolOp .And [a, b] pos) env (.bl (r && r')) := fun σ G H x E Q q =>
  wE_of (fun X hX => pe_and (pe_w hX a) (pe_one (pe_w hX b))) (h σ G H x E _ fun v G1 H1 s1 e1 => ⟨r, e1, by
    cases r with
    | false => exact iteF (q _ G1 H1 s1 rfl)
    | true => exact iteT (h' rfl σ G1 H1 s1.s (E.mono s1) _ fun v G2 H2 s2 e2 => q v G2 H2 (s1.trans s2) e2)⟩)
theorem j_and3 {r r' r2 : Bool} (h : J W S k a env (.bl r)) (h' : r = true → J W S k b env (.bl r')) (h2 : r = true → r' = true → J W S k c env (.bl r2)) : J W S k (.BoolOp .And [a, b, c] pos) env (.bl (r && (r' && r2))) := fun σ G H x E Q q =>
  wE_of (fun X hX => pe_and (pe_w hX a) (pe_and (pe_w hX b) (pe_one (pe_w hX c)))) (h σ G H x E _ fun v G1 H1 s1 e1 => ⟨r, e1, by
    cases r with
    | false => exact iteF (q _ G1 H1 s1 rfl)
    | true => exact iteT (h' rfl σ G1 H1 s1.s (E.mono s1) _ fun v G2 H2 s2 e2 => ⟨r', e2, by
      cases r' with
      | false => exact iteF (q _ G2 H2 (s1.trans s2) rfl)
      | true => exact iteT (h2 rfl rfl σ G2 H2 s2.s ((E.mono s1).mono s2) _ fun v G3 H3 s3 e3 => q v G3 H3 ((s1.trans s2).trans s3) e3)⟩)⟩)
theorem j_notV {r : Bool} (h : J W S k a env (.bl r)) : J W S k (.UnaryOp .Not a pos) env (.bl (!r)) := fun σ G H x E Q q =>
  wE_of (fun X hX => pe_not (pe_w hX a)) (h σ G H x E _ fun v G1 H1 s1 e1 => ⟨r, e1, q _ G1 H1 s1 rfl⟩)
theorem j_neg (h : J W S k a env (.int i)) : J W S k (.UnaryOp .USub a pos) env (.int (-i)) := fun σ G H x E Q q =>
  wE_of (fun X hX => pe_un un_neg (pe_w hX a)) (h σ G H x E _ fun v G1 H1 s1 e1 => ⟨i, e1, q _ G1 H1 s1 rfl⟩)
theorem j_if {r : Bool} {dr : D} (h : JT W S k c env r) (h1 : r = true → J W S k a env dr) (h2 : r = false → J W S k b env dr) : J W S k (.IfExp c a b pos) env dr := fun σ G H x E Q q =>
  wE_of (fun X hX => pe_ifExp (pt_w hX c) (pe_w hX a) (pe_w hX b)) (h σ G H x E _ fun G1 H1 s1 => by
    cases r with
    | true => exact iteT (h1 rfl σ G1 H1 s1.s (E.mono s1) _ fun v G2 H2 s2 r2 => q v G2 H2 (s1.trans s2) r2)
    | false => exact iteF (h2 rfl σ G1 H1 s1.s (E.mono s1) _ fun v G2 H2 s2 r2 => q v G2 H2 (s1.trans s2) r2))
theorem j_fld {C : Addr} {fs : List (Str × D)} {f : Str} (ha : J W S k e env (.ins C fs)) (hl : fs.lookup f = some d) (c : Cls W.K C) (n : NoAttr W.K C f) (hb : ∀ env : Env, attributeBase e f env (eval e env) = eval e env := by intro _; rfl) : J W S k (.Attribute e f pos) env d := fun σ G H x E Q q =>
  wE_X (fun X hX => pe_fld (pe_w hX e) (hb X.env)) fun X hX => ha σ G H x E _ fun v G1 H1 s1 ⟨a, dx, vs, e1, h1, r1⟩ => by
    subst e1
    obtain ⟨u, h2, h3⟩ := r1.look hl
    rw [hX.K]
    exact ⟨a, C, dx, vs, u, rfl, s1.s _ _ h1, c, n, h2, q u G1 H1 s1 h3⟩
/-- from data ds of which f ds d is true it gives d, and writes nothing that stood -/
def spF (K : PySem.W.Frag) (n : Nat) (f : List D → D → Prop) : Sp := fun vs H Q _ => ∃ G ds d, ds.length = n ∧ Ex G H ∧ Reps K G ds vs ∧ f ds d ∧ ∀ v G' H', Stp G H G' H' → Rep K G' d v → Q v H'
structure OkF (W : Gx) (k : Nat) (x : Str) (n : Nat) (f : List D → D → Prop) : Prop where
  ex : ∃ fa fd ps, W.mg x = some (.ref fa) ∧ PySem.W.keepIn W.K (.ref fa) = true ∧ Binds W.K fd ps [] ∧ FnOk W.P W.w W.K W.mg W.base CX0 k fa fd ps (spF W.K n f)
theorem spF_len {K : PySem.W.Frag} {n : Nat} {f : List D → D → Prop} {vs : List V} {H : Hp} {Q : VK} {E : XK} (h : spF K n f vs H Q E) : vs.length = n := by
  obtain ⟨G, ds, d, h1, _, h2, _⟩ := h
  rw [h2.length, h1]
theorem j_call {x : Str} {n kf : Nat} {f : List D → D → Prop} {es : List Expr} {ds : List D} (F : OkF W kf x n f) (ha : JA W S k (e :: es) env ds) (hf : f ds d) (hk : kf ≤ k := by decide) (hn : ds.length = n := by rfl) (hg : GlS S x := by exact rfl)
    (he : Plain e := by intro _ _; rfl) (hpl : ∀ env : Env, (backTo pos (starEach es env)).any (·.1) = false := by intro _; rfl) (hdb : (x == ("__debug__" : Str)) = false := by decide) : J W S k (.Call (.Name x p) (e :: es) [] pos) env d := fun σ G H x0 E Q q => by
  obtain ⟨fa, fd, ps, hm, kp, bd, F⟩ := F.ex
  exact wE_X (fun X hX => pe_call (E := E0) (by rw [hX.P, hX.w, hX.K, hX.mg, hX.base]; exact F) (hX.room.mono hk) (hX.gl hg) (by rw [hX.mg]; exact hm) (by rw [hX.K]; exact kp) (by rw [hX.K]; exact bd) .nil pass0 (pa_w hX _) hdb (he es X.env) (hpl X.env))
    fun X hX => ha σ G H x0 E _ fun vs G1 H1 s1 r1 => by
      rw [List.append_nil]
      exact ⟨G1, ds, d, hn, s1.s, r1, hf, fun v G' H' s2 r2 => q v G' H' (s1.trans s2) r2⟩
/-- a method -/
structure OkM (W : Gx) (k : Nat) (C : Addr) (m : Str) (n : Nat) (f : List D → D → Prop) : Prop where
  ex : ∃ fa fd ps, Cls W.K C ∧ Meth W.K C m fa ∧ Binds W.K fd ps [] ∧ FnOk W.P W.w W.K W.mg W.base CX0 k fa fd ps (spF W.K n f)
theorem j_meth {o : Expr} {C : Addr} {m : Str} {n kf : Nat} {f : List D → D → Prop} {es : List Expr} {ds : List D} {fs : List (Str × D)} {apos : Pos} {pl : Env → Sem Bool} (F : OkM W kf C m n f) (ho : J W S k o env (.ins C fs)) (ha : JA W S k (e :: es) env ds) (hf : f (.ins C fs :: ds) d) (hm : fs.lookup m = none := by rfl) (hk : kf ≤ k := by decide) (hn : ds.length + 1 = n := by rfl)
    (he : Plain e := by intro _ _; rfl) (hpl : ∀ env : Env, (backTo pos (starEach es env)).any (·.1) = false := by intro _; rfl)
    (ht : ∀ env : Env, eval (.Call (.Attribute o m apos) (e :: es) [] pos) env = (do
      let ov ← eval o env
      standAt apos.atName
      let (f, first) ← holding [ov] (getMethod ov m (pl env))
      callWith pos f first (backTo pos (starEach (e :: es) env)) (backToKw pos (keywordEach [] env))) := by intro _; rfl) : J W S k (.Call (.Attribute o m apos) (e :: es) [] pos) env d := fun σ G H x0 E Q q => by
  obtain ⟨fa, fd, ps, cl, mt, bd, F⟩ := F.ex
  exact wE_X (fun X hX => pe_meth (E := E0) (C := C) (pl := pl X.env) (pe_w hX o) (by rw [hX.K]; exact cl) (by rw [hX.K]; exact mt) (by rw [hX.P, hX.w, hX.K, hX.mg, hX.base]; exact F) (hX.room.mono hk) (by rw [hX.K]; exact bd) .nil pass0 (pa_w hX _) (he es X.env) (hpl X.env) (ht X.env))
    fun X hX => ho σ G H x0 E _ fun v G1 H1 s1 ⟨a, dx, vs, e1, h1, r1⟩ => by
      refine ⟨a, dx, vs, e1, s1.s _ _ h1, r1.lookN hm, ha σ G1 H1 s1.s (E.mono s1) _ fun us G2 H2 s2 r2 => ?_⟩
      rw [List.append_nil]
      exact ⟨G2, .ins C fs :: ds, d, hn, s2.s, ⟨v, us, rfl, ⟨a, dx, vs, e1, s2.g _ _ h1, r1.mono s2.g⟩, r2⟩, hf, fun v G' H' s3 r3 => q v G' H' ((s1.trans s2).trans s3) r3⟩
end
end TH
set_option maxHeartbeats 4000000
namespace TH
open PySem PySem.Spec PyProof.Rows L2
inductive Tg where
  | one (i : Nat) | two (i j : Nat)
def Tg.ix : Tg → List Nat
  | .one i => [i]
  | .two i j => [i, j]
def bnd : Tg → D → List Sl → List Sl
  | .one i, d, e => e.set i (.d d)
  | .two i j, .tup [a, b], e => (e.set i (.d a)).set j (.d b)
  | .two _ _, _, e => e
/-- an item that the target takes -/
def Tg.fits : Tg → D → Prop
  | .one _, _ => True
  | .two _ _, d => ∃ a b, d = .tup [a, b]
/-- the name at i may be stored -/
def StN (S : Sc) (i : Nat) (x : Str) : Prop := S.N[i]? = some x ∧ Loc S.sc x ∧ (S.fb x = true ∨ S.sc.names.lookup x = some .local)
inductive TgE (S : Sc) : Expr → Tg → Prop
  | one {x : Str} {i : Nat} {pos : Pos} (h : StN S i x) : TgE S (.Name x pos) (.one i)
  | two {x y : Str} {i j n : Nat} {p1 p2 pos : Pos} (h : StN S i x) (h' : StN S j y) (ne : i ≠ j) : TgE S (.Tuple [.Name x p1, .Name y p2] n pos) (.two i j)
def gTg (K : PySem.W.Frag) : Tg → TG
  | .one i => gName i
  | .two i j => gTup K 2 (gCons (gName i) (gCons (gName j) gNil))
section
variable {W : Gx} {S : Sc} {k : Nat} {X : Cx}
theorem pg_nm (hX : CC W S k X) (nd : S.N.Nodup) {x : Str} {i : Nat} {pos : Pos} (h : StN S i x) : PG X (.Name x pos) (gName i) :=
  pg_name (by rw [hX.N]; exact nd) (by rw [hX.N]; exact h.1) (by rw [hX.sc]; exact h.2.1) (by rw [hX.fb, hX.sc]; exact h.2.2)
theorem pg_tg (hX : CC W S k X) (nd : S.N.Nodup) {tg : Expr} {t : Tg} (h : TgE S tg t) : PG X tg (gTg W.K t) := by
  cases h with
  | one h => exact pg_nm hX nd h
  | two h h' ne =>
    unfold gTg
    rw [← hX.K]
    exact pg_tup (X := X) (n := 2) hX.calm (pgs_cons (pg_nm hX nd h) (pgs_cons (pg_nm hX nd h') pgs_nil)) (by rfl) (by rfl)
/-- what a target's store does, by slots -/
theorem gTg_run {K : PySem.W.Frag} {t : Tg} {d : D} {v : V} {σ : L2.St} {G H : Hp} {env : List Sl} {Q : L2.St → Hp → Prop} (x : Ex G H) (E : EnvR K G H σ env) (r : Rep K G d v) (hf : t.fits d)
    (q : ∀ σ', EnvR K G H σ' (bnd t d env) → (∀ i, i ∉ t.ix → σ'[i]? = σ[i]?) → σ'.length = σ.length → Q σ' H) : gTg K t v σ H Q := by
  cases t with
  | one i =>
    refine q _ (E.set r) (fun j hj => List.getElem?_set_ne fun e => hj ?_) (List.length_set ..)
    rw [e]
    exact List.mem_singleton.mpr rfl
  | two i j =>
    obtain ⟨a, b, rfl⟩ := hf
    obtain ⟨p, vs, rfl, h1, u, r1, rfl, h2, w, r2, rfl, h3, e⟩ := r
    rw [show r2 = [] from e] at h1
    refine ⟨p, [u, w], rfl, .of (x _ _ h1), rfl, u, [w], rfl, w, [], rfl, rfl, q _ ((E.set h2).set h3) (fun m hm => ?_) ?_⟩
    · rw [List.getElem?_set_ne fun e => hm (by rw [e]; exact List.mem_cons_of_mem _ (List.mem_singleton.mpr rfl)), List.getElem?_set_ne fun e => hm (by rw [e]; exact List.mem_cons_self)]
    · rw [List.length_set, List.length_set]
end
section
variable {W : Gx} {S : Sc} {k : Nat} {env : List Sl} {a b c e tg : Expr} {pos p p2 : Pos} {i j : Int} {y z : Str} {d d' : D}
theorem ji_lst {ds : List D} (h : J W S k e env (.lst ds)) : JI W S k tg e env ds := fun σ G H x E R q =>
  wI_X (fun X hX => pi_list (pe_w hX e)) fun X hX => h σ G H x E _ fun v G1 H1 s1 ⟨p1, vs, e1, h1, r1⟩ => by
    subst e1
    rw [hX.K]
    refine ⟨p1, rfl, ⟨vs, .of (s1.s _ _ h1)⟩, q _ G1 H1 s1 ⟨fun m G2 H2 hm g2 x2 => ?_, fun G2 H2 g2 x2 => ?_, fun m d G2 H2 u H3 hd g2 x2 hy => ?_⟩⟩
    · have hl : m < vs.length := by rw [r1.length]; exact hm
      exact ⟨vs, vs[m], .of (x2 _ _ (g2 _ _ h1)), List.getElem?_eq_getElem hl⟩
    · exact ⟨vs, .of (x2 _ _ (g2 _ _ h1)), by rw [r1.length]; exact Nat.le_refl _⟩
    · obtain ⟨e3, h3⟩ := hy
      rw [e3]
      obtain ⟨w, h4, h5⟩ := r1.get hd
      have h6 := h3 vs (.of (x2 _ _ (g2 _ _ h1)))
      rw [h4] at h6
      cases h6
      exact ⟨G2, .refl x2, h5.mono g2⟩
theorem ji_tup {ds : List D} (h : J W S k e env (.tup ds)) : JI W S k tg e env ds := fun σ G H x E R q =>
  wI_X (fun X hX => pi_tup (pe_w hX e)) fun X hX => h σ G H x E _ fun v G1 H1 s1 ⟨p1, vs, e1, h1, r1⟩ => by
    subst e1
    rw [hX.K]
    refine ⟨p1, rfl, ⟨vs, .of (s1.s _ _ h1)⟩, q _ G1 H1 s1 ⟨fun m G2 H2 hm g2 x2 => ?_, fun G2 H2 g2 x2 => ?_, fun m d G2 H2 u H3 hd g2 x2 hy => ?_⟩⟩
    · have hl : m < vs.length := by rw [r1.length]; exact hm
      exact ⟨vs, vs[m], .of (x2 _ _ (g2 _ _ h1)), List.getElem?_eq_getElem hl⟩
    · exact ⟨vs, .of (x2 _ _ (g2 _ _ h1)), by rw [r1.length]; exact Nat.le_refl _⟩
    · obtain ⟨e3, h3⟩ := hy
      rw [e3]
      obtain ⟨w, h4, h5⟩ := r1.get hd
      have h6 := h3 vs (.of (x2 _ _ (g2 _ _ h1)))
      rw [h4] at h6
      cases h6
      exact ⟨G2, .refl x2, h5.mono g2⟩
/-- the signs of a text -/
def sgn (c : Nat) : D := .str ⟨#[c]⟩
theorem ji_str (h : J W S k e env (.str z)) : JI W S k tg e env (z.cps.toList.map sgn) := fun σ G H x E R q =>
  wI_X (fun X hX => pi_str (pe_w hX e)) fun X hX => h σ G H x E _ fun v G1 H1 s1 e1 => by
    refine ⟨z, e1, q _ G1 H1 s1 ⟨fun m G2 H2 hm g2 x2 => ?_, fun G2 H2 g2 x2 => ?_, fun m d G2 H2 u H3 hd g2 x2 hy => ?_⟩⟩
    · rw [List.length_map, Array.length_toList] at hm
      exact hm
    · show z.cps.size ≤ _
      rw [List.length_map, Array.length_toList]
      exact Nat.le_refl _
    · obtain ⟨e3, c, h4, e4⟩ := hy
      rw [e3, e4]
      rw [List.getElem?_map, Array.getElem?_toList, h4] at hd
      have e5 : sgn c = d := Option.some.inj hd
      rw [← e5]
      exact ⟨G2, .refl x2, rfl⟩
theorem ji_range1 {n : Nat} (h : J W S k a env (.int (n : Int))) (hn : n ≤ 1000000) (hg : GlS S "range" := by exact rfl) (hm : W.mg "range" = none := by assumption) (he : Plain a := by intro _ _; rfl) : JI W S k tg (.Call (.Name "range" p) [a] [] pos) env ((List.range n).map fun (i : Nat) => D.int (i : Int)) := fun σ G H x E R q =>
  wI_X (fun X hX => pi_range1 (hX.gl hg) (by rw [hX.mg]; exact hm) (pa_cons (pe_w hX a) pa_nil (he [] X.env)) (he [] X.env)) fun X hX => h σ G H x E _ fun v G1 H1 s1 e1 => by
    refine ⟨(n : Int), by rw [show v = V.int n from e1], by omega, by omega, q _ G1 H1 s1 ⟨fun m G2 H2 hm g2 x2 => ?_, fun G2 H2 g2 x2 => ?_, fun m d G2 H2 u H3 hd g2 x2 hy => ?_⟩⟩
    · rw [List.length_map, List.length_range] at hm
      exact hm
    · rw [List.length_map, List.length_range]
      exact Nat.le_refl _
    · obtain ⟨e3, e4⟩ := hy
      rw [e3, e4]
      rw [List.getElem?_map] at hd
      by_cases hlt : m < n
      · rw [List.getElem?_range hlt] at hd
        have e5 : D.int (m : Int) = d := Option.some.inj hd
        rw [← e5]
        exact ⟨G2, .refl x2, by show V.int (0 + (m : Int)) = V.int m; rw [Int.zero_add]⟩
      · rw [List.getElem?_eq_none (by rw [List.length_range]; omega)] at hd
        cases hd
def wipeE (env : List Sl) : List Nat → List Sl
  | [] => env
  | v :: vs => (wipeE env vs).set v .no
theorem EnvR.wipe {K : PySem.W.Frag} {G H : Hp} {σ : L2.St} {env : List Sl} (E : EnvR K G H σ env) : ∀ vs : List Nat, EnvR K G H (L2.wipe σ vs) (wipeE env vs)
  | [] => E
  | v :: vs => (EnvR.wipe E vs).setS trivial
theorem wipe_get {σ : L2.St} : ∀ {vs : List Nat} {i : Nat}, i ∈ vs → i < σ.length → (L2.wipe σ vs)[i]? = some none
  | [], _, h, _ => by cases h
  | v :: vs, i, h, hl => by
    show ((L2.wipe σ vs).set v none)[i]? = some none
    by_cases e : v = i
    · subst e
      rw [List.getElem?_set_self (by rw [wipe_length]; exact hl)]
    · rw [List.getElem?_set_ne e]
      rcases List.mem_cons.mp h with q | q
      · exact absurd q.symm e
      · exact wipe_get q hl
theorem wipe_same {σ σ' : L2.St} {vs : List Nat} (hl : σ'.length = σ.length) (h : ∀ i, i ∉ vs → σ'[i]? = (L2.wipe σ vs)[i]?) : L2.wipe σ' vs = L2.wipe σ vs := by
  apply List.ext_getElem?
  intro i
  by_cases hi : i ∈ vs
  · by_cases hlt : i < σ.length
    · rw [wipe_get hi hlt, wipe_get hi (by rw [hl]; exact hlt)]
    · rw [List.getElem?_eq_none (by rw [wipe_length, hl]; omega), List.getElem?_eq_none (by rw [wipe_length]; omega)]
  · rw [wipe_out hi, h i hi]
theorem bnd_wipe (t : Tg) (d : D) (env : List Sl) (hf : t.fits d) : bnd t d (wipeE env t.ix) = bnd t d env := by
  cases t with
  | one i =>
    show ((env.set i .no).set i (.d d)) = env.set i (.d d)
    rw [List.set_set]
  | two i j =>
    obtain ⟨a, b, rfl⟩ := hf
    show ((((env.set j .no).set i .no).set i (.d a)).set j (.d b)) = (env.set i (.d a)).set j (.d b)
    rw [List.set_set]
    by_cases e : i = j
    · subst e
      rw [List.set_set, List.set_set, List.set_set]
    · rw [List.set_comm _ _ (Ne.symm e), List.set_set]
/-- tests of a comprehension: none, or one -/
def JIf (W : Gx) (S : Sc) (k : Nat) (ifs : List Expr) (env : List Sl) (b : Bool) : Prop := match ifs with
  | [] => b = true
  | [c] => JT W S k c env b
  | _ => False
def wIf (W : Gx) (S : Sc) (k : Nat) (ifs : List Expr) : TT := match ifs with
  | [] => tYes
  | [c] => wT W S k c
  | _ => fun _ _ _ => False
theorem pts_w {X : Cx} (hX : CC W S k X) (ifs : List Expr) (h : ifs.length ≤ 1) : PTs X ifs (wIf W S k ifs) := match ifs, h with
  | [], _ => pts_nil
  | [c], _ => pts_one (pt_w hX c)
theorem JIf.len {ifs : List Expr} {b : Bool} (h : JIf W S k ifs env b) : ifs.length ≤ 1 := by
  match ifs, h with
  | [], _ => exact Nat.zero_le _
  | [c], _ => exact Nat.le_refl _
  | _ :: _ :: _, h => exact h.elim
theorem JIf.run {ifs : List Expr} {r : Bool} (h : JIf W S k ifs env r) {σ : L2.St} {G H : Hp} (x : Ex G H) (E : EnvR W.K G H σ env) {Q : Bool → Hp → Prop} (q : ∀ G' H', Stp G H G' H' → Q r H') : wIf W S k ifs σ H Q := by
  match ifs, h with
  | [], h =>
    have e : r = true := h
    rw [e] at q
    exact q G H (.refl x)
  | [c], h => exact (show JT W S k c env r from h) σ G H x E Q q
  | _ :: _ :: _, h => exact h.elim
/-- a comprehension comes to a new list of the items ds -/
def JLc (W : Gx) (S : Sc) (k : Nat) (elt tg e : Expr) (ifs : List Expr) (scope : Scope) (env : List Sl) (ds : List D) : Prop := ∃ (own : List (Str × Nat)) (t : Tg), BlkOk S.N S.sc scope own ∧ S.N.Nodup ∧ TgE (blkS S scope) tg t ∧ ifs.length ≤ 1 ∧ (∀ (env : Env) x, foldedSetIterable e env x = pure x) ∧
  ∀ σ G H, Ex G H → EnvR W.K G H σ env → ∀ Q : VK, (∀ p vs G' H', Stp G H G' H' → H p = none → G' p = none → H' p = some (.lst vs) → Reps W.K G' ds vs → Q (.ref p) H') → tLc (wI W S k tg e) (gTg W.K t) (wIf W (blkS S scope) k ifs) (wE W (blkS S scope) k elt) (own.map (·.2)) σ H Q
theorem JLc.n {elt : Expr} {ifs : List Expr} {scope : Scope} {ds : List D} (h : JLc W S k elt tg e ifs scope env ds) : JN W S k (.ListComp elt [⟨tg, e, ifs, 0⟩] scope pos) env ds := by
  obtain ⟨own, t, ok, nd, ht, h1, hs, h⟩ := h
  exact fun σ G H x E Q q => wE_of (fun X hX => pe_lc (own := own) (wi := wI W S k tg e) (g := gTg W.K t) (tt := wIf W (blkS S scope) k ifs) (te := wE W (blkS S scope) k elt) hX.calm (by rw [hX.N]; exact nd) (pi_w hX tg e) (by rw [hX.N, hX.sc]; exact ok)
    (fun s H C cl fp => pg_tg (cc_blk hX scope s H C cl fp) nd ht) (fun s H C cl fp => pts_w (cc_blk hX scope s H C cl fp) ifs h1) (fun s H C cl fp => pe_w (cc_blk hX scope s H C cl fp) elt) (hs X.env)) (h σ G H x E Q q)
/-- the general one: turn i hands on what `out i` says (nothing, or one item) -/
theorem jlc0 {elt : Expr} {ifs : List Expr} {scope : Scope} {own : List (Str × Nat)} {t : Tg} {items : List D} (keep : Nat → Bool) (val : Nat → D) (hi : JI W S k tg e env items) (ok : BlkOk S.N S.sc scope own) (nd : S.N.Nodup) (ht : TgE (blkS S scope) tg t) (hv : own.map (·.2) = t.ix)
    (hfit : ∀ d ∈ items, t.fits d) (hl : items.length < 100000) (hif : ∀ i d, items[i]? = some d → JIf W (blkS S scope) k ifs (bnd t d env) (keep i)) (h1 : ifs.length ≤ 1)
    (he : ∀ i d, items[i]? = some d → keep i = true → J W (blkS S scope) k elt (bnd t d env) (val i)) (hs : ∀ (env : Env) x, foldedSetIterable e env x = pure x := by intro _ _; rfl) :
    JLc W S k elt tg e ifs scope env (((List.range items.length).filter keep).map val) := ⟨own, t, ok, nd, ht, h1, hs, fun σ G H x E Q q =>
    hi σ G H x E _ fun I G1 H1 s1 ok1 D hD => by
      rw [hv]
      let out : Nat → List TH.D := fun n => ((List.range n).filter keep).map val
      have hout : ∀ n, (out n).length ≤ n := fun n => by
        show (((List.range n).filter keep).map val).length ≤ n
        rw [List.length_map]
        exact Nat.le_trans (List.length_filter_le _ _) (by rw [List.length_range]; exact Nat.le_refl _)
      let Pv : Nat → Hp → Prop := fun n H' => ∃ G' vs, Stp G H G' H' ∧ Ex G1 G' ∧ H D = none ∧ G' D = none ∧ H' D = some (.lst vs) ∧ Reps W.K G' (out n) vs
      refine ⟨fun n m H' => n ≤ items.length ∧ n + m = items.length ∧ Pv n H', ⟨items.length, Nat.zero_le _, Nat.zero_add _, G1, [], s1.trans (.newO s1.s hD), .refl _, s1.h.none hD, s1.s.none hD, upd_same, rfl⟩, fun n m H' hw => ?_⟩
      obtain ⟨hn, hm, G', vs, s', g', dn, gd, hd, rs⟩ := hw
      by_cases hlt : n < items.length
      · refine .inr ⟨ok1.go n G' H' hlt g' s'.s, fun H'' => Pv (n + 1) H'', fun H'' hp => ⟨m - 1, by omega, by omega, by omega, hp⟩, fun v H2 hy => ?_⟩
        obtain ⟨dt, hdt⟩ : ∃ d, items[n]? = some d := ⟨_, List.getElem?_eq_getElem hlt⟩
        obtain ⟨G2, s2, r2⟩ := ok1.yld n dt G' H' v H2 hdt g' s'.s hy
        have fit := hfit dt (List.mem_of_getElem? hdt)
        have st2 := s'.trans s2
        have E2 : EnvR W.K G2 H2 (L2.wipe σ t.ix) (wipeE env t.ix) := (E.mono st2).wipe t.ix
        have Dn : ∀ {Ga Ha Gb Hb : Hp}, Stp Ga Ha Gb Hb → Ha D = some (.lst vs) → Ga D = none → Hb D = some (.lst vs) ∧ Gb D = none := fun s h g => ⟨s.h _ _ h, s.o D (by rw [h]; exact fun z => nomatch z) g⟩
        obtain ⟨hd2, gd2⟩ := Dn s2 hd gd
        refine gTg_run st2.s E2 r2 fit fun σ3 E3 hsame hlen => ⟨wipe_same (by rw [hlen, wipe_length]) hsame, ?_⟩
        rw [bnd_wipe t dt env fit] at E3
        have hout1 : out (n + 1) = out n ++ if keep n = true then [val n] else [] := by
          show ((List.range (n + 1)).filter keep).map val = _
          rw [List.range_succ, List.filter_append, List.map_append]
          congr 1
          cases hk : keep n with
          | true => rw [List.filter_cons_of_pos hk]; rfl
          | false => rw [List.filter_cons_of_neg (by rw [hk]; exact Bool.false_ne_true)]; rfl
        refine (hif n dt hdt).run st2.s E3 fun G3 H3 s3 => ?_
        obtain ⟨hd3, gd3⟩ := Dn s3 hd2 gd2
        cases hk : keep n with
        | false =>
          refine iteF ⟨G3, vs, st2.trans s3, g'.trans (s2.g.trans s3.g), dn, gd3, hd3, ?_⟩
          rw [hout1, hk]
          show Reps W.K G3 (out n ++ []) vs
          rw [List.append_nil]
          exact rs.mono (s2.g.trans s3.g)
        | true =>
          refine iteT ((he n dt hdt hk) σ3 G3 H3 s3.s (E3.mono s3) _ fun u G4 H4 s4 r4 => ?_)
          obtain ⟨hd4, gd4⟩ := Dn s4 hd3 gd3
          refine ⟨vs, hd4, szlt (by rw [rs.length]; exact Nat.lt_of_le_of_lt (hout n) (by omega)), G4, vs ++ [u], ((st2.trans s3).trans s4).mut dn gd4, (g'.trans (s2.g.trans s3.g)).trans s4.g, dn, gd4, upd_same, ?_⟩
          rw [hout1, hk]
          exact ((rs.mono (s2.g.trans s3.g)).mono s4.g).append (.one r4)
      · have en : n = items.length := by omega
        subst en
        exact .inl ⟨ok1.stop G' H' g' s'.s, q D vs G' H' s' dn gd hd rs⟩⟩
theorem range_map {α : Type} {xs : List α} (f : α → D) (dflt : D) : ((List.range xs.length).filter fun _ => true).map (fun i => (xs[i]?.map f).getD dflt) = xs.map f := by
  rw [List.filter_eq_self.mpr (fun _ _ => rfl)]
  apply List.ext_getElem?
  intro i
  rw [List.getElem?_map, List.getElem?_map]
  by_cases h : i < xs.length
  · rw [List.getElem?_range h, List.getElem?_eq_getElem h]
    show some ((xs[i]?.map f).getD dflt) = _
    rw [List.getElem?_eq_getElem h]
    rfl
  · rw [List.getElem?_eq_none (by rw [List.length_range]; omega), List.getElem?_eq_none (by omega)]
    rfl
/-- [elt for target in iter], the items told by xs -/
theorem jlc {α : Type} {elt : Expr} {scope : Scope} {own : List (Str × Nat)} {t : Tg} {xs : List α} {g f : α → D} (hi : JI W S k tg e env (xs.map g)) (ok : BlkOk S.N S.sc scope own) (nd : S.N.Nodup) (ht : TgE (blkS S scope) tg t) (hv : own.map (·.2) = t.ix)
    (hfit : ∀ x ∈ xs, t.fits (g x)) (hl : xs.length < 100000) (he : ∀ x ∈ xs, J W (blkS S scope) k elt (bnd t (g x) env) (f x)) (hs : ∀ (env : Env) x, foldedSetIterable e env x = pure x := by intro _ _; rfl) :
    JLc W S k elt tg e [] scope env (xs.map f) := by
  have h := jlc0 (elt := elt) (ifs := []) (fun _ => true) (fun i => (xs[i]?.map f).getD .non) hi ok nd ht hv (fun d hd => by
    obtain ⟨x, hx, rfl⟩ := List.mem_map.mp hd
    exact hfit x hx) (by rw [List.length_map]; exact hl) (fun i d _ => rfl) (Nat.zero_le _) (fun i d hd _ => by
    rw [List.getElem?_map] at hd
    obtain ⟨x, hx, rfl⟩ := Option.map_eq_some_iff.mp hd
    rw [hx]
    exact he x (List.mem_of_getElem? hx)) hs
  rw [List.length_map, range_map] at h
  exact h
theorem filter_range {α : Type} (p : α → Bool) (f : α → D) (dflt : D) : ∀ xs : List α, ((List.range xs.length).filter fun i => (xs[i]?.map p).getD false).map (fun i => (xs[i]?.map f).getD dflt) = (xs.filter p).map f
  | [] => rfl
  | x :: r => by
    have ih := filter_range p f dflt r
    rw [List.length_cons, List.range_succ_eq_map, List.filter_cons]
    have e0 : (((x :: r)[0]?.map p).getD false) = p x := rfl
    have e1 : ((List.map Nat.succ (List.range r.length)).filter fun i => (((x :: r)[i]?).map p).getD false) = ((List.range r.length).filter fun i => (r[i]?.map p).getD false).map Nat.succ := by
      rw [List.filter_map]
      rfl
    rw [e0, e1]
    cases hp : p x with
    | true =>
      rw [if_pos rfl, List.filter_cons_of_pos hp, List.map_cons, List.map_cons, List.map_map, ← ih]
      rfl
    | false =>
      rw [if_neg Bool.false_ne_true, List.filter_cons_of_neg (by rw [hp]; exact Bool.false_ne_true), List.map_map, ← ih]
      rfl
/-- [elt for target in iter if test] -/
theorem jlcIf {α : Type} {elt cnd : Expr} {scope : Scope} {own : List (Str × Nat)} {t : Tg} {xs : List α} {g f : α → D} (ps : α → Bool) (hi : JI W S k tg e env (xs.map g)) (ok : BlkOk S.N S.sc scope own) (nd : S.N.Nodup) (ht : TgE (blkS S scope) tg t) (hv : own.map (·.2) = t.ix)
    (hfit : ∀ x ∈ xs, t.fits (g x)) (hl : xs.length < 100000) (hif : ∀ x ∈ xs, JT W (blkS S scope) k cnd (bnd t (g x) env) (ps x)) (he : ∀ x ∈ xs, ps x = true → J W (blkS S scope) k elt (bnd t (g x) env) (f x)) (hs : ∀ (env : Env) x, foldedSetIterable e env x = pure x := by intro _ _; rfl) :
    JLc W S k elt tg e [cnd] scope env ((xs.filter ps).map f) := by
  have h := jlc0 (elt := elt) (ifs := [cnd]) (fun i => (xs[i]?.map ps).getD false) (fun i => (xs[i]?.map f).getD .non) hi ok nd ht hv (fun d hd => by
    obtain ⟨x, hx, rfl⟩ := List.mem_map.mp hd
    exact hfit x hx) (by rw [List.length_map]; exact hl) (fun i d hd => by
    rw [List.getElem?_map] at hd
    obtain ⟨x, hx, rfl⟩ := Option.map_eq_some_iff.mp hd
    show JT _ _ _ _ _ _
    rw [hx]
    exact hif x (List.mem_of_getElem? hx)) (Nat.le_refl _) (fun i d hd hk => by
    rw [List.getElem?_map] at hd
    obtain ⟨x, hx, rfl⟩ := Option.map_eq_some_iff.mp hd
    rw [hx] at hk ⊢
    exact he x (List.mem_of_getElem? hx) hk) hs
  rw [List.length_map, filter_range] at h
  exact h
end
end TH
set_option maxHeartbeats 4000000
namespace TH
open PySem PySem.Spec PyProof.Rows L2
/-- where one stands: G0 H0 the entry -/
structure At (W : Gx) (G0 H0 : Hp) (env : List Sl) (σ : L2.St) (G H : Hp) : Prop where
  s : Stp G0 H0 G H
  e : EnvR W.K G H σ env
  fresh : ∀ (i : Nat) (ds : List D) (p : Addr), env[i]? = some (.own ds) → σ[i]? = some (some (.ref p)) → H0 p = none
  dis : ∀ (i j : Nat) (ds es : List D) (p : Addr), env[i]? = some (.own ds) → env[j]? = some (.own es) → σ[i]? = some (some (.ref p)) → σ[j]? = some (some (.ref p)) → i = j
section
variable {W : Gx} {G0 H0 G H G' H' : Hp} {env : List Sl} {σ : L2.St}
theorem At.mono (A : At W G0 H0 env σ G H) (s : Stp G H G' H') : At W G0 H0 env σ G' H' := ⟨A.s.trans s, A.e.mono s, A.fresh, A.dis⟩
theorem get_set {α : Type} {l : List α} {i j : Nat} {x y : α} (h : (l.set i x)[j]? = some y) : (i = j ∧ y = x) ∨ (i ≠ j ∧ l[j]? = some y) := by
  by_cases e : i = j
  · subst e
    have hl : i < l.length := by
      have := (List.getElem?_eq_some_iff.mp h).1
      rw [List.length_set] at this
      exact this
    rw [List.getElem?_set_self hl] at h
    exact .inl ⟨rfl, (Option.some.inj h).symm⟩
  · rw [List.getElem?_set_ne e] at h
    exact .inr ⟨e, h⟩
theorem At.rebase (A : At W G0 H0 env σ G H) : At W G H0 env σ G H := ⟨⟨.refl G, A.s.h, A.s.s, fun _ _ h => h⟩, A.e, A.fresh, A.dis⟩
theorem At.unbase {G1 H1 : Hp} (s : Stp G0 H0 G1 H1) (A : At W G1 H0 env σ G H) : At W G0 H0 env σ G H := ⟨⟨s.g.trans A.s.g, A.s.h, A.s.s, fun a h1 h2 => A.s.o a h1 (s.o a h1 h2)⟩, A.e, A.fresh, A.dis⟩
/-- a slot takes a datum, or is forgotten -/
theorem At.setS {i : Nat} {x : Sl} {o : Option V} (A : At W G0 H0 env σ G H) (r : SlR W.K G H x o) (hx : ∀ ds, x ≠ .own ds) : At W G0 H0 (env.set i x) (σ.set i o) G H := by
  refine ⟨A.s, A.e.setS r, fun j ds p h1 h2 => ?_, fun j m ds es p h1 h2 h3 h4 => ?_⟩
  · rcases get_set h1 with ⟨_, q⟩ | ⟨ne, q⟩
    · exact absurd q.symm (hx ds)
    · rw [List.getElem?_set_ne ne] at h2
      exact A.fresh j ds p q h2
  · rcases get_set h1 with ⟨_, q⟩ | ⟨ne, q⟩
    · exact absurd q.symm (hx ds)
    · rcases get_set h2 with ⟨_, q'⟩ | ⟨ne', q'⟩
      · exact absurd q'.symm (hx es)
      · rw [List.getElem?_set_ne ne] at h3
        rw [List.getElem?_set_ne ne'] at h4
        exact A.dis j m ds es p q q' h3 h4
theorem At.set {i : Nat} {x : D} {v : V} (A : At W G0 H0 env σ G H) (r : Rep W.K G x v) : At W G0 H0 (env.set i (.d x)) (σ.set i (some v)) G H := A.setS ⟨v, rfl, r⟩ fun _ h => nomatch h
theorem At.le {env' : List Sl} (A : At W G0 H0 env σ G H) (l : Le env env') : At W G0 H0 env' σ G H :=
  ⟨A.s, A.e.le l, fun i ds p h1 h2 => (l.2 i _ h1).elim (fun q => nomatch q) fun q => A.fresh i ds p q h2, fun i j ds es p h1 h2 h3 h4 => (l.2 i _ h1).elim (fun q => nomatch q) fun q => (l.2 j _ h2).elim (fun q => nomatch q) fun q' => A.dis i j ds es p q q' h3 h4⟩
/-- a slot takes a new list -/
theorem At.setO {i p : Nat} {ds : List D} {vs : List V} (A : At W G0 H0 env σ G H) (s : Stp G H G' H') (hn : H p = none) (hg : G' p = none) (hh : H' p = some (.lst vs)) (r : Reps W.K G' ds vs) : At W G0 H0 (env.set i (.own ds)) (σ.set i (some (.ref p))) G' H' := by
  have A' := A.mono s
  have key : ∀ (j : Nat) (es : List D) (q : Addr), env[j]? = some (.own es) → σ[j]? = some (some (.ref q)) → q ≠ p := fun j es q h1 h2 e => by
    obtain ⟨o, h3, p', vs', h4, h5, _⟩ := A.e.get h1
    rw [h3] at h2
    rw [Option.some.inj h2] at h4
    have e2 : V.ref q = V.ref p' := Option.some.inj h4
    injection e2 with e2
    rw [← e2, e, hn] at h5
    cases h5
  refine ⟨A'.s, A'.e.setS ⟨p, vs, rfl, hh, hg, r⟩, fun j es q h1 h2 => ?_, fun j m es fs q h1 h2 h3 h4 => ?_⟩
  · rcases get_set h1 with ⟨e, q'⟩ | ⟨ne, q'⟩
    · subst e
      rcases get_set h2 with ⟨_, q2⟩ | ⟨n2, _⟩
      · have e2 : V.ref q = V.ref p := Option.some.inj q2
        injection e2 with e2
        rw [e2]
        exact A.s.h.none hn
      · exact absurd rfl n2
    · rw [List.getElem?_set_ne ne] at h2
      exact A.fresh j es q q' h2
  · rcases get_set h1 with ⟨e, q1⟩ | ⟨ne, q1⟩
    · subst e
      rcases get_set h2 with ⟨e2, q2⟩ | ⟨ne2, q2⟩
      · exact e2
      · rw [List.getElem?_set_ne ne2] at h4
        rcases get_set h3 with ⟨_, q3⟩ | ⟨n3, _⟩
        · have e2 : V.ref q = V.ref p := Option.some.inj q3
          injection e2 with e2
          exact absurd e2 (key m fs q q2 h4)
        · exact absurd rfl n3
    · rw [List.getElem?_set_ne ne] at h3
      rcases get_set h2 with ⟨e2, q2⟩ | ⟨ne2, q2⟩
      · subst e2
        rcases get_set h4 with ⟨_, q3⟩ | ⟨n3, _⟩
        · have e2 : V.ref q = V.ref p := Option.some.inj q3
          injection e2 with e2
          exact absurd e2 (key j es q q1 h3)
        · exact absurd rfl n3
      · rw [List.getElem?_set_ne ne2] at h4
        exact A.dis j m es fs q q1 q2 h3 h4
/-- a list that is being made grows (or changes) -/
theorem At.mutO {i p : Nat} {ds es : List D} {vs : List V} (A : At W G0 H0 env σ G H) (hi : env[i]? = some (.own ds)) (hp : σ[i]? = some (some (.ref p))) (hg : G p = none) (r : Reps W.K G es vs) : At W G0 H0 (env.set i (.own es)) σ G (upd H p (.lst vs)) := by
  have h0 := A.fresh i ds p hi hp
  have hl : i < env.length := (List.getElem?_eq_some_iff.mp hi).1
  refine ⟨A.s.mut h0 hg, ⟨by rw [List.length_set]; exact A.e.len, fun j x o h1 h2 => ?_⟩, fun j fs q h1 h2 => ?_, fun j m fs gs q h1 h2 h3 h4 => ?_⟩
  · rcases get_set h1 with ⟨e, q⟩ | ⟨ne, q⟩
    · subst e
      rw [hp] at h2
      rw [q, ← Option.some.inj h2]
      exact ⟨p, vs, rfl, upd_same, hg, r⟩
    · have hx := A.e.at_ j x o q h2
      cases x with
      | no => trivial
      | d x => exact hx
      | own fs =>
        obtain ⟨q', us, e1, e2, e3, e4⟩ := hx
        have hne : q' ≠ p := fun e => ne (A.dis i j ds fs p hi q hp (by rw [h2, e1, e]))
        exact ⟨q', us, e1, by rw [upd_ne hne]; exact e2, e3, e4⟩
      | raw v => exact hx
  · rcases get_set h1 with ⟨e, q'⟩ | ⟨ne, q'⟩
    · subst e
      exact A.fresh i ds q hi h2
    · exact A.fresh j fs q q' h2
  · rcases get_set h1 with ⟨e, q1⟩ | ⟨ne, q1⟩
    · subst e
      rcases get_set h2 with ⟨e2, q2⟩ | ⟨ne2, q2⟩
      · exact e2
      · exact A.dis i m ds gs q hi q2 h3 h4
    · rcases get_set h2 with ⟨e2, q2⟩ | ⟨ne2, q2⟩
      · subst e2
        exact A.dis j i fs ds q q1 hi h3 h4
      · exact A.dis j m fs gs q q1 q2 h3 h4
/-- a list that was being made is from now on never written -/
theorem At.freeze {i : Nat} {ds : List D} (A : At W G0 H0 env σ G H) (hi : env[i]? = some (.own ds)) : ∃ G', At W G0 H0 (env.set i (.d (.lst ds))) σ G' H := by
  obtain ⟨o, h3, p, vs, h4, h5, h6, r⟩ := A.e.get hi
  subst h4
  have h0 := A.fresh i ds p hi h3
  have hex : Ex G (upd G p (.lst vs)) := .new h6
  refine ⟨upd G p (.lst vs), A.s.freeze h0 h6 h5, ⟨by rw [List.length_set]; exact A.e.len, fun j x o h1 h2 => ?_⟩, fun j fs q h1 h2 => ?_, fun j m fs gs q h1 h2 h3 h4 => ?_⟩
  · rcases get_set h1 with ⟨e, q⟩ | ⟨ne, q⟩
    · subst e
      rw [h3] at h2
      rw [q, ← Option.some.inj h2]
      exact ⟨.ref p, rfl, p, vs, rfl, upd_same, r.mono hex⟩
    · have hx := A.e.at_ j x o q h2
      cases x with
      | no => trivial
      | d x =>
        obtain ⟨v, e1, e2⟩ := hx
        exact ⟨v, e1, e2.mono hex⟩
      | own fs =>
        obtain ⟨q', us, e1, e2, e3, e4⟩ := hx
        have hne : q' ≠ p := fun e => ne (A.dis i j ds fs p hi q h3 (by rw [h2, e1, e]))
        exact ⟨q', us, e1, e2, by rw [upd_ne hne]; exact e3, e4.mono hex⟩
      | raw v => exact hx
  · rcases get_set h1 with ⟨_, q'⟩ | ⟨ne, q'⟩
    · cases q'
    · exact A.fresh j fs q q' h2
  · rcases get_set h1 with ⟨_, q'⟩ | ⟨ne, q1⟩
    · cases q'
    · rcases get_set h2 with ⟨_, q'⟩ | ⟨ne2, q2⟩
      · cases q'
      · exact A.dis j m fs gs q q1 q2 h3 h4
end
section
variable {W : Gx} {S : Sc} {k : Nat} {G0 H0 G H : Hp} {env : List Sl} {σ : L2.St} {D' : Ends} {rest : List Stmt} {e a b c tg : Expr} {pos pos' p p1 p2 : Pos} {x y : Str} {i j : Nat} {d d' : D}
theorem ws_set (A : At W G0 H0 env σ G H) (nd : S.N.Nodup) (hs : StN S i x) (he : J W S k e env d) (next : ∀ σ' G' H', At W G0 H0 (env.set i (.d d)) σ' G' H' → wSs W S k rest D' σ' H')
    (hsw : ∀ env : Env, swapsWith e (some (.Name x pos')) pos.line env = pure false := by intro _; rfl) : wSs W S k (.Assign [.Name x pos'] e pos :: rest) D' σ H :=
  wSs_cons (wS_of (fun X hX => ps_set (by rw [hX.N]; exact nd) (by rw [hX.N]; exact hs.1) (by rw [hX.sc]; exact hs.2.1) (pe_w hX e) (hsw X.env) (by rw [hX.fb, hX.sc]; exact hs.2.2)) (he σ G H A.s.s A.e _ fun v G1 H1 s1 r1 => next _ G1 H1 ((A.mono s1).set r1)))
/-- x = a new list, that will be written -/
theorem ws_setO {ds : List D} (A : At W G0 H0 env σ G H) (nd : S.N.Nodup) (hs : StN S i x) (he : JN W S k e env ds) (next : ∀ σ' G' H', At W G0 H0 (env.set i (.own ds)) σ' G' H' → wSs W S k rest D' σ' H')
    (hsw : ∀ env : Env, swapsWith e (some (.Name x pos')) pos.line env = pure false := by intro _; rfl) : wSs W S k (.Assign [.Name x pos'] e pos :: rest) D' σ H :=
  wSs_cons (wS_of (fun X hX => ps_set (by rw [hX.N]; exact nd) (by rw [hX.N]; exact hs.1) (by rw [hX.sc]; exact hs.2.1) (pe_w hX e) (hsw X.env) (by rw [hX.fb, hX.sc]; exact hs.2.2)) (he σ G H A.s.s A.e _ fun p vs G1 H1 s1 hn hg hh r1 => next _ G1 H1 (A.setO s1 hn hg hh r1)))
/-- x = [.. for ..], x a plain local -/
theorem wsc_set {elt it : Expr} {ifs : List Expr} {scope : Scope} {ds : List D} {sl : Sl} (A : At W G0 H0 env σ G H) (hN : S.N[i]? = some x) (hk : S.sc.kind = .function) (hl : S.sc.names.lookup x = some .local) (he : JLc W S k elt tg it ifs scope env ds) (nd : S.N.Nodup)
    (next : ∀ p vs G' H', Stp G H G' H' → H p = none → G' p = none → H' p = some (.lst vs) → Reps W.K G' ds vs → wSs W S k rest D' (σ.set i (some (.ref p))) H')
    (hln : (pos'.line == p.line) = true := by rfl) (ha : (scope.names.any fun (n, k) => n == x && (k == .local || k == .cell)) = false := by decide +kernel) : wSs W S k (.Assign [.Name x pos'] (.ListComp elt [⟨tg, it, ifs, 0⟩] scope p) pos :: rest) D' σ H := by
  obtain ⟨own, t, ok, _, ht, h1, hs, h⟩ := he
  refine wSs_cons (wS_of (fun X hX => ps_setLc (own := own) (wi := wI W S k tg it) (g := gTg W.K t) (tt := wIf W (blkS S scope) k ifs) (te := wE W (blkS S scope) k elt) hX.calm (by rw [hX.N]; exact nd) (by rw [hX.N]; exact hN) (by rw [hX.sc]; exact hl)
    (sw_true (by rw [hX.sc]; exact hk) (by rw [hX.sc]; exact hl) hln ha) (pi_w hX tg it) (by rw [hX.N, hX.sc]; exact ok)
    (fun s H C cl fp => pg_tg (cc_blk hX scope s H C cl fp) nd ht) (fun s H C cl fp => pts_w (cc_blk hX scope s H C cl fp) ifs h1) (fun s H C cl fp => pe_w (cc_blk hX scope s H C cl fp) elt) (hs X.env)) ?_)
  exact h σ G H A.s.s A.e _ fun p vs G1 H1 s1 hn hg hh r1 => next p vs G1 H1 s1 hn hg hh r1
theorem ws_setLc {elt it : Expr} {ifs : List Expr} {scope : Scope} {ds : List D} (A : At W G0 H0 env σ G H) (nd : S.N.Nodup) (hN : S.N[i]? = some x) (hk : S.sc.kind = .function) (hl : S.sc.names.lookup x = some .local) (he : JLc W S k elt tg it ifs scope env ds)
    (next : ∀ σ' G' H', At W G0 H0 (env.set i (.d (.lst ds))) σ' G' H' → wSs W S k rest D' σ' H')
    (hln : (pos'.line == p.line) = true := by rfl) (ha : (scope.names.any fun (n, k) => n == x && (k == .local || k == .cell)) = false := by decide +kernel) : wSs W S k (.Assign [.Name x pos'] (.ListComp elt [⟨tg, it, ifs, 0⟩] scope p) pos :: rest) D' σ H :=
  wsc_set (sl := .no) A hN hk hl he nd (fun q vs G1 H1 s1 hn hg hh r1 => next _ (upd G1 q (.lst vs)) H1 ((A.mono (s1.freeze hn hg hh)).set ⟨q, vs, rfl, upd_same, r1.mono (.new hg)⟩)) hln ha
theorem ws_setLcO {elt it : Expr} {ifs : List Expr} {scope : Scope} {ds : List D} (A : At W G0 H0 env σ G H) (nd : S.N.Nodup) (hN : S.N[i]? = some x) (hk : S.sc.kind = .function) (hl : S.sc.names.lookup x = some .local) (he : JLc W S k elt tg it ifs scope env ds)
    (next : ∀ σ' G' H', At W G0 H0 (env.set i (.own ds)) σ' G' H' → wSs W S k rest D' σ' H')
    (hln : (pos'.line == p.line) = true := by rfl) (ha : (scope.names.any fun (n, k) => n == x && (k == .local || k == .cell)) = false := by decide +kernel) : wSs W S k (.Assign [.Name x pos'] (.ListComp elt [⟨tg, it, ifs, 0⟩] scope p) pos :: rest) D' σ H :=
  wsc_set (sl := .no) A hN hk hl he nd (fun q vs G1 H1 s1 hn hg hh r1 => next _ G1 H1 (A.setO s1 hn hg hh r1)) hln ha
/-- x = [.. for ..], x captured by another comprehension -/
theorem ws_setLcC {elt it : Expr} {ifs : List Expr} {scope : Scope} {ds : List D} (A : At W G0 H0 env σ G H) (nd : S.N.Nodup) (hs : StN S i x) (hl : S.sc.names.lookup x = some .cell) (he : JLc W S k elt tg it ifs scope env ds)
    (next : ∀ σ' G' H', At W G0 H0 (env.set i (.d (.lst ds))) σ' G' H' → wSs W S k rest D' σ' H') : wSs W S k (.Assign [.Name x pos'] (.ListComp elt [⟨tg, it, ifs, 0⟩] scope p) pos :: rest) D' σ H :=
  wSs_cons (wS_of (fun X hX => ps_set (by rw [hX.N]; exact nd) (by rw [hX.N]; exact hs.1) (by rw [hX.sc]; exact hs.2.1) (pe_w hX _) (by
    show (pure _ : Sem Bool) = pure false
    have e1 : X.env.kindOf x = some .cell := by
      show X.env.scope.names.lookup x = _
      rw [hX.sc]
      exact hl
    rw [e1]
    have e2 : (some NameKind.cell == some NameKind.local) = false := rfl
    rw [e2, Bool.and_false, Bool.false_and, Bool.false_and]) (by rw [hX.fb, hX.sc]; exact hs.2.2)) (he.n.lst σ G H A.s.s A.e _ fun v G1 H1 s1 r1 => next _ G1 H1 ((A.mono s1).set r1)))
theorem ws_ret (A : At W G0 H0 env σ G H) (he : J W S k e env d) (next : ∀ v G' H', Stp G0 H0 G' H' → Rep W.K G' d v → D'.rt v H') : wSs W S k (.Return (some e) pos :: rest) D' σ H :=
  wSs_cons (wS_of (fun X hX => ps_ret (pe_w hX e)) (he σ G H A.s.s A.e _ fun v G1 H1 s1 r1 => next v G1 H1 (A.s.trans s1) r1))
/-- return of a list that was being made -/
theorem ws_retO {ds : List D} (A : At W G0 H0 env σ G H) (hi : env[i]? = some (.own ds)) (hN : S.N[i]? = some x) (hv : VisS S x) (next : ∀ v G' H', Stp G0 H0 G' H' → Rep W.K G' (.lst ds) v → D'.rt v H') (hd : (x == ("__debug__" : Str)) = false := by decide) (hcd : (x == ("__classdict__" : Str)) = false := by decide) : wSs W S k (.Return (some (.Name x p)) pos :: rest) D' σ H := by
  obtain ⟨G', A'⟩ := A.freeze hi
  have hl : i < env.length := (List.getElem?_eq_some_iff.mp hi).1
  exact ws_ret A' (j_var hN hv (List.getElem?_set_self hl) hd hcd) next
theorem ws_if {t f : List Stmt} {r : Bool} (A : At W G0 H0 env σ G H) (hc : JT W S k c env r) (h1 : r = true → ∀ G' H', At W G0 H0 env σ G' H' → wSs W S k t { D' with nx := wSs W S k rest D' } σ H') (h2 : r = false → ∀ G' H', At W G0 H0 env σ G' H' → wSs W S k f { D' with nx := wSs W S k rest D' } σ H') : wSs W S k (.If c t f pos :: rest) D' σ H :=
  wSs_cons (wS_of (fun X hX => ps_if (pt_w hX c) (pss_w hX t) (pss_w hX f)) (hc σ G H A.s.s A.e _ fun G1 H1 s1 => by
    cases r with
    | true => exact iteT (h1 rfl G1 H1 (A.mono s1))
    | false => exact iteF (h2 rfl G1 H1 (A.mono s1))))
/-- an if whose suite is not taken -/
theorem ws_ifF {t : List Stmt} (A : At W G0 H0 env σ G H) (hc : JT W S k c env false) (next : ∀ G' H', At W G0 H0 env σ G' H' → wSs W S k rest D' σ H') : wSs W S k (.If c t [] pos :: rest) D' σ H :=
  ws_if A hc (fun h => nomatch h) fun _ G1 H1 A1 => wSs_nil (next G1 H1 A1)
theorem ws_nil (h : D'.nx σ H) : wSs W S k [] D' σ H := wSs_nil h
/-- for target in iter: envs i is what holds ahead of turn i -/
theorem ws_for {body : List Stmt} {items : List D} {t : Tg} (envs : Nat → List Sl) (A : At W G0 H0 env σ G H) (nd : S.N.Nodup) (hi : JI W S k tg e env items) (ht : TgE S tg t) (hfit : ∀ d ∈ items, t.fits d) (h0 : Le env (envs 0))
    (hb : ∀ (Gb : Hp) n d σ' G' H' (nx : L2.St → Hp → Prop), items[n]? = some d → At W Gb H0 (bnd t d (envs n)) σ' G' H' → (∀ σ2 G2 H2, At W Gb H0 (envs (n + 1)) σ2 G2 H2 → nx σ2 H2) → wSs W S k body { D' with nx := nx, ct := nx, bk := wSs W S k rest D' } σ' H')
    (next : ∀ σ' G' H', At W G0 H0 (envs items.length) σ' G' H' → wSs W S k rest D' σ' H') (hs : ∀ (env : Env) x, foldedSetIterable e env x = pure x := by intro _ _; rfl)
     : wSs W S k (.For tg e body [] pos :: rest) D' σ H :=
  wSs_cons (wS_X (fun X hX => (ps_for (X := X.nox) PassesOwn.never hX.calm (pi_w (show CC W S k X.nox from ⟨hX.P, hX.w, hX.K, hX.mg, hX.base, hX.N, hX.sc, hX.fb, hX.calm, hX.room⟩) tg e) (pg_tg (show CC W S k X.nox from ⟨hX.P, hX.w, hX.K, hX.mg, hX.base, hX.N, hX.sc, hX.fb, hX.calm, hX.room⟩) nd ht) (pss_w (show CC W S k X.nox from ⟨hX.P, hX.w, hX.K, hX.mg, hX.base, hX.N, hX.sc, hX.fb, hX.calm, hX.room⟩) body) (hs X.env)) |> fun h => ⟨fun pins s σ H D I q => wpAny_mono (h.run pins s σ H D (I.wish _) q) (fun f s' z => z.unwish) fun _ _ z => z.elim⟩) fun X hX =>
    hi σ G H A.s.s A.e _ fun I G1 H1 s1 ok => by
      have A1 := (A.mono s1).le h0
      refine ⟨fun n m σ' H' => n + m = items.length ∧ ∃ G', At W G1 H0 (envs n) σ' G' H', ⟨items.length, Nat.zero_add _, G1, A1.rebase⟩, fun n m σ' H' hw => ?_⟩
      obtain ⟨hm, G', A'⟩ := hw
      have g' := A'.s.g
      by_cases hlt : n < items.length
      · refine .inr ⟨ok.go n G' H' hlt g' A'.s.s, fun σ2 H2 => ∃ G2, At W G1 H0 (envs (n + 1)) σ2 G2 H2, fun σ2 H2 ⟨G2, A2⟩ => ⟨m - 1, by omega, by omega, G2, A2⟩, fun v H2 hy => ?_⟩
        obtain ⟨dt, hdt⟩ : ∃ d, items[n]? = some d := ⟨_, List.getElem?_eq_getElem hlt⟩
        obtain ⟨G2, s2, r2⟩ := ok.yld n dt G' H' v H2 hdt g' A'.s.s hy
        have fit := hfit dt (List.mem_of_getElem? hdt)
        have A2 := A'.mono s2
        have A3 : ∀ (σ3 : L2.St), EnvR W.K G2 H2 σ3 (bnd t dt (envs n)) → (∀ i, i ∉ t.ix → σ3[i]? = σ'[i]?) → At W G1 H0 (bnd t dt (envs n)) σ3 G2 H2 := fun σ3 E3 hsame => by
          have key : ∀ (j : Nat) (ds : List D), (bnd t dt (envs n))[j]? = some (.own ds) → (envs n)[j]? = some (.own ds) ∧ j ∉ t.ix := fun j ds hj => by
            cases t with
            | one i =>
              rcases get_set hj with ⟨_, q⟩ | ⟨ne, q⟩
              · cases q
              · exact ⟨q, fun z => ne (List.mem_singleton.mp z).symm⟩
            | two i i' =>
              obtain ⟨a, b, rfl⟩ := fit
              rcases get_set hj with ⟨_, q⟩ | ⟨ne, q⟩
              · cases q
              · rcases get_set q with ⟨_, q2⟩ | ⟨ne2, q2⟩
                · cases q2
                · refine ⟨q2, fun z => ?_⟩
                  rcases List.mem_cons.mp z with z | z
                  · exact ne2 z.symm
                  · exact ne (List.mem_singleton.mp z).symm
          refine ⟨A2.s, E3, fun j ds q h1 h2 => ?_, fun j j' ds es q h1 h2 h3 h4 => ?_⟩
          · obtain ⟨k1, k2⟩ := key j ds h1
            rw [hsame j k2] at h2
            exact A2.fresh j ds q k1 h2
          · obtain ⟨k1, k2⟩ := key j ds h1
            obtain ⟨k3, k4⟩ := key j' es h2
            rw [hsame j k2] at h3
            rw [hsame j' k4] at h4
            exact A2.dis j j' ds es q k1 k3 h3 h4
        refine gTg_run A2.s.s A2.e r2 fit fun σ3 E3 hsame _ => ?_
        exact hb G1 n dt σ3 G2 H2 _ hdt (A3 σ3 E3 hsame) fun σ4 G4 H4 A4 => ⟨G4, A4⟩
      · have en : n = items.length := by omega
        subst en
        exact .inl ⟨ok.stop G' H' g' A'.s.s, next σ' G' H' (A'.unbase A1.s)⟩)
/-- the same cells, whatever is in them -/
def Dom (H H' : Hp) : Prop := ∀ a, H a = none ↔ H' a = none
theorem At.unbaseB {W : Gx} {G0 H0 G1 H1 Hb G H : Hp} {env : List Sl} {σ : L2.St} (A : At W G1 Hb env σ G H) (s : Stp G0 H0 G1 H1) (d : Dom H0 Hb) : At W G0 Hb env σ G H :=
  ⟨⟨s.g.trans A.s.g, A.s.h, A.s.s, fun a h1 h2 => A.s.o a h1 (s.o a (fun z => h1 ((d a).mp z)) h2)⟩, A.e, A.fresh, A.dis⟩
/-- .. the base heap may change too, in its contents: Iv i is true of it ahead of turn i -/
theorem ws_forB {body : List Stmt} {items : List D} {t : Tg} (envs : Nat → List Sl) (Iv : Nat → Hp → Prop) (A : At W G0 H0 env σ G H) (nd : S.N.Nodup) (hi : JI W S k tg e env items) (ht : TgE S tg t) (hfit : ∀ d ∈ items, t.fits d) (h0 : Le env (envs 0)) (i0 : Iv 0 H0)
    (hb : ∀ (Gb Hb : Hp) n d σ' G' H' (nx : L2.St → Hp → Prop), items[n]? = some d → Dom H0 Hb → Iv n Hb → At W Gb Hb (bnd t d (envs n)) σ' G' H' → (∀ Hc σ2 G2 H2, Dom H0 Hc → Iv (n + 1) Hc → At W Gb Hc (envs (n + 1)) σ2 G2 H2 → nx σ2 H2) → wSs W S k body { D' with nx := nx, ct := nx, bk := wSs W S k rest D' } σ' H')
    (next : ∀ Hb σ' G' H', Dom H0 Hb → Iv items.length Hb → At W G0 Hb (envs items.length) σ' G' H' → wSs W S k rest D' σ' H') (hs : ∀ (env : Env) x, foldedSetIterable e env x = pure x := by intro _ _; rfl)
     : wSs W S k (.For tg e body [] pos :: rest) D' σ H :=
  wSs_cons (wS_X (fun X hX => (ps_for (X := X.nox) PassesOwn.never hX.calm (pi_w (show CC W S k X.nox from ⟨hX.P, hX.w, hX.K, hX.mg, hX.base, hX.N, hX.sc, hX.fb, hX.calm, hX.room⟩) tg e) (pg_tg (show CC W S k X.nox from ⟨hX.P, hX.w, hX.K, hX.mg, hX.base, hX.N, hX.sc, hX.fb, hX.calm, hX.room⟩) nd ht) (pss_w (show CC W S k X.nox from ⟨hX.P, hX.w, hX.K, hX.mg, hX.base, hX.N, hX.sc, hX.fb, hX.calm, hX.room⟩) body) (hs X.env)) |> fun h => ⟨fun pins s σ H D I q => wpAny_mono (h.run pins s σ H D (I.wish _) q) (fun f s' z => z.unwish) fun _ _ z => z.elim⟩) fun X hX =>
    hi σ G H A.s.s A.e _ fun I G1 H1 s1 ok => by
      have A1 := (A.mono s1).le h0
      refine ⟨fun n m σ' H' => n + m = items.length ∧ ∃ G' Hb, Dom H0 Hb ∧ Iv n Hb ∧ At W G1 Hb (envs n) σ' G' H', ⟨items.length, Nat.zero_add _, G1, H0, fun _ => Iff.rfl, i0, A1.rebase⟩, fun n m σ' H' hw => ?_⟩
      obtain ⟨hm, G', Hb, db, iv, A'⟩ := hw
      have g' := A'.s.g
      by_cases hlt : n < items.length
      · refine .inr ⟨ok.go n G' H' hlt g' A'.s.s, fun σ2 H2 => ∃ G2 Hc, Dom H0 Hc ∧ Iv (n + 1) Hc ∧ At W G1 Hc (envs (n + 1)) σ2 G2 H2, fun σ2 H2 ⟨G2, Hc, dc, ic, A2⟩ => ⟨m - 1, by omega, by omega, G2, Hc, dc, ic, A2⟩, fun v H2 hy => ?_⟩
        obtain ⟨dt, hdt⟩ : ∃ d, items[n]? = some d := ⟨_, List.getElem?_eq_getElem hlt⟩
        obtain ⟨G2, s2, r2⟩ := ok.yld n dt G' H' v H2 hdt g' A'.s.s hy
        have fit := hfit dt (List.mem_of_getElem? hdt)
        have A2 := A'.mono s2
        have A3 : ∀ (σ3 : L2.St), EnvR W.K G2 H2 σ3 (bnd t dt (envs n)) → (∀ i, i ∉ t.ix → σ3[i]? = σ'[i]?) → At W G1 Hb (bnd t dt (envs n)) σ3 G2 H2 := fun σ3 E3 hsame => by
          have key : ∀ (j : Nat) (ds : List D), (bnd t dt (envs n))[j]? = some (.own ds) → (envs n)[j]? = some (.own ds) ∧ j ∉ t.ix := fun j ds hj => by
            cases t with
            | one i =>
              rcases get_set hj with ⟨_, q⟩ | ⟨ne, q⟩
              · cases q
              · exact ⟨q, fun z => ne (List.mem_singleton.mp z).symm⟩
            | two i i' =>
              obtain ⟨a, b, rfl⟩ := fit
              rcases get_set hj with ⟨_, q⟩ | ⟨ne, q⟩
              · cases q
              · rcases get_set q with ⟨_, q2⟩ | ⟨ne2, q2⟩
                · cases q2
                · refine ⟨q2, fun z => ?_⟩
                  rcases List.mem_cons.mp z with z | z
                  · exact ne2 z.symm
                  · exact ne (List.mem_singleton.mp z).symm
          refine ⟨A2.s, E3, fun j ds q h1 h2 => ?_, fun j j' ds es q h1 h2 h3 h4 => ?_⟩
          · obtain ⟨k1, k2⟩ := key j ds h1
            rw [hsame j k2] at h2
            exact A2.fresh j ds q k1 h2
          · obtain ⟨k1, k2⟩ := key j ds h1
            obtain ⟨k3, k4⟩ := key j' es h2
            rw [hsame j k2] at h3
            rw [hsame j' k4] at h4
            exact A2.dis j j' ds es q k1 k3 h3 h4
        refine gTg_run A2.s.s A2.e r2 fit fun σ3 E3 hsame _ => ?_
        exact hb G1 Hb n dt σ3 G2 H2 _ hdt db iv (A3 σ3 E3 hsame) fun Hc σ4 G4 H4 dc ic A4 => ⟨G4, Hc, dc, ic, A4⟩
      · have en : n = items.length := by omega
        subst en
        exact .inl ⟨ok.stop G' H' g' A'.s.s, next Hb σ' G' H' db iv (A'.unbaseB A1.s db)⟩)
end
end TH
set_option maxHeartbeats 4000000
namespace TH
open PySem PySem.Spec PyProof.Rows L2
section
variable {W : Gx} {S : Sc} {k : Nat} {G0 H0 G H : Hp} {env : List Sl} {σ : L2.St} {D' : Ends} {rest : List Stmt} {e a b c tg : Expr} {pos pos' p p1 p2 p3 p4 : Pos} {x y z : Str} {i j l : Nat} {d d' d2 : D}
/-- a, b = e1, e2 : two plain locals -/
theorem ws_par {n n2 : Nat} (A : At W G0 H0 env σ G H) (nd : S.N.Nodup) (hi : S.N[i]? = some x) (hj : S.N[j]? = some y) (hx : S.sc.names.lookup x = some .local) (hy : S.sc.names.lookup y = some .local) (hij : i ≠ j) (he : JA W S k [a, b] env [d, d'])
    (next : ∀ σ' G' H', At W G0 H0 ((env.set i (.d d)).set j (.d d')) σ' G' H' → wSs W S k rest D' σ' H')
    (hw : ∀ env : Env, env.scope = S.sc → swappedStores [.Tuple [.Name x p1, .Name y p2] n p] (.Tuple [a, b] n2 p3) env = pure (some [x, y]) := by intro env h; cases env; cases h; rfl)
    (hs : ∀ env : Env, swapsWithSole [.Tuple [.Name x p1, .Name y p2] n p] (.Tuple [a, b] n2 p3) pos.line env = pure false := by intro _; rfl) :
    wSs W S k (.Assign [.Tuple [.Name x p1, .Name y p2] n p] (.Tuple [a, b] n2 p3) pos :: rest) D' σ H :=
  wSs_cons (wS_of (fun X hX => ps_par (i := i) (j := j) hX.calm (by rw [hX.N]; exact nd) (by rw [hX.N]; exact hi) (by rw [hX.N]; exact hj) hij (by rw [hX.sc]; exact hx) (by rw [hX.sc]; exact hy) (pa_w hX _) (hw X.env hX.sc) (hs X.env))
    (he σ G H A.s.s A.e _ fun vs G1 H1 s1 ⟨u, r, e1, r1, v, r', e2, r2, e3⟩ => by
      subst e1 e2
      rw [show r' = [] from e3]
      exact ⟨u, v, rfl, next _ G1 H1 (((A.mono s1).set r1).set r2)⟩))
/-- .. the second a new list that will be written -/
theorem ws_parO {n n2 : Nat} {ds : List D} (A : At W G0 H0 env σ G H) (nd : S.N.Nodup) (hi : S.N[i]? = some x) (hj : S.N[j]? = some y) (hx : S.sc.names.lookup x = some .local) (hy : S.sc.names.lookup y = some .local) (hij : i ≠ j) (ha : J W S k a env d) (hb : JN W S k b env ds)
    (next : ∀ σ' G' H', At W G0 H0 ((env.set i (.d d)).set j (.own ds)) σ' G' H' → wSs W S k rest D' σ' H') (hpa : Plain a := by intro _ _; rfl) (hpb : Plain b := by intro _ _; rfl)
    (hw : ∀ env : Env, env.scope = S.sc → swappedStores [.Tuple [.Name x p1, .Name y p2] n p] (.Tuple [a, b] n2 p3) env = pure (some [x, y]) := by intro env h; cases env; cases h; rfl)
    (hs : ∀ env : Env, swapsWithSole [.Tuple [.Name x p1, .Name y p2] n p] (.Tuple [a, b] n2 p3) pos.line env = pure false := by intro _; rfl) :
    wSs W S k (.Assign [.Tuple [.Name x p1, .Name y p2] n p] (.Tuple [a, b] n2 p3) pos :: rest) D' σ H :=
  wSs_cons (wS_of (fun X hX => ps_par (i := i) (j := j) hX.calm (by rw [hX.N]; exact nd) (by rw [hX.N]; exact hi) (by rw [hX.N]; exact hj) hij (by rw [hX.sc]; exact hx) (by rw [hX.sc]; exact hy) (pa_cons (pe_w hX a) (pa_cons (pe_w hX b) pa_nil (hpb [] X.env)) (hpa [b] X.env)) (hw X.env hX.sc) (hs X.env))
    (ha σ G H A.s.s A.e _ fun u G1 H1 s1 r1 => hb σ G1 H1 s1.s (A.e.mono s1) _ fun q vs G2 H2 s2 hn hg hh r2 =>
      ⟨u, .ref q, rfl, next _ G2 H2 (((A.mono s1).set r1).setO s2 hn hg hh r2)⟩))
/-- .. the first one -/
theorem ws_parO1 {n n2 : Nat} {ds : List D} (A : At W G0 H0 env σ G H) (nd : S.N.Nodup) (hi : S.N[i]? = some x) (hj : S.N[j]? = some y) (hx : S.sc.names.lookup x = some .local) (hy : S.sc.names.lookup y = some .local) (hij : i ≠ j) (ha : JN W S k a env ds) (hb : J W S k b env d)
    (next : ∀ σ' G' H', At W G0 H0 ((env.set i (.own ds)).set j (.d d)) σ' G' H' → wSs W S k rest D' σ' H') (hpa : Plain a := by intro _ _; rfl) (hpb : Plain b := by intro _ _; rfl)
    (hw : ∀ env : Env, env.scope = S.sc → swappedStores [.Tuple [.Name x p1, .Name y p2] n p] (.Tuple [a, b] n2 p3) env = pure (some [x, y]) := by intro env h; cases env; cases h; rfl)
    (hs : ∀ env : Env, swapsWithSole [.Tuple [.Name x p1, .Name y p2] n p] (.Tuple [a, b] n2 p3) pos.line env = pure false := by intro _; rfl) :
    wSs W S k (.Assign [.Tuple [.Name x p1, .Name y p2] n p] (.Tuple [a, b] n2 p3) pos :: rest) D' σ H :=
  wSs_cons (wS_of (fun X hX => ps_par (i := i) (j := j) hX.calm (by rw [hX.N]; exact nd) (by rw [hX.N]; exact hi) (by rw [hX.N]; exact hj) hij (by rw [hX.sc]; exact hx) (by rw [hX.sc]; exact hy) (pa_cons (pe_w hX a) (pa_cons (pe_w hX b) pa_nil (hpb [] X.env)) (hpa [b] X.env)) (hw X.env hX.sc) (hs X.env))
    (ha σ G H A.s.s A.e _ fun q vs G1 H1 s1 hn hg hh r1 => hb σ G1 H1 s1.s (A.e.mono s1) _ fun u G2 H2 s2 r2 => by
      have Ax := ((A.setO (i := i) s1 hn hg hh r1).mono s2).set (i := j) r2
      exact ⟨.ref q, u, rfl, next _ G2 H2 Ax⟩))
/-- a, b = e1, e2 where a name is captured: a tuple is made -/
theorem ws_tup2 {n n2 : Nat} (A : At W G0 H0 env σ G H) (nd : S.N.Nodup) (hs1 : StN S i x) (hs2 : StN S j y) (hij : i ≠ j) (he : JA W S k [a, b] env [d, d'])
    (next : ∀ σ' G' H', At W G0 H0 ((env.set i (.d d)).set j (.d d')) σ' G' H' → wSs W S k rest D' σ' H')
    (hw : ∀ env : Env, env.scope = S.sc → swappedStores [.Tuple [.Name x p1, .Name y p2] n p] (.Tuple [a, b] n2 p3) env = pure none := by intro env h; cases env; cases h; rfl)
    (hs : ∀ env : Env, swapsWithSole [.Tuple [.Name x p1, .Name y p2] n p] (.Tuple [a, b] n2 p3) pos.line env = pure false := by intro _; rfl) :
    wSs W S k (.Assign [.Tuple [.Name x p1, .Name y p2] n p] (.Tuple [a, b] n2 p3) pos :: rest) D' σ H :=
  wSs_cons (wS_of (fun X hX => ps_asg (pe_w hX _) (pg_tg hX nd (.two hs1 hs2 hij)) (hs X.env) (hw X.env hX.sc))
    ((j_tup he (by show 2 ≤ 100000; decide)) σ G H A.s.s A.e _ fun v G1 H1 s1 r1 => by
      obtain ⟨q, vs, rfl, h1, u, r, rfl, h2, w, r', rfl, h3, e⟩ := r1
      rw [show r' = [] from e] at h1
      have A1 := A.mono s1
      exact ⟨q, [u, w], rfl, .of (s1.s _ _ h1), rfl, u, [w], rfl, w, [], rfl, rfl, next _ G1 H1 ((A1.set h2).set h3)⟩))
/-- a, b, c = e1, e2, e3 : three plain locals -/
theorem ws_aug {op : Operator} {r : R2} (A : At W G0 H0 env σ G H) (nd : S.N.Nodup) (hs : StN S i x) (hx : env[i]? = some (.d d)) (he : J W S k e env d') (ho : ∀ X, CC W S k X → OpR X (inplaceOp op) r) (hr : ∀ u v G H, Ex G H → Rep W.K G d u → Rep W.K G d' v → ∀ Q : VK, (∀ w G' H', Stp G H G' H' → Rep W.K G' d2 w → Q w H') → r u v H Q)
    (next : ∀ σ' G' H', At W G0 H0 (env.set i (.d d2)) σ' G' H' → wSs W S k rest D' σ' H') : wSs W S k (.AugAssign (.Name x pos') op e pos :: rest) D' σ H :=
  wSs_cons (wS_of (fun X hX => ps_aug (i := i) (by rw [hX.N]; exact nd) (by rw [hX.N]; exact hs.1) (by rw [hX.sc]; exact hs.2.1) (pe_w hX e) (show PIp X op r from ho X hX) (by rw [hX.fb, hX.sc]; exact hs.2.2)) (by
    obtain ⟨u, e1, r1⟩ := A.e.d hx
    exact ⟨u, e1, he σ G H A.s.s A.e _ fun v G1 H1 s1 r2 => hr u v G1 H1 s1.s (r1.mono s1.g) r2 _ fun w G2 H2 s2 r3 => next _ G2 H2 ((A.mono (s1.trans s2)).set r3)⟩))
theorem ws_augI {m n : Int} (A : At W G0 H0 env σ G H) (nd : S.N.Nodup) (hs : StN S i x) (hx : env[i]? = some (.d (.int m))) (he : J W S k e env (.int n)) (next : ∀ σ' G' H', At W G0 H0 (env.set i (.d (.int (m + n)))) σ' G' H' → wSs W S k rest D' σ' H') : wSs W S k (.AugAssign (.Name x pos') .Add e pos :: rest) D' σ H :=
  ws_aug (d2 := .int (m + n)) A nd hs hx he (fun X _ => iop_add) (fun u v G H x h1 h2 Q q => ⟨m, n, h1, h2, q _ G H (.refl x) rfl⟩) next
/-- xs.append(e) -/
theorem ws_append {ds : List D} {apos cpos : Pos} (A : At W G0 H0 env σ G H) (hi : env[i]? = some (.own ds)) (hN : S.N[i]? = some x) (hv : VisS S x) (he : J W S k e env d) (hl : ds.length < 100000) (next : ∀ σ' G' H', At W G0 H0 (env.set i (.own (ds ++ [d]))) σ' G' H' → wSs W S k rest D' σ' H') (hp : Plain e := by intro _ _; rfl)
    (hd : (x == ("__debug__" : Str)) = false := by decide) (hcd : (x == ("__classdict__" : Str)) = false := by decide) (hline : (apos.endLine == cpos.line) = true := by rfl)
    (hsw : ∀ env : Env, swapsWith (.Call (.Attribute (.Name x p) "append" apos) [e] [] cpos) none pos.line env = pure false := by intro _; rfl) : wSs W S k (.Expr (.Call (.Attribute (.Name x p) "append" apos) [e] [] cpos) pos :: rest) D' σ H := by
  refine wSs_cons (wS_X (fun X hX => ps_expr (pe_bm PySem.F.plainAttrs_list PySem.F.slot_list_append PySem.F.type_list_append mt_append (pe_var (i := i) (by rw [hX.N]; exact hN) (by rw [hX.sc]; exact hv) hd hcd) (pa_cons (pe_w hX e) pa_nil (hp [] X.env)) rfl (by rw [hp [] X.env]; rfl) hline (hp [] X.env) rfl) (hsw X.env)) fun X hX => ?_)
  obtain ⟨o, e1, q, vs, e2, h1, h2, r⟩ := A.e.get hi
  subst e2
  refine ⟨.ref q, e1, .inl ⟨rfl, vs, .of h1⟩, he σ G H A.s.s A.e _ fun v G1 H1 s1 r1 => ?_⟩
  have A1 := A.mono s1
  have h1' := s1.h _ _ h1
  have g1' : G1 q = none := s1.o q (by rw [h1]; exact fun z => nomatch z) h2
  exact ⟨q, vs, v, rfl, rfl, h1', szlt (by rw [r.length]; exact hl), next _ G1 _ (A1.mutO hi e1 g1' ((r.mono s1.g).append (.one r1)))⟩
/-- xs.extend(ys), ys another list -/
theorem ws_extend {ds es : List D} {apos cpos : Pos} (A : At W G0 H0 env σ G H) (hi : env[i]? = some (.own ds)) (hN : S.N[i]? = some x) (hv : VisS S x) (he : J W S k e env (.lst es)) (hl : ds.length + es.length ≤ 100000) (next : ∀ σ' G' H', At W G0 H0 (env.set i (.own (ds ++ es))) σ' G' H' → wSs W S k rest D' σ' H') (hp : Plain e := by intro _ _; rfl)
    (hd : (x == ("__debug__" : Str)) = false := by decide) (hcd : (x == ("__classdict__" : Str)) = false := by decide) (hline : (apos.endLine == cpos.line) = true := by rfl)
    (hsw : ∀ env : Env, swapsWith (.Call (.Attribute (.Name x p) "extend" apos) [e] [] cpos) none pos.line env = pure false := by intro _; rfl) : wSs W S k (.Expr (.Call (.Attribute (.Name x p) "extend" apos) [e] [] cpos) pos :: rest) D' σ H := by
  refine wSs_cons (wS_X (fun X hX => ps_expr (pe_bm PySem.F.plainAttrs_list PySem.F.slot_list_extend PySem.F.type_list_extend mt_extend (pe_var (i := i) (by rw [hX.N]; exact hN) (by rw [hX.sc]; exact hv) hd hcd) (pa_cons (pe_w hX e) pa_nil (hp [] X.env)) rfl (by rw [hp [] X.env]; rfl) hline (hp [] X.env) rfl) (hsw X.env)) fun X hX => ?_)
  obtain ⟨o, e1, q, vs, e2, h1, h2, r⟩ := A.e.get hi
  subst e2
  refine ⟨.ref q, e1, .inl ⟨rfl, vs, .of h1⟩, he σ G H A.s.s A.e _ fun v G1 H1 s1 ⟨q2, us, e3, h3, r1⟩ => ?_⟩
  subst e3
  have A1 := A.mono s1
  have h1' := s1.h _ _ h1
  have g1' : G1 q = none := s1.o q (by rw [h1]; exact fun z => nomatch z) h2
  exact ⟨q, q2, vs, us, rfl, rfl, h1', s1.s _ _ h3, sz (by rw [r.length, r1.length]; exact hl), next _ G1 _ (A1.mutO hi e1 g1' ((r.mono s1.g).append r1))⟩
/-- an expression alone -/
theorem ws_expr (A : At W G0 H0 env σ G H) (he : J W S k e env d) (next : ∀ G' H', At W G0 H0 env σ G' H' → wSs W S k rest D' σ H') (hsw : ∀ env : Env, swapsWith e none pos.line env = pure false := by intro _; rfl) : wSs W S k (.Expr e pos :: rest) D' σ H :=
  wSs_cons (wS_of (fun X hX => ps_expr (pe_w hX e) (hsw X.env)) (he σ G H A.s.s A.e _ fun v G1 H1 s1 _ => next G1 H1 (A.mono s1)))
theorem nox_cc {X : Cx} (hX : CC W S k X) : CC W S k X.nox := ⟨hX.P, hX.w, hX.K, hX.mg, hX.base, hX.N, hX.sc, hX.fb, hX.calm, hX.room⟩
theorem ps_nox {X : Cx} {st : Stmt} {t : TS} (h : PS X.nox st t) : PS X st t := ⟨fun pins s σ H D I q => wpAny_mono (h.run pins s σ H D (I.wish _) q) (fun f s' z => z.unwish) fun _ _ z => z.elim⟩
/-- while c: body; ahead of turn n envs n holds, b n is the test, the turns are m -/
theorem ws_while {body : List Stmt} (envs : Nat → List Sl) (m : Nat) (A : At W G0 H0 env σ G H) (h0 : Le env (envs 0)) (hc : ∀ n, n ≤ m → JT W S k c (envs n) (decide (n < m)))
    (hb : ∀ (Gb : Hp) n σ' G' H' (nx : L2.St → Hp → Prop), n < m → At W Gb H0 (envs n) σ' G' H' → (∀ σ2 G2 H2, At W Gb H0 (envs (n + 1)) σ2 G2 H2 → nx σ2 H2) → wSs W S k body { D' with nx := nx, ct := nx, bk := wSs W S k rest D' } σ' H')
    (next : ∀ σ' G' H', At W G0 H0 (envs m) σ' G' H' → wSs W S k rest D' σ' H') : wSs W S k (.While c body [] pos :: rest) D' σ H :=
  wSs_cons (wS_of (fun X hX => ps_nox (ps_while PassesOwn.never (pt_w (nox_cc hX) c) (pss_w (nox_cc hX) body))) (by
    refine ⟨fun r σ' H' => ∃ n G', n + r = m ∧ At W G H0 (envs n) σ' G' H', ⟨m, 0, G, Nat.zero_add _, (A.le h0).rebase⟩, fun r σ' H' ⟨n, G', hn, A'⟩ => ?_⟩
    refine hc n (by omega) σ' G' H' A'.s.s A'.e _ fun G2 H2 s2 => ?_
    have A2 := A'.mono s2
    by_cases hlt : n < m
    · rw [decide_eq_true hlt]
      refine iteT ⟨fun σ3 H3 => ∃ G3, At W G H0 (envs (n + 1)) σ3 G3 H3, fun σ3 H3 ⟨G3, A3⟩ => ⟨r - 1, by omega, n + 1, G3, by omega, A3⟩, ?_⟩
      exact hb G n σ' G2 H2 _ hlt A2 fun σ3 G3 H3 A3 => ⟨G3, A3⟩
    · rw [decide_eq_false hlt]
      have en : n = m := by omega
      subst en
      exact iteF (next σ' G2 H2 (A2.unbase A.s))))
end
def startE (N : List Str) (ds : List D) : List Sl := ds.map .d ++ List.replicate (N.length - ds.length) .no
theorem start_at {W : Gx} {N : List Str} {ds : List D} {vs : List V} {G H : Hp} (x : Ex G H) (r : Reps W.K G ds vs) : At W G H (startE N ds) (L2.start N vs) G H := by
  have hl := r.length
  have none_own : ∀ (i : Nat) (es : List D), (startE N ds)[i]? ≠ some (.own es) := fun i es h => by
    unfold startE at h
    rcases List.mem_append.mp (List.mem_of_getElem? h) with q | q
    · obtain ⟨_, _, q⟩ := List.mem_map.mp q
      cases q
    · cases List.eq_of_mem_replicate q
  refine ⟨.refl x, ⟨?_, fun i s o h1 h2 => ?_⟩, fun i es p h1 _ => absurd h1 (none_own i es), fun i j es fs p h1 _ _ _ => absurd h1 (none_own i es)⟩
  · unfold L2.start startE
    rw [List.length_append, List.length_append, List.length_map, List.length_map, List.length_replicate, List.length_replicate, hl]
  · unfold startE at h1
    unfold L2.start at h2
    by_cases hi : i < ds.length
    · rw [List.getElem?_append_left (by rw [List.length_map]; exact hi), List.getElem?_map] at h1
      rw [List.getElem?_append_left (by rw [List.length_map, hl]; exact hi), List.getElem?_map] at h2
      obtain ⟨d, hd, e1⟩ := Option.map_eq_some_iff.mp h1
      obtain ⟨v, hv, e2⟩ := Option.map_eq_some_iff.mp h2
      obtain ⟨u, h3, h4⟩ := r.get hd
      rw [hv] at h3
      cases h3
      rw [← e1, ← e2]
      exact ⟨v, rfl, h4⟩
    · rw [List.getElem?_append_right (by rw [List.length_map]; omega)] at h1
      have := List.eq_of_mem_replicate (List.mem_of_getElem? h1)
      rw [this]
      trivial
/-- what follows behind a def's body -/
structure Fin0 (W : Gx) (G0 H0 : Hp) (d : D) (D' : Ends) : Prop where
  rt : ∀ v G' H', Stp G0 H0 G' H' → Rep W.K G' d v → D'.rt v H'
  nx : d = .non → ∀ σ' G' H', Stp G0 H0 G' H' → D'.nx σ' H'
theorem fn_body {W : Gx} {x qual : Str} {params : Arguments} {body : List Stmt} {scope : Scope} {N ps : List Str} {fa : Addr} {fd : FuncData} {k n : Nat} {f : List D → D → Prop} (F : FunD W.K x qual params body scope [] [] fa fd) (S : FnScope N ps scope) (hn : ps.length = n)
    (h : ∀ ds d G0 H0 σ D', f ds d → ds.length = n → At W G0 H0 (startE N ds) σ G0 H0 → Fin0 W G0 H0 d D' → wSs W (defS N scope) k body D' σ H0) : FnOk W.P W.w W.K W.mg W.base CX0 (k + 1) fa fd ps (spF W.K n f) := by
  refine F.ok S (fun vs H Q E h => by rw [spF_len h, hn]) fun cdv A outer s H vs Q E hr hsp => ?_
  obtain ⟨G, ds, d, h1, x0, r, hf, q⟩ := hsp
  refine ⟨_, pss_w (W := W) (S := defS N scope) (k := k) (X := cxOf CX0 W.P W.w W.K W.mg W.base N qual scope fa cdv A outer s H E) ⟨rfl, rfl, rfl, rfl, rfl, rfl, rfl, rfl, rfl, hr⟩ body, ?_⟩
  exact h ds d G H (L2.start N vs) _ hf h1 (start_at x0 r) ⟨q, fun e σ' G' H' s => q .non G' H' s (by rw [e]; exact rfl)⟩
end TH
set_option maxHeartbeats 4000000
namespace TH
open PySem PySem.Spec PyProof.Rows L2
/-- the written part says the facts, the module's names are told by it -/
structure Tx (W : Gx) : Prop where
  says : SaysX W.K
  at_ : ∃ h, W.K.In h ∧ h.Ns mainGlobals W.mg
section
variable {W : Gx} (T : Tx W)
include T
theorem Tx.saysD : He.SaysD fa fn W.K := congrArg (fun z : AlX => z.1) T.says
theorem Tx.ex : exB W.K = true := congrArg (fun z : AlX => z.2.1) T.says
theorem Tx.glo (i : Nat) {x : Str} (h : fa[i]? = some (.glo x) := by rfl) : W.mg x = some (.ref (He.ga W.K x)) := by
  obtain ⟨_, X, G⟩ := T.at_
  exact He.glo_ok X G (T.saysD.fact i h)
theorem Tx.free (i : Nat) {x : Str} (h : fa[i]? = some (.free x) := by rfl) : W.mg x = none := by
  obtain ⟨_, X, G⟩ := T.at_
  exact He.free_ok X G (T.saysD.fact i h)
theorem Tx.str (i : Nat) {x z : Str} (h : fa[i]? = some (.str x z) := by rfl) : ∃ t, W.mg x = some (.str z t) := by
  obtain ⟨_, X, G⟩ := T.at_
  exact He.str_ok X G (T.saysD.fact i h)
theorem Tx.int (i : Nat) {x : Str} {n : Int} (h : fa[i]? = some (.int x n) := by rfl) : ∃ t, W.mg x = some (.int n t) := by
  obtain ⟨_, X, G⟩ := T.at_
  exact He.int_ok X G (T.saysD.fact i h)
theorem Tx.cls (i : Nat) {x : Str} (h : fa[i]? = some (.cls x) := by rfl) : Cls W.K (He.ga W.K x) := He.cls_ok (T.saysD.fact i h)
theorem Tx.noat (i : Nat) {x f : Str} (h : fa[i]? = some (.noat x f) := by rfl) : NoAttr W.K (He.ga W.K x) f := He.noat_ok (T.saysD.fact i h)
theorem Tx.meth (i : Nat) {x f : Str} (h : fa[i]? = some (.meth x f) := by rfl) : Meth W.K (He.ga W.K x) f (He.ma W.K (He.ga W.K x) f) := He.meth_ok (T.saysD.fact i h)
theorem Tx.mkr (i : Nat) {x : Str} (h : fa[i]? = some (.mkr x) := by rfl) : Mk W.K (He.ga W.K x) (He.ma W.K (He.ga W.K x) "__init__") := He.mkr_ok (T.saysD.fact i h)
theorem Tx.def_ (i : Nat) {d : He.DefD} (h : fn[i]? = some d := by rfl) : ∃ fd, FunD W.K d.name d.qual d.params d.body d.scope (d.dvs W.K) (d.kws W.K) (He.fAd W.K d.at_) fd := T.saysD.def_ i h
end
/-- a def of the top keeps its promise, by its body -/
theorem okF_of {W : Gx} (T : Tx W) (i g : Nat) {x : Str} {d : He.DefD} {N ps : List Str} {k n : Nat} {f : List D → D → Prop} (hd : fn[i]? = some d) (hx : d.at_ = (x, none)) (h1 : d.dfl = []) (h2 : d.kwd = []) (hg : fa[g]? = some (.glo x)) (S : FnScope N ps d.scope) (hn : ps.length = n)
    (hb : ∀ (kV doc pm : Value) (an : Option Addr) (cdv ct : Value) (us : List Value), us.length = ps.length → bindArgs (PySem.W.fnOf d.name d.qual d.params d.body d.scope .none kV doc pm an cdv ct) ⟨us, []⟩ = pure (ps.zip us))
    (h : ∀ ds d' G0 H0 σ D', f ds d' → ds.length = n → At W G0 H0 (startE N ds) σ G0 H0 → Fin0 W G0 H0 d' D' → wSs W (defS N d.scope) k d.body D' σ H0) : OkF W (k + 1) x n f := by
  obtain ⟨fd, F⟩ := T.def_ i hd
  have e1 : d.dvs W.K = [] := by
    unfold He.DefD.dvs
    rw [h1]
    rfl
  have e2 : d.kws W.K = [] := by
    unfold He.DefD.kws
    rw [h2]
    rfl
  rw [e1, e2] at F
  have e3 : He.fAd W.K d.at_ = He.ga W.K x := by
    rw [hx]
    rfl
  rw [e3] at F
  exact ⟨He.ga W.K x, fd, ps, T.glo g hg, F.kp, F.bindsN hb, fn_body F S hn h⟩
theorem okM_of {W : Gx} (T : Tx W) (i g c : Nat) {x m : Str} {d : He.DefD} {N ps : List Str} {k n : Nat} {f : List D → D → Prop} (hd : fn[i]? = some d) (hx : d.at_ = (x, some m)) (h1 : d.dfl = []) (h2 : d.kwd = []) (hg : fa[g]? = some (.meth x m)) (hc : fa[c]? = some (.cls x)) (S : FnScope N ps d.scope) (hn : ps.length = n)
    (hb : ∀ (kV doc pm : Value) (an : Option Addr) (cdv ct : Value) (us : List Value), us.length = ps.length → bindArgs (PySem.W.fnOf d.name d.qual d.params d.body d.scope .none kV doc pm an cdv ct) ⟨us, []⟩ = pure (ps.zip us))
    (h : ∀ ds d' G0 H0 σ D', f ds d' → ds.length = n → At W G0 H0 (startE N ds) σ G0 H0 → Fin0 W G0 H0 d' D' → wSs W (defS N d.scope) k d.body D' σ H0) : OkM W (k + 1) (He.ga W.K x) m n f := by
  obtain ⟨fd, F⟩ := T.def_ i hd
  have e1 : d.dvs W.K = [] := by
    unfold He.DefD.dvs
    rw [h1]
    rfl
  have e2 : d.kws W.K = [] := by
    unfold He.DefD.kws
    rw [h2]
    rfl
  rw [e1, e2] at F
  have e3 : He.fAd W.K d.at_ = He.ma W.K (He.ga W.K x) m := by
    rw [hx]
    rfl
  rw [e3] at F
  exact ⟨He.ma W.K (He.ga W.K x) m, fd, ps, T.cls c hc, T.meth g hg, F.bindsN hb, fn_body F S hn h⟩
end TH
set_option maxHeartbeats 4000000
namespace TH
open PySem PySem.Spec PyProof.Rows L2
section
variable {W : Gx} {S : Sc} {k : Nat} {env : List Sl} {a b c e tg : Expr} {pos p p2 : Pos} {x : Str} {d d' : D}
/-- the name in slot i -/
theorem jv (i : Nat) (he : env[i]? = some (.d d) := by rfl) (hN : S.N[i]? = some x := by rfl) (hv : VisS S x := by first | exact Or.inl rfl | exact Or.inr (Or.inl rfl) | exact Or.inr (Or.inr rfl)) (hd : (x == ("__debug__" : Str)) = false := by decide) (hcd : (x == ("__classdict__" : Str)) = false := by decide) : J W S k (.Name x pos) env d := j_var hN hv he hd hcd
/-- .. that holds a list that is being made -/
theorem jvo (i : Nat) {ds : List D} (he : env[i]? = some (.own ds) := by rfl) (hN : S.N[i]? = some x := by rfl) (hv : VisS S x := by first | exact Or.inl rfl | exact Or.inr (Or.inl rfl) | exact Or.inr (Or.inr rfl)) (hd : (x == ("__debug__" : Str)) = false := by decide) (hcd : (x == ("__classdict__" : Str)) = false := by decide) : JL W S k (.Name x pos) env ds := jl_var hN hv he hd hcd
/-- [elt for x in xs], target a name in slot i -/
theorem jc1 {α : Type} {elt : Expr} {scope : Scope} {px : Pos} (i : Nat) {xs : List α} {g f : α → D} (nd : S.N.Nodup) (hi : JI W S k (.Name x px) e env (xs.map g)) (he : ∀ x ∈ xs, J W (blkS S scope) k elt (env.set i (.d (g x))) (f x)) (hl : xs.length < 100000 := by omega)
    (ok : blkC S.N S.sc scope [(x, i)] = true := by decide +kernel) (hs : StN (blkS S scope) i x := by exact ⟨rfl, by first | exact Or.inl rfl | exact Or.inr rfl, by first | exact Or.inl rfl | exact Or.inr rfl⟩) (hf : ∀ (env : Env) x, foldedSetIterable e env x = pure x := by intro _ _; rfl) : JLc W S k elt (.Name x px) e [] scope env (xs.map f) :=
  jlc (own := [(x, i)]) (t := .one i) hi (blkOk_by ok) nd (.one hs) rfl (fun _ _ => trivial) hl he hf
/-- .. if test -/
theorem jc1If {α : Type} {elt cnd : Expr} {scope : Scope} {px : Pos} (i : Nat) {xs : List α} {g f : α → D} (ps : α → Bool) (nd : S.N.Nodup) (hi : JI W S k (.Name x px) e env (xs.map g)) (hc : ∀ x ∈ xs, JT W (blkS S scope) k cnd (env.set i (.d (g x))) (ps x)) (he : ∀ x ∈ xs, ps x = true → J W (blkS S scope) k elt (env.set i (.d (g x))) (f x)) (hl : xs.length < 100000 := by omega)
    (ok : blkC S.N S.sc scope [(x, i)] = true := by decide +kernel) (hs : StN (blkS S scope) i x := by exact ⟨rfl, by first | exact Or.inl rfl | exact Or.inr rfl, by first | exact Or.inl rfl | exact Or.inr rfl⟩) (hf : ∀ (env : Env) x, foldedSetIterable e env x = pure x := by intro _ _; rfl) : JLc W S k elt (.Name x px) e [cnd] scope env ((xs.filter ps).map f) :=
  jlcIf (own := [(x, i)]) (t := .one i) ps hi (blkOk_by ok) nd (.one hs) rfl (fun _ _ => trivial) hl hc he hf
/-- [elt for x, y in xs], targets in slots i, j -/
theorem jc2 {α : Type} {elt : Expr} {scope : Scope} {y : Str} {p1 p2 pt : Pos} {n : Nat} (i j : Nat) {xs : List α} {g1 g2 f : α → D} (nd : S.N.Nodup) (hi : JI W S k (.Tuple [.Name x p1, .Name y p2] n pt) e env (xs.map fun x => .tup [g1 x, g2 x])) (he : ∀ x ∈ xs, J W (blkS S scope) k elt ((env.set i (.d (g1 x))).set j (.d (g2 x))) (f x)) (hl : xs.length < 100000 := by omega)
    (hij : i ≠ j := by decide) (ok : blkC S.N S.sc scope [(x, i), (y, j)] = true := by decide +kernel) (hs : StN (blkS S scope) i x := by exact ⟨rfl, by first | exact Or.inl rfl | exact Or.inr rfl, by first | exact Or.inl rfl | exact Or.inr rfl⟩) (hs' : StN (blkS S scope) j y := by exact ⟨rfl, by first | exact Or.inl rfl | exact Or.inr rfl, by first | exact Or.inl rfl | exact Or.inr rfl⟩) (hf : ∀ (env : Env) x, foldedSetIterable e env x = pure x := by intro _ _; rfl) :
    JLc W S k elt (.Tuple [.Name x p1, .Name y p2] n pt) e [] scope env (xs.map f) :=
  jlc (own := [(x, i), (y, j)]) (t := .two i j) hi (blkOk_by ok) nd (.two hs hs' hij) rfl (fun _ _ => ⟨_, _, rfl⟩) hl he hf
end
end TH
set_option maxHeartbeats 4000000
namespace TH
open PySem PySem.Spec PyProof.Rows L2
section
variable {W : Gx} (T : Tx W)
include T
theorem Tx.m_sum : W.mg "sum" = none := T.free 67
theorem Tx.m_zip : W.mg "zip" = none := T.free 68
theorem Tx.m_tuple : W.mg "tuple" = none := T.free 69
theorem Tx.m_range : W.mg "range" = none := T.free 70
theorem Tx.m_len : W.mg "len" = none := T.free 71
theorem Tx.m_int : W.mg "int" = none := T.free 72
theorem Tx.m_isinstance : W.mg "isinstance" = none := T.free 73
theorem Tx.m_all : W.mg "all" = none := T.free 74
theorem Tx.m_str : W.mg "str" = none := T.free 75
theorem Tx.m_bool : W.mg "bool" = none := T.free 76
theorem Tx.m_list : W.mg "list" = none := T.free 77
theorem Tx.m_enumerate : W.mg "enumerate" = none := T.free 78
theorem Tx.m_dict : W.mg "dict" = none := T.free 79
theorem Tx.m_sorted : W.mg "sorted" = none := T.free 80
theorem Tx.m_repr : W.mg "repr" = none := T.free 81
theorem Tx.m_min : W.mg "min" = none := T.free 82
theorem Tx.c_Tally : Cls W.K (He.ga W.K "Tally") := T.cls 85
theorem Tx.k_Tally : Mk W.K (He.ga W.K "Tally") (He.ma W.K (He.ga W.K "Tally") "__init__") := T.mkr 86
theorem Tx.n_Tally_digits : NoAttr W.K (He.ga W.K "Tally") "digits" := T.noat 94
theorem Tx.n_Tally_start : NoAttr W.K (He.ga W.K "Tally") "start" := T.noat 95
theorem Tx.n_Tally_tables : NoAttr W.K (He.ga W.K "Tally") "tables" := T.noat 96
theorem Tx.n_Tally_ends : NoAttr W.K (He.ga W.K "Tally") "ends" := T.noat 97
theorem Tx.n_Tally_table_by_digit : NoAttr W.K (He.ga W.K "Tally") "table_by_digit" := T.noat 98
theorem Tx.c_Rewriter : Cls W.K (He.ga W.K "Rewriter") := T.cls 99
theorem Tx.k_Rewriter : Mk W.K (He.ga W.K "Rewriter") (He.ma W.K (He.ga W.K "Rewriter") "__init__") := T.mkr 100
theorem Tx.n_Rewriter_digits : NoAttr W.K (He.ga W.K "Rewriter") "digits" := T.noat 103
theorem Tx.n_Rewriter_written : NoAttr W.K (He.ga W.K "Rewriter") "written" := T.noat 104
theorem Tx.n_Rewriter_size : NoAttr W.K (He.ga W.K "Rewriter") "size" := T.noat 105
theorem Tx.n_Rewriter_moves : NoAttr W.K (He.ga W.K "Rewriter") "moves" := T.noat 106
theorem Tx.n_Rewriter_ends : NoAttr W.K (He.ga W.K "Rewriter") "ends" := T.noat 107
theorem Tx.n_Rewriter_moves_by_key : NoAttr W.K (He.ga W.K "Rewriter") "moves_by_key" := T.noat 108
theorem Tx.c_Piece : Cls W.K (He.ga W.K "Piece") := T.cls 109
theorem Tx.k_Piece : Mk W.K (He.ga W.K "Piece") (He.ma W.K (He.ga W.K "Piece") "__init__") := T.mkr 110
theorem Tx.n_Piece_tally : NoAttr W.K (He.ga W.K "Piece") "tally" := T.noat 114
theorem Tx.n_Piece_table_now : NoAttr W.K (He.ga W.K "Piece") "table_now" := T.noat 115
theorem Tx.n_Piece_ticket : NoAttr W.K (He.ga W.K "Piece") "ticket" := T.noat 116
end
abbrev N_product_of : List Str := ["row", "other", "number", "mate"]
theorem sc_product_of : FnScope N_product_of ["row", "other"] (defScope s_product_of) := ⟨rfl, rfl, rfl, by decide +kernel, rfl, by decide +kernel, by decide +kernel⟩
theorem mk_product_of {W : Gx} (T : Tx W) {k : Nat} {f : List D → D → Prop} (h : ∀ ds d' G0 H0 σ D', f ds d' → ds.length = 2 → At W G0 H0 (startE N_product_of ds) σ G0 H0 → Fin0 W G0 H0 d' D' → wSs W (defS N_product_of (defScope s_product_of)) k (defBody s_product_of) D' σ H0) : OkF W (k + 1) "product_of" 2 f :=
  by
  refine okF_of T 0 0 (x := "product_of") (d := d_product_of) (N := N_product_of) (ps := ["row", "other"]) (k := k) (n := 2) (f := f) rfl rfl rfl rfl rfl sc_product_of rfl ?_ ?_
  · exact (fun _ _ _ _ _ _ us hl => match us, hl with | [_, _], _ => rfl)
  · exact h
abbrev N_columns_of : List Str := ["table", "place", "row"]
theorem sc_columns_of : FnScope N_columns_of ["table"] (defScope s_columns_of) := ⟨rfl, rfl, rfl, by decide +kernel, rfl, by decide +kernel, by decide +kernel⟩
theorem mk_columns_of {W : Gx} (T : Tx W) {k : Nat} {f : List D → D → Prop} (h : ∀ ds d' G0 H0 σ D', f ds d' → ds.length = 1 → At W G0 H0 (startE N_columns_of ds) σ G0 H0 → Fin0 W G0 H0 d' D' → wSs W (defS N_columns_of (defScope s_columns_of)) k (defBody s_columns_of) D' σ H0) : OkF W (k + 1) "columns_of" 1 f :=
  by
  refine okF_of T 1 1 (x := "columns_of") (d := d_columns_of) (N := N_columns_of) (ps := ["table"]) (k := k) (n := 1) (f := f) rfl rfl rfl rfl rfl sc_columns_of rfl ?_ ?_
  · exact (fun _ _ _ _ _ _ us hl => match us, hl with | [_], _ => rfl)
  · exact h
abbrev N_led_on : List Str := ["row", "table", "column"]
theorem sc_led_on : FnScope N_led_on ["row", "table"] (defScope s_led_on) := ⟨rfl, rfl, rfl, by decide +kernel, rfl, by decide +kernel, by decide +kernel⟩
theorem mk_led_on {W : Gx} (T : Tx W) {k : Nat} {f : List D → D → Prop} (h : ∀ ds d' G0 H0 σ D', f ds d' → ds.length = 2 → At W G0 H0 (startE N_led_on ds) σ G0 H0 → Fin0 W G0 H0 d' D' → wSs W (defS N_led_on (defScope s_led_on)) k (defBody s_led_on) D' σ H0) : OkF W (k + 1) "led_on" 2 f :=
  by
  refine okF_of T 2 2 (x := "led_on") (d := d_led_on) (N := N_led_on) (ps := ["row", "table"]) (k := k) (n := 2) (f := f) rfl rfl rfl rfl rfl sc_led_on rfl ?_ ?_
  · exact (fun _ _ _ _ _ _ us hl => match us, hl with | [_, _], _ => rfl)
  · exact h
abbrev N_table_product : List Str := ["table", "other", "columns", "row", "column"]
theorem sc_table_product : FnScope N_table_product ["table", "other"] (defScope s_table_product) := ⟨rfl, rfl, rfl, by decide +kernel, rfl, by decide +kernel, by decide +kernel⟩
theorem mk_table_product {W : Gx} (T : Tx W) {k : Nat} {f : List D → D → Prop} (h : ∀ ds d' G0 H0 σ D', f ds d' → ds.length = 2 → At W G0 H0 (startE N_table_product ds) σ G0 H0 → Fin0 W G0 H0 d' D' → wSs W (defS N_table_product (defScope s_table_product)) k (defBody s_table_product) D' σ H0) : OkF W (k + 1) "table_product" 2 f :=
  by
  refine okF_of T 3 3 (x := "table_product") (d := d_table_product) (N := N_table_product) (ps := ["table", "other"]) (k := k) (n := 2) (f := f) rfl rfl rfl rfl rfl sc_table_product rfl ?_ ?_
  · exact (fun _ _ _ _ _ _ us hl => match us, hl with | [_, _], _ => rfl)
  · exact h
abbrev N_still_table : List Str := ["size", "state", "place"]
theorem sc_still_table : FnScope N_still_table ["size"] (defScope s_still_table) := ⟨rfl, rfl, rfl, by decide +kernel, rfl, by decide +kernel, by decide +kernel⟩
theorem mk_still_table {W : Gx} (T : Tx W) {k : Nat} {f : List D → D → Prop} (h : ∀ ds d' G0 H0 σ D', f ds d' → ds.length = 1 → At W G0 H0 (startE N_still_table ds) σ G0 H0 → Fin0 W G0 H0 d' D' → wSs W (defS N_still_table (defScope s_still_table)) k (defBody s_still_table) D' σ H0) : OkF W (k + 1) "still_table" 1 f :=
  by
  refine okF_of T 4 4 (x := "still_table") (d := d_still_table) (N := N_still_table) (ps := ["size"]) (k := k) (n := 1) (f := f) rfl rfl rfl rfl rfl sc_still_table rfl ?_ ?_
  · exact (fun _ _ _ _ _ _ us hl => match us, hl with | [_], _ => rfl)
  · exact h
abbrev N_times_column : List Str := ["table", "column", "row"]
theorem sc_times_column : FnScope N_times_column ["table", "column"] (defScope s_times_column) := ⟨rfl, rfl, rfl, by decide +kernel, rfl, by decide +kernel, by decide +kernel⟩
theorem mk_times_column {W : Gx} (T : Tx W) {k : Nat} {f : List D → D → Prop} (h : ∀ ds d' G0 H0 σ D', f ds d' → ds.length = 2 → At W G0 H0 (startE N_times_column ds) σ G0 H0 → Fin0 W G0 H0 d' D' → wSs W (defS N_times_column (defScope s_times_column)) k (defBody s_times_column) D' σ H0) : OkF W (k + 1) "times_column" 2 f :=
  by
  refine okF_of T 5 5 (x := "times_column") (d := d_times_column) (N := N_times_column) (ps := ["table", "column"]) (k := k) (n := 2) (f := f) rfl rfl rfl rfl rfl sc_times_column rfl ?_ ?_
  · exact (fun _ _ _ _ _ _ us hl => match us, hl with | [_, _], _ => rfl)
  · exact h
abbrev N_is_integer_tickets : List Str := ["thing"]
theorem sc_is_integer_tickets : FnScope N_is_integer_tickets ["thing"] (defScope s_is_integer_tickets) := ⟨rfl, rfl, rfl, by decide +kernel, rfl, by decide +kernel, by decide +kernel⟩
theorem mk_is_integer_tickets {W : Gx} (T : Tx W) {k : Nat} {f : List D → D → Prop} (h : ∀ ds d' G0 H0 σ D', f ds d' → ds.length = 1 → At W G0 H0 (startE N_is_integer_tickets ds) σ G0 H0 → Fin0 W G0 H0 d' D' → wSs W (defS N_is_integer_tickets (defScope s_is_integer_tickets)) k (defBody s_is_integer_tickets) D' σ H0) : OkF W (k + 1) "is_integer_tickets" 1 f :=
  by
  refine okF_of T 6 6 (x := "is_integer_tickets") (d := d_is_integer_tickets) (N := N_is_integer_tickets) (ps := ["thing"]) (k := k) (n := 1) (f := f) rfl rfl rfl rfl rfl sc_is_integer_tickets rfl ?_ ?_
  · exact (fun _ _ _ _ _ _ us hl => match us, hl with | [_], _ => rfl)
  · exact h
abbrev N_are_integers : List Str := ["thing", "many", "part"]
theorem sc_are_integers : FnScope N_are_integers ["thing", "many"] (defScope s_are_integers) := ⟨rfl, rfl, rfl, by decide +kernel, rfl, by decide +kernel, by decide +kernel⟩
theorem mk_are_integers {W : Gx} (T : Tx W) {k : Nat} {f : List D → D → Prop} (h : ∀ ds d' G0 H0 σ D', f ds d' → ds.length = 2 → At W G0 H0 (startE N_are_integers ds) σ G0 H0 → Fin0 W G0 H0 d' D' → wSs W (defS N_are_integers (defScope s_are_integers)) k (defBody s_are_integers) D' σ H0) : OkF W (k + 1) "are_integers" 2 f :=
  by
  refine okF_of T 7 7 (x := "are_integers") (d := d_are_integers) (N := N_are_integers) (ps := ["thing", "many"]) (k := k) (n := 2) (f := f) rfl rfl rfl rfl rfl sc_are_integers rfl ?_ ?_
  · exact (fun _ _ _ _ _ _ us hl => match us, hl with | [_, _], _ => rfl)
  · exact h
abbrev N_are_digits : List Str := ["thing", "sign", "at"]
theorem sc_are_digits : FnScope N_are_digits ["thing"] (defScope s_are_digits) := ⟨rfl, rfl, rfl, by decide +kernel, rfl, by decide +kernel, by decide +kernel⟩
theorem mk_are_digits {W : Gx} (T : Tx W) {k : Nat} {f : List D → D → Prop} (h : ∀ ds d' G0 H0 σ D', f ds d' → ds.length = 1 → At W G0 H0 (startE N_are_digits ds) σ G0 H0 → Fin0 W G0 H0 d' D' → wSs W (defS N_are_digits (defScope s_are_digits)) k (defBody s_are_digits) D' σ H0) : OkF W (k + 1) "are_digits" 1 f :=
  by
  refine okF_of T 8 8 (x := "are_digits") (d := d_are_digits) (N := N_are_digits) (ps := ["thing"]) (k := k) (n := 1) (f := f) rfl rfl rfl rfl rfl sc_are_digits rfl ?_ ?_
  · exact (fun _ _ _ _ _ _ us hl => match us, hl with | [_], _ => rfl)
  · exact h
abbrev N_is_ticket : List Str := ["digits", "thing", "sign"]
theorem sc_is_ticket : FnScope N_is_ticket ["digits", "thing"] (defScope s_is_ticket) := ⟨rfl, rfl, rfl, by decide +kernel, rfl, by decide +kernel, by decide +kernel⟩
theorem mk_is_ticket {W : Gx} (T : Tx W) {k : Nat} {f : List D → D → Prop} (h : ∀ ds d' G0 H0 σ D', f ds d' → ds.length = 2 → At W G0 H0 (startE N_is_ticket ds) σ G0 H0 → Fin0 W G0 H0 d' D' → wSs W (defS N_is_ticket (defScope s_is_ticket)) k (defBody s_is_ticket) D' σ H0) : OkF W (k + 1) "is_ticket" 2 f :=
  by
  refine okF_of T 9 9 (x := "is_ticket") (d := d_is_ticket) (N := N_is_ticket) (ps := ["digits", "thing"]) (k := k) (n := 2) (f := f) rfl rfl rfl rfl rfl sc_is_ticket rfl ?_ ?_
  · exact (fun _ _ _ _ _ _ us hl => match us, hl with | [_, _], _ => rfl)
  · exact h
abbrev N_is_table : List Str := ["size", "thing", "row"]
theorem sc_is_table : FnScope N_is_table ["size", "thing"] (defScope s_is_table) := ⟨rfl, rfl, rfl, by decide +kernel, rfl, by decide +kernel, by decide +kernel⟩
theorem mk_is_table {W : Gx} (T : Tx W) {k : Nat} {f : List D → D → Prop} (h : ∀ ds d' G0 H0 σ D', f ds d' → ds.length = 2 → At W G0 H0 (startE N_is_table ds) σ G0 H0 → Fin0 W G0 H0 d' D' → wSs W (defS N_is_table (defScope s_is_table)) k (defBody s_is_table) D' σ H0) : OkF W (k + 1) "is_table" 2 f :=
  by
  refine okF_of T 10 10 (x := "is_table") (d := d_is_table) (N := N_is_table) (ps := ["size", "thing"]) (k := k) (n := 2) (f := f) rfl rfl rfl rfl rfl sc_is_table rfl ?_ ?_
  · exact (fun _ _ _ _ _ _ us hl => match us, hl with | [_, _], _ => rfl)
  · exact h
abbrev N_are_tables : List Str := ["digits", "size", "thing", "table"]
theorem sc_are_tables : FnScope N_are_tables ["digits", "size", "thing"] (defScope s_are_tables) := ⟨rfl, rfl, rfl, by decide +kernel, rfl, by decide +kernel, by decide +kernel⟩
theorem mk_are_tables {W : Gx} (T : Tx W) {k : Nat} {f : List D → D → Prop} (h : ∀ ds d' G0 H0 σ D', f ds d' → ds.length = 3 → At W G0 H0 (startE N_are_tables ds) σ G0 H0 → Fin0 W G0 H0 d' D' → wSs W (defS N_are_tables (defScope s_are_tables)) k (defBody s_are_tables) D' σ H0) : OkF W (k + 1) "are_tables" 3 f :=
  by
  refine okF_of T 11 11 (x := "are_tables") (d := d_are_tables) (N := N_are_tables) (ps := ["digits", "size", "thing"]) (k := k) (n := 3) (f := f) rfl rfl rfl rfl rfl sc_are_tables rfl ?_ ?_
  · exact (fun _ _ _ _ _ _ us hl => match us, hl with | [_, _, _], _ => rfl)
  · exact h
abbrev N_need_same_digits : List Str := ["one", "other"]
theorem sc_need_same_digits : FnScope N_need_same_digits ["one", "other"] (defScope s_need_same_digits) := ⟨rfl, rfl, rfl, by decide +kernel, rfl, by decide +kernel, by decide +kernel⟩
theorem mk_need_same_digits {W : Gx} (T : Tx W) {k : Nat} {f : List D → D → Prop} (h : ∀ ds d' G0 H0 σ D', f ds d' → ds.length = 2 → At W G0 H0 (startE N_need_same_digits ds) σ G0 H0 → Fin0 W G0 H0 d' D' → wSs W (defS N_need_same_digits (defScope s_need_same_digits)) k (defBody s_need_same_digits) D' σ H0) : OkF W (k + 1) "need_same_digits" 2 f :=
  by
  refine okF_of T 12 12 (x := "need_same_digits") (d := d_need_same_digits) (N := N_need_same_digits) (ps := ["one", "other"]) (k := k) (n := 2) (f := f) rfl rfl rfl rfl rfl sc_need_same_digits rfl ?_ ?_
  · exact (fun _ _ _ _ _ _ us hl => match us, hl with | [_, _], _ => rfl)
  · exact h
abbrev N_beside : List Str := ["table", "other", "bridge", "left", "right", "state", "row"]
theorem sc_beside : FnScope N_beside ["table", "other", "bridge"] (defScope s_beside) := ⟨rfl, rfl, rfl, by decide +kernel, rfl, by decide +kernel, by decide +kernel⟩
theorem mk_beside {W : Gx} (T : Tx W) {k : Nat} {f : List D → D → Prop} (h : ∀ ds d' G0 H0 σ D', f ds d' → ds.length = 3 → At W G0 H0 (startE N_beside ds) σ G0 H0 → Fin0 W G0 H0 d' D' → wSs W (defS N_beside (defScope s_beside)) k (defBody s_beside) D' σ H0) : OkF W (k + 1) "beside" 3 f :=
  by
  refine okF_of T 13 13 (x := "beside") (d := d_beside) (N := N_beside) (ps := ["table", "other", "bridge"]) (k := k) (n := 3) (f := f) rfl rfl rfl rfl rfl sc_beside rfl ?_ ?_
  · exact (fun _ _ _ _ _ _ us hl => match us, hl with | [_, _, _], _ => rfl)
  · exact h
abbrev N_without_bridge : List Str := ["one", "other"]
theorem sc_without_bridge : FnScope N_without_bridge ["one", "other"] (defScope s_without_bridge) := ⟨rfl, rfl, rfl, by decide +kernel, rfl, by decide +kernel, by decide +kernel⟩
theorem mk_without_bridge {W : Gx} (T : Tx W) {k : Nat} {f : List D → D → Prop} (h : ∀ ds d' G0 H0 σ D', f ds d' → ds.length = 2 → At W G0 H0 (startE N_without_bridge ds) σ G0 H0 → Fin0 W G0 H0 d' D' → wSs W (defS N_without_bridge (defScope s_without_bridge)) k (defBody s_without_bridge) D' σ H0) : OkF W (k + 1) "without_bridge" 2 f :=
  by
  refine okF_of T 14 14 (x := "without_bridge") (d := d_without_bridge) (N := N_without_bridge) (ps := ["one", "other"]) (k := k) (n := 2) (f := f) rfl rfl rfl rfl rfl sc_without_bridge rfl ?_ ?_
  · exact (fun _ _ _ _ _ _ us hl => match us, hl with | [_, _], _ => rfl)
  · exact h
abbrev N_added : List Str := ["one", "other", "bridge", "tables", "near", "far"]
theorem sc_added : FnScope N_added ["one", "other"] (defScope s_added) := ⟨rfl, rfl, rfl, by decide +kernel, rfl, by decide +kernel, by decide +kernel⟩
theorem mk_added {W : Gx} (T : Tx W) {k : Nat} {f : List D → D → Prop} (h : ∀ ds d' G0 H0 σ D', f ds d' → ds.length = 2 → At W G0 H0 (startE N_added ds) σ G0 H0 → Fin0 W G0 H0 d' D' → wSs W (defS N_added (defScope s_added)) k (defBody s_added) D' σ H0) : OkF W (k + 1) "added" 2 f :=
  by
  refine okF_of T 15 15 (x := "added") (d := d_added) (N := N_added) (ps := ["one", "other"]) (k := k) (n := 2) (f := f) rfl rfl rfl rfl rfl sc_added rfl ?_ ?_
  · exact (fun _ _ _ _ _ _ us hl => match us, hl with | [_, _], _ => rfl)
  · exact h
abbrev N_times : List Str := ["number", "tally", "end"]
theorem sc_times : FnScope N_times ["number", "tally"] (defScope s_times) := ⟨rfl, rfl, rfl, by decide +kernel, rfl, by decide +kernel, by decide +kernel⟩
theorem mk_times {W : Gx} (T : Tx W) {k : Nat} {f : List D → D → Prop} (h : ∀ ds d' G0 H0 σ D', f ds d' → ds.length = 2 → At W G0 H0 (startE N_times ds) σ G0 H0 → Fin0 W G0 H0 d' D' → wSs W (defS N_times (defScope s_times)) k (defBody s_times) D' σ H0) : OkF W (k + 1) "times" 2 f :=
  by
  refine okF_of T 16 16 (x := "times") (d := d_times) (N := N_times) (ps := ["number", "tally"]) (k := k) (n := 2) (f := f) rfl rfl rfl rfl rfl sc_times rfl ?_ ?_
  · exact (fun _ _ _ _ _ _ us hl => match us, hl with | [_, _], _ => rfl)
  · exact h
abbrev N_lessened : List Str := ["one", "other"]
theorem sc_lessened : FnScope N_lessened ["one", "other"] (defScope s_lessened) := ⟨rfl, rfl, rfl, by decide +kernel, rfl, by decide +kernel, by decide +kernel⟩
theorem mk_lessened {W : Gx} (T : Tx W) {k : Nat} {f : List D → D → Prop} (h : ∀ ds d' G0 H0 σ D', f ds d' → ds.length = 2 → At W G0 H0 (startE N_lessened ds) σ G0 H0 → Fin0 W G0 H0 d' D' → wSs W (defS N_lessened (defScope s_lessened)) k (defBody s_lessened) D' σ H0) : OkF W (k + 1) "lessened" 2 f :=
  by
  refine okF_of T 17 17 (x := "lessened") (d := d_lessened) (N := N_lessened) (ps := ["one", "other"]) (k := k) (n := 2) (f := f) rfl rfl rfl rfl rfl sc_lessened rfl ?_ ?_
  · exact (fun _ _ _ _ _ _ us hl => match us, hl with | [_, _], _ => rfl)
  · exact h
abbrev N_met : List Str := ["one", "other", "begun", "tables", "near", "far", "bridge", "start", "worth", "number"]
theorem sc_met : FnScope N_met ["one", "other"] (defScope s_met) := ⟨rfl, rfl, rfl, by decide +kernel, rfl, by decide +kernel, by decide +kernel⟩
theorem mk_met {W : Gx} (T : Tx W) {k : Nat} {f : List D → D → Prop} (h : ∀ ds d' G0 H0 σ D', f ds d' → ds.length = 2 → At W G0 H0 (startE N_met ds) σ G0 H0 → Fin0 W G0 H0 d' D' → wSs W (defS N_met (defScope s_met)) k (defBody s_met) D' σ H0) : OkF W (k + 1) "met" 2 f :=
  by
  refine okF_of T 18 18 (x := "met") (d := d_met) (N := N_met) (ps := ["one", "other"]) (k := k) (n := 2) (f := f) rfl rfl rfl rfl rfl sc_met rfl ?_ ?_
  · exact (fun _ _ _ _ _ _ us hl => match us, hl with | [_, _], _ => rfl)
  · exact h
abbrev N_ahead : List Str := ["tally", "ticket"]
theorem sc_ahead : FnScope N_ahead ["tally", "ticket"] (defScope s_ahead) := ⟨rfl, rfl, rfl, by decide +kernel, rfl, by decide +kernel, by decide +kernel⟩
theorem mk_ahead {W : Gx} (T : Tx W) {k : Nat} {f : List D → D → Prop} (h : ∀ ds d' G0 H0 σ D', f ds d' → ds.length = 2 → At W G0 H0 (startE N_ahead ds) σ G0 H0 → Fin0 W G0 H0 d' D' → wSs W (defS N_ahead (defScope s_ahead)) k (defBody s_ahead) D' σ H0) : OkF W (k + 1) "ahead" 2 f :=
  by
  refine okF_of T 19 19 (x := "ahead") (d := d_ahead) (N := N_ahead) (ps := ["tally", "ticket"]) (k := k) (n := 2) (f := f) rfl rfl rfl rfl rfl sc_ahead rfl ?_ ?_
  · exact (fun _ _ _ _ _ _ us hl => match us, hl with | [_, _], _ => rfl)
  · exact h
abbrev N_behind : List Str := ["tally", "ticket"]
theorem sc_behind : FnScope N_behind ["tally", "ticket"] (defScope s_behind) := ⟨rfl, rfl, rfl, by decide +kernel, rfl, by decide +kernel, by decide +kernel⟩
theorem mk_behind {W : Gx} (T : Tx W) {k : Nat} {f : List D → D → Prop} (h : ∀ ds d' G0 H0 σ D', f ds d' → ds.length = 2 → At W G0 H0 (startE N_behind ds) σ G0 H0 → Fin0 W G0 H0 d' D' → wSs W (defS N_behind (defScope s_behind)) k (defBody s_behind) D' σ H0) : OkF W (k + 1) "behind" 2 f :=
  by
  refine okF_of T 20 20 (x := "behind") (d := d_behind) (N := N_behind) (ps := ["tally", "ticket"]) (k := k) (n := 2) (f := f) rfl rfl rfl rfl rfl sc_behind rfl ?_ ?_
  · exact (fun _ _ _ _ _ _ us hl => match us, hl with | [_, _], _ => rfl)
  · exact h
abbrev N_are_rising : List Str := ["items", "one", "other"]
theorem sc_are_rising : FnScope N_are_rising ["items"] (defScope s_are_rising) := ⟨rfl, rfl, rfl, by decide +kernel, rfl, by decide +kernel, by decide +kernel⟩
theorem mk_are_rising {W : Gx} (T : Tx W) {k : Nat} {f : List D → D → Prop} (h : ∀ ds d' G0 H0 σ D', f ds d' → ds.length = 1 → At W G0 H0 (startE N_are_rising ds) σ G0 H0 → Fin0 W G0 H0 d' D' → wSs W (defS N_are_rising (defScope s_are_rising)) k (defBody s_are_rising) D' σ H0) : OkF W (k + 1) "are_rising" 1 f :=
  by
  refine okF_of T 21 21 (x := "are_rising") (d := d_are_rising) (N := N_are_rising) (ps := ["items"]) (k := k) (n := 1) (f := f) rfl rfl rfl rfl rfl sc_are_rising rfl ?_ ?_
  · exact (fun _ _ _ _ _ _ us hl => match us, hl with | [_], _ => rfl)
  · exact h
abbrev N_is_integer_rewriters : List Str := ["thing"]
theorem sc_is_integer_rewriters : FnScope N_is_integer_rewriters ["thing"] (defScope s_is_integer_rewriters) := ⟨rfl, rfl, rfl, by decide +kernel, rfl, by decide +kernel, by decide +kernel⟩
theorem mk_is_integer_rewriters {W : Gx} (T : Tx W) {k : Nat} {f : List D → D → Prop} (h : ∀ ds d' G0 H0 σ D', f ds d' → ds.length = 1 → At W G0 H0 (startE N_is_integer_rewriters ds) σ G0 H0 → Fin0 W G0 H0 d' D' → wSs W (defS N_is_integer_rewriters (defScope s_is_integer_rewriters)) k (defBody s_is_integer_rewriters) D' σ H0) : OkF W (k + 1) "is_integer_rewriters" 1 f :=
  by
  refine okF_of T 22 22 (x := "is_integer_rewriters") (d := d_is_integer_rewriters) (N := N_is_integer_rewriters) (ps := ["thing"]) (k := k) (n := 1) (f := f) rfl rfl rfl rfl rfl sc_is_integer_rewriters rfl ?_ ?_
  · exact (fun _ _ _ _ _ _ us hl => match us, hl with | [_], _ => rfl)
  · exact h
abbrev N_is_state : List Str := ["size", "thing"]
theorem sc_is_state : FnScope N_is_state ["size", "thing"] (defScope s_is_state) := ⟨rfl, rfl, rfl, by decide +kernel, rfl, by decide +kernel, by decide +kernel⟩
theorem mk_is_state {W : Gx} (T : Tx W) {k : Nat} {f : List D → D → Prop} (h : ∀ ds d' G0 H0 σ D', f ds d' → ds.length = 2 → At W G0 H0 (startE N_is_state ds) σ G0 H0 → Fin0 W G0 H0 d' D' → wSs W (defS N_is_state (defScope s_is_state)) k (defBody s_is_state) D' σ H0) : OkF W (k + 1) "is_state" 2 f :=
  by
  refine okF_of T 23 23 (x := "is_state") (d := d_is_state) (N := N_is_state) (ps := ["size", "thing"]) (k := k) (n := 2) (f := f) rfl rfl rfl rfl rfl sc_is_state rfl ?_ ?_
  · exact (fun _ _ _ _ _ _ us hl => match us, hl with | [_, _], _ => rfl)
  · exact h
abbrev N_is_digit : List Str := ["digits", "thing"]
theorem sc_is_digit : FnScope N_is_digit ["digits", "thing"] (defScope s_is_digit) := ⟨rfl, rfl, rfl, by decide +kernel, rfl, by decide +kernel, by decide +kernel⟩
theorem mk_is_digit {W : Gx} (T : Tx W) {k : Nat} {f : List D → D → Prop} (h : ∀ ds d' G0 H0 σ D', f ds d' → ds.length = 2 → At W G0 H0 (startE N_is_digit ds) σ G0 H0 → Fin0 W G0 H0 d' D' → wSs W (defS N_is_digit (defScope s_is_digit)) k (defBody s_is_digit) D' σ H0) : OkF W (k + 1) "is_digit" 2 f :=
  by
  refine okF_of T 24 24 (x := "is_digit") (d := d_is_digit) (N := N_is_digit) (ps := ["digits", "thing"]) (k := k) (n := 2) (f := f) rfl rfl rfl rfl rfl sc_is_digit rfl ?_ ?_
  · exact (fun _ _ _ _ _ _ us hl => match us, hl with | [_, _], _ => rfl)
  · exact h
abbrev N_is_move : List Str := ["digits", "written", "size", "thing"]
theorem sc_is_move : FnScope N_is_move ["digits", "written", "size", "thing"] (defScope s_is_move) := ⟨rfl, rfl, rfl, by decide +kernel, rfl, by decide +kernel, by decide +kernel⟩
theorem mk_is_move {W : Gx} (T : Tx W) {k : Nat} {f : List D → D → Prop} (h : ∀ ds d' G0 H0 σ D', f ds d' → ds.length = 4 → At W G0 H0 (startE N_is_move ds) σ G0 H0 → Fin0 W G0 H0 d' D' → wSs W (defS N_is_move (defScope s_is_move)) k (defBody s_is_move) D' σ H0) : OkF W (k + 1) "is_move" 4 f :=
  by
  refine okF_of T 25 25 (x := "is_move") (d := d_is_move) (N := N_is_move) (ps := ["digits", "written", "size", "thing"]) (k := k) (n := 4) (f := f) rfl rfl rfl rfl rfl sc_is_move rfl ?_ ?_
  · exact (fun _ _ _ _ _ _ us hl => match us, hl with | [_, _, _, _], _ => rfl)
  · exact h
abbrev N_up_to : List Str := ["digits", "moves", "digit", "other"]
theorem sc_up_to : FnScope N_up_to ["digits"] (defScope s_up_to) := ⟨rfl, rfl, rfl, by decide +kernel, rfl, by decide +kernel, by decide +kernel⟩
theorem mk_up_to {W : Gx} (T : Tx W) {k : Nat} {f : List D → D → Prop} (h : ∀ ds d' G0 H0 σ D', f ds d' → ds.length = 1 → At W G0 H0 (startE N_up_to ds) σ G0 H0 → Fin0 W G0 H0 d' D' → wSs W (defS N_up_to (defScope s_up_to)) k (defBody s_up_to) D' σ H0) : OkF W (k + 1) "up_to" 1 f :=
  by
  refine okF_of T 26 26 (x := "up_to") (d := d_up_to) (N := N_up_to) (ps := ["digits"]) (k := k) (n := 1) (f := f) rfl rfl rfl rfl rfl sc_up_to rfl ?_ ?_
  · exact (fun _ _ _ _ _ _ us hl => match us, hl with | [_], _ => rfl)
  · exact h
abbrev N_one_ahead : List Str := ["digits", "moves", "digit", "other"]
theorem sc_one_ahead : FnScope N_one_ahead ["digits"] (defScope s_one_ahead) := ⟨rfl, rfl, rfl, by decide +kernel, rfl, by decide +kernel, by decide +kernel⟩
theorem mk_one_ahead {W : Gx} (T : Tx W) {k : Nat} {f : List D → D → Prop} (h : ∀ ds d' G0 H0 σ D', f ds d' → ds.length = 1 → At W G0 H0 (startE N_one_ahead ds) σ G0 H0 → Fin0 W G0 H0 d' D' → wSs W (defS N_one_ahead (defScope s_one_ahead)) k (defBody s_one_ahead) D' σ H0) : OkF W (k + 1) "one_ahead" 1 f :=
  by
  refine okF_of T 27 27 (x := "one_ahead") (d := d_one_ahead) (N := N_one_ahead) (ps := ["digits"]) (k := k) (n := 1) (f := f) rfl rfl rfl rfl rfl sc_one_ahead rfl ?_ ?_
  · exact (fun _ _ _ _ _ _ us hl => match us, hl with | [_], _ => rfl)
  · exact h
abbrev N_met_states : List Str := ["rewriter", "found", "known", "place", "digit", "move"]
theorem sc_met_states : FnScope N_met_states ["rewriter"] (defScope s_met_states) := ⟨rfl, rfl, rfl, by decide +kernel, rfl, by decide +kernel, by decide +kernel⟩
theorem mk_met_states {W : Gx} (T : Tx W) {k : Nat} {f : List D → D → Prop} (h : ∀ ds d' G0 H0 σ D', f ds d' → ds.length = 1 → At W G0 H0 (startE N_met_states ds) σ G0 H0 → Fin0 W G0 H0 d' D' → wSs W (defS N_met_states (defScope s_met_states)) k (defBody s_met_states) D' σ H0) : OkF W (k + 1) "met_states" 1 f :=
  by
  refine okF_of T 28 28 (x := "met_states") (d := d_met_states) (N := N_met_states) (ps := ["rewriter"]) (k := k) (n := 1) (f := f) rfl rfl rfl rfl rfl sc_met_states rfl ?_ ?_
  · exact (fun _ _ _ _ _ _ us hl => match us, hl with | [_], _ => rfl)
  · exact h
abbrev N_table_through : List Str := ["tally", "rewriter", "states", "digit", "many", "places", "rows", "state", "move", "table", "number", "row", "led", "place", "factor"]
theorem sc_table_through : FnScope N_table_through ["tally", "rewriter", "states", "digit"] (defScope s_table_through) := ⟨rfl, rfl, rfl, by decide +kernel, rfl, by decide +kernel, by decide +kernel⟩
theorem mk_table_through {W : Gx} (T : Tx W) {k : Nat} {f : List D → D → Prop} (h : ∀ ds d' G0 H0 σ D', f ds d' → ds.length = 4 → At W G0 H0 (startE N_table_through ds) σ G0 H0 → Fin0 W G0 H0 d' D' → wSs W (defS N_table_through (defScope s_table_through)) k (defBody s_table_through) D' σ H0) : OkF W (k + 1) "table_through" 4 f :=
  by
  refine okF_of T 29 29 (x := "table_through") (d := d_table_through) (N := N_table_through) (ps := ["tally", "rewriter", "states", "digit"]) (k := k) (n := 4) (f := f) rfl rfl rfl rfl rfl sc_table_through rfl ?_ ?_
  · exact (fun _ _ _ _ _ _ us hl => match us, hl with | [_, _, _, _], _ => rfl)
  · exact h
abbrev N_through : List Str := ["tally", "rewriter", "states", "start", "ends", "state", "tables", "digit"]
theorem sc_through : FnScope N_through ["tally", "rewriter"] (defScope s_through) := ⟨rfl, rfl, rfl, by decide +kernel, rfl, by decide +kernel, by decide +kernel⟩
theorem mk_through {W : Gx} (T : Tx W) {k : Nat} {f : List D → D → Prop} (h : ∀ ds d' G0 H0 σ D', f ds d' → ds.length = 2 → At W G0 H0 (startE N_through ds) σ G0 H0 → Fin0 W G0 H0 d' D' → wSs W (defS N_through (defScope s_through)) k (defBody s_through) D' σ H0) : OkF W (k + 1) "through" 2 f :=
  by
  refine okF_of T 30 30 (x := "through") (d := d_through) (N := N_through) (ps := ["tally", "rewriter"]) (k := k) (n := 2) (f := f) rfl rfl rfl rfl rfl sc_through rfl ?_ ?_
  · exact (fun _ _ _ _ _ _ us hl => match us, hl with | [_, _], _ => rfl)
  · exact h
abbrev N_sums : List Str := ["tally"]
theorem sc_sums : FnScope N_sums ["tally"] (defScope s_sums) := ⟨rfl, rfl, rfl, by decide +kernel, rfl, by decide +kernel, by decide +kernel⟩
theorem mk_sums {W : Gx} (T : Tx W) {k : Nat} {f : List D → D → Prop} (h : ∀ ds d' G0 H0 σ D', f ds d' → ds.length = 1 → At W G0 H0 (startE N_sums ds) σ G0 H0 → Fin0 W G0 H0 d' D' → wSs W (defS N_sums (defScope s_sums)) k (defBody s_sums) D' σ H0) : OkF W (k + 1) "sums" 1 f :=
  by
  refine okF_of T 31 31 (x := "sums") (d := d_sums) (N := N_sums) (ps := ["tally"]) (k := k) (n := 1) (f := f) rfl rfl rfl rfl rfl sc_sums rfl ?_ ?_
  · exact (fun _ _ _ _ _ _ us hl => match us, hl with | [_], _ => rfl)
  · exact h
abbrev N_steps : List Str := ["tally"]
theorem sc_steps : FnScope N_steps ["tally"] (defScope s_steps) := ⟨rfl, rfl, rfl, by decide +kernel, rfl, by decide +kernel, by decide +kernel⟩
theorem mk_steps {W : Gx} (T : Tx W) {k : Nat} {f : List D → D → Prop} (h : ∀ ds d' G0 H0 σ D', f ds d' → ds.length = 1 → At W G0 H0 (startE N_steps ds) σ G0 H0 → Fin0 W G0 H0 d' D' → wSs W (defS N_steps (defScope s_steps)) k (defBody s_steps) D' σ H0) : OkF W (k + 1) "steps" 1 f :=
  by
  refine okF_of T 32 32 (x := "steps") (d := d_steps) (N := N_steps) (ps := ["tally"]) (k := k) (n := 1) (f := f) rfl rfl rfl rfl rfl sc_steps rfl ?_ ?_
  · exact (fun _ _ _ _ _ _ us hl => match us, hl with | [_], _ => rfl)
  · exact h
abbrev N_whole_table : List Str := ["tally", "found", "table", "state", "row", "own", "one", "other"]
theorem sc_whole_table : FnScope N_whole_table ["tally"] (defScope s_whole_table) := ⟨rfl, rfl, rfl, by decide +kernel, rfl, by decide +kernel, by decide +kernel⟩
theorem mk_whole_table {W : Gx} (T : Tx W) {k : Nat} {f : List D → D → Prop} (h : ∀ ds d' G0 H0 σ D', f ds d' → ds.length = 1 → At W G0 H0 (startE N_whole_table ds) σ G0 H0 → Fin0 W G0 H0 d' D' → wSs W (defS N_whole_table (defScope s_whole_table)) k (defBody s_whole_table) D' σ H0) : OkF W (k + 1) "whole_table" 1 f :=
  by
  refine okF_of T 33 33 (x := "whole_table") (d := d_whole_table) (N := N_whole_table) (ps := ["tally"]) (k := k) (n := 1) (f := f) rfl rfl rfl rfl rfl sc_whole_table rfl ?_ ?_
  · exact (fun _ _ _ _ _ _ us hl => match us, hl with | [_], _ => rfl)
  · exact h
abbrev N_columns_to : List Str := ["tally", "length", "table", "found", "turn", "row"]
theorem sc_columns_to : FnScope N_columns_to ["tally", "length"] (defScope s_columns_to) := ⟨rfl, rfl, rfl, by decide +kernel, rfl, by decide +kernel, by decide +kernel⟩
theorem mk_columns_to {W : Gx} (T : Tx W) {k : Nat} {f : List D → D → Prop} (h : ∀ ds d' G0 H0 σ D', f ds d' → ds.length = 2 → At W G0 H0 (startE N_columns_to ds) σ G0 H0 → Fin0 W G0 H0 d' D' → wSs W (defS N_columns_to (defScope s_columns_to)) k (defBody s_columns_to) D' σ H0) : OkF W (k + 1) "columns_to" 2 f :=
  by
  refine okF_of T 34 34 (x := "columns_to") (d := d_columns_to) (N := N_columns_to) (ps := ["tally", "length"]) (k := k) (n := 2) (f := f) rfl rfl rfl rfl rfl sc_columns_to rfl ?_ ?_
  · exact (fun _ _ _ _ _ _ us hl => match us, hl with | [_, _], _ => rfl)
  · exact h
abbrev N_block_sum : List Str := ["tally", "beginning", "length", "row"]
theorem sc_block_sum : FnScope N_block_sum ["tally", "beginning", "length"] (defScope s_block_sum) := ⟨rfl, rfl, rfl, by decide +kernel, rfl, by decide +kernel, by decide +kernel⟩
theorem mk_block_sum {W : Gx} (T : Tx W) {k : Nat} {f : List D → D → Prop} (h : ∀ ds d' G0 H0 σ D', f ds d' → ds.length = 3 → At W G0 H0 (startE N_block_sum ds) σ G0 H0 → Fin0 W G0 H0 d' D' → wSs W (defS N_block_sum (defScope s_block_sum)) k (defBody s_block_sum) D' σ H0) : OkF W (k + 1) "block_sum" 3 f :=
  by
  refine okF_of T 35 35 (x := "block_sum") (d := d_block_sum) (N := N_block_sum) (ps := ["tally", "beginning", "length"]) (k := k) (n := 3) (f := f) rfl rfl rfl rfl rfl sc_block_sum rfl ?_ ?_
  · exact (fun _ _ _ _ _ _ us hl => match us, hl with | [_, _, _], _ => rfl)
  · exact h
abbrev N_roll_sums : List Str := ["tally", "many", "column"]
theorem sc_roll_sums : FnScope N_roll_sums ["tally", "many"] (defScope s_roll_sums) := ⟨rfl, rfl, rfl, by decide +kernel, rfl, by decide +kernel, by decide +kernel⟩
theorem mk_roll_sums {W : Gx} (T : Tx W) {k : Nat} {f : List D → D → Prop} (h : ∀ ds d' G0 H0 σ D', f ds d' → ds.length = 2 → At W G0 H0 (startE N_roll_sums ds) σ G0 H0 → Fin0 W G0 H0 d' D' → wSs W (defS N_roll_sums (defScope s_roll_sums)) k (defBody s_roll_sums) D' σ H0) : OkF W (k + 1) "roll_sums" 2 f :=
  by
  refine okF_of T 36 36 (x := "roll_sums") (d := d_roll_sums) (N := N_roll_sums) (ps := ["tally", "many"]) (k := k) (n := 2) (f := f) rfl rfl rfl rfl rfl sc_roll_sums rfl ?_ ?_
  · exact (fun _ _ _ _ _ _ us hl => match us, hl with | [_, _], _ => rfl)
  · exact h
abbrev N_roll_sum : List Str := ["tally", "length"]
theorem sc_roll_sum : FnScope N_roll_sum ["tally", "length"] (defScope s_roll_sum) := ⟨rfl, rfl, rfl, by decide +kernel, rfl, by decide +kernel, by decide +kernel⟩
theorem mk_roll_sum {W : Gx} (T : Tx W) {k : Nat} {f : List D → D → Prop} (h : ∀ ds d' G0 H0 σ D', f ds d' → ds.length = 2 → At W G0 H0 (startE N_roll_sum ds) σ G0 H0 → Fin0 W G0 H0 d' D' → wSs W (defS N_roll_sum (defScope s_roll_sum)) k (defBody s_roll_sum) D' σ H0) : OkF W (k + 1) "roll_sum" 2 f :=
  by
  refine okF_of T 37 37 (x := "roll_sum") (d := d_roll_sum) (N := N_roll_sum) (ps := ["tally", "length"]) (k := k) (n := 2) (f := f) rfl rfl rfl rfl rfl sc_roll_sum rfl ?_ ?_
  · exact (fun _ _ _ _ _ _ us hl => match us, hl with | [_, _], _ => rfl)
  · exact h
abbrev N_sum_to : List Str := ["tally", "ticket", "columns", "row", "found", "place", "digit", "column", "other", "table"]
theorem sc_sum_to : FnScope N_sum_to ["tally", "ticket", "columns"] (defScope s_sum_to) := ⟨rfl, rfl, rfl, by decide +kernel, rfl, by decide +kernel, by decide +kernel⟩
theorem mk_sum_to {W : Gx} (T : Tx W) {k : Nat} {f : List D → D → Prop} (h : ∀ ds d' G0 H0 σ D', f ds d' → ds.length = 3 → At W G0 H0 (startE N_sum_to ds) σ G0 H0 → Fin0 W G0 H0 d' D' → wSs W (defS N_sum_to (defScope s_sum_to)) k (defBody s_sum_to) D' σ H0) : OkF W (k + 1) "sum_to" 3 f :=
  by
  refine okF_of T 38 38 (x := "sum_to") (d := d_sum_to) (N := N_sum_to) (ps := ["tally", "ticket", "columns"]) (k := k) (n := 3) (f := f) rfl rfl rfl rfl rfl sc_sum_to rfl ?_ ?_
  · exact (fun _ _ _ _ _ _ us hl => match us, hl with | [_, _, _], _ => rfl)
  · exact h
abbrev N_check_range : List Str := ["digits", "low", "high", "ticket"]
theorem sc_check_range : FnScope N_check_range ["digits", "low", "high"] (defScope s_check_range) := ⟨rfl, rfl, rfl, by decide +kernel, rfl, by decide +kernel, by decide +kernel⟩
theorem mk_check_range {W : Gx} (T : Tx W) {k : Nat} {f : List D → D → Prop} (h : ∀ ds d' G0 H0 σ D', f ds d' → ds.length = 3 → At W G0 H0 (startE N_check_range ds) σ G0 H0 → Fin0 W G0 H0 d' D' → wSs W (defS N_check_range (defScope s_check_range)) k (defBody s_check_range) D' σ H0) : OkF W (k + 1) "check_range" 3 f :=
  by
  refine okF_of T 39 39 (x := "check_range") (d := d_check_range) (N := N_check_range) (ps := ["digits", "low", "high"]) (k := k) (n := 3) (f := f) rfl rfl rfl rfl rfl sc_check_range rfl ?_ ?_
  · exact (fun _ _ _ _ _ _ us hl => match us, hl with | [_, _, _], _ => rfl)
  · exact h
abbrev N_range_sum : List Str := ["tally", "low", "high", "columns"]
theorem sc_range_sum : FnScope N_range_sum ["tally", "low", "high"] (defScope s_range_sum) := ⟨rfl, rfl, rfl, by decide +kernel, rfl, by decide +kernel, by decide +kernel⟩
theorem mk_range_sum {W : Gx} (T : Tx W) {k : Nat} {f : List D → D → Prop} (h : ∀ ds d' G0 H0 σ D', f ds d' → ds.length = 3 → At W G0 H0 (startE N_range_sum ds) σ G0 H0 → Fin0 W G0 H0 d' D' → wSs W (defS N_range_sum (defScope s_range_sum)) k (defBody s_range_sum) D' σ H0) : OkF W (k + 1) "range_sum" 3 f :=
  by
  refine okF_of T 40 40 (x := "range_sum") (d := d_range_sum) (N := N_range_sum) (ps := ["tally", "low", "high"]) (k := k) (n := 3) (f := f) rfl rfl rfl rfl rfl sc_range_sum rfl ?_ ?_
  · exact (fun _ _ _ _ _ _ us hl => match us, hl with | [_, _, _], _ => rfl)
  · exact h
abbrev N_is_first : List Str := ["digits", "ticket"]
theorem sc_is_first : FnScope N_is_first ["digits", "ticket"] (defScope s_is_first) := ⟨rfl, rfl, rfl, by decide +kernel, rfl, by decide +kernel, by decide +kernel⟩
theorem mk_is_first {W : Gx} (T : Tx W) {k : Nat} {f : List D → D → Prop} (h : ∀ ds d' G0 H0 σ D', f ds d' → ds.length = 2 → At W G0 H0 (startE N_is_first ds) σ G0 H0 → Fin0 W G0 H0 d' D' → wSs W (defS N_is_first (defScope s_is_first)) k (defBody s_is_first) D' σ H0) : OkF W (k + 1) "is_first" 2 f :=
  by
  refine okF_of T 41 41 (x := "is_first") (d := d_is_first) (N := N_is_first) (ps := ["digits", "ticket"]) (k := k) (n := 2) (f := f) rfl rfl rfl rfl rfl sc_is_first rfl ?_ ?_
  · exact (fun _ _ _ _ _ _ us hl => match us, hl with | [_, _], _ => rfl)
  · exact h
abbrev N_is_last : List Str := ["digits", "ticket"]
theorem sc_is_last : FnScope N_is_last ["digits", "ticket"] (defScope s_is_last) := ⟨rfl, rfl, rfl, by decide +kernel, rfl, by decide +kernel, by decide +kernel⟩
theorem mk_is_last {W : Gx} (T : Tx W) {k : Nat} {f : List D → D → Prop} (h : ∀ ds d' G0 H0 σ D', f ds d' → ds.length = 2 → At W G0 H0 (startE N_is_last ds) σ G0 H0 → Fin0 W G0 H0 d' D' → wSs W (defS N_is_last (defScope s_is_last)) k (defBody s_is_last) D' σ H0) : OkF W (k + 1) "is_last" 2 f :=
  by
  refine okF_of T 42 42 (x := "is_last") (d := d_is_last) (N := N_is_last) (ps := ["digits", "ticket"]) (k := k) (n := 2) (f := f) rfl rfl rfl rfl rfl sc_is_last rfl ?_ ?_
  · exact (fun _ _ _ _ _ _ us hl => match us, hl with | [_, _], _ => rfl)
  · exact h
abbrev N_beginnings_from : List Str := ["digits", "low", "found", "place", "shown", "digit", "ticket"]
theorem sc_beginnings_from : FnScope N_beginnings_from ["digits", "low"] (defScope s_beginnings_from) := ⟨rfl, rfl, rfl, by decide +kernel, rfl, by decide +kernel, by decide +kernel⟩
theorem mk_beginnings_from {W : Gx} (T : Tx W) {k : Nat} {f : List D → D → Prop} (h : ∀ ds d' G0 H0 σ D', f ds d' → ds.length = 2 → At W G0 H0 (startE N_beginnings_from ds) σ G0 H0 → Fin0 W G0 H0 d' D' → wSs W (defS N_beginnings_from (defScope s_beginnings_from)) k (defBody s_beginnings_from) D' σ H0) : OkF W (k + 1) "beginnings_from" 2 f :=
  by
  refine okF_of T 43 43 (x := "beginnings_from") (d := d_beginnings_from) (N := N_beginnings_from) (ps := ["digits", "low"]) (k := k) (n := 2) (f := f) rfl rfl rfl rfl rfl sc_beginnings_from rfl ?_ ?_
  · exact (fun _ _ _ _ _ _ us hl => match us, hl with | [_, _], _ => rfl)
  · exact h
abbrev N_beginnings_to : List Str := ["digits", "high", "found", "shown", "place", "last", "digit"]
theorem sc_beginnings_to : FnScope N_beginnings_to ["digits", "high"] (defScope s_beginnings_to) := ⟨rfl, rfl, rfl, by decide +kernel, rfl, by decide +kernel, by decide +kernel⟩
theorem mk_beginnings_to {W : Gx} (T : Tx W) {k : Nat} {f : List D → D → Prop} (h : ∀ ds d' G0 H0 σ D', f ds d' → ds.length = 2 → At W G0 H0 (startE N_beginnings_to ds) σ G0 H0 → Fin0 W G0 H0 d' D' → wSs W (defS N_beginnings_to (defScope s_beginnings_to)) k (defBody s_beginnings_to) D' σ H0) : OkF W (k + 1) "beginnings_to" 2 f :=
  by
  refine okF_of T 44 44 (x := "beginnings_to") (d := d_beginnings_to) (N := N_beginnings_to) (ps := ["digits", "high"]) (k := k) (n := 2) (f := f) rfl rfl rfl rfl rfl sc_beginnings_to rfl ?_ ?_
  · exact (fun _ _ _ _ _ _ us hl => match us, hl with | [_, _], _ => rfl)
  · exact h
abbrev N_beginnings : List Str := ["digits", "low", "high", "shared", "ahead", "first", "last", "near", "far", "found", "ticket", "digit"]
theorem sc_beginnings : FnScope N_beginnings ["digits", "low", "high"] (defScope s_beginnings) := ⟨rfl, rfl, rfl, by decide +kernel, rfl, by decide +kernel, by decide +kernel⟩
theorem mk_beginnings {W : Gx} (T : Tx W) {k : Nat} {f : List D → D → Prop} (h : ∀ ds d' G0 H0 σ D', f ds d' → ds.length = 3 → At W G0 H0 (startE N_beginnings ds) σ G0 H0 → Fin0 W G0 H0 d' D' → wSs W (defS N_beginnings (defScope s_beginnings)) k (defBody s_beginnings) D' σ H0) : OkF W (k + 1) "beginnings" 3 f :=
  by
  refine okF_of T 45 45 (x := "beginnings") (d := d_beginnings) (N := N_beginnings) (ps := ["digits", "low", "high"]) (k := k) (n := 3) (f := f) rfl rfl rfl rfl rfl sc_beginnings rfl ?_ ?_
  · exact (fun _ _ _ _ _ _ us hl => match us, hl with | [_, _, _], _ => rfl)
  · exact h
abbrev N_ticket_ahead : List Str := ["digits", "ticket", "shown", "last"]
theorem sc_ticket_ahead : FnScope N_ticket_ahead ["digits", "ticket"] (defScope s_ticket_ahead) := ⟨rfl, rfl, rfl, by decide +kernel, rfl, by decide +kernel, by decide +kernel⟩
theorem mk_ticket_ahead {W : Gx} (T : Tx W) {k : Nat} {f : List D → D → Prop} (h : ∀ ds d' G0 H0 σ D', f ds d' → ds.length = 2 → At W G0 H0 (startE N_ticket_ahead ds) σ G0 H0 → Fin0 W G0 H0 d' D' → wSs W (defS N_ticket_ahead (defScope s_ticket_ahead)) k (defBody s_ticket_ahead) D' σ H0) : OkF W (k + 1) "ticket_ahead" 2 f :=
  by
  refine okF_of T 46 46 (x := "ticket_ahead") (d := d_ticket_ahead) (N := N_ticket_ahead) (ps := ["digits", "ticket"]) (k := k) (n := 2) (f := f) rfl rfl rfl rfl rfl sc_ticket_ahead rfl ?_ ?_
  · exact (fun _ _ _ _ _ _ us hl => match us, hl with | [_, _], _ => rfl)
  · exact h
abbrev N_ticket_behind : List Str := ["digits", "ticket", "shown", "last"]
theorem sc_ticket_behind : FnScope N_ticket_behind ["digits", "ticket"] (defScope s_ticket_behind) := ⟨rfl, rfl, rfl, by decide +kernel, rfl, by decide +kernel, by decide +kernel⟩
theorem mk_ticket_behind {W : Gx} (T : Tx W) {k : Nat} {f : List D → D → Prop} (h : ∀ ds d' G0 H0 σ D', f ds d' → ds.length = 2 → At W G0 H0 (startE N_ticket_behind ds) σ G0 H0 → Fin0 W G0 H0 d' D' → wSs W (defS N_ticket_behind (defScope s_ticket_behind)) k (defBody s_ticket_behind) D' σ H0) : OkF W (k + 1) "ticket_behind" 2 f :=
  by
  refine okF_of T 47 47 (x := "ticket_behind") (d := d_ticket_behind) (N := N_ticket_behind) (ps := ["digits", "ticket"]) (k := k) (n := 2) (f := f) rfl rfl rfl rfl rfl sc_ticket_behind rfl ?_ ?_
  · exact (fun _ _ _ _ _ _ us hl => match us, hl with | [_, _], _ => rfl)
  · exact h
abbrev N_law_deck : List Str := ["_law_script", "_law_cells", "_law_mixed", "_law_cell"]
theorem sc_law_deck : FnScope N_law_deck ["_law_script"] (defScope s_law_deck) := ⟨rfl, rfl, rfl, by decide +kernel, rfl, by decide +kernel, by decide +kernel⟩
theorem mk_law_deck {W : Gx} (T : Tx W) {k : Nat} {f : List D → D → Prop} (h : ∀ ds d' G0 H0 σ D', f ds d' → ds.length = 1 → At W G0 H0 (startE N_law_deck ds) σ G0 H0 → Fin0 W G0 H0 d' D' → wSs W (defS N_law_deck (defScope s_law_deck)) k (defBody s_law_deck) D' σ H0) : OkF W (k + 1) "_law_deck" 1 f :=
  by
  refine okF_of T 48 48 (x := "_law_deck") (d := d_law_deck) (N := N_law_deck) (ps := ["_law_script"]) (k := k) (n := 1) (f := f) rfl rfl rfl rfl rfl sc_law_deck rfl ?_ ?_
  · exact (fun _ _ _ _ _ _ us hl => match us, hl with | [_], _ => rfl)
  · exact h
abbrev N_law_draw : List Str := ["_law_deck_here", "_law_many", "_law_figure", "_law_cell"]
theorem sc_law_draw : FnScope N_law_draw ["_law_deck_here", "_law_many"] (defScope s_law_draw) := ⟨rfl, rfl, rfl, by decide +kernel, rfl, by decide +kernel, by decide +kernel⟩
theorem mk_law_draw {W : Gx} (T : Tx W) {k : Nat} {f : List D → D → Prop} (h : ∀ ds d' G0 H0 σ D', f ds d' → ds.length = 2 → At W G0 H0 (startE N_law_draw ds) σ G0 H0 → Fin0 W G0 H0 d' D' → wSs W (defS N_law_draw (defScope s_law_draw)) k (defBody s_law_draw) D' σ H0) : OkF W (k + 1) "_law_draw" 2 f :=
  by
  refine okF_of T 49 49 (x := "_law_draw") (d := d_law_draw) (N := N_law_draw) (ps := ["_law_deck_here", "_law_many"]) (k := k) (n := 2) (f := f) rfl rfl rfl rfl rfl sc_law_draw rfl ?_ ?_
  · exact (fun _ _ _ _ _ _ us hl => match us, hl with | [_, _], _ => rfl)
  · exact h
abbrev N_law_pick : List Str := ["_law_deck_here", "_law_some"]
theorem sc_law_pick : FnScope N_law_pick ["_law_deck_here", "_law_some"] (defScope s_law_pick) := ⟨rfl, rfl, rfl, by decide +kernel, rfl, by decide +kernel, by decide +kernel⟩
theorem mk_law_pick {W : Gx} (T : Tx W) {k : Nat} {f : List D → D → Prop} (h : ∀ ds d' G0 H0 σ D', f ds d' → ds.length = 2 → At W G0 H0 (startE N_law_pick ds) σ G0 H0 → Fin0 W G0 H0 d' D' → wSs W (defS N_law_pick (defScope s_law_pick)) k (defBody s_law_pick) D' σ H0) : OkF W (k + 1) "_law_pick" 2 f :=
  by
  refine okF_of T 50 50 (x := "_law_pick") (d := d_law_pick) (N := N_law_pick) (ps := ["_law_deck_here", "_law_some"]) (k := k) (n := 2) (f := f) rfl rfl rfl rfl rfl sc_law_pick rfl ?_ ?_
  · exact (fun _ _ _ _ _ _ us hl => match us, hl with | [_, _], _ => rfl)
  · exact h
abbrev N_law_line : List Str := ["_law_deck_here", "_law_size", "_law_some", "_law_k"]
theorem sc_law_line : FnScope N_law_line ["_law_deck_here", "_law_size", "_law_some"] (defScope s_law_line) := ⟨rfl, rfl, rfl, by decide +kernel, rfl, by decide +kernel, by decide +kernel⟩
theorem mk_law_line {W : Gx} (T : Tx W) {k : Nat} {f : List D → D → Prop} (h : ∀ ds d' G0 H0 σ D', f ds d' → ds.length = 3 → At W G0 H0 (startE N_law_line ds) σ G0 H0 → Fin0 W G0 H0 d' D' → wSs W (defS N_law_line (defScope s_law_line)) k (defBody s_law_line) D' σ H0) : OkF W (k + 1) "_law_line" 3 f :=
  by
  refine okF_of T 51 51 (x := "_law_line") (d := d_law_line) (N := N_law_line) (ps := ["_law_deck_here", "_law_size", "_law_some"]) (k := k) (n := 3) (f := f) rfl rfl rfl rfl rfl sc_law_line rfl ?_ ?_
  · exact (fun _ _ _ _ _ _ us hl => match us, hl with | [_, _, _], _ => rfl)
  · exact h
abbrev N_law_world : List Str := ["_law_deck_here", "_law_top", "_law_signs", "_law_way", "_law_w", "_law_turns", "_law_size", "_law_lots", "_law_some", "_law_sign", "_law_begin", "_law_last", "_law_k"]
theorem sc_law_world : FnScope N_law_world ["_law_deck_here", "_law_top"] (defScope s_law_world) := ⟨rfl, rfl, rfl, by decide +kernel, rfl, by decide +kernel, by decide +kernel⟩
theorem mk_law_world {W : Gx} (T : Tx W) {k : Nat} {f : List D → D → Prop} (h : ∀ ds d' G0 H0 σ D', f ds d' → ds.length = 2 → At W G0 H0 (startE N_law_world ds) σ G0 H0 → Fin0 W G0 H0 d' D' → wSs W (defS N_law_world (defScope s_law_world)) k (defBody s_law_world) D' σ H0) : OkF W (k + 1) "_law_world" 2 f :=
  by
  refine okF_of T 52 52 (x := "_law_world") (d := d_law_world) (N := N_law_world) (ps := ["_law_deck_here", "_law_top"]) (k := k) (n := 2) (f := f) rfl rfl rfl rfl rfl sc_law_world rfl ?_ ?_
  · exact (fun _ _ _ _ _ _ us hl => match us, hl with | [_, _], _ => rfl)
  · exact h
abbrev N_law_code : List Str := ["_law_w"]
theorem sc_law_code : FnScope N_law_code ["_law_w"] (defScope s_law_code) := ⟨rfl, rfl, rfl, by decide +kernel, rfl, by decide +kernel, by decide +kernel⟩
theorem mk_law_code {W : Gx} (T : Tx W) {k : Nat} {f : List D → D → Prop} (h : ∀ ds d' G0 H0 σ D', f ds d' → ds.length = 1 → At W G0 H0 (startE N_law_code ds) σ G0 H0 → Fin0 W G0 H0 d' D' → wSs W (defS N_law_code (defScope s_law_code)) k (defBody s_law_code) D' σ H0) : OkF W (k + 1) "_law_code" 1 f :=
  by
  refine okF_of T 53 53 (x := "_law_code") (d := d_law_code) (N := N_law_code) (ps := ["_law_w"]) (k := k) (n := 1) (f := f) rfl rfl rfl rfl rfl sc_law_code rfl ?_ ?_
  · exact (fun _ _ _ _ _ _ us hl => match us, hl with | [_], _ => rfl)
  · exact h
abbrev N_law_led : List Str := ["_law_line_here", "_law_lot", "_law_at", "_law_k"]
theorem sc_law_led : FnScope N_law_led ["_law_line_here", "_law_lot"] (defScope s_law_led) := ⟨rfl, rfl, rfl, by decide +kernel, rfl, by decide +kernel, by decide +kernel⟩
theorem mk_law_led {W : Gx} (T : Tx W) {k : Nat} {f : List D → D → Prop} (h : ∀ ds d' G0 H0 σ D', f ds d' → ds.length = 2 → At W G0 H0 (startE N_law_led ds) σ G0 H0 → Fin0 W G0 H0 d' D' → wSs W (defS N_law_led (defScope s_law_led)) k (defBody s_law_led) D' σ H0) : OkF W (k + 1) "_law_led" 2 f :=
  by
  refine okF_of T 54 54 (x := "_law_led") (d := d_law_led) (N := N_law_led) (ps := ["_law_line_here", "_law_lot"]) (k := k) (n := 2) (f := f) rfl rfl rfl rfl rfl sc_law_led rfl ?_ ?_
  · exact (fun _ _ _ _ _ _ us hl => match us, hl with | [_, _], _ => rfl)
  · exact h
abbrev N_law_line_of : List Str := ["_law_w", "_law_page_here", "_law_line_here", "_law_sign"]
theorem sc_law_line_of : FnScope N_law_line_of ["_law_w", "_law_page_here"] (defScope s_law_line_of) := ⟨rfl, rfl, rfl, by decide +kernel, rfl, by decide +kernel, by decide +kernel⟩
theorem mk_law_line_of {W : Gx} (T : Tx W) {k : Nat} {f : List D → D → Prop} (h : ∀ ds d' G0 H0 σ D', f ds d' → ds.length = 2 → At W G0 H0 (startE N_law_line_of ds) σ G0 H0 → Fin0 W G0 H0 d' D' → wSs W (defS N_law_line_of (defScope s_law_line_of)) k (defBody s_law_line_of) D' σ H0) : OkF W (k + 1) "_law_line_of" 2 f :=
  by
  refine okF_of T 55 55 (x := "_law_line_of") (d := d_law_line_of) (N := N_law_line_of) (ps := ["_law_w", "_law_page_here"]) (k := k) (n := 2) (f := f) rfl rfl rfl rfl rfl sc_law_line_of rfl ?_ ?_
  · exact (fun _ _ _ _ _ _ us hl => match us, hl with | [_, _], _ => rfl)
  · exact h
abbrev N_law_dot : List Str := ["_law_near", "_law_far", "_law_x", "_law_y"]
theorem sc_law_dot : FnScope N_law_dot ["_law_near", "_law_far"] (defScope s_law_dot) := ⟨rfl, rfl, rfl, by decide +kernel, rfl, by decide +kernel, by decide +kernel⟩
theorem mk_law_dot {W : Gx} (T : Tx W) {k : Nat} {f : List D → D → Prop} (h : ∀ ds d' G0 H0 σ D', f ds d' → ds.length = 2 → At W G0 H0 (startE N_law_dot ds) σ G0 H0 → Fin0 W G0 H0 d' D' → wSs W (defS N_law_dot (defScope s_law_dot)) k (defBody s_law_dot) D' σ H0) : OkF W (k + 1) "_law_dot" 2 f :=
  by
  refine okF_of T 56 56 (x := "_law_dot") (d := d_law_dot) (N := N_law_dot) (ps := ["_law_near", "_law_far"]) (k := k) (n := 2) (f := f) rfl rfl rfl rfl rfl sc_law_dot rfl ?_ ?_
  · exact (fun _ _ _ _ _ _ us hl => match us, hl with | [_, _], _ => rfl)
  · exact h
abbrev N_law_worth : List Str := ["_law_w", "_law_page_here"]
theorem sc_law_worth : FnScope N_law_worth ["_law_w", "_law_page_here"] (defScope s_law_worth) := ⟨rfl, rfl, rfl, by decide +kernel, rfl, by decide +kernel, by decide +kernel⟩
theorem mk_law_worth {W : Gx} (T : Tx W) {k : Nat} {f : List D → D → Prop} (h : ∀ ds d' G0 H0 σ D', f ds d' → ds.length = 2 → At W G0 H0 (startE N_law_worth ds) σ G0 H0 → Fin0 W G0 H0 d' D' → wSs W (defS N_law_worth (defScope s_law_worth)) k (defBody s_law_worth) D' σ H0) : OkF W (k + 1) "_law_worth" 2 f :=
  by
  refine okF_of T 57 57 (x := "_law_worth") (d := d_law_worth) (N := N_law_worth) (ps := ["_law_w", "_law_page_here"]) (k := k) (n := 2) (f := f) rfl rfl rfl rfl rfl sc_law_worth rfl ?_ ?_
  · exact (fun _ _ _ _ _ _ us hl => match us, hl with | [_, _], _ => rfl)
  · exact h
abbrev N_law_pages : List Str := ["_law_signs", "_law_most", "_law_found", "_law_last", "_law_turn", "_law_longer", "_law_page_here", "_law_sign"]
theorem sc_law_pages : FnScope N_law_pages ["_law_signs", "_law_most"] (defScope s_law_pages) := ⟨rfl, rfl, rfl, by decide +kernel, rfl, by decide +kernel, by decide +kernel⟩
theorem mk_law_pages {W : Gx} (T : Tx W) {k : Nat} {f : List D → D → Prop} (h : ∀ ds d' G0 H0 σ D', f ds d' → ds.length = 2 → At W G0 H0 (startE N_law_pages ds) σ G0 H0 → Fin0 W G0 H0 d' D' → wSs W (defS N_law_pages (defScope s_law_pages)) k (defBody s_law_pages) D' σ H0) : OkF W (k + 1) "_law_pages" 2 f :=
  by
  refine okF_of T 58 58 (x := "_law_pages") (d := d_law_pages) (N := N_law_pages) (ps := ["_law_signs", "_law_most"]) (k := k) (n := 2) (f := f) rfl rfl rfl rfl rfl sc_law_pages rfl ?_ ?_
  · exact (fun _ _ _ _ _ _ us hl => match us, hl with | [_, _], _ => rfl)
  · exact h
abbrev N_law_page : List Str := ["_law_deck_here", "_law_signs", "_law_most", "_law_k"]
theorem sc_law_page : FnScope N_law_page ["_law_deck_here", "_law_signs", "_law_most"] (defScope s_law_page) := ⟨rfl, rfl, rfl, by decide +kernel, rfl, by decide +kernel, by decide +kernel⟩
theorem mk_law_page {W : Gx} (T : Tx W) {k : Nat} {f : List D → D → Prop} (h : ∀ ds d' G0 H0 σ D', f ds d' → ds.length = 3 → At W G0 H0 (startE N_law_page ds) σ G0 H0 → Fin0 W G0 H0 d' D' → wSs W (defS N_law_page (defScope s_law_page)) k (defBody s_law_page) D' σ H0) : OkF W (k + 1) "_law_page" 3 f :=
  by
  refine okF_of T 59 59 (x := "_law_page") (d := d_law_page) (N := N_law_page) (ps := ["_law_deck_here", "_law_signs", "_law_most"]) (k := k) (n := 3) (f := f) rfl rfl rfl rfl rfl sc_law_page rfl ?_ ?_
  · exact (fun _ _ _ _ _ _ us hl => match us, hl with | [_, _, _], _ => rfl)
  · exact h
abbrev N_law_cuts_right : List Str := ["_law_deck_here", "_law_w", "_law_code_here", "_law_page_here", "_law_signs", "_law_due", "_law_lone", "_law_at", "_law_near", "_law_far", "_law_piece", "_law_told", "_law_line_here", "_law_heads", "_law_tails"]
theorem sc_law_cuts_right : FnScope N_law_cuts_right ["_law_deck_here", "_law_w", "_law_code_here"] (defScope s_law_cuts_right) := ⟨rfl, rfl, rfl, by decide +kernel, rfl, by decide +kernel, by decide +kernel⟩
theorem mk_law_cuts_right {W : Gx} (T : Tx W) {k : Nat} {f : List D → D → Prop} (h : ∀ ds d' G0 H0 σ D', f ds d' → ds.length = 3 → At W G0 H0 (startE N_law_cuts_right ds) σ G0 H0 → Fin0 W G0 H0 d' D' → wSs W (defS N_law_cuts_right (defScope s_law_cuts_right)) k (defBody s_law_cuts_right) D' σ H0) : OkF W (k + 1) "_law_cuts_right" 3 f :=
  by
  refine okF_of T 60 60 (x := "_law_cuts_right") (d := d_law_cuts_right) (N := N_law_cuts_right) (ps := ["_law_deck_here", "_law_w", "_law_code_here"]) (k := k) (n := 3) (f := f) rfl rfl rfl rfl rfl sc_law_cuts_right rfl ?_ ?_
  · exact (fun _ _ _ _ _ _ us hl => match us, hl with | [_, _, _], _ => rfl)
  · exact h
abbrev N_law_range_right : List Str := ["_law_deck_here", "_law_w", "_law_code_here", "_law_size", "_law_every", "_law_low", "_law_high", "_law_worths_now", "_law_near", "_law_far", "_law_due", "_law_middle", "_law_parts", "_law_blocks_now", "_law_lone", "_law_total", "_law_ends_now", "_law_page_here"]
theorem sc_law_range_right : FnScope N_law_range_right ["_law_deck_here", "_law_w", "_law_code_here"] (defScope s_law_range_right) := ⟨rfl, rfl, rfl, by decide +kernel, rfl, by decide +kernel, by decide +kernel⟩
theorem mk_law_range_right {W : Gx} (T : Tx W) {k : Nat} {f : List D → D → Prop} (h : ∀ ds d' G0 H0 σ D', f ds d' → ds.length = 3 → At W G0 H0 (startE N_law_range_right ds) σ G0 H0 → Fin0 W G0 H0 d' D' → wSs W (defS N_law_range_right (defScope s_law_range_right)) k (defBody s_law_range_right) D' σ H0) : OkF W (k + 1) "_law_range_right" 3 f :=
  by
  refine okF_of T 61 61 (x := "_law_range_right") (d := d_law_range_right) (N := N_law_range_right) (ps := ["_law_deck_here", "_law_w", "_law_code_here"]) (k := k) (n := 3) (f := f) rfl rfl rfl rfl rfl sc_law_range_right rfl ?_ ?_
  · exact (fun _ _ _ _ _ _ us hl => match us, hl with | [_, _, _], _ => rfl)
  · exact h
abbrev N_law_roll_right : List Str := ["_law_deck_here", "_law_w", "_law_code_here", "_law_size", "_law_every", "_law_worths_now", "_law_due", "_law_signs", "_law_told", "_law_some", "_law_further", "_law_page_here", "_law_before", "_law_least_now", "_law_sign"]
theorem sc_law_roll_right : FnScope N_law_roll_right ["_law_deck_here", "_law_w", "_law_code_here", "_law_size", "_law_every", "_law_worths_now"] (defScope s_law_roll_right) := ⟨rfl, rfl, rfl, by decide +kernel, rfl, by decide +kernel, by decide +kernel⟩
theorem mk_law_roll_right {W : Gx} (T : Tx W) {k : Nat} {f : List D → D → Prop} (h : ∀ ds d' G0 H0 σ D', f ds d' → ds.length = 6 → At W G0 H0 (startE N_law_roll_right ds) σ G0 H0 → Fin0 W G0 H0 d' D' → wSs W (defS N_law_roll_right (defScope s_law_roll_right)) k (defBody s_law_roll_right) D' σ H0) : OkF W (k + 1) "_law_roll_right" 6 f :=
  by
  refine okF_of T 62 62 (x := "_law_roll_right") (d := d_law_roll_right) (N := N_law_roll_right) (ps := ["_law_deck_here", "_law_w", "_law_code_here", "_law_size", "_law_every", "_law_worths_now"]) (k := k) (n := 6) (f := f) rfl rfl rfl rfl rfl sc_law_roll_right rfl ?_ ?_
  · exact (fun _ _ _ _ _ _ us hl => match us, hl with | [_, _, _, _, _, _], _ => rfl)
  · exact h
abbrev N_law : List Str := ["_law_script", "_law_deck_here", "_law_turn", "_law_w", "_law_code_here", "_law_total", "_law_every", "_law_back", "_law_again", "_law_page_here", "_law_k"]
theorem sc_law : FnScope N_law ["_law_script"] (defScope s_law) := ⟨rfl, rfl, rfl, by decide +kernel, rfl, by decide +kernel, by decide +kernel⟩
theorem mk_law {W : Gx} (T : Tx W) {k : Nat} {f : List D → D → Prop} (h : ∀ ds d' G0 H0 σ D', f ds d' → ds.length = 1 → At W G0 H0 (startE N_law ds) σ G0 H0 → Fin0 W G0 H0 d' D' → wSs W (defS N_law (defScope s_law)) k (defBody s_law) D' σ H0) : OkF W (k + 1) "law" 1 f :=
  by
  refine okF_of T 63 63 (x := "law") (d := d_law) (N := N_law) (ps := ["_law_script"]) (k := k) (n := 1) (f := f) rfl rfl rfl rfl rfl sc_law rfl ?_ ?_
  · exact (fun _ _ _ _ _ _ us hl => match us, hl with | [_], _ => rfl)
  · exact h
abbrev N_Tally_init : List Str := ["self", "digits", "start", "tables", "ends"]
theorem sc_Tally_init : FnScope N_Tally_init ["self", "digits", "start", "tables", "ends"] (defScope s_Tally_init) := ⟨rfl, rfl, rfl, by decide +kernel, rfl, by decide +kernel, by decide +kernel⟩
theorem mk_Tally_init {W : Gx} (T : Tx W) {k : Nat} {f : List D → D → Prop} (h : ∀ ds d' G0 H0 σ D', f ds d' → ds.length = 5 → At W G0 H0 (startE N_Tally_init ds) σ G0 H0 → Fin0 W G0 H0 d' D' → wSs W (defS N_Tally_init (defScope s_Tally_init)) k (defBody s_Tally_init) D' σ H0) : OkM W (k + 1) (He.ga W.K "Tally") "__init__" 5 f :=
  by
  refine okM_of T 64 87 85 (x := "Tally") (m := "__init__") (d := d_Tally_init) (N := N_Tally_init) (ps := ["self", "digits", "start", "tables", "ends"]) (k := k) (n := 5) (f := f) rfl rfl rfl rfl rfl rfl sc_Tally_init rfl ?_ ?_
  · exact (fun _ _ _ _ _ _ us hl => match us, hl with | [_, _, _, _, _], _ => rfl)
  · exact h
abbrev N_Tally_len : List Str := ["self"]
theorem sc_Tally_len : FnScope N_Tally_len ["self"] (defScope s_Tally_len) := ⟨rfl, rfl, rfl, by decide +kernel, rfl, by decide +kernel, by decide +kernel⟩
theorem mk_Tally_len {W : Gx} (T : Tx W) {k : Nat} {f : List D → D → Prop} (h : ∀ ds d' G0 H0 σ D', f ds d' → ds.length = 1 → At W G0 H0 (startE N_Tally_len ds) σ G0 H0 → Fin0 W G0 H0 d' D' → wSs W (defS N_Tally_len (defScope s_Tally_len)) k (defBody s_Tally_len) D' σ H0) : OkM W (k + 1) (He.ga W.K "Tally") "__len__" 1 f :=
  by
  refine okM_of T 65 88 85 (x := "Tally") (m := "__len__") (d := d_Tally_len) (N := N_Tally_len) (ps := ["self"]) (k := k) (n := 1) (f := f) rfl rfl rfl rfl rfl rfl sc_Tally_len rfl ?_ ?_
  · exact (fun _ _ _ _ _ _ us hl => match us, hl with | [_], _ => rfl)
  · exact h
abbrev N_Tally_eq : List Str := ["self", "other"]
theorem sc_Tally_eq : FnScope N_Tally_eq ["self", "other"] (defScope s_Tally_eq) := ⟨rfl, rfl, rfl, by decide +kernel, rfl, by decide +kernel, by decide +kernel⟩
theorem mk_Tally_eq {W : Gx} (T : Tx W) {k : Nat} {f : List D → D → Prop} (h : ∀ ds d' G0 H0 σ D', f ds d' → ds.length = 2 → At W G0 H0 (startE N_Tally_eq ds) σ G0 H0 → Fin0 W G0 H0 d' D' → wSs W (defS N_Tally_eq (defScope s_Tally_eq)) k (defBody s_Tally_eq) D' σ H0) : OkM W (k + 1) (He.ga W.K "Tally") "__eq__" 2 f :=
  by
  refine okM_of T 66 89 85 (x := "Tally") (m := "__eq__") (d := d_Tally_eq) (N := N_Tally_eq) (ps := ["self", "other"]) (k := k) (n := 2) (f := f) rfl rfl rfl rfl rfl rfl sc_Tally_eq rfl ?_ ?_
  · exact (fun _ _ _ _ _ _ us hl => match us, hl with | [_, _], _ => rfl)
  · exact h
abbrev N_Tally_step : List Str := ["self", "row", "digit"]
theorem sc_Tally_step : FnScope N_Tally_step ["self", "row", "digit"] (defScope s_Tally_step) := ⟨rfl, rfl, rfl, by decide +kernel, rfl, by decide +kernel, by decide +kernel⟩
theorem mk_Tally_step {W : Gx} (T : Tx W) {k : Nat} {f : List D → D → Prop} (h : ∀ ds d' G0 H0 σ D', f ds d' → ds.length = 3 → At W G0 H0 (startE N_Tally_step ds) σ G0 H0 → Fin0 W G0 H0 d' D' → wSs W (defS N_Tally_step (defScope s_Tally_step)) k (defBody s_Tally_step) D' σ H0) : OkM W (k + 1) (He.ga W.K "Tally") "step" 3 f :=
  by
  refine okM_of T 67 90 85 (x := "Tally") (m := "step") (d := d_Tally_step) (N := N_Tally_step) (ps := ["self", "row", "digit"]) (k := k) (n := 3) (f := f) rfl rfl rfl rfl rfl rfl sc_Tally_step rfl ?_ ?_
  · exact (fun _ _ _ _ _ _ us hl => match us, hl with | [_, _, _], _ => rfl)
  · exact h
abbrev N_Tally_row : List Str := ["self", "ticket", "row", "digit"]
theorem sc_Tally_row : FnScope N_Tally_row ["self", "ticket"] (defScope s_Tally_row) := ⟨rfl, rfl, rfl, by decide +kernel, rfl, by decide +kernel, by decide +kernel⟩
theorem mk_Tally_row {W : Gx} (T : Tx W) {k : Nat} {f : List D → D → Prop} (h : ∀ ds d' G0 H0 σ D', f ds d' → ds.length = 2 → At W G0 H0 (startE N_Tally_row ds) σ G0 H0 → Fin0 W G0 H0 d' D' → wSs W (defS N_Tally_row (defScope s_Tally_row)) k (defBody s_Tally_row) D' σ H0) : OkM W (k + 1) (He.ga W.K "Tally") "row" 2 f :=
  by
  refine okM_of T 68 91 85 (x := "Tally") (m := "row") (d := d_Tally_row) (N := N_Tally_row) (ps := ["self", "ticket"]) (k := k) (n := 2) (f := f) rfl rfl rfl rfl rfl rfl sc_Tally_row rfl ?_ ?_
  · exact (fun _ _ _ _ _ _ us hl => match us, hl with | [_, _], _ => rfl)
  · exact h
abbrev N_Tally_worth : List Str := ["self", "ticket"]
theorem sc_Tally_worth : FnScope N_Tally_worth ["self", "ticket"] (defScope s_Tally_worth) := ⟨rfl, rfl, rfl, by decide +kernel, rfl, by decide +kernel, by decide +kernel⟩
theorem mk_Tally_worth {W : Gx} (T : Tx W) {k : Nat} {f : List D → D → Prop} (h : ∀ ds d' G0 H0 σ D', f ds d' → ds.length = 2 → At W G0 H0 (startE N_Tally_worth ds) σ G0 H0 → Fin0 W G0 H0 d' D' → wSs W (defS N_Tally_worth (defScope s_Tally_worth)) k (defBody s_Tally_worth) D' σ H0) : OkM W (k + 1) (He.ga W.K "Tally") "worth" 2 f :=
  by
  refine okM_of T 69 92 85 (x := "Tally") (m := "worth") (d := d_Tally_worth) (N := N_Tally_worth) (ps := ["self", "ticket"]) (k := k) (n := 2) (f := f) rfl rfl rfl rfl rfl rfl sc_Tally_worth rfl ?_ ?_
  · exact (fun _ _ _ _ _ _ us hl => match us, hl with | [_, _], _ => rfl)
  · exact h
abbrev N_Tally_table : List Str := ["self", "ticket", "table", "digit"]
theorem sc_Tally_table : FnScope N_Tally_table ["self", "ticket"] (defScope s_Tally_table) := ⟨rfl, rfl, rfl, by decide +kernel, rfl, by decide +kernel, by decide +kernel⟩
theorem mk_Tally_table {W : Gx} (T : Tx W) {k : Nat} {f : List D → D → Prop} (h : ∀ ds d' G0 H0 σ D', f ds d' → ds.length = 2 → At W G0 H0 (startE N_Tally_table ds) σ G0 H0 → Fin0 W G0 H0 d' D' → wSs W (defS N_Tally_table (defScope s_Tally_table)) k (defBody s_Tally_table) D' σ H0) : OkM W (k + 1) (He.ga W.K "Tally") "table" 2 f :=
  by
  refine okM_of T 70 93 85 (x := "Tally") (m := "table") (d := d_Tally_table) (N := N_Tally_table) (ps := ["self", "ticket"]) (k := k) (n := 2) (f := f) rfl rfl rfl rfl rfl rfl sc_Tally_table rfl ?_ ?_
  · exact (fun _ _ _ _ _ _ us hl => match us, hl with | [_, _], _ => rfl)
  · exact h
abbrev N_Rewriter_init : List Str := ["self", "digits", "written", "size", "moves", "ends", "move", "end"]
theorem sc_Rewriter_init : FnScope N_Rewriter_init ["self", "digits", "written", "size", "moves", "ends"] (defScope s_Rewriter_init) := ⟨rfl, rfl, rfl, by decide +kernel, rfl, by decide +kernel, by decide +kernel⟩
theorem mk_Rewriter_init {W : Gx} (T : Tx W) {k : Nat} {f : List D → D → Prop} (h : ∀ ds d' G0 H0 σ D', f ds d' → ds.length = 6 → At W G0 H0 (startE N_Rewriter_init ds) σ G0 H0 → Fin0 W G0 H0 d' D' → wSs W (defS N_Rewriter_init (defScope s_Rewriter_init)) k (defBody s_Rewriter_init) D' σ H0) : OkM W (k + 1) (He.ga W.K "Rewriter") "__init__" 6 f :=
  by
  refine okM_of T 71 101 99 (x := "Rewriter") (m := "__init__") (d := d_Rewriter_init) (N := N_Rewriter_init) (ps := ["self", "digits", "written", "size", "moves", "ends"]) (k := k) (n := 6) (f := f) rfl rfl rfl rfl rfl rfl sc_Rewriter_init rfl ?_ ?_
  · exact (fun _ _ _ _ _ _ us hl => match us, hl with | [_, _, _, _, _, _], _ => rfl)
  · exact h
abbrev N_Rewriter_moves_from : List Str := ["self", "state", "digit"]
theorem sc_Rewriter_moves_from : FnScope N_Rewriter_moves_from ["self", "state", "digit"] (defScope s_Rewriter_moves_from) := ⟨rfl, rfl, rfl, by decide +kernel, rfl, by decide +kernel, by decide +kernel⟩
theorem mk_Rewriter_moves_from {W : Gx} (T : Tx W) {k : Nat} {f : List D → D → Prop} (h : ∀ ds d' G0 H0 σ D', f ds d' → ds.length = 3 → At W G0 H0 (startE N_Rewriter_moves_from ds) σ G0 H0 → Fin0 W G0 H0 d' D' → wSs W (defS N_Rewriter_moves_from (defScope s_Rewriter_moves_from)) k (defBody s_Rewriter_moves_from) D' σ H0) : OkM W (k + 1) (He.ga W.K "Rewriter") "moves_from" 3 f :=
  by
  refine okM_of T 72 102 99 (x := "Rewriter") (m := "moves_from") (d := d_Rewriter_moves_from) (N := N_Rewriter_moves_from) (ps := ["self", "state", "digit"]) (k := k) (n := 3) (f := f) rfl rfl rfl rfl rfl rfl sc_Rewriter_moves_from rfl ?_ ?_
  · exact (fun _ _ _ _ _ _ us hl => match us, hl with | [_, _, _], _ => rfl)
  · exact h
abbrev N_Piece_init : List Str := ["self", "tally", "ticket"]
theorem sc_Piece_init : FnScope N_Piece_init ["self", "tally", "ticket"] (defScope s_Piece_init) := ⟨rfl, rfl, rfl, by decide +kernel, rfl, by decide +kernel, by decide +kernel⟩
theorem mk_Piece_init {W : Gx} (T : Tx W) {k : Nat} {f : List D → D → Prop} (h : ∀ ds d' G0 H0 σ D', f ds d' → ds.length = 3 → At W G0 H0 (startE N_Piece_init ds) σ G0 H0 → Fin0 W G0 H0 d' D' → wSs W (defS N_Piece_init (defScope s_Piece_init)) k (defBody s_Piece_init) D' σ H0) : OkM W (k + 1) (He.ga W.K "Piece") "__init__" 3 f :=
  by
  refine okM_of T 73 111 109 (x := "Piece") (m := "__init__") (d := d_Piece_init) (N := N_Piece_init) (ps := ["self", "tally", "ticket"]) (k := k) (n := 3) (f := f) rfl rfl rfl rfl rfl rfl sc_Piece_init rfl ?_ ?_
  · exact (fun _ _ _ _ _ _ us hl => match us, hl with | [_, _, _], _ => rfl)
  · exact h
abbrev N_Piece_joined : List Str := ["self", "other", "made"]
theorem sc_Piece_joined : FnScope N_Piece_joined ["self", "other"] (defScope s_Piece_joined) := ⟨rfl, rfl, rfl, by decide +kernel, rfl, by decide +kernel, by decide +kernel⟩
theorem mk_Piece_joined {W : Gx} (T : Tx W) {k : Nat} {f : List D → D → Prop} (h : ∀ ds d' G0 H0 σ D', f ds d' → ds.length = 2 → At W G0 H0 (startE N_Piece_joined ds) σ G0 H0 → Fin0 W G0 H0 d' D' → wSs W (defS N_Piece_joined (defScope s_Piece_joined)) k (defBody s_Piece_joined) D' σ H0) : OkM W (k + 1) (He.ga W.K "Piece") "joined" 2 f :=
  by
  refine okM_of T 74 112 109 (x := "Piece") (m := "joined") (d := d_Piece_joined) (N := N_Piece_joined) (ps := ["self", "other"]) (k := k) (n := 2) (f := f) rfl rfl rfl rfl rfl rfl sc_Piece_joined rfl ?_ ?_
  · exact (fun _ _ _ _ _ _ us hl => match us, hl with | [_, _], _ => rfl)
  · exact h
abbrev N_Piece_led : List Str := ["self", "row"]
theorem sc_Piece_led : FnScope N_Piece_led ["self", "row"] (defScope s_Piece_led) := ⟨rfl, rfl, rfl, by decide +kernel, rfl, by decide +kernel, by decide +kernel⟩
theorem mk_Piece_led {W : Gx} (T : Tx W) {k : Nat} {f : List D → D → Prop} (h : ∀ ds d' G0 H0 σ D', f ds d' → ds.length = 2 → At W G0 H0 (startE N_Piece_led ds) σ G0 H0 → Fin0 W G0 H0 d' D' → wSs W (defS N_Piece_led (defScope s_Piece_led)) k (defBody s_Piece_led) D' σ H0) : OkM W (k + 1) (He.ga W.K "Piece") "led" 2 f :=
  by
  refine okM_of T 75 113 109 (x := "Piece") (m := "led") (d := d_Piece_led) (N := N_Piece_led) (ps := ["self", "row"]) (k := k) (n := 2) (f := f) rfl rfl rfl rfl rfl rfl sc_Piece_led rfl ?_ ?_
  · exact (fun _ _ _ _ _ _ us hl => match us, hl with | [_, _], _ => rfl)
  · exact h
end TH
set_option maxHeartbeats 4000000
namespace PySem
open Sem (wp)
abbrev IsZipS (h : Heap) (z TI TO : Addr) (f0 : Value) : Prop :=
  h.get? z = some { cls := .type "zip", dict := none, data := .fields #[f0, .bool false, .bool true, .ref TI, .ref TO], slots := #[] }
section
variable {prog : Program} {w : World} {A : Around} {E : Value → Shared → Prop} {s : Shared} {z TI TO i1 i2 : Addr} {fp1 fp2 : List Addr} {n1 n2 i : Nat} {P1 P2 : Nat → Value → Prop} {St1 St2 : Nat → Heap → Prop} {a1 a2 : Value}
theorem zipS_next_item {Q : Value → Shared → Prop} (S : ZipSep2 z TI TO i1 i2 fp1 fp2) (D1 : Draws prog w A i1 fp1 n1 P1 St1) (D2 : Draws prog w A i2 fp2 n2 P2 St2)
    (hz : IsZipS s.heap z TI TO .none) (hTI : IsTupOf2 s.heap TI (.ref i1) (.ref i2)) (hTO : IsTupOf2 s.heap TO a1 a2) (st1 : St1 i s.heap) (st2 : St2 i s.heap) (hlt1 : i < n1) (hlt2 : i < n2)
    (hQ : ∀ x1 x2 h' tk, P1 i x1 → P2 i x2 → IsZipS h' z TI TO (rawInt s.heap.objs.size) → IsTupOf2 h' TO x1 x2 → St1 (i + 1) h' → St2 (i + 1) h' → IsTupOf2 h' s.heap.objs.size x1 x2 → h'.objs.size = s.heap.objs.size + 1 →
      (∀ c o, c ≠ z → c ≠ TO → c ≠ i1 → c ≠ i2 → s.heap.get? c = some o → h'.get? c = some o) → Q (.ref s.heap.objs.size) { s with heap := h', toks := tk }) :
    wpAny (model prog w) A (Builtin.«zip.__next__» ⟨[.ref z], []⟩) (fun fin s' => ∃ v, fin = .done (.ret v) ∧ Q v s') E s := by
  obtain ⟨hp, g, d, tk0, os⟩ := s
  show wpAny _ _ (field (.ref z) 2 >>= _) _ _ _
  refine wpAny_bind (wpAny_field hz rfl (x := .bool true) rfl ?_)
  show wpAny _ _ (field (.ref z) 3 >>= _) _ _ _
  refine wpAny_bind (wpAny_field hz rfl (x := .ref TI) rfl ?_)
  refine wpAny_bind (wpAny_seqItems hTI rfl ?_)
  show wpAny _ _ (Builtin.SmallTypes.ownedTupleIsFree (.ref z) >>= _) _ _ _
  refine wpAny_bind ?_
  unfold Builtin.SmallTypes.ownedTupleIsFree
  refine wpAny_bind (wpAny_field hz rfl (x := .none) rfl (wpAny_pure ?_))
  simp only [if_true]
  refine wpAny_bind (wpAny_rule ?_)
  refine wpAny_bind (wpAny_field hz rfl (x := .ref TO) rfl ?_)
  refine wpAny_bind (wpAny_setField_rec hz (by simp) fun g0 hz0 hs0 => ?_)
  replace hz0 : IsZipS g0 z TI TO .ellipsis := hz0
  replace hs0 : Heap.SameBut z hp g0 := hs0
  refine wpAny_bind ?_
  simp only [List.zipIdx_cons, List.zipIdx_nil, List.forIn_cons, List.forIn_nil]
  refine wpAny_bind (wpAny_bind (wpAny_onRaise ?_))
  show wpAny _ _ (Builtin.SmallTypes.nextOrEnd (.ref i1)) _ _ ⟨g0, g, d, tk0, os⟩
  unfold Builtin.SmallTypes.nextOrEnd
  refine wpAny_bind (wpAny_attempt (D1.item i _ _ _ hlt1 (D1.over st1 hs0 S.zf1) fun x1 p1 tk1 hx1 sn1 hp1 => wpAny_pure ?_))
  replace hp1 : Heap.SameBut i1 g0 p1 := hp1
  have hU1 : IsTupOf2 p1 TO a1 a2 := hp1.extBut _ _ S.Ti1 (hs0.extBut _ _ S.TOz hTO)
  refine wpAny_bind (wpAny_seqItems (s := ⟨p1, g, d, tk1, os⟩) hU1 rfl ?_)
  refine wpAny_bind (updateSeq_IsTupOf2 (s := ⟨p1, g, d, tk1, os⟩) hU1 fun g1 hT1 hs1 => ?_)
  replace hT1 : IsTupOf2 g1 TO x1 a2 := hT1
  replace hs1 : Heap.SameBut TO p1 g1 := hs1
  refine wpAny_bind (wpAny_letGo (wpAny_pure ?_))
  refine wpAny_bind (wpAny_bind (wpAny_onRaise ?_))
  show wpAny _ _ (Builtin.SmallTypes.nextOrEnd (.ref i2)) _ _ ⟨g1, g, d, tk1, os⟩
  unfold Builtin.SmallTypes.nextOrEnd
  refine wpAny_bind (wpAny_attempt (D2.item i _ _ _ hlt2 (D2.over (D2.over (D2.over st2 hs0 S.zf2) hp1 S.sep1_2) hs1 S.Tf2) fun x2 p2 tk2 hx2 sn2 hp2 => wpAny_pure ?_))
  replace hp2 : Heap.SameBut i2 g1 p2 := hp2
  have hU2 : IsTupOf2 p2 TO x1 a2 := hp2.extBut _ _ S.Ti2 hT1
  refine wpAny_bind (wpAny_seqItems (s := ⟨p2, g, d, tk2, os⟩) hU2 rfl ?_)
  refine wpAny_bind (updateSeq_IsTupOf2 (s := ⟨p2, g, d, tk2, os⟩) hU2 fun g2 hT2 hs2 => ?_)
  replace hT2 : IsTupOf2 g2 TO x1 x2 := hT2
  replace hs2 : Heap.SameBut TO p2 g2 := hs2
  refine wpAny_bind (wpAny_letGo (wpAny_pure (wpAny_pure ?_)))
  refine wpAny_bind (wpAny_seqItems (s := ⟨g2, g, d, tk2, os⟩) hT2 rfl ?_)
  refine wpAny_bind (wpAny_newTuple ?_)
  have hsz : g2.objs.size = hp.objs.size := by rw [hs2.1, hp2.1, hs1.1, hp1.1, hs0.1]
  have hzz : IsZipS g2 z TI TO .ellipsis := (hs2.extBut _ _ S.TOz.symm (hp2.extBut _ _ S.zi2 (hs1.extBut _ _ S.TOz.symm (hp1.extBut _ _ S.zi1 hz0))))
  have hkk : ∀ c o, c ≠ z → c ≠ TO → c ≠ i1 → c ≠ i2 → hp.get? c = some o → g2.get? c = some o := fun c o cz cT c1 c2 e =>
    (hs2.extBut _ _ cT (hp2.extBut _ _ c2 (hs1.extBut _ _ cT (hp1.extBut _ _ c1 (hs0.extBut _ _ cz e)))))
  have hj1 : St1 (i + 1) g2 := (D1.over (D1.over (D1.over sn1 hs1 S.Tf1) hp2 S.sep2_1) hs2 S.Tf1)
  have hj2 : St2 (i + 1) g2 := (D2.over sn2 hs2 S.Tf2)
  have hzlt : z < g2.objs.size := Heap.lt_size hzz
  show wpAny _ _ (Builtin.SmallTypes.ownedTupleHandOut (.ref z) (.ref g2.objs.size) >>= _) _ _ ⟨g2.push { cls := .type "tuple", data := .seq #[x1, x2] }, g, d, tk2, os⟩
  refine wpAny_bind ?_
  unfold Builtin.SmallTypes.ownedTupleHandOut
  have hz₆ : IsZipS (g2.push { cls := .type "tuple", data := .seq #[x1, x2] }) z TI TO .ellipsis := Heap.get?_push_of_some _ hzz
  refine wpAny_bind (wpAny_setField_rec hz₆ (by simp) fun h₇ hz₇ hs₇ => ?_)
  replace hz₇ : IsZipS h₇ z TI TO (rawInt g2.objs.size) := hz₇
  refine wpAny_setField_rec hz₇ (by simp) fun h₈ hz₈ hs₈ => ?_
  replace hz₈ : IsZipS h₈ z TI TO (rawInt g2.objs.size) := hz₈
  replace hs₇ : Heap.SameBut z (g2.push { cls := .type "tuple", data := .seq #[x1, x2] }) h₇ := hs₇
  replace hs₈ : Heap.SameBut z h₇ h₈ := hs₈
  have up : ∀ c o, c ≠ z → g2.get? c = some o → h₈.get? c = some o := fun c o c1 e => hs₈.extBut _ _ c1 (hs₇.extBut _ _ c1 (Heap.get?_push_of_some _ e))
  have hT₈ : IsTupOf2 h₈ g2.objs.size x1 x2 := hs₈.extBut _ _ (Nat.ne_of_gt hzlt) (hs₇.extBut _ _ (Nat.ne_of_gt hzlt) (Heap.get?_push_size _ rfl))
  have hz8 : h₈.objs.size = g2.objs.size + 1 := by rw [hs₈.1, hs₇.1, Heap.size_push]
  rw [hsz] at hz₈ hT₈ hz8
  refine wpAny_pure ⟨_, rfl, ?_⟩
  show Q (.ref g2.objs.size) ⟨h₈, g, d, tk2, os⟩
  rw [hsz]
  exact hQ x1 x2 h₈ tk2 hx1 hx2 hz₈ (up _ _ S.TOz hT2) (D1.frame _ _ _ hj1 fun b hb o e => up b o (fun q => S.zf1 (q ▸ hb)) e) (D2.frame _ _ _ hj2 fun b hb o e => up b o (fun q => S.zf2 (q ▸ hb)) e) hT₈ hz8 fun c o cz cT c1 c2 e => up c o cz (hkk c o cz cT c1 c2 e)
/-- the end: both are at their end -/
theorem zipS_next_end {Q : Fin → Shared → Prop} (hh : A.handled = none) (S : ZipSep2 z TI TO i1 i2 fp1 fp2) (D1 : Draws prog w A i1 fp1 n1 P1 St1) (D2 : Draws prog w A i2 fp2 n2 P2 St2)
    (hz : IsZipS s.heap z TI TO .none) (hTI : IsTupOf2 s.heap TI (.ref i1) (.ref i2)) (hTO : IsTupOf2 s.heap TO a1 a2) (st1 : St1 n1 s.heap) (st2 : St2 n2 s.heap)
    (hE : ∀ h' tk e, (∀ c o, c ≠ z → c ≠ TO → c ≠ i1 → c ≠ i2 → s.heap.get? c = some o → h'.get? c = some o) → (∃ o, h'.get? e = some o ∧ o.cls = .type "StopIteration") → E (.ref e) { s with heap := h', toks := tk }) :
    wpAny (model prog w) A (Builtin.«zip.__next__» ⟨[.ref z], []⟩) Q E s := by
  obtain ⟨hp, g, d, tk0, os⟩ := s
  show wpAny _ _ (field (.ref z) 2 >>= _) _ _ _
  refine wpAny_bind (wpAny_field hz rfl (x := .bool true) rfl ?_)
  show wpAny _ _ (field (.ref z) 3 >>= _) _ _ _
  refine wpAny_bind (wpAny_field hz rfl (x := .ref TI) rfl ?_)
  refine wpAny_bind (wpAny_seqItems hTI rfl ?_)
  show wpAny _ _ (Builtin.SmallTypes.ownedTupleIsFree (.ref z) >>= _) _ _ _
  refine wpAny_bind ?_
  unfold Builtin.SmallTypes.ownedTupleIsFree
  refine wpAny_bind (wpAny_field hz rfl (x := .none) rfl (wpAny_pure ?_))
  simp only [if_true]
  refine wpAny_bind (wpAny_rule ?_)
  refine wpAny_bind (wpAny_field hz rfl (x := .ref TO) rfl ?_)
  refine wpAny_bind (wpAny_setField_rec hz (by simp) fun g0 hz0 hs0 => ?_)
  replace hz0 : IsZipS g0 z TI TO .ellipsis := hz0
  replace hs0 : Heap.SameBut z hp g0 := hs0
  refine wpAny_bind ?_
  simp only [List.zipIdx_cons, List.zipIdx_nil, List.forIn_cons, List.forIn_nil]
  refine wpAny_bind (wpAny_bind (wpAny_onRaise ?_))
  show wpAny _ _ (Builtin.SmallTypes.nextOrEnd (.ref i1)) _ _ ⟨g0, g, d, tk0, os⟩
  unfold Builtin.SmallTypes.nextOrEnd
  refine wpAny_bind (wpAny_attempt (D1.done ⟨g0, g, d, tk0, os⟩ _ _ (D1.over st1 hs0 S.zf1) fun q e hq he => ?_))
  replace hq : Heap.ExtBut i1 g0 q := hq
  obtain ⟨oe, hoe, hce⟩ := he
  replace hoe : q.get? e = some oe := hoe
  refine wpAny_bind (wpAny_isInstance (T := "StopIteration") (b := true) ⟨oe, hoe, hce⟩ isSubtype_stop ?_)
  refine wpAny_pure ?_
  have hzq : IsZipS q z TI TO .ellipsis := hq _ _ S.zi1 hz0
  refine wpAny_bind (wpAny_setField_rec (s := ⟨q, g, d, tk0, os⟩) hzq (by simp) fun q' hzq' hq' => ?_)
  replace hq' : Heap.SameBut z q q' := hq'
  have st2' : St2 n2 q' := D2.frame _ _ _ st2 fun b hb o x => hq'.extBut b o (fun e => S.zf2 (e ▸ hb)) (hq b o (fun e => S.sep1_2 (e ▸ hb)) (hs0.extBut b o (fun e => S.zf2 (e ▸ hb)) x))
  refine wpAny_bind ?_
  refine wpAny_bind (m := forIn (([(Value.ref i1), (Value.ref i2)].drop 1).zipIdx 1) PUnit.unit _) ?_
  simp only [List.drop, List.zipIdx_cons, List.zipIdx_nil, List.forIn_cons, List.forIn_nil]
  refine wpAny_bind (wpAny_bind ?_)
  unfold Builtin.SmallTypes.nextOrEnd
  refine wpAny_bind (wpAny_attempt (D2.done ⟨q', g, d, tk0, os⟩ _ _ st2' fun r e2 hr he2 => ?_))
  replace hr : Heap.ExtBut i2 q' r := hr
  obtain ⟨oe2, hoe2, hce2⟩ := he2
  replace hoe2 : r.get? e2 = some oe2 := hoe2
  refine wpAny_bind (wpAny_isInstance (T := "StopIteration") (b := true) ⟨oe2, hoe2, hce2⟩ isSubtype_stop ?_)
  refine wpAny_pure ?_
  show wpAny _ _ (pure (ForInStep.yield PUnit.unit)) _ _ _
  refine wpAny_pure (wpAny_pure ?_)
  refine wpAny_bind (wpAny_rule ?_)
  unfold Builtin.SmallTypes.stopIteration
  refine wpAny_bind ?_
  simp only [newExc, newTuple]
  refine wpAny_bind (wpAny_newObj_type ?_ (by size_fits))
  refine wpAny_bind (m := firstArgMember _ _) (wpAny_of_eq (a := Value.none) (by first | rfl | (simp only [firstArgMember]; rfl)) ?_)
  refine wpAny_newObj_type ?_ (by size_fits)
  simp only [raiseNew]
  refine wpAny_bind (wpAny_handled ?_)
  rw [hh]
  refine wpAny_bind (wpAny_pure (wpAny_throw ?_))
  exact hE _ _ _ (fun c o cz cT c1 c2 x => Heap.get?_push_of_some _ (Heap.get?_push_of_some _ (hr _ _ c2 (hq'.extBut _ _ cz (hq _ _ c1 (hs0.extBut _ _ cz x)))))) ⟨_, Heap.get?_push_size _ rfl, rfl⟩
theorem wpAny_pyNext_zipS_item {Q : Option Value → Shared → Prop} (S : ZipSep2 z TI TO i1 i2 fp1 fp2) (D1 : Draws prog w A.in1 i1 fp1 n1 P1 St1) (D2 : Draws prog w A.in1 i2 fp2 n2 P2 St2)
    (hz : IsZipS s.heap z TI TO .none) (hTI : IsTupOf2 s.heap TI (.ref i1) (.ref i2)) (hTO : IsTupOf2 s.heap TO a1 a2) (st1 : St1 i s.heap) (st2 : St2 i s.heap) (hlt1 : i < n1) (hlt2 : i < n2)
    (hQ : ∀ x1 x2 h' tk, P1 i x1 → P2 i x2 → IsZipS h' z TI TO (rawInt s.heap.objs.size) → IsTupOf2 h' TO x1 x2 → St1 (i + 1) h' → St2 (i + 1) h' → IsTupOf2 h' s.heap.objs.size x1 x2 → h'.objs.size = s.heap.objs.size + 1 →
      (∀ c o, c ≠ z → c ≠ TO → c ≠ i1 → c ≠ i2 → s.heap.get? c = some o → h'.get? c = some o) → Q (some (.ref s.heap.objs.size)) { s with heap := h', toks := tk }) :
    wpAny (model prog w) A (pyNext (.ref z)) Q E s := by
  have hT : s.TypeIs (.ref z) "zip" := ⟨_, hz, rfl⟩
  unfold pyNext
  exact wpAny_bind (wpAny_attempt (wpAny_callSpecial?_slot (name := Str.ofString "__next__") hT F.slot_zip_next
    (wpAny_call_entry F.slot_zip_next hT F.entry_zip_next
      (zipS_next_item S D1 D2 hz hTI hTO st1 st2 hlt1 hlt2 fun x1 x2 h' tk y1 y2 b1 b2 d1 d2 b5 b6 b7 => wpAny_pure (hQ x1 x2 h' tk y1 y2 b1 b2 d1 d2 b5 b6 b7)) (F.args_zip_next_1 _))))
theorem wpAny_pyNext_zipS_end {Q : Option Value → Shared → Prop} (hh : A.handled = none) (S : ZipSep2 z TI TO i1 i2 fp1 fp2) (D1 : Draws prog w A.in1 i1 fp1 n1 P1 St1) (D2 : Draws prog w A.in1 i2 fp2 n2 P2 St2)
    (hz : IsZipS s.heap z TI TO .none) (hTI : IsTupOf2 s.heap TI (.ref i1) (.ref i2)) (hTO : IsTupOf2 s.heap TO a1 a2) (st1 : St1 n1 s.heap) (st2 : St2 n2 s.heap)
    (hQ : ∀ h' tk, (∀ c o, c ≠ z → c ≠ TO → c ≠ i1 → c ≠ i2 → s.heap.get? c = some o → h'.get? c = some o) → Q none { s with heap := h', toks := tk }) : wpAny (model prog w) A (pyNext (.ref z)) Q E s := by
  have hT : s.TypeIs (.ref z) "zip" := ⟨_, hz, rfl⟩
  unfold pyNext
  refine wpAny_bind (wpAny_attempt (wpAny_callSpecial?_slot (name := Str.ofString "__next__") hT F.slot_zip_next
    (wpAny_call_entry F.slot_zip_next hT F.entry_zip_next (zipS_next_end (show A.in1.handled = none from hh) S D1 D2 hz hTI hTO st1 st2 fun h' tk e hk he => ?_) (F.args_zip_next_1 _))))
  obtain ⟨o, ho, hc⟩ := he
  refine wpAny_bind (wpAny_isInstance (T := "StopIteration") (b := true) ⟨o, ho, hc⟩ isSubtype_stop ?_)
  exact wpAny_pure (hQ _ _ hk)
end
namespace F
theorem typeCall_zip_S (a b c : Value) : checkTypeCall "zip" ⟨[a, b], [(Str.ofString "strict", c)]⟩ = pure () := by kernel_rfl
theorem newCall_zip_S (a b c : Value) : checkBuiltinCall "zip.__new__" ⟨[.type "zip", a, b], [(Str.ofString "strict", c)]⟩ = pure () := by kernel_rfl
theorem args_object_init_S (obj a b c : Value) : argsOk "object.__init__" ⟨[obj, a, b], [(Str.ofString "strict", c)]⟩ := by unfold argsOk; kernel_rfl
end F
abbrev gzZS (h : Heap) (o1 o2 : Obj) : Heap := (gzO2 h o1 o2).push { cls := .type "zip", data := .fields #[.none, .bool false, .bool true, .ref ((h.push o1).push o2).objs.size, .ref (gzT2 h o1 o2).objs.size] }
theorem meets_zip_newS {v1 v2 : Value} {o1 o2 : Obj} {H1 H2 : Heap → Prop} (B1 : Begins v1 o1 H1) (B2 : Begins v2 o2 H2) :
    Meets (Builtin.«zip.__new__» ⟨[.type "zip", v1, v2], [(Str.ofString "strict", .bool true)]⟩) (fun _ R s => (H1 s.heap ∧ H2 s.heap) ∧
      R (.ok (.ret (.ref (gzO2 s.heap o1 o2).objs.size))) { s with heap := gzZS s.heap o1 o2 }) :=
  .of_wp fun prog w A R s h => by
    obtain ⟨hp, g, d, tk, os⟩ := s; obtain ⟨⟨h1, h2⟩, h⟩ := h
    have hsub := sub_zip
    have q1 : ∀ {A' : Around} {E : Value → Shared → Prop} {Q : Value → Shared → Prop}, Q (.ref hp.objs.size) ⟨(hp.push o1), g, d, tk, os⟩ → wpAny (model prog w) A' (pyIter v1) Q E ⟨hp, g, d, tk, os⟩ :=
      fun q => B1.iter prog w _ _ ⟨hp, g, d, tk, os⟩ _ (B1.keeps _ _ h1 fun b o' e => e) q
    have q2 : ∀ {A' : Around} {E : Value → Shared → Prop} {Q : Value → Shared → Prop}, Q (.ref (hp.push o1).objs.size) ⟨((hp.push o1).push o2), g, d, tk, os⟩ → wpAny (model prog w) A' (pyIter v2) Q E ⟨(hp.push o1), g, d, tk, os⟩ :=
      fun q => B2.iter prog w _ _ ⟨(hp.push o1), g, d, tk, os⟩ _ (B2.keeps _ _ h2 fun b o' e => (Heap.get?_push_of_some _ e)) q
    have e1 : (Str.ofString "strict" != ("strict" : Str)) = false := by decide +kernel
    wp_walk using q1, q2
    exact ⟨_, rfl, h⟩
section
variable {prog : Program} {w : World} {A : Around} {E : Value → Shared → Prop} {s : Shared}
theorem zip_beginsS {v1 v2 : Value} {o1 o2 : Obj} {H1 H2 : Heap → Prop} {Q : Value → Shared → Prop} (B1 : Begins v1 o1 H1) (B2 : Begins v2 o2 H2) (h1 : H1 s.heap) (h2 : H2 s.heap)
    (h : ∀ h', IsZipS h' (s.heap.objs.size + 4) (s.heap.objs.size + 2) (s.heap.objs.size + 3) .none → IsTupOf2 h' (s.heap.objs.size + 2) (.ref s.heap.objs.size) (.ref (s.heap.objs.size + 1)) →
      IsTupOf2 h' (s.heap.objs.size + 3) .none .none → h'.get? s.heap.objs.size = some o1 → h'.get? (s.heap.objs.size + 1) = some o2 → h'.objs.size = s.heap.objs.size + 5 →
      (∀ c o, s.heap.get? c = some o → h'.get? c = some o) → Q (.ref (s.heap.objs.size + 4)) { s with heap := h' }) :
    wpAny (model prog w) A (call (.type "zip") [v1, v2] [(Str.ofString "strict", .bool true)]) Q E s := by
  refine callType_newKw F.called_zip (by decide) (F.typeCall_zip_S _ _ _) (F.newCall_zip_S _ _ _) (fun obj => F.args_object_init_S obj _ _ _) F.entry_zip_new
    (meets_zip_newS B1 B2) ⟨⟨h1, h2⟩, ?_⟩
  have z1 : (s.heap.push o1).objs.size = s.heap.objs.size + 1 := by rw [Heap.size_push]
  have z2 : ((s.heap.push o1).push o2).objs.size = s.heap.objs.size + 2 := by rw [Heap.size_push, z1]
  have zT : (gzT2 s.heap o1 o2).objs.size = s.heap.objs.size + 3 := by rw [Heap.size_push, z2]
  have zO : (gzO2 s.heap o1 o2).objs.size = s.heap.objs.size + 4 := by rw [Heap.size_push, zT]
  have zZ : (gzZS s.heap o1 o2).objs.size = s.heap.objs.size + 5 := by rw [Heap.size_push, zO]
  have gZ : (gzZS s.heap o1 o2).get? (gzO2 s.heap o1 o2).objs.size = some { cls := .type "zip", data := .fields #[.none, .bool false, .bool true, .ref ((s.heap.push o1).push o2).objs.size, .ref (gzT2 s.heap o1 o2).objs.size] } := Heap.get?_push_size _ rfl
  have gO : (gzZS s.heap o1 o2).get? (gzT2 s.heap o1 o2).objs.size = some { cls := .type "tuple", data := .seq #[.none, .none] } := Heap.get?_push_of_some _ (Heap.get?_push_size _ rfl)
  have gT : (gzZS s.heap o1 o2).get? ((s.heap.push o1).push o2).objs.size = some { cls := .type "tuple", data := .seq #[.ref s.heap.objs.size, .ref (s.heap.push o1).objs.size] } := Heap.get?_push_of_some _ (Heap.get?_push_of_some _ (Heap.get?_push_size _ rfl))
  have g1 : (gzZS s.heap o1 o2).get? s.heap.objs.size = some o1 := Heap.get?_push_of_some _ (Heap.get?_push_of_some _ (Heap.get?_push_of_some _ (Heap.get?_push_of_some _ (Heap.get?_push_size _ B1.free))))
  have g2 : (gzZS s.heap o1 o2).get? (s.heap.push o1).objs.size = some o2 := Heap.get?_push_of_some _ (Heap.get?_push_of_some _ (Heap.get?_push_of_some _ (Heap.get?_push_size _ B2.free)))
  rw [zO, zT, z2] at gZ
  rw [zT] at gO
  rw [z2, z1] at gT
  rw [z1] at g2
  show _ ∧ _
  rw [zO]
  exact ⟨⟨_, gZ, rfl⟩, h _ gZ gT gO g1 g2 zZ fun c o e => Heap.get?_push_of_some _ (Heap.get?_push_of_some _ (Heap.get?_push_of_some _ (Heap.get?_push_of_some _ (Heap.get?_push_of_some _ e))))⟩
end
end PySem
set_option maxHeartbeats 4000000
namespace PySem
open Sem (wp)
theorem meets_enumerate_newB1 {v : Value} {o : Obj} {H : Heap → Prop} (B : Begins v o H) :
    Meets (Builtin.«enumerate.__new__» ⟨[.type "enumerate", v], []⟩) (fun _ R s => H s.heap ∧
      R (.ok (.ret (.ref (s.heap.push o).objs.size))) { s with heap := (s.heap.push o).push { cls := .type "enumerate", data := .fields #[.none, .bool false, .ref s.heap.objs.size, rawInt 0, .none, .none] } }) :=
  .of_wp fun prog w A R s h => by
    obtain ⟨hp, g, d, tk, os⟩ := s; obtain ⟨h1, h⟩ := h
    have hsub := sub_enumerate
    have q1 : ∀ {A' : Around} {E : Value → Shared → Prop} {Q : Value → Shared → Prop}, Q (.ref hp.objs.size) ⟨hp.push o, g, d, tk, os⟩ → wpAny (model prog w) A' (pyIter v) Q E ⟨hp, g, d, tk, os⟩ :=
      fun q => B.iter prog w _ _ ⟨hp, g, d, tk, os⟩ _ h1 q
    wp_walk using q1
    refine wpAny_stack_any fun st => wpAny_pure ?_
    split
    · rename_i c _ _ _ _ _
      cases (c == Value.type "enumerate")
      · wp_walk using q1
        exact ⟨_, rfl, h⟩
      · wp_walk using q1
        exact ⟨_, rfl, h⟩
    · wp_walk using q1
      exact ⟨_, rfl, h⟩
section
variable {prog : Program} {w : World} {A : Around} {E : Value → Shared → Prop} {s : Shared}
theorem enum_begins1 {v : Value} {o : Obj} {H : Heap → Prop} {Q : Value → Shared → Prop} (B : Begins v o H) (h1 : H s.heap)
    (h : ∀ h', IsEnum h' (s.heap.objs.size + 1) s.heap.objs.size 0 .none → h'.get? s.heap.objs.size = some o → h'.objs.size = s.heap.objs.size + 2 →
      (∀ b o, s.heap.get? b = some o → h'.get? b = some o) → Q (.ref (s.heap.objs.size + 1)) { s with heap := h' }) :
    wpAny (model prog w) A (call (.type "enumerate") [v]) Q E s := by
  refine callType_new F.called_enumerate (by decide) (F.typeCall_enumerate_1 _) (F.newCall_enumerate_1 _) (fun obj => F.args_object_init_2 obj _) F.entry_enumerate_new
    (meets_enumerate_newB1 B) ⟨h1, ?_⟩
  have hz : (s.heap.push o).objs.size = s.heap.objs.size + 1 := Heap.size_push ..
  show _ ∧ _
  rw [hz]
  have he : IsEnum ((s.heap.push o).push { cls := .type "enumerate", data := .fields #[.none, .bool false, .ref s.heap.objs.size, rawInt 0, .none, .none] }) (s.heap.objs.size + 1) s.heap.objs.size 0 .none := by
    have := Heap.get?_push_size (s.heap.push o) (o := { cls := .type "enumerate", data := .fields #[.none, .bool false, .ref s.heap.objs.size, rawInt 0, .none, .none] }) rfl
    rw [hz] at this; exact this
  refine ⟨⟨_, he, rfl⟩, h _ he (Heap.get?_push_of_some _ (Heap.get?_push_size _ B.free)) (by rw [Heap.size_push, hz]) fun b o x => Heap.get?_push_of_some _ (Heap.get?_push_of_some _ x)⟩
/-- the zip object, strict or not -/
abbrev IsZipB (h : Heap) (z TI TO : Addr) (b : Bool) (f0 : Value) : Prop :=
  h.get? z = some { cls := .type "zip", dict := none, data := .fields #[f0, .bool false, .bool b, .ref TI, .ref TO], slots := #[] }
theorem letGo_zipB {elts : List Expr} {x1} {pos : Pos} {z TI TO T : Addr} {b : Bool} {Q : Unit → Shared → Prop} (hz : IsZipB s.heap z TI TO b (rawInt T))
    (hQ : ∀ h', IsZipB h' z TI TO b .none → Heap.SameBut z s.heap h' → Q () { s with heap := h' }) :
    wpAny (model prog w) A (letOwnedTupleGo (.Tuple elts x1 pos) (.ref z) (.ref T)) Q E s := by
  unfold letOwnedTupleGo
  refine wpAny_bind (wpAny_load hz ?_)
  show wpAny _ _ (if (["enumerate", "zip", "dict_itemiterator", "dict_reverseitemiterator", "odict_iterator", "itertools.zip_longest", "itertools.pairwise"].contains "zip" &&
      (#[rawInt T, .bool false, .bool b, .ref TI, .ref TO] : Array Value)[0]? == some (rawInt T)) = true then _ else _) Q E s
  rw [if_pos (by simp)]
  refine wpAny_bind (wpAny_rule ?_)
  show wpAny _ _ (setField (.ref z) 0 .none) Q E s
  exact wpAny_setField_rec hz (by simp) fun h' hz' hs' => hQ h' hz' hs'
theorem pyIter_zipB {z TI TO : Addr} {b : Bool} {f0 : Value} {Q : Value → Shared → Prop} (hz : IsZipB s.heap z TI TO b f0) (h : Q (.ref z) s) : wpAny (model prog w) A (pyIter (.ref z)) Q E s := by
  have hT : s.TypeIs (.ref z) "zip" := ⟨_, hz, rfl⟩
  refine wpAny_pyIter_slot hT F.slot_zip_iter (wpAny_call_entry F.slot_zip_iter hT F.entry_zip_iter ?_ (F.args_zip_iter_1 _))
  show wpAny _ _ (ret (.ref z)) _ _ s
  exact wpAny_pure ⟨_, rfl, "zip", _, hT, F.slot_zip_next.lookup, h⟩
end
end PySem
namespace TH
open PySem PySem.Spec PyProof.Rows L2
inductive Src where
  | l (a : Addr) | t (a : Addr) | s (z : Str)
def Src.rd (K : PySem.W.Frag) (H : Hp) : Src → List V → Prop
  | .l a, xs => SqL K H a xs
  | .t a, xs => SqT K H a xs
  | .s z, xs => xs = z.cps.toList.map fun c => V.str ⟨#[c]⟩
def Src.val : Src → V
  | .l a => .ref a
  | .t a => .ref a
  | .s z => .str z
def Src.fps : Src → List Addr
  | .l a => [a]
  | .t a => [a]
  | .s _ => []
def Src.itr (it : Addr) (i : Nat) (h : Heap) : Src → Prop
  | .l a => h.IsListIter it a i
  | .t a => h.IsTupleIter it a i
  | .s z => ∃ t, h.IsStrIter it (strIterType z) z t i
theorem Src.itr_at {it : Addr} {i : Nat} {h h' : Heap} {src : Src} (x : src.itr it i h) (k : ∀ o, h.get? it = some o → h'.get? it = some o) : src.itr it i h' := by
  cases src with
  | l a => exact Heap.IsListIter.at x k
  | t a => exact Heap.IsTupleIter.at x k
  | s z => obtain ⟨t, o, ho, r⟩ := x; exact ⟨t, o, k o ho, r⟩
theorem Src.itr_obj {it : Addr} {i : Nat} {h : Heap} {src : Src} (x : src.itr it i h) : ∃ o, h.get? it = some o ∧ ∀ v, o.data ≠ .cell v := by
  cases src with
  | l a => obtain ⟨o, e, _, d⟩ := x; exact ⟨o, e, fun v q => by rw [d] at q; cases q⟩
  | t a => obtain ⟨o, e, _, d⟩ := x; exact ⟨o, e, fun v q => by rw [d] at q; cases q⟩
  | s z => obtain ⟨t, o, e, _, d⟩ := x; exact ⟨o, e, fun v q => by rw [d] at q; cases q⟩
section
variable {X : Cx} {pins : List (Addr × Obj)} {σ : L2.St} {H : Hp} {s : Shared}
theorem vals_at {xs : List V} {us : List Value} (r : Vals xs us) {j : Nat} {v : Value} (h : us.toArray[j]? = some v) : ∃ x, xs[j]? = some x ∧ RelV x v := by
  have hl : j < xs.length := by
    rw [r.length]
    rw [List.getElem?_toArray] at h
    exact (List.getElem?_eq_some_iff.mp h).1
  obtain ⟨u, hu, ru⟩ := r.get (List.getElem?_eq_getElem hl)
  refine ⟨_, List.getElem?_eq_getElem hl, ?_⟩
  rw [List.getElem?_toArray, hu] at h
  cases h
  exact ru
theorem Src.inj (I : Inv X pins σ H s) {src : Src} {xs ys : List V} (h : src.rd X.K H xs) (h' : src.rd X.K H ys) : xs = ys := by
  cases src with
  | l a => exact I.list_inj h h'
  | t a => exact I.tuple_inj h h'
  | s z => exact h.trans h'.symm
theorem Src.draws {src : Src} {it : Addr} {xs : List V} {i : Nat} {A : Around} (hh : A.handled = none) (hne : it ∉ src.fps) (I : Inv X pins σ H s) (h : src.rd X.K H xs) (hi : src.itr it i s.heap) :
    ∃ (P : Nat → Value → Prop) (St : Nat → Heap → Prop), Draws X.prog X.w A it (it :: src.fps) xs.length P St ∧ St i s.heap ∧ (∀ j h', St j h' → src.itr it j h') ∧ ∀ j v, P j v → ∃ x, xs[j]? = some x ∧ RelV x v := by
  cases src with
  | l a =>
    obtain ⟨its, rv, p, _⟩ := I.list h
    have D := Draws.list (prog := X.prog) (w := X.w) hh it a (fun e => hne (by rw [e]; exact List.mem_singleton.mpr rfl)) its.toArray
    rw [List.size_toArray, ← rv.length] at D
    exact ⟨_, _, D, ⟨hi, p.isList⟩, fun j h' q => q.1, fun j v q => vals_at rv q⟩
  | t a =>
    obtain ⟨its, rv, p, _⟩ := I.tuple h
    have D := Draws.tuple (prog := X.prog) (w := X.w) hh it a (fun e => hne (by rw [e]; exact List.mem_singleton.mpr rfl)) its.toArray
    rw [List.size_toArray, ← rv.length] at D
    exact ⟨_, _, D, ⟨hi, p⟩, fun j h' q => q.1, fun j v q => vals_at rv q⟩
  | s z =>
    obtain ⟨t, hi⟩ := hi
    have e : xs = z.cps.toList.map fun c => V.str ⟨#[c]⟩ := h
    have D := Draws.text (prog := X.prog) (w := X.w) hh it z t
    have hl : xs.length = z.cps.size := by rw [e, List.length_map, Array.length_toList]
    rw [← hl] at D
    refine ⟨_, _, D, hi, fun j h' q => ⟨t, q⟩, fun j v q => ?_⟩
    obtain ⟨c, u, h1, h2⟩ := q
    refine ⟨V.str ⟨#[c]⟩, ?_, u, h2⟩
    rw [e, List.getElem?_map, Array.getElem?_toList, h1]
    rfl
theorem Src.begins {src : Src} {xs : List V} {v : Value} (I : Inv X pins σ H s) (h : src.rd X.K H xs) (r : RelV src.val v) :
    (∀ b ∈ src.fps, b < s.heap.objs.size) ∧ ∃ (o : Obj) (Hh : Heap → Prop), Begins v o Hh ∧ Hh s.heap ∧ ∀ it h', h'.get? it = some o → src.itr it 0 h' := by
  cases src with
  | l a =>
    obtain ⟨its, rv, p, _⟩ := I.list h
    cases r
    refine ⟨fun b hb => by rw [List.mem_singleton.mp hb]; exact p.lt, _, _, begins_list a its.toArray, p.isList, fun it h' e => ⟨_, e, rfl, rfl⟩⟩
  | t a =>
    obtain ⟨its, rv, p, _⟩ := I.tuple h
    cases r
    refine ⟨fun b hb => ?_, _, _, begins_tuple a its.toArray, p, fun it h' e => ⟨_, e, rfl, rfl⟩⟩
    rw [List.mem_singleton.mp hb]
    obtain ⟨o, ho, _⟩ := p
    exact Heap.lt_size ho
  | s z =>
    obtain ⟨t, rfl⟩ := r
    exact ⟨fun b hb => (List.not_mem_nil hb).elim, _, _, begins_text z t, trivial, fun it h' e => ⟨t, _, e, rfl, rfl⟩⟩
end
def Izz (K : PySem.W.Frag) (a b : Src) (st : Bool) : It :=
  ⟨fun i H => ∃ (xs ys : List V) (x y : V), a.rd K H xs ∧ b.rd K H ys ∧ xs[i]? = some x ∧ ys[i]? = some y,
    fun i H v H' => ∃ T x y, v = .ref T ∧ H T = none ∧ H' = upd H T (.tup [x, y]) ∧ (∀ xs, a.rd K H xs → xs[i]? = some x) ∧ ∀ ys, b.rd K H ys → ys[i]? = some y,
    fun i H => ∃ xs ys : List V, a.rd K H xs ∧ b.rd K H ys ∧ i ≤ xs.length ∧ i ≤ ys.length ∧ if st then i = xs.length ∧ i = ys.length else i = xs.length ∨ i = ys.length⟩
theorem ne_of_pin {ch : List Addr} {c b : Addr} (h : c ∉ ch) (hb : b ∈ ch) : c ≠ b := fun e => h (by rw [e]; exact hb)
theorem turn_zz {P : Program} {w : World} {K : PySem.W.Frag} {elts : List Expr} {kk : Nat} {tpos : Pos} {a b : Src} {st : Bool} {z TI TO i1 i2 : Addr} (D : ZipSep2 z TI TO i1 i2 (i1 :: a.fps) (i2 :: b.fps)) (na : i1 ∉ a.fps) (nb : i2 ∉ b.fps) :
    Turn P w K (.Tuple elts kk tpos) (Izz K a b st) [z, TI, TO, i1, i2] z (fun i h => IsZipB h z TI TO st .none ∧ IsTupOf2 h TI (.ref i1) (.ref i2) ∧ (∃ x y, IsTupOf2 h TO x y) ∧ a.itr i1 i h ∧ b.itr i2 i h) where
  mem := by simp
  obj := fun i h st' c hc => by
    obtain ⟨hz, hTI, ⟨x, y, hTO⟩, h1, h2⟩ := st'
    have e' : c = z ∨ c = TI ∨ c = TO ∨ c = i1 ∨ c = i2 := by simpa using hc
    rcases e' with q | q | q | q | q
    · rw [q]; exact ⟨_, hz, fun v q => nomatch q⟩
    · rw [q]; exact ⟨_, hTI, fun v q => nomatch q⟩
    · rw [q]; exact ⟨_, hTO, fun v q => nomatch q⟩
    · rw [q]; exact Src.itr_obj h1
    · rw [q]; exact Src.itr_obj h2
  keep := fun i h h' st' k => by
    obtain ⟨hz, hTI, ⟨x, y, hTO⟩, h1, h2⟩ := st'
    exact ⟨k z (by simp) _ hz, k TI (by simp) _ hTI, ⟨x, y, k TO (by simp) _ hTO⟩, Src.itr_at h1 fun o q => k i1 (by simp) o q, Src.itr_at h2 fun o q => k i2 (by simp) o q⟩
  item := by
    intro X hP hw hK hc i pins s σ H E I hf st' hg
    subst hP hw hK
    obtain ⟨hz, hTI, ⟨x0, y0, hTO⟩, h1, h2⟩ := st'
    obtain ⟨xs, ys, x, y, hqx, hqy, hx, hy⟩ := hg
    obtain ⟨P1, St1, D1, st1, back1, val1⟩ := Src.draws (A := X.A.in1) (show X.A.in1.handled = none from I.ok.hd hc) na I hqx h1
    obtain ⟨P2, St2, D2, st2, back2, val2⟩ := Src.draws (A := X.A.in1) (show X.A.in1.handled = none from I.ok.hd hc) nb I hqy h2
    have hzl : z < s.heap.objs.size := Heap.lt_size hz
    have lt1 : i < xs.length := (List.getElem?_eq_some_iff.mp hx).1
    have lt2 : i < ys.length := (List.getElem?_eq_some_iff.mp hy).1
    have go : ∀ u u2 h' tk, P1 i u → P2 i u2 → IsZipB h' z TI TO st (rawInt s.heap.objs.size) → IsTupOf2 h' TO u u2 → St1 (i + 1) h' → St2 (i + 1) h' → IsTupOf2 h' s.heap.objs.size u u2 → h'.objs.size = s.heap.objs.size + 1 →
        (∀ c o, c ≠ z → c ≠ TO → c ≠ i1 → c ≠ i2 → s.heap.get? c = some o → h'.get? c = some o) → ∃ u', some (Value.ref s.heap.objs.size) = some u' ∧
        wpAny (model X.prog X.w) X.A (letOwnedTupleGo (.Tuple elts kk tpos) (.ref z) u') (fun _ s2 => ∃ x H', Inv X pins σ H' s2 ∧ RelV x u' ∧ (Izz X.K a b st).yld i H x H' ∧ (IsZipB s2.heap z TI TO st .none ∧ IsTupOf2 s2.heap TI (.ref i1) (.ref i2) ∧ (∃ x y, IsTupOf2 s2.heap TO x y) ∧ a.itr i1 (i + 1) s2.heap ∧ b.itr i2 (i + 1) s2.heap) ∧ ∀ c ∈ [z, TI, TO, i1, i2], H' c = none) E { s with heap := h', toks := tk } := by
      intro u u2 h' tk p1 p2 z' TO' s1' s2' hT hsz hk
      obtain ⟨x', hx', ru⟩ := val1 i u p1
      obtain ⟨y', hy', ru2⟩ := val2 i u2 p2
      rw [hx] at hx'
      cases hx'
      rw [hy] at hy'
      cases hy'
      refine ⟨_, rfl, letGo_zipB (s := { s with heap := h', toks := tk }) z' fun h'' z'' sb => ?_⟩
      have hT2 : h''.get? s.heap.objs.size = some { cls := .type "tuple", data := .seq #[u, u2] } := (sb.2 _ (Nat.ne_of_gt hzl)).trans hT
      have new : ObjOk X.prog X.w (upd H s.heap.objs.size (.tup [x, y])) h'' s.heap.objs.size (.tup [x, y]) :=
        ⟨by show 2 ≤ sizeLine; decide, [u, u2], .cons ru (.cons ru2 .nil), ⟨_, hT2, rfl, _, rfl⟩⟩
      have I1 : Inv X pins σ (upd H s.heap.objs.size (.tup [x, y])) { s with heap := h'', toks := tk } :=
        I.turnedNew (t' := tk) (ch := [z, TI, TO, i1, i2]) (fun c o hb q => (sb.2 c (fun q' => hb (by simp [q']))).trans (hk c o (fun q' => hb (by simp [q'])) (fun q' => hb (by simp [q'])) (fun q' => hb (by simp [q'])) (fun q' => hb (by simp [q'])) q)) hf (Nat.le_refl _) new
      refine ⟨.ref s.heap.objs.size, _, I1, rfl, ⟨_, x, y, rfl, I.hok.fresh (Nat.le_refl _), rfl, fun l hl => by rw [Src.inj I hl hqx]; exact hx, fun l hl => by rw [Src.inj I hl hqy]; exact hy⟩, ⟨z'', ?_, ⟨u, u2, ?_⟩, ?_, ?_⟩, fun c hcm => ?_⟩
      · exact (sb.2 _ D.TIz).trans (hk _ _ D.TIz D.TITO D.TIi1 D.TIi2 hTI)
      · exact (sb.2 _ D.TOz).trans TO'
      · exact Src.itr_at (back1 _ _ s1') fun o q => (sb.2 _ D.zi1.symm).trans q
      · exact Src.itr_at (back2 _ _ s2') fun o q => (sb.2 _ D.zi2.symm).trans q
      · have hlt : c < s.heap.objs.size := by
          have e' : c = z ∨ c = TI ∨ c = TO ∨ c = i1 ∨ c = i2 := by simpa using hcm
          rcases e' with q | q | q | q | q
          · rw [q]; exact hzl
          · rw [q]; exact Heap.lt_size hTI
          · rw [q]; exact Heap.lt_size hTO
          · rw [q]; obtain ⟨_, e1, _⟩ := Src.itr_obj h1; exact Heap.lt_size e1
          · rw [q]; obtain ⟨_, e2, _⟩ := Src.itr_obj h2; exact Heap.lt_size e2
        rw [upd_ne (Nat.ne_of_lt hlt)]
        exact (hf c hcm).1
    cases st with
    | true => exact wpAny_pyNext_zipS_item D D1 D2 hz hTI hTO st1 st2 lt1 lt2 go
    | false => exact wpAny_pyNext_zipD2_item D D1 D2 hz hTI hTO st1 st2 lt1 lt2 go
  done := by
    intro X hP hw hK hc i pins s σ H E I hf st' hg
    subst hP hw hK
    obtain ⟨hz, hTI, ⟨x0, y0, hTO⟩, h1, h2⟩ := st'
    obtain ⟨xs, ys, hqx, hqy, le1, le2, hend⟩ := hg
    obtain ⟨P1, St1, D1, st1, back1, val1⟩ := Src.draws (A := X.A.in1) (show X.A.in1.handled = none from I.ok.hd hc) na I hqx h1
    obtain ⟨P2, St2, D2, st2, back2, val2⟩ := Src.draws (A := X.A.in1) (show X.A.in1.handled = none from I.ok.hd hc) nb I hqy h2
    have fin : ∀ h' tk, (∀ c o, c ≠ z → c ≠ TO → c ≠ i1 → c ≠ i2 → s.heap.get? c = some o → h'.get? c = some o) → (none : Option Value) = none ∧ Inv X pins σ H { s with heap := h', toks := tk } := fun h' tk hk => ⟨rfl, I.turnedL (t' := tk) (ch := [z, TI, TO, i1, i2]) (fun c o hb q =>
      hk c o (fun q' => hb (by simp [q'])) (fun q' => hb (by simp [q'])) (fun q' => hb (by simp [q'])) (fun q' => hb (by simp [q'])) q) hf⟩
    cases st with
    | true =>
      obtain ⟨e1, e2⟩ := hend
      rw [← e1] at D1
      rw [← e2] at D2
      exact wpAny_pyNext_zipS_end (I.ok.hd hc) D D1 D2 hz hTI hTO st1 st2 fin
    | false => exact wpAny_pyNext_zipD2_end D D1 D2 hz hTI hTO st1 st2 le1 le2 (by simpa using hend) fin
  self := fun A i s Q E st' h => pyIter_zipB st'.1 h
def iZZ (K : PySem.W.Frag) (st : Bool) (ta : TA) : TI := fun σ H R => ta σ H fun vs H1 => ∃ a b xs ys, vs = [Src.val a, Src.val b] ∧ a.rd K H1 xs ∧ b.rd K H1 ys ∧ R (Izz K a b st) H1
theorem zz_end {X : Cx} {pins : List (Addr × Obj)} {σ : L2.St} {H1 : Hp} {s1 : Shared} {R : It → Hp → Prop} {elts : List Expr} {kk : Nat} {tpos : Pos} {a b : Src} {st : Bool} {h' : Heap} (I1 : Inv X pins σ H1 s1) (f1 : ∀ c ∈ a.fps, c < s1.heap.objs.size) (f2 : ∀ c ∈ b.fps, c < s1.heap.objs.size)
    (hz : IsZipB h' (s1.heap.objs.size + 4) (s1.heap.objs.size + 2) (s1.heap.objs.size + 3) st .none) (hTI : IsTupOf2 h' (s1.heap.objs.size + 2) (.ref s1.heap.objs.size) (.ref (s1.heap.objs.size + 1))) (hTO : IsTupOf2 h' (s1.heap.objs.size + 3) .none .none)
    (g1 : a.itr s1.heap.objs.size 0 h') (g2 : b.itr (s1.heap.objs.size + 1) 0 h') (hk : ∀ c o, s1.heap.get? c = some o → h'.get? c = some o) (q : R (Izz X.K a b st) H1) :
    wpAny (model X.prog X.w) X.A (pyIter (.ref (s1.heap.objs.size + 4))) (PIE X pins σ (.Tuple elts kk tpos) R) X.xe { s1 with heap := h' } := by
  refine pyIter_zipB (s := { s1 with heap := h' }) hz ?_
  have I2 : Inv X pins σ H1 { s1 with heap := h' } := I1.kept (t' := s1.toks) hk
  refine ⟨s1.heap.objs.size + 4, [s1.heap.objs.size + 4, s1.heap.objs.size + 2, s1.heap.objs.size + 3, s1.heap.objs.size, s1.heap.objs.size + 1], _, _, H1, rfl, I2, turn_zz (zip_sep2 f1 f2) (fun e => Nat.lt_irrefl _ (f1 _ e)) (fun e => by have := f2 _ e; exact absurd this (by show ¬ (s1.heap.objs.size + 1 < s1.heap.objs.size); omega)), ⟨hz, hTI, ⟨_, _, hTO⟩, g1, g2⟩, fun c hcm => ?_, q⟩
  have e' : c = s1.heap.objs.size + 4 ∨ c = s1.heap.objs.size + 2 ∨ c = s1.heap.objs.size + 3 ∨ c = s1.heap.objs.size ∨ c = s1.heap.objs.size + 1 := by simpa using hcm
  have hle : s1.heap.objs.size ≤ c := by
    rcases e' with z | z | z | z | z
    · rw [z]; exact Nat.le_add_right _ _
    · rw [z]; exact Nat.le_add_right _ _
    · rw [z]; exact Nat.le_add_right _ _
    · rw [z]; exact Nat.le_refl _
    · rw [z]; exact Nat.le_add_right _ _
  exact I1.fpOk hle (I1.hok.fresh hle)
theorem pi_zz {X : Cx} {e e2 : Expr} {ta : TA} {p pos tpos : Pos} {elts : List Expr} {kk : Nat} (hg : Gl X "zip") (hm : X.mg "zip" = none) (ha : PA X [e, e2] ta)
    (hs : starEach [e, e2] X.env = (false, eval e X.env) :: starEach [e2] X.env := by rfl) (hpl : (backTo pos (starEach [e2] X.env)).any (·.1) = false := by rfl) :
    PI X (.Tuple elts kk tpos) (.Call (.Name "zip" p) [e, e2] [] pos) (iZZ X.K false ta) := by
  refine ⟨fun pins s σ H R I h => ?_⟩
  refine Call_ (ld_blt I hg hm PyProof.Rows.boot_zip (PyProof.Rows.callWith_type1 (thn (ha.run pos pins s σ H _ I h) fun us s1 ⟨vs, H1, I1, r1, q1⟩ => ?_) hs hpl))
  obtain ⟨a, b, xs, ys, ex, hqx, hqy, q⟩ := q1
  subst ex
  cases r1 with
  | cons r rr =>
    cases rr with
    | cons r' rr =>
      cases rr
      obtain ⟨f1, o1, Hh1, B1, b1, g1⟩ := Src.begins I1 hqx r
      obtain ⟨f2, o2, Hh2, B2, b2, g2⟩ := Src.begins I1 hqy r'
      exact zip_begins2 B1 B2 b1 b2 fun h' hz hTI hTO h1 h2 hsz hk => zz_end I1 f1 f2 hz hTI hTO (g1 _ _ h1) (g2 _ _ h2) hk q
/-- what zip(.., strict=True) of two does, for a name that is zip -/
theorem callWith_typeKw {M : Model} {A : Around} {E : Value → Shared → Prop} {s : Shared} {env : Env} {pos : Pos} {T : String} {e : Expr} {rest : List Expr} {kws : List Keyword} {Q : Value → Shared → Prop}
    (h : wpAny M A (spliced (backTo pos (starEach (e :: rest) env))) (fun vs s₁ => wpAny M A (evalAll ((backToKw pos (keywordEach kws env)).map (·.2)))
      (fun kvs s₂ => wpAny M A (call (.type T) vs (((backToKw pos (keywordEach kws env)).filterMap (·.1)).zip kvs)) Q E s₂) E s₁) E s)
    (he : backTo pos (starEach (e :: rest) env) = (false, eval e env) :: backTo pos (starEach rest env) := by rfl)
    (hplain : (backTo pos (starEach (e :: rest) env)).any (·.1) = false := by rfl)
    (hall : (backToKw pos (keywordEach kws env)).all (·.1.isSome) = true := by rfl)
    (hkw : (backToKw pos (keywordEach kws env)).any (·.1.isNone) = false := by rfl) :
    wpAny M A (callWith pos (.type T) [] (backTo pos (starEach (e :: rest) env)) (backToKw pos (keywordEach kws env))) Q E s := by
  unfold callWith
  rw [he] at h ⊢
  refine wpAny_bind (wpAny_holding (wpAny_mono (evalArgs_kwB (Q := fun a s1 => wpAny M A (call (.type T) a.pos a.kw) Q E s1) hall h) (fun a s₁ h₁ => wpAny_bind (wpAny_standAt ?_)) fun _ _ x => x))
  rw [he] at hplain
  simp only [hplain, hkw, Bool.or_false]
  refine wpAny_bind (wpAny_pure ?_)
  exact wpAny_bind (wpAny_mono h₁ (fun r s₂ hr => wpAny_bind (wpAny_holding (wpAny_point (wpAny_pure hr)))) fun _ _ x => x)
def tKw (ta tk : TA) : TA := fun σ H Q => ta σ H fun vs H1 => tk σ H1 fun zs H2 => zs = [.bl true] ∧ Q vs H2
/-- zip(a, b, strict=True) comes to its iterator -/
theorem pi_zzS {X : Cx} {e e2 : Expr} {ta tk : TA} {p pos tpos : Pos} {elts : List Expr} {kk : Nat} {kws : List Keyword} (hg : Gl X "zip") (hm : X.mg "zip" = none) (ha : PA X [e, e2] ta) (hk : PK X kws tk)
    (hs : backTo pos (starEach [e, e2] X.env) = (false, eval e X.env) :: backTo pos (starEach [e2] X.env) := by rfl) (hpl : (backTo pos (starEach [e, e2] X.env)).any (·.1) = false := by rfl)
    (hall : (backToKw pos (keywordEach kws X.env)).all (·.1.isSome) = true := by rfl) (hnone : (backToKw pos (keywordEach kws X.env)).any (·.1.isNone) = false := by rfl) (hks : (backToKw pos (keywordEach kws X.env)).filterMap (·.1) = [Str.ofString "strict"] := by rfl) :
    PI X (.Tuple elts kk tpos) (.Call (.Name "zip" p) [e, e2] kws pos) (iZZ X.K true (tKw ta tk)) := by
  refine ⟨fun pins s σ H R I h => ?_⟩
  refine wpAny_Call_Name_kw (ld_blt I hg hm PyProof.Rows.boot_zip ?_)
  refine callWith_typeKw (thn (ha.run pos pins s σ H _ I h) fun us s0 ⟨vs, H0, I0, r1, q1⟩ => thn (hk.run pos pins s0 σ H0 _ I0 q1) fun ws s1 ⟨zs, H1, I1, r2, ez, q2⟩ => ?_) hs hpl hall hnone
  rw [hks]
  obtain ⟨a, b, xs, ys, ex, hqx, hqy, q⟩ := q2
  subst ex
  subst ez
  cases r2 with
  | cons r2 rr2 =>
    cases rr2
    cases r2
    cases r1 with
    | cons r rr =>
      cases rr with
      | cons r' rr =>
        cases rr
        obtain ⟨f1, o1, Hh1, B1, b1, g1⟩ := Src.begins I1 hqx r
        obtain ⟨f2, o2, Hh2, B2, b2, g2⟩ := Src.begins I1 hqy r'
        exact zip_beginsS B1 B2 b1 b2 fun h' hz hTI hTO h1 h2 hsz hk => zz_end I1 f1 f2 hz hTI hTO (g1 _ _ h1) (g2 _ _ h2) hk q
def Iee (K : PySem.W.Frag) (a : Src) : It :=
  ⟨fun i H => ∃ (xs : List V) (x : V), a.rd K H xs ∧ xs[i]? = some x, fun i H v H' => ∃ T x, v = .ref T ∧ H T = none ∧ H' = upd H T (.tup [.int (i : Nat), x]) ∧ ∀ xs, a.rd K H xs → xs[i]? = some x, fun i H => ∃ xs : List V, a.rd K H xs ∧ xs.length = i⟩
theorem turn_ee {P : Program} {w : World} {K : PySem.W.Frag} {elts : List Expr} {kk : Nat} {tpos : Pos} {a : Src} {e it : Addr} (hne : e ≠ it) (hef : e ∉ it :: a.fps) (na : it ∉ a.fps) :
    Turn P w K (.Tuple elts kk tpos) (Iee K a) [e, it] e (fun i h => (∃ old, IsEnum h e it ((i : Nat) : Int) old) ∧ a.itr it i h) where
  mem := by simp
  obj := fun i h st b hb => by
    obtain ⟨⟨old, he⟩, h1⟩ := st
    have e' : b = e ∨ b = it := by simpa using hb
    rcases e' with z | z
    · rw [z]; exact ⟨_, he, fun v q => nomatch q⟩
    · rw [z]; exact Src.itr_obj h1
  keep := fun i h h' st k => let ⟨⟨old, he⟩, hi⟩ := st; ⟨⟨old, k e (by simp) _ he⟩, Src.itr_at hi fun o q => k it (by simp) o q⟩
  item := by
    intro X hP hw hK hc i pins s σ H E I hf st hg
    subst hP hw hK
    obtain ⟨⟨old, he⟩, hit⟩ := st
    obtain ⟨xs, x, hq, hx⟩ := hg
    obtain ⟨P1, St1, D1, st1, back1, val1⟩ := Src.draws (A := X.A.in1) (show X.A.in1.handled = none from I.ok.hd hc) na I hq hit
    have hel : e < s.heap.objs.size := Heap.lt_size he
    have hil : it < s.heap.objs.size := by obtain ⟨_, q, _⟩ := Src.itr_obj hit; exact Heap.lt_size q
    refine wpAny_pyNext_enum_itemD D1 he st1 (List.getElem?_eq_some_iff.mp hx).1 hne hef fun u h' tk p1 ho hit' hT hsz hk => ?_
    obtain ⟨x', hx', ru⟩ := val1 i u p1
    rw [hx] at hx'
    cases hx'
    refine ⟨_, rfl, wpAny_letOwnedTupleGo_enum (s := { s with heap := h', toks := tk + 1 }) ho fun h'' he' sb => ?_⟩
    have hT2 : h''.get? s.heap.objs.size = some { cls := .type "tuple", data := .seq #[.int i tk, u] } := (sb.2 _ (Nat.ne_of_gt hel)).trans hT
    have new : ObjOk X.prog X.w (upd H s.heap.objs.size (.tup [.int (i : Nat), x])) h'' s.heap.objs.size (.tup [.int (i : Nat), x]) :=
      ⟨by show 2 ≤ sizeLine; decide, [.int i tk, u], .cons ⟨_, rfl⟩ (.cons ru .nil), ⟨_, hT2, rfl, _, rfl⟩⟩
    have I1 : Inv X pins σ (upd H s.heap.objs.size (.tup [.int (i : Nat), x])) { s with heap := h'', toks := tk + 1 } :=
      I.turnedNew (t' := tk + 1) (ch := [e, it]) (fun b ob hb q => (sb.2 b (fun z => hb (by simp [z]))).trans (hk b ob (fun z => hb (by simp [z])) (fun z => hb (by simp [z])) q)) hf (Nat.le_refl _) new
    refine ⟨.ref s.heap.objs.size, _, I1, rfl, ⟨_, x, rfl, I.hok.fresh (Nat.le_refl _), rfl, fun ys hy => by rw [Src.inj I hy hq]; exact hx⟩, ⟨⟨u, ?_⟩, Src.itr_at (back1 _ _ hit') fun o q => (sb.2 it (Ne.symm hne)).trans q⟩, fun b hb => ?_⟩
    · have e1 : ((i + 1 : Nat) : Int) = (i : Int) + 1 := by omega
      rw [e1]; exact he'
    · have hb' : b < s.heap.objs.size := by
        have e' : b = e ∨ b = it := by simpa using hb
        rcases e' with z | z
        · rw [z]; exact hel
        · rw [z]; exact hil
      rw [upd_ne (Nat.ne_of_lt hb')]
      exact (hf b hb).1
  done := by
    intro X hP hw hK hc i pins s σ H E I hf st hg
    subst hP hw hK
    obtain ⟨⟨old, he⟩, hit⟩ := st
    obtain ⟨xs, hq, hx⟩ := hg
    obtain ⟨P1, St1, D1, st1, back1, val1⟩ := Src.draws (A := X.A.in1) (show X.A.in1.handled = none from I.ok.hd hc) na I hq hit
    rw [hx] at D1
    obtain ⟨f0, f1, f2, f3, f4, f5⟩ := hf it (by simp)
    exact wpAny_pyNext_enum_endD D1 he st1 fun h' eb => ⟨rfl, I.turned (t' := s.toks) (fun b o hb q => eb b o hb q) f0 f1 f3 f4 f5⟩
  self := fun A i s Q E st h => let ⟨⟨_, he⟩, _⟩ := st; wpAny_pyIter_enum he h
def iEE (K : PySem.W.Frag) (ta : TA) : TI := fun σ H R => ta σ H fun vs H1 => ∃ a xs, vs = [Src.val a] ∧ a.rd K H1 xs ∧ R (Iee K a) H1
theorem pi_ee {X : Cx} {e : Expr} {ta : TA} {p pos tpos : Pos} {elts : List Expr} {kk : Nat} (hg : Gl X "enumerate") (hm : X.mg "enumerate" = none) (ha : PA X [e] ta) (hs : starEach [e] X.env = [(false, eval e X.env)] := by rfl) :
    PI X (.Tuple elts kk tpos) (.Call (.Name "enumerate" p) [e] [] pos) (iEE X.K ta) := by
  refine ⟨fun pins s σ H R I h => ?_⟩
  refine Call_ (ld_blt I hg hm boot_enumerate (PyProof.Rows.callWith_type1 (thn (ha.run pos pins s σ H _ I h) fun us s1 ⟨vs, H1, I1, r1, q1⟩ => ?_) hs rfl))
  obtain ⟨a, xs, ex, hq, q⟩ := q1
  subst ex
  cases r1 with
  | cons r rr =>
    cases rr
    obtain ⟨f1, o1, Hh1, B1, b1, g1⟩ := Src.begins I1 hq r
    refine enum_begins1 B1 b1 fun h' he hit hsz hk => wpAny_pyIter_enum he ?_
    have I2 : Inv X pins σ H1 { s1 with heap := h' } := I1.kept (t' := s1.toks) hk
    have nf : ∀ j, s1.heap.objs.size + j ∉ a.fps := fun j hm => by
      have := f1 _ hm
      exact absurd this (by show ¬ (s1.heap.objs.size + j < s1.heap.objs.size); omega)
    refine ⟨s1.heap.objs.size + 1, [s1.heap.objs.size + 1, s1.heap.objs.size], _, _, H1, rfl, I2, turn_ee (Nat.succ_ne_self _) (fun hm => ?_) (nf 0), ⟨⟨.none, he⟩, g1 _ _ hit⟩, fun b hb => ?_, q⟩
    · rcases List.mem_cons.mp hm with z | z
      · exact Nat.succ_ne_self _ z
      · exact nf 1 z
    · have e' : b = s1.heap.objs.size + 1 ∨ b = s1.heap.objs.size := by simpa using hb
      have hle : s1.heap.objs.size ≤ b := by
        rcases e' with z | z
        · rw [z]; exact Nat.le_add_right _ _
        · rw [z]; exact Nat.le_refl _
      exact I1.fpOk hle (I1.hok.fresh hle)
end TH
set_option maxHeartbeats 4000000
namespace PySem
open Sem (wp)
abbrev IsZipHeldS (h : Heap) (z TI TO T : Addr) (f : Bool) : Prop :=
  h.get? z = some { cls := .type "zip", dict := none, data := .fields #[rawInt T, .bool f, .bool true, .ref TI, .ref TO], slots := #[] }
section
variable {prog : Program} {w : World} {A : Around} {E : Value → Shared → Prop} {s : Shared}
theorem wpAny_tupleHeld_zipS {z TI TO T : Addr} {f : Bool} {oT : Obj} {Q : Bool → Shared → Prop} (hz : IsZipHeldS s.heap z TI TO T f) (hT : s.heap.get? T = some oT)
    (h : ∀ h', IsZipHeldS h' z TI TO T true → Heap.SameBut z s.heap h' → Q false { s with heap := h' }) : wpAny (model prog w) A (Builtin.SmallTypes.ownedTupleIsFree (.ref z)) Q E s := by
  unfold Builtin.SmallTypes.ownedTupleIsFree
  refine wpAny_bind (wpAny_field hz rfl (x := rawInt T) rfl ?_)
  show wpAny _ _ (loadIfAlive ((T : Int).toNat) >>= _) _ _ _
  rw [Int.toNat_natCast]
  refine wpAny_bind (PySem.W.kdx_alive hT ?_)
  simp only [Option.isNone_some, Bool.false_eq_true, if_false]
  refine wpAny_bind (wpAny_field hz rfl (x := .bool f) rfl ?_)
  cases f with
  | true =>
    rw [if_neg (show ¬ ((Value.bool true != Value.bool true) = true) from Bool.false_ne_true)]
    exact wpAny_pure (h s.heap hz (Heap.SameBut.refl _ _))
  | false =>
    rw [if_pos (show (Value.bool false != Value.bool true) = true from rfl)]
    exact wpAny_bind (wpAny_setField_rec hz (by simp) fun h₁ hz₁ hs₁ => wpAny_pure (h h₁ hz₁ hs₁))
variable {z TI TO T i1 i2 : Addr} {fp1 fp2 : List Addr} {n1 n2 i : Nat} {P1 P2 : Nat → Value → Prop} {St1 St2 : Nat → Heap → Prop} {a1 a2 : Value} {f : Bool} {oT : Obj}
theorem zipS_next_item_held {Q : Value → Shared → Prop} (S : ZipSep2 z TI TO i1 i2 fp1 fp2) (D1 : Draws prog w A i1 fp1 n1 P1 St1) (D2 : Draws prog w A i2 fp2 n2 P2 St2)
    (hz : IsZipHeldS s.heap z TI TO T f) (hT : s.heap.get? T = some oT) (hTI : IsTupOf2 s.heap TI (.ref i1) (.ref i2)) (st1 : St1 i s.heap) (st2 : St2 i s.heap) (hlt1 : i < n1) (hlt2 : i < n2)
    (hQ : ∀ x1 x2 h' tk, P1 i x1 → P2 i x2 → IsZipHeldS h' z TI TO T true → St1 (i + 1) h' → St2 (i + 1) h' → IsTupOf2 h' s.heap.objs.size x1 x2 → h'.objs.size = s.heap.objs.size + 1 →
      (∀ c o, c ≠ z → c ≠ i1 → c ≠ i2 → s.heap.get? c = some o → h'.get? c = some o) → Q (.ref s.heap.objs.size) { s with heap := h', toks := tk }) :
    wpAny (model prog w) A (Builtin.«zip.__next__» ⟨[.ref z], []⟩) (fun fin s' => ∃ v, fin = .done (.ret v) ∧ Q v s') E s := by
  obtain ⟨hp, g, d, tk0, os⟩ := s
  show wpAny _ _ (field (.ref z) 2 >>= _) _ _ _
  refine wpAny_bind (wpAny_field hz rfl (x := .bool true) rfl ?_)
  show wpAny _ _ (field (.ref z) 3 >>= _) _ _ _
  refine wpAny_bind (wpAny_field hz rfl (x := .ref TI) rfl ?_)
  refine wpAny_bind (wpAny_seqItems hTI rfl ?_)
  show wpAny _ _ (Builtin.SmallTypes.ownedTupleIsFree (.ref z) >>= _) _ _ _
  refine wpAny_bind (wpAny_tupleHeld_zipS hz hT fun h₁ hz₁ hs₁ => ?_)
  replace hs₁ : Heap.SameBut z hp h₁ := hs₁
  replace hz₁ : IsZipHeldS h₁ z TI TO T true := hz₁
  simp only [Bool.false_eq_true, if_false]
  refine wpAny_bind ?_
  rw [← Array.forIn_toList]
  simp only [List.forIn_cons, List.forIn_nil]
  refine wpAny_bind (wpAny_bind (wpAny_holding ?_))
  show wpAny _ _ (Builtin.SmallTypes.nextOrEnd (.ref i1)) _ _ ⟨h₁, g, d, tk0, os⟩
  unfold Builtin.SmallTypes.nextOrEnd
  refine wpAny_bind (wpAny_attempt (D1.item i _ _ _ hlt1 (D1.over st1 hs₁ S.zf1) fun x1 p1 tk1 hx1 sn1 hp1 => wpAny_pure ?_))
  replace hp1 : Heap.SameBut i1 h₁ p1 := hp1
  refine wpAny_pure ?_
  refine wpAny_bind (wpAny_bind (wpAny_holding ?_))
  show wpAny _ _ (Builtin.SmallTypes.nextOrEnd (.ref i2)) _ _ ⟨p1, g, d, tk1, os⟩
  unfold Builtin.SmallTypes.nextOrEnd
  refine wpAny_bind (wpAny_attempt (D2.item i _ _ _ hlt2 (D2.over (D2.over st2 hs₁ S.zf2) hp1 S.sep1_2) fun x2 p2 tk2 hx2 sn2 hp2 => wpAny_pure ?_))
  replace hp2 : Heap.SameBut i2 p1 p2 := hp2
  refine wpAny_pure (wpAny_pure ?_)
  show wpAny _ _ (newTuple [x1, x2] >>= _) _ _ _
  refine wpAny_bind (wpAny_newTuple ?_)
  have hsz : p2.objs.size = hp.objs.size := by rw [hp2.1, hp1.1, hs₁.1]
  have hz₃ : IsZipHeldS p2 z TI TO T true := hp2.extBut _ _ S.zi2 (hp1.extBut _ _ S.zi1 hz₁)
  have hk : ∀ c o, c ≠ z → c ≠ i1 → c ≠ i2 → hp.get? c = some o → p2.get? c = some o := fun c o c1 c2 c3 e => hp2.extBut _ _ c3 (hp1.extBut _ _ c2 (hs₁.extBut _ _ c1 e))
  have j1 : St1 (i + 1) p2 := D1.over sn1 hp2 S.sep2_1
  have up : ∀ c o, p2.get? c = some o → (p2.push { cls := .type "tuple", data := .seq #[x1, x2] }).get? c = some o := fun c o e => Heap.get?_push_of_some _ e
  refine wpAny_pure ⟨_, rfl, ?_⟩
  show Q (.ref p2.objs.size) ⟨p2.push { cls := .type "tuple", data := .seq #[x1, x2] }, g, d, tk2, os⟩
  have hpp : IsTupOf2 (p2.push { cls := .type "tuple", data := .seq #[x1, x2] }) p2.objs.size x1 x2 := Heap.get?_push_size _ rfl
  have hz4 : (p2.push { cls := .type "tuple", data := .seq #[x1, x2] }).objs.size = p2.objs.size + 1 := Heap.size_push ..
  rw [hsz] at hpp hz4
  rw [hsz]
  exact hQ x1 x2 _ tk2 hx1 hx2 (up _ _ hz₃) (D1.frame _ _ _ j1 fun b hb o e => up b o e) (D2.frame _ _ _ sn2 fun b hb o e => up b o e) hpp hz4 fun c o c1 c2 c3 e => up c o (hk c o c1 c2 c3 e)
theorem zipS_next_end_held {Q : Fin → Shared → Prop} (hh : A.handled = none) (S : ZipSep2 z TI TO i1 i2 fp1 fp2) (D1 : Draws prog w A i1 fp1 n1 P1 St1) (D2 : Draws prog w A i2 fp2 n2 P2 St2)
    (hz : IsZipHeldS s.heap z TI TO T f) (hT : s.heap.get? T = some oT) (hTI : IsTupOf2 s.heap TI (.ref i1) (.ref i2)) (st1 : St1 n1 s.heap) (st2 : St2 n2 s.heap)
    (hE : ∀ h' tk e, (∀ c o, c ≠ z → c ≠ i1 → c ≠ i2 → s.heap.get? c = some o → h'.get? c = some o) → (∃ o, h'.get? e = some o ∧ o.cls = .type "StopIteration") → E (.ref e) { s with heap := h', toks := tk }) :
    wpAny (model prog w) A (Builtin.«zip.__next__» ⟨[.ref z], []⟩) Q E s := by
  obtain ⟨hp, g, d, tk0, os⟩ := s
  show wpAny _ _ (field (.ref z) 2 >>= _) _ _ _
  refine wpAny_bind (wpAny_field hz rfl (x := .bool true) rfl ?_)
  show wpAny _ _ (field (.ref z) 3 >>= _) _ _ _
  refine wpAny_bind (wpAny_field hz rfl (x := .ref TI) rfl ?_)
  refine wpAny_bind (wpAny_seqItems hTI rfl ?_)
  show wpAny _ _ (Builtin.SmallTypes.ownedTupleIsFree (.ref z) >>= _) _ _ _
  refine wpAny_bind (wpAny_tupleHeld_zipS hz hT fun h₁ hz₁ hs₁ => ?_)
  replace hs₁ : Heap.SameBut z hp h₁ := hs₁
  simp only [Bool.false_eq_true, if_false]
  refine wpAny_bind ?_
  rw [← Array.forIn_toList]
  simp only [List.forIn_cons, List.forIn_nil]
  refine wpAny_bind (wpAny_bind (wpAny_holding ?_))
  show wpAny _ _ (Builtin.SmallTypes.nextOrEnd (.ref i1)) _ _ ⟨h₁, g, d, tk0, os⟩
  unfold Builtin.SmallTypes.nextOrEnd
  refine wpAny_bind (wpAny_attempt (D1.done ⟨h₁, g, d, tk0, os⟩ _ _ (D1.over st1 hs₁ S.zf1) fun q e hq he => ?_))
  replace hq : Heap.ExtBut i1 h₁ q := hq
  obtain ⟨oe, hoe, hce⟩ := he
  replace hoe : q.get? e = some oe := hoe
  refine wpAny_bind (wpAny_isInstance (T := "StopIteration") (b := true) ⟨oe, hoe, hce⟩ isSubtype_stop ?_)
  refine wpAny_pure ?_
  have st2' : St2 n2 q := D2.frame _ _ _ st2 fun b hb o x => hq b o (fun e => S.sep1_2 (e ▸ hb)) (hs₁.extBut b o (fun e => S.zf2 (e ▸ hb)) x)
  refine wpAny_bind ?_
  refine wpAny_bind (m := forIn (([(Value.ref i1), (Value.ref i2)].drop 1).zipIdx 1) PUnit.unit _) ?_
  simp only [List.drop, List.zipIdx_cons, List.zipIdx_nil, List.forIn_cons, List.forIn_nil]
  refine wpAny_bind (wpAny_bind ?_)
  unfold Builtin.SmallTypes.nextOrEnd
  refine wpAny_bind (wpAny_attempt (D2.done ⟨q, g, d, tk0, os⟩ _ _ st2' fun r e2 hr he2 => ?_))
  replace hr : Heap.ExtBut i2 q r := hr
  obtain ⟨oe2, hoe2, hce2⟩ := he2
  replace hoe2 : r.get? e2 = some oe2 := hoe2
  refine wpAny_bind (wpAny_isInstance (T := "StopIteration") (b := true) ⟨oe2, hoe2, hce2⟩ isSubtype_stop ?_)
  refine wpAny_pure ?_
  show wpAny _ _ (pure (ForInStep.yield PUnit.unit)) _ _ _
  refine wpAny_pure (wpAny_pure ?_)
  refine wpAny_bind (wpAny_rule ?_)
  unfold Builtin.SmallTypes.stopIteration
  refine wpAny_bind ?_
  simp only [newExc, newTuple]
  refine wpAny_bind (wpAny_newObj_type ?_ (by size_fits))
  refine wpAny_bind (m := firstArgMember _ _) (wpAny_of_eq (a := Value.none) (by first | rfl | (simp only [firstArgMember]; rfl)) ?_)
  refine wpAny_newObj_type ?_ (by size_fits)
  simp only [raiseNew]
  refine wpAny_bind (wpAny_handled ?_)
  rw [hh]
  refine wpAny_bind (wpAny_pure (wpAny_throw ?_))
  exact hE _ _ _ (fun c o cz c1 c2 x => Heap.get?_push_of_some _ (Heap.get?_push_of_some _ (hr _ _ c2 (hq _ _ c1 (hs₁.extBut _ _ cz x))))) ⟨_, Heap.get?_push_size _ rfl, rfl⟩
theorem pyNext_zipS_item_held {Q : Option Value → Shared → Prop} (S : ZipSep2 z TI TO i1 i2 fp1 fp2) (D1 : Draws prog w A.in1 i1 fp1 n1 P1 St1) (D2 : Draws prog w A.in1 i2 fp2 n2 P2 St2)
    (hz : IsZipHeldS s.heap z TI TO T f) (hT : s.heap.get? T = some oT) (hTI : IsTupOf2 s.heap TI (.ref i1) (.ref i2)) (st1 : St1 i s.heap) (st2 : St2 i s.heap) (hlt1 : i < n1) (hlt2 : i < n2)
    (hQ : ∀ x1 x2 h' tk, P1 i x1 → P2 i x2 → IsZipHeldS h' z TI TO T true → St1 (i + 1) h' → St2 (i + 1) h' → IsTupOf2 h' s.heap.objs.size x1 x2 → h'.objs.size = s.heap.objs.size + 1 →
      (∀ c o, c ≠ z → c ≠ i1 → c ≠ i2 → s.heap.get? c = some o → h'.get? c = some o) → Q (some (.ref s.heap.objs.size)) { s with heap := h', toks := tk }) :
    wpAny (model prog w) A (pyNext (.ref z)) Q E s := by
  have hTy : s.TypeIs (.ref z) "zip" := ⟨_, hz, rfl⟩
  unfold pyNext
  exact wpAny_bind (wpAny_attempt (wpAny_callSpecial?_slot (name := Str.ofString "__next__") hTy F.slot_zip_next
    (wpAny_call_entry F.slot_zip_next hTy F.entry_zip_next
      (zipS_next_item_held S D1 D2 hz hT hTI st1 st2 hlt1 hlt2 fun x1 x2 h' tk y1 y2 b1 d1 d2 b5 b6 b7 => wpAny_pure (hQ x1 x2 h' tk y1 y2 b1 d1 d2 b5 b6 b7)) (F.args_zip_next_1 _))))
theorem pyNext_zipS_end_held {Q : Option Value → Shared → Prop} (hh : A.handled = none) (S : ZipSep2 z TI TO i1 i2 fp1 fp2) (D1 : Draws prog w A.in1 i1 fp1 n1 P1 St1) (D2 : Draws prog w A.in1 i2 fp2 n2 P2 St2)
    (hz : IsZipHeldS s.heap z TI TO T f) (hT : s.heap.get? T = some oT) (hTI : IsTupOf2 s.heap TI (.ref i1) (.ref i2)) (st1 : St1 n1 s.heap) (st2 : St2 n2 s.heap)
    (hQ : ∀ h' tk, (∀ c o, c ≠ z → c ≠ i1 → c ≠ i2 → s.heap.get? c = some o → h'.get? c = some o) → Q none { s with heap := h', toks := tk }) : wpAny (model prog w) A (pyNext (.ref z)) Q E s := by
  have hTy : s.TypeIs (.ref z) "zip" := ⟨_, hz, rfl⟩
  unfold pyNext
  refine wpAny_bind (wpAny_attempt (wpAny_callSpecial?_slot (name := Str.ofString "__next__") hTy F.slot_zip_next
    (wpAny_call_entry F.slot_zip_next hTy F.entry_zip_next (zipS_next_end_held (show A.in1.handled = none from hh) S D1 D2 hz hT hTI st1 st2 fun h' tk e hk he => ?_) (F.args_zip_next_1 _))))
  obtain ⟨o, ho, hc⟩ := he
  refine wpAny_bind (wpAny_isInstance (T := "StopIteration") (b := true) ⟨o, ho, hc⟩ isSubtype_stop ?_)
  exact wpAny_pure (hQ _ _ hk)
end
/-- the strict zip as the argument of dict(); the two sources draw in every surround -/
theorem PairArg.zipS {prog : Program} {w : World} {z TI TO i1 i2 : Addr} {fp1 fp2 : List Addr} {n : Nat} {P1 P2 : Nat → Value → Prop} {St1 St2 : Nat → Heap → Prop} (S : ZipSep2 z TI TO i1 i2 fp1 fp2)
    (D1 : ∀ A : Around, A.handled = none → Draws prog w A i1 fp1 n P1 St1) (D2 : ∀ A : Around, A.handled = none → Draws prog w A i2 fp2 n P2 St2)
    (f1 : ∀ i h h', St1 i h → (∀ b ∈ fp1, ∀ o, h.get? b = some o → h'.get? b = some o) → St1 i h') (f2 : ∀ i h h', St2 i h → (∀ b ∈ fp2, ∀ o, h.get? b = some o → h'.get? b = some o) → St2 i h')
    (t1 : ∀ i h, St1 i h → ∀ b ∈ fp1, ∃ o, h.get? b = some o) (t2 : ∀ i h, St2 i h → ∀ b ∈ fp2, ∃ o, h.get? b = some o) :
    PairArg prog w "zip" z (z :: TI :: TO :: (fp1 ++ fp2)) [z, TO, i1, i2] n (fun i k v => P1 i k ∧ P2 i v)
      (fun h => IsZipS h z TI TO .none ∧ IsTupOf2 h TI (.ref i1) (.ref i2) ∧ (∃ a b, IsTupOf2 h TO a b) ∧ St1 0 h ∧ St2 0 h) where
  type := fun s ok => ⟨_, ok.1, rfl⟩
  notDict := by decide
  keep := fun h h' ok hk => by
    obtain ⟨hz, hTI, ⟨a, b, hTO⟩, h1, h2⟩ := ok
    exact ⟨hk _ _ hz, hk _ _ hTI, ⟨a, b, hk _ _ hTO⟩, f1 _ _ _ h1 fun b _ o e => hk b o e, f2 _ _ _ h2 fun b _ o e => hk b o e⟩
  there := fun h ok b hb => by
    obtain ⟨hz, hTI, ⟨a, c, hTO⟩, h1, h2⟩ := ok
    simp only [List.mem_cons, List.mem_append] at hb
    rcases hb with rfl | rfl | rfl | hb | hb
    · exact ⟨_, hz⟩
    · exact ⟨_, hTI⟩
    · exact ⟨_, hTO⟩
    · exact t1 _ _ h1 b hb
    · exact t2 _ _ h2 b hb
  sub := fun b hb => by
    simp only [List.mem_cons, List.not_mem_nil, or_false] at hb
    simp only [List.mem_cons, List.mem_append]
    rcases hb with rfl | rfl | rfl | rfl
    · exact .inl rfl
    · exact .inr (.inr (.inl rfl))
    · exact .inr (.inr (.inr (.inl S.mem1)))
    · exact .inr (.inr (.inr (.inr S.mem2)))
  noKeys := fun A s Q E hA ok h => getAttrOr_miss_zip ok.1 rfl rfl rfl zip_no_keys (by decide +kernel) hA h
  iter := fun A s d Q E hA ok hd hdf h => by
    obtain ⟨hz, hTI, ⟨a, b, hTO⟩, h1, h2⟩ := ok
    simp only [List.mem_cons, List.mem_append, not_or] at hdf
    obtain ⟨dz, dTI, dTO, d1, d2⟩ := hdf
    refine pyIter_zipB (b := true) hz (h z [z, TO, i1, i2] (fun i h => IsTupOf2 h TI (.ref i1) (.ref i2) ∧ St1 i h ∧ St2 i h ∧
      ((IsZipS h z TI TO .none ∧ ∃ a b, IsTupOf2 h TO a b) ∨ ∃ T f oT, IsZipHeldS h z TI TO T f ∧ h.get? T = some oT ∧ T ≠ z ∧ T ≠ i1 ∧ T ≠ i2 ∧ T ≠ d)) s.heap s.toks ?_
      ⟨hTI, h1, h2, .inl ⟨hz, a, b, hTO⟩⟩ (fun _ _ e => e) fun b hb => .inl hb)
    have di1 : d ≠ i1 := fun e => d1 (e ▸ S.mem1)
    have di2 : d ≠ i2 := fun e => d2 (e ▸ S.mem2)
    exact {
      off := fun hm => by
        simp only [List.mem_cons, List.not_mem_nil, or_false] at hm
        rcases hm with e | e | e | e
        · exact dz e
        · exact dTO e
        · exact di1 e
        · exact di2 e
      frame := fun i h₁ h₂ st hk => by
        obtain ⟨hTI, h1, h2, hz⟩ := st
        refine ⟨hk _ _ (Ne.symm dTI) hTI, (D1 A hA).frame _ _ _ h1 fun b hb o e => hk b o (fun q => d1 (q ▸ hb)) e, (D2 A hA).frame _ _ _ h2 fun b hb o e => hk b o (fun q => d2 (q ▸ hb)) e, ?_⟩
        rcases hz with ⟨hz, a, b, hTO⟩ | ⟨T, f, oT, hz, hT, r1, r2, r3, r4⟩
        · exact .inl ⟨hk _ _ (Ne.symm dz) hz, a, b, hk _ _ (Ne.symm dTO) hTO⟩
        · exact .inr ⟨T, f, oT, hk _ _ (Ne.symm dz) hz, hk _ _ r4 hT, r1, r2, r3, r4⟩
      item := fun i s₁ Q₁ E₁ hi st hds hQ => by
        obtain ⟨hTI, h1, h2, hz⟩ := st
        have lt : ∀ {c o}, s₁.heap.get? c = some o → s₁.heap.objs.size ≠ c := fun e => Nat.ne_of_gt (Heap.lt_size e)
        have n1 : s₁.heap.objs.size ≠ i1 := let ⟨_, e⟩ := (D1 A hA).live _ _ h1; lt e
        have n2 : s₁.heap.objs.size ≠ i2 := let ⟨_, e⟩ := (D2 A hA).live _ _ h2; lt e
        rcases hz with ⟨hz, a, b, hTO⟩ | ⟨T, f, oT, hz, hT, r1, r2, r3, r4⟩
        · refine wpAny_pyNext_zipS_item S (D1 A.in1 hA) (D2 A.in1 hA) hz hTI hTO h1 h2 hi hi fun x1 x2 h' tk p1 p2 a1 a2 a3 a4 a5 a6 hk => ?_
          exact hQ s₁.heap.objs.size _ _ h' tk ⟨p1, p2⟩ (.inl ⟨_, a5, rfl, _, rfl⟩)
            ⟨hk _ _ S.TIz S.TITO S.TIi1 S.TIi2 hTI, a3, a4, .inr ⟨s₁.heap.objs.size, false, _, a1, a5, lt hz, n1, n2, Nat.ne_of_gt hds⟩⟩
            fun c o hc e => hk c o (fun x => hc (by simp [x])) (fun x => hc (by simp [x])) (fun x => hc (by simp [x])) (fun x => hc (by simp [x])) e
        · refine pyNext_zipS_item_held S (D1 A.in1 hA) (D2 A.in1 hA) hz hT hTI h1 h2 hi hi fun x1 x2 h' tk p1 p2 a1 a3 a4 a5 a6 hk => ?_
          exact hQ s₁.heap.objs.size _ _ h' tk ⟨p1, p2⟩ (.inl ⟨_, a5, rfl, _, rfl⟩)
            ⟨hk _ _ S.TIz S.TIi1 S.TIi2 hTI, a3, a4, .inr ⟨T, true, oT, a1, hk _ _ r1 r2 r3 hT, r1, r2, r3, r4⟩⟩
            fun c o hc e => hk c o (fun x => hc (by simp [x])) (fun x => hc (by simp [x])) (fun x => hc (by simp [x])) e
      done := fun s₁ Q₁ E₁ st hQ => by
        obtain ⟨hTI, h1, h2, hz⟩ := st
        rcases hz with ⟨hz, a, b, hTO⟩ | ⟨T, f, oT, hz, hT, r1, r2, r3, r4⟩
        · exact wpAny_pyNext_zipS_end hA S (D1 A.in1 hA) (D2 A.in1 hA) hz hTI hTO h1 h2 fun h' tk hk => hQ h' tk fun c o hc e => hk c o (fun x => hc (by simp [x])) (fun x => hc (by simp [x])) (fun x => hc (by simp [x])) (fun x => hc (by simp [x])) e
        · exact pyNext_zipS_end_held hA S (D1 A.in1 hA) (D2 A.in1 hA) hz hT hTI h1 h2 fun h' tk hk => hQ h' tk fun c o hc e => hk c o (fun x => hc (by simp [x])) (fun x => hc (by simp [x])) (fun x => hc (by simp [x])) e }
end PySem
set_option maxHeartbeats 4000000
namespace TH
open PySem PySem.Spec PyProof.Rows L2
/-- the source src holds the items ds, never written -/
def SrD (K : PySem.W.Frag) (G : Hp) (src : Src) (ds : List D) : Prop := ∃ vs, (match src with | .l a => G a = some (.lst vs) | .t a => G a = some (.tup vs) | .s z => vs = z.cps.toList.map fun c => V.str ⟨#[c]⟩) ∧ Reps K G ds vs
theorem SrD.mono {K : PySem.W.Frag} {G G' : Hp} (e : Ex G G') {src : Src} {ds : List D} (h : SrD K G src ds) : SrD K G' src ds := by
  obtain ⟨vs, h, r⟩ := h
  refine ⟨vs, ?_, r.mono e⟩
  cases src with
  | l a => exact e _ _ h
  | t a => exact e _ _ h
  | s z => exact h
theorem SrD.rd {K : PySem.W.Frag} {G G1 H : Hp} (g : Ex G G1) (e : Ex G1 H) {src : Src} {ds : List D} (h : SrD K G src ds) : ∃ vs, src.rd K H vs ∧ Reps K G1 ds vs ∧ vs.length = ds.length := by
  obtain ⟨vs, h, r⟩ := h.mono g
  refine ⟨vs, ?_, r, r.length⟩
  cases src with
  | l a => exact .of (e _ _ h)
  | t a => exact .of (e _ _ h)
  | s z => exact h
def zipD (xs ys : List D) : List D := List.zipWith (fun x y => D.tup [x, y]) xs ys
theorem zipD_get {xs ys : List D} {i : Nat} {d : D} (h : (zipD xs ys)[i]? = some d) : ∃ x y, xs[i]? = some x ∧ ys[i]? = some y ∧ d = .tup [x, y] := by
  unfold zipD at h
  rw [List.getElem?_zipWith] at h
  cases h1 : xs[i]? with
  | none => rw [h1] at h; cases h
  | some x =>
    cases h2 : ys[i]? with
    | none => rw [h1, h2] at h; cases h
    | some y =>
      rw [h1, h2] at h
      cases h
      exact ⟨x, y, rfl, rfl, rfl⟩
theorem zipD_map {α : Type} (f g : α → D) (xs : List α) : zipD (xs.map f) (xs.map g) = xs.map fun x => .tup [f x, g x] := by
  unfold zipD
  rw [List.zipWith_map, List.zipWith_self]
theorem zipD_map2 {α β : Type} (f : α → D) (g : β → D) (xs : List α) (ys : List β) : zipD (xs.map f) (ys.map g) = (xs.zip ys).map fun p => .tup [f p.1, g p.2] := by
  unfold zipD
  rw [List.zipWith_map, List.zip, List.map_zipWith]
theorem itok_zz {K : PySem.W.Frag} {G' : Hp} {a b : Src} {st : Bool} {xs ys : List D} (ha : SrD K G' a xs) (hb : SrD K G' b ys) (hl : st = true → xs.length = ys.length) : ItOk K G' (Izz K a b st) (zipD xs ys) := by
  have hlen : (zipD xs ys).length = min xs.length ys.length := List.length_zipWith ..
  refine ⟨fun i G1 H1 hi g e => ?_, fun G1 H1 g e => ?_, fun i d G1 H1 x H2 hd g e hy => ?_⟩
  · obtain ⟨vs, h1, r1, l1⟩ := ha.rd g e
    obtain ⟨us, h2, r2, l2⟩ := hb.rd g e
    have lt1 : i < vs.length := by omega
    have lt2 : i < us.length := by omega
    exact ⟨vs, us, _, _, h1, h2, List.getElem?_eq_getElem lt1, List.getElem?_eq_getElem lt2⟩
  · obtain ⟨vs, h1, r1, l1⟩ := ha.rd g e
    obtain ⟨us, h2, r2, l2⟩ := hb.rd g e
    refine ⟨vs, us, h1, h2, by omega, by omega, ?_⟩
    cases st with
    | true =>
      have := hl rfl
      rw [if_pos rfl]
      omega
    | false =>
      rw [if_neg (by decide)]
      omega
  · obtain ⟨vs, h1, r1, l1⟩ := ha.rd g e
    obtain ⟨us, h2, r2, l2⟩ := hb.rd g e
    obtain ⟨dx, dy, e1, e2, rfl⟩ := zipD_get hd
    obtain ⟨T, vx, vy, rfl, hn, rfl, k1, k2⟩ := hy
    obtain ⟨u1, q1, w1⟩ := r1.get e1
    obtain ⟨u2, q2, w2⟩ := r2.get e2
    have z1 := k1 vs h1
    have z2 := k2 us h2
    rw [q1] at z1
    rw [q2] at z2
    cases z1
    cases z2
    exact ⟨_, .new e hn, T, [vx, vy], rfl, upd_same, vx, [vy], rfl, w1.mono (.new (e.none hn)), vy, [], rfl, w2.mono (.new (e.none hn)), rfl⟩
theorem itok_ee {K : PySem.W.Frag} {G' : Hp} {a : Src} {xs : List D} (ha : SrD K G' a xs) : ItOk K G' (Iee K a) (zipD ((List.range xs.length).map fun (i : Nat) => D.int (i : Int)) xs) := by
  have hlen : (zipD ((List.range xs.length).map fun (i : Nat) => D.int (i : Int)) xs).length = xs.length := by
    unfold zipD
    rw [List.length_zipWith, List.length_map, List.length_range, Nat.min_self]
  refine ⟨fun i G1 H1 hi g e => ?_, fun G1 H1 g e => ?_, fun i d G1 H1 x H2 hd g e hy => ?_⟩
  · obtain ⟨vs, h1, r1, l1⟩ := ha.rd g e
    have lt1 : i < vs.length := by omega
    exact ⟨vs, _, h1, List.getElem?_eq_getElem lt1⟩
  · obtain ⟨vs, h1, r1, l1⟩ := ha.rd g e
    exact ⟨vs, h1, by omega⟩
  · obtain ⟨vs, h1, r1, l1⟩ := ha.rd g e
    obtain ⟨dx, dy, e1, e2, rfl⟩ := zipD_get hd
    obtain ⟨T, vx, rfl, hn, rfl, k1⟩ := hy
    obtain ⟨u1, q1, w1⟩ := r1.get e2
    have z1 := k1 vs h1
    rw [q1] at z1
    cases z1
    have hi : i < xs.length := (List.getElem?_eq_some_iff.mp e2).1
    rw [List.getElem?_map, List.getElem?_range hi] at e1
    have e1' : D.int (i : Int) = dx := Option.some.inj e1
    exact ⟨_, .new e hn, T, [.int i, vx], rfl, upd_same, .int i, [vx], rfl, by rw [← e1']; exact rfl, vx, [], rfl, w1.mono (.new (e.none hn)), rfl⟩
def JSr (W : Gx) (S : Sc) (k : Nat) (e : Expr) (env : List Sl) (ds : List D) : Prop := JP W S k e env fun v G _ => ∃ src : Src, v = src.val ∧ SrD W.K G src ds
section
variable {W : Gx} {S : Sc} {k : Nat} {env : List Sl} {a b c e tg : Expr} {pos p p2 tpos : Pos} {z : Str} {xs ys : List D} {elts : List Expr} {kk : Nat}
theorem jsr_l (h : J W S k e env (.lst xs)) : JSr W S k e env xs := JP.imp h fun v G H x ⟨a, vs, e, h1, r⟩ => ⟨.l a, e, vs, h1, r⟩
theorem jsr_t (h : J W S k e env (.tup xs)) : JSr W S k e env xs := JP.imp h fun v G H x ⟨a, vs, e, h1, r⟩ => ⟨.t a, e, vs, h1, r⟩
theorem reps_sgn {K : PySem.W.Frag} {G : Hp} : ∀ cs : List Nat, Reps K G (cs.map sgn) (cs.map fun c => V.str ⟨#[c]⟩)
  | [] => rfl
  | c :: cs => ⟨_, _, rfl, rfl, reps_sgn cs⟩
theorem jsr_s (h : J W S k e env (.str z)) : JSr W S k e env (z.cps.toList.map sgn) := JP.imp h fun v G H x r => ⟨.s z, r, _, rfl, reps_sgn _⟩
theorem ji_zip (ha : JSr W S k a env xs) (hb : JSr W S k b env ys) (hg : GlS S "zip" := by exact rfl) (hm : W.mg "zip" = none := by assumption) (hpa : Plain a := by intro _ _; rfl) (hpb : Plain b := by intro _ _; rfl) :
    JI W S k (.Tuple elts kk tpos) (.Call (.Name "zip" p) [a, b] [] pos) env (zipD xs ys) := fun σ G H x E R q =>
  wI_X (fun X hX => pi_zz (hX.gl hg) (by rw [hX.mg]; exact hm) (pa_cons (pe_w hX a) (pa_cons (pe_w hX b) pa_nil (hpb [] X.env)) (hpa [b] X.env)) (hpa [b] X.env) (by rw [hpb [] X.env]; rfl)) fun X hX =>
    ha σ G H x E _ fun v G1 H1 s1 ⟨src, ev, w1⟩ => hb σ G1 H1 s1.s (E.mono s1) _ fun u G2 H2 s2 ⟨src2, eu, w2⟩ => by
      subst ev
      subst eu
      rw [hX.K]
      obtain ⟨vs, h1, r1, l1⟩ := w1.rd s2.g s2.s
      obtain ⟨us, h2, r2, l2⟩ := w2.rd (fun _ _ z => z) s2.s
      exact ⟨src, src2, vs, us, rfl, h1, h2, q _ G2 H2 (s1.trans s2) (itok_zz (w1.mono s2.g) w2 (fun z => nomatch z))⟩
theorem ji_zipS {kp kp2 : Pos} {jj} (ha : JSr W S k a env xs) (hb : JSr W S k b env ys) (hl : xs.length = ys.length) (hg : GlS S "zip" := by exact rfl) (hm : W.mg "zip" = none := by assumption) (hpa : Plain a := by intro _ _; rfl) (hpb : Plain b := by intro _ _; rfl) :
    JI W S k (.Tuple elts kk tpos) (.Call (.Name "zip" p) [a, b] [⟨some "strict", .Constant (.bool true) jj kp, kp2⟩] pos) env (zipD xs ys) := fun σ G H x E R q =>
  wI_X (fun X hX => pi_zzS (hX.gl hg) (by rw [hX.mg]; exact hm) (pa_cons (pe_w hX a) (pa_cons (pe_w hX b) pa_nil (hpb [] X.env)) (hpa [b] X.env)) (pk_cons pe_bl pk_nil) (by rw [hpa [b] X.env]; rfl) (by rw [hpa [b] X.env, hpb [] X.env]; rfl)) fun X hX =>
    ha σ G H x E _ fun v G1 H1 s1 ⟨src, ev, w1⟩ => hb σ G1 H1 s1.s (E.mono s1) _ fun u G2 H2 s2 ⟨src2, eu, w2⟩ => by
      subst ev
      subst eu
      rw [hX.K]
      obtain ⟨vs, h1, r1, l1⟩ := w1.rd s2.g s2.s
      obtain ⟨us, h2, r2, l2⟩ := w2.rd (fun _ _ z => z) s2.s
      exact ⟨rfl, src, src2, vs, us, rfl, h1, h2, q _ G2 H2 (s1.trans s2) (itok_zz (w1.mono s2.g) w2 (fun _ => hl))⟩
theorem ji_enum (ha : JSr W S k a env xs) (hg : GlS S "enumerate" := by exact rfl) (hm : W.mg "enumerate" = none := by assumption) (hpa : Plain a := by intro _ _; rfl) :
    JI W S k (.Tuple elts kk tpos) (.Call (.Name "enumerate" p) [a] [] pos) env (zipD ((List.range xs.length).map fun (i : Nat) => D.int (i : Int)) xs) := fun σ G H x E R q =>
  wI_X (fun X hX => pi_ee (hX.gl hg) (by rw [hX.mg]; exact hm) (pa_cons (pe_w hX a) pa_nil (hpa [] X.env)) (hpa [] X.env)) fun X hX =>
    ha σ G H x E _ fun v G1 H1 s1 ⟨src, ev, w1⟩ => by
      subst ev
      rw [hX.K]
      obtain ⟨vs, h1, r1, l1⟩ := w1.rd (fun _ _ z => z) s1.s
      exact ⟨src, vs, rfl, h1, q _ G1 H1 s1 (itok_ee w1)⟩
end
end TH
namespace TM
abbrev Row := List Int
abbrev Tab := List (List Int)
def prod (r s : Row) : Int := ((r.zip s).map fun p => p.1 * p.2).sum
def cols (t : Tab) : Tab := (List.range t.length).map fun i => t.map fun (r : Row) => r.getD i 0
def led (r : Row) (t : Tab) : Row := (cols t).map (prod r)
def tmul (t u : Tab) : Tab := t.map fun r => led r u
def still (n : Nat) : Tab := (List.range n).map fun s => (List.range n).map fun p => if p = s then 1 else 0
def tcol (t : Tab) (c : Row) : Row := t.map fun r => prod r c
/-- n by n -/
def Sq (n : Nat) (t : Tab) : Prop := t.length = n ∧ ∀ r ∈ t, r.length = n
/-- entries below 2 ^ b -/
def Bd (b : Nat) (r : Row) : Prop := ∀ x ∈ r, x.natAbs < 2 ^ b
def BdT (b : Nat) (t : Tab) : Prop := ∀ r ∈ t, Bd b r
theorem prod_nil (s : Row) : prod [] s = 0 := rfl
theorem prod_cons (x : Int) (r : Row) (y : Int) (s : Row) : prod (x :: r) (y :: s) = x * y + prod r s := by
  unfold prod
  rw [List.zip_cons_cons, List.map_cons, List.sum_cons]
theorem Bd.mono {a b : Nat} {r : Row} (h : Bd a r) (l : a ≤ b) : Bd b r := fun x hx => Nat.lt_of_lt_of_le (h x hx) (Nat.pow_le_pow_right (by decide) l)
theorem BdT.mono {a b : Nat} {t : Tab} (h : BdT a t) (l : a ≤ b) : BdT b t := fun x hx => (h x hx).mono l
theorem prod_bd {a b : Nat} : ∀ {r s : Row}, Bd a r → Bd b s → (prod r s).natAbs ≤ r.length * 2 ^ (a + b)
  | [], s, _, _ => by rw [prod_nil]; exact Nat.zero_le _
  | x :: r, [], _, _ => by
    have : prod (x :: r) [] = 0 := rfl
    rw [this]
    exact Nat.zero_le _
  | x :: r, y :: s, h1, h2 => by
    rw [prod_cons]
    have ih := prod_bd (r := r) (s := s) (fun z hz => h1 z (List.mem_cons_of_mem _ hz)) (fun z hz => h2 z (List.mem_cons_of_mem _ hz))
    have hx := h1 x List.mem_cons_self
    have hy := h2 y List.mem_cons_self
    have hxy : (x * y).natAbs ≤ 2 ^ (a + b) := by
      rw [Int.natAbs_mul, Nat.pow_add]
      exact Nat.mul_le_mul (Nat.le_of_lt hx) (Nat.le_of_lt hy)
    have tri : (x * y + prod r s).natAbs ≤ (x * y).natAbs + (prod r s).natAbs := Int.natAbs_add_le _ _
    rw [List.length_cons, Nat.add_mul, Nat.one_mul]
    omega
theorem prod_lt {a b c : Nat} {r s : Row} (h1 : Bd a r) (h2 : Bd b s) (hl : r.length < 2 ^ c) : (prod r s).natAbs < 2 ^ (a + b + c) := by
  have h := prod_bd h1 h2
  rw [Nat.pow_add]
  refine Nat.lt_of_le_of_lt h ?_
  rw [Nat.mul_comm]
  exact Nat.mul_lt_mul_of_pos_left hl (Nat.pow_pos (by decide))
theorem mem_getD {r : Row} {i : Nat} {b : Nat} (h : Bd b r) : (r.getD i 0).natAbs < 2 ^ b := by
  rw [List.getD_eq_getElem?_getD]
  cases e : r[i]? with
  | none => exact Nat.pow_pos (by decide)
  | some x => exact h x (List.mem_of_getElem? e)
theorem cols_length (t : Tab) : (cols t).length = t.length := by
  unfold cols
  rw [List.length_map, List.length_range]
theorem cols_row {t : Tab} {c : Row} (h : c ∈ cols t) : c.length = t.length := by
  obtain ⟨i, _, rfl⟩ := List.mem_map.mp h
  exact List.length_map ..
theorem cols_bd {t : Tab} {b : Nat} (h : BdT b t) : BdT b (cols t) := fun c hc => by
  obtain ⟨i, _, rfl⟩ := List.mem_map.mp hc
  intro x hx
  obtain ⟨r, hr, rfl⟩ := List.mem_map.mp hx
  exact mem_getD (h r hr)
theorem led_length (r : Row) (t : Tab) : (led r t).length = t.length := by
  unfold led
  rw [List.length_map, cols_length]
theorem led_bd {a b c : Nat} {r : Row} {t : Tab} (h1 : Bd a r) (h2 : BdT b t) (hl : r.length < 2 ^ c) : Bd (a + b + c) (led r t) := fun x hx => by
  obtain ⟨k, hk, rfl⟩ := List.mem_map.mp hx
  exact prod_lt h1 (cols_bd h2 k hk) hl
theorem tmul_bd {a b c : Nat} {t u : Tab} (h1 : BdT a t) (h2 : BdT b u) (hl : ∀ r ∈ t, r.length < 2 ^ c) : BdT (a + b + c) (tmul t u) := fun x hx => by
  obtain ⟨r, hr, rfl⟩ := List.mem_map.mp hx
  exact led_bd (h1 r hr) h2 (hl r hr)
theorem tmul_sq {n : Nat} {t u : Tab} (h1 : Sq n t) (h2 : Sq n u) : Sq n (tmul t u) := ⟨by
  unfold tmul
  rw [List.length_map, h1.1], fun x hx => by
  obtain ⟨r, hr, rfl⟩ := List.mem_map.mp hx
  rw [led_length, h2.1]⟩
theorem still_sq (n : Nat) : Sq n (still n) := ⟨by
  unfold still
  rw [List.length_map, List.length_range], fun x hx => by
  obtain ⟨r, hr, rfl⟩ := List.mem_map.mp hx
  rw [List.length_map, List.length_range]⟩
theorem still_bd (n : Nat) : BdT 1 (still n) := fun x hx => by
  obtain ⟨s, _, rfl⟩ := List.mem_map.mp hx
  intro y hy
  obtain ⟨p, _, rfl⟩ := List.mem_map.mp hy
  split <;> decide
theorem tcol_length (t : Tab) (c : Row) : (tcol t c).length = t.length := List.length_map ..
theorem tcol_bd {a b c : Nat} {t : Tab} {s : Row} (h1 : BdT a t) (h2 : Bd b s) (hl : ∀ r ∈ t, r.length < 2 ^ c) : Bd (a + b + c) (tcol t s) := fun x hx => by
  obtain ⟨r, hr, rfl⟩ := List.mem_map.mp hx
  exact prod_lt (h1 r hr) h2 (hl r hr)
end TM
set_option maxHeartbeats 4000000
namespace TH
open PySem PySem.Spec PyProof.Rows L2
def rowD (r : List Int) : D := .tup (r.map D.int)
def tabD (t : List (List Int)) : D := .tup (t.map rowD)
theorem at_row {r : List Int} {i : Nat} (h : i < r.length) : atI (r.map D.int) (i : Int) = some (.int (r.getD i 0)) := by
  refine atI_nat ?_
  rw [List.getElem?_map, List.getElem?_eq_getElem h]
  show some (D.int r[i]) = some (D.int (r.getD i 0))
  rw [List.getD_eq_getElem?_getD, List.getElem?_eq_getElem h]
  rfl
theorem sn {S : Sc} {x : Str} (i : Nat) (h1 : S.N[i]? = some x := by rfl) (h2 : Loc S.sc x := by first | exact Or.inl rfl | exact Or.inr rfl) (h3 : S.fb x = true ∨ S.sc.names.lookup x = some .local := by first | exact Or.inl rfl | exact Or.inr rfl) : StN S i x := ⟨h1, h2, h3⟩
section
variable {W : Gx} {S : Sc} {k : Nat} {env : List Sl} {a b c e : Expr} {pos p p2 : Pos} {i j : Int}
theorem j_mulW {x y : Nat} (ha : J W S k a env (.int i)) (hb : J W S k b env (.int j)) (hi : i.natAbs < 2 ^ x) (hj : j.natAbs < 2 ^ y) (h : x + y ≤ 999990) : J W S k (.BinOp a .Mult b pos) env (.int (i * j)) :=
  j_opI (g := fun i j => i * j) (C := CMulW) (fun X => op_mulW) ha hb (wide_mul (a := x + 1) (b := y + 1) (Nat.lt_of_lt_of_le hi (Nat.pow_le_pow_right (by decide) (Nat.le_succ _))) (Nat.lt_of_lt_of_le hj (Nat.pow_le_pow_right (by decide) (Nat.le_succ _))) (Nat.succ_pos _) (Nat.succ_pos _) (by omega))
end
/-- a row: a tuple or a list of whole numbers -/
def isRow (d : D) (r : List Int) : Prop := d = rowD r ∨ d = .lst (r.map D.int)
theorem isRow.src {W : Gx} {S : Sc} {k : Nat} {env : List Sl} {e : Expr} {d : D} {r : List Int} (h : isRow d r) (j : J W S k e env d) : JSr W S k e env (r.map D.int) := by
  rcases h with rfl | rfl
  · exact jsr_t j
  · exact jsr_l j
def f_product_of (ds : List D) (d : D) : Prop := ∃ (x y : D) (r s : List Int) (a b : Nat), ds = [x, y] ∧ isRow x r ∧ isRow y s ∧ r.length = s.length ∧ r.length < 100000 ∧ TM.Bd a r ∧ TM.Bd b s ∧ a + b ≤ 999990 ∧ d = .int (TM.prod r s)
theorem ok_product_of {W : Gx} (T : Tx W) : OkF W 1 "product_of" 2 f_product_of := by
  have ms := T.m_sum
  have mz := T.m_zip
  refine mk_product_of T fun ds d G0 H0 σ D' hf hn A fin => ?_
  obtain ⟨x, y, r, s, a, b, rfl, hx, hy, hl, hlt, ba, bb, hab, rfl⟩ := hf
  refine ws_ret (d := .int (TM.prod r s)) A (j_sum (ns := (r.zip s).map fun p => p.1 * p.2) ?_) fin.rt
  rw [List.map_map]
  refine JN.l (JLc.n (jc2 2 3 sc_product_of.nd (xs := r.zip s) (g1 := fun p => D.int p.1) (g2 := fun p => D.int p.2) ?_ (fun p hp => ?_) ?_))
  · rw [← zipD_map2 D.int D.int]
    exact ji_zipS (hx.src (jv 0)) (hy.src (jv 1)) (by rw [List.length_map, List.length_map, hl])
  · obtain ⟨q1, q2⟩ := List.of_mem_zip (show (p.1, p.2) ∈ r.zip s from hp)
    exact j_mulW (jv 2) (jv 3) (ba _ q1) (bb _ q2) hab
  · rw [List.length_zip]
    omega
def f_columns_of (ds : List D) (d : D) : Prop := ∃ t : List (List Int), ds = [tabD t] ∧ t.length < 1000 ∧ (∀ r ∈ t, r.length = t.length) ∧ d = .lst ((TM.cols t).map rowD)
theorem ok_columns_of {W : Gx} (T : Tx W) : OkF W 1 "columns_of" 1 f_columns_of := by
  have mr := T.m_range
  have ml := T.m_len
  have mt := T.m_tuple
  refine mk_columns_of T fun ds d G0 H0 σ D' hf hn A fin => ?_
  obtain ⟨t, rfl, hl, hsq, rfl⟩ := hf
  refine ws_ret A (J.is (JLc.n (jc1 1 sc_columns_of.nd (ji_range1 (j_lenT (jv 0)) (by rw [List.length_map]; omega)) (f := fun (i : Nat) => rowD (t.map fun (r : List Int) => r.getD i 0)) (fun i hi => ?_) ?_)).lst ?_) fin.rt
  · refine j_tupleL (J.is (JLc.n (jc1 2 sc_columns_of.nd (ji_tup (jv 0)) (f := fun (r : List Int) => D.int (r.getD i 0)) (fun r hr => ?_) ?_)).lst ?_).l
    · refine j_ixT (jv 2) (jv 1) (at_row ?_)
      rw [hsq r hr]
      have := List.mem_range.mp hi
      rw [List.length_map] at this
      exact this
    · omega
    · rw [List.map_map]
      rfl
  · rw [List.length_range, List.length_map]
    omega
  · unfold TM.cols
    rw [List.map_map, List.length_map]
    rfl
def f_led_on (ds : List D) (d : D) : Prop := ∃ (x : D) (r : List Int) (t : List (List Int)) (a b : Nat), ds = [x, tabD t] ∧ isRow x r ∧ t.length < 1000 ∧ (∀ q ∈ t, q.length = t.length) ∧ r.length = t.length ∧ TM.Bd a r ∧ TM.BdT b t ∧ a + b ≤ 999990 ∧ d = rowD (TM.led r t)
theorem ok_led_on {W : Gx} (T : Tx W) : OkF W 2 "led_on" 2 f_led_on := by
  have mt := T.m_tuple
  refine mk_led_on T fun ds d G0 H0 σ D' hf hn A fin => ?_
  obtain ⟨x, r, t, a, b, rfl, hx, hl, hsq, hrl, ba, bb, hab, rfl⟩ := hf
  refine ws_ret A (j_tupleL (J.is (JLc.n (jc1 2 sc_led_on.nd (ji_lst (j_call (ok_columns_of T) (ja_cons (jv 1) ja_nil) ⟨t, rfl, hl, hsq, rfl⟩)) (f := fun c => D.int (TM.prod r c)) (fun c hc => ?_) ?_)).lst ?_).l) fin.rt
  · refine j_call (ok_product_of T) (ja_cons (jv 0) (ja_cons (jv 2) ja_nil)) ⟨_, _, r, c, a, b, rfl, hx, .inl rfl, ?_, ?_, ba, TM.cols_bd bb c hc, hab, rfl⟩
    · rw [TM.cols_row hc, hrl]
    · omega
  · rw [TM.cols_length]
    omega
  · unfold TM.led
    rw [List.map_map]
    rfl
def f_table_product (ds : List D) (d : D) : Prop := ∃ (t u : List (List Int)) (n a b : Nat), ds = [tabD t, tabD u] ∧ n < 1000 ∧ TM.Sq n t ∧ TM.Sq n u ∧ TM.BdT a t ∧ TM.BdT b u ∧ a + b ≤ 999990 ∧ d = tabD (TM.tmul t u)
theorem ok_table_product {W : Gx} (T : Tx W) : OkF W 2 "table_product" 2 f_table_product := by
  have mt := T.m_tuple
  refine mk_table_product T fun ds d G0 H0 σ D' hf hn A fin => ?_
  obtain ⟨t, u, n, a, b, rfl, hl, st, su, ba, bb, hab, rfl⟩ := hf
  refine ws_set A sc_table_product.nd (sn 2) (j_call (ok_columns_of T) (ja_cons (jv 1) ja_nil) ⟨u, rfl, by rw [su.1]; exact hl, fun q hq => (su.2 q hq).trans su.1.symm, rfl⟩) fun σ1 G1 H1 A1 => ?_
  refine ws_ret A1 (j_tupleL (J.is (JLc.n (jc1 3 sc_table_product.nd (ji_tup (jv 0)) (f := fun r => rowD (TM.led r u)) (fun r hr => ?_) ?_)).lst ?_).l) fin.rt
  · refine j_tupleL (J.is (JLc.n (jc1 4 sc_table_product.nd (ji_lst (jv 2)) (f := fun c => D.int (TM.prod r c)) (fun c hc => ?_) ?_)).lst ?_).l
    · refine j_call (ok_product_of T) (ja_cons (jv 3) (ja_cons (jv 4) ja_nil)) ⟨_, _, r, c, a, b, rfl, .inl rfl, .inl rfl, ?_, ?_, ba r hr, TM.cols_bd bb c hc, hab, rfl⟩
      · rw [TM.cols_row hc, st.2 r hr, su.1]
      · rw [st.2 r hr]
        omega
    · rw [TM.cols_length, su.1]
      omega
    · unfold TM.led
      rw [List.map_map]
      rfl
  · rw [st.1]
    omega
  · unfold TM.tmul
    rw [List.map_map]
    rfl
def f_still_table (ds : List D) (d : D) : Prop := ∃ n : Nat, ds = [.int (n : Int)] ∧ n < 1000 ∧ d = tabD (TM.still n)
theorem ok_still_table {W : Gx} (T : Tx W) : OkF W 1 "still_table" 1 f_still_table := by
  have mt := T.m_tuple
  have mi := T.m_int
  have mr := T.m_range
  refine mk_still_table T fun ds d G0 H0 σ D' hf hn A fin => ?_
  obtain ⟨n, rfl, hl, rfl⟩ := hf
  refine ws_ret A (j_tupleL (J.is (JLc.n (jc1 1 sc_still_table.nd (ji_range1 (jv 0) (by omega)) (f := fun (s : Nat) => rowD ((List.range n).map fun (p : Nat) => if p = s then (1 : Int) else 0)) (fun s hs => ?_) ?_)).lst ?_).l) fin.rt
  · refine j_tupleL (J.is (JLc.n (jc1 2 sc_still_table.nd (ji_range1 (jv 0) (by omega)) (f := fun (p : Nat) => D.int (if p = s then (1 : Int) else 0)) (fun p hp => ?_) ?_)).lst ?_).l
    · refine J.is (j_intB (j_cmp c_eqI (jv 2) (jv 1))) ?_
      by_cases h : p = s
      · rw [if_pos (decide_eq_true (by rw [h])), if_pos h]
      · rw [if_neg (by simp; omega), if_neg h]
    · rw [List.length_range]
      omega
    · rw [List.map_map]
      rfl
  · rw [List.length_range]
    omega
  · unfold TM.still
    rw [List.map_map]
    rfl
def f_times_column (ds : List D) (d : D) : Prop := ∃ (t : List (List Int)) (c : List Int) (a b : Nat), ds = [tabD t, rowD c] ∧ t.length < 1000 ∧ c.length < 1000 ∧ (∀ q ∈ t, q.length = c.length) ∧ TM.BdT a t ∧ TM.Bd b c ∧ a + b ≤ 999990 ∧ d = rowD (TM.tcol t c)
theorem ok_times_column {W : Gx} (T : Tx W) : OkF W 2 "times_column" 2 f_times_column := by
  have mt := T.m_tuple
  refine mk_times_column T fun ds d G0 H0 σ D' hf hn A fin => ?_
  obtain ⟨t, c, a, b, rfl, hl, hc, hsq, ba, bb, hab, rfl⟩ := hf
  refine ws_ret A (j_tupleL (J.is (JLc.n (jc1 2 sc_times_column.nd (ji_tup (jv 0)) (f := fun r => D.int (TM.prod r c)) (fun r hr => ?_) ?_)).lst ?_).l) fin.rt
  · exact j_call (ok_product_of T) (ja_cons (jv 2) (ja_cons (jv 1) ja_nil)) ⟨_, _, r, c, a, b, rfl, .inl rfl, .inl rfl, hsq r hr, by rw [hsq r hr]; omega, ba r hr, bb, hab, rfl⟩
  · omega
  · unfold TM.tcol
    rw [List.map_map]
    rfl
end TH
set_option maxHeartbeats 4000000
namespace TH
open PySem PySem.Spec PyProof.Rows L2
section
variable {W : Gx} {S : Sc} {k : Nat} {env : List Sl} {a b c e : Expr} {pos p p2 : Pos} {i j : Int} {z : Str} {ds : List D}
theorem j_isi2 {T : String} {d : D} {t : Value} {r : Bool} {tn : Str} {pt : Pos} (ha : J W S k a env d) (hty : ∀ G H v, Ex G H → Rep W.K G d v → TyX W.K H v t) (hT : RelV (.ty T) (.type T)) (hk : PySem.W.kitOne W.K t (.type T) = some r) (hgT : GlS S tn) (hmT : W.mg tn = none) (hvT : bootBuiltins tn = some (.type T)) (hnT : tn ≠ "__name__" := by decide) (hdT : (tn == ("__debug__" : Str)) = false := by decide)
    (hg : GlS S "isinstance" := by exact rfl) (hm : W.mg "isinstance" = none := by assumption) (he : Plain a := by intro _ _; rfl) : J W S k (.Call (.Name "isinstance" p) [a, .Name tn pt] [] pos) env (.bl r) := fun σ G H x0 E Q q =>
  wE_X (fun X hX => pe_callB call_isi (hX.gl hg) (by rw [hX.mg]; exact hm) (by decide +kernel) (pa_cons (pe_w hX a) (pa_cons (pe_bltn (v := .ty T) (hX.gl hgT) (by rw [hX.mg]; exact hmT) hvT hT hnT hdT) pa_nil) (he _ X.env)) (by decide) (by decide) (he _ X.env) rfl) fun X hX => ha σ G H x0 E _ fun v G1 H1 s1 r1 => by
    refine ⟨v, .ty T, t, .type T, r, rfl, .ty T, ?_, ?_, q _ G1 H1 s1 rfl⟩
    · rw [hX.K]
      exact hty G1 H1 v s1.s r1
    · rw [hX.K]
      exact hk
theorem j_isInt {pt : Pos} (ha : J W S k a env (.int i)) (hgT : GlS S "int" := by exact rfl) (hmT : W.mg "int" = none := by assumption) (hg : GlS S "isinstance" := by exact rfl) (hm : W.mg "isinstance" = none := by assumption) (he : Plain a := by intro _ _; rfl) : J W S k (.Call (.Name "isinstance" p) [a, .Name "int" pt] [] pos) env (.bl true) :=
  j_isi2 (T := "int") (t := .type "int") ha (fun G H v x r => by rw [show v = V.int i from r]; exact .base (.int i)) rfl rfl hgT hmT (by decide +kernel) (by decide) (by decide) hg hm he
theorem j_isBoolI {pt : Pos} (ha : J W S k a env (.int i)) (hgT : GlS S "bool" := by exact rfl) (hmT : W.mg "bool" = none := by assumption) (hg : GlS S "isinstance" := by exact rfl) (hm : W.mg "isinstance" = none := by assumption) (he : Plain a := by intro _ _; rfl) : J W S k (.Call (.Name "isinstance" p) [a, .Name "bool" pt] [] pos) env (.bl false) :=
  j_isi2 (T := "bool") (t := .type "int") ha (fun G H v x r => by rw [show v = V.int i from r]; exact .base (.int i)) rfl rfl hgT hmT (by decide +kernel) (by decide) (by decide) hg hm he
theorem j_isStr {pt : Pos} (ha : J W S k a env (.str z)) (hgT : GlS S "str" := by exact rfl) (hmT : W.mg "str" = none := by assumption) (hg : GlS S "isinstance" := by exact rfl) (hm : W.mg "isinstance" = none := by assumption) (he : Plain a := by intro _ _; rfl) : J W S k (.Call (.Name "isinstance" p) [a, .Name "str" pt] [] pos) env (.bl true) :=
  j_isi2 (T := "str") (t := .type "str") ha (fun G H v x r => by rw [show v = V.str z from r]; exact .base (.str z)) rfl rfl hgT hmT (by decide +kernel) (by decide) (by decide) hg hm he
theorem j_isTup {pt : Pos} (ha : J W S k a env (.tup ds)) (hgT : GlS S "tuple" := by exact rfl) (hmT : W.mg "tuple" = none := by assumption) (hg : GlS S "isinstance" := by exact rfl) (hm : W.mg "isinstance" = none := by assumption) (he : Plain a := by intro _ _; rfl) : J W S k (.Call (.Name "isinstance" p) [a, .Name "tuple" pt] [] pos) env (.bl true) :=
  j_isi2 (T := "tuple") (t := .type "tuple") ha (fun G H v x r => by obtain ⟨a, vs, e, h, _⟩ := r; rw [e]; exact .base (.tup (x _ _ h))) rfl rfl hgT hmT (by decide +kernel) (by decide) (by decide) hg hm he
theorem j_allT {α : Type} {xs : List α} (ha : JL W S k e env (xs.map fun _ => D.bl true)) (hg : GlS S "all" := by exact rfl) (hm : W.mg "all" = none := by assumption) (he : Plain e := by intro _ _; rfl) : J W S k (.Call (.Name "all" p) [e] [] pos) env (.bl true) :=
  J.is (j_all (bs := xs.map fun _ => true) (by rw [List.map_map]; exact ha) hg hm he) (by rw [List.all_map]; exact congrArg D.bl (List.all_eq_true.mpr fun x _ => rfl))
end
def f_is_integer (ds : List D) (d : D) : Prop := ∃ i : Int, ds = [.int i] ∧ d = .bl true
theorem ok_is_integer_tickets {W : Gx} (T : Tx W) : OkF W 1 "is_integer_tickets" 1 f_is_integer := by
  have m1 := T.m_isinstance
  have m2 := T.m_int
  have m3 := T.m_bool
  refine mk_is_integer_tickets T fun ds d G0 H0 σ D' hf hn A fin => ?_
  obtain ⟨i, rfl, rfl⟩ := hf
  exact ws_ret A (J.is (j_and (j_isInt (jv 0)) (fun _ => j_notV (j_isBoolI (jv 0)))) rfl) fin.rt
theorem ok_is_integer_rewriters {W : Gx} (T : Tx W) : OkF W 1 "is_integer_rewriters" 1 f_is_integer := by
  have m1 := T.m_isinstance
  have m2 := T.m_int
  have m3 := T.m_bool
  refine mk_is_integer_rewriters T fun ds d G0 H0 σ D' hf hn A fin => ?_
  obtain ⟨i, rfl, rfl⟩ := hf
  exact ws_ret A (J.is (j_and (j_isInt (jv 0)) (fun _ => j_notV (j_isBoolI (jv 0)))) rfl) fin.rt
def f_are_integers (ds : List D) (d : D) : Prop := ∃ r : List Int, ds = [rowD r, .int (r.length : Int)] ∧ r.length < 1000 ∧ d = .bl true
theorem ok_are_integers {W : Gx} (T : Tx W) : OkF W 2 "are_integers" 2 f_are_integers := by
  have m1 := T.m_isinstance
  have m2 := T.m_tuple
  have m3 := T.m_len
  have m4 := T.m_all
  refine mk_are_integers T fun ds d G0 H0 σ D' hf hn A fin => ?_
  obtain ⟨r, rfl, hl, rfl⟩ := hf
  refine ws_ret A (J.is (j_and3 (r := true) (r' := true) (r2 := true) (j_isTup (jv 0)) (fun _ => J.is (j_cmp c_eqI (j_lenT (jv 0)) (jv 1)) ?_) (fun _ _ => j_allT (xs := r) (JN.l (JLc.n (jc1 2 sc_are_integers.nd (ji_tup (jv 0)) (fun i hi => j_call (ok_is_integer_tickets T) (ja_cons (jv 2) ja_nil) ⟨i, rfl, rfl⟩) ?_))))) rfl) fin.rt
  · rw [List.length_map, decide_eq_true rfl]
  · omega
/-- digits that are such -/
structure Dg (z : Str) : Prop where
  one : 1 ≤ z.cps.toList.length
  ten : z.cps.toList.length ≤ 10
  fig : ∀ c ∈ z.cps.toList, c ∈ ("0123456789" : Str).cps.toList
  ris : ∀ i, i + 1 < z.cps.toList.length → z.cps.toList.getD i 0 < z.cps.toList.getD (i + 1) 0
theorem atS {z : Str} {i : Nat} (h : i < z.cps.toList.length) : atI z.cps.toList (i : Int) = some (z.cps.toList.getD i 0) := by
  refine atI_nat ?_
  rw [List.getD_eq_getElem?_getD, List.getElem?_eq_getElem h]
  rfl
theorem strlen (z : Str) : z.length = z.cps.toList.length := Array.length_toList.symm
def f_are_digits (ds : List D) (d : D) : Prop := ∃ z : Str, ds = [.str z] ∧ Dg z ∧ d = .bl true
theorem ok_are_digits {W : Gx} (T : Tx W) : OkF W 1 "are_digits" 1 f_are_digits := by
  have m1 := T.m_isinstance
  have m2 := T.m_str
  have m3 := T.m_len
  have m4 := T.m_all
  have m5 := T.m_range
  obtain ⟨t, m6⟩ := T.str 83 (x := "FIGURES_tickets")
  refine mk_are_digits T fun ds d G0 H0 σ D' hf hn A fin => ?_
  obtain ⟨z, rfl, dg, rfl⟩ := hf
  have h1 := dg.one
  have h2 := dg.ten
  have hz : (decide (z = "") : Bool) = false := decide_eq_false fun e => by rw [e] at h1; exact absurd h1 (by decide)
  refine ws_ifF A (JT.is (jt_or (r := false) (r' := false) (JT.is (jt_not (jt_val (j_isStr (jv 0)))) rfl) (fun _ => JT.is (jt_cmp c_eqS (jv 0) j_str) hz)) rfl) fun G1 H1 A1 => ?_
  refine ws_ret A1 (J.is (j_and (r := true) (r' := true) (j_allT (xs := z.cps.toList) (JN.l (JLc.n (jc1 1 sc_are_digits.nd (ji_str (jv 0)) (fun c hc => J.is (j_cmp c_inSign (jv 1) (j_glob (v := .str "0123456789") rfl m6 ⟨t, rfl⟩ fun G => rfl)) ?_) ?_)))) (fun _ => j_allT (xs := List.range (z.cps.toList.length - 1)) (JN.l (JLc.n (jc1 2 sc_are_digits.nd (ji_range1 (n := z.cps.toList.length - 1) (J.is (j_sub (j_lenS (jv 0) (by rw [strlen]; omega)) j_int) ?_) (by omega)) (fun i hi => J.is (j_cmp c_ltS (j_ixS (jv 0) (jv 2) (by rw [strlen]; omega) (atS (i := i) ?_)) (j_ixS (jv 0) (j_add (jv 2) j_int) (by rw [strlen]; omega) (atS (i := i + 1) ?_))) ?_) ?_))))) rfl) fin.rt
  · rw [decide_eq_true (dg.fig c hc)]
  · omega
  · rw [strlen]
    exact congrArg D.int (by omega)
  · have := List.mem_range.mp hi
    omega
  · have := List.mem_range.mp hi
    omega
  · have := List.mem_range.mp hi
    refine congrArg D.bl (decide_eq_true ?_)
    exact List.cons_lt_cons_iff.mpr (.inl (dg.ris i (by omega)))
  · rw [List.length_range]
    omega
/-- a ticket over the digits -/
def Tk (z w : Str) : Prop := (∀ c ∈ w.cps.toList, c ∈ z.cps.toList) ∧ w.cps.toList.length < 1000
def f_is_ticket (ds : List D) (d : D) : Prop := ∃ z w : Str, ds = [.str z, .str w] ∧ Tk z w ∧ d = .bl true
theorem ok_is_ticket {W : Gx} (T : Tx W) : OkF W 1 "is_ticket" 2 f_is_ticket := by
  have m1 := T.m_isinstance
  have m2 := T.m_str
  have m4 := T.m_all
  refine mk_is_ticket T fun ds d G0 H0 σ D' hf hn A fin => ?_
  obtain ⟨z, w, rfl, ⟨tk, tl⟩, rfl⟩ := hf
  refine ws_ret A (J.is (j_and (r := true) (r' := true) (j_isStr (jv 1)) (fun _ => j_allT (xs := w.cps.toList) (JN.l (JLc.n (jc1 2 sc_is_ticket.nd (ji_str (jv 1)) (fun c hc => J.is (j_cmp c_inSign (jv 2) (jv 0)) ?_) ?_))))) rfl) fin.rt
  · rw [decide_eq_true (tk c hc)]
  · omega
def f_is_table (ds : List D) (d : D) : Prop := ∃ (n : Nat) (t : List (List Int)), ds = [.int (n : Int), tabD t] ∧ n < 1000 ∧ TM.Sq n t ∧ d = .bl true
theorem ok_is_table {W : Gx} (T : Tx W) : OkF W 3 "is_table" 2 f_is_table := by
  have m1 := T.m_isinstance
  have m2 := T.m_tuple
  have m3 := T.m_len
  have m4 := T.m_all
  refine mk_is_table T fun ds d G0 H0 σ D' hf hn A fin => ?_
  obtain ⟨n, t, rfl, hn, sq, rfl⟩ := hf
  refine ws_ret A (J.is (j_and3 (r := true) (r' := true) (r2 := true) (j_isTup (jv 1)) (fun _ => J.is (j_cmp c_eqI (j_lenT (jv 1)) (jv 0)) ?_) (fun _ _ => j_allT (xs := t) (JN.l (JLc.n (jc1 2 sc_is_table.nd (ji_tup (jv 1)) (fun r hr => j_call (ok_are_integers T) (ja_cons (jv 2) (ja_cons (jv 0) ja_nil)) ⟨r, by rw [sq.2 r hr], by rw [sq.2 r hr]; exact hn, rfl⟩) ?_))))) rfl) fin.rt
  · rw [List.length_map, sq.1, decide_eq_true rfl]
  · rw [sq.1]
    omega
def tabsD (ts : List (List (List Int))) : D := .tup (ts.map tabD)
def f_are_tables (ds : List D) (d : D) : Prop := ∃ (z : Str) (n : Nat) (ts : List (List (List Int))), ds = [.str z, .int (n : Int), tabsD ts] ∧ n < 1000 ∧ ts.length = z.cps.toList.length ∧ ts.length ≤ 1000 ∧ (∀ t ∈ ts, TM.Sq n t) ∧ d = .bl true
theorem ok_are_tables {W : Gx} (T : Tx W) : OkF W 4 "are_tables" 3 f_are_tables := by
  have m1 := T.m_isinstance
  have m2 := T.m_tuple
  have m3 := T.m_len
  have m4 := T.m_all
  refine mk_are_tables T fun ds d G0 H0 σ D' hf hn A fin => ?_
  obtain ⟨z, n, ts, rfl, hn, hl, hl2, sq, rfl⟩ := hf
  refine ws_ret A (J.is (j_and3 (r := true) (r' := true) (r2 := true) (j_isTup (jv 2)) (fun _ => J.is (j_cmp c_eqI (j_lenT (jv 2)) (j_lenS (jv 0) (by rw [strlen]; omega))) ?_) (fun _ _ => j_allT (xs := ts) (JN.l (JLc.n (jc1 3 sc_are_tables.nd (ji_tup (jv 2)) (fun t ht => j_call (ok_is_table T) (ja_cons (jv 1) (ja_cons (jv 3) ja_nil)) ⟨n, t, rfl, hn, sq t ht, rfl⟩) ?_))))) rfl) fin.rt
  · rw [List.length_map, strlen, hl, decide_eq_true rfl]
  · omega
end TH
set_option maxHeartbeats 4000000
namespace TH
open PySem PySem.Spec PyProof.Rows L2
section
variable {W : Gx} {G0 H0 G H G' H' : Hp} {env : List Sl} {σ : L2.St}
/-- a thing of the base is written: base and heap change alike -/
theorem At.mutB {p : Addr} {o : HO} (A : At W G0 H0 env σ G H) (h0 : H0 p ≠ none) (hg : G0 p = none) : At W G0 (upd H0 p o) env σ G (upd H p o) := by
  have hG : G p = none := A.s.o p h0 hg
  have ne : ∀ q, H0 q = none → q ≠ p := fun q e z => h0 (by rw [← z]; exact e)
  refine ⟨⟨A.s.g, A.s.h.upd2, fun a u e => ?_, fun a h1 h2 => ?_⟩, ⟨A.e.len, fun i x u h1 h2 => ?_⟩, fun i ds q h1 h2 => ?_, A.dis⟩
  · rw [upd_ne (fun z => by rw [z, hG] at e; cases e)]
    exact A.s.s a u e
  · by_cases e : a = p
    · rw [e]; exact hG
    · rw [upd_ne e] at h1
      exact A.s.o a h1 h2
  · have hx := A.e.at_ i x u h1 h2
    cases x with
    | no => trivial
    | d x => exact hx
    | raw v => exact hx
    | own ds =>
      obtain ⟨q, vs, e1, e2, e3, e4⟩ := hx
      refine ⟨q, vs, e1, ?_, e3, e4⟩
      rw [e1] at h2
      rw [upd_ne (ne q (A.fresh i ds q h1 h2))]
      exact e2
  · have := A.fresh i ds q h1 h2
    rw [upd_ne (ne q this)]
    exact this
theorem dom_upd {p : Addr} {o : HO} (h0 : H0 p ≠ none) : Dom H0 (upd H0 p o) := fun a => by
  by_cases e : a = p
  · rw [e, upd_same]
    exact ⟨fun z => absurd z h0, fun z => nomatch z⟩
  · rw [upd_ne e]
theorem Dom.trans {A B C : Hp} (h : Dom A B) (h' : Dom B C) : Dom A C := fun a => (h a).trans (h' a)
theorem Dom.refl (A : Hp) : Dom A A := fun _ => Iff.rfl
def putFD (f : Str) (d : D) : List (Str × D) → List (Str × D)
  | [] => [(f, d)]
  | (g, x) :: r => if g = f then (g, d) :: r else (g, x) :: putFD f d r
theorem RepF.put {K : PySem.W.Frag} {f : Str} {d : D} {v : V} (r : Rep K G d v) : ∀ {fs : List (Str × D)} {ws : List (Str × V)}, RepF K G fs ws → RepF K G (putFD f d fs) (putF f v ws)
  | [], ws, h => by
    rw [show ws = [] from h]
    exact ⟨v, [], rfl, r, rfl⟩
  | (g, x) :: fs, ws, h => by
    obtain ⟨u, us, rfl, h1, h2⟩ := h
    show RepF K G (if g = f then (g, d) :: fs else (g, x) :: putFD f d fs) (if g = f then (g, v) :: us else (g, u) :: putF f v us)
    by_cases e : g = f
    · rw [if_pos e, if_pos e]
      exact ⟨v, us, rfl, r, h2⟩
    · rw [if_neg e, if_neg e]
      exact ⟨u, _, rfl, h1, RepF.put r h2⟩
theorem RepF.length {K : PySem.W.Frag} : ∀ {fs : List (Str × D)} {ws : List (Str × V)}, RepF K G fs ws → ws.length = fs.length
  | [], ws, h => by rw [show ws = [] from h]; rfl
  | (g, x) :: fs, ws, h => by
    obtain ⟨u, us, rfl, h1, h2⟩ := h
    rw [List.length_cons, List.length_cons, RepF.length h2]
/-- an own instance stands in the base at p with the fields fs -/
def Obj1 (K : PySem.W.Frag) (G H0 : Hp) (p C : Addr) (fs : List (Str × D)) : Prop := ∃ dx ws, H0 p = some (.ins C dx ws) ∧ RepF K G fs ws
theorem Obj1.mono {K : PySem.W.Frag} {p C : Addr} {fs : List (Str × D)} (h : Obj1 K G H0 p C fs) (e : Ex G G') : Obj1 K G' H0 p C fs := let ⟨dx, ws, h1, h2⟩ := h; ⟨dx, ws, h1, h2.mono e⟩
end
section
variable {W : Gx} {S : Sc} {k : Nat} {G0 H0 G H : Hp} {env : List Sl} {σ : L2.St} {D' : Ends} {rest : List Stmt} {e a b c tg : Expr} {pos pos' p p1 p2 p3 p4 : Pos} {x y z f : Str} {i j l : Nat} {d d' d2 : D}
/-- a name whose slot holds just v -/
theorem jraw (i : Nat) {v : V} (he : env[i]? = some (.raw v) := by rfl) (hN : S.N[i]? = some x := by rfl) (hv : VisS S x := by first | exact Or.inl rfl | exact Or.inr (Or.inl rfl) | exact Or.inr (Or.inr rfl)) (hd : (x == ("__debug__" : Str)) = false := by decide) (hcd : (x == ("__classdict__" : Str)) = false := by decide) : JP W S k (.Name x pos) env fun u _ _ => u = v :=
  fun σ G H x0 E Q q => wE_of (fun X hX => pe_var (i := i) (by rw [hX.N]; exact hN) (by rw [hX.sc]; exact hv) hd hcd) (by
    obtain ⟨o, e, r⟩ := E.get he
    have r' : o = some v := r
    subst r'
    exact ⟨v, e, q v G H (.refl x0) rfl⟩)
/-- x.f = e, x an instance that is being made -/
theorem ws_fld {q C : Addr} {fs : List (Str × D)} (A : At W G0 H0 env σ G H) (i : Nat) (ob : Obj1 W.K G H0 q C fs) (hg : G0 q = none) (cl : Cls W.K C) (na : NoAttr W.K C f) (he : J W S k e env d)
    (next : ∀ H1' G' H', (∀ a, a ≠ q → H1' a = H0 a) → Dom H0 H1' → At W G0 H1' env σ G' H' → Ex G G' → Obj1 W.K G' H1' q C (putFD f d fs) → wSs W S k rest D' σ H')
    (hl : fs.length < 1000 := by first | decide | exact Nat.le_of_ble_eq_true rfl) (hi : env[i]? = some (.raw (.ref q)) := by rfl) (hN : S.N[i]? = some x := by rfl) (hv : VisS S x := by first | exact Or.inl rfl | exact Or.inr (Or.inl rfl) | exact Or.inr (Or.inr rfl)) (hd : (x == ("__debug__" : Str)) = false := by decide) (hcd : (x == ("__classdict__" : Str)) = false := by decide)
    (hs : ∀ env : Env, swapsWith e (some (.Attribute (.Name x p) f pos')) pos.line env = pure false := by intro _; rfl) : wSs W S k (.Assign [.Attribute (.Name x p) f pos'] e pos :: rest) D' σ H :=
  wSs_cons (wS_X (fun X hX => ps_fld (pe_w hX (.Name x p)) (pe_w hX e) (hs X.env)) fun X hX => he σ G H A.s.s A.e _ fun v G1 H1 s1 r1 => jraw i hi hN hv hd hcd σ G1 H1 s1.s (A.e.mono s1) _ fun u G2 H2 s2 eu => by
    subst eu
    obtain ⟨dx, ws, h1, h2⟩ := ob
    have A2 := A.mono (s1.trans s2)
    have h0 : H0 q ≠ none := by rw [h1]; exact fun z => nomatch z
    refine ⟨q, C, dx, ws, rfl, A2.s.h _ _ h1, by rw [hX.K]; exact cl, by rw [hX.K]; exact na, by rw [h2.length]; exact hl, ?_⟩
    exact next (upd H0 q (.ins C dx (putF f v ws))) G2 _ (fun a ha => upd_ne ha) (dom_upd h0) (A2.mutB h0 hg) (s1.g.trans s2.g) ⟨dx, _, upd_same, (h2.mono (s1.g.trans s2.g)).put (r1.mono s2.g)⟩)
end
/-- what __init__ does: from an instance without fields to the fields fs -/
def spI (K : PySem.W.Frag) (C : Addr) (n : Nat) (f : List D → List (Str × D) → Prop) : Sp := fun vs H Q _ => ∃ p dx G H0 ds fs us, vs = V.ref p :: us ∧ ds.length = n ∧ Ex G H0 ∧ G p = none ∧ H0 p = none ∧ H = upd H0 p (.ins C dx []) ∧ Reps K G ds us ∧ f ds fs ∧
  ∀ G' H' dx' ws, Stp G H0 G' H' → G' p = none → H' p = some (.ins C dx' ws) → RepF K G' fs ws → Q .non H'
structure OkI (W : Gx) (k : Nat) (x : Str) (n : Nat) (f : List D → List (Str × D) → Prop) : Prop where
  ex : ∃ fd ps, W.mg x = some (.ref (He.ga W.K x)) ∧ Mk W.K (He.ga W.K x) (He.ma W.K (He.ga W.K x) "__init__") ∧ Binds W.K fd ps [] ∧ FnOk W.P W.w W.K W.mg W.base CX0 k (He.ma W.K (He.ga W.K x) "__init__") fd ps (spI W.K (He.ga W.K x) n f)
section
variable {W : Gx} {S : Sc} {k : Nat} {env : List Sl} {e : Expr} {pos p : Pos} {x : Str}
/-- C(..) comes to a new instance, being made yet -/
def JO1 (W : Gx) (S : Sc) (k : Nat) (e : Expr) (env : List Sl) (C : Addr) (fs : List (Str × D)) : Prop := ∀ σ G H, Ex G H → EnvR W.K G H σ env → ∀ Q : VK, (∀ q dx ws G' H', Stp G H G' H' → H q = none → G' q = none → H' q = some (.ins C dx ws) → RepF W.K G' fs ws → Q (.ref q) H') → wE W S k e σ H Q
theorem jo_make {n kf : Nat} {f : List D → List (Str × D) → Prop} {es : List Expr} {ds : List D} {fs : List (Str × D)} (F : OkI W kf x n f) (ha : JA W S k (e :: es) env ds) (hf : f ds fs) (hk : kf + 1 ≤ k := by decide) (hn : ds.length = n := by rfl) (hg : GlS S x := by exact rfl)
    (he : Plain e := by intro _ _; rfl) (hpl : ∀ env : Env, (backTo pos (starEach es env)).any (·.1) = false := by intro _; rfl) (hdb : (x == ("__debug__" : Str)) = false := by decide) : JO1 W S k (.Call (.Name x p) (e :: es) [] pos) env (He.ga W.K x) fs := fun σ G H x0 E Q q => by
  obtain ⟨fd, ps, hm, mk, hb, F⟩ := F.ex
  refine wE_X (fun X hX => pe_make (X := X) (C := He.ga W.K x) (sp := spI W.K (He.ga W.K x) n f) (dvs := []) (ds := []) (E := E0) (by rw [hX.K]; exact mk) (by rw [hX.P, hX.w, hX.K, hX.mg, hX.base]; exact F) (hX.room.mono hk) (hX.gl hg) (by rw [hX.mg]; exact hm) (by rw [hX.K]; exact hb) .nil pass0 (pa_w hX (e :: es)) hdb (he es X.env) (hpl X.env)) fun X hX => ha σ G H x0 E _ fun vs G1 H1 s1 r1 => fun y dx h1 h2 hne => ?_
  refine ⟨y, dx, G1, upd H1 dx (.own y), ds, fs, vs, by rw [List.append_nil], hn, s1.s.trans (.new h2), s1.s.none h1, by rw [upd_ne (Ne.symm hne)]; exact h1, rfl, r1, hf, fun G' H' dx' ws s2 g2 h3 r3 => ⟨rfl, ?_⟩⟩
  have g2' : Stp G1 H1 G' H' := ⟨s2.g, (Ex.new h2).trans s2.h, s2.s, fun a ha hg' => s2.o a (fun z => ha (by
    by_cases e : a = dx
    · rw [e] at ha
      exact absurd h2 ha
    · rw [upd_ne e] at z
      exact z)) hg'⟩
  exact q y dx' ws G' H' (s1.trans g2') (s1.h.none h1) g2 h3 r3
theorem JO1.j {C : Addr} {fs : List (Str × D)} (h : JO1 W S k e env C fs) : J W S k e env (.ins C fs) := fun σ G H x0 E Q q => h σ G H x0 E Q fun p dx ws G' H' s h1 h2 h3 r =>
  q (.ref p) (upd G' p (.ins C dx ws)) H' (s.freeze h1 h2 h3) ⟨p, dx, ws, rfl, upd_same, r.mono (.new h2)⟩
end
end TH
set_option maxHeartbeats 4000000
namespace TH
open PySem PySem.Spec PyProof.Rows L2
section
variable {X : Cx} {C f : Addr} {fd : FuncData} {ps : List Str} {k : Nat} {sp : Sp}
theorem call_lenO (F : FnOk X.prog X.w X.K X.mg X.base CX0 k f fd ps sp) (hs : PySem.W.findIn X.K (.ref C) "__len__" = some (some (.ref f))) (hf : PySem.W.isFn X.K (.ref f) = true) (hb : Binds X.K fd ps []) (hr : Room (k + 1) X.A) :
    CallR X (.builtin "len") (fun xs H Q => ∃ a dx fs, xs = [.ref a] ∧ H a = some (.ins C dx fs) ∧ sp [.ref a] H (fun v H' => ∃ n : Nat, v = .int (n : Int) ∧ n < 2 ^ 62 ∧ Q v H') E0) := by
  intro pins s σ H xs us Q I r h
  obtain ⟨a, dx, fs, rfl, ha, hsp⟩ := h
  cases r with
  | cons r rr =>
    cases rr
    cases r
    obtain ⟨mA, J, _⟩ := ins_get I.hok ha
    obtain ⟨od, J, _⟩ := J.look
    obtain ⟨m, hF⟩ := I.fr
    refine PySem.W.len_K hF I.ok.mod.kin J hs hf ?_
    have e0 : Env0 X.prog X.w X.K X.mg X.base X.A.in1 X.stack s H := by
      have e := I.env0
      exact ⟨e.frames, e.mod, e.bs, e.bsz, e.funs, e.frf, e.hok, e.bare⟩
    have hl := F.len _ _ _ _ hsp
    have r2 : Vals [V.ref a] [Value.ref a] := .cons rfl .nil
    refine wpAny_call (codeAny_mono (F.run X.A.in1 X.stack s H ⟨[.ref a], []⟩ [.ref a] [.ref a] _ E0 hr.in1 e0 (by
      have := hb s [.ref a] I.kIn (by simpa using hl)
      simpa using this) r2 hsp) fun r s' hq => ?_)
    cases r with
    | error e => exact pass0 (X := X) pins σ H s e s' I hq
    | ok fl =>
      cases fl with
      | ret w =>
        obtain ⟨z, H', I', rz, n, ez, hn, q⟩ := I.after hq
        subst ez
        obtain ⟨t, rfl⟩ := rz
        exact ⟨⟨by omega, by omega⟩, ⟨.int n, H', I'.tok _, ⟨_, rfl⟩, q⟩⟩
      | next => exact False.elim hq
      | brk => exact False.elim hq
      | cont => exact False.elim hq
end
/-- what isinstance asks of an own class -/
structure InsC (K : PySem.W.Frag) (C : Addr) : Prop where
  cl : Cls K C
  ha : PySem.W.findIn K (.ref C) "__class__" = some (some (.builtin "object.__class__"))
  hn : PySem.W.specialIn K (.builtin "object.__class__") "__get__" = some (some (.builtin "getset_descriptor.__get__"))
  htk : PySem.W.takesIn K (.builtin "object.__class__") = some true
  hm : PySem.W.mroIn K C (.type "object") = some true
  me : PySem.W.kitOne K (.ref C) (.ref C) = some true
theorem call_isC {X : Cx} {C : Addr} (c : InsC X.K C) : CallR X (.builtin "isinstance") (fun xs H Q => ∃ a dx fs, xs = [.ref a, .ref C] ∧ H a = some (.ins C dx fs) ∧ Q (.bl true) H) := by
  intro pins s σ H xs us Q I r h
  obtain ⟨a, dx, fs, rfl, ha, q⟩ := h
  obtain ⟨u, w', rfl, ru, rw'⟩ := vals2 r
  cases rw'
  exact isinst_ok I ru (TyOf.ins ha c.cl c.ha c.hn c.htk c.hm) c.me fun tk => ⟨.bl true, H, I.tok _, rfl, q⟩
section
variable {W : Gx} {S : Sc} {k : Nat} {env : List Sl} {a b c e : Expr} {pos p p2 : Pos} {d : D} {C : Addr} {fs gs : List (Str × D)}
theorem j_lenO {n kf : Nat} {f : List D → D → Prop} (F : OkM W kf C "__len__" 1 f) (ha : J W S k e env (.ins C fs)) (hf : f [.ins C fs] (.int (n : Int))) (hb : n < 2 ^ 62) (hk : kf + 1 ≤ k := by decide) (hg : GlS S "len" := by exact rfl) (hm : W.mg "len" = none := by assumption) (he : Plain e := by intro _ _; rfl) :
    J W S k (.Call (.Name "len" p) [e] [] pos) env (.int (n : Int)) := fun σ G H x0 E Q q => by
  obtain ⟨fa, fd, ps, cl, mt, bd, F⟩ := F.ex
  refine wE_X (fun X hX => pe_callB (r := fun xs H Q => ∃ a dx fs, xs = [.ref a] ∧ H a = some (.ins C dx fs) ∧ spF W.K 1 f [.ref a] H (fun v H' => ∃ n : Nat, v = .int (n : Int) ∧ n < 2 ^ 62 ∧ Q v H') E0) (call_lenO (C := C) (by rw [hX.P, hX.w, hX.K, hX.mg, hX.base]; exact F) (by rw [hX.K]; exact mt.at_) (by rw [hX.K]; exact mt.fn) (by rw [hX.K]; exact bd) (hX.room.mono hk)) (hX.gl hg) (by rw [hX.mg]; exact hm) (by decide +kernel) (pa_cons (pe_w hX e) pa_nil (he [] X.env)) (by decide) (by decide) (he [] X.env) rfl) fun X hX => ha σ G H x0 E _ fun v G1 H1 s1 ⟨a, dx, vs, e1, h1, r1⟩ => by
    subst e1
    refine ⟨a, dx, vs, rfl, s1.s _ _ h1, G1, [.ins C fs], .int (n : Int), rfl, s1.s, ⟨.ref a, [], rfl, ⟨a, dx, vs, rfl, h1, r1⟩, rfl⟩, hf, fun u G2 H2 s2 r2 => ?_⟩
    exact ⟨n, r2, hb, q u G2 H2 (s1.trans s2) r2⟩
/-- x == y of two instances that are equal by their own == -/
def REq (K : PySem.W.Frag) (C : Addr) (fs gs : List (Str × D)) : Addr → Addr → Hp → Prop := fun a b H => ∃ G, Ex G H ∧ Rep K G (.ins C fs) (.ref a) ∧ Rep K G (.ins C gs) (.ref b)
theorem j_eqO {kf : Nat} {f : List D → D → Prop} (F : OkM W kf C "__eq__" 2 f) (ha : J W S k a env (.ins C fs)) (hb : J W S k b env (.ins C gs)) (hf : f [.ins C fs, .ins C gs] (.bl true)) (hk : kf ≤ k := by decide) (hm : behindInMarks .Eq b = false := by first | exact nomark _ | rfl) :
    J W S k (.Compare a [.Eq] [b] pos) env (.bl true) := fun σ G H x E Q q => by
  obtain ⟨fa, fd, ps, cl, mt, bd, F⟩ := F.ex
  refine wE.mk fun X hX pins s I => ?_
  have F2 : FnOk X.prog X.w X.K X.mg X.base CX0 kf fa fd ps (spEq (REq W.K C fs gs)) := by
    rw [hX.P, hX.w, hX.K, hX.mg, hX.base]
    refine F.imp fun vs H Q E hs => ?_
    obtain ⟨a, b, rfl, ⟨G, x, r1, r2⟩, q⟩ := hs
    exact ⟨G, [.ins C fs, .ins C gs], .bl true, rfl, x, ⟨.ref a, [.ref b], rfl, r1, .ref b, [], rfl, r2, rfl⟩, hf, fun v G' H' s2 r3 => by
      rw [show v = V.bl true from r3]
      exact q H' s2.h⟩
  have R := rcG_ins (C := C) (E := E0) F2 (by rw [hX.K]; exact mt.at_) (by rw [hX.K]; exact mt.fn) (by rw [hX.K]; exact bd) pass0
  refine (pe_cmpR (pos := pos) (op_eqG R (hX.room.mono hk)) (pe_w hX a) (pe_w hX b) hm).run pins s σ H Q I ?_
  refine ha σ G H x E _ fun u G1 H1 s1 r1 => hb σ G1 H1 s1.s (E.mono s1) _ fun v G2 H2 s2 r2 => ?_
  have r1' := r1.mono s2.g
  obtain ⟨a1, dx, fs1, rfl, h1, rf1⟩ := id r1'
  obtain ⟨a2, dy, gs1, rfl, h2, rf2⟩ := id r2
  refine ⟨⟨a1, a2, dx, dy, fs1, gs1, rfl, rfl, s2.s _ _ h1, s2.s _ _ h2, G2, s2.s, r1', r2⟩, fun H' ex => q _ G2 H' (s1.trans (s2.trans ⟨fun _ _ z => z, ex, s2.s.trans ex, fun _ _ z => z⟩)) rfl⟩
/-- isinstance(x, C), x an instance of C -/
theorem j_isO {x : Str} {pt : Pos} (c : InsC W.K C) (hmg : W.mg x = some (.ref C)) (ha : J W S k a env (.ins C fs)) (hgT : GlS S x := by exact rfl) (hdT : (x == ("__debug__" : Str)) = false := by decide) (hg : GlS S "isinstance" := by exact rfl) (hm : W.mg "isinstance" = none := by assumption) (he : Plain a := by intro _ _; rfl) :
    J W S k (.Call (.Name "isinstance" p) [a, .Name x pt] [] pos) env (.bl true) := fun σ G H x0 E Q q =>
  wE_X (fun X hX => pe_callB (call_isC (C := C) (by rw [hX.K]; exact c)) (hX.gl hg) (by rw [hX.mg]; exact hm) (by decide +kernel) (pa_cons (pe_w hX a) (pa_cons (pe_glob (v := .ref C) (hX.gl hgT) (by rw [hX.mg]; exact hmg) rfl hdT) pa_nil) (he _ X.env)) (by decide) (by decide) (he _ X.env) rfl) fun X hX => ha σ G H x0 E _ fun v G1 H1 s1 ⟨a1, dx, vs, e1, h1, r1⟩ => by
    subst e1
    exact ⟨a1, dx, vs, rfl, s1.s _ _ h1, q _ G1 H1 s1 rfl⟩
/-- a property -/
structure OkP (W : Gx) (k : Nat) (C : Addr) (m : Str) (f : List D → D → Prop) : Prop where
  ex : ∃ pa fa fd ps, Cls W.K C ∧ PropOf W.K C m pa fa ∧ Binds W.K fd ps [] ∧ FnOk W.P W.w W.K W.mg W.base CX0 k fa fd ps (spF W.K 1 f)
theorem j_prop {kf : Nat} {m : Str} {f : List D → D → Prop} (F : OkP W kf C m f) (ha : J W S k e env (.ins C fs)) (hf : f [.ins C fs] d) (hk : kf + 1 ≤ k := by decide) (hab : ∀ env : Env, attributeBase e m env (eval e env) = eval e env := by intro _; rfl) : J W S k (.Attribute e m pos) env d := fun σ G H x0 E Q q => by
  obtain ⟨pa, fa, fd, ps, cl, pr, bd, F⟩ := F.ex
  refine wE_X (fun X hX => pe_prop (dvs := []) (ds := []) (E := E0) (pe_w hX e) (by rw [hX.K]; exact cl) (by rw [hX.K]; exact pr) (by rw [hX.P, hX.w, hX.K, hX.mg, hX.base]; exact F) (hX.room.mono hk) (by rw [hX.K]; exact bd) .nil pass0 (hab X.env)) fun X hX => ha σ G H x0 E _ fun v G1 H1 s1 ⟨a, dx, vs, e1, h1, r1⟩ => by
    subst e1
    refine ⟨a, dx, vs, rfl, s1.s _ _ h1, G1, [.ins C fs], d, rfl, s1.s, ⟨.ref a, [], rfl, ⟨a, dx, vs, rfl, h1, r1⟩, rfl⟩, hf, fun u G2 H2 s2 r2 => q u G2 H2 (s1.trans s2) r2⟩
end
theorem Tx.isC {W : Gx} (T : Tx W) {x : Str} (h : isiB W.K x = true) (c : Cls W.K (He.ga W.K x)) : InsC W.K (He.ga W.K x) := by
  unfold isiB at h
  rw [Bool.and_eq_true, Bool.and_eq_true, Bool.and_eq_true, Bool.and_eq_true] at h
  obtain ⟨h1, h2, h3, h4, h5⟩ := h
  exact ⟨c, He.eqO_ok h1, of_decide_eq_true h2, of_decide_eq_true h3, of_decide_eq_true h4, of_decide_eq_true h5⟩
theorem Tx.isTally {W : Gx} (T : Tx W) : InsC W.K (He.ga W.K "Tally") := by
  have h := T.ex
  unfold exB at h
  rw [Bool.and_eq_true] at h
  exact T.isC h.1 T.c_Tally
/-- the body of __init__ -/
theorem okI_of {W : Gx} (T : Tx W) (i g c mk ga : Nat) {x : Str} {d : He.DefD} {N ps : List Str} {k n : Nat} {f : List D → List (Str × D) → Prop} (hd : fn[i]? = some d) (hx : d.at_ = (x, some ("__init__" : Str))) (h1 : d.dfl = []) (h2 : d.kwd = []) (hg : fa[g]? = some (.meth x "__init__")) (hc : fa[c]? = some (.cls x)) (hmk : fa[mk]? = some (.mkr x)) (hga : fa[ga]? = some (.glo x)) (S : FnScope N ps d.scope) (hn : ps.length = n + 1)
    (hb : ∀ (kV doc pm : Value) (an : Option Addr) (cdv ct : Value) (us : List Value), us.length = ps.length → bindArgs (PySem.W.fnOf d.name d.qual d.params d.body d.scope .none kV doc pm an cdv ct) ⟨us, []⟩ = pure (ps.zip us))
    (h : ∀ ds fs p dx G0 H0 σ D', f ds fs → ds.length = n → G0 p = none → H0 p = some (.ins (He.ga W.K x) dx []) → At W G0 H0 (Sl.raw (.ref p) :: (ds.map .d ++ List.replicate (N.length - (n + 1)) .no)) σ G0 H0 →
      (∀ σ' G' H' H1, Dom H0 H1 → (∀ a, a ≠ p → H1 a = H0 a) → (∃ e, At W G0 H1 e σ' G' H') → Obj1 W.K G' H1 p (He.ga W.K x) fs → D'.nx σ' H') → wSs W (defS N d.scope) k d.body D' σ H0) : OkI W (k + 1) x n f := by
  obtain ⟨fd, F⟩ := T.def_ i hd
  have e1 : d.dvs W.K = [] := by
    unfold He.DefD.dvs
    rw [h1]
    rfl
  have e2 : d.kws W.K = [] := by
    unfold He.DefD.kws
    rw [h2]
    rfl
  rw [e1, e2] at F
  have e3 : He.fAd W.K d.at_ = He.ma W.K (He.ga W.K x) "__init__" := by
    rw [hx]
    rfl
  rw [e3] at F
  refine ⟨fd, ps, T.glo ga hga, T.mkr mk hmk, F.bindsN hb, ?_⟩
  refine F.ok S (fun vs H Q E hs => ?_) fun cdv A outer s H vs Q E hr hsp => ?_
  · obtain ⟨p, dx, G, H0, ds, fs, us, rfl, hl, _, _, _, _, r, _⟩ := hs
    rw [List.length_cons, r.length, hl, hn]
  · obtain ⟨p, dx, G, H0, ds, fs, us, rfl, hl, x0, hg, h0, rfl, r, hf, q⟩ := hsp
    refine ⟨_, pss_w (W := W) (S := defS N d.scope) (k := k) (X := cxOf CX0 W.P W.w W.K W.mg W.base N d.qual d.scope _ cdv A outer s (upd H0 p (.ins (He.ga W.K x) dx [])) E) ⟨rfl, rfl, rfl, rfl, rfl, rfl, rfl, rfl, rfl, hr⟩ d.body, ?_⟩
    have A0 := start_at (N := N) x0 r
    have hx1 : Ex G (upd H0 p (.ins (He.ga W.K x) dx [])) := x0.trans (.new h0)
    refine h ds fs p dx G (upd H0 p (.ins (He.ga W.K x) dx [])) (L2.start N (.ref p :: us)) _ hf hl hg upd_same ?_ fun σ' G' H' H1 hd1 hs1 hA ob => ?_
    · have hl2 := r.length
      have none_own : ∀ (i : Nat) (es : List D), (Sl.raw (.ref p) :: (ds.map Sl.d ++ List.replicate (N.length - (n + 1)) Sl.no))[i]? ≠ some (.own es) := fun i es hh => by
        rcases List.mem_cons.mp (List.mem_of_getElem? hh) with q | q
        · cases q
        · rcases List.mem_append.mp q with q | q
          · obtain ⟨_, _, q⟩ := List.mem_map.mp q
            cases q
          · cases List.eq_of_mem_replicate q
      have est : L2.start N (V.ref p :: us) = some (V.ref p) :: (us.map some ++ List.replicate (N.length - (n + 1)) none) := by
        unfold L2.start
        rw [List.map_cons, List.length_cons, hl2, hl]
        rfl
      refine ⟨.refl hx1, ⟨?_, fun i sl o h1 h2 => ?_⟩, fun i es p' h1 _ => absurd h1 (none_own i es), fun i j es fs' p' h1 _ _ _ => absurd h1 (none_own i es)⟩
      · rw [est]
        simp only [List.length_cons, List.length_append, List.length_map, List.length_replicate]
        rw [hl2]
      · rw [est] at h2
        cases i with
        | zero =>
          rw [List.getElem?_cons_zero] at h1 h2
          rw [← Option.some.inj h1, ← Option.some.inj h2]
          exact rfl
        | succ i =>
          rw [List.getElem?_cons_succ] at h1 h2
          by_cases hi : i < ds.length
          · rw [List.getElem?_append_left (by rw [List.length_map]; exact hi), List.getElem?_map] at h1
            rw [List.getElem?_append_left (by rw [List.length_map, hl2]; exact hi), List.getElem?_map] at h2
            obtain ⟨dd, hd', e1⟩ := Option.map_eq_some_iff.mp h1
            obtain ⟨v, hv, e2⟩ := Option.map_eq_some_iff.mp h2
            obtain ⟨u, h3, h4⟩ := r.get hd'
            rw [hv] at h3
            cases h3
            rw [← e1, ← e2]
            exact ⟨v, rfl, h4⟩
          · rw [List.getElem?_append_right (by rw [List.length_map]; omega)] at h1
            have : sl = Sl.no := List.eq_of_mem_replicate (List.mem_of_getElem? h1)
            rw [this]
            trivial
    · obtain ⟨e, Af⟩ := hA
      obtain ⟨dx', ws, ho, rf⟩ := ob
      refine q G' H' dx' ws ⟨Af.s.g, fun a o ha => ?_, Af.s.s, fun a ha hga' => Af.s.o a (fun z => ha ?_) hga'⟩ (Af.s.o p (by rw [ho]; exact fun z => nomatch z) hg) (Af.s.h _ _ ho) rf
      · have hne : a ≠ p := fun z => by rw [z, h0] at ha; cases ha
        refine Af.s.h a o ?_
        rw [hs1 a hne, upd_ne hne]
        exact ha
      · by_cases hne : a = p
        · rw [hne, h0]
        · rw [hs1 a hne, upd_ne hne] at z
          exact z
end TH
set_option maxHeartbeats 4000000
namespace TH
open PySem PySem.Spec PyProof.Rows L2
def sgK (c : Nat) : Key := .inr ⟨#[c]⟩
theorem kv_zip : ∀ {ks : List Key} {xs : List V} {us : List Value}, Vals xs us → KV (ks.zip xs) (ks.zip us)
  | [], xs, us, r => by
    rw [List.zip_nil_left, List.zip_nil_left]
    exact .nil
  | k :: ks, _, _, .nil => by
    rw [List.zip_nil_right, List.zip_nil_right]
    exact .nil
  | k :: ks, _, _, .cons h t => by
    rw [List.zip_cons_cons, List.zip_cons_cons]
    exact .cons ⟨rfl, h⟩ (kv_zip t)
def tDZ (K : PySem.W.Frag) (ta tk : TA) : TE := fun σ H Q => ta σ H fun vs H1 => tk σ H1 fun zs H2 => zs = [.bl true] ∧ ∃ (z : Str) (t : Addr) (ys : List V), vs = [.str z, .ref t] ∧ SqT K H2 t ys ∧ ys.length = z.cps.toList.length ∧ ys.length ≤ sizeLine ∧
  ∀ p, H2 p = none → Q (.ref p) (upd H2 p (.dK (mergeK [] ((z.cps.toList.map sgK).zip ys))))
theorem pe_dictZip {X : Cx} {e e2 : Expr} {ta tk : TA} {p p0 pos pos0 : Pos} {kws : List Keyword} (hcalm : X.calm = true) (hg0 : Gl X "dict") (hm0 : X.mg "dict" = none) (hg : Gl X "zip") (hm : X.mg "zip" = none) (ha : PA X [e, e2] ta) (hk : PK X kws tk)
    (hp0 : starEach [Expr.Call (.Name "zip" p) [e, e2] kws pos] X.env = [(false, eval (.Call (.Name "zip" p) [e, e2] kws pos) X.env)] := by rfl)
    (hs : backTo pos (starEach [e, e2] X.env) = (false, eval e X.env) :: backTo pos (starEach [e2] X.env) := by rfl) (hpl : (backTo pos (starEach [e, e2] X.env)).any (·.1) = false := by rfl)
    (hall : (backToKw pos (keywordEach kws X.env)).all (·.1.isSome) = true := by rfl) (hnone : (backToKw pos (keywordEach kws X.env)).any (·.1.isNone) = false := by rfl) (hks : (backToKw pos (keywordEach kws X.env)).filterMap (·.1) = [Str.ofString "strict"] := by rfl) :
    PE X (.Call (.Name "dict" p0) [.Call (.Name "zip" p) [e, e2] kws pos] [] pos0) (tDZ X.K ta tk) := by
  refine ⟨fun pins s σ H Q I h => ?_⟩
  refine Call_ (ld_blt (u := .type "dict") I hg0 hm0 (by decide +kernel) (PyProof.Rows.callWith_type1 (args_cons ?_ hp0) hp0 rfl))
  refine wpAny_Call_Name_kw (ld_blt I hg hm PyProof.Rows.boot_zip ?_)
  refine callWith_typeKw (thn (ha.run pos pins s σ H _ I h) fun us s0 ⟨vs, H0, I0, r1, q1⟩ => thn (hk.run pos pins s0 σ H0 _ I0 q1) fun ws s1 ⟨zs, H1, I1, r2, ez, q2⟩ => ?_) hs hpl hall hnone
  rw [hks]
  obtain ⟨z, t, ys, ex, hq, hl, hz, q⟩ := q2
  subst ex
  subst ez
  cases r2 with
  | cons r2 rr2 =>
    cases rr2
    cases r2
    cases r1 with
    | cons r rr =>
      cases rr with
      | cons r' rr =>
        cases rr
        obtain ⟨tz, rfl⟩ := r
        cases r'
        obtain ⟨its, rv, ht, _⟩ := I1.tuple hq
        have ht' : s1.heap.IsTuple t its.toArray := ht
        have tlt : t < s1.heap.objs.size := by obtain ⟨o, ho, _⟩ := ht; exact Heap.lt_size ho
        refine zip_beginsS (begins_text z tz) (begins_tuple t its.toArray) trivial ht' fun h' gz gTI gTO g1 g2 gsz gk => args_nil ?_
        have hlen : its.toArray.size = z.cps.size := by
          rw [List.size_toArray, ← rv.length, hl, Array.length_toList]
        have nlt : ∀ j, s1.heap.objs.size + j ≠ t := fun j e => by
          rw [← e] at tlt
          exact absurd tlt (Nat.not_lt.mpr (Nat.le_add_right _ _))
        have S := zip_sep2 (N := s1.heap.objs.size) (fp1 := []) (fp2 := [t]) (fun b hb => (List.not_mem_nil hb).elim) (fun b hb => by rw [List.mem_singleton.mp hb]; exact tlt)
        have D1 : ∀ A : Around, A.handled = none → Draws X.prog X.w A s1.heap.objs.size [s1.heap.objs.size] z.cps.size _ _ := fun A hA => Draws.text (prog := X.prog) (w := X.w) hA s1.heap.objs.size z tz
        have D2 : ∀ A : Around, A.handled = none → Draws X.prog X.w A (s1.heap.objs.size + 1) [s1.heap.objs.size + 1, t] z.cps.size (fun i v => its.toArray[i]? = some v) (fun i h => h.IsTupleIter (s1.heap.objs.size + 1) t i ∧ h.IsTuple t its.toArray) := fun A hA => by
          rw [← hlen]
          exact Draws.tuple (prog := X.prog) (w := X.w) hA (s1.heap.objs.size + 1) t (Ne.symm (nlt 1)) its.toArray
        have PA1 := PairArg.zipS S D1 D2 (fun i h h2 st k => let ⟨o, ho, r⟩ := st; ⟨o, k _ (List.mem_singleton.mpr rfl) o ho, r⟩) (fun i h h2 st k => ⟨st.1.at fun o e => k _ (by simp) o e, st.2.at fun o e => k t (by simp) o e⟩)
          (fun i h st b hb => by
            obtain ⟨o, ho, _⟩ := st
            rw [List.mem_singleton.mp hb]
            exact ⟨o, ho⟩) (fun i h st b hb => by
            obtain ⟨⟨o, ho, _⟩, o2, ho2, _⟩ := st
            rcases List.mem_cons.mp hb with e | hb
            · rw [e]; exact ⟨o, ho⟩
            · rw [List.mem_singleton.mp hb]; exact ⟨o2, ho2⟩)
        have I2 : Inv X pins σ H1 { s1 with heap := h' } := I1.kept (t' := s1.toks) gk
        have hzlt : z.cps.toList.length = ys.length := hl.symm
        refine call_dict_pairs (knd := mixKind X.prog X.w) (kvs := (z.cps.toList.map sgK).zip its) PA1 (I1.ok.hd hcalm) ⟨gz, gTI, ⟨_, _, gTO⟩, ⟨_, g1, rfl, rfl⟩, ⟨⟨_, g2, rfl, rfl⟩, ht'.at fun o e => gk t o e⟩⟩ ⟨?_, fun i key v hrel => ?_⟩ ?_ fun h'' tk hd hk2 => ?_
        · rw [List.length_zip, List.length_map, ← rv.length, hl, Nat.min_self, Array.length_toList]
        · obtain ⟨⟨c, u, hc, rfl⟩, hv⟩ := hrel
          refine ⟨sgK c, ?_, keyIs_str ⟨#[c]⟩ u⟩
          rw [List.getElem?_zip_eq_some]
          refine ⟨?_, ?_⟩
          · rw [List.getElem?_map, Array.getElem?_toList, hc]
            rfl
          · rw [List.getElem?_toArray] at hv
            exact hv
        · rw [← Array.length_toList, hzlt]
          exact hz
        · have rel : KV ((z.cps.toList.map sgK).zip ys) ((z.cps.toList.map sgK).zip its) := kv_zip rv
          have hm2 : (h'.objs.size == sysModules) = false := beq_eq_false_iff_ne.mpr (Nat.ne_of_gt I2.big)
          have hlen2 : (mergeK [] ((z.cps.toList.map sgK).zip ys)).length ≤ sizeLine := by
            refine Nat.le_trans (length_mergeK _ []) ?_
            rw [List.length_nil, Nat.zero_add, List.length_zip]
            exact Nat.le_trans (Nat.min_le_right _ _) hz
          have hf : ∀ b ∈ [s1.heap.objs.size + 4, s1.heap.objs.size + 3, s1.heap.objs.size, s1.heap.objs.size + 1], FpOk X pins H1 b := fun b hb => by
            have e' : b = s1.heap.objs.size + 4 ∨ b = s1.heap.objs.size + 3 ∨ b = s1.heap.objs.size ∨ b = s1.heap.objs.size + 1 := by simpa using hb
            have hle : s1.heap.objs.size ≤ b := by
              rcases e' with z | z | z | z
              · rw [z]; exact Nat.le_add_right _ _
              · rw [z]; exact Nat.le_add_right _ _
              · rw [z]; exact Nat.le_refl _
              · rw [z]; exact Nat.le_add_right _ _
            exact I1.fpOk hle (I1.hok.fresh hle)
          exact ⟨.ref h'.objs.size, _, I2.turnedNew (t' := tk) (ch := [s1.heap.objs.size + 4, s1.heap.objs.size + 3, s1.heap.objs.size, s1.heap.objs.size + 1]) (fun b o hb e => hk2 b o hb e) hf (Nat.le_refl _) (show ObjOk X.prog X.w _ _ _ (.dK (mergeK [] ((z.cps.toList.map sgK).zip ys))) from ⟨hlen2, hm2, merged [] ((z.cps.toList.map sgK).zip its), KV.merge rel .nil, hd⟩), rfl, q _ (I2.hok.fresh (Nat.le_refl _))⟩
theorem putK_new {kvs : List (Key × V)} {k : Key} {v : V} (h : k ∉ kvs.map (·.1)) : putK kvs k v = kvs ++ [(k, v)] := by
  unfold putK
  rw [if_neg]
  intro hh
  obtain ⟨x, hx, e⟩ := List.any_eq_true.mp hh
  exact h (List.mem_map.mpr ⟨x, hx, of_decide_eq_true e⟩)
theorem mergeK_new : ∀ (more kvs : List (Key × V)), ((kvs ++ more).map (·.1)).Nodup → mergeK kvs more = kvs ++ more
  | [], kvs, _ => by rw [List.append_nil]; rfl
  | (k, v) :: more, kvs, h => by
    show mergeK (putK kvs k v) more = _
    have hk : k ∉ kvs.map (·.1) := fun hm => by
      rw [List.map_append, List.map_cons] at h
      have := (List.nodup_append.mp h).2.2 k hm k List.mem_cons_self
      exact this rfl
    rw [putK_new hk, mergeK_new more (kvs ++ [(k, v)]) (by rw [List.append_assoc]; exact h), List.append_assoc]
    rfl
theorem repK_zip {K : PySem.W.Frag} {G : Hp} : ∀ {ks : List Key} {ds : List D} {vs : List V}, Reps K G ds vs → RepK K G (ks.zip ds) (ks.zip vs)
  | [], ds, vs, _ => by
    rw [List.zip_nil_left, List.zip_nil_left]
    exact rfl
  | k :: ks, [], vs, h => by
    rw [show vs = [] from h]
    exact rfl
  | k :: ks, d :: ds, vs, h => by
    obtain ⟨v, r, rfl, h1, h2⟩ := h
    rw [List.zip_cons_cons, List.zip_cons_cons]
    exact ⟨v, _, rfl, h1, repK_zip h2⟩
theorem sgK_inj {a b : Nat} (h : sgK a = sgK b) : a = b := by
  have h1 := Sum.inr.inj h
  have h2 := congrArg (fun z : Str => z.cps.toList) h1
  exact List.head_eq_of_cons_eq h2
section
variable {W : Gx} {S : Sc} {k : Nat} {env : List Sl} {a b c e : Expr} {pos p p0 pos0 kp kp2 : Pos} {jj} {z : Str} {ds : List D}
theorem j_dictZip (ha : J W S k a env (.str z)) (hb : J W S k b env (.tup ds)) (hl : ds.length = z.cps.toList.length) (hz : ds.length ≤ 100000) (hn : z.cps.toList.Nodup) (hg : GlS S "zip" := by exact rfl) (hm : W.mg "zip" = none := by assumption) (hg0 : GlS S "dict" := by exact rfl) (hm0 : W.mg "dict" = none := by assumption) (hpa : Plain a := by intro _ _; rfl) (hpb : Plain b := by intro _ _; rfl) :
    J W S k (.Call (.Name "dict" p0) [.Call (.Name "zip" p) [a, b] [⟨some "strict", .Constant (.bool true) jj kp, kp2⟩] pos] [] pos0) env (.dic ((z.cps.toList.map sgK).zip ds)) := fun σ G H x E Q q =>
  wE_X (fun X hX => pe_dictZip hX.calm (hX.gl hg0) (by rw [hX.mg]; exact hm0) (hX.gl hg) (by rw [hX.mg]; exact hm) (pa_cons (pe_w hX a) (pa_cons (pe_w hX b) pa_nil (hpb [] X.env)) (hpa [b] X.env)) (pk_cons pe_bl pk_nil) rfl (by rw [hpa [b] X.env]; rfl) (by rw [hpa [b] X.env, hpb [] X.env]; rfl)) fun X hX =>
    ha σ G H x E _ fun v G1 H1 s1 ev => hb σ G1 H1 s1.s (E.mono s1) _ fun u G2 H2 s2 ⟨t, vs, eu, h2, r2⟩ => by
      rw [show v = V.str z from ev, eu]
      have l2 := r2.length
      refine ⟨rfl, z, t, vs, rfl, .of (s2.s _ _ h2), by rw [l2, hl], by rw [l2]; exact sz hz, fun p hp => ?_⟩
      have hs : Stp G H G2 H2 := s1.trans s2
      have em : mergeK [] ((z.cps.toList.map sgK).zip vs) = (z.cps.toList.map sgK).zip vs := by
        rw [mergeK_new _ [] ?_, List.nil_append]
        rw [List.nil_append, List.map_fst_zip (by rw [List.length_map, l2, hl]; exact Nat.le_refl _)]
        exact List.Pairwise.map sgK (fun a b hab e => hab (sgK_inj e)) hn
      rw [em]
      exact q (.ref p) (upd G2 p (.dK ((z.cps.toList.map sgK).zip vs))) _ (hs.trans (.new s2.s hp)) ⟨p, _, rfl, upd_same, (repK_zip r2).mono (.new (s2.s.none hp))⟩
end
end TH
set_option maxHeartbeats 4000000
namespace TH
open PySem PySem.Spec PyProof.Rows L2
/-- a tally: digits, start, a table for each digit, ends -/
structure Tl where
  z : Str
  st : List Int
  ts : List (List (List Int))
  en : List Int
/-- of the right shape, n states -/
structure WT (n : Nat) (x : Tl) : Prop where
  dg : Dg x.z
  nd : x.z.cps.toList.Nodup
  sl : x.st.length = n
  el : x.en.length = n
  tl : x.ts.length = x.z.cps.toList.length
  sq : ∀ t ∈ x.ts, TM.Sq n t
  lt : n < 1000
/-- entries below 2 ^ b -/
structure WB (b : Nat) (x : Tl) : Prop where
  s : TM.Bd b x.st
  e : TM.Bd b x.en
  t : ∀ t ∈ x.ts, TM.BdT b t
def tlF (x : Tl) : List (Str × D) := [("digits", .str x.z), ("start", rowD x.st), ("tables", tabsD x.ts), ("ends", rowD x.en), ("table_by_digit", .dic ((x.z.cps.toList.map sgK).zip (x.ts.map tabD)))]
def tlD (W : Gx) (x : Tl) : D := .ins (He.ga W.K "Tally") (tlF x)
def fi_Tally (ds : List D) (fs : List (Str × D)) : Prop := ∃ (x : Tl) (n : Nat), WT n x ∧ ds = [.str x.z, rowD x.st, tabsD x.ts, rowD x.en] ∧ fs = tlF x
theorem oki_Tally {W : Gx} (T : Tx W) : OkI W 5 "Tally" 4 fi_Tally := by
  have m1 := T.m_isinstance
  have m2 := T.m_tuple
  have m3 := T.m_len
  have m4 := T.m_dict
  have m5 := T.m_zip
  refine okI_of T 64 87 85 86 64 (x := "Tally") (d := d_Tally_init) (N := N_Tally_init) (ps := ["self", "digits", "start", "tables", "ends"]) (k := 4) (n := 4) (f := fi_Tally) rfl rfl rfl rfl rfl rfl rfl rfl sc_Tally_init rfl (fun _ _ _ _ _ _ us hl => match us, hl with | [_, _, _, _, _], _ => rfl) fun ds fs p dx G0 H0 σ D' hf hn hg h0 A fin => ?_
  obtain ⟨x, n, w, rfl, rfl⟩ := hf
  have hst : x.st.length < 1000 := by rw [w.sl]; exact w.lt
  have hen : x.en.length < 1000 := by rw [w.el]; exact w.lt
  refine ws_ifF A (JT.is (jt_not (jt_val (j_call (ok_are_digits T) (ja_cons (jv 1) ja_nil) ⟨x.z, rfl, w.dg, rfl⟩))) rfl) fun G1 H1 A1 => ?_
  refine ws_ifF A1 (JT.is (jt_or (r := false) (r' := false) (JT.is (jt_not (jt_val (j_isTup (jv 2)))) rfl) (fun _ => JT.is (jt_not (jt_val (j_call (ok_are_integers T) (ja_cons (jv 2) (ja_cons (j_lenT (jv 2)) ja_nil)) ⟨x.st, by rw [List.length_map], hst, rfl⟩))) rfl)) rfl) fun G2 H2 A2 => ?_
  refine ws_ifF A2 (JT.is (jt_not (jt_val (j_call (ok_are_tables T) (ja_cons (jv 1) (ja_cons (j_lenT (jv 2)) (ja_cons (jv 3) ja_nil))) ⟨x.z, n, x.ts, by rw [List.length_map, w.sl], w.lt, w.tl, by have := w.dg.ten; have := w.tl; omega, w.sq, rfl⟩))) rfl) fun G3 H3 A3 => ?_
  refine ws_ifF A3 (JT.is (jt_not (jt_val (j_call (ok_are_integers T) (ja_cons (jv 4) (ja_cons (j_lenT (jv 2)) ja_nil)) ⟨x.en, by rw [List.length_map, w.sl, w.el], hen, rfl⟩))) rfl) fun G4 H4 A4 => ?_
  refine ws_fld (fs := []) A4 0 ⟨dx, [], h0, rfl⟩ hg T.c_Tally T.n_Tally_digits (jv 1) fun b1 G5 H5 e1 d1 A5 _ o1 => ?_
  refine ws_fld A5 0 o1 hg T.c_Tally T.n_Tally_start (jv 2) fun b2 G6 H6 e2 d2 A6 _ o2 => ?_
  refine ws_fld A6 0 o2 hg T.c_Tally T.n_Tally_tables (jv 3) fun b3 G7 H7 e3 d3 A7 _ o3 => ?_
  refine ws_fld A7 0 o3 hg T.c_Tally T.n_Tally_ends (jv 4) fun b4 G8 H8 e4 d4 A8 _ o4 => ?_
  refine ws_fld A8 0 o4 hg T.c_Tally T.n_Tally_table_by_digit (j_dictZip (jv 1) (jv 3) (by rw [List.length_map]; exact w.tl) (by rw [List.length_map]; have := w.dg.ten; have := w.tl; omega) w.nd) fun b5 G9 H9 e5 d5 A9 _ o5 => ?_
  refine ws_nil (fin _ G9 H9 b5 (d1.trans (d2.trans (d3.trans (d4.trans d5)))) (fun a ha => ?_) ⟨_, A9⟩ o5)
  rw [e5 a ha, e4 a ha, e3 a ha, e2 a ha, e1 a ha]
end TH
set_option maxHeartbeats 4000000
namespace TH
open PySem PySem.Spec PyProof.Rows L2
structure Sh (m : Nat) (d : D) : Prop where
  p : plainD d = true
  c : (toP d).canLay0 = true
  d : (toP d).depth ≤ m
theorem Sh.int (i : Int) : Sh 0 (.int i) := ⟨rfl, rfl, Nat.le_refl _⟩
theorem Sh.all {m : Nat} : ∀ {ds : List D}, (∀ d ∈ ds, Sh m d) → plainDs ds = true ∧ PyData.canLayAll0 (toPs ds) = true ∧ PyData.depthAll (toPs ds) ≤ m
  | [], _ => ⟨rfl, rfl, Nat.zero_le _⟩
  | d :: ds, h => by
    obtain ⟨h1, h2, h3⟩ := Sh.all (ds := ds) fun x hx => h x (List.mem_cons_of_mem _ hx)
    have hd := h d List.mem_cons_self
    refine ⟨?_, ?_, ?_⟩
    · show (plainD d && plainDs ds) = true
      rw [hd.p, h1]
      rfl
    · show ((toP d).canLay0 && PyData.canLayAll0 (toPs ds)) = true
      rw [hd.c, h2]
      rfl
    · show max (toP d).depth (PyData.depthAll (toPs ds)) ≤ m
      exact Nat.max_le.mpr ⟨hd.d, h3⟩
theorem Sh.tup {m : Nat} {ds : List D} (h : ∀ d ∈ ds, Sh m d) : Sh (m + 1) (.tup ds) := by
  obtain ⟨h1, h2, h3⟩ := Sh.all h
  exact ⟨h1, h2, Nat.succ_le_succ h3⟩
theorem Sh.lst {m : Nat} {ds : List D} (h : ∀ d ∈ ds, Sh m d) : Sh (m + 1) (.lst ds) := by
  obtain ⟨h1, h2, h3⟩ := Sh.all h
  exact ⟨h1, h2, Nat.succ_le_succ h3⟩
theorem Sh.shaped {m : Nat} {d : D} (h : Sh m d) (hm : m ≤ 64) : SeqAt.shaped (toP d) = true := Bool.and_eq_true_iff.mpr ⟨h.c, decide_eq_true (Nat.le_trans h.d hm)⟩
theorem Sh.row (r : List Int) : Sh 1 (rowD r) := .tup fun d hd => by
  obtain ⟨i, _, rfl⟩ := List.mem_map.mp hd
  exact .int i
theorem Sh.lrow (r : List Int) : Sh 1 (.lst (r.map D.int)) := .lst fun d hd => by
  obtain ⟨i, _, rfl⟩ := List.mem_map.mp hd
  exact .int i
theorem Sh.tab (t : List (List Int)) : Sh 2 (tabD t) := .tup fun d hd => by
  obtain ⟨i, _, rfl⟩ := List.mem_map.mp hd
  exact .row i
theorem Sh.tabs (t : List (List (List Int))) : Sh 3 (tabsD t) := .tup fun d hd => by
  obtain ⟨i, _, rfl⟩ := List.mem_map.mp hd
  exact .tab i
theorem c_eqSh {W : Gx} {S : Sc} {k m : Nat} {d : D} (h : Sh m d) (hm : m ≤ 64 := by decide) : CmpD W S k .Eq d d true := c_eqD h.p h.p (h.shaped hm) (h.shaped hm) (SeqAt.eqv_refl _ h.c)
def f_Tally_len (W : Gx) (ds : List D) (d : D) : Prop := ∃ x : Tl, ds = [tlD W x] ∧ d = .int (x.st.length : Int)
theorem ok_Tally_len {W : Gx} (T : Tx W) : OkM W 1 (He.ga W.K "Tally") "__len__" 1 (f_Tally_len W) := by
  have m3 := T.m_len
  refine mk_Tally_len T fun ds d G0 H0 σ D' hf hn A fin => ?_
  obtain ⟨x, rfl, rfl⟩ := hf
  refine ws_ret A (J.is (j_lenT (j_fld (fs := tlF x) (jv 0) rfl T.c_Tally T.n_Tally_start)) ?_) fin.rt
  rw [List.length_map]
def f_Tally_eq (W : Gx) (ds : List D) (d : D) : Prop := ∃ x : Tl, ds = [tlD W x, tlD W x] ∧ d = .bl true
theorem ok_Tally_eq {W : Gx} (T : Tx W) : OkM W 1 (He.ga W.K "Tally") "__eq__" 2 (f_Tally_eq W) := by
  have m1 := T.m_isinstance
  refine mk_Tally_eq T fun ds d G0 H0 σ D' hf hn A fin => ?_
  obtain ⟨x, rfl, rfl⟩ := hf
  refine ws_ifF A (JT.is (jt_or (r := false) (r' := false) (JT.is (jt_not (jt_val (j_isO (fs := tlF x) T.isTally (T.glo 64) (jv 1)))) rfl) (fun _ => JT.is (jt_cmp c_neS (j_fld (fs := tlF x) (jv 0) rfl T.c_Tally T.n_Tally_digits) (j_fld (fs := tlF x) (jv 1) rfl T.c_Tally T.n_Tally_digits)) ?_)) rfl) fun G1 H1 A1 => ?_
  · rw [decide_eq_true rfl]
    rfl
  · exact ws_ret A1 (J.is (j_and3 (r := true) (r' := true) (r2 := true) (j_cmp (c_eqSh (Sh.row x.st)) (j_fld (fs := tlF x) (jv 0) rfl T.c_Tally T.n_Tally_start) (j_fld (fs := tlF x) (jv 1) rfl T.c_Tally T.n_Tally_start)) (fun _ => j_cmp (c_eqSh (Sh.tabs x.ts)) (j_fld (fs := tlF x) (jv 0) rfl T.c_Tally T.n_Tally_tables) (j_fld (fs := tlF x) (jv 1) rfl T.c_Tally T.n_Tally_tables))
      (fun _ _ => j_cmp (c_eqSh (Sh.row x.en)) (j_fld (fs := tlF x) (jv 0) rfl T.c_Tally T.n_Tally_ends) (j_fld (fs := tlF x) (jv 1) rfl T.c_Tally T.n_Tally_ends))) rfl) fin.rt
/-- the table of the sign c -/
def Tl.tab (x : Tl) (c : Nat) : List (List Int) := x.ts.getD (x.z.cps.toList.idxOf c) []
theorem valD_zip (f : List (List Int) → D) : ∀ (cs : List Nat) (ts : List (List (List Int))) (c : Nat), c ∈ cs → cs.length = ts.length → valD ((cs.map sgK).zip (ts.map f)) (sgK c) = some (f (ts.getD (cs.idxOf c) []))
  | [], _, _, h, _ => by cases h
  | a :: cs, [], c, _, hl => by cases hl
  | a :: cs, t :: ts, c, h, hl => by
    rw [List.map_cons, List.map_cons, List.zip_cons_cons]
    unfold valD
    by_cases e : a = c
    · subst e
      rw [List.find?_cons_of_pos (by exact decide_eq_true rfl), List.idxOf_cons_self]
      rfl
    · rw [List.find?_cons_of_neg (by
        rw [decide_eq_true_eq]
        exact fun q => e (sgK_inj q)), List.idxOf_cons, beq_eq_false_iff_ne.mpr e, cond_false]
      have ih := valD_zip f cs ts c (by
        rcases List.mem_cons.mp h with q | q
        · exact absurd q.symm e
        · exact q) (Nat.succ.inj hl)
      unfold valD at ih
      rw [ih]
      rfl
theorem WT.mem_tab {n : Nat} {x : Tl} (w : WT n x) {c : Nat} (h : c ∈ x.z.cps.toList) : x.tab c ∈ x.ts := by
  unfold Tl.tab
  have hl : x.z.cps.toList.idxOf c < x.ts.length := by
    rw [w.tl]
    exact List.idxOf_lt_length_of_mem h
  rw [List.getD_eq_getElem?_getD, List.getElem?_eq_getElem hl]
  exact List.getElem_mem hl
def f_Tally_step (W : Gx) (ds : List D) (d : D) : Prop := ∃ (x : Tl) (n a b c : Nat) (r : List Int), WT n x ∧ WB b x ∧ c ∈ x.z.cps.toList ∧ r.length = n ∧ TM.Bd a r ∧ a + b ≤ 999990 ∧ ds = [tlD W x, rowD r, sgn c] ∧ d = rowD (TM.led r (x.tab c))
theorem ok_Tally_step {W : Gx} (T : Tx W) : OkM W 3 (He.ga W.K "Tally") "step" 3 (f_Tally_step W) := by
  refine mk_Tally_step T fun ds d G0 H0 σ D' hf hn A fin => ?_
  obtain ⟨x, n, a, b, c, r, w, wb, hc, hr, ba, hab, rfl, rfl⟩ := hf
  have hm := w.mem_tab hc
  have sq := w.sq _ hm
  refine ws_ret A (j_call (ok_led_on T) (ja_cons (jv 1) (ja_cons (j_dget (d := tabD (x.tab c)) (q0 := sgK c) (j_fld (fs := tlF x) (jv 0) rfl T.c_Tally T.n_Tally_table_by_digit) (jv 2 (d := sgn c)) (fun G v h => h) (valD_zip tabD _ _ _ hc w.tl.symm)) ja_nil)) ⟨rowD r, r, x.tab c, a, b, rfl, .inl rfl, by rw [sq.1]; exact w.lt, fun q hq => (sq.2 q hq).trans sq.1.symm, hr.trans sq.1.symm, ba, wb.t _ hm, hab, rfl⟩) fin.rt
/-- the row after a word, from r -/
def Tl.rowF (x : Tl) (r : List Int) (w : List Nat) : List Int := w.foldl (fun r c => TM.led r (x.tab c)) r
def Tl.rowW (x : Tl) (w : List Nat) : List Int := x.rowF x.st w
theorem rowF_ok {n b : Nat} {x : Tl} (w : WT n x) (wb : WB b x) : ∀ (cs : List Nat) (r : List Int) (a : Nat), (∀ c ∈ cs, c ∈ x.z.cps.toList) → r.length = n → TM.Bd a r → (x.rowF r cs).length = n ∧ TM.Bd (a + cs.length * (b + 10)) (x.rowF r cs)
  | [], r, a, _, hl, hb => ⟨hl, by rw [List.length_nil, Nat.zero_mul]; exact hb⟩
  | c :: cs, r, a, hc, hl, hb => by
    have hm := w.mem_tab (hc c List.mem_cons_self)
    have sq := w.sq _ hm
    have h1 : (TM.led r (x.tab c)).length = n := by rw [TM.led_length, sq.1]
    have h2 : TM.Bd (a + b + 10) (TM.led r (x.tab c)) := TM.led_bd hb (wb.t _ hm) (by rw [hl]; have := w.lt; omega)
    obtain ⟨h3, h4⟩ := rowF_ok w wb cs (TM.led r (x.tab c)) (a + b + 10) (fun d hd => hc d (List.mem_cons_of_mem _ hd)) h1 h2
    refine ⟨h3, h4.mono ?_⟩
    rw [List.length_cons, Nat.add_mul, Nat.one_mul]
    omega
theorem rowW_ok {n b : Nat} {x : Tl} (w : WT n x) (wb : WB b x) {cs : List Nat} (hc : ∀ c ∈ cs, c ∈ x.z.cps.toList) : (x.rowW cs).length = n ∧ TM.Bd (b + cs.length * (b + 10)) (x.rowW cs) := rowF_ok w wb cs x.st b hc w.sl wb.s
theorem rowF_snoc (x : Tl) (r : List Int) (cs : List Nat) (c : Nat) : x.rowF r (cs ++ [c]) = TM.led (x.rowF r cs) (x.tab c) := by
  unfold Tl.rowF
  rw [List.foldl_append]
  rfl
theorem bits_le {b l : Nat} (hb : b ≤ 200) (hl : l < 1000) : b + l * (b + 10) ≤ 900000 := by
  have : l * (b + 10) ≤ 1000 * 210 := Nat.mul_le_mul (Nat.le_of_lt hl) (by omega)
  omega
def f_Tally_row (W : Gx) (ds : List D) (d : D) : Prop := ∃ (x : Tl) (n b : Nat) (w : Str), WT n x ∧ WB b x ∧ b ≤ 200 ∧ Tk x.z w ∧ ds = [tlD W x, .str w] ∧ d = rowD (x.rowW w.cps.toList)
theorem take_succ_get {α : Type} {l : List α} {n : Nat} {a : α} (h : l[n]? = some a) : l.take (n + 1) = l.take n ++ [a] := by
  rw [List.take_add_one, h]
  rfl
theorem ok_Tally_row {W : Gx} (T : Tx W) : OkM W 4 (He.ga W.K "Tally") "row" 2 (f_Tally_row W) := by
  refine mk_Tally_row T fun ds d G0 H0 σ D' hf hn A fin => ?_
  obtain ⟨x, n, b, w, hw, hb, hb2, tk, rfl, rfl⟩ := hf
  refine ws_ifF A (JT.is (jt_not (jt_val (j_call (ok_is_ticket T) (ja_cons (j_fld (fs := tlF x) (jv 0) rfl T.c_Tally T.n_Tally_digits) (ja_cons (jv 1) ja_nil)) ⟨x.z, w, rfl, tk, rfl⟩))) rfl) fun G1 H1 A1 => ?_
  refine ws_set A1 sc_Tally_row.nd (sn 2) (j_fld (fs := tlF x) (jv 0) rfl T.c_Tally T.n_Tally_start) fun σ2 G2 H2 A2 => ?_
  refine ws_for (items := w.cps.toList.map sgn) (t := .one 3) (fun i => [.d (tlD W x), .d (.str w), .d (rowD (x.rowW (w.cps.toList.take i))), .no]) A2 sc_Tally_row.nd (ji_str (jv 1)) (.one (sn 3)) (fun _ _ => trivial) (Le.refl _) (fun Gb m dd σ3 G3 H3 nx hd A3 hnx => ?_) fun σ3 G3 H3 A3 => ?_
  · rw [List.getElem?_map] at hd
    obtain ⟨c, hc, rfl⟩ := Option.map_eq_some_iff.mp hd
    have hmem : c ∈ x.z.cps.toList := tk.1 c (List.mem_of_getElem? hc)
    have hl : m < w.cps.toList.length := (List.getElem?_eq_some_iff.mp hc).1
    obtain ⟨r1, r2⟩ := rowW_ok hw hb (cs := w.cps.toList.take m) (fun d hd => tk.1 d (List.mem_of_mem_take hd))
    refine ws_set A3 sc_Tally_row.nd (sn 2) (j_meth (ok_Tally_step T) (fs := tlF x) (jv 0) (ja_cons (jv 2) (ja_cons (jv 3) ja_nil)) ⟨x, n, _, b, c, _, hw, hb, hmem, r1, r2, ?_, rfl, rfl⟩) fun σ4 G4 H4 A4 => ?_
    · have := bits_le hb2 (l := (w.cps.toList.take m).length) (by rw [List.length_take]; have := tk.2; omega)
      omega
    · refine ws_nil (hnx σ4 G4 H4 (At.le (env := [.d (tlD W x), .d (.str w), .d (rowD (TM.led (x.rowW (w.cps.toList.take m)) (x.tab c))), .d (sgn c)]) A4 ?_))
      rw [take_succ_get hc]
      unfold Tl.rowW
      rw [rowF_snoc]
      exact .cons (.cons (.cons (.no .nil)))
  · refine ws_ret A3 (J.is (jv 2) ?_) fin.rt
    rw [List.length_map, List.take_length]
def Tl.worth (x : Tl) (w : List Nat) : Int := TM.prod (x.rowW w) x.en
def f_Tally_worth (W : Gx) (ds : List D) (d : D) : Prop := ∃ (x : Tl) (n b : Nat) (w : Str), WT n x ∧ WB b x ∧ b ≤ 200 ∧ Tk x.z w ∧ ds = [tlD W x, .str w] ∧ d = .int (x.worth w.cps.toList)
theorem ok_Tally_worth {W : Gx} (T : Tx W) : OkM W 5 (He.ga W.K "Tally") "worth" 2 (f_Tally_worth W) := by
  refine mk_Tally_worth T fun ds d G0 H0 σ D' hf hn A fin => ?_
  obtain ⟨x, n, b, w, hw, hb, hb2, tk, rfl, rfl⟩ := hf
  obtain ⟨r1, r2⟩ := rowW_ok hw hb (cs := w.cps.toList) tk.1
  have := bits_le hb2 tk.2
  exact ws_ret A (j_call (ok_product_of T) (ja_cons (j_meth (ok_Tally_row T) (fs := tlF x) (jv 0) (ja_cons (jv 1) ja_nil) ⟨x, n, b, w, hw, hb, hb2, tk, rfl, rfl⟩) (ja_cons (j_fld (fs := tlF x) (jv 0) rfl T.c_Tally T.n_Tally_ends) ja_nil)) ⟨_, _, _, x.en, _, b, rfl, .inl rfl, .inl rfl, by rw [r1, hw.el], by rw [r1]; have := hw.lt; omega, r2, hb.e, by omega, rfl⟩) fin.rt
/-- the table of a word -/
def Tl.tabW (x : Tl) (w : List Nat) : List (List Int) := w.foldl (fun t c => TM.tmul t (x.tab c)) (TM.still x.st.length)
theorem tabF_ok {n b : Nat} {x : Tl} (w : WT n x) (wb : WB b x) : ∀ (cs : List Nat) (t : List (List Int)) (a : Nat), (∀ c ∈ cs, c ∈ x.z.cps.toList) → TM.Sq n t → TM.BdT a t → TM.Sq n (cs.foldl (fun t c => TM.tmul t (x.tab c)) t) ∧ TM.BdT (a + cs.length * (b + 10)) (cs.foldl (fun t c => TM.tmul t (x.tab c)) t)
  | [], r, a, _, hl, hb => ⟨hl, by rw [List.length_nil, Nat.zero_mul]; exact hb⟩
  | c :: cs, r, a, hc, hl, hb => by
    have hm := w.mem_tab (hc c List.mem_cons_self)
    have sq := w.sq _ hm
    have h1 : TM.Sq n (TM.tmul r (x.tab c)) := TM.tmul_sq hl sq
    have h2 : TM.BdT (a + b + 10) (TM.tmul r (x.tab c)) := TM.tmul_bd hb (wb.t _ hm) (fun q hq => by rw [hl.2 q hq]; have := w.lt; omega)
    obtain ⟨h3, h4⟩ := tabF_ok w wb cs (TM.tmul r (x.tab c)) (a + b + 10) (fun d hd => hc d (List.mem_cons_of_mem _ hd)) h1 h2
    refine ⟨h3, h4.mono ?_⟩
    rw [List.length_cons, Nat.add_mul, Nat.one_mul]
    omega
theorem tabW_ok {n b : Nat} {x : Tl} (w : WT n x) (wb : WB b x) {cs : List Nat} (hc : ∀ c ∈ cs, c ∈ x.z.cps.toList) : TM.Sq n (x.tabW cs) ∧ TM.BdT (1 + cs.length * (b + 10)) (x.tabW cs) := tabF_ok w wb cs _ 1 hc (by rw [w.sl]; exact TM.still_sq n) (TM.still_bd _)
theorem tabW_snoc (x : Tl) (cs : List Nat) (c : Nat) : x.tabW (cs ++ [c]) = TM.tmul (x.tabW cs) (x.tab c) := by
  unfold Tl.tabW
  rw [List.foldl_append]
  rfl
def f_Tally_table (W : Gx) (ds : List D) (d : D) : Prop := ∃ (x : Tl) (n b : Nat) (w : Str), WT n x ∧ WB b x ∧ b ≤ 200 ∧ Tk x.z w ∧ ds = [tlD W x, .str w] ∧ d = tabD (x.tabW w.cps.toList)
theorem ok_Tally_table {W : Gx} (T : Tx W) : OkM W 3 (He.ga W.K "Tally") "table" 2 (f_Tally_table W) := by
  have m3 := T.m_len
  refine mk_Tally_table T fun ds d G0 H0 σ D' hf hn A fin => ?_
  obtain ⟨x, n, b, w, hw, hb, hb2, tk, rfl, rfl⟩ := hf
  refine ws_ifF A (JT.is (jt_not (jt_val (j_call (ok_is_ticket T) (ja_cons (j_fld (fs := tlF x) (jv 0) rfl T.c_Tally T.n_Tally_digits) (ja_cons (jv 1) ja_nil)) ⟨x.z, w, rfl, tk, rfl⟩))) rfl) fun G1 H1 A1 => ?_
  refine ws_set A1 sc_Tally_table.nd (sn 2) (j_call (ok_still_table T) (ja_cons (j_lenT (j_fld (fs := tlF x) (jv 0) rfl T.c_Tally T.n_Tally_start)) ja_nil) ⟨x.st.length, by rw [List.length_map], by rw [hw.sl]; exact hw.lt, rfl⟩) fun σ2 G2 H2 A2 => ?_
  refine ws_for (items := w.cps.toList.map sgn) (t := .one 3) (fun i => [.d (tlD W x), .d (.str w), .d (tabD (x.tabW (w.cps.toList.take i))), .no]) A2 sc_Tally_table.nd (ji_str (jv 1)) (.one (sn 3)) (fun _ _ => trivial) (Le.refl _) (fun Gb m dd σ3 G3 H3 nx hd A3 hnx => ?_) fun σ3 G3 H3 A3 => ?_
  · rw [List.getElem?_map] at hd
    obtain ⟨c, hc, rfl⟩ := Option.map_eq_some_iff.mp hd
    have hmem : c ∈ x.z.cps.toList := tk.1 c (List.mem_of_getElem? hc)
    have hl : m < w.cps.toList.length := (List.getElem?_eq_some_iff.mp hc).1
    obtain ⟨r1, r2⟩ := tabW_ok hw hb (cs := w.cps.toList.take m) (fun d hd => tk.1 d (List.mem_of_mem_take hd))
    have hm := hw.mem_tab hmem
    refine ws_set A3 sc_Tally_table.nd (sn 2) (j_call (ok_table_product T) (ja_cons (jv 2) (ja_cons (j_dget (d := tabD (x.tab c)) (q0 := sgK c) (j_fld (fs := tlF x) (jv 0) rfl T.c_Tally T.n_Tally_table_by_digit) (jv 3 (d := sgn c)) (fun G v h => h) (valD_zip tabD _ _ _ hmem hw.tl.symm)) ja_nil)) ⟨_, _, n, _, b, rfl, hw.lt, r1, hw.sq _ hm, r2, hb.t _ hm, ?_, rfl⟩) fun σ4 G4 H4 A4 => ?_
    · have := bits_le hb2 (l := (w.cps.toList.take m).length) (by rw [List.length_take]; have := tk.2; omega)
      omega
    · refine ws_nil (hnx σ4 G4 H4 (At.le (env := [.d (tlD W x), .d (.str w), .d (tabD (TM.tmul (x.tabW (w.cps.toList.take m)) (x.tab c))), .d (sgn c)]) A4 ?_))
      rw [take_succ_get hc, tabW_snoc]
      exact .cons (.cons (.cons (.no .nil)))
  · refine ws_ret A3 (J.is (jv 2) ?_) fin.rt
    rw [List.length_map, List.take_length]
end TH
set_option maxHeartbeats 4000000
namespace L2
open PySem PySem.Spec PyProof.Rows
theorem tuple_mul1 (l : Addr) (items : Array Value) (n : Nat) (dd : Option Addr) (sl : Array (Option Value)) (x : Int) (u : Tok) (c0 : (decide (x < -(2 ^ 63)) || decide (x ≥ 2 ^ 63)) = false) (c1 : (items.isEmpty || x == 1) = true) :
    Meets (Builtin.«tuple.__mul__» ⟨[.ref l, .int x u], []⟩) (fun _ R s => s.heap.get? l = some { cls := .type "tuple", dict := dd, data := .seq items n, slots := sl } ∧ R (.ok (.ret (Value.ref l))) s) :=
  .of_wp fun prog w A R s h => by
    obtain ⟨hp, g, d, tk, os⟩ := s
    obtain ⟨hl, h⟩ := h
    have f1 := AutoSeq1.idx_int
    wp_walk using wpAny_loadPart' hl
    repeat (first
      | (refine wpAny_ite_false (decide_eq_false (by rw [c0]; exact Bool.false_ne_true)) ?_; wp_walk using wpAny_loadPart' hl)
      | (refine wpAny_ite_true (decide_eq_true c1) ?_; wp_walk using wpAny_loadPart' hl))
    exact ⟨_, rfl, h⟩
theorem tuple_mul0 (l : Addr) (items : Array Value) (n : Nat) (dd : Option Addr) (sl : Array (Option Value)) (x : Int) (u : Tok) (c0 : (decide (x < -(2 ^ 63)) || decide (x ≥ 2 ^ 63)) = false) (c1 : (items.isEmpty || x == 1) = false) (c2 : (decide (x ≤ 0) || items.isEmpty) = true) :
    Meets (Builtin.«tuple.__mul__» ⟨[.ref l, .int x u], []⟩) (fun _ R s => s.heap.get? l = some { cls := .type "tuple", dict := dd, data := .seq items n, slots := sl } ∧
      R (.ok (.ret (Value.ref s.heap.objs.size))) { s with heap := s.heap.push { cls := Value.type "tuple", data := Data.seq #[] }, toks := s.toks }) :=
  .of_wp fun prog w A R s h => by
    obtain ⟨hp, g, d, tk, os⟩ := s
    obtain ⟨hl, h⟩ := h
    have f1 := AutoSeq1.idx_int
    wp_walk using wpAny_loadPart' hl
    repeat (first
      | (refine wpAny_ite_false (decide_eq_false (by rw [c0]; exact Bool.false_ne_true)) ?_; wp_walk using wpAny_loadPart' hl)
      | (refine wpAny_ite_false (decide_eq_false (by rw [c1]; exact Bool.false_ne_true)) ?_; wp_walk using wpAny_loadPart' hl)
      | (refine wpAny_ite_true (decide_eq_true c2) ?_; wp_walk using wpAny_loadPart' hl))
    exact ⟨_, rfl, h⟩
def rRepA (K : PySem.W.Frag) : R2 := fun x y H Q => ∃ l k xs, x = .ref l ∧ y = .int k ∧ SqT K H l xs ∧ -1000 ≤ k ∧ k ≤ 1000 ∧ xs.length ≤ 1000 ∧ (xs = [] ∨ k = 1 → Q (.ref l) H) ∧ (xs ≠ [] → k ≤ 0 → ∀ p, H p = none → Q (.ref p) (upd H p (.tup []))) ∧
  (xs ≠ [] → 2 ≤ k → ∀ p, H p = none → Q (.ref p) (upd H p (.tup (List.replicate k.toNat xs).flatten)))
theorem op_repA {X : Cx} : OpR X (binaryOp .Mult) (rRepA X.K) := by
  intro pins s σ H x y v u Q I rx ry h
  obtain ⟨l, k, xs, rfl, rfl, hT, h1, h2, hz, q0, q1, q2⟩ := h
  by_cases c1 : xs = [] ∨ k = 1
  · cases rx
    obtain ⟨t, rfl⟩ := ry
    obtain ⟨its, r, ⟨⟨cls, dd, data, sl⟩, ho, hc, n, hd⟩, hs⟩ := I.tuple hT
    simp only at hc hd
    subst hc hd
    have c0 : (decide (k < -(2 ^ 63)) || decide (k ≥ 2 ^ 63)) = false := by
      rw [decide_eq_false (by omega), decide_eq_false (by omega)] <;> rfl
    have c1' : (its.toArray.isEmpty || k == 1) = true := by
      rcases c1 with e | e
      · have hl : its = [] := List.eq_nil_of_length_eq_zero (by rw [← r.length, e]; rfl)
        rw [hl]
        rfl
      · rw [e]
        exact Bool.or_true _
    refine wpAny_binaryOp_repeat_ref (T := "tuple") (U := "int") (by decide) ⟨_, ho, rfl⟩ (fun s' => typeIs_int s' k t) noFill_tuple_mul F.fills_int_mul F.slot_int_rmul repeat_tuple F.slot_int_index.lookup
      (call_meets F.slot_int_rmul (typeIs_int s k t) F.entry_int_rmul (F.args_int_rmul_2 _ _) (int_rmul_tuple k t l its.toArray n dd sl)
        ⟨ho, rfl, ⟨_, ho, rfl⟩, call_meets F.slot_tuple_mul ⟨_, ho, rfl⟩ F.entry_tuple_mul (F.args_tuple_mul_2 _ _) (tuple_mul1 l its.toArray n dd sl k t c0 c1') ⟨ho, ?_⟩⟩)
    exact ⟨.ref l, H, I, rfl, q0 c1⟩
  · have hne : xs ≠ [] := fun e => c1 (.inl e)
    have hk1 : k ≠ 1 := fun e => c1 (.inr e)
    by_cases hk : k ≤ 0
    · cases rx
      obtain ⟨t, rfl⟩ := ry
      obtain ⟨its, r, ⟨⟨cls, dd, data, sl⟩, ho, hc, n, hd⟩, hs⟩ := I.tuple hT
      simp only at hc hd
      subst hc hd
      have c0 : (decide (k < -(2 ^ 63)) || decide (k ≥ 2 ^ 63)) = false := by
        rw [decide_eq_false (by omega), decide_eq_false (by omega)] <;> rfl
      have hi : its.toArray.isEmpty = false := by
        cases its with
        | nil => exact absurd (List.eq_nil_of_length_eq_zero r.length) hne
        | cons a b => rfl
      have c1' : (its.toArray.isEmpty || k == 1) = false := by
        rw [hi, Bool.false_or]
        exact beq_eq_false_iff_ne.mpr hk1
      have c2 : (decide (k ≤ 0) || its.toArray.isEmpty) = true := by
        rw [decide_eq_true hk]
        rfl
      refine wpAny_binaryOp_repeat_ref (T := "tuple") (U := "int") (by decide) ⟨_, ho, rfl⟩ (fun s' => typeIs_int s' k t) noFill_tuple_mul F.fills_int_mul F.slot_int_rmul repeat_tuple F.slot_int_index.lookup
        (call_meets F.slot_int_rmul (typeIs_int s k t) F.entry_int_rmul (F.args_int_rmul_2 _ _) (int_rmul_tuple k t l its.toArray n dd sl)
          ⟨ho, rfl, ⟨_, ho, rfl⟩, call_meets F.slot_tuple_mul ⟨_, ho, rfl⟩ F.entry_tuple_mul (F.args_tuple_mul_2 _ _) (tuple_mul0 l its.toArray n dd sl k t c0 c1' c2) ⟨ho, ?_⟩⟩)
      exact ⟨.ref s.heap.objs.size, _, I.laid (t' := s.toks) (o := .tup []) (fun b ob q => Heap.get?_push_of_some _ q) (Nat.le_refl _) ⟨Nat.zero_le _, [], .nil, IsTup.new _ _⟩, rfl, q1 hne hk _ (I.hok.fresh (Nat.le_refl _))⟩
    · exact op_repT pins s σ H _ _ _ _ Q I rx ry ⟨l, k, xs, rfl, rfl, hT, hne, by omega, h2, hz, q2 hne (by omega)⟩
end L2
namespace TH
open PySem PySem.Spec PyProof.Rows L2
theorem Reps.rep {K : PySem.W.Frag} {G : Hp} {ds : List D} {vs : List V} (r : Reps K G ds vs) : ∀ n : Nat, Reps K G (List.replicate n ds).flatten (List.replicate n vs).flatten
  | 0 => rfl
  | n + 1 => by
    rw [List.replicate_succ, List.replicate_succ, List.flatten_cons, List.flatten_cons]
    exact r.append (Reps.rep r n)
section
variable {W : Gx} {S : Sc} {k : Nat} {env : List Sl} {a b c e : Expr} {pos p p2 : Pos} {ds es : List D}
/-- tuple * int -/
theorem j_repT {n : Nat} (ha : J W S k a env (.tup ds)) (hb : J W S k b env (.int (n : Int))) (hn : n ≤ 1000) (hl : ds.length ≤ 1000) : J W S k (.BinOp a .Mult b pos) env (.tup (List.replicate n ds).flatten) := fun σ G H x E Q q =>
  wE_X (fun X hX => pe_op op_repA (pe_w hX a) (pe_w hX b)) fun X hX => ha σ G H x E _ fun v G1 H1 s1 ⟨t, vs, ev, h1, r1⟩ => hb σ G1 H1 s1.s (E.mono s1) _ fun u G2 H2 s2 eu => by
    subst ev
    rw [show u = V.int n from eu]
    have r2 := r1.mono s2.g
    have hl2 := r1.length
    have hs := s1.trans s2
    refine ⟨t, (n : Int), vs, rfl, rfl, .of (s2.s _ _ (s2.g _ _ h1)), by omega, by omega, by omega, fun hc => ?_, fun hne hk p hp => ?_, fun hne hk p hp => ?_⟩
    · refine q (.ref t) G2 H2 hs ⟨t, vs, rfl, s2.g _ _ h1, ?_⟩
      rcases hc with e | e
      · have : ds = [] := List.eq_nil_of_length_eq_zero (by rw [← hl2, e]; rfl)
        rw [this] at r2 ⊢
        rw [show (List.replicate n ([] : List D)).flatten = [] from by simp]
        exact r2
      · have : n = 1 := by omega
        rw [this]
        rw [show (List.replicate 1 ds).flatten = ds from by simp]
        exact r2
    · have : n = 0 := by omega
      subst this
      exact q (.ref p) _ _ (hs.trans (.new s2.s hp)) ⟨p, [], rfl, upd_same, rfl⟩
    · rw [Int.toNat_natCast]
      exact q (.ref p) _ _ (hs.trans (.new s2.s hp)) ⟨p, _, rfl, upd_same, (r2.rep n).mono (.new (s2.s.none hp))⟩
/-- tuple + tuple -/
theorem j_catT (ha : J W S k a env (.tup ds)) (hb : J W S k b env (.tup es)) (hl : ds.length + es.length ≤ 100000) : J W S k (.BinOp a .Add b pos) env (.tup (ds ++ es)) := fun σ G H x E Q q =>
  wE_X (fun X hX => pe_op op_catA (pe_w hX a) (pe_w hX b)) fun X hX => ha σ G H x E _ fun v G1 H1 s1 ⟨t, vs, ev, h1, r1⟩ => hb σ G1 H1 s1.s (E.mono s1) _ fun u G2 H2 s2 ⟨t2, us, eu, h2, r2⟩ => by
    subst ev
    subst eu
    have r1' := r1.mono s2.g
    have l1 := r1.length
    have l2 := r2.length
    have hs := s1.trans s2
    refine ⟨t, t2, vs, us, rfl, rfl, .of (s2.s _ _ (s2.g _ _ h1)), .of (s2.s _ _ h2), by rw [l1, l2]; exact sz hl, fun e => ?_, fun _ e => ?_, fun _ _ p hp => ?_⟩
    · have : ds = [] := List.eq_nil_of_length_eq_zero (by rw [← l1, e]; rfl)
      subst this
      exact q _ G2 H2 hs ⟨t2, us, rfl, h2, r2⟩
    · have : es = [] := List.eq_nil_of_length_eq_zero (by rw [← l2, e]; rfl)
      subst this
      refine q _ G2 H2 hs ⟨t, vs, rfl, s2.g _ _ h1, ?_⟩
      rw [List.append_nil]
      exact r1'
    · exact q (.ref p) _ _ (hs.trans (.new s2.s hp)) ⟨p, _, rfl, upd_same, (r1'.append r2).mono (.new (s2.s.none hp))⟩
/-- list * int -/
theorem jn_rep {n : Nat} (ha : JL W S k a env ds) (hb : J W S k b env (.int (n : Int))) (hl : ds.length * n ≤ 100000) (hn : n ≤ 100000) : JN W S k (.BinOp a .Mult b pos) env (List.replicate n ds).flatten := fun σ G H x E Q q =>
  wE_X (fun X hX => pe_op op_rep (pe_w hX a) (pe_w hX b)) fun X hX => ha σ G H x E _ fun v G1 H1 s1 ⟨t, vs, ev, h1, r1⟩ => hb σ G1 H1 s1.s (E.mono s1) _ fun u G2 H2 s2 eu => by
    subst ev
    rw [show u = V.int n from eu]
    have r2 := r1.mono s2.g
    have hs := s1.trans s2
    refine ⟨t, (n : Int), vs, rfl, rfl, s2.h _ _ h1, by omega, by omega, by rw [Int.toNat_natCast, r1.length]; exact sz hl, fun p hp => ?_⟩
    rw [Int.toNat_natCast]
    exact q p _ G2 _ (hs.trans (.newO s2.s hp)) (hs.h.none hp) (s2.s.none hp) upd_same (r2.rep n)
end
end TH
set_option maxHeartbeats 4000000
namespace TM
/-- beside: A with the bridge B to its right, under it zeros and C -/
def besd (A C B : Tab) : Tab := (((List.range A.length).zip A).map fun p => p.2 ++ B.getD p.1 []) ++ C.map fun r => List.replicate A.length 0 ++ r
theorem besd_sq {n m : Nat} {A C B : Tab} (hA : Sq n A) (hC : Sq m C) (hB : B.length = n) (hb : ∀ r ∈ B, r.length = m) : Sq (n + m) (besd A C B) := by
  refine ⟨?_, fun r hr => ?_⟩
  · unfold besd
    rw [List.length_append, List.length_map, List.length_map, List.length_zip, List.length_range, Nat.min_self, hA.1, hC.1]
  · unfold besd at hr
    rcases List.mem_append.mp hr with h | h
    · obtain ⟨p, hp, rfl⟩ := List.mem_map.mp h
      obtain ⟨h1, h2⟩ := List.of_mem_zip (show (p.1, p.2) ∈ (List.range A.length).zip A from hp)
      have hi : p.1 < B.length := by
        rw [hB, ← hA.1]
        exact List.mem_range.mp h1
      rw [List.length_append, hA.2 _ h2, List.getD_eq_getElem?_getD, List.getElem?_eq_getElem hi]
      show n + B[p.1].length = _
      rw [hb _ (List.getElem_mem hi)]
    · obtain ⟨q, hq, rfl⟩ := List.mem_map.mp h
      rw [List.length_append, List.length_replicate, hA.1, hC.2 q hq]
theorem bd_append {b : Nat} {r s : Row} (h : Bd b r) (h' : Bd b s) : Bd b (r ++ s) := fun x hx => by
  rcases List.mem_append.mp hx with q | q
  · exact h x q
  · exact h' x q
theorem bd_zero {b n : Nat} : Bd b (List.replicate n 0) := fun x hx => by
  rw [List.eq_of_mem_replicate hx]
  exact Nat.pow_pos (by decide)
theorem besd_bd {b : Nat} {A C B : Tab} (hA : BdT b A) (hC : BdT b C) (hB : BdT b B) : BdT b (besd A C B) := fun r hr => by
  unfold besd at hr
  rcases List.mem_append.mp hr with h | h
  · obtain ⟨p, hp, rfl⟩ := List.mem_map.mp h
    obtain ⟨h1, h2⟩ := List.of_mem_zip (show (p.1, p.2) ∈ (List.range A.length).zip A from hp)
    refine bd_append (hA _ h2) ?_
    rw [List.getD_eq_getElem?_getD]
    cases e : B[p.1]? with
    | none => exact fun x hx => by cases hx
    | some x => exact hB x (List.mem_of_getElem? e)
  · obtain ⟨q, hq, rfl⟩ := List.mem_map.mp h
    exact bd_append bd_zero (hC q hq)
end TM
namespace TH
open PySem PySem.Spec PyProof.Rows L2
def f_need_same_digits (W : Gx) (ds : List D) (d : D) : Prop := ∃ x y : Tl, x.z = y.z ∧ ds = [tlD W x, tlD W y] ∧ d = .non
theorem ok_need_same_digits {W : Gx} (T : Tx W) : OkF W 1 "need_same_digits" 2 (f_need_same_digits W) := by
  refine mk_need_same_digits T fun ds d G0 H0 σ D' hf hn A fin => ?_
  obtain ⟨x, y, hz, rfl, rfl⟩ := hf
  refine ws_ifF A (JT.is (jt_cmp c_neS (j_fld (fs := tlF x) (jv 0) rfl T.c_Tally T.n_Tally_digits) (j_fld (fs := tlF y) (jv 1) rfl T.c_Tally T.n_Tally_digits)) ?_) fun G1 H1 A1 => ?_
  · rw [decide_eq_true hz]
    rfl
  · exact ws_nil (fin.nx rfl _ _ _ A1.s)
theorem rep_flat {α : Type} (x : α) (n : Nat) : (List.replicate n [x]).flatten = List.replicate n x := by
  induction n with
  | zero => rfl
  | succ n ih => rw [List.replicate_succ, List.flatten_cons, ih, List.replicate_succ]; rfl
def f_beside (ds : List D) (d : D) : Prop := ∃ (A C B : List (List Int)) (n m : Nat), TM.Sq n A ∧ TM.Sq m C ∧ B.length = n ∧ (∀ r ∈ B, r.length = m) ∧ n + m < 1000 ∧ ds = [tabD A, tabD C, .lst (B.map rowD)] ∧ d = tabD (TM.besd A C B)
theorem ok_beside {W : Gx} (T : Tx W) : OkF W 1 "beside" 3 f_beside := by
  have m1 := T.m_enumerate
  have m2 := T.m_tuple
  have m3 := T.m_len
  refine mk_beside T fun ds d G0 H0 σ D' hf hn A0 fin => ?_
  obtain ⟨A, C, B, n, m, hA, hC, hB, hb, hnm, rfl, rfl⟩ := hf
  refine ws_setLc (i := 3) A0 sc_beside.nd rfl rfl rfl (jc2 5 6 sc_beside.nd (xs := (List.range A.length).zip A) (g1 := fun p => D.int (p.1 : Int)) (g2 := fun p => rowD p.2) (f := fun p => rowD (p.2 ++ B.getD p.1 [])) ?_ (fun p hp => ?_) ?_) fun σ1 G1 H1 A1 => ?_
  · rw [← zipD_map2 (fun i : Nat => D.int (i : Int)) rowD, show A.length = (A.map rowD).length from (List.length_map ..).symm]
    exact ji_enum (jsr_t (jv 0))
  · obtain ⟨h1, h2⟩ := List.of_mem_zip (show (p.1, p.2) ∈ (List.range A.length).zip A from hp)
    have hi : p.1 < B.length := by
      rw [hB, ← hA.1]
      exact List.mem_range.mp h1
    have hat : atI (B.map rowD) (p.1 : Int) = some (rowD (B.getD p.1 [])) := by
      refine atI_nat ?_
      rw [List.getElem?_map, List.getD_eq_getElem?_getD, List.getElem?_eq_getElem hi]
      rfl
    refine J.is (j_tup (ja_starT (ds := p.2.map D.int) (jv 6) (ja_starT (ds := (B.getD p.1 []).map D.int) (j_ixL (jv 2).l (jv 5) hat) ja_nil)) ?_) ?_
    · rw [List.append_nil, List.length_append, List.length_map, List.length_map, hA.2 _ h2, List.getD_eq_getElem?_getD, List.getElem?_eq_getElem hi]
      show n + B[p.1].length ≤ _
      rw [hb _ (List.getElem_mem hi)]
      omega
    · rw [List.append_nil, ← List.map_append]
      rfl
  · rw [List.length_zip, List.length_range, Nat.min_self, hA.1]
    omega
  · refine ws_setLc (i := 4) A1 sc_beside.nd rfl rfl rfl (jc1 6 sc_beside.nd (ji_tup (jv 1)) (f := fun r => rowD (List.replicate A.length 0 ++ r)) (fun r hr => ?_) ?_) fun σ2 G2 H2 A2 => ?_
    · refine J.is (j_catT (j_repT (n := A.length) (j_tup (ja_cons j_int ja_nil)) (J.is (j_lenT (jv 0)) (by rw [List.length_map])) (by rw [hA.1]; omega) (by decide)) (jv 6) ?_) ?_
      · rw [rep_flat, List.length_replicate, List.length_map, hA.1, hC.2 r hr]
        omega
      · rw [rep_flat, ← List.map_replicate, ← List.map_append]
        rfl
    · rw [hC.1]
      omega
    · refine ws_ret A2 (J.is (j_tupleL (jn_lst (ja_star (jv 3).l (ja_star (jv 4).l ja_nil)) ?_).l) ?_) fin.rt
      · rw [List.append_nil, List.length_append, List.length_map, List.length_map, List.length_zip, List.length_range, Nat.min_self, hA.1, hC.1]
        omega
      · rw [List.append_nil]
        unfold TM.besd tabD
        rw [List.map_append, List.map_map, List.map_map]
        rfl
theorem lenO {W : Gx} (T : Tx W) {S : Sc} {k n : Nat} {env : List Sl} {e : Expr} {pos p : Pos} {x : Tl} (ha : J W S k e env (tlD W x)) (hs : x.st.length = n) (hn : n < 1000) (hk : 2 ≤ k := by decide) (hg : GlS S "len" := by exact rfl) (he : Plain e := by intro _ _; rfl) : J W S k (.Call (.Name "len" p) [e] [] pos) env (.int (n : Int)) :=
  j_lenO (C := He.ga W.K "Tally") (fs := tlF x) (ok_Tally_len T) ha ⟨x, rfl, by rw [hs]⟩ (by omega) hk hg T.m_len he
def zeros (n m : Nat) : List (List Int) := List.replicate n (List.replicate m 0)
def f_without_bridge (W : Gx) (ds : List D) (d : D) : Prop := ∃ (x y : Tl) (n m : Nat), x.st.length = n ∧ y.st.length = m ∧ n < 1000 ∧ m < 1000 ∧ ds = [tlD W x, tlD W y] ∧ d = .lst ((zeros n m).map rowD)
theorem ok_without_bridge {W : Gx} (T : Tx W) : OkF W 3 "without_bridge" 2 (f_without_bridge W) := by
  refine mk_without_bridge T fun ds d G0 H0 σ D' hf hn A fin => ?_
  obtain ⟨x, y, n, m, hx, hy, hn1, hm1, rfl, rfl⟩ := hf
  refine ws_ret A (J.is (jn_rep (n := n) (JN.l (jn_lst (ja_cons (j_repT (n := m) (j_tup (ja_cons j_int ja_nil)) (lenO T (jv 1) hy hm1) (by omega) (by decide)) ja_nil) (by show 1 ≤ 100000; decide))) (lenO T (jv 0) hx hn1) ?_ (by omega)).lst ?_) fin.rt
  · show 1 * n ≤ 100000
    omega
  · rw [rep_flat, rep_flat]
    unfold zeros
    rw [List.map_replicate]
    unfold rowD
    rw [List.map_replicate]
def addT (x y : Tl) : Tl := ⟨x.z, x.st ++ y.st, (x.ts.zip y.ts).map fun p => TM.besd p.1 p.2 (zeros x.st.length y.st.length), x.en ++ y.en⟩
theorem zeros_len (n m : Nat) : (zeros n m).length = n := List.length_replicate ..
theorem zeros_row (n m : Nat) : ∀ r ∈ zeros n m, r.length = m := fun r hr => by
  rw [List.eq_of_mem_replicate hr, List.length_replicate]
/-- two tallies side by side have the right shape -/
theorem blk_wt {n m : Nat} {x y : Tl} (w : WT n x) (v : WT m y) (hz : x.z = y.z) (hnm : n + m < 1000) {st en : List Int} (g : List (List Int) → List (List Int)) (hs : st.length = n + m) (he : en.length = n + m) (hg : ∀ t ∈ x.ts, (g t).length = n ∧ ∀ r ∈ g t, r.length = m) : WT (n + m) ⟨x.z, st, (x.ts.zip y.ts).map fun p => TM.besd p.1 p.2 (g p.1), en⟩ := by
  refine ⟨w.dg, w.nd, hs, he, ?_, fun t ht => ?_, hnm⟩
  · show ((x.ts.zip y.ts).map _).length = _
    rw [List.length_map, List.length_zip, w.tl, v.tl, ← hz, Nat.min_self]
  · obtain ⟨p, hp, rfl⟩ := List.mem_map.mp ht
    obtain ⟨h1, h2⟩ := List.of_mem_zip (show (p.1, p.2) ∈ x.ts.zip y.ts from hp)
    exact TM.besd_sq (w.sq _ h1) (v.sq _ h2) (hg _ h1).1 (hg _ h1).2
theorem addT_wt {n m : Nat} {x y : Tl} (w : WT n x) (v : WT m y) (hz : x.z = y.z) (hnm : n + m < 1000) : WT (n + m) (addT x y) :=
  blk_wt w v hz hnm (fun _ => zeros x.st.length y.st.length) (by rw [List.length_append, w.sl, v.sl]) (by rw [List.length_append, w.el, v.el]) fun t ht => ⟨by rw [zeros_len, w.sl], fun r hr => by rw [zeros_row _ _ r hr, v.sl]⟩
def f_added (W : Gx) (ds : List D) (d : D) : Prop := ∃ (x y : Tl) (n m : Nat), WT n x ∧ WT m y ∧ x.z = y.z ∧ n + m < 1000 ∧ ds = [tlD W x, tlD W y] ∧ d = tlD W (addT x y)
theorem ok_added {W : Gx} (T : Tx W) : OkF W 7 "added" 2 (f_added W) := by
  have m1 := T.m_zip
  have m2 := T.m_tuple
  refine mk_added T fun ds d G0 H0 σ D' hf hn A fin => ?_
  obtain ⟨x, y, n, m, w, v, hz, hnm, rfl, rfl⟩ := hf
  have l1 := w.tl
  have l2 := v.tl
  have l3 := w.dg.ten
  have hw := w.sl
  have hv := v.sl
  refine ws_expr A (j_call (ok_need_same_digits T) (ja_cons (jv 0) (ja_cons (jv 1) ja_nil)) ⟨x, y, hz, rfl, rfl⟩) fun G1 H1 A1 => ?_
  refine ws_set A1 sc_added.nd (sn 2) (j_call (ok_without_bridge T) (ja_cons (jv 0) (ja_cons (jv 1) ja_nil)) ⟨x, y, x.st.length, y.st.length, rfl, rfl, by omega, by omega, rfl, rfl⟩) fun σ2 G2 H2 A2 => ?_
  refine ws_setLc (i := 3) A2 sc_added.nd rfl rfl rfl (jc2 4 5 sc_added.nd (xs := x.ts.zip y.ts) (g1 := fun p => tabD p.1) (g2 := fun p => tabD p.2) (f := fun p => tabD (TM.besd p.1 p.2 (zeros x.st.length y.st.length))) ?_ (fun p hp => ?_) ?_) fun σ3 G3 H3 A3 => ?_
  · rw [← zipD_map2 tabD tabD]
    exact ji_zipS (jsr_t (j_fld (fs := tlF x) (jv 0) rfl T.c_Tally T.n_Tally_tables)) (jsr_t (j_fld (fs := tlF y) (jv 1) rfl T.c_Tally T.n_Tally_tables)) (by rw [List.length_map, List.length_map, l1, l2, hz])
  · obtain ⟨h1, h2⟩ := List.of_mem_zip (show (p.1, p.2) ∈ x.ts.zip y.ts from hp)
    exact j_call (ok_beside T) (ja_cons (jv 4) (ja_cons (jv 5) (ja_cons (jv 2) ja_nil))) ⟨p.1, p.2, zeros x.st.length y.st.length, n, m, w.sq _ h1, v.sq _ h2, by rw [zeros_len, hw], fun r hr => by rw [zeros_row _ _ r hr, hv], hnm, rfl, rfl⟩
  · rw [List.length_zip]
    omega
  · refine ws_ret A3 (J.is (JO1.j (jo_make (oki_Tally T) (ds := [.str x.z, rowD (x.st ++ y.st), tabsD (addT x y).ts, rowD (x.en ++ y.en)]) (ja_cons (j_fld (fs := tlF x) (jv 0) rfl T.c_Tally T.n_Tally_digits) (ja_cons (J.is (j_catT (j_fld (fs := tlF x) (jv 0) rfl T.c_Tally T.n_Tally_start) (j_fld (fs := tlF y) (jv 1) rfl T.c_Tally T.n_Tally_start) ?_) ?_) (ja_cons (J.is (j_tupleL (jv 3).l) ?_) (ja_cons (J.is (j_catT (j_fld (fs := tlF x) (jv 0) rfl T.c_Tally T.n_Tally_ends) (j_fld (fs := tlF y) (jv 1) rfl T.c_Tally T.n_Tally_ends) ?_) ?_) ja_nil)))) ⟨addT x y, n + m, addT_wt w v hz hnm, rfl, rfl⟩)) rfl) fin.rt
    · rw [List.length_map, List.length_map]
      omega
    · rw [← List.map_append]
      rfl
    · unfold addT tabsD
      rw [List.map_map]
      rfl
    · rw [List.length_map, List.length_map, w.el, v.el]
      omega
    · rw [← List.map_append]
      rfl
def timT (k : Int) (x : Tl) : Tl := { x with en := x.en.map fun e => k * e }
theorem timT_wt {n : Nat} {x : Tl} (w : WT n x) (k : Int) : WT n (timT k x) := ⟨w.dg, w.nd, w.sl, by
  show (x.en.map _).length = n
  rw [List.length_map, w.el], w.tl, w.sq, w.lt⟩
def f_times (W : Gx) (ds : List D) (d : D) : Prop := ∃ (k : Int) (x : Tl) (n a b : Nat), WT n x ∧ k.natAbs < 2 ^ a ∧ TM.Bd b x.en ∧ a + b ≤ 999990 ∧ ds = [.int k, tlD W x] ∧ d = tlD W (timT k x)
theorem ok_times {W : Gx} (T : Tx W) : OkF W 7 "times" 2 (f_times W) := by
  have m2 := T.m_tuple
  refine mk_times T fun ds d G0 H0 σ D' hf hn A fin => ?_
  obtain ⟨k, x, n, a, b, w, hk, hb, hab, rfl, rfl⟩ := hf
  have hw := w.el
  have hlt := w.lt
  refine ws_ret A (J.is (JO1.j (jo_make (oki_Tally T) (ds := [.str x.z, rowD x.st, tabsD x.ts, rowD (timT k x).en]) (ja_cons (j_fld (fs := tlF x) (jv 1) rfl T.c_Tally T.n_Tally_digits) (ja_cons (j_fld (fs := tlF x) (jv 1) rfl T.c_Tally T.n_Tally_start) (ja_cons (j_fld (fs := tlF x) (jv 1) rfl T.c_Tally T.n_Tally_tables) (ja_cons (J.is (j_tupleL (JN.l (JLc.n (jc1 2 sc_times.nd (ji_tup (j_fld (fs := tlF x) (jv 1) rfl T.c_Tally T.n_Tally_ends)) (f := fun e => D.int (k * e)) (fun e he => j_mulW (jv 0) (jv 2) hk (hb e he) hab) ?_)))) ?_) ja_nil)))) ⟨timT k x, n, timT_wt w k, rfl, rfl⟩)) rfl) fin.rt
  · omega
  · unfold timT rowD
    rw [List.map_map]
    rfl
def f_lessened (W : Gx) (ds : List D) (d : D) : Prop := ∃ (x y : Tl) (n m b : Nat), WT n x ∧ WT m y ∧ x.z = y.z ∧ n + m < 1000 ∧ TM.Bd b y.en ∧ b ≤ 999900 ∧ ds = [tlD W x, tlD W y] ∧ d = tlD W (addT x (timT (-1) y))
theorem ok_lessened {W : Gx} (T : Tx W) : OkF W 8 "lessened" 2 (f_lessened W) := by
  refine mk_lessened T fun ds d G0 H0 σ D' hf hn A fin => ?_
  obtain ⟨x, y, n, m, b, w, v, hz, hnm, hb, hb2, rfl, rfl⟩ := hf
  exact ws_ret A (j_call (ok_added T) (ja_cons (jv 0) (ja_cons (j_call (ok_times T) (ja_cons (j_neg j_int) (ja_cons (jv 1) ja_nil)) ⟨-1, y, m, 1, b, v, by decide, hb, by omega, rfl, rfl⟩) ja_nil)) ⟨x, timT (-1) y, n, m, w, timT_wt v _, hz, hnm, rfl, rfl⟩) fin.rt
end TH
set_option maxHeartbeats 4000000
namespace TH
open PySem PySem.Spec PyProof.Rows L2
/-- the bridge of met -/
def mbr (c : List Int) (t : List Int) : List (List Int) := c.map fun w => t.map fun k => w * k
def metT (x y : Tl) : Tl := ⟨x.z, x.st ++ y.st.map (fun k => TM.prod x.st x.en * k), (x.ts.zip y.ts).map fun p => TM.besd p.1 p.2 (mbr (TM.tcol p.1 x.en) y.st), List.replicate x.st.length 0 ++ y.en⟩
theorem metT_wt {n m : Nat} {x y : Tl} (w : WT n x) (v : WT m y) (hz : x.z = y.z) (hnm : n + m < 1000) : WT (n + m) (metT x y) :=
  blk_wt w v hz hnm (fun t => mbr (TM.tcol t x.en) y.st) (by rw [List.length_append, List.length_map, w.sl, v.sl]) (by rw [List.length_append, List.length_replicate, w.sl, v.el]) fun t ht => ⟨by
    unfold mbr
    rw [List.length_map, TM.tcol_length, (w.sq t ht).1], fun r hr => by
    obtain ⟨k, _, rfl⟩ := List.mem_map.mp hr
    rw [List.length_map, v.sl]⟩
def f_met (W : Gx) (ds : List D) (d : D) : Prop := ∃ (x y : Tl) (n m b c : Nat), WT n x ∧ WT m y ∧ x.z = y.z ∧ n + m < 1000 ∧ WB b x ∧ WB c y ∧ b ≤ 200 ∧ c ≤ 200 ∧ ds = [tlD W x, tlD W y] ∧ d = tlD W (metT x y)
theorem ok_met {W : Gx} (T : Tx W) : OkF W 7 "met" 2 (f_met W) := by
  have m1 := T.m_zip
  have m2 := T.m_tuple
  refine mk_met T fun ds d G0 H0 σ D' hf hn A fin => ?_
  obtain ⟨x, y, n, m, b, c, w, v, hz, hnm, wb, vb, hb, hc, rfl, rfl⟩ := hf
  have l1 := w.tl
  have l2 := v.tl
  have l3 := w.dg.ten
  have hw := w.sl
  have hv := v.sl
  have hwe := w.el
  have hve := v.el
  have xf : ∀ {k : Nat} {S : Sc} {env : List Sl} {e : Expr} {pos : Pos}, J W S k e env (tlD W x) → (∀ env : Env, attributeBase e "tables" env (eval e env) = eval e env) → J W S k (.Attribute e "tables" pos) env (tabsD x.ts) := fun h hb => j_fld (fs := tlF x) h rfl T.c_Tally T.n_Tally_tables hb
  refine ws_expr A (j_call (ok_need_same_digits T) (ja_cons (jv 0) (ja_cons (jv 1) ja_nil)) ⟨x, y, hz, rfl, rfl⟩) fun G1 H1 A1 => ?_
  refine ws_set A1 sc_met.nd (sn 2) (j_call (ok_product_of T) (ja_cons (j_fld (fs := tlF x) (jv 0) rfl T.c_Tally T.n_Tally_start) (ja_cons (j_fld (fs := tlF x) (jv 0) rfl T.c_Tally T.n_Tally_ends) ja_nil)) ⟨_, _, x.st, x.en, b, b, rfl, .inl rfl, .inl rfl, by rw [hw, hwe], by omega, wb.s, wb.e, by omega, rfl⟩) fun σ2 G2 H2 A2 => ?_
  refine ws_setO A2 sc_met.nd (sn 3) (jn_lst ja_nil) fun σ3 G3 H3 A3 => ?_
  refine ws_for (items := (x.ts.zip y.ts).map fun p => .tup [tabD p.1, tabD p.2]) (t := .two 4 5) (fun i => [.d (tlD W x), .d (tlD W y), .d (.int (TM.prod x.st x.en)), .own (((metT x y).ts.take i).map tabD), .no, .no, .no, .no, .no, .no]) A3 sc_met.nd ?_ (.two (sn 4) (sn 5) (by decide)) (fun dd hd => ?_) (Le.refl _) (fun Gb i dd σ4 G4 H4 nx hd A4 hnx => ?_) fun σ4 G4 H4 A4 => ?_
  · rw [← zipD_map2 tabD tabD]
    exact ji_zipS (jsr_t (j_fld (fs := tlF x) (jv 0) rfl T.c_Tally T.n_Tally_tables)) (jsr_t (j_fld (fs := tlF y) (jv 1) rfl T.c_Tally T.n_Tally_tables)) (by rw [List.length_map, List.length_map, l1, l2, hz])
  · obtain ⟨p, _, rfl⟩ := List.mem_map.mp hd
    exact ⟨_, _, rfl⟩
  · rw [List.getElem?_map] at hd
    obtain ⟨p, hp, rfl⟩ := Option.map_eq_some_iff.mp hd
    obtain ⟨h1, h2⟩ := List.of_mem_zip (show (p.1, p.2) ∈ x.ts.zip y.ts from List.mem_of_getElem? hp)
    have hlen := (List.getElem?_eq_some_iff.mp hp).1
    rw [List.length_zip] at hlen
    have sq := w.sq _ h1
    have tb := wb.t _ h1
    have bt : TM.Bd (b + b + 10) (TM.tcol p.1 x.en) := TM.tcol_bd tb wb.e (fun r hr => by rw [sq.2 r hr]; omega)
    refine ws_setLc (i := 6) A4 sc_met.nd rfl rfl rfl (jc1 8 sc_met.nd (ji_tup (j_call (ok_times_column T) (ja_cons (jv 4) (ja_cons (j_fld (fs := tlF x) (jv 0) rfl T.c_Tally T.n_Tally_ends) ja_nil)) ⟨p.1, x.en, b, b, rfl, by rw [sq.1]; omega, by omega, fun q hq => by rw [sq.2 q hq, hwe], tb, wb.e, by omega, rfl⟩)) (f := fun u => rowD (y.st.map fun k => u * k)) (fun u hu => ?_) ?_) fun σ5 G5 H5 A5 => ?_
    · refine J.is (j_tupleL (JN.l (JLc.n (jc1 9 sc_met.nd (ji_tup (j_fld (fs := tlF y) (jv 1) rfl T.c_Tally T.n_Tally_start)) (f := fun k => D.int (u * k)) (fun k hk => j_mulW (jv 8) (jv 9) (bt u hu) (vb.s k hk) (by omega)) ?_)))) ?_
      · omega
      · unfold rowD
        rw [List.map_map]
        rfl
    · rw [TM.tcol_length, sq.1]
      omega
    · refine ws_append (ds := ((metT x y).ts.take i).map tabD) (d := tabD (TM.besd p.1 p.2 (mbr (TM.tcol p.1 x.en) y.st))) (i := 3) A5 rfl rfl (Or.inl rfl) (j_call (ok_beside T) (ja_cons (jv 4) (ja_cons (jv 5) (ja_cons (J.is (jv 6) ?_) ja_nil))) ⟨p.1, p.2, mbr (TM.tcol p.1 x.en) y.st, n, m, sq, v.sq _ h2, ?_, ?_, hnm, rfl, rfl⟩) ?_ fun σ6 G6 H6 A6 => ?_
      · unfold mbr
        rw [List.map_map]
        rfl
      · unfold mbr
        rw [List.length_map, TM.tcol_length, sq.1]
      · intro r hr
        obtain ⟨k, _, rfl⟩ := List.mem_map.mp hr
        rw [List.length_map, hv]
      · rw [List.length_map, List.length_take]
        omega
      · refine ws_nil (hnx σ6 G6 H6 (At.le A6 ?_))
        have e : ((metT x y).ts.take (i + 1)).map tabD = ((metT x y).ts.take i).map tabD ++ [tabD (TM.besd p.1 p.2 (mbr (TM.tcol p.1 x.en) y.st))] := by
          have hg : (metT x y).ts[i]? = some (TM.besd p.1 p.2 (mbr (TM.tcol p.1 x.en) y.st)) := by
            show ((x.ts.zip y.ts).map _)[i]? = _
            rw [List.getElem?_map, hp]
            rfl
          rw [take_succ_get hg, List.map_append]
          rfl
        rw [e]
        exact .cons (.cons (.cons (.cons (.no (.no (.no (.no (.no (.no .nil)))))))))
  · have e : ((metT x y).ts.take ((x.ts.zip y.ts).map fun p => D.tup [tabD p.1, tabD p.2]).length).map tabD = (metT x y).ts.map tabD := by
      rw [List.take_of_length_le]
      show ((x.ts.zip y.ts).map _).length ≤ _
      rw [List.length_map, List.length_map]
      exact Nat.le_refl _
    rw [e] at A4
    refine ws_set A4 sc_met.nd (sn 7) (J.is (j_catT (j_fld (fs := tlF x) (jv 0) rfl T.c_Tally T.n_Tally_start) (j_tupleL (JN.l (JLc.n (jc1 9 sc_met.nd (ji_tup (j_fld (fs := tlF y) (jv 1) rfl T.c_Tally T.n_Tally_start)) (f := fun k => D.int (TM.prod x.st x.en * k)) (fun k hk => j_mulW (jv 2) (jv 9) (TM.prod_lt wb.s wb.e (c := 10) (by omega)) (vb.s k hk) (by omega)) ?_)))) ?_) (d' := rowD (metT x y).st) ?_) fun σ5 G5 H5 A5 => ?_
    · omega
    · rw [List.length_map, List.length_map]
      omega
    · show D.tup _ = D.tup (List.map D.int (x.st ++ y.st.map _))
      rw [List.map_append, List.map_map]
      rfl
    · refine ws_ret A5 (J.is (JO1.j (jo_make (oki_Tally T) (ds := [.str x.z, rowD (metT x y).st, tabsD (metT x y).ts, rowD (metT x y).en]) (ja_cons (j_fld (fs := tlF x) (jv 0) rfl T.c_Tally T.n_Tally_digits) (ja_cons (jv 7) (ja_cons (j_tupleL (jvo 3)) (ja_cons (J.is (j_catT (j_repT (n := x.st.length) (j_tup (ja_cons j_int ja_nil)) (lenO T (jv 0) rfl (by omega)) (by omega) (by decide)) (j_fld (fs := tlF y) (jv 1) rfl T.c_Tally T.n_Tally_ends) ?_) ?_) ja_nil)))) ⟨metT x y, n + m, metT_wt w v hz hnm, rfl, rfl⟩)) rfl) fin.rt
      · rw [rep_flat, List.length_replicate, List.length_map]
        omega
      · rw [rep_flat]
        show D.tup _ = D.tup (List.map D.int (List.replicate x.st.length 0 ++ y.en))
        rw [List.map_append, List.map_replicate]
def aheadT (x : Tl) (w : List Nat) : Tl := { x with st := x.rowW w }
def f_ahead (W : Gx) (ds : List D) (d : D) : Prop := ∃ (x : Tl) (n b : Nat) (w : Str), WT n x ∧ WB b x ∧ b ≤ 200 ∧ Tk x.z w ∧ ds = [tlD W x, .str w] ∧ d = tlD W (aheadT x w.cps.toList)
theorem ok_ahead {W : Gx} (T : Tx W) : OkF W 7 "ahead" 2 (f_ahead W) := by
  refine mk_ahead T fun ds d G0 H0 σ D' hf hn A fin => ?_
  obtain ⟨x, n, b, w, hw, hb, hb2, tk, rfl, rfl⟩ := hf
  exact ws_ret A (J.is (JO1.j (jo_make (oki_Tally T) (ds := [.str x.z, rowD (x.rowW w.cps.toList), tabsD x.ts, rowD x.en]) (ja_cons (j_fld (fs := tlF x) (jv 0) rfl T.c_Tally T.n_Tally_digits) (ja_cons (j_meth (ok_Tally_row T) (fs := tlF x) (jv 0) (ja_cons (jv 1) ja_nil) ⟨x, n, b, w, hw, hb, hb2, tk, rfl, rfl⟩) (ja_cons (j_fld (fs := tlF x) (jv 0) rfl T.c_Tally T.n_Tally_tables) (ja_cons (j_fld (fs := tlF x) (jv 0) rfl T.c_Tally T.n_Tally_ends) ja_nil)))) ⟨aheadT x w.cps.toList, n, ⟨hw.dg, hw.nd, (rowW_ok hw hb tk.1).1, hw.el, hw.tl, hw.sq, hw.lt⟩, rfl, rfl⟩)) rfl) fin.rt
def behindT (x : Tl) (w : List Nat) : Tl := { x with en := TM.tcol (x.tabW w) x.en }
def f_behind (W : Gx) (ds : List D) (d : D) : Prop := ∃ (x : Tl) (n b : Nat) (w : Str), WT n x ∧ WB b x ∧ b ≤ 200 ∧ Tk x.z w ∧ ds = [tlD W x, .str w] ∧ d = tlD W (behindT x w.cps.toList)
theorem ok_behind {W : Gx} (T : Tx W) : OkF W 7 "behind" 2 (f_behind W) := by
  refine mk_behind T fun ds d G0 H0 σ D' hf hn A fin => ?_
  obtain ⟨x, n, b, w, hw, hb, hb2, tk, rfl, rfl⟩ := hf
  obtain ⟨t1, t2⟩ := tabW_ok hw hb tk.1
  have := bits_le hb2 tk.2
  have hlt := hw.lt
  have hel := hw.el
  exact ws_ret A (J.is (JO1.j (jo_make (oki_Tally T) (ds := [.str x.z, rowD x.st, tabsD x.ts, rowD (TM.tcol (x.tabW w.cps.toList) x.en)]) (ja_cons (j_fld (fs := tlF x) (jv 0) rfl T.c_Tally T.n_Tally_digits) (ja_cons (j_fld (fs := tlF x) (jv 0) rfl T.c_Tally T.n_Tally_start) (ja_cons (j_fld (fs := tlF x) (jv 0) rfl T.c_Tally T.n_Tally_tables) (ja_cons (j_call (ok_times_column T) (ja_cons (j_meth (ok_Tally_table T) (fs := tlF x) (jv 0) (ja_cons (jv 1) ja_nil) ⟨x, n, b, w, hw, hb, hb2, tk, rfl, rfl⟩) (ja_cons (j_fld (fs := tlF x) (jv 0) rfl T.c_Tally T.n_Tally_ends) ja_nil)) ⟨_, x.en, _, b, rfl, by rw [t1.1]; omega, by omega, fun q hq => by rw [t1.2 q hq, hel], t2, hb.e, by omega, rfl⟩) ja_nil)))) ⟨behindT x w.cps.toList, n, ⟨hw.dg, hw.nd, hw.sl, by
    show (TM.tcol _ _).length = n
    rw [TM.tcol_length, t1.1], hw.tl, hw.sq, hw.lt⟩, rfl, rfl⟩)) rfl) fin.rt
end TH
set_option maxHeartbeats 4000000
namespace TH
open PySem PySem.Spec PyProof.Rows L2
theorem Tx.propFacts {W : Gx} (T : Tx W) : PropOf W.K (He.ga W.K "Piece") "worth_now" (propAt W.K) (getAt W.K) ∧ ∃ fd, FunD W.K "worth_now" "Piece.worth_now" (defArgs s_Piece_worth_now) (defBody s_Piece_worth_now) (defScope s_Piece_worth_now) [] [] (getAt W.K) fd := by
  have h := T.ex
  have hw : getW W.K = getV := congrArg (fun z : AlX => z.2.2) T.says
  unfold exB at h
  rw [Bool.and_eq_true, Bool.and_eq_true] at h
  have hp := h.2.2
  unfold propB at hp
  rw [Bool.and_eq_true, Bool.and_eq_true, Bool.and_eq_true, Bool.and_eq_true, Bool.and_eq_true] at hp
  obtain ⟨p1, p2, p3, p4, p5, p6⟩ := hp
  refine ⟨⟨He.eqO_ok p1, of_decide_eq_true p2, of_decide_eq_true p3, ?_⟩, ?_⟩
  · revert p4
    cases e : PySem.W.recIn W.K (propAt W.K) "property" with
    | none => intro z; cases z
    | some l =>
      cases l with
      | nil => intro z; cases z
      | cons v r =>
        cases v <;> intro z <;> first | (cases z; done) | skip
        rename_i g
        have := of_decide_eq_true z
        exact ⟨r, by rw [this]⟩
  · unfold getW at hw
    cases q : W.K.lookup (getAt W.K) with
    | none =>
      rw [q] at p6
      cases p6
    | some o =>
      obtain ⟨oc, od, dt, osl⟩ := o
      rw [q] at p6 hw
      cases dt with
      | func fd =>
        obtain ⟨n1, n2, n3, n4, n5, n6, n7, n8, n9, n10, n11, n12, n13, n14, n15⟩ := fd
        have e2 : (some (n1, n2, n3, n4, n5, n6, n7, n15) : He.FnW) = (some (("worth_now" : Str), ("Piece.worth_now" : Str), defArgs s_Piece_worth_now, FuncBody.stmts (defBody s_Piece_worth_now), defScope s_Piece_worth_now, mainGlobals, [], builtinsNs) : He.FnW) := hw
        simp only [Option.some.injEq, Prod.mk.injEq] at e2
        obtain ⟨h1, h2, h3, h4, h5, h6, h7, h8⟩ := e2
        subst h1 h2 h3 h4 h5 h6 h7 h8
        have c3 : (PySem.W.codeIn W.K n13 "Piece.worth_now" && He.dflB W.K n8 []) = true := p6
        rw [Bool.and_eq_true] at c3
        exact ⟨_, ⟨oc, od, n8, n9, n10, n11, n12, n13, n14, osl, rfl, q, c3.1, He.dflB_ok c3.2, .inl rfl⟩, p5⟩
      | _ => cases p6
abbrev N_worth_now : List Str := ["self"]
theorem sc_worth_now : FnScope N_worth_now ["self"] (defScope s_Piece_worth_now) := ⟨rfl, rfl, rfl, by decide +kernel, rfl, by decide +kernel, by decide +kernel⟩
theorem mk_worth_now {W : Gx} (T : Tx W) {k : Nat} {f : List D → D → Prop} (h : ∀ ds d' G0 H0 σ D', f ds d' → ds.length = 1 → At W G0 H0 (startE N_worth_now ds) σ G0 H0 → Fin0 W G0 H0 d' D' → wSs W (defS N_worth_now (defScope s_Piece_worth_now)) k (defBody s_Piece_worth_now) D' σ H0) : OkP W (k + 1) (He.ga W.K "Piece") "worth_now" f := by
  obtain ⟨hp, fd, F⟩ := T.propFacts
  exact ⟨_, _, fd, ["self"], T.c_Piece, hp, F.bindsN (fun _ _ _ _ _ _ us hl => match us, hl with | [_], _ => rfl), fn_body F sc_worth_now rfl h⟩
theorem jt_eqO {W : Gx} {S : Sc} {k : Nat} {env : List Sl} {a b : Expr} {pos : Pos} {C : Addr} {fs gs : List (Str × D)} {kf : Nat} {f : List D → D → Prop} (F : OkM W kf C "__eq__" 2 f) (ha : J W S k a env (.ins C fs)) (hb : J W S k b env (.ins C gs)) (hf : f [.ins C fs, .ins C gs] (.bl true)) (hk : kf ≤ k := by decide) (hm : behindInMarks .Eq b = false := by first | exact nomark _ | rfl) :
    JT W S k (.Compare a [.Eq] [b] pos) env true := fun σ G H x E Q q => by
  obtain ⟨fa, fd, ps, cl, mt, bd, F⟩ := F.ex
  refine wT.mk fun X hX pins s I => ?_
  have F2 : FnOk X.prog X.w X.K X.mg X.base CX0 kf fa fd ps (spEq (REq W.K C fs gs)) := by
    rw [hX.P, hX.w, hX.K, hX.mg, hX.base]
    refine F.imp fun vs H Q E hs => ?_
    obtain ⟨a, b, rfl, ⟨G, x, r1, r2⟩, q⟩ := hs
    exact ⟨G, [.ins C fs, .ins C gs], .bl true, rfl, x, ⟨.ref a, [.ref b], rfl, r1, .ref b, [], rfl, r2, rfl⟩, hf, fun v G' H' s2 r3 => by
      rw [show v = V.bl true from r3]
      exact q H' s2.h⟩
  have R := rcG_ins (C := C) (E := E0) F2 (by rw [hX.K]; exact mt.at_) (by rw [hX.K]; exact mt.fn) (by rw [hX.K]; exact bd) pass0
  refine (pt_cmpR (pos := pos) (op_eqG R (hX.room.mono hk)) (pe_w hX a) (pe_w hX b) hm).run pins s σ H Q I ?_
  refine ha σ G H x E _ fun u G1 H1 s1 r1 => hb σ G1 H1 s1.s (E.mono s1) _ fun v G2 H2 s2 r2 => ?_
  have r1' := r1.mono s2.g
  obtain ⟨a1, dx, fs1, rfl, h1, rf1⟩ := id r1'
  obtain ⟨a2, dy, gs1, rfl, h2, rf2⟩ := id r2
  refine ⟨⟨a1, a2, dx, dy, fs1, gs1, rfl, rfl, s2.s _ _ h1, s2.s _ _ h2, G2, s2.s, r1', r2⟩, fun H' ex => ⟨true, rfl, q G2 H' (s1.trans (s2.trans ⟨fun _ _ z => z, ex, s2.s.trans ex, fun _ _ z => z⟩))⟩⟩
section
variable {W : Gx} {S : Sc} {k : Nat} {G0 H0 G H : Hp} {env : List Sl} {σ : L2.St} {D' : Ends} {rest : List Stmt} {e a b c tg : Expr} {pos pos' p p1 p2 p3 p4 : Pos} {x y z f : Str} {i j l : Nat} {d d' d2 : D}
/-- x = C(..), an instance that is changed later -/
theorem ws_setI {C : Addr} {fs : List (Str × D)} (A : At W G0 H0 env σ G H) (nd : S.N.Nodup) (hs : StN S i x) (he : JO1 W S k e env C fs)
    (next : ∀ q o σ' G' H', H0 q = none → G0 q = none → At W G0 (upd H0 q o) (env.set i (.raw (.ref q))) σ' G' H' → Obj1 W.K G' (upd H0 q o) q C fs → wSs W S k rest D' σ' H')
    (hsw : ∀ env : Env, swapsWith e (some (.Name x pos')) pos.line env = pure false := by intro _; rfl) : wSs W S k (.Assign [.Name x pos'] e pos :: rest) D' σ H :=
  wSs_cons (wS_of (fun X hX => ps_asg (pe_w hX e) (pg_nm hX nd hs) (hsw X.env)) (he σ G H A.s.s A.e _ fun q dx ws G' H' s1 h1 h2 h3 r => by
    have A1 := A.mono s1
    have h0 : H0 q = none := A.s.h.none h1
    have g0 : G0 q = none := A1.s.g.none h2
    refine next q (.ins C dx ws) _ G' H' h0 g0 ?_ ⟨dx, ws, upd_same, r⟩
    have A2 : At W G0 (upd H0 q (.ins C dx ws)) env σ G' H' := by
      refine ⟨⟨A1.s.g, fun a o ha => ?_, A1.s.s, fun a ha hg => ?_⟩, A1.e, fun j ds p hj hp => ?_, A1.dis⟩
      · by_cases e : a = q
        · rw [e, upd_same] at ha
          rw [e, h3]
          exact ha
        · rw [upd_ne e] at ha
          exact A1.s.h a o ha
      · by_cases e : a = q
        · rw [e]; exact h2
        · rw [upd_ne e] at ha
          exact A1.s.o a ha hg
      · have hp0 := A1.fresh j ds p hj hp
        have : p ≠ q := fun e => by
          obtain ⟨o, e1, q', vs, e2, e3, _, _⟩ := A.e.get hj
          rw [hp] at e1
          rw [← Option.some.inj e1] at e2
          have e4 : p = q' := by
            injection e2 with e2
            injection e2
          rw [← e4, e, h1] at e3
          cases e3
        rw [upd_ne this]
        exact hp0
    exact A2.setS (show SlR W.K G' H' (.raw (.ref q)) (some (.ref q)) from rfl) (fun ds z => nomatch z)))
/-- return x, x such an instance -/
theorem At.frz {H1 : Hp} {q C : Addr} {fs : List (Str × D)} (A : At W G0 H1 env σ G H) (hi : ∀ a, a ≠ q → H1 a = H0 a) (h0 : H0 q = none) (g0 : G0 q = none) (ob : Obj1 W.K G H1 q C fs) : ∃ G', Stp G0 H0 G' H ∧ Rep W.K G' (.ins C fs) (.ref q) := by
  obtain ⟨dx, ws, h1, r⟩ := ob
  have hG : G q = none := A.s.o q (by rw [h1]; exact fun z => nomatch z) g0
  refine ⟨upd G q (.ins C dx ws), ⟨A.s.g.trans (.new hG), fun a o ha => ?_, fun a o ha => ?_, fun a ha hg => ?_⟩, q, dx, ws, rfl, upd_same, r.mono (.new hG)⟩
  · have : a ≠ q := fun e => by rw [e, h0] at ha; cases ha
    exact A.s.h a o (by rw [hi a this]; exact ha)
  · by_cases e : a = q
    · rw [e, upd_same] at ha
      rw [e]
      exact A.s.h q o (by rw [h1]; exact ha)
    · rw [upd_ne e] at ha
      exact A.s.s a o ha
  · have : a ≠ q := fun e => ha (by rw [e]; exact h0)
    rw [upd_ne this]
    exact A.s.o a (by rw [hi a this]; exact ha) hg
theorem ws_retI {H1 : Hp} {q C : Addr} {fs : List (Str × D)} (A : At W G0 H1 env σ G H) (i : Nat) (hi : ∀ a, a ≠ q → H1 a = H0 a) (h0 : H0 q = none) (g0 : G0 q = none) (ob : Obj1 W.K G H1 q C fs) (next : ∀ v G' H', Stp G0 H0 G' H' → Rep W.K G' (.ins C fs) v → D'.rt v H')
    (he : env[i]? = some (.raw (.ref q)) := by rfl) (hN : S.N[i]? = some x := by rfl) (hv : VisS S x := by first | exact Or.inl rfl | exact Or.inr (Or.inl rfl) | exact Or.inr (Or.inr rfl)) (hd : (x == ("__debug__" : Str)) = false := by decide) (hcd : (x == ("__classdict__" : Str)) = false := by decide) : wSs W S k (.Return (some (.Name x p)) pos :: rest) D' σ H :=
  wSs_cons (wS_of (fun X hX => ps_ret (pe_w hX _)) (jraw i he hN hv hd hcd σ G H A.s.s A.e _ fun v G' H' s1 ev => by
    obtain ⟨G2, s2, r2⟩ := (A.mono s1).frz hi h0 g0 (ob.mono s1.g)
    rw [show v = V.ref q from ev]
    exact next _ G2 H' s2 r2))
end
def pcF (W : Gx) (x : Tl) (t : List (List Int)) (w : Str) : List (Str × D) := [("tally", tlD W x), ("table_now", tabD t), ("ticket", .str w)]
def pcD (W : Gx) (x : Tl) (t : List (List Int)) (w : Str) : D := .ins (He.ga W.K "Piece") (pcF W x t w)
def fi_Piece (W : Gx) (ds : List D) (fs : List (Str × D)) : Prop := ∃ (x : Tl) (n b : Nat) (w : Str), WT n x ∧ WB b x ∧ b ≤ 200 ∧ Tk x.z w ∧ ds = [tlD W x, .str w] ∧ fs = pcF W x (x.tabW w.cps.toList) w
theorem oki_Piece {W : Gx} (T : Tx W) : OkI W 4 "Piece" 2 (fi_Piece W) := by
  refine okI_of T 73 111 109 110 66 (x := "Piece") (d := d_Piece_init) (N := N_Piece_init) (ps := ["self", "tally", "ticket"]) (k := 3) (n := 2) (f := fi_Piece W) rfl rfl rfl rfl rfl rfl rfl rfl sc_Piece_init rfl (fun _ _ _ _ _ _ us hl => match us, hl with | [_, _, _], _ => rfl) fun ds fs p dx G0 H0 σ D' hf hn hg h0 A fin => ?_
  obtain ⟨x, n, b, w, hw, hb, hb2, tk, rfl, rfl⟩ := hf
  refine ws_fld (fs := []) A 0 ⟨dx, [], h0, rfl⟩ hg T.c_Piece T.n_Piece_tally (jv 1) fun b1 G5 H5 e1 d1 A5 _ o1 => ?_
  refine ws_fld A5 0 o1 hg T.c_Piece T.n_Piece_table_now (j_meth (ok_Tally_table T) (fs := tlF x) (jv 1) (ja_cons (jv 2) ja_nil) ⟨x, n, b, w, hw, hb, hb2, tk, rfl, rfl⟩) fun b2 G6 H6 e2 d2 A6 _ o2 => ?_
  refine ws_fld A6 0 o2 hg T.c_Piece T.n_Piece_ticket (jv 2) fun b3 G7 H7 e3 d3 A7 _ o3 => ?_
  refine ws_nil (fin _ G7 H7 b3 (d1.trans (d2.trans d3)) (fun a ha => ?_) ⟨_, A7⟩ o3)
  rw [e3 a ha, e2 a ha, e1 a ha]
/-- the piece of x over a table t with bits a -/
def f_Piece_led (W : Gx) (ds : List D) (d : D) : Prop := ∃ (x : Tl) (t : List (List Int)) (w : Str) (y : D) (r : List Int) (n a b : Nat), n < 1000 ∧ TM.Sq n t ∧ TM.BdT b t ∧ isRow y r ∧ r.length = n ∧ TM.Bd a r ∧ a + b ≤ 999990 ∧ ds = [pcD W x t w, y] ∧ d = rowD (TM.led r t)
theorem ok_Piece_led {W : Gx} (T : Tx W) : OkM W 3 (He.ga W.K "Piece") "led" 2 (f_Piece_led W) := by
  refine mk_Piece_led T fun ds d G0 H0 σ D' hf hn A fin => ?_
  obtain ⟨x, t, w, y, r, n, a, b, hlt, sq, bt, hy, hr, ba, hab, rfl, rfl⟩ := hf
  exact ws_ret A (j_call (ok_led_on T) (ja_cons (jv 1) (ja_cons (j_fld (fs := pcF W x t w) (jv 0) rfl T.c_Piece T.n_Piece_table_now) ja_nil)) ⟨y, r, t, a, b, rfl, hy, by rw [sq.1]; exact hlt, fun q hq => (sq.2 q hq).trans sq.1.symm, hr.trans sq.1.symm, ba, bt, hab, rfl⟩) fin.rt
def f_worth_now (W : Gx) (ds : List D) (d : D) : Prop := ∃ (x : Tl) (t : List (List Int)) (w : Str) (n a b : Nat), WT n x ∧ WB a x ∧ TM.Sq n t ∧ TM.BdT b t ∧ a + b + 10 + a ≤ 999990 ∧ ds = [pcD W x t w] ∧ d = .int (TM.prod (TM.led x.st t) x.en)
theorem ok_worth_now {W : Gx} (T : Tx W) : OkP W 4 (He.ga W.K "Piece") "worth_now" (f_worth_now W) := by
  refine mk_worth_now T fun ds d G0 H0 σ D' hf hn A fin => ?_
  obtain ⟨x, t, w, n, a, b, hw, hb, sq, bt, hab, rfl, rfl⟩ := hf
  have hlt := hw.lt
  have hsl := hw.sl
  have hel := hw.el
  refine ws_ret A (j_call (ok_product_of T) (ja_cons (j_meth (ok_Piece_led T) (fs := pcF W x t w) (jv 0) (ja_cons (j_fld (fs := tlF x) (j_fld (fs := pcF W x t w) (jv 0) rfl T.c_Piece T.n_Piece_tally) rfl T.c_Tally T.n_Tally_start) ja_nil) ⟨x, t, w, rowD x.st, x.st, n, a, b, hlt, sq, bt, .inl rfl, hsl, hb.s, by omega, rfl, rfl⟩) (ja_cons (j_fld (fs := tlF x) (j_fld (fs := pcF W x t w) (jv 0) rfl T.c_Piece T.n_Piece_tally) rfl T.c_Tally T.n_Tally_ends) ja_nil)) ⟨_, _, TM.led x.st t, x.en, a + b + 10, a, rfl, .inl rfl, .inl rfl, ?_, ?_, TM.led_bd hb.s bt (by omega), hb.e, hab, rfl⟩) fin.rt
  · rw [TM.led_length, sq.1, hel]
  · rw [TM.led_length, sq.1]
    omega
theorem tk_nil (z : Str) : Tk z "" := ⟨fun c hc => (List.not_mem_nil hc).elim, by decide⟩
def f_Piece_joined (W : Gx) (ds : List D) (d : D) : Prop := ∃ (x : Tl) (t u : List (List Int)) (w v : Str) (n a b c : Nat), WT n x ∧ WB c x ∧ c ≤ 200 ∧ TM.Sq n t ∧ TM.BdT a t ∧ TM.Sq n u ∧ TM.BdT b u ∧ a + b ≤ 999990 ∧ w.length + v.length ≤ 1000 ∧ ds = [pcD W x t w, pcD W x u v] ∧ d = pcD W x (TM.tmul t u) (w ++ v)
theorem ok_Piece_joined {W : Gx} (T : Tx W) : OkM W 6 (He.ga W.K "Piece") "joined" 2 (f_Piece_joined W) := by
  refine mk_Piece_joined T fun ds d G0 H0 σ D' hf hn A fin => ?_
  obtain ⟨x, t, u, w, v, n, a, b, c, hw, hb, hc, sq, bt, squ, bu, hab, hl, rfl, rfl⟩ := hf
  refine ws_ifF A (JT.is (jt_not (jt_eqO (fs := tlF x) (gs := tlF x) (ok_Tally_eq T) (j_fld (fs := pcF W x t w) (jv 0) rfl T.c_Piece T.n_Piece_tally) (j_fld (fs := pcF W x u v) (jv 1) rfl T.c_Piece T.n_Piece_tally) ⟨x, rfl, rfl⟩)) rfl) fun G1 H1 A1 => ?_
  refine ws_setI A1 sc_Piece_joined.nd (sn 2) (jo_make (oki_Piece T) (ja_cons (j_fld (fs := pcF W x t w) (jv 0) rfl T.c_Piece T.n_Piece_tally) (ja_cons j_str ja_nil)) ⟨x, n, c, "", hw, hb, hc, tk_nil _, rfl, rfl⟩) fun q o σ2 G2 H2 h0 g0 A2 o2 => ?_
  refine ws_fld A2 2 o2 g0 T.c_Piece T.n_Piece_ticket (j_addS (j_fld (fs := pcF W x t w) (jv 0) rfl T.c_Piece T.n_Piece_ticket) (j_fld (fs := pcF W x u v) (jv 1) rfl T.c_Piece T.n_Piece_ticket) (by omega)) fun b3 G3 H3 e3 d3 A3 _ o3 => ?_
  refine ws_fld A3 2 o3 g0 T.c_Piece T.n_Piece_table_now (j_call (ok_table_product T) (ja_cons (j_fld (fs := pcF W x t w) (jv 0) rfl T.c_Piece T.n_Piece_table_now) (ja_cons (j_fld (fs := pcF W x u v) (jv 1) rfl T.c_Piece T.n_Piece_table_now) ja_nil)) ⟨t, u, n, a, b, rfl, hw.lt, sq, squ, bt, bu, hab, rfl⟩) fun b4 G4 H4 e4 d4 A4 _ o4 => ?_
  refine ws_retI A4 2 (fun a ha => ?_) h0 g0 o4 fin.rt
  rw [e4 a ha, e3 a ha, upd_ne ha]
end TH
set_option maxHeartbeats 4000000
namespace L2
open PySem PySem.Spec PyProof.Rows
def rLtD (K : PySem.W.Frag) : R2 := fun x y H Q => ∃ d e : PyData, Dp K H x d ∧ Dp K H y e ∧ PySem.W.alike d e = true ∧ d ≠ .none ∧ d.depth ≤ 64 ∧ Q (.bl (PySem.W.dataLt d e)) H
theorem op_ltD {X : Cx} (hu : X.A.units + 64 < cLine) : OpR X (compareOp .Lt) (rLtD X.K) := by
  intro pins s σ H x y v u Q I rx ry h
  obtain ⟨d, e, hd, he, ha, hn, hdp, q⟩ := h
  obtain ⟨as, r1⟩ := Dp.reads I d x v hd rx
  obtain ⟨bs, r2⟩ := Dp.reads I e y u he ry
  have hm : min d.depth e.depth ≤ d.depth := Nat.min_le_left _ _
  exact PySem.W.rcLt_alike d e X.A s v u as bs r1 r2 ha hn (by omega) X.prog X.w X.xe _ ⟨.bl _, H, I, rfl, q⟩
/-- sorted of a list of data: the pairs (value, datum) in the order of the data -/
def rSortD (K : PySem.W.Frag) : List V → Hp → VK → Prop := fun xs H Q => ∃ (a : Addr) (ps : List (V × PyData)), xs = [.ref a] ∧ SqL K H a (ps.map (·.1)) ∧ (∀ p ∈ ps, Dp K H p.1 p.2) ∧ PySem.W.AllAlike (ps.map (·.2)) ∧ PySem.W.Sortable (ps.map (·.2)) ∧ (∀ p ∈ ps, p.2.depth ≤ 60) ∧
  ∀ q, H q = none → Q (.ref q) (upd H q (.lst ((ps.mergeSort (PySem.W.dataLe false (·.2))).map (·.1))))
theorem vals_each : ∀ {ps : List (V × PyData)} {us : List Value}, Vals (ps.map (·.1)) us → PySem.W.EachIs (fun v (p : V × PyData) => RelV p.1 v) us ps
  | [], _, r => by
    cases r
    exact .nil
  | p :: ps, _, r => by
    rw [List.map_cons] at r
    cases r with
    | cons h t => exact .cons h (vals_each t)
theorem each_vals : ∀ {ps : List (V × PyData)} {us : List Value}, PySem.W.EachIs (fun v (p : V × PyData) => RelV p.1 v) us ps → Vals (ps.map (·.1)) us
  | _, _, .nil => .nil
  | _, _, .cons h t => by
    rw [List.map_cons]
    exact .cons h (each_vals t)
theorem each_imp {α β : Type} {R S : α → β → Prop} : ∀ {as : List α} {bs : List β}, (∀ a b, b ∈ bs → R a b → S a b) → PySem.W.EachIs R as bs → PySem.W.EachIs S as bs
  | _, _, _, .nil => .nil
  | _, _, h, .cons x t => .cons (h _ _ List.mem_cons_self x) (each_imp (fun a b hb => h a b (List.mem_cons_of_mem _ hb)) t)
theorem cr_sortD {X : Cx} (hu : X.A.units + 64 < cLine) : CallR X (.builtin "sorted") (rSortD X.K) := by
  intro pins s σ H vs us Q I r h
  obtain ⟨a, ps, rfl, hs, hdp, hal, hk, hd, q⟩ := h
  obtain ⟨its, rv, hl, hz⟩ := I.list hs
  rw [Vals.ref1 r]
  have hlen : its.length = ps.length := by rw [← rv.length, List.length_map]
  have e := vals_each rv
  refine PySem.W.sorted_data (enc := (·.2)) (R := fun v (p : V × PyData) => RelV p.1 v) hl.isList e (each_imp (fun v p hp hr => Dp.reads I p.2 p.1 v (hdp p hp) hr) e) hal hk (by rw [List.length_map] at hz; exact hz) (fun b hb => by have := hd b hb; omega) fun out ho eo => ?_
  obtain ⟨ep, he'⟩ := PyProof.Rows.sortedAll_at s.heap its out.toArray
  have hlen2 : ((ps.mergeSort (PySem.W.dataLe false (·.2))).map (·.1)).length ≤ sizeLine := by
    rw [List.length_map, List.length_mergeSort]
    rw [List.length_map] at hz
    exact hz
  exact ⟨.ref _, upd H (s.heap.objs.size + 1) (.lst ((ps.mergeSort (PySem.W.dataLe false (·.2))).map (·.1))), I.laid (t' := s.toks) (fun _ _ => PyProof.Rows.sortedAll_old) (Nat.le_succ _) ⟨hlen2, out, ep, each_vals eo, he'⟩, rfl, q _ (I.hok.fresh (Nat.le_succ _))⟩
end L2
namespace TH
open PySem PySem.Spec PyProof.Rows L2
section
variable {W : Gx} {S : Sc} {k : Nat} {env : List Sl} {a b c e : Expr} {pos p p2 : Pos} {ds : List D} {d d' : D}
theorem c_ltD {r : Bool} (h1 : plainD d = true) (h2 : plainD d' = true) (h3 : PySem.W.alike (toP d) (toP d') = true) (h4 : toP d ≠ .none) (h5 : (toP d).depth ≤ 64) (hr : PySem.W.dataLt (toP d) (toP d') = r) : CmpD W S k .Lt d d' r := fun X hX => ⟨_, op_ltD hX.room.units, fun G H u v x r1 r2 Q q => by
  rw [hX.K]
  exact ⟨toP d, toP d', dp_of x h1 r1, dp_of x h2 r2, h3, h4, h5, by rw [hr]; exact q⟩⟩
def leD (x y : D) : Bool := PySem.W.dataLe false toP x y
theorem reps_pairs {K : PySem.W.Frag} {G : Hp} : ∀ {ds : List D} {vs : List V}, Reps K G ds vs → ∃ ps : List (V × D), ps.map (·.1) = vs ∧ ps.map (·.2) = ds ∧ ∀ p ∈ ps, Rep K G p.2 p.1
  | [], vs, h => ⟨[], (show vs = [] from h).symm, rfl, fun p hp => by cases hp⟩
  | d :: ds, vs, h => by
    obtain ⟨v, r, rfl, h1, h2⟩ := h
    obtain ⟨ps, e1, e2, e3⟩ := reps_pairs h2
    refine ⟨(v, d) :: ps, by rw [List.map_cons, e1], by rw [List.map_cons, e2], fun p hp => ?_⟩
    rcases List.mem_cons.mp hp with e | hp
    · rw [e]; exact h1
    · exact e3 p hp
theorem pairs_reps {K : PySem.W.Frag} {G : Hp} : ∀ {ps : List (V × D)}, (∀ p ∈ ps, Rep K G p.2 p.1) → Reps K G (ps.map (·.2)) (ps.map (·.1))
  | [], _ => rfl
  | p :: ps, h => ⟨p.1, _, rfl, h p List.mem_cons_self, pairs_reps fun q hq => h q (List.mem_cons_of_mem _ hq)⟩
theorem jn_sortedD (ha : JL W S k e env ds) (hp : ∀ d ∈ ds, plainD d = true) (hal : PySem.W.AllAlike (ds.map toP)) (hk : PySem.W.Sortable (ds.map toP)) (hd : ∀ d ∈ ds, (toP d).depth ≤ 60) (hg : GlS S "sorted" := by exact rfl) (hm : W.mg "sorted" = none := by assumption) (he : Plain e := by intro _ _; rfl) :
    JN W S k (.Call (.Name "sorted" p) [e] [] pos) env (ds.mergeSort leD) := fun σ G H x0 E Q q =>
  wE_X (fun X hX => pe_callB (cr_sortD hX.room.units) (hX.gl hg) (by rw [hX.mg]; exact hm) (by decide +kernel) (pa_cons (pe_w hX e) pa_nil (he [] X.env)) (by decide) (by decide) (he [] X.env) rfl) fun X hX => ha σ G H x0 E _ fun v G1 H1 s1 ⟨a, vs, e1, h1, r1⟩ => by
    subst e1
    obtain ⟨ps, q1, q2, q3⟩ := reps_pairs r1
    have em : (ps.map fun p => (p.1, toP p.2)).map (·.1) = vs := by rw [List.map_map, ← q1]; rfl
    have em2 : (ps.map fun p => (p.1, toP p.2)).map (·.2) = ds.map toP := by rw [List.map_map, ← q2, List.map_map]; rfl
    have mem : ∀ p ∈ ps, p.2 ∈ ds := fun p hp => by rw [← q2]; exact List.mem_map.mpr ⟨p, hp, rfl⟩
    refine ⟨a, ps.map fun p => (p.1, toP p.2), rfl, ?_, fun p hp' => ?_, ?_, ?_, fun p hp' => ?_, fun y hy => ?_⟩
    · rw [em]
      exact .of h1
    · obtain ⟨z, hz, rfl⟩ := List.mem_map.mp hp'
      rw [hX.K]
      exact dp_of s1.s (hp _ (mem z hz)) (q3 z hz)
    · rw [em2]; exact hal
    · rw [em2]; exact hk
    · obtain ⟨z, hz, rfl⟩ := List.mem_map.mp hp'
      exact hd _ (mem z hz)
    · have k1 : (ps.map fun p => (p.1, toP p.2)).mergeSort (PySem.W.dataLe false (·.2)) = (ps.mergeSort fun x y => leD x.2 y.2).map fun p => (p.1, toP p.2) := (List.map_mergeSort (f := fun p : V × D => (p.1, toP p.2)) (r := fun x y => leD x.2 y.2) (s := PySem.W.dataLe false (·.2)) (fun a _ b _ => rfl)).symm
      have k2 : ds.mergeSort leD = (ps.mergeSort fun x y => leD x.2 y.2).map (·.2) := by
        rw [List.map_mergeSort (s := leD) (fun a _ b _ => rfl), q2]
      have k3 : ((ps.map fun p => (p.1, toP p.2)).mergeSort (PySem.W.dataLe false (·.2))).map (·.1) = (ps.mergeSort fun x y => leD x.2 y.2).map (·.1) := by
        rw [k1, List.map_map]
        rfl
      rw [k3]
      refine q y _ G1 _ (s1.trans (.newO s1.s hy)) (s1.h.none hy) (s1.s.none hy) upd_same ?_
      rw [k2]
      exact pairs_reps fun p hp' => q3 p ((List.mergeSort_perm ps _).mem_iff.mp hp')
end
end TH
set_option maxHeartbeats 4000000
namespace TH
open PySem PySem.Spec PyProof.Rows L2
def f_is_state (ds : List D) (d : D) : Prop := ∃ n i : Nat, i < n ∧ ds = [.int (n : Int), .int (i : Int)] ∧ d = .bl true
theorem ok_is_state {W : Gx} (T : Tx W) : OkF W 2 "is_state" 2 f_is_state := by
  refine mk_is_state T fun ds d G0 H0 σ D' hf hn A fin => ?_
  obtain ⟨n, i, hi, rfl, rfl⟩ := hf
  refine ws_ret A (J.is (j_and (r := true) (r' := true) (j_call (ok_is_integer_rewriters T) (ja_cons (jv 1) ja_nil) ⟨_, rfl, rfl⟩) (fun _ => J.is (j_chain c_leI c_ltI j_int (jv 1) (jv 0)) ?_)) rfl) fin.rt
  rw [decide_eq_true (by omega), decide_eq_true (by omega)]
  rfl
def f_is_digit (ds : List D) (d : D) : Prop := ∃ (z : Str) (c : Nat), c ∈ z.cps.toList ∧ ds = [.str z, sgn c] ∧ d = .bl true
theorem ok_is_digit {W : Gx} (T : Tx W) : OkF W 1 "is_digit" 2 f_is_digit := by
  have m1 := T.m_isinstance
  have m2 := T.m_str
  have m3 := T.m_len
  refine mk_is_digit T fun ds d G0 H0 σ D' hf hn A fin => ?_
  obtain ⟨z, c, hc, rfl, rfl⟩ := hf
  refine ws_ret A (J.is (j_and3 (r := true) (r' := true) (r2 := true) (j_isStr (z := ⟨#[c]⟩) (jv 1)) (fun _ => J.is (j_cmp c_eqI (j_lenS (z := ⟨#[c]⟩) (jv 1) (by show 1 ≤ 100000; decide)) j_int) rfl) (fun _ _ => J.is (j_cmp c_inSign (jv 1) (jv 0)) ?_)) rfl) fin.rt
  rw [decide_eq_true hc]
/-- a move -/
structure Mv where
  s : Nat
  a : Nat
  b : Nat
  t : Nat
deriving DecidableEq
def mvD (m : Mv) : D := .tup [.int (m.s : Int), sgn m.a, sgn m.b, .int (m.t : Int)]
def f_is_move (ds : List D) (d : D) : Prop := ∃ (z w : Str) (n : Nat) (m : Mv), m.a ∈ z.cps.toList ∧ m.b ∈ w.cps.toList ∧ m.s < n ∧ m.t < n ∧ ds = [.str z, .str w, .int (n : Int), mvD m] ∧ d = .bl true
theorem ok_is_move {W : Gx} (T : Tx W) : OkF W 3 "is_move" 4 f_is_move := by
  have m1 := T.m_isinstance
  have m2 := T.m_tuple
  have m3 := T.m_len
  obtain ⟨t, m4⟩ := T.int 84 (x := "MOVE_PARTS")
  refine mk_is_move T fun ds d G0 H0 σ D' hf hn A fin => ?_
  obtain ⟨z, w, n, m, ha, hb, hs, ht, rfl, rfl⟩ := hf
  refine ws_ifF A (JT.is (jt_or (r := false) (r' := false) (JT.is (jt_not (jt_val (j_isTup (jv 3)))) rfl) (fun _ => JT.is (jt_cmp c_neI (j_lenT (jv 3)) (j_glob (v := .int 4) rfl m4 ⟨t, rfl⟩ fun G => rfl)) rfl)) rfl) fun G1 H1 A1 => ?_
  refine ws_ifF A1 (JT.is (jt_or (r := false) (r' := false) (JT.is (jt_not (jt_val (j_call (ok_is_state T) (ja_cons (jv 2) (ja_cons (j_ixT (d := .int (m.s : Int)) (jv 3) j_int rfl) ja_nil)) ⟨n, m.s, hs, rfl, rfl⟩))) rfl) (fun _ => JT.is (jt_not (jt_val (j_call (ok_is_state T) (ja_cons (jv 2) (ja_cons (j_ixT (d := .int (m.t : Int)) (jv 3) j_int rfl) ja_nil)) ⟨n, m.t, ht, rfl, rfl⟩))) rfl)) rfl) fun G2 H2 A2 => ?_
  exact ws_ret A2 (J.is (j_and (r := true) (r' := true) (j_call (ok_is_digit T) (ja_cons (jv 0) (ja_cons (j_ixT (d := sgn m.a) (jv 3) j_int rfl) ja_nil)) ⟨z, m.a, ha, rfl, rfl⟩) (fun _ => j_call (ok_is_digit T) (ja_cons (jv 1) (ja_cons (j_ixT (d := sgn m.b) (jv 3) j_int rfl) ja_nil)) ⟨w, m.b, hb, rfl, rfl⟩)) rfl) fin.rt
/-- data that rise, item by item -/
structure RisD (ds : List D) : Prop where
  p : ∀ d ∈ ds, plainD d = true
  al : ∀ d ∈ ds, ∀ e ∈ ds, PySem.W.alike (toP d) (toP e) = true
  nn : ∀ d ∈ ds, toP d ≠ .none
  dp : ∀ d ∈ ds, (toP d).depth ≤ 64
  lt : ∀ p ∈ ds.zip (ds.drop 1), PySem.W.dataLt (toP p.1) (toP p.2) = true
  ln : ds.length < 1000
def f_are_rising (ds : List D) (d : D) : Prop := ∃ es : List D, RisD es ∧ ds = [.tup es] ∧ d = .bl true
theorem ok_are_rising {W : Gx} (T : Tx W) : OkF W 1 "are_rising" 1 f_are_rising := by
  have m1 := T.m_all
  have m2 := T.m_zip
  refine mk_are_rising T fun ds d G0 H0 σ D' hf hn A fin => ?_
  obtain ⟨es, h, rfl, rfl⟩ := hf
  have hl := h.ln
  refine ws_ret A (j_allT (xs := es.zip (es.drop 1)) (JN.l (JLc.n (jc2 1 2 sc_are_rising.nd (xs := es.zip (es.drop 1)) (g1 := fun p => p.1) (g2 := fun p => p.2) ?_ (fun p hp => ?_) ?_)))) fin.rt
  · have e : (es.zip (es.drop 1)).map (fun p => D.tup [p.1, p.2]) = zipD es (cutD es (some 1) none) := by
      unfold zipD
      rw [List.zip, List.map_zipWith]
      have : cutD es (some 1) none = es.drop 1 := by
        unfold cutD
        have h1 : HT.sIx es.length 0 (some 1) = min 1 es.length := rfl
        have h2 : HT.sIx es.length es.length none = es.length := rfl
        rw [h1, h2]
        by_cases hz : es.length = 0
        · rw [List.eq_nil_of_length_eq_zero hz]
          rfl
        · rw [Nat.min_eq_left (by omega), List.take_of_length_le (by rw [List.length_drop]; exact Nat.le_refl _)]
      rw [this]
    rw [e]
    exact ji_zip (jsr_t (jv 0)) (jsr_t (j_sliceT (jv 0) (jo_some j_int) jo_none))
  · obtain ⟨q1, q2⟩ := List.of_mem_zip (show (p.1, p.2) ∈ es.zip (es.drop 1) from hp)
    have q3 := List.mem_of_mem_drop q2
    exact j_cmp (c_ltD (h.p _ q1) (h.p _ q3) (h.al _ q1 _ q3) (h.nn _ q1) (h.dp _ q1) (h.lt p hp)) (jv 1) (jv 2)
  · rw [List.length_zip]
    omega
end TH
set_option maxHeartbeats 4000000
namespace L2
open PySem PySem.Spec PyProof.Rows
section
variable {X : Cx} {pins : List (Addr × Obj)} {σ : St} {H : Hp} {s : Shared} {a b : Addr} {r : Value} {d : V} {k : List Key} {A : Around} {E : Value → Shared → Prop}
theorem d_setdT {kvs : List (List Key × V)} {Q : Value → Shared → Prop} (hu : A.units + 1 < cLine) (I : Inv X pins σ H s) (e : H a = some (.dT kvs)) (eb : H b = some (.tup (k.map kV))) (rd : RelV d r) (hl : kvs.length < sizeLine)
    (h1 : ∀ v, valV kvs k = some v → ∀ (w' : Value) (s' : Shared), Inv X pins σ H s' → RelV v w' → Q w' s') (h2 : valV kvs k = none → ∀ (w' : Value) (s' : Shared), Inv X pins σ (upd H a (.dT (putK kvs k d))) s' → RelV d w' → Q w' s') :
    wpAny (model X.prog X.w) A (call (.builtin "dict.setdefault") [.ref a, .ref b, r]) Q E s := by
  obtain ⟨z, hd, xs, rel, dd⟩ := dt_of I.hok e
  have hz : xs.length ≤ sizeLine := by rw [← Paired.length rel]; exact z
  have q := rel.val k
  refine call_setdefault_heap (knd := tupleKind (mixKind X.prog X.w)) (hsz := hz) (tupleKind_room_in1 hu) (key_of I.hok eb) hd dd (fun p hp => ?_) (fun hn h' dd' hs => ?_)
  · rw [hp] at q
    cases q0 : valV kvs k with
    | none =>
      rw [q0] at q
      exact (show False from q).elim
    | some v0 =>
      rw [q0] at q
      exact h1 v0 q0 _ _ (I.tok _) q
  · rw [hn] at q
    cases q0 : valV kvs k with
    | some v0 =>
      rw [q0] at q
      exact (show False from q).elim
    | none =>
      have hl2 : (putK kvs k d).length ≤ sizeLine := by
        have := length_putK kvs k d
        omega
      obtain ⟨q, es, ep, hq, h2', h3, h4, _, h5⟩ := dd'
      refine h2 q0 _ _ (d_write I (by rw [e]; exact True.intro) hs ⟨q, hq⟩ ⟨hl2, hd, _, (rel.put k eb rd).keeps fun c ys ec => ?_, q, es, ep, hq, h2', h3, h4, h5⟩) rd
      rw [upd_ne (ne_of ec e (fun z => nomatch z))]
      exact ec
end
def tDSetT (td ty tx : TE) : TE := fun σ H Q => td σ H fun x H1 => ∃ a, x = .ref a ∧ IsD H1 a ∧ ty σ H1 fun y H2 => tx σ H2 fun z H3 => ∃ (kvs : List (List Key × V)) (k : List Key) (b : Addr), H3 a = some (.dT kvs) ∧ y = .ref b ∧ H3 b = some (.tup (k.map kV)) ∧ kvs.length < sizeLine ∧
  (∀ v, valV kvs k = some v → Q v H3) ∧ (valV kvs k = none → Q z (upd H3 a (.dT (putK kvs k z))))
theorem pe_dsetdT {X : Cx} {o e f : Expr} {td ty tx : TE} {apos cpos : Pos} (hu : X.A.units + 1 < cLine) (ho : PE X o td) (he : PE X e ty) (hf : PE X f tx) (m : M2 X o "setdefault" apos e f cpos) : PE X (.Call (.Attribute o "setdefault" apos) [e, f] [] cpos) (tDSetT td ty tx) := by
  refine ⟨fun pins s σ H Q I h => ?_⟩
  refine wpAny_Call_method m.base m.few m.line PySem.F.plainAttrs_dict PySem.F.slot_dict_setdefault PySem.F.type_dict_setdefault (thn (ho.run pins s σ H _ I h) fun u s1 ⟨x, H1, I1, rx, a, ex, d, q1⟩ => ?_)
  subst ex
  obtain rfl : u = Value.ref a := rx
  obtain ⟨t1, t2, _⟩ := isD_at I1 d
  refine ⟨t1, t2, ?_⟩
  rw [m.trees]
  refine Calls.callWith_builtin rfl (Calls.evalArgs_plain (Calls.spliced_cons (thn (he.run pins s1 σ H1 _ I1 q1) fun iv s2 ⟨y, H2, I2, ry, q2⟩ =>
    Calls.spliced_cons (thn (hf.run pins s2 σ H2 _ I2 q2) fun fv s3 ⟨z, H3, I3, rz, kvs, k, b, ea, ey, eb, hl, q3, q4⟩ => Calls.spliced_nil ?_))))
  subst ey
  obtain rfl : iv = Value.ref b := ry
  exact d_setdT hu I3 ea eb rz hl (fun v hv w' s4 I4 rw' => ⟨v, _, I4, rw', q3 v hv⟩) fun hn w' s4 I4 rw' => ⟨z, _, I4, rw', q4 hn⟩
end L2
namespace TH
open PySem PySem.Spec PyProof.Rows L2
/-- the base may grow, off what Gb holds -/
structure Grow (Gb H H' : Hp) : Prop where
  up : ∀ a, H a ≠ none → H' a ≠ none
  nw : ∀ a, H' a ≠ none → H a ≠ none ∨ Gb a = none
theorem Grow.refl (Gb H : Hp) : Grow Gb H H := ⟨fun _ h => h, fun _ h => .inl h⟩
theorem Grow.trans {Gb A B C : Hp} (h : Grow Gb A B) (h' : Grow Gb B C) : Grow Gb A C := ⟨fun a x => h'.up a (h.up a x), fun a x => (h'.nw a x).elim (fun y => h.nw a y) .inr⟩
theorem At.unbaseG {W : Gx} {G0 H0 G1 H1 Hb G H : Hp} {env : List Sl} {σ : L2.St} (A : At W G1 Hb env σ G H) (s : Stp G0 H0 G1 H1) (d : Grow G1 H0 Hb) : At W G0 Hb env σ G H :=
  ⟨⟨s.g.trans A.s.g, A.s.h, A.s.s, fun a h1 h2 => A.s.o a h1 ((d.nw a h1).elim (fun z => s.o a z h2) id)⟩, A.e, A.fresh, A.dis⟩
section
variable {W : Gx} {S : Sc} {k : Nat} {G0 H0 G H : Hp} {env : List Sl} {σ : L2.St} {D' : Ends} {rest : List Stmt} {e a b c tg : Expr} {pos pos' p p1 p2 : Pos} {x y : Str} {i j : Nat} {d d' : D}
/-- for, the base may change and grow: Iv Gb i is true of it ahead of turn i (Gb: what was never written when the loop began) -/
theorem ws_forG {body : List Stmt} {items : List D} {t : Tg} (envs : Nat → List Sl) (Iv : Nat → Hp → Hp → Prop) (A : At W G0 H0 env σ G H) (nd : S.N.Nodup) (hi : JI W S k tg e env items) (ht : TgE S tg t) (hfit : ∀ d ∈ items, t.fits d) (h0 : Le env (envs 0)) (i0 : ∀ G1, Ex G G1 → Iv 0 G1 H0)
    (hb : ∀ (Gb Hb : Hp) n d σ' G' H' (nx : L2.St → Hp → Prop), items[n]? = some d → (∀ a, H0 a ≠ none → G0 a = none → Gb a = none) → Grow Gb H0 Hb → Iv n G' Hb → At W Gb Hb (bnd t d (envs n)) σ' G' H' → (∀ Hc σ2 G2 H2, Grow Gb Hb Hc → Iv (n + 1) G2 Hc → At W Gb Hc (envs (n + 1)) σ2 G2 H2 → nx σ2 H2) → wSs W S k body { D' with nx := nx, ct := nx, bk := wSs W S k rest D' } σ' H')
    (next : ∀ Gb Hb σ' G' H', (∀ a, H0 a ≠ none → G0 a = none → Gb a = none) → Grow Gb H0 Hb → Ex G Gb → Ex Gb G' → Iv items.length G' Hb → At W G0 Hb (envs items.length) σ' G' H' → wSs W S k rest D' σ' H') (mono : ∀ n G1 G2 Hb, Ex G1 G2 → Iv n G1 Hb → Iv n G2 Hb) (hs : ∀ (env : Env) x, foldedSetIterable e env x = pure x := by intro _ _; rfl)
     : wSs W S k (.For tg e body [] pos :: rest) D' σ H :=
  wSs_cons (wS_X (fun X hX => (ps_for (X := X.nox) PassesOwn.never hX.calm (pi_w (show CC W S k X.nox from ⟨hX.P, hX.w, hX.K, hX.mg, hX.base, hX.N, hX.sc, hX.fb, hX.calm, hX.room⟩) tg e) (pg_tg (show CC W S k X.nox from ⟨hX.P, hX.w, hX.K, hX.mg, hX.base, hX.N, hX.sc, hX.fb, hX.calm, hX.room⟩) nd ht) (pss_w (show CC W S k X.nox from ⟨hX.P, hX.w, hX.K, hX.mg, hX.base, hX.N, hX.sc, hX.fb, hX.calm, hX.room⟩) body) (hs X.env)) |> fun h => ⟨fun pins s σ H D I q => wpAny_mono (h.run pins s σ H D (I.wish _) q) (fun f s' z => z.unwish) fun _ _ z => z.elim⟩) fun X hX =>
    hi σ G H A.s.s A.e _ fun I G1 H1 s1 ok => by
      have A1 := (A.mono s1).le h0
      refine ⟨fun n m σ' H' => n + m = items.length ∧ ∃ G' Hb, Grow G1 H0 Hb ∧ Iv n G' Hb ∧ At W G1 Hb (envs n) σ' G' H', ⟨items.length, Nat.zero_add _, G1, H0, .refl _ _, i0 G1 s1.g, A1.rebase⟩, fun n m σ' H' hw => ?_⟩
      obtain ⟨hm, G', Hb, db, iv, A'⟩ := hw
      have g' := A'.s.g
      by_cases hlt : n < items.length
      · refine .inr ⟨ok.go n G' H' hlt g' A'.s.s, fun σ2 H2 => ∃ G2 Hc, Grow G1 H0 Hc ∧ Iv (n + 1) G2 Hc ∧ At W G1 Hc (envs (n + 1)) σ2 G2 H2, fun σ2 H2 ⟨G2, Hc, dc, ic, A2⟩ => ⟨m - 1, by omega, by omega, G2, Hc, dc, ic, A2⟩, fun v H2 hy => ?_⟩
        obtain ⟨dt, hdt⟩ : ∃ d, items[n]? = some d := ⟨_, List.getElem?_eq_getElem hlt⟩
        obtain ⟨G2, s2, r2⟩ := ok.yld n dt G' H' v H2 hdt g' A'.s.s hy
        have fit := hfit dt (List.mem_of_getElem? hdt)
        have A2 := A'.mono s2
        have A3 : ∀ (σ3 : L2.St), EnvR W.K G2 H2 σ3 (bnd t dt (envs n)) → (∀ i, i ∉ t.ix → σ3[i]? = σ'[i]?) → At W G1 Hb (bnd t dt (envs n)) σ3 G2 H2 := fun σ3 E3 hsame => by
          have key : ∀ (j : Nat) (ds : List D), (bnd t dt (envs n))[j]? = some (.own ds) → (envs n)[j]? = some (.own ds) ∧ j ∉ t.ix := fun j ds hj => by
            cases t with
            | one i =>
              rcases get_set hj with ⟨_, q⟩ | ⟨ne, q⟩
              · cases q
              · exact ⟨q, fun z => ne (List.mem_singleton.mp z).symm⟩
            | two i i' =>
              obtain ⟨a, b, rfl⟩ := fit
              rcases get_set hj with ⟨_, q⟩ | ⟨ne, q⟩
              · cases q
              · rcases get_set q with ⟨_, q2⟩ | ⟨ne2, q2⟩
                · cases q2
                · refine ⟨q2, fun z => ?_⟩
                  rcases List.mem_cons.mp z with z | z
                  · exact ne2 z.symm
                  · exact ne (List.mem_singleton.mp z).symm
          refine ⟨A2.s, E3, fun j ds q h1 h2 => ?_, fun j j' ds es q h1 h2 h3 h4 => ?_⟩
          · obtain ⟨k1, k2⟩ := key j ds h1
            rw [hsame j k2] at h2
            exact A2.fresh j ds q k1 h2
          · obtain ⟨k1, k2⟩ := key j ds h1
            obtain ⟨k3, k4⟩ := key j' es h2
            rw [hsame j k2] at h3
            rw [hsame j' k4] at h4
            exact A2.dis j j' ds es q k1 k3 h3 h4
        refine gTg_run A2.s.s A2.e r2 fit fun σ3 E3 hsame _ => ?_
        exact hb G1 Hb n dt σ3 G2 H2 _ hdt A1.s.o db (mono n _ _ _ s2.g iv) (A3 σ3 E3 hsame) fun Hc σ4 G4 H4 dc ic A4 => ⟨G4, Hc, db.trans dc, ic, A4⟩
      · have en : n = items.length := by omega
        subst en
        exact .inl ⟨ok.stop G' H' g' A'.s.s, next G1 Hb σ' G' H' A1.s.o db s1.g g' iv (A'.unbaseG A1.s db)⟩)
end
end TH
set_option maxHeartbeats 4000000
namespace TH
open PySem PySem.Spec PyProof.Rows L2
def mvK (s c : Nat) : List Key := [.inl (s : Int), sgK c]
def insK (m : Mv) : List (List Key × List Mv) → List (List Key × List Mv)
  | [] => [(mvK m.s m.a, [m])]
  | (k, ms) :: r => if k = mvK m.s m.a then (k, ms ++ [m]) :: r else (k, ms) :: insK m r
def byKey (ms : List Mv) : List (List Key × List Mv) := ms.foldl (fun acc m => insK m acc) []
abbrev LE : Type := List Key × List Mv × Addr × List V
/-- a dict of lists that is being made: it and its lists stand in the base -/
structure DctB (K : PySem.W.Frag) (G Hb : Hp) (pd : Addr) (es : List (List Key × List Mv)) (L : List LE) : Prop where
  es : L.map (fun x => (x.1, x.2.1)) = es
  dt : Hb pd = some (.dT (L.map fun x => (x.1, V.ref x.2.2.1)))
  ls : ∀ x ∈ L, Hb x.2.2.1 = some (.lst x.2.2.2) ∧ Reps K G (x.2.1.map mvD) x.2.2.2
  nd : (L.map fun x => x.2.2.1).Nodup
theorem key_split (key : List Key) : ∀ L : List LE, (∃ L1 x L2, L = L1 ++ x :: L2 ∧ x.1 = key ∧ ∀ y ∈ L1, y.1 ≠ key) ∨ ∀ y ∈ L, y.1 ≠ key
  | [] => .inr fun y hy => by cases hy
  | x :: L => by
    by_cases h : x.1 = key
    · exact .inl ⟨[], x, L, rfl, h, fun y hy => by cases hy⟩
    · rcases key_split key L with ⟨L1, y, L2, e, e2, e3⟩ | h2
      · refine .inl ⟨x :: L1, y, L2, by rw [e]; rfl, e2, fun z hz => ?_⟩
        rcases List.mem_cons.mp hz with q | q
        · rw [q]; exact h
        · exact e3 z q
      · refine .inr fun z hz => ?_
        rcases List.mem_cons.mp hz with q | q
        · rw [q]; exact h
        · exact h2 z q
theorem insK_hit {m : Mv} : ∀ {L1 : List (List Key × List Mv)} {ms : List Mv} {L2 : List (List Key × List Mv)}, (∀ y ∈ L1, y.1 ≠ mvK m.s m.a) → insK m (L1 ++ (mvK m.s m.a, ms) :: L2) = L1 ++ (mvK m.s m.a, ms ++ [m]) :: L2
  | [], ms, L2, _ => by
    show insK m ((mvK m.s m.a, ms) :: L2) = _
    unfold insK
    rw [if_pos rfl]
    rfl
  | (k, us) :: L1, ms, L2, h => by
    show insK m ((k, us) :: (L1 ++ (mvK m.s m.a, ms) :: L2)) = _
    unfold insK
    rw [if_neg (h (k, us) List.mem_cons_self), insK_hit fun y hy => h y (List.mem_cons_of_mem _ hy)]
    rfl
theorem insK_new {m : Mv} : ∀ {L : List (List Key × List Mv)}, (∀ y ∈ L, y.1 ≠ mvK m.s m.a) → insK m L = L ++ [(mvK m.s m.a, [m])]
  | [], _ => rfl
  | (k, us) :: L, h => by
    unfold insK
    rw [if_neg (h (k, us) List.mem_cons_self), insK_new fun y hy => h y (List.mem_cons_of_mem _ hy)]
    rfl
theorem valV_hit {κ : Type} [DecidableEq κ] {k : κ} {v : V} : ∀ {l1 : List (κ × V)} {l2 : List (κ × V)}, (∀ y ∈ l1, y.1 ≠ k) → valV (l1 ++ (k, v) :: l2) k = some v
  | [], l2, _ => valV_pos rfl
  | p :: l1, l2, h => by
    show valV (p :: (l1 ++ (k, v) :: l2)) k = _
    rw [valV_neg (h p List.mem_cons_self), valV_hit fun y hy => h y (List.mem_cons_of_mem _ hy)]
theorem valV_miss {κ : Type} [DecidableEq κ] {k : κ} : ∀ {l : List (κ × V)}, (∀ y ∈ l, y.1 ≠ k) → valV l k = none
  | [], _ => rfl
  | p :: l, h => by rw [valV_neg (h p List.mem_cons_self), valV_miss fun y hy => h y (List.mem_cons_of_mem _ hy)]
theorem putK_miss {κ : Type} [DecidableEq κ] {kvs : List (κ × V)} {k : κ} {v : V} (h : ∀ y ∈ kvs, y.1 ≠ k) : putK kvs k v = kvs ++ [(k, v)] := by
  unfold putK
  rw [if_neg]
  intro hh
  obtain ⟨x, hx, e⟩ := List.any_eq_true.mp hh
  exact h x hx (of_decide_eq_true e)
section
variable {W : Gx} {G0 H0 G H : Hp} {env : List Sl} {σ : L2.St}
/-- a new thing joins the base -/
theorem At.growB {r : Addr} {o : HO} (A : At W G0 H0 env σ G H) (hr : H r = some o) (hg : G r = none) (h0 : H0 r = none) (hno : ∀ (i : Nat) (ds : List D), env[i]? ≠ some (Sl.own ds)) : At W G0 (upd H0 r o) env σ G H := by
  refine ⟨⟨A.s.g, fun a u ha => ?_, A.s.s, fun a ha hga => ?_⟩, A.e, fun i ds q hi _ => absurd hi (hno i ds), fun i j ds es q hi _ _ _ => absurd hi (hno i ds)⟩
  · by_cases e : a = r
    · rw [e, upd_same] at ha
      rw [e, hr]
      exact ha
    · rw [upd_ne e] at ha
      exact A.s.h a u ha
  · by_cases e : a = r
    · rw [e]; exact hg
    · rw [upd_ne e] at ha
      exact A.s.o a ha hga
end
/-- self.moves_by_key.setdefault((move[0], move[1]), []).append(move) -/
theorem ws_mbk {W : Gx} (T : Tx W) {S : Sc} {k : Nat} {Gb Hb G H : Hp} {env : List Sl} {σ : L2.St} {D' : Ends} {rest : List Stmt} {p pd dx : Addr} {ws : List (Str × V)} {m : Mv} {es : List (List Key × List Mv)} {L : List LE} {p1 p2 p3 p4 p5 p6 p7 p8 p9 pa pb pc pp pe pf pg : Pos} {n1 : Nat} {j1 j2 : Nat}
    (A : At W Gb Hb env σ G H) (hno : ∀ (i : Nat) (ds : List D), env[i]? ≠ some (Sl.own ds)) (i0 : env[0]? = some (.raw (.ref p))) (N0 : S.N[0]? = some ("self" : Str)) (v0 : VisS S "self") (i6 : env[6]? = some (.d (mvD m))) (N6 : S.N[6]? = some ("move" : Str)) (v6 : VisS S "move")
    (hp : Hb p = some (.ins (He.ga W.K "Rewriter") dx ws)) (hf : ws.lookup ("moves_by_key" : Str) = some (.ref pd)) (B : DctB W.K G Hb pd es L) (gp : Gb pd = none) (gq : ∀ x ∈ L, Gb x.2.2.1 = none) (hl : L.length < 1000) (hms : ∀ x ∈ L, x.2.1.length < 1000)
    (next : ∀ Hc G' H' L', Grow Gb Hb Hc → Hc p = Hb p → DctB W.K G' Hc pd (insK m es) L' → (∀ x ∈ L', Gb x.2.2.1 = none) → (∀ a, Hb a ≠ none → a ≠ pd → (∀ x ∈ L, a ≠ x.2.2.1) → Hc a = Hb a) → (∀ x ∈ L', Hb x.2.2.1 = none ∨ ∃ y ∈ L, x.2.2.1 = y.2.2.1) → At W Gb Hc env σ G' H' → wSs W S k rest D' σ H')
    (hm : ∀ X : Cx, M2 X (.Attribute (.Name "self" p1) "moves_by_key" p2) "setdefault" p3 (.Tuple [.Subscript (.Name "move" p4) (.Constant (.int 0) j1 p5) p6, .Subscript (.Name "move" p7) (.Constant (.int 1) j2 p8) p9] n1 pa) (.List [] pb) pc := by intro X; exact ⟨rfl, rfl, rfl, rfl⟩)
    (hline : (pe.endLine == pg.line) = true := by rfl)
    (hsw : ∀ env : Env, swapsWith (.Call (.Attribute (.Call (.Attribute (.Attribute (.Name "self" p1) "moves_by_key" p2) "setdefault" p3) [.Tuple [.Subscript (.Name "move" p4) (.Constant (.int 0) j1 p5) p6, .Subscript (.Name "move" p7) (.Constant (.int 1) j2 p8) p9] n1 pa, .List [] pb] [] pc) "append" pe) [.Name "move" pf] [] pg) none pp.line env = pure false := by intro _; rfl) :
    wSs W S k (.Expr (.Call (.Attribute (.Call (.Attribute (.Attribute (.Name "self" p1) "moves_by_key" p2) "setdefault" p3) [.Tuple [.Subscript (.Name "move" p4) (.Constant (.int 0) j1 p5) p6, .Subscript (.Name "move" p7) (.Constant (.int 1) j2 p8) p9] n1 pa, .List [] pb] [] pc) "append" pe) [.Name "move" pf] [] pg) pp :: rest) D' σ H := by
  have jm : ∀ {pos : Pos}, J W S k (.Name "move" pos) env (mvD m) := fun {pos} => j_var (i := 6) N6 v6 i6
  have jt : J W S k (.Tuple [.Subscript (.Name "move" p4) (.Constant (.int 0) j1 p5) p6, .Subscript (.Name "move" p7) (.Constant (.int 1) j2 p8) p9] n1 pa) env (.tup [.int (m.s : Int), sgn m.a]) := j_tup (ja_cons (j_ixT (d := .int (m.s : Int)) jm j_int rfl) (ja_cons (j_ixT (d := sgn m.a) jm j_int rfl) ja_nil)) (by show 2 ≤ 100000; decide)
  have jl : JN W S k (.List [] pb) env [] := jn_lst ja_nil
  refine wSs_cons (wS_X (fun X hX => ps_expr (pe_bm PySem.F.plainAttrs_list PySem.F.slot_list_append PySem.F.type_list_append mt_append (pe_dsetdT (by have := hX.room.units; omega) (pe_fld (pe_w hX (.Name "self" p1)) rfl) (pe_w hX _) (pe_w hX _) (hm X)) (pa_cons (pe_w hX (.Name "move" pf)) pa_nil rfl) rfl rfl hline rfl rfl) (hsw X.env)) fun X hX => ?_)
  refine jraw 0 i0 N0 v0 (by decide) (by decide) σ G H A.s.s A.e _ fun v G1 H1 s1 ev => ?_
  subst ev
  have A1 := A.mono s1
  refine ⟨p, He.ga W.K "Rewriter", dx, ws, .ref pd, rfl, A1.s.h _ _ hp, by rw [hX.K]; exact T.c_Rewriter, by rw [hX.K]; exact T.n_Rewriter_moves_by_key, hf, pd, rfl, .inr ⟨_, .of (A1.s.h _ _ B.dt)⟩, ?_⟩
  refine jt σ G1 H1 A1.s.s A1.e _ fun v G2 H2 s2 ⟨b, tv, ev, hb, rb⟩ => ?_
  subst ev
  have A2 := A1.mono s2
  obtain ⟨t1, r1, rfl, e1, t2, r2, rfl, e2, e3⟩ := rb
  rw [show t1 = V.int m.s from e1, show t2 = V.str ⟨#[m.a]⟩ from e2, show r2 = [] from e3] at hb
  refine jl σ G2 H2 A2.s.s A2.e _ fun r lv G3 H3 s3 hr gr hr3 rl => ?_
  rw [show lv = [] from rl] at hr3
  have A3 := A2.mono s3
  have s13 : Stp G H G3 H3 := (s1.trans s2).trans s3
  have hrb : Hb r = none := A2.s.h.none hr
  have grb : Gb r = none := A3.s.g.none gr
  have rne : ∀ x ∈ L, x.2.2.1 ≠ r := fun x hx e => by
    have := (B.ls x hx).1
    rw [e, hrb] at this
    cases this
  have B3 : ∀ x ∈ L, Hb x.2.2.1 = some (.lst x.2.2.2) ∧ Reps W.K G3 (x.2.1.map mvD) x.2.2.2 := fun x hx => ⟨(B.ls x hx).1, (B.ls x hx).2.mono s13.g⟩
  have hpd3 := A3.s.h _ _ B.dt
  have hlen : (L.map fun x => (x.1, V.ref x.2.2.1)).length < sizeLine := by
    rw [List.length_map]
    exact szlt (by omega)
  refine ⟨_, mvK m.s m.a, b, hpd3, rfl, s3.h _ _ (s2.s _ _ hb), hlen, fun v hv => ?_, fun hv => ?_⟩
  · -- the key is there
    rcases key_split (mvK m.s m.a) L with ⟨L1, x, L2, eL, ex, hn⟩ | hn
    · have hx : x ∈ L := by rw [eL]; exact List.mem_append_right _ List.mem_cons_self
      rw [eL, List.map_append, List.map_cons, ex, valV_hit (fun y hy => by
        obtain ⟨z, hz, rfl⟩ := List.mem_map.mp hy
        exact hn z hz)] at hv
      have hv' : V.ref x.2.2.1 = v := Option.some.inj hv
      rw [← hv']
      obtain ⟨hx1, hx2⟩ := B3 x hx
      refine ⟨.inl ⟨rfl, _, .of (A3.s.h _ _ hx1)⟩, jm σ G3 H3 A3.s.s A3.e _ fun vm G4 H4 s4 rm => ?_⟩
      have A4 := A3.mono s4
      have h0 : Hb x.2.2.1 ≠ none := by rw [hx1]; exact fun z => nomatch z
      refine ⟨x.2.2.1, x.2.2.2, vm, rfl, rfl, A4.s.h _ _ hx1, szlt (by rw [hx2.length, List.length_map]; have := hms x hx; omega), ?_⟩
      have hpx : p ≠ x.2.2.1 := fun e => by rw [← e, hp] at hx1; cases hx1
      have hdx : pd ≠ x.2.2.1 := fun e => by rw [← e, B.dt] at hx1; cases hx1
      refine next (upd Hb x.2.2.1 (.lst (x.2.2.2 ++ [vm]))) G4 _ (L1 ++ (x.1, x.2.1 ++ [m], x.2.2.1, x.2.2.2 ++ [vm]) :: L2) ⟨fun a ha => ?_, fun a ha => ?_⟩ (upd_ne hpx) ⟨?_, ?_, fun y hy => ?_, ?_⟩ (fun y hy => ?_) (fun a _ _ ha => upd_ne (ha x hx)) (fun y hy => ?_) (A4.mutB h0 (gq x hx))
      · by_cases e : a = x.2.2.1
        · rw [e, upd_same]; exact fun z => nomatch z
        · rw [upd_ne e]; exact ha
      · by_cases e : a = x.2.2.1
        · rw [e]; exact .inl h0
        · rw [upd_ne e] at ha; exact .inl ha
      · rw [← B.es, eL, List.map_append, List.map_append, List.map_cons, List.map_cons]
        show _ = insK m (_ ++ (x.1, x.2.1) :: _)
        rw [ex, insK_hit fun y hy => by
          obtain ⟨z, hz, rfl⟩ := List.mem_map.mp hy
          exact hn z hz]
      · rw [upd_ne hdx, B.dt, eL]
        simp only [List.map_append, List.map_cons]
      · have nd := B.nd
        rw [eL, List.map_append, List.map_cons] at nd
        obtain ⟨n1', n2', n3'⟩ := List.nodup_append.mp nd
        have n4' := (List.nodup_cons.mp n2').1
        rcases List.mem_append.mp hy with q | q
        · have hyL : y ∈ L := by rw [eL]; exact List.mem_append_left _ q
          have hne : y.2.2.1 ≠ x.2.2.1 := n3' _ (List.mem_map.mpr ⟨y, q, rfl⟩) _ List.mem_cons_self
          rw [upd_ne hne]
          exact ⟨(B3 y hyL).1, (B3 y hyL).2.mono s4.g⟩
        · rcases List.mem_cons.mp q with q | q
          · rw [q]
            refine ⟨upd_same, ?_⟩
            show Reps W.K G4 ((x.2.1 ++ [m]).map mvD) (x.2.2.2 ++ [vm])
            rw [List.map_append]
            exact (hx2.mono s4.g).append (.one rm)
          · have hyL : y ∈ L := by rw [eL]; exact List.mem_append_right _ (List.mem_cons_of_mem _ q)
            have hne : y.2.2.1 ≠ x.2.2.1 := fun e => n4' (by rw [← e]; exact List.mem_map.mpr ⟨y, q, rfl⟩)
            rw [upd_ne hne]
            exact ⟨(B3 y hyL).1, (B3 y hyL).2.mono s4.g⟩
      · have nd := B.nd
        rw [eL] at nd
        simpa using nd
      · rcases List.mem_append.mp hy with q | q
        · exact gq y (by rw [eL]; exact List.mem_append_left _ q)
        · rcases List.mem_cons.mp q with q | q
          · rw [q]; exact gq x hx
          · exact gq y (by rw [eL]; exact List.mem_append_right _ (List.mem_cons_of_mem _ q))
      · refine .inr ?_
        rcases List.mem_append.mp hy with q | q
        · exact ⟨y, by rw [eL]; exact List.mem_append_left _ q, rfl⟩
        · rcases List.mem_cons.mp q with q | q
          · rw [q]; exact ⟨x, hx, rfl⟩
          · exact ⟨y, by rw [eL]; exact List.mem_append_right _ (List.mem_cons_of_mem _ q), rfl⟩
    · rw [valV_miss (fun y hy => by
        obtain ⟨z, hz, rfl⟩ := List.mem_map.mp hy
        exact hn z hz)] at hv
      cases hv
  · -- a new key
    have hn : ∀ y ∈ L, y.1 ≠ mvK m.s m.a := by
      rcases key_split (mvK m.s m.a) L with ⟨L1, x, L2, eL, ex, hn⟩ | hn
      · rw [eL, List.map_append, List.map_cons, ex, valV_hit (fun y hy => by
          obtain ⟨z, hz, rfl⟩ := List.mem_map.mp hy
          exact hn z hz)] at hv
        cases hv
      · exact hn
    have hdr : pd ≠ r := fun e => by rw [← e, B.dt] at hrb; cases hrb
    have hpr : p ≠ r := fun e => by rw [← e, hp] at hrb; cases hrb
    have hpd : p ≠ pd := fun e => by
      have := B.dt
      rw [← e, hp] at this
      cases this
    have hd0 : Hb pd ≠ none := by rw [B.dt]; exact fun z => nomatch z
    have ek : putK (L.map fun x => (x.1, V.ref x.2.2.1)) (mvK m.s m.a) (V.ref r) = (L.map fun x => (x.1, V.ref x.2.2.1)) ++ [(mvK m.s m.a, V.ref r)] := putK_miss fun y hy => by
      obtain ⟨z, hz, rfl⟩ := List.mem_map.mp hy
      exact hn z hz
    rw [ek]
    have Am := A3.mutB (o := .dT ((L.map fun x => (x.1, V.ref x.2.2.1)) ++ [(mvK m.s m.a, V.ref r)])) hd0 gp
    have hrm : (upd H3 pd (.dT ((L.map fun x => (x.1, V.ref x.2.2.1)) ++ [(mvK m.s m.a, V.ref r)]))) r = some (.lst []) := by rw [upd_ne (Ne.symm hdr)]; exact hr3
    have Ag := Am.growB hrm gr (by rw [upd_ne (Ne.symm hdr)]; exact hrb) hno
    refine ⟨.inl ⟨rfl, _, .of hrm⟩, jm σ G3 _ Ag.s.s Ag.e _ fun vm G4 H4 s4 rm => ?_⟩
    have A4 := Ag.mono s4
    have h0 : (upd (upd Hb pd (.dT ((L.map fun x => (x.1, V.ref x.2.2.1)) ++ [(mvK m.s m.a, V.ref r)]))) r (.lst [])) r ≠ none := by rw [upd_same]; exact fun z => nomatch z
    refine ⟨r, [], vm, rfl, rfl, A4.s.h _ _ upd_same, szlt (by show 0 < 100000; decide), ?_⟩
    refine next (upd (upd (upd Hb pd (.dT ((L.map fun x => (x.1, V.ref x.2.2.1)) ++ [(mvK m.s m.a, V.ref r)]))) r (.lst [])) r (.lst ([] ++ [vm]))) G4 _ (L ++ [(mvK m.s m.a, [m], r, [vm])]) ⟨fun a ha => ?_, fun a ha => ?_⟩ ?_ ⟨?_, ?_, fun y hy => ?_, ?_⟩ (fun y hy => ?_) (fun a ha hap _ => by
      have : a ≠ r := fun e => ha (by rw [e]; exact hrb)
      rw [upd_ne this, upd_ne this, upd_ne hap]) (fun y hy => ?_) (A4.mutB h0 grb)
    · by_cases e : a = r
      · rw [e, upd_same]; exact fun z => nomatch z
      · rw [upd_ne e, upd_ne e]
        by_cases e2 : a = pd
        · rw [e2, upd_same]; exact fun z => nomatch z
        · rw [upd_ne e2]; exact ha
    · by_cases e : a = r
      · rw [e]; exact .inr grb
      · rw [upd_ne e, upd_ne e] at ha
        by_cases e2 : a = pd
        · rw [e2]; exact .inl hd0
        · rw [upd_ne e2] at ha; exact .inl ha
    · rw [upd_ne hpr, upd_ne hpr, upd_ne hpd]
    · rw [List.map_append, B.es]
      have : ∀ y ∈ es, y.1 ≠ mvK m.s m.a := fun y hy => by
        rw [← B.es] at hy
        obtain ⟨z, hz, rfl⟩ := List.mem_map.mp hy
        exact hn z hz
      rw [insK_new this]
      rfl
    · rw [upd_ne hdr, upd_ne hdr, upd_same, List.map_append]
      rfl
    · rcases List.mem_append.mp hy with q | q
      · have hne := rne y q
        have hnd : y.2.2.1 ≠ pd := fun e => by
          have := (B.ls y q).1
          rw [e, B.dt] at this
          cases this
        rw [upd_ne hne, upd_ne hne, upd_ne hnd]
        exact ⟨(B3 y q).1, (B3 y q).2.mono s4.g⟩
      · rw [List.mem_singleton.mp q]
        exact ⟨upd_same, .one rm⟩
    · rw [List.map_append]
      refine List.nodup_append.mpr ⟨B.nd, List.pairwise_singleton _ _, fun a ha b hb => ?_⟩
      obtain ⟨z, hz, rfl⟩ := List.mem_map.mp ha
      rw [List.mem_singleton.mp hb]
      exact rne z hz
    · rcases List.mem_append.mp hy with q | q
      · exact gq y q
      · rw [List.mem_singleton.mp q]
        exact grb
    · rcases List.mem_append.mp hy with q | q
      · exact .inr ⟨y, q, rfl⟩
      · rw [List.mem_singleton.mp q]
        exact .inl hrb
theorem insK_len (m : Mv) : ∀ L : List (List Key × List Mv), (insK m L).length ≤ L.length + 1
  | [] => Nat.le_refl _
  | (k, us) :: L => by
    unfold insK
    by_cases h : k = mvK m.s m.a
    · rw [if_pos h]
      exact Nat.le_succ _
    · rw [if_neg h]
      exact Nat.succ_le_succ (insK_len m L)
theorem insK_each (m : Mv) (n : Nat) : ∀ L : List (List Key × List Mv), (∀ x ∈ L, x.2.length ≤ n) → ∀ x ∈ insK m L, x.2.length ≤ n + 1
  | [], _, x, hx => by
    rw [List.mem_singleton.mp hx]
    exact Nat.succ_le_succ (Nat.zero_le _)
  | (k, us) :: L, h, x, hx => by
    unfold insK at hx
    by_cases e : k = mvK m.s m.a
    · rw [if_pos e] at hx
      rcases List.mem_cons.mp hx with q | q
      · rw [q]
        show (us ++ [m]).length ≤ _
        rw [List.length_append]
        exact Nat.succ_le_succ (h _ List.mem_cons_self)
      · exact Nat.le_succ_of_le (h x (List.mem_cons_of_mem _ q))
    · rw [if_neg e] at hx
      rcases List.mem_cons.mp hx with q | q
      · rw [q]
        exact Nat.le_succ_of_le (h _ List.mem_cons_self)
      · exact insK_each m n L (fun y hy => h y (List.mem_cons_of_mem _ hy)) x q
theorem byKey_snoc (ms : List Mv) (m : Mv) : byKey (ms ++ [m]) = insK m (byKey ms) := by
  unfold byKey
  rw [List.foldl_append]
  rfl
theorem byKey_bd : ∀ (n : Nat) (ms : List Mv), ms.length = n → (byKey ms).length ≤ n ∧ ∀ x ∈ byKey ms, x.2.length ≤ n
  | 0, ms, h => by
    rw [List.eq_nil_of_length_eq_zero h]
    exact ⟨Nat.le_refl _, fun x hx => by cases hx⟩
  | n + 1, ms, h => by
    have hne : ms ≠ [] := fun e => by rw [e] at h; cases h
    have e := List.dropLast_concat_getLast hne
    have hl : ms.dropLast.length = n := by rw [List.length_dropLast, h]; rfl
    obtain ⟨h1, h2⟩ := byKey_bd n ms.dropLast hl
    rw [← e, byKey_snoc]
    exact ⟨Nat.le_trans (insK_len _ _) (Nat.succ_le_succ h1), insK_each _ n _ h2⟩
/-- what a key holds -/
def lookK (k : List Key) (es : List (List Key × List Mv)) : List Mv := ((es.find? fun e => decide (e.1 = k)).map (·.2)).getD []
def rwF (z : Str) (moves : List Mv) (ends : List Nat) : List (Str × D) := [("digits", .str z), ("written", .str z), ("size", .int 2), ("moves", .tup (moves.map mvD)), ("ends", .tup (ends.map fun (i : Nat) => .int (i : Int))), ("moves_by_key", .dct ((byKey moves).map fun e => (e.1, .lst (e.2.map mvD))))]
def rwD (W : Gx) (z : Str) (moves : List Mv) (ends : List Nat) : D := .ins (He.ga W.K "Rewriter") (rwF z moves ends)
def okMv (z : Str) (m : Mv) : Prop := m.a ∈ z.cps.toList ∧ m.b ∈ z.cps.toList ∧ m.s < 2 ∧ m.t < 2
structure RwOk (z : Str) (moves : List Mv) (ends : List Nat) : Prop where
  dg : Dg z
  mv : ∀ m ∈ moves, okMv z m
  en : ∀ e ∈ ends, e < 2
  r1 : RisD (moves.map mvD)
  r2 : RisD (ends.map fun (i : Nat) => D.int (i : Int))
def fi_Rewriter (ds : List D) (fs : List (Str × D)) : Prop := ∃ (z : Str) (moves : List Mv) (ends : List Nat), RwOk z moves ends ∧ ds = [.str z, .str z, .int 2, .tup (moves.map mvD), .tup (ends.map fun (i : Nat) => .int (i : Int))] ∧ fs = rwF z moves ends
theorem dct_freeze {K : PySem.W.Frag} {G Hb : Hp} {pd : Addr} {es : List (List Key × List Mv)} {L : List LE} (B : DctB K G Hb pd es L) (gp : G pd = none) (gq : ∀ x ∈ L, G x.2.2.1 = none) :
    ∃ G', Ex G G' ∧ (∀ a o, G' a = some o → G a = some o ∨ (Hb a = some o ∧ (a = pd ∨ ∃ x ∈ L, a = x.2.2.1))) ∧ Rep K G' (.dct (es.map fun e => (e.1, .lst (e.2.map mvD)))) (.ref pd) := by
  let G' : Hp := fun a => match G a with
    | some o => some o
    | none => if a = pd ∨ ∃ x ∈ L, a = x.2.2.1 then Hb a else none
  have hG : Ex G G' := fun a o e => by show (match G a with | some o => some o | none => _) = _; rw [e]
  have hnew : ∀ a, G a = none → (a = pd ∨ ∃ x ∈ L, a = x.2.2.1) → G' a = Hb a := fun a e h => by
    show (match G a with | some o => some o | none => _) = _
    rw [e]
    exact if_pos h
  refine ⟨G', hG, fun a o e => ?_, pd, _, rfl, (hnew pd gp (.inl rfl)).trans B.dt, ?_⟩
  · cases h : G a with
    | some u =>
      have := hG a u h
      rw [e] at this
      rw [this]
      exact .inl rfl
    | none =>
      have e' : (match G a with | some o => some o | none => if a = pd ∨ ∃ x ∈ L, a = x.2.2.1 then Hb a else none) = some o := e
      rw [h] at e'
      by_cases q : a = pd ∨ ∃ x ∈ L, a = x.2.2.1
      · have e2 : (if a = pd ∨ ∃ x ∈ L, a = x.2.2.1 then Hb a else none) = some o := e'
        rw [if_pos q] at e2
        exact .inr ⟨e2, q⟩
      · have e2 : (if a = pd ∨ ∃ x ∈ L, a = x.2.2.1 then Hb a else none) = some o := e'
        rw [if_neg q] at e2
        cases e2
  · have hx : ∀ x ∈ L, G' x.2.2.1 = some (.lst x.2.2.2) ∧ Reps K G' (x.2.1.map mvD) x.2.2.2 := fun x hx => ⟨(hnew _ (gq x hx) (.inr ⟨x, hx, rfl⟩)).trans (B.ls x hx).1, (B.ls x hx).2.mono hG⟩
    rw [← B.es]
    have gen : ∀ M : List LE, (∀ x ∈ M, G' x.2.2.1 = some (.lst x.2.2.2) ∧ Reps K G' (x.2.1.map mvD) x.2.2.2) → RepT K G' ((M.map fun x => (x.1, x.2.1)).map fun e => (e.1, .lst (e.2.map mvD))) (M.map fun x => (x.1, V.ref x.2.2.1)) := by
      intro M
      induction M with
      | nil => intro _; exact rfl
      | cons x M ih =>
        intro h
        have h1 := h x List.mem_cons_self
        exact ⟨.ref x.2.2.1, _, rfl, ⟨_, _, rfl, h1.1, h1.2⟩, ih fun y hy => h y (List.mem_cons_of_mem _ hy)⟩
    exact gen L hx
end TH
set_option maxHeartbeats 4000000
namespace TH
open PySem PySem.Spec PyProof.Rows L2
theorem oki_Rewriter {W : Gx} (T : Tx W) : OkI W 4 "Rewriter" 5 fi_Rewriter := by
  have m1 := T.m_isinstance
  have m2 := T.m_tuple
  have m3 := T.m_all
  refine okI_of T 71 101 99 100 65 (x := "Rewriter") (d := d_Rewriter_init) (N := N_Rewriter_init) (ps := ["self", "digits", "written", "size", "moves", "ends"]) (k := 3) (n := 5) (f := fi_Rewriter) rfl rfl rfl rfl rfl rfl rfl rfl sc_Rewriter_init rfl (fun _ _ _ _ _ _ us hl => match us, hl with | [_, _, _, _, _, _], _ => rfl) fun ds fs p dx G0 H0 σ D' hf hn hg h0 A fin => ?_
  obtain ⟨z, moves, ends, ok, rfl, rfl⟩ := hf
  have hl1 := ok.r1.ln
  have hl2 := ok.r2.ln
  rw [List.length_map] at hl1 hl2
  refine ws_ifF A (JT.is (jt_not (jt_val (j_call (ok_are_digits T) (ja_cons (jv 1) ja_nil) ⟨z, rfl, ok.dg, rfl⟩))) rfl) fun Ga1 Ha1 B1 => ?_
  refine ws_ifF B1 (JT.is (jt_not (jt_val (j_call (ok_are_digits T) (ja_cons (jv 2) ja_nil) ⟨z, rfl, ok.dg, rfl⟩))) rfl) fun Ga2 Ha2 B2 => ?_
  refine ws_ifF B2 (JT.is (jt_or (r := false) (r' := false) (JT.is (jt_not (jt_val (j_call (ok_is_integer_rewriters T) (ja_cons (jv 3) ja_nil) ⟨_, rfl, rfl⟩))) rfl) (fun _ => JT.is (jt_cmp c_ltI (jv 3) j_int) rfl)) rfl) fun Ga3 Ha3 B3 => ?_
  refine ws_ifF B3 (JT.is (jt_or (r := false) (r' := false) (JT.is (jt_not (jt_val (j_isTup (jv 4)))) rfl) (fun _ => JT.is (jt_not (jt_val (j_allT (xs := moves) (JN.l (JLc.n (jc1 6 sc_Rewriter_init.nd (ji_tup (jv 4)) (fun m hm => j_call (ok_is_move T) (ja_cons (jv 1) (ja_cons (jv 2) (ja_cons (jv 3) (ja_cons (jv 6) ja_nil)))) ⟨z, z, 2, m, (ok.mv m hm).1, (ok.mv m hm).2.1, (ok.mv m hm).2.2.1, (ok.mv m hm).2.2.2, rfl, rfl⟩))))))) rfl)) rfl) fun Ga4 Ha4 B4 => ?_
  refine ws_ifF B4 (JT.is (jt_not (jt_val (j_call (ok_are_rising T) (ja_cons (jv 4) ja_nil) ⟨_, ok.r1, rfl, rfl⟩))) rfl) fun Ga5 Ha5 B5 => ?_
  refine ws_ifF B5 (JT.is (jt_or3 (r := false) (r' := false) (r2 := false) (JT.is (jt_not (jt_val (j_isTup (jv 5)))) rfl) (fun _ => JT.is (jt_not (jt_val (j_allT (xs := ends) (JN.l (JLc.n (jc1 7 sc_Rewriter_init.nd (ji_tup (jv 5)) (fun e he => j_call (ok_is_state T) (ja_cons (jv 3) (ja_cons (jv 7) ja_nil)) ⟨2, e, ok.en e he, rfl, rfl⟩))))))) rfl) (fun _ _ => JT.is (jt_not (jt_val (j_call (ok_are_rising T) (ja_cons (jv 5) ja_nil) ⟨_, ok.r2, rfl, rfl⟩))) rfl)) rfl) fun Ga6 Ha6 B6 => ?_
  refine ws_fld (fs := []) B6 0 ⟨dx, [], h0, rfl⟩ hg T.c_Rewriter T.n_Rewriter_digits (jv 1) fun b1 G5 H5 e1 d1 A5 _ o1 => ?_
  refine ws_fld A5 0 o1 hg T.c_Rewriter T.n_Rewriter_written (jv 2) fun b2 G6 H6 e2 d2 A6 _ o2 => ?_
  refine ws_fld A6 0 o2 hg T.c_Rewriter T.n_Rewriter_size (jv 3) fun b3 G7 H7 e3 d3 A7 _ o3 => ?_
  refine ws_fld A7 0 o3 hg T.c_Rewriter T.n_Rewriter_moves (jv 4) fun b4 G8 H8 e4 d4 A8 _ o4 => ?_
  refine ws_fld A8 0 o4 hg T.c_Rewriter T.n_Rewriter_ends (jv 5) fun b5 G9 H9 e5 d5 A9 _ o5 => ?_
  have off5 : ∀ a, a ≠ p → b5 a = H0 a := fun a ha => by rw [e5 a ha, e4 a ha, e3 a ha, e2 a ha, e1 a ha]
  clear e1 e2 e3 e4 e5 o1 o2 o3 o4 d1 d2 d3 d4 d5
  obtain ⟨dx5, ws5, hp5, rf5⟩ := o5
  have hno : ∀ (i : Nat) (es : List D), ([Sl.raw (.ref p), .d (.str z), .d (.str z), .d (.int 2), .d (.tup (moves.map mvD)), .d (.tup (ends.map fun (i : Nat) => .int (i : Int))), .no, .no] : List Sl)[i]? ≠ some (Sl.own es) := fun i es h => by
    have := List.mem_of_getElem? h
    simp at this
  -- self.moves_by_key = {}
  refine wSs_cons (wS_X (fun X hX => ps_fld (pe_w hX (.Name "self" _)) pe_dnewT rfl) fun X hX => fun pd hpd => jraw (S := defS N_Rewriter_init (defScope s_Rewriter_init)) (env := [Sl.raw (.ref p), .d (.str z), .d (.str z), .d (.int 2), .d (.tup (moves.map mvD)), .d (.tup (ends.map fun (i : Nat) => .int (i : Int))), .no, .no]) 0 rfl rfl (Or.inl rfl) (by decide) (by decide) σ G9 (upd H9 pd (.dT [])) (A9.s.s.trans (.new hpd)) (A9.e.mono (.newO A9.s.s hpd)) _ fun v Ga Ha s1 ev => ?_)
  subst ev
  have gpd : G9 pd = none := A9.s.s.none hpd
  have bpd : b5 pd = none := A9.s.h.none hpd
  have gpd0 : G0 pd = none := A9.s.g.none gpd
  have hpne : pd ≠ p := fun e => by rw [← e, bpd] at hp5; cases hp5
  have Ab := (A9.mono (Stp.newO (o := .dT []) A9.s.s hpd)).growB (r := pd) (o := .dT []) upd_same gpd bpd hno
  have Ac := Ab.mono s1
  have hpb : (upd b5 pd (.dT [])) p = some (.ins (He.ga W.K "Rewriter") dx5 ws5) := by rw [upd_ne (Ne.symm hpne)]; exact hp5
  have hpb0 : (upd b5 pd (.dT [])) p ≠ none := by rw [hpb]; exact fun z => nomatch z
  refine ⟨p, He.ga W.K "Rewriter", dx5, ws5, rfl, Ac.s.h _ _ hpb, by rw [hX.K]; exact T.c_Rewriter, by rw [hX.K]; exact T.n_Rewriter_moves_by_key, by rw [rf5.length]; exact Nat.le_of_ble_eq_true rfl, ?_⟩
  have Ad := Ac.mutB (o := .ins (He.ga W.K "Rewriter") dx5 (putF "moves_by_key" (.ref pd) ws5)) hpb0 hg
  generalize hHl : upd (upd b5 pd (.dT [])) p (.ins (He.ga W.K "Rewriter") dx5 (putF "moves_by_key" (.ref pd) ws5)) = Hl at Ad
  have lp : Hl p = some (.ins (He.ga W.K "Rewriter") dx5 (putF "moves_by_key" (.ref pd) ws5)) := by rw [← hHl, upd_same]
  have lpd : Hl pd = some (.dT []) := by rw [← hHl, upd_ne hpne, upd_same]
  have loff : ∀ a, a ≠ p → a ≠ pd → Hl a = H0 a := fun a h1 h2 => by rw [← hHl, upd_ne h1, upd_ne h2]; exact off5 a h1
  have h0pd : H0 pd = none := by rw [← off5 pd hpne]; exact bpd
  have rf6 : RepF W.K Ga _ ws5 := rf5.mono s1.g
  refine ws_forG (items := moves.map mvD) (t := .one 6) (fun _ => [Sl.raw (.ref p), .d (.str z), .d (.str z), .d (.int 2), .d (.tup (moves.map mvD)), .d (.tup (ends.map fun (i : Nat) => .int (i : Int))), .no, .no])
    (fun n G Hb => ∃ L, DctB W.K G Hb pd (byKey (moves.take n)) L ∧ (∀ x ∈ L, Hl x.2.2.1 = none) ∧ Hb p = Hl p ∧ ∀ a, Hl a ≠ none → a ≠ pd → Hb a = Hl a) Ad sc_Rewriter_init.nd (ji_tup (jv 4)) (.one (sn 6)) (fun _ _ => trivial) (Le.refl _) (fun G1 _ => ⟨[], ⟨rfl, lpd, fun x hx => (List.not_mem_nil hx).elim, List.nodup_nil⟩, fun x hx => (List.not_mem_nil hx).elim, rfl, fun _ _ _ => rfl⟩)
    (fun Gb Hb n d σ3 G3 H3 nx hd hGb gr iv A3 hnx => ?_) (fun Gb Hb σ3 G3 H3 hGb gr eGa eGb iv A3 => ?_) fun n Ga1 Ga2 Hb ex ⟨L, B, r⟩ => ⟨L, ⟨B.es, B.dt, fun x hx => ⟨(B.ls x hx).1, (B.ls x hx).2.mono ex⟩, B.nd⟩, r⟩
  · obtain ⟨L, B, hq, hpp, hoff⟩ := iv
    rw [List.getElem?_map] at hd
    obtain ⟨m, hm, rfl⟩ := Option.map_eq_some_iff.mp hd
    have hlt : n < moves.length := (List.getElem?_eq_some_iff.mp hm).1
    have hbd := byKey_bd (moves.take n).length (moves.take n) rfl
    have hbl : (moves.take n).length < 1000 := by rw [List.length_take]; omega
    have hLl : L.length = (byKey (moves.take n)).length := by rw [← B.es, List.length_map]
    refine ws_mbk T A3 (fun i es h => ?_) rfl rfl (Or.inl rfl) rfl rfl (Or.inl rfl) (hpp.trans lp) ?_ B (hGb pd (by rw [lpd]; exact fun z => nomatch z) gpd0) (fun x hx => ?_) (by have := hbd.1; omega) (fun x hx => ?_) fun Hc G4 H4 L' gr2 hp2 B2 hq2 hmod hnew A4 => ?_
    · have := List.mem_of_getElem? h
      simp [bnd] at this
    · rw [lookup_putF, if_pos rfl]
    · have hx1 := (B.ls x hx).1
      rcases gr.nw x.2.2.1 (by rw [hx1]; exact fun z => nomatch z) with q | q
      · exact absurd (hq x hx) q
      · exact q
    · have : (x.1, x.2.1) ∈ byKey (moves.take n) := by rw [← B.es]; exact List.mem_map.mpr ⟨x, hx, rfl⟩
      exact Nat.lt_of_le_of_lt (hbd.2 _ this) hbl
    · refine ws_nil (hnx Hc σ3 G4 H4 gr2 ⟨L', ?_, fun x hx => ?_, hp2.trans hpp, fun a ha hap => ?_⟩ (At.le A4 ?_))
      · rw [take_succ_get hm, byKey_snoc]
        exact B2
      · rcases hnew x hx with q | ⟨y, hy, q⟩
        · cases e : Hl x.2.2.1 with
          | none => rfl
          | some o => exact absurd q (gr.up _ (by rw [e]; exact fun z => nomatch z))
        · rw [q]; exact hq y hy
      · rw [hmod a (gr.up a ha) hap (fun x hx e => ha (by rw [e]; exact hq x hx))]
        exact hoff a ha hap
      · exact .cons (.cons (.cons (.cons (.cons (.cons (.no (.cons .nil)))))))
  · obtain ⟨L, B, hq, hpp, hoff⟩ := iv
    have hbpd : Hb pd ≠ none := by rw [B.dt]; exact fun z => nomatch z
    have hqG0 : ∀ x ∈ L, G3 x.2.2.1 = none := fun x hx => by
      have hx1 := (B.ls x hx).1
      have hne : Hb x.2.2.1 ≠ none := by rw [hx1]; exact fun z => nomatch z
      rcases gr.nw x.2.2.1 hne with q | q
      · exact absurd (hq x hx) q
      · exact A3.s.o _ hne ((Ad.s.g.trans eGa).none q)
    obtain ⟨G4, x4, h4, r4⟩ := dct_freeze B (A3.s.o pd hbpd gpd0) hqG0
    have hqp : ∀ x ∈ L, x.2.2.1 ≠ p ∧ x.2.2.1 ≠ pd := fun x hx => by
      have := hq x hx
      refine ⟨fun e => ?_, fun e => ?_⟩
      · rw [e, lp] at this
        cases this
      · rw [e, lpd] at this
        cases this
    have key : ∀ a, a ≠ p → H0 a ≠ none → Hb a = H0 a := fun a h1 h2 => by
      have hapd : a ≠ pd := fun e => h2 (by rw [e]; exact h0pd)
      have hla := loff a h1 hapd
      rw [hoff a (by rw [hla]; exact h2) hapd, hla]
    obtain ⟨M, hM1, hM2⟩ : ∃ M : Hp, M p = Hb p ∧ ∀ a, a ≠ p → M a = H0 a := ⟨fun a => if a = p then Hb p else H0 a, if_pos rfl, fun a ha => if_neg ha⟩
    refine ws_nil (fin σ3 G4 H3 M (fun a => ?_) hM2 ⟨List.replicate σ3.length .no, ⟨⟨A3.s.g.trans x4, fun a o ha => ?_, fun a o ha => ?_, fun a ha hga => ?_⟩, ⟨by rw [List.length_replicate], fun i x o hx _ => ?_⟩, fun i es q hx _ => ?_, fun i j es fs q hx _ _ _ => ?_⟩⟩ ⟨dx5, putF "moves_by_key" (.ref pd) ws5, ?_, ?_⟩)
    · by_cases e : a = p
      · rw [e, h0, hM1, hpp, lp]
        exact ⟨fun z => (nomatch z), fun z => (nomatch z)⟩
      · rw [hM2 a e]
    · by_cases e : a = p
      · rw [e, hM1] at ha
        rw [e]
        exact A3.s.h p o ha
      · rw [hM2 a e] at ha
        exact A3.s.h a o (by rw [key a e (by rw [ha]; exact fun z => nomatch z)]; exact ha)
    · rcases h4 a o ha with q | ⟨q, _⟩
      · exact A3.s.s a o q
      · exact A3.s.h a o q
    · cases e4 : G4 a with
      | none => rfl
      | some o =>
        exfalso
        rcases h4 a o e4 with q | ⟨q, q2⟩
        · have : G3 a = none := A3.s.o a (by
            by_cases e : a = p
            · rw [e, hpp, lp]; exact fun z => nomatch z
            · rw [hM2 a e] at ha
              rw [key a e ha]
              exact ha) hga
          rw [this] at q
          cases q
        · rcases q2 with q2 | ⟨x, hx, q2⟩
          · rw [q2, hM2 pd hpne] at ha
            exact ha h0pd
          · rw [q2, hM2 _ (hqp x hx).1, ← loff _ (hqp x hx).1 (hqp x hx).2] at ha
            exact ha (hq x hx)
    · rw [List.eq_of_mem_replicate (List.mem_of_getElem? hx)]
      trivial
    · cases List.eq_of_mem_replicate (List.mem_of_getElem? hx)
    · cases List.eq_of_mem_replicate (List.mem_of_getElem? hx)
    · rw [hM1, hpp, lp]
    · rw [List.length_map, List.take_length] at r4
      exact RepF.put (f := "moves_by_key") r4 ((rf6.mono (eGa.trans eGb)).mono x4)
end TH
set_option maxHeartbeats 4000000
namespace TH
open PySem PySem.Spec PyProof.Rows L2
theorem mvK_inj {s c s' c' : Nat} (h : mvK s c = mvK s' c') : s = s' ∧ c = c' := by
  unfold mvK at h
  rw [List.cons.injEq, List.cons.injEq] at h
  have h1 : (s : Int) = (s' : Int) := Sum.inl.inj h.1
  exact ⟨by omega, sgK_inj h.2.1⟩
theorem lookK_ins (m : Mv) (s c : Nat) : ∀ es : List (List Key × List Mv), lookK (mvK s c) (insK m es) = lookK (mvK s c) es ++ (if m.s = s ∧ m.a = c then [m] else [])
  | [] => by
    unfold insK lookK
    by_cases h : m.s = s ∧ m.a = c
    · rw [h.1, h.2, if_pos ⟨rfl, rfl⟩, List.find?_cons_of_pos (by exact decide_eq_true rfl)]
      rfl
    · rw [if_neg h, List.find?_cons_of_neg (by rw [decide_eq_true_eq]; exact fun e => h (mvK_inj e))]
      rfl
  | (k, us) :: es => by
    unfold insK
    by_cases e : k = mvK m.s m.a
    · rw [if_pos e]
      unfold lookK
      by_cases h : m.s = s ∧ m.a = c
      · rw [if_pos h, List.find?_cons_of_pos (by rw [decide_eq_true_eq, e, h.1, h.2]), List.find?_cons_of_pos (by rw [decide_eq_true_eq, e, h.1, h.2])]
        rfl
      · have hne : ¬ k = mvK s c := fun q => h (mvK_inj (e.symm.trans q))
        rw [if_neg h, List.append_nil, List.find?_cons_of_neg (by rw [decide_eq_true_eq]; exact hne), List.find?_cons_of_neg (by rw [decide_eq_true_eq]; exact hne)]
    · rw [if_neg e]
      by_cases q : k = mvK s c
      · have h : ¬ (m.s = s ∧ m.a = c) := fun z => e (by rw [q, z.1, z.2])
        rw [if_neg h, List.append_nil]
        unfold lookK
        rw [List.find?_cons_of_pos (by rw [decide_eq_true_eq]; exact q), List.find?_cons_of_pos (by rw [decide_eq_true_eq]; exact q)]
      · have ih := lookK_ins m s c es
        unfold lookK at ih ⊢
        rw [List.find?_cons_of_neg (by rw [decide_eq_true_eq]; exact q), List.find?_cons_of_neg (by rw [decide_eq_true_eq]; exact q), ih]
def mvFrom (moves : List Mv) (s c : Nat) : List Mv := moves.filter fun m => decide (m.s = s ∧ m.a = c)
theorem lookK_fold (s c : Nat) : ∀ (ms : List Mv) (acc : List (List Key × List Mv)), lookK (mvK s c) (ms.foldl (fun acc m => insK m acc) acc) = lookK (mvK s c) acc ++ mvFrom ms s c
  | [], acc => (List.append_nil _).symm
  | m :: ms, acc => by
    show lookK (mvK s c) (ms.foldl (fun acc m => insK m acc) (insK m acc)) = _
    rw [lookK_fold s c ms, lookK_ins, List.append_assoc]
    unfold mvFrom
    rw [List.filter_cons]
    by_cases h : m.s = s ∧ m.a = c
    · rw [if_pos h, if_pos (decide_eq_true h)]
      rfl
    · rw [if_neg h, if_neg (by rw [decide_eq_true_eq]; exact h)]
      rfl
theorem look_byKey (ms : List Mv) (s c : Nat) : lookK (mvK s c) (byKey ms) = mvFrom ms s c := by
  unfold byKey
  rw [lookK_fold]
  rfl
theorem repT_look {K : PySem.W.Frag} {G : Hp} {k : List Key} : ∀ {es : List (List Key × List Mv)} {vs : List (List Key × V)}, RepT K G (es.map fun e => (e.1, .lst (e.2.map mvD))) vs →
    (∃ v, valV vs k = some v ∧ Rep K G (.lst ((lookK k es).map mvD)) v) ∨ (valV vs k = none ∧ lookK k es = [])
  | [], vs, h => by
    rw [show vs = [] from h]
    exact .inr ⟨rfl, rfl⟩
  | e :: es, vs, h => by
    obtain ⟨v, r, rfl, h1, h2⟩ := h
    by_cases q : e.1 = k
    · refine .inl ⟨v, valV_pos q, ?_⟩
      unfold lookK
      rw [List.find?_cons_of_pos (by rw [decide_eq_true_eq]; exact q)]
      exact h1
    · have ih := repT_look (k := k) h2
      unfold lookK at ih ⊢
      rw [valV_neg q, List.find?_cons_of_neg (by rw [decide_eq_true_eq]; exact q)]
      exact ih
def f_moves_from (W : Gx) (ds : List D) (d : D) : Prop := ∃ (z : Str) (moves : List Mv) (ends : List Nat) (s c : Nat), ds = [rwD W z moves ends, .int (s : Int), sgn c] ∧ d = .lst ((mvFrom moves s c).map mvD)
theorem ok_Rewriter_moves_from {W : Gx} (T : Tx W) : OkM W 1 (He.ga W.K "Rewriter") "moves_from" 3 (f_moves_from W) := by
  refine mk_Rewriter_moves_from T fun ds d G0 H0 σ D' hf hn A fin => ?_
  obtain ⟨z, moves, ends, s, c, rfl, rfl⟩ := hf
  refine ws_ret A (fun σ G H x0 E Q q => ?_) fin.rt
  have jo : ∀ {pos p : Pos}, J W (defS N_Rewriter_moves_from (defScope s_Rewriter_moves_from)) 0 (.Attribute (.Name "self" p) "moves_by_key" pos) (startE N_Rewriter_moves_from [rwD W z moves ends, .int (s : Int), sgn c]) (.dct ((byKey moves).map fun e => (e.1, .lst (e.2.map mvD)))) := fun {pos p} => j_fld (fs := rwF z moves ends) (jv 0) rfl T.c_Rewriter T.n_Rewriter_moves_by_key
  refine wE_X (fun X hX => pe_dget2 (by have := hX.room.units; omega) (pe_w hX _) (pe_w hX _) (pe_w hX _) ⟨rfl, rfl, rfl, rfl⟩) fun X hX => ?_
  refine jo σ G H x0 E _ fun v G1 H1 s1 ⟨a, kv, ev, ha, rt⟩ => ?_
  subst ev
  refine ⟨a, rfl, .inr ⟨_, .of (s1.s _ _ ha)⟩, ?_⟩
  refine (j_tup (ds := [.int (s : Int), sgn c]) (ja_cons (jv 1) (ja_cons (jv 2) ja_nil)) (by show 2 ≤ 100000; decide)) σ G1 H1 s1.s (E.mono s1) _ fun v G2 H2 s2 ⟨b, tv, ev, hb, rb⟩ => ?_
  subst ev
  obtain ⟨t1, r1, rfl, e1, t2, r2, rfl, e2, e3⟩ := rb
  rw [show t1 = V.int s from e1, show t2 = V.str ⟨#[c]⟩ from e2, show r2 = [] from e3] at hb
  refine (jn_lst ja_nil) σ G2 H2 s2.s (E.mono (s1.trans s2)) _ fun r lv G3 H3 s3 hr gr hr3 rl => ?_
  have s13 := (s1.trans s2).trans s3
  refine ⟨valV kv (mvK s c), .inr ⟨kv, mvK s c, b, .inl (s3.s _ _ (s3.g _ _ (s2.g _ _ ha))), rfl, s3.s _ _ (s3.g _ _ hb), rfl⟩, ?_⟩
  have rt3 := rt.mono ((s2.trans s3).g)
  rcases repT_look (k := mvK s c) rt3 with ⟨v, hv, rv⟩ | ⟨hv, he⟩
  · rw [hv]
    rw [look_byKey] at rv
    exact q v G3 H3 s13 rv
  · rw [hv]
    rw [look_byKey] at he
    rw [he] at q
    exact q (.ref r) _ H3 (s13.freeze ((s1.trans s2).h.none hr) gr hr3) ⟨r, lv, rfl, upd_same, rl.mono (.new gr)⟩
theorem leD_total : PySem.W.TotalLe leD := PySem.W.sortLe_total (PyProof.Rows.listOrd PyProof.Rows.itemOrd) false fun b => PySem.W.keyToks (toP b)
theorem sorted_is {ms S : List Mv} (hp : S.Perm ms) (hs : S.Pairwise fun m n => leD (mvD m) (mvD n) = true) (anti : ∀ a ∈ S, ∀ b ∈ S, leD (mvD a) (mvD b) = true → leD (mvD b) (mvD a) = true → a = b) : (ms.map mvD).mergeSort leD = S.map mvD := by
  rw [← List.map_mergeSort (r := fun m n => leD (mvD m) (mvD n)) (fun _ _ _ _ => rfl)]
  congr 1
  refine List.Perm.eq_of_pairwise (le := fun m n => leD (mvD m) (mvD n) = true) (fun a b ha hb h1 h2 => ?_) (List.pairwise_mergeSort (le := fun m n => leD (mvD m) (mvD n)) (fun a b c => leD_total.trans _ _ _) (fun a b => ?_) ms) hs ((List.mergeSort_perm ms _).trans hp.symm)
  · exact anti a (hp.mem_iff.mpr ((List.mergeSort_perm ms _).mem_iff.mp ha)) b hb h1 h2
  · have := leD_total.total (mvD a) (mvD b)
    simpa using this
theorem alike_mv (m n : Mv) : PySem.W.alike (toP (mvD m)) (toP (mvD n)) = true := rfl
theorem all_alike (ms : List Mv) : PySem.W.AllAlike ((ms.map mvD).map toP) := fun d hd e he => by
  rw [List.map_map] at hd he
  obtain ⟨m, _, rfl⟩ := List.mem_map.mp hd
  obtain ⟨n, _, rfl⟩ := List.mem_map.mp he
  exact alike_mv m n
theorem sortable_mv (ms : List Mv) : PySem.W.Sortable ((ms.map mvD).map toP) := .inl fun d hd => by
  rw [List.map_map] at hd
  obtain ⟨m, _, rfl⟩ := List.mem_map.mp hd
  exact ⟨_, _, rfl⟩
theorem ris_mv {ms : List Mv} (hl : ms.length < 1000) (h : ∀ p ∈ ms.zip (ms.drop 1), PySem.W.dataLt (toP (mvD p.1)) (toP (mvD p.2)) = true) : RisD (ms.map mvD) := by
  refine ⟨fun d hd => ?_, fun d hd e he => ?_, fun d hd => ?_, fun d hd => ?_, fun p hp => ?_, by rw [List.length_map]; exact hl⟩
  · obtain ⟨m, _, rfl⟩ := List.mem_map.mp hd
    rfl
  · obtain ⟨m, _, rfl⟩ := List.mem_map.mp hd
    obtain ⟨n, _, rfl⟩ := List.mem_map.mp he
    exact alike_mv m n
  · obtain ⟨m, _, rfl⟩ := List.mem_map.mp hd
    exact fun z => nomatch z
  · obtain ⟨m, _, rfl⟩ := List.mem_map.mp hd
    show 1 ≤ 64
    decide
  · rw [← List.map_drop, List.zip_map] at hp
    obtain ⟨q, hq, rfl⟩ := List.mem_map.mp hp
    exact h q hq
theorem ris_int {ns : List Nat} (hl : ns.length < 1000) (h : ∀ p ∈ ns.zip (ns.drop 1), p.1 < p.2) : RisD (ns.map fun (i : Nat) => D.int (i : Int)) := by
  refine ⟨fun d hd => ?_, fun d hd e he => ?_, fun d hd => ?_, fun d hd => ?_, fun p hp => ?_, by rw [List.length_map]; exact hl⟩
  · obtain ⟨m, _, rfl⟩ := List.mem_map.mp hd
    rfl
  · obtain ⟨m, _, rfl⟩ := List.mem_map.mp hd
    obtain ⟨n, _, rfl⟩ := List.mem_map.mp he
    rfl
  · obtain ⟨m, _, rfl⟩ := List.mem_map.mp hd
    exact fun z => nomatch z
  · obtain ⟨m, _, rfl⟩ := List.mem_map.mp hd
    exact Nat.zero_le _
  · rw [← List.map_drop, List.zip_map] at hp
    obtain ⟨q, hq, rfl⟩ := List.mem_map.mp hp
    show PySem.W.dataLt (.int (q.1 : Int)) (.int (q.2 : Int)) = true
    rw [PySem.W.dataLt_int]
    have := h q hq
    exact decide_eq_true (by omega)
/-- the law's digits -/
def Al (z : Str) : Prop := z = "01" ∨ z = "0" ∨ z = "012" ∨ z = "38"
def upRaw (all cs : List Nat) : List Mv := cs.flatMap fun d => [⟨0, d, d, 0⟩] ++ (all.filter fun o => decide (o < d)).map (fun o => ⟨0, d, o, 1⟩) ++ all.map fun o => ⟨1, d, o, 1⟩
def upS (cs : List Nat) : List Mv := (cs.flatMap fun d => (cs.filter fun o => decide (o < d)).map (fun o => ⟨0, d, o, 1⟩) ++ [⟨0, d, d, 0⟩]) ++ cs.flatMap fun d => cs.map fun o => ⟨1, d, o, 1⟩
def aheadRaw (cs : List Nat) : List Mv := cs.map (fun d => ⟨0, d, d, 0⟩) ++ [⟨1, cs.headD 0, cs.getLastD 0, 1⟩] ++ (cs.zip (cs.drop 1)).map fun p => ⟨0, p.2, p.1, 1⟩
def aheadS : List Nat → List Mv
  | [] => []
  | c :: cs => (⟨0, c, c, 0⟩ :: ((c :: cs).zip cs).flatMap fun p => [⟨0, p.2, p.1, 1⟩, ⟨0, p.2, p.2, 0⟩]) ++ [⟨1, c, (c :: cs).getLastD 0, 1⟩]
structure UpOk (z : Str) (raw S : List Mv) (ends : List Nat) : Prop where
  perm : S.Perm raw
  pw : S.Pairwise fun m n => leD (mvD m) (mvD n) = true
  anti : ∀ a ∈ S, ∀ b ∈ S, leD (mvD a) (mvD b) = true → leD (mvD b) (mvD a) = true → a = b
  ris : ∀ p ∈ S.zip (S.drop 1), PySem.W.dataLt (toP (mvD p.1)) (toP (mvD p.2)) = true
  mv : ∀ m ∈ S, okMv z m
  en : ∀ e ∈ ends, e < 2
  er : ∀ p ∈ ends.zip (ends.drop 1), p.1 < p.2
  ln : S.length < 100 ∧ ends.length < 100
instance (z : Str) (m : Mv) : Decidable (okMv z m) := by unfold okMv; infer_instance
theorem dg_of {z : Str} (h : Al z) : Dg z := by
  rcases h with rfl | rfl | rfl | rfl <;> exact ⟨by decide +kernel, by decide +kernel, by decide +kernel, by
    intro i hi
    have : i < 3 := Nat.lt_of_succ_lt (Nat.lt_of_lt_of_le hi (by decide +kernel))
    revert hi
    revert i
    decide +kernel⟩
theorem up_ok {z : Str} (h : Al z) : UpOk z (upRaw z.cps.toList z.cps.toList) (upS z.cps.toList) [0, 1] := by
  rcases h with rfl | rfl | rfl | rfl <;> exact ⟨by decide +kernel, by decide +kernel, by decide +kernel, by decide +kernel, by decide +kernel, by decide +kernel, by decide +kernel, by decide +kernel⟩
theorem ahead_ok {z : Str} (h : Al z) : UpOk z (aheadRaw z.cps.toList) (aheadS z.cps.toList) [1] := by
  rcases h with rfl | rfl | rfl | rfl <;> exact ⟨by decide +kernel, by decide +kernel, by decide +kernel, by decide +kernel, by decide +kernel, by decide +kernel, by decide +kernel, by decide +kernel⟩
theorem UpOk.rw {z : Str} {raw S : List Mv} {ends : List Nat} (u : UpOk z raw S ends) (dg : Dg z) : RwOk z S ends := ⟨dg, u.mv, u.en, ris_mv (by have := u.ln.1; omega) u.ris, ris_int (by have := u.ln.2; omega) u.er⟩
end TH
set_option maxHeartbeats 4000000
namespace TH
open PySem PySem.Spec PyProof.Rows L2
theorem al_len {z : Str} (h : Al z) : 1 ≤ z.cps.toList.length ∧ z.cps.toList.length ≤ 3 := by
  rcases h with rfl | rfl | rfl | rfl <;> decide +kernel
theorem upRaw_len (all : List Nat) : ∀ cs : List Nat, (upRaw all cs).length ≤ cs.length * (1 + 2 * all.length)
  | [] => Nat.zero_le _
  | d :: cs => by
    have ih := upRaw_len all cs
    have e : upRaw all (d :: cs) = ([⟨0, d, d, 0⟩] ++ (all.filter fun o => decide (o < d)).map (fun o => ⟨0, d, o, 1⟩) ++ all.map fun o => ⟨1, d, o, 1⟩) ++ upRaw all cs := by
      unfold upRaw
      rw [List.flatMap_cons]
    have h1 := List.length_filter_le (fun o => decide (o < d)) all
    have e2 : (d :: cs).length * (1 + 2 * all.length) = cs.length * (1 + 2 * all.length) + (1 + 2 * all.length) := by rw [List.length_cons, Nat.add_mul, Nat.one_mul]
    rw [e, e2]
    simp only [List.length_append, List.length_map, List.length_cons, List.length_nil]
    omega
theorem upRaw_snoc (all cs : List Nat) (d : Nat) : upRaw all (cs ++ [d]) = upRaw all cs ++ ([⟨0, d, d, 0⟩] ++ (all.filter fun o => decide (o < d)).map (fun o => ⟨0, d, o, 1⟩) ++ all.map fun o => ⟨1, d, o, 1⟩) := by
  unfold upRaw
  rw [List.flatMap_append, List.flatMap_cons, List.flatMap_nil, List.append_nil]
theorem sgn_lt (a b : Nat) : (decide ((⟨#[a]⟩ : Str).cps.toList < (⟨#[b]⟩ : Str).cps.toList)) = decide (a < b) := by
  have : ((⟨#[a]⟩ : Str).cps.toList < (⟨#[b]⟩ : Str).cps.toList) ↔ a < b := by
    show ([a] < [b]) ↔ _
    rw [List.cons_lt_cons_iff]
    exact ⟨fun h => h.elim id fun h => absurd h.2 (List.not_lt_nil _), .inl⟩
  by_cases h : a < b
  · rw [decide_eq_true h, decide_eq_true (this.mpr h)]
  · rw [decide_eq_false h, decide_eq_false fun q => h (this.mp q)]
theorem mk_rw {W : Gx} (T : Tx W) {S : Sc} {k : Nat} {env : List Sl} {a b c d e : Expr} {p pos : Pos} {z : Str} {raw Ss : List Mv} {ends : List Nat} (al : Al z) (u : UpOk z raw Ss ends) (ha : J W S k a env (.str z)) (hb : J W S k b env (.str z)) (hc : J W S k c env (.int 2)) (hd : J W S k d env (.tup (Ss.map mvD))) (he : J W S k e env (.tup (ends.map fun (i : Nat) => .int (i : Int))))
    (hk : 5 ≤ k := by decide) (hg : GlS S "Rewriter" := by exact rfl) (pa : Plain a := by intro _ _; rfl) (pb : Plain b := by intro _ _; rfl) (pc : Plain c := by intro _ _; rfl) (pd : Plain d := by intro _ _; rfl) (pe : Plain e := by intro _ _; rfl) (hpl : ∀ env : Env, (backTo pos (starEach [b, c, d, e] env)).any (·.1) = false := by intro _; rfl) :
    J W S k (.Call (.Name "Rewriter" p) [a, b, c, d, e] [] pos) env (rwD W z Ss ends) :=
  J.is (JO1.j (jo_make (oki_Rewriter T) (ja_cons ha (ja_cons hb (ja_cons hc (ja_cons hd (ja_cons he ja_nil pe) pd) pc) pb) pa) ⟨z, Ss, ends, u.rw (dg_of al), rfl, rfl⟩ hk rfl hg pa hpl)) rfl
def f_up_to (W : Gx) (ds : List D) (d : D) : Prop := ∃ z : Str, Al z ∧ ds = [.str z] ∧ d = rwD W z (upS z.cps.toList) [0, 1]
theorem ok_up_to {W : Gx} (T : Tx W) : OkF W 6 "up_to" 1 (f_up_to W) := by
  have m1 := T.m_sorted
  have m2 := T.m_tuple
  refine mk_up_to T fun ds d G0 H0 σ D' hf hn A fin => ?_
  obtain ⟨z, al, rfl, rfl⟩ := hf
  obtain ⟨hl1, hl3⟩ := al_len al
  have u := up_ok al
  refine ws_setO A sc_up_to.nd (sn 1) (jn_lst ja_nil) fun σ1 G1 H1 A1 => ?_
  refine ws_for (items := z.cps.toList.map sgn) (t := .one 2) (fun i => [.d (.str z), .own ((upRaw z.cps.toList (z.cps.toList.take i)).map mvD), .no, .no]) A1 sc_up_to.nd (ji_str (jv 0)) (.one (sn 2)) (fun _ _ => trivial) (Le.refl _) (fun Gb i dd σ2 G2 H2 nx hd A2 hnx => ?_) fun σ2 G2 H2 A2 => ?_
  · rw [List.getElem?_map] at hd
    obtain ⟨c, hc, rfl⟩ := Option.map_eq_some_iff.mp hd
    have hbd := upRaw_len z.cps.toList (z.cps.toList.take i)
    have hbd2 : (z.cps.toList.take i).length * (1 + 2 * z.cps.toList.length) ≤ 3 * 7 := Nat.mul_le_mul (by rw [List.length_take]; omega) (by omega)
    have hfl := List.length_filter_le (fun o => decide (o < c)) z.cps.toList
    refine ws_append (i := 1) (ds := (upRaw z.cps.toList (z.cps.toList.take i)).map mvD) (d := mvD ⟨0, c, c, 0⟩) A2 rfl rfl (Or.inl rfl) (j_tup (ja_cons j_int (ja_cons (jv 2) (ja_cons (jv 2) (ja_cons j_int ja_nil)))) (by show 4 ≤ 100000; decide)) (by rw [List.length_map]; omega) fun σ3 G3 H3 A3 => ?_
    refine ws_extend (i := 1) (ds := (upRaw z.cps.toList (z.cps.toList.take i)).map mvD ++ [mvD ⟨0, c, c, 0⟩]) (es := ((z.cps.toList.filter fun o => decide (o < c)).map fun o => (⟨0, c, o, 1⟩ : Mv)).map mvD) A3 rfl rfl (Or.inl rfl) (J.is (JLc.n (jc1If 3 (fun o => decide (o < c)) sc_up_to.nd (ji_str (jv 0)) (f := fun o => mvD ⟨0, c, o, 1⟩) (fun o ho => JT.is (jt_cmp c_ltS (jv 3) (jv 2)) (sgn_lt o c)) (fun o ho _ => j_tup (ja_cons j_int (ja_cons (jv 2) (ja_cons (jv 3) (ja_cons j_int ja_nil)))) (by show 4 ≤ 100000; decide)))).lst (by rw [List.map_map]; rfl)) (by rw [List.length_append, List.length_map, List.length_map, List.length_map]; show _ + 1 + _ ≤ _; omega) fun σ4 G4 H4 A4 => ?_
    refine ws_extend (i := 1) (ds := (upRaw z.cps.toList (z.cps.toList.take i)).map mvD ++ [mvD ⟨0, c, c, 0⟩] ++ ((z.cps.toList.filter fun o => decide (o < c)).map fun o => (⟨0, c, o, 1⟩ : Mv)).map mvD) (es := (z.cps.toList.map fun o => (⟨1, c, o, 1⟩ : Mv)).map mvD) A4 rfl rfl (Or.inl rfl) (J.is (JLc.n (jc1 3 sc_up_to.nd (ji_str (jv 0)) (f := fun o => mvD ⟨1, c, o, 1⟩) (fun o ho => j_tup (ja_cons j_int (ja_cons (jv 2) (ja_cons (jv 3) (ja_cons j_int ja_nil)))) (by show 4 ≤ 100000; decide)))).lst (by rw [List.map_map]; rfl)) (by rw [List.length_append, List.length_append, List.length_map, List.length_map, List.length_map, List.length_map, List.length_map]; show _ + 1 + _ + _ ≤ _; omega) fun σ5 G5 H5 A5 => ?_
    refine ws_nil (hnx σ5 G5 H5 (At.le A5 ?_))
    have e : (upRaw z.cps.toList (z.cps.toList.take (i + 1))).map mvD = (upRaw z.cps.toList (z.cps.toList.take i)).map mvD ++ [mvD ⟨0, c, c, 0⟩] ++ ((z.cps.toList.filter fun o => decide (o < c)).map fun o => (⟨0, c, o, 1⟩ : Mv)).map mvD ++ (z.cps.toList.map fun o => (⟨1, c, o, 1⟩ : Mv)).map mvD := by
      rw [take_succ_get hc, upRaw_snoc, List.map_append, List.map_append, List.map_append, List.append_assoc, List.append_assoc, List.append_assoc]
      rfl
    rw [e]
    exact .cons (.cons (.no (.cons .nil)))
  · have e : (upRaw z.cps.toList (z.cps.toList.take (z.cps.toList.map sgn).length)).map mvD = (upRaw z.cps.toList z.cps.toList).map mvD := by rw [List.length_map, List.take_length]
    rw [e] at A2
    refine ws_ret A2 (mk_rw T al u (jv 0) (jv 0) j_int (j_tupleL (JN.l (JN.is (jn_sortedD (jvo 1) (fun d hd => ?_) (all_alike _) (sortable_mv _) (fun d hd => ?_)) (sorted_is u.perm u.pw u.anti)))) (j_tup (ja_cons j_int (ja_cons j_int ja_nil)) (by show 2 ≤ 100000; decide))) fin.rt
    · obtain ⟨m, _, rfl⟩ := List.mem_map.mp hd
      rfl
    · obtain ⟨m, _, rfl⟩ := List.mem_map.mp hd
      show 1 ≤ 60
      decide
theorem cutD_drop1 (es : List D) : cutD es (some 1) none = es.drop 1 := by
  unfold cutD
  have h1 : HT.sIx es.length 0 (some 1) = min 1 es.length := rfl
  have h2 : HT.sIx es.length es.length none = es.length := rfl
  rw [h1, h2]
  by_cases hz : es.length = 0
  · rw [List.eq_nil_of_length_eq_zero hz]
    rfl
  · rw [Nat.min_eq_left (by omega), List.take_of_length_le (by rw [List.length_drop]; exact Nat.le_refl _)]
def f_one_ahead (W : Gx) (ds : List D) (d : D) : Prop := ∃ z : Str, Al z ∧ ds = [.str z] ∧ d = rwD W z (aheadS z.cps.toList) [1]
theorem cutS_drop1 {z : Str} (al : Al z) : (cutS z (some 1) none).cps.toList = z.cps.toList.drop 1 := by
  rcases al with rfl | rfl | rfl | rfl <;> decide +kernel
theorem ok_one_ahead {W : Gx} (T : Tx W) : OkF W 6 "one_ahead" 1 (f_one_ahead W) := by
  have m1 := T.m_sorted
  have m2 := T.m_tuple
  have m3 := T.m_zip
  refine mk_one_ahead T fun ds d G0 H0 σ D' hf hn A fin => ?_
  obtain ⟨z, al, rfl, rfl⟩ := hf
  obtain ⟨hl1, hl3⟩ := al_len al
  have u := ahead_ok al
  have hz : z.length ≤ 100000 := by rw [strlen]; omega
  have hhead : z.cps.toList.headD 0 = z.cps.toList.getD 0 0 := by cases z.cps.toList <;> rfl
  have hlast : atI z.cps.toList (-1) = some (z.cps.toList.getLastD 0) := by
    rcases al with rfl | rfl | rfl | rfl <;> decide +kernel
  refine ws_setO A sc_one_ahead.nd (sn 1) (JN.is (jn_cat (ds := (z.cps.toList.map fun d => (⟨0, d, d, 0⟩ : Mv)).map mvD) (es := [mvD ⟨1, z.cps.toList.headD 0, z.cps.toList.getLastD 0, 1⟩]) (JN.l (JN.is (JLc.n (jc1 2 sc_one_ahead.nd (ji_str (jv 0)) (f := fun d => mvD ⟨0, d, d, 0⟩) (fun d hd => j_tup (ja_cons j_int (ja_cons (jv 2) (ja_cons (jv 2) (ja_cons j_int ja_nil)))) (by show 4 ≤ 100000; decide)))) (by rw [List.map_map]; rfl))) (JN.l (jn_lst (ja_cons (j_tup (ja_cons j_int (ja_cons (j_ixS (jv 0) j_int hz (by rw [hhead]; exact atS (i := 0) (by omega))) (ja_cons (j_ixS (jv 0) (j_neg j_int) hz hlast) (ja_cons j_int ja_nil)))) (by show 4 ≤ 100000; decide)) ja_nil) (by show 1 ≤ 100000; decide))) (by rw [List.length_map, List.length_map]; show _ + 1 ≤ _; omega)) rfl) fun σ1 G1 H1 A1 => ?_
  refine ws_extend (i := 1) (ds := (z.cps.toList.map fun d => (⟨0, d, d, 0⟩ : Mv)).map mvD ++ [mvD ⟨1, z.cps.toList.headD 0, z.cps.toList.getLastD 0, 1⟩]) (es := ((z.cps.toList.zip (z.cps.toList.drop 1)).map fun p => (⟨0, p.2, p.1, 1⟩ : Mv)).map mvD) A1 rfl rfl (Or.inl rfl) (J.is (JLc.n (jc2 3 2 sc_one_ahead.nd (xs := z.cps.toList.zip (z.cps.toList.drop 1)) (g1 := fun p => sgn p.1) (g2 := fun p => sgn p.2) (f := fun p => mvD ⟨0, p.2, p.1, 1⟩) ?_ (fun p hp => j_tup (ja_cons j_int (ja_cons (jv 2) (ja_cons (jv 3) (ja_cons j_int ja_nil)))) (by show 4 ≤ 100000; decide)) ?_)).lst ?_) ?_ fun σ2 G2 H2 A2 => ?_
  · rw [← zipD_map2 sgn sgn, ← cutS_drop1 al]
    exact ji_zip (jsr_s (jv 0)) (jsr_s (j_sliceS (jv 0) (jo_some j_int) jo_none hz))
  · rw [List.length_zip]
    omega
  · rw [List.map_map]
    rfl
  · rw [List.length_append, List.length_map, List.length_map, List.length_map, List.length_map, List.length_zip]
    show _ + 1 + _ ≤ _
    omega
  · have e : (z.cps.toList.map fun d => (⟨0, d, d, 0⟩ : Mv)).map mvD ++ [mvD ⟨1, z.cps.toList.headD 0, z.cps.toList.getLastD 0, 1⟩] ++ ((z.cps.toList.zip (z.cps.toList.drop 1)).map fun p => (⟨0, p.2, p.1, 1⟩ : Mv)).map mvD = (aheadRaw z.cps.toList).map mvD := by
      unfold aheadRaw
      rw [List.map_append, List.map_append]
      rfl
    rw [e] at A2
    refine ws_ret A2 (mk_rw T al u (jv 0) (jv 0) j_int (j_tupleL (JN.l (JN.is (jn_sortedD (jvo 1) (fun d hd => ?_) (all_alike _) (sortable_mv _) (fun d hd => ?_)) (sorted_is u.perm u.pw u.anti)))) (j_tup (ja_cons j_int ja_nil) (by show 1 ≤ 100000; decide))) fin.rt
    · obtain ⟨m, _, rfl⟩ := List.mem_map.mp hd
      rfl
    · obtain ⟨m, _, rfl⟩ := List.mem_map.mp hd
      show 1 ≤ 60
      decide
end TH
set_option maxHeartbeats 4000000
namespace TH
open PySem PySem.Spec PyProof.Rows L2
section
variable {W : Gx} {S : Sc} {k : Nat} {G0 H0 G H : Hp} {env : List Sl} {σ : L2.St} {D' : Ends} {rest : List Stmt} {e a b c tg : Expr} {pos pos' p p1 p2 p3 : Pos} {x y : Str} {i j : Nat} {d d' : D}
/-- while, the base may change and grow -/
theorem ws_whileG {body : List Stmt} (envs : Nat → List Sl) (Iv : Nat → Hp → Hp → Prop) (m : Nat) (A : At W G0 H0 env σ G H) (h0 : Le env (envs 0)) (i0 : Iv 0 G H0) (mono : ∀ n G1 G2 Hb, Ex G1 G2 → Iv n G1 Hb → Iv n G2 Hb) (hc : ∀ n, n ≤ m → JT W S k c (envs n) (decide (n < m)))
    (hb : ∀ (Gb Hb : Hp) n σ' G' H' (nx : L2.St → Hp → Prop), n < m → (∀ a, H0 a ≠ none → G0 a = none → Gb a = none) → Grow Gb H0 Hb → Iv n G' Hb → At W Gb Hb (envs n) σ' G' H' → (∀ Hc σ2 G2 H2, Grow Gb Hb Hc → Iv (n + 1) G2 Hc → At W Gb Hc (envs (n + 1)) σ2 G2 H2 → nx σ2 H2) → wSs W S k body { D' with nx := nx, ct := nx, bk := wSs W S k rest D' } σ' H')
    (next : ∀ Hb σ' G' H', Grow G H0 Hb → Ex G G' → Iv m G' Hb → At W G0 Hb (envs m) σ' G' H' → wSs W S k rest D' σ' H') : wSs W S k (.While c body [] pos :: rest) D' σ H :=
  wSs_cons (wS_of (fun X hX => ps_nox (ps_while PassesOwn.never (pt_w (nox_cc hX) c) (pss_w (nox_cc hX) body))) (by
    refine ⟨fun r σ' H' => ∃ n G' Hb, n + r = m ∧ Grow G H0 Hb ∧ Iv n G' Hb ∧ At W G Hb (envs n) σ' G' H', ⟨m, 0, G, H0, Nat.zero_add _, .refl _ _, i0, (A.le h0).rebase⟩, fun r σ' H' ⟨n, G', Hb, hn, gr, iv, A'⟩ => ?_⟩
    refine hc n (by omega) σ' G' H' A'.s.s A'.e _ fun G2 H2 s2 => ?_
    have A2 := A'.mono s2
    by_cases hlt : n < m
    · rw [decide_eq_true hlt]
      refine iteT ⟨fun σ3 H3 => ∃ G3 Hc, Grow G H0 Hc ∧ Iv (n + 1) G3 Hc ∧ At W G Hc (envs (n + 1)) σ3 G3 H3, fun σ3 H3 ⟨G3, Hc, g3, i3, A3⟩ => ⟨r - 1, by omega, n + 1, G3, Hc, by omega, g3, i3, A3⟩, ?_⟩
      exact hb G Hb n σ' G2 H2 _ hlt A.s.o gr (mono n _ _ _ s2.g iv) A2 fun Hc σ3 G3 H3 g3 i3 A3 => ⟨G3, Hc, gr.trans g3, i3, A3⟩
    · rw [decide_eq_false hlt]
      have en : n = m := by omega
      subst en
      exact iteF (next Hb σ' G2 H2 gr A2.s.g (mono n _ _ _ s2.g iv) (A2.unbaseG A.s gr))))
end
theorem Grow.of {Gb Gc H H' : Hp} (h : Grow Gc H H') (e : Ex Gb Gc) : Grow Gb H H' := ⟨h.up, fun a x => (h.nw a x).elim .inl fun y => .inr (e.none y)⟩
theorem Stp.base {G0 Hb G' H' H0 : Hp} (s : Stp G0 Hb G' H') (h : ∀ a, H0 a ≠ none → Hb a = H0 a) : Stp G0 H0 G' H' := ⟨s.g, fun a o ha => s.h a o (by rw [h a (by rw [ha]; exact fun z => nomatch z)]; exact ha), s.s, fun a ha hg => s.o a (by rw [h a ha]; exact ha) hg⟩
def stepM (f : List Nat) (m : Mv) : List Nat := if m.t ∈ f then f else f ++ [m.t]
def digM (moves : List Mv) (pl : Nat) (f : List Nat) (c : Nat) : List Nat := (mvFrom moves (f.getD pl 0) c).foldl stepM f
def metF (moves : List Mv) (cs : List Nat) : Nat → List Nat
  | 0 => [0]
  | n + 1 => cs.foldl (digM moves n) (metF moves cs n)
theorem stepM_len (f : List Nat) (m : Mv) : f.length ≤ (stepM f m).length ∧ (stepM f m).length ≤ f.length + 1 := by
  unfold stepM
  by_cases h : m.t ∈ f
  · rw [if_pos h]; omega
  · rw [if_neg h, List.length_append]
    exact ⟨Nat.le_add_right _ _, Nat.le_refl _⟩
theorem foldM_len : ∀ (ms : List Mv) (f : List Nat), f.length ≤ (ms.foldl stepM f).length
  | [], f => Nat.le_refl _
  | m :: ms, f => Nat.le_trans (stepM_len f m).1 (foldM_len ms (stepM f m))
theorem digM_len (moves : List Mv) (pl : Nat) : ∀ (cs : List Nat) (f : List Nat), f.length ≤ (cs.foldl (digM moves pl) f).length
  | [], f => Nat.le_refl _
  | c :: cs, f => Nat.le_trans (foldM_len _ f) (digM_len moves pl cs (digM moves pl f c))
theorem dig_take (moves : List Mv) (pl i : Nat) (cs : List Nat) (f : List Nat) : ((cs.take i).foldl (digM moves pl) f).length ≤ (cs.foldl (digM moves pl) f).length := by
  have e : cs.foldl (digM moves pl) f = (cs.drop i).foldl (digM moves pl) ((cs.take i).foldl (digM moves pl) f) := by rw [← List.foldl_append, List.take_append_drop]
  rw [e]
  exact digM_len moves pl _ _
structure MetOk (moves : List Mv) (cs : List Nat) (m : Nat) : Prop where
  ends : ∀ n, n ≤ m → decide (n < (metF moves cs n).length) = decide (n < m)
  bd : (metF moves cs m).length ≤ 100
  up : ∀ n, n < m → (metF moves cs (n + 1)).length ≤ 100
def kn (f : List Nat) : List (Key × V) := f.map fun (n : Nat) => ((.inl (n : Int) : Key), V.bl true)
theorem kn_hit {f : List Nat} {t : Nat} (h : t ∈ f) : (valV (kn f) (.inl (t : Int))).isSome = true := by
  induction f with
  | nil => cases h
  | cons a f ih =>
    by_cases e : a = t
    · subst e
      show (valV ((.inl (a : Int), V.bl true) :: kn f) _).isSome = true
      rw [valV_pos rfl]
      rfl
    · show (valV ((.inl (a : Int), V.bl true) :: kn f) _).isSome = true
      rw [valV_neg (fun q => e (by have := Sum.inl.inj q; omega))]
      rcases List.mem_cons.mp h with q | q
      · exact absurd q.symm e
      · exact ih q
theorem kn_miss {f : List Nat} {t : Nat} (h : t ∉ f) : ∀ y ∈ kn f, y.1 ≠ (.inl (t : Int) : Key) := fun y hy e => by
  obtain ⟨n, hn, rfl⟩ := List.mem_map.mp hy
  have : (n : Int) = t := Sum.inl.inj e
  exact h (by rw [show t = n by omega]; exact hn)
def nsD (f : List Nat) : List D := f.map fun (n : Nat) => D.int (n : Int)
theorem at_ns {f : List Nat} {i : Nat} (h : i < f.length) : atI (nsD f) (i : Int) = some (.int ((f.getD i 0 : Nat) : Int)) := by
  refine atI_nat ?_
  unfold nsD
  rw [List.getElem?_map, List.getD_eq_getElem?_getD, List.getElem?_eq_getElem h]
  rfl
def f_met_states (W : Gx) (ds : List D) (d : D) : Prop := ∃ (z : Str) (moves : List Mv) (ends : List Nat) (m : Nat), MetOk moves z.cps.toList m ∧ moves.length ≤ 100 ∧ z.cps.toList.length ≤ 100 ∧ ds = [rwD W z moves ends] ∧ d = .lst (nsD (metF moves z.cps.toList m))
theorem ok_met_states {W : Gx} (T : Tx W) : OkF W 2 "met_states" 1 (f_met_states W) := by
  have m1 := T.m_len
  refine mk_met_states T fun ds d G0 H0 σ D' hf hn A fin => ?_
  obtain ⟨z, moves, ends, m, ok, hml, hzl, rfl, rfl⟩ := hf
  -- found, known, place = [0], {0: True}, 0
  refine wSs_cons (wS_X (fun X hX => ps_par3 (i := 1) (j := 2) (l := 3) hX.calm (by rw [hX.N]; exact sc_met_states.nd) (by rw [hX.N]; rfl) (by rw [hX.N]; rfl) (by rw [hX.N]; rfl) (by decide) (by decide) (by decide) (by rw [hX.sc]; rfl) (by rw [hX.sc]; rfl) (by rw [hX.sc]; rfl) (pa_cons (pe_w hX _) (pa_cons (pe_disp (pps_cons pe_int pe_bl pps_nil) rfl rfl (by decide) (by decide)) (pa_cons pe_int pa_nil rfl) rfl) rfl) (by have h := hX.sc; generalize X.env = en at h; cases en; cases h; rfl) rfl) fun X hX => ?_)
  refine (jn_lst (ja_cons (j_int (i := 0)) ja_nil) (by show 1 ≤ 100000; decide)) σ G0 H0 A.s.s A.e _ fun pf vs G1 H1 s1 hpf gpf hpf1 rl => ?_
  have A1 := (A.setO (i := 1) s1 hpf gpf hpf1 rl)
  intro pk hpk
  refine ⟨by rw [upd_same], [(.inl 0, .bl true)], rfl, by show 1 ≤ 15; decide, .ref pf, .ref pk, .int 0, rfl, ?_⟩
  have ek : mergeK [] [((.inl 0 : Key), V.bl true)] = kn [0] := rfl
  rw [ek]
  have hkf : pk ≠ pf := fun e => by rw [e, hpf1] at hpk; cases hpk
  have eu : upd (upd H1 pk (.dK [])) pk (.dK (kn [0])) = upd H1 pk (.dK (kn [0])) := by
    funext a
    by_cases e : a = pk
    · rw [e, upd_same, upd_same]
    · rw [upd_ne e, upd_ne e, upd_ne e]
  rw [eu]
  have gpk : G1 pk = none := A1.s.s.none hpk
  have h0k : H0 pk = none := A1.s.h.none hpk
  have g0k : G0 pk = none := A1.s.g.none gpk
  have A2 := A1.mono (Stp.newO (o := .dK (kn [0])) A1.s.s hpk)
  -- the dict joins the base
  have A3 : At W G0 (upd H0 pk (.dK (kn [0]))) ((startE N_met_states [rwD W z moves ends]).set 1 (.own [.int 0])) (σ.set 1 (some (.ref pf))) G1 (upd H1 pk (.dK (kn [0]))) := by
    refine ⟨⟨A2.s.g, fun a u ha => ?_, A2.s.s, fun a ha hga => ?_⟩, A2.e, fun i es q hi hq => ?_, A2.dis⟩
    · by_cases e : a = pk
      · rw [e, upd_same] at ha
        rw [e, upd_same]
        exact ha
      · rw [upd_ne e] at ha
        exact A2.s.h a u ha
    · by_cases e : a = pk
      · rw [e]; exact gpk
      · rw [upd_ne e] at ha
        exact A2.s.o a ha hga
    · have := A2.fresh i es q hi hq
      have hne : q ≠ pk := fun e => by
        obtain ⟨o, e1, q', vs', e2, e3, _, _⟩ := A1.e.get hi
        rw [hq] at e1
        rw [← Option.some.inj e1] at e2
        have e4 : q = q' := by
          injection e2 with e2
          injection e2
        rw [← e4, e, hpk] at e3
        cases e3
      rw [upd_ne hne]
      exact this
  have A4 := (A3.setS (i := 2) (x := .raw (.ref pk)) (o := some (.ref pk)) rfl (fun ds z => nomatch z)).set (i := 3) (x := .int 0) (v := .int 0) rfl
  generalize hHl : upd H0 pk (.dK (kn [0])) = Hl at A4
  have lpk : Hl pk = some (.dK (kn [0])) := by rw [← hHl, upd_same]
  have llk : ∀ a, a ≠ pk → Hl a = H0 a := fun a ha => by rw [← hHl, upd_ne ha]
  refine ws_whileG (fun n => [.d (rwD W z moves ends), .own (nsD (metF moves z.cps.toList n)), .raw (.ref pk), .d (.int (n : Int)), .no, .no]) (fun n _ Hb => Hb pk = some (.dK (kn (metF moves z.cps.toList n))) ∧ ∀ a, a ≠ pk → Hb a = Hl a) m A4 (Le.refl _) ⟨lpk, fun _ _ => rfl⟩ (fun _ _ _ _ _ h => h) (fun n hn => ?_) (fun Gb Hb n σ1 Gc Hc nx hn hGb gr iv A5 hnx => ?_) fun Hb σ1 Gc Hc gr eg iv A5 => ?_
  · refine JT.is (jt_cmp c_ltI (jv 3) (j_lenL (jvo 1))) ?_
    rw [show (nsD (metF moves z.cps.toList n)).length = (metF moves z.cps.toList n).length from List.length_map .., ← ok.ends n hn]
    by_cases h : n < (metF moves z.cps.toList n).length
    · rw [decide_eq_true h, decide_eq_true (by omega)]
    · rw [decide_eq_false h, decide_eq_false (by omega)]
  · obtain ⟨ivk, ivo⟩ := iv
    have hnl : n < (metF moves z.cps.toList n).length := by
      have := ok.ends n (Nat.le_of_lt hn)
      rw [decide_eq_true hn] at this
      exact of_decide_eq_true this
    have gbk : Gb pk = none := hGb pk (by rw [lpk]; exact fun z => nomatch z) g0k
    refine ws_forG (items := z.cps.toList.map sgn) (t := .one 4) (fun i => [.d (rwD W z moves ends), .own (nsD ((z.cps.toList.take i).foldl (digM moves n) (metF moves z.cps.toList n))), .raw (.ref pk), .d (.int (n : Int)), .no, .no]) (fun i _ Hb => Hb pk = some (.dK (kn ((z.cps.toList.take i).foldl (digM moves n) (metF moves z.cps.toList n)))) ∧ ∀ a, a ≠ pk → Hb a = Hl a) A5 sc_met_states.nd (ji_str (j_fld (fs := rwF z moves ends) (jv 0) rfl T.c_Rewriter T.n_Rewriter_digits)) (.one (sn 4)) (fun _ _ => trivial) (Le.refl _) (fun _ _ => ⟨ivk, ivo⟩) (fun Gb2 Hb2 i dd σ2 Gd Hd nx2 hd hGb2 gr2 iv2 A6 hnx2 => ?_) (fun Gb2 Hb2 σ2 Gd Hd hGb2 gr2 ega egb iv2 A6 => ?_) (fun _ _ _ _ _ h => h)
    · obtain ⟨iv2k, iv2o⟩ := iv2
      rw [List.getElem?_map] at hd
      obtain ⟨c, hc, rfl⟩ := Option.map_eq_some_iff.mp hd
      have gb2k : Gb2 pk = none := hGb2 pk (by rw [ivk]; exact fun z => nomatch z) gbk
      generalize hf : (z.cps.toList.take i).foldl (digM moves n) (metF moves z.cps.toList n) = f at *
      have hfl : n < f.length := by
        rw [← hf]
        exact Nat.lt_of_lt_of_le hnl (digM_len moves n _ _)
      have hall : ∀ j, ((mvFrom moves (f.getD n 0) c).take j).foldl stepM f = ((mvFrom moves (f.getD n 0) c).take j).foldl stepM f := fun _ => rfl
      have hbd : ∀ (ms : List Mv) (g : List Nat), (ms.foldl stepM g).length ≤ g.length + ms.length := fun ms => by
        induction ms with
        | nil => intro g; exact Nat.le_refl _
        | cons a ms ih =>
          intro g
          have h1 := ih (stepM g a)
          have h2 := (stepM_len g a).2
          show (ms.foldl stepM (stepM g a)).length ≤ _
          rw [List.length_cons]
          omega
      have hfle : f.length ≤ 100 := by
        refine Nat.le_trans ?_ (ok.up n hn)
        rw [← hf]
        exact dig_take moves n i _ _
      have hmv : (mvFrom moves (f.getD n 0) c).length ≤ 100 := Nat.le_trans (List.length_filter_le _ _) hml
      refine ws_forG (items := (mvFrom moves (f.getD n 0) c).map mvD) (t := .one 5) (fun j => [.d (rwD W z moves ends), .own (nsD (((mvFrom moves (f.getD n 0) c).take j).foldl stepM f)), .raw (.ref pk), .d (.int (n : Int)), .d (sgn c), .no]) (fun j _ Hb => Hb pk = some (.dK (kn (((mvFrom moves (f.getD n 0) c).take j).foldl stepM f))) ∧ ∀ a, a ≠ pk → Hb a = Hl a) A6 sc_met_states.nd (ji_lst (j_meth (ok_Rewriter_moves_from T) (fs := rwF z moves ends) (jv 0) (ja_cons (j_ixL (jvo 1) (jv 3) (at_ns hfl)) (ja_cons (jv 4) ja_nil)) ⟨z, moves, ends, f.getD n 0, c, rfl, rfl⟩)) (.one (sn 5)) (fun _ _ => trivial) (Le.refl _) (fun _ _ => ⟨iv2k, iv2o⟩) (fun Gb3 Hb3 j dd σ3 Ge He nx3 hd3 hGb3 gr3 iv3 A7 hnx3 => ?_) (fun Gb3 Hb3 σ3 Ge He hGb3 gr3 ega3 egb3 iv3 A7 => ?_) (fun _ _ _ _ _ h => h)
      · obtain ⟨iv3k, iv3o⟩ := iv3
        rw [List.getElem?_map] at hd3
        obtain ⟨mv, hmv3, rfl⟩ := Option.map_eq_some_iff.mp hd3
        have gb3k : Gb3 pk = none := hGb3 pk (by rw [iv2k]; exact fun z => nomatch z) gb2k
        have enx : ((mvFrom moves (f.getD n 0) c).take (j + 1)).foldl stepM f = stepM (((mvFrom moves (f.getD n 0) c).take j).foldl stepM f) mv := by
          rw [take_succ_get hmv3, List.foldl_append]
          rfl
        have hgl := hbd ((mvFrom moves (f.getD n 0) c).take j) f
        have htl : ((mvFrom moves (f.getD n 0) c).take j).length ≤ 100 := Nat.le_trans (by rw [List.length_take]; exact Nat.min_le_right _ _) hmv
        rw [enx] at hnx3
        generalize hg : ((mvFrom moves (f.getD n 0) c).take j).foldl stepM f = g at *
        have hpk0 : Hb3 pk ≠ none := by rw [iv3k]; exact fun z => nomatch z
        have jmv : ∀ {env : List Sl} {pos p5 p6 : Pos} {jj : Nat}, env[5]? = some (.d (mvD mv)) → J W (defS N_met_states (defScope s_met_states)) 1 (.Subscript (.Name "move" pos) (.Constant (.int 3) jj p5) p6) env (.int (mv.t : Int)) := fun h => j_ixT (d := .int (mv.t : Int)) (jv 5 h) j_int rfl
        have hpg : He pk = some (.dK (kn g)) := A7.s.h _ _ iv3k
        refine wSs_cons (wS_X (fun X hX => ps_if (pt_cmp (pc_dnotin (by have := hX.room.units; omega) (pe_w hX _) (pe_w hX _))) (pss_w hX _) (pss_w hX _)) fun X hX => ?_)
        refine jmv rfl σ3 Ge He A7.s.s A7.e _ fun v G5 H5 s5 ev => jraw 2 rfl rfl (Or.inl rfl) (by decide) (by decide) σ3 G5 H5 s5.s (A7.e.mono s5) _ fun u G6 H6 s6 eu => ?_
        subst eu
        have A8 := A7.mono (s5.trans s6)
        refine ⟨pk, valV (kn g) (.inl (mv.t : Int)), rfl, .inl ⟨kn g, .inl (mv.t : Int), .of (A8.s.h _ _ iv3k), ev, rfl⟩, !(valV (kn g) (.inl (mv.t : Int))).isSome, rfl, ?_⟩
        by_cases hin : mv.t ∈ g
        · have es : stepM g mv = g := if_pos hin
          rw [es] at hnx3
          rw [kn_hit hin]
          exact wSs_nil (wSs_nil (hnx3 Hb3 σ3 G6 H6 (.refl _ _) ⟨iv3k, iv3o⟩ (A8.le (.cons (.cons (.cons (.cons (.cons (.no .nil)))))))))
        · have es : stepM g mv = g ++ [mv.t] := if_neg hin
          rw [es] at hnx3
          have hmiss := kn_miss hin
          rw [valV_miss hmiss]
          refine wSs_cons (wS_X (fun X hX => ps_dput (by have := hX.room.units; omega) (pe_w hX _) (pe_w hX _) (pe_w hX _) rfl) fun X hX => ?_)
          refine j_bl σ3 G6 H6 A8.s.s A8.e _ fun v1 G7 H7 s7 ev1 => jraw 2 rfl rfl (Or.inl rfl) (by decide) (by decide) σ3 G7 H7 s7.s (A8.e.mono s7) _ fun u2 G8 H8 s8 eu2 => jmv rfl σ3 G8 H8 s8.s (A8.e.mono (s7.trans s8)) _ fun v3 G9 H9 s9 ev3 => ?_
          subst eu2
          have A9 := A8.mono ((s7.trans s8).trans s9)
          rw [show v3 = kV (.inl (mv.t : Int)) from ev3, show v1 = V.bl true from ev1]
          refine ⟨pk, _, rfl, DPut.k (A9.s.h _ _ iv3k) (by unfold kn; rw [List.length_map]; exact szlt (by omega)), ?_⟩
          have ekn : putK (kn g) (.inl (mv.t : Int)) (V.bl true) = kn (g ++ [mv.t]) := by
            rw [putK_miss hmiss]
            unfold kn
            rw [List.map_append]
            rfl
          rw [ekn]
          have A10 := A9.mutB (o := .dK (kn (g ++ [mv.t]))) hpk0 gb3k
          refine ws_append (i := 1) (ds := nsD g) (d := .int (mv.t : Int)) A10 rfl rfl (Or.inl rfl) (jmv rfl) (by unfold nsD; rw [List.length_map]; omega) fun σ4 G4 H4 A11 => ?_
          refine wSs_nil (wSs_nil (hnx3 (upd Hb3 pk (.dK (kn (g ++ [mv.t])))) σ4 G4 H4 ⟨fun a ha => ?_, fun a ha => ?_⟩ ⟨upd_same, fun a ha => ?_⟩ (At.le A11 ?_)))
          · by_cases e : a = pk
            · rw [e, upd_same]; exact fun z => nomatch z
            · rw [upd_ne e]; exact ha
          · by_cases e : a = pk
            · rw [e]; exact .inl hpk0
            · rw [upd_ne e] at ha; exact .inl ha
          · rw [upd_ne ha]; exact iv3o a ha
          · have en : nsD (g ++ [mv.t]) = nsD g ++ [.int (mv.t : Int)] := by
              unfold nsD
              rw [List.map_append]
              rfl
            rw [en]
            exact .cons (.cons (.cons (.cons (.cons (.no .nil)))))
      · rw [List.length_map, List.take_length] at iv3 A7
        have efold : (z.cps.toList.take (i + 1)).foldl (digM moves n) (metF moves z.cps.toList n) = (mvFrom moves (f.getD n 0) c).foldl stepM f := by
          rw [take_succ_get hc, List.foldl_append, hf]
          rfl
        rw [efold] at hnx2
        exact ws_nil (hnx2 Hb3 σ3 Ge He (gr3.of (A6.s.g.trans ega3)) iv3 (At.le A7 (.cons (.cons (.cons (.cons (.no (.cons .nil))))))))
    · rw [List.length_map, List.take_length] at iv2 A6
      refine ws_augI A6 sc_met_states.nd (sn 3) rfl j_int fun σ3 Ge He A7 => ?_
      exact ws_nil (hnx Hb2 σ3 Ge He (gr2.of (A5.s.g.trans ega)) iv2 (At.le A7 (.cons (.cons (.cons (.cons (.cons (.cons .nil))))))))
  · refine ws_retO (i := 1) (ds := nsD (metF moves z.cps.toList m)) A5 rfl rfl (Or.inl rfl) fun v G' H' s r => fin.rt v G' H' (s.base fun a ha => ?_) r
    have hne : a ≠ pk := fun e => ha (by rw [e]; exact h0k)
    rw [iv.2 a hne, llk a hne]
end TH
set_option maxHeartbeats 4000000
namespace TH
open PySem PySem.Spec PyProof.Rows L2
section
variable {W : Gx} {S : Sc} {k : Nat} {env : List Sl} {a b c e tg kx vx : Expr} {pos pos' p p2 : Pos} {x : Str}
/-- {kx: vx for tg in e}: keys new each time -/
theorem j_dcomp {scope : Scope} {own : List (Str × Nat)} {t : Tg} {items : List D} (keys : Nat → Key) (kd vals : Nat → D) (hi : JI W S k tg e env items) (ok : BlkOk S.N S.sc scope own) (nd : S.N.Nodup) (ht : TgE (blkS S scope) tg t) (hv : own.map (·.2) = t.ix)
    (hfit : ∀ d ∈ items, t.fits d) (hl : items.length < 100000) (hkv : ∀ i G v, Rep W.K G (kd i) v → v = kV (keys i)) (hinj : ∀ i j, i < j → j < items.length → keys i ≠ keys j)
    (hk : ∀ (i : Nat) (d : D), items[i]? = some d → J W (blkS S scope) k kx (bnd t d env) (kd i)) (he : ∀ (i : Nat) (d : D), items[i]? = some d → J W (blkS S scope) k vx (bnd t d env) (vals i)) (hs : ∀ (env : Env) x, foldedSetIterable e env x = pure x := by intro _ _; rfl) :
    J W S k (.DictComp kx vx [⟨tg, e, [], 0⟩] scope pos) env (.dic ((List.range items.length).map fun i => (keys i, vals i))) := fun σ G H x E Q q =>
  wE_of (fun X hX => pe_dc (own := own) (wi := wI W S k tg e) (g := gTg W.K t) (tt := tYes) (tk := wE W (blkS S scope) k kx) (tv := wE W (blkS S scope) k vx) hX.calm (by rw [hX.N]; exact nd) (pi_w hX tg e) (by rw [hX.N, hX.sc]; exact ok)
    (fun s H C cl fp => pg_tg (cc_blk hX scope s H C cl fp) nd ht) (fun s H C cl fp => pts_nil) (fun s H C cl fp => pe_w (cc_blk hX scope s H C cl fp) kx) (fun s H C cl fp => pe_w (cc_blk hX scope s H C cl fp) vx) (hs X.env))
    (hi σ G H x E _ fun I G1 H1 s1 ok1 D hD => by
      rw [hv]
      let out : Nat → List (Key × TH.D) := fun n => (List.range n).map fun i => (keys i, vals i)
      let Pv : Nat → Hp → Prop := fun n H' => ∃ G' vs, Stp G H G' H' ∧ Ex G1 G' ∧ H D = none ∧ G' D = none ∧ H' D = some (.dK vs) ∧ RepK W.K G' (out n) vs
      refine ⟨fun n m H' => n ≤ items.length ∧ n + m = items.length ∧ Pv n H', ⟨items.length, Nat.zero_le _, Nat.zero_add _, G1, [], s1.trans (.newO s1.s hD), .refl _, s1.h.none hD, s1.s.none hD, upd_same, rfl⟩, fun n m H' hw => ?_⟩
      obtain ⟨hn, hm, G', vs, s', g', dn, gd, hd, rs⟩ := hw
      by_cases hlt : n < items.length
      · refine .inr ⟨ok1.go n G' H' hlt g' s'.s, fun H'' => Pv (n + 1) H'', fun H'' hp => ⟨m - 1, by omega, by omega, by omega, hp⟩, fun v H2 hy => ?_⟩
        obtain ⟨dt, hdt⟩ : ∃ d, items[n]? = some d := ⟨_, List.getElem?_eq_getElem hlt⟩
        obtain ⟨G2, s2, r2⟩ := ok1.yld n dt G' H' v H2 hdt g' s'.s hy
        have fit := hfit dt (List.mem_of_getElem? hdt)
        have st2 := s'.trans s2
        have E2 : EnvR W.K G2 H2 (L2.wipe σ t.ix) (wipeE env t.ix) := (E.mono st2).wipe t.ix
        have Dn : ∀ {Ga Ha Gb Hb : Hp}, Stp Ga Ha Gb Hb → Ha D = some (.dK vs) → Ga D = none → Hb D = some (.dK vs) ∧ Gb D = none := fun s h g => ⟨s.h _ _ h, s.o D (by rw [h]; exact fun z => nomatch z) g⟩
        obtain ⟨hd2, gd2⟩ := Dn s2 hd gd
        refine gTg_run st2.s E2 r2 fit fun σ3 E3 hsame hlen => ⟨wipe_same (by rw [hlen, wipe_length]) hsame, ?_⟩
        rw [bnd_wipe t dt env fit] at E3
        unfold tYes
        show (if true = true then _ else _)
        rw [if_pos rfl]
        refine (hk n dt hdt) σ3 G2 H2 st2.s E3 _ fun u G3 H3 s3 r3 => (he n dt hdt) σ3 G3 H3 s3.s (E3.mono s3) _ fun w G4 H4 s4 r4 => ?_
        obtain ⟨hd3, gd3⟩ := Dn s3 hd2 gd2
        obtain ⟨hd4, gd4⟩ := Dn s4 hd3 gd3
        have hvl : vs.length = n := by
          have gen : ∀ (l : List (Key × TH.D)) (us : List (Key × V)), RepK W.K G' l us → us.length = l.length := by
            intro l
            induction l with
            | nil => intro us h; rw [show us = [] from h]; rfl
            | cons p l ih =>
              intro us h
              obtain ⟨v, r, rfl, h1, h2⟩ := h
              rw [List.length_cons, List.length_cons, ih r h2]
          rw [gen _ _ rs, List.length_map, List.length_range]
        have hkeys : ∀ (l : List (Key × TH.D)) (us : List (Key × V)), RepK W.K G' l us → us.map (·.1) = l.map (·.1) := by
          intro l
          induction l with
          | nil => intro us h; rw [show us = [] from h]; rfl
          | cons p l ih =>
            intro us h
            obtain ⟨v, r, rfl, h1, h2⟩ := h
            rw [List.map_cons, List.map_cons, ih r h2]
        have hmiss : ∀ y ∈ vs, y.1 ≠ keys n := fun y hy e => by
          have h1 : y.1 ∈ vs.map (·.1) := List.mem_map.mpr ⟨y, hy, rfl⟩
          rw [hkeys _ _ rs, List.map_map] at h1
          obtain ⟨j, hj, e2⟩ := List.mem_map.mp h1
          exact hinj j n (List.mem_range.mp hj) hlt (e2.trans e)
        refine ⟨vs, keys n, hkv n G3 u r3, hd4, szlt (by rw [hvl]; omega), G4, vs ++ [(keys n, w)], ((st2.trans s3).trans s4).mut dn gd4, (g'.trans (s2.g.trans s3.g)).trans s4.g, dn, gd4, by rw [upd_same, putK_miss hmiss], ?_⟩
        have ho : out (n + 1) = out n ++ [(keys n, vals n)] := by
          show (List.range (n + 1)).map _ = _
          rw [List.range_succ, List.map_append]
          rfl
        rw [ho]
        have app : ∀ (l : List (Key × TH.D)) (us : List (Key × V)), RepK W.K G4 l us → RepK W.K G4 (l ++ [(keys n, vals n)]) (us ++ [(keys n, w)]) := by
          intro l
          induction l with
          | nil => intro us h; rw [show us = [] from h]; exact ⟨w, [], rfl, r4, rfl⟩
          | cons p l ih =>
            intro us h
            obtain ⟨v, r, rfl, h1, h2⟩ := h
            exact ⟨v, _, rfl, h1, ih r h2⟩
        exact app _ _ (rs.mono ((s2.g.trans s3.g).trans s4.g))
      · have en : n = items.length := by omega
        subst en
        exact .inl ⟨ok1.stop G' H' g' s'.s, q (.ref D) (upd G' D (.dK vs)) H' (s'.freeze dn gd hd) ⟨D, vs, rfl, upd_same, rs.mono (.new gd)⟩⟩)
/-- lists made by a comprehension, each new, all to be written later -/
structure NewLs (K : PySem.W.Frag) (G H G' H' : Hp) (p : Addr) (qs : List Addr) (dss : List (List D)) : Prop where
  top : H p = none ∧ G' p = none ∧ H' p = some (.lst (qs.map V.ref))
  len : qs.length = dss.length
  ls : ∀ (i : Nat) (q : Addr) (ds : List D), qs[i]? = some q → dss[i]? = some ds → H q = none ∧ G' q = none ∧ ∃ vs, H' q = some (.lst vs) ∧ Reps K G' ds vs
  nd : qs.Nodup
  ne : p ∉ qs
def JLcN (W : Gx) (S : Sc) (k : Nat) (elt tg e : Expr) (scope : Scope) (env : List Sl) (dss : List (List D)) : Prop := ∃ (own : List (Str × Nat)) (t : Tg), BlkOk S.N S.sc scope own ∧ S.N.Nodup ∧ TgE (blkS S scope) tg t ∧ (∀ (env : Env) x, foldedSetIterable e env x = pure x) ∧
  ∀ σ G H, Ex G H → EnvR W.K G H σ env → ∀ Q : VK, (∀ p qs G' H', Stp G H G' H' → NewLs W.K G H G' H' p qs dss → Q (.ref p) H') → tLc (wI W S k tg e) (gTg W.K t) tYes (wE W (blkS S scope) k elt) (own.map (·.2)) σ H Q
theorem jlcN {elt : Expr} {scope : Scope} {own : List (Str × Nat)} {t : Tg} {items : List D} (val : List D) (hi : JI W S k tg e env items) (ok : BlkOk S.N S.sc scope own) (nd : S.N.Nodup) (ht : TgE (blkS S scope) tg t) (hv : own.map (·.2) = t.ix)
    (hfit : ∀ d ∈ items, t.fits d) (hl : items.length < 100000) (he : ∀ (i : Nat) (d : D), items[i]? = some d → JN W (blkS S scope) k elt (bnd t d env) val) (hs : ∀ (env : Env) x, foldedSetIterable e env x = pure x := by intro _ _; rfl) :
    JLcN W S k elt tg e scope env (List.replicate items.length val) := ⟨own, t, ok, nd, ht, hs, fun σ G H x E Q q =>
    hi σ G H x E _ fun I G1 H1 s1 ok1 D hD => by
      rw [hv]
      let Pv : Nat → Hp → Prop := fun n H' => ∃ G' qs, Stp G H G' H' ∧ Ex G1 G' ∧ NewLs W.K G H G' H' D qs (List.replicate n val)
      refine ⟨fun n m H' => n ≤ items.length ∧ n + m = items.length ∧ Pv n H', ⟨items.length, Nat.zero_le _, Nat.zero_add _, G1, [], s1.trans (.newO s1.s hD), .refl _, ⟨⟨s1.h.none hD, s1.s.none hD, upd_same⟩, rfl, fun i q ds h _ => by simp at h, List.nodup_nil, List.not_mem_nil⟩⟩, fun n m H' hw => ?_⟩
      obtain ⟨hn, hm, G', qs, s', g', N⟩ := hw
      by_cases hlt : n < items.length
      · refine .inr ⟨ok1.go n G' H' hlt g' s'.s, fun H'' => Pv (n + 1) H'', fun H'' hp => ⟨m - 1, by omega, by omega, by omega, hp⟩, fun v H2 hy => ?_⟩
        obtain ⟨dt, hdt⟩ : ∃ d, items[n]? = some d := ⟨_, List.getElem?_eq_getElem hlt⟩
        obtain ⟨G2, s2, r2⟩ := ok1.yld n dt G' H' v H2 hdt g' s'.s hy
        have fit := hfit dt (List.mem_of_getElem? hdt)
        have st2 := s'.trans s2
        have E2 : EnvR W.K G2 H2 (L2.wipe σ t.ix) (wipeE env t.ix) := (E.mono st2).wipe t.ix
        refine gTg_run st2.s E2 r2 fit fun σ3 E3 hsame hlen => ⟨wipe_same (by rw [hlen, wipe_length]) hsame, ?_⟩
        rw [bnd_wipe t dt env fit] at E3
        unfold tYes
        show (if true = true then _ else _)
        rw [if_pos rfl]
        refine (he n dt hdt) σ3 G2 H2 st2.s E3 _ fun r us G4 H4 s4 hr gr hr4 rr => ?_
        have st4 := st2.trans s4
        have s24 : Stp G' H' G4 H4 := s2.trans s4
        have hr' : H' r = none := s2.h.none hr
        obtain ⟨⟨t1, t2, t3⟩, len, ls, ndq, ne⟩ := N
        have hDr : D ≠ r := fun e => by rw [← e, t3] at hr'; cases hr'
        have hd4 := s24.h _ _ t3
        have gd4 : G4 D = none := s24.o D (by rw [t3]; exact fun z => nomatch z) t2
        have hlq : qs.length = n := by rw [len, List.length_replicate]
        have hrq : r ∉ qs := fun hm' => by
          obtain ⟨i, hi'⟩ := List.getElem?_of_mem hm'
          have hil : i < n := by rw [← hlq]; exact (List.getElem?_eq_some_iff.mp hi').1
          obtain ⟨_, _, vs, h3, _⟩ := ls i r val hi' (by rw [List.getElem?_replicate, if_pos hil])
          rw [h3] at hr'
          cases hr'
        refine ⟨qs.map V.ref, hd4, szlt (by rw [List.length_map, hlq]; omega), G4, qs ++ [r], st4.mut t1 gd4, (g'.trans s2.g).trans s4.g, ⟨⟨t1, gd4, by rw [upd_same, List.map_append]; rfl⟩, by rw [List.length_append, List.length_replicate, hlq]; rfl, fun i q' ds' h1 h2 => ?_, ?_, ?_⟩⟩
        · have hds : ds' = val := List.eq_of_mem_replicate (List.mem_of_getElem? h2)
          subst hds
          rcases Nat.lt_or_ge i n with hi' | hi'
          · rw [List.getElem?_append_left (by omega)] at h1
            obtain ⟨k1, k2, vs, k3, k4⟩ := ls i q' ds' h1 (by rw [List.getElem?_replicate, if_pos hi'])
            have hqD : q' ≠ D := fun e => ne (by rw [← e]; exact List.mem_of_getElem? h1)
            exact ⟨k1, s24.o q' (by rw [k3]; exact fun z => nomatch z) k2, vs, by rw [upd_ne hqD]; exact s24.h _ _ k3, k4.mono s24.g⟩
          · rw [List.getElem?_append_right (by omega)] at h1
            have : q' = r := List.mem_singleton.mp (List.mem_of_getElem? h1)
            rw [this]
            exact ⟨st2.h.none hr, gr, us, by rw [upd_ne (Ne.symm hDr)]; exact hr4, rr⟩
        · refine List.nodup_append.mpr ⟨ndq, List.pairwise_singleton _ _, fun a ha b hb e => ?_⟩
          rw [List.mem_singleton.mp hb] at e
          exact hrq (by rw [← e]; exact ha)
        · intro hm'
          rcases List.mem_append.mp hm' with q1 | q1
          · exact ne q1
          · exact hDr (List.mem_singleton.mp q1)
      · have en : n = items.length := by omega
        subst en
        exact .inl ⟨ok1.stop G' H' g' s'.s, q D qs G' H' s' N⟩⟩
end
section
variable {W : Gx} {S : Sc} {k : Nat} {G0 H0 G H : Hp} {env : List Sl} {σ : L2.St} {D' : Ends} {rest : List Stmt} {elt it tg : Expr} {pos pos' p : Pos} {x : Str} {i : Nat}
theorem wsc_setN {scope : Scope} {dss : List (List D)} (A : At W G0 H0 env σ G H) (hN : S.N[i]? = some x) (hk : S.sc.kind = .function) (hl : S.sc.names.lookup x = some .local) (he : JLcN W S k elt tg it scope env dss) (nd : S.N.Nodup)
    (next : ∀ p qs G' H', Stp G H G' H' → NewLs W.K G H G' H' p qs dss → wSs W S k rest D' (σ.set i (some (.ref p))) H')
    (hln : (pos'.line == p.line) = true := by rfl) (ha : (scope.names.any fun (n, k) => n == x && (k == .local || k == .cell)) = false := by decide +kernel) : wSs W S k (.Assign [.Name x pos'] (.ListComp elt [⟨tg, it, [], 0⟩] scope p) pos :: rest) D' σ H := by
  obtain ⟨own, t, ok, _, ht, hs, h⟩ := he
  refine wSs_cons (wS_of (fun X hX => ps_setLc (own := own) (wi := wI W S k tg it) (g := gTg W.K t) (tt := tYes) (te := wE W (blkS S scope) k elt) hX.calm (by rw [hX.N]; exact nd) (by rw [hX.N]; exact hN) (by rw [hX.sc]; exact hl)
    (sw_true (by rw [hX.sc]; exact hk) (by rw [hX.sc]; exact hl) hln ha) (pi_w hX tg it) (by rw [hX.N, hX.sc]; exact ok)
    (fun s H C cl fp => pg_tg (cc_blk hX scope s H C cl fp) nd ht) (fun s H C cl fp => pts_nil) (fun s H C cl fp => pe_w (cc_blk hX scope s H C cl fp) elt) (hs X.env)) ?_)
  exact h σ G H A.s.s A.e _ fun p qs G1 H1 s1 N => next p qs G1 H1 s1 N
end
/-- where a sign stands in the digits -/
theorem occ_al {z : Str} (al : Al z) {c : Nat} (hc : c ∈ z.cps.toList) : ∃ rest, Builtin.Str.occurrences z ⟨#[c]⟩ 0 z.length 1 = z.cps.toList.idxOf c :: rest := by
  have key : ∀ z : Str, Al z → ∀ c ∈ z.cps.toList, (Builtin.Str.occurrences z ⟨#[c]⟩ 0 z.length 1).head? = some (z.cps.toList.idxOf c) := by
    intro z al
    rcases al with rfl | rfl | rfl | rfl <;> decide +kernel
  have h := key z al c hc
  cases e : Builtin.Str.occurrences z ⟨#[c]⟩ 0 z.length 1 with
  | nil => rw [e] at h; cases h
  | cons a r =>
    rw [e] at h
    exact ⟨r, by rw [Option.some.inj h]⟩
theorem j_sindex {W : Gx} {S : Sc} {k : Nat} {env : List Sl} {o e : Expr} {apos cpos : Pos} {z : Str} {c : Nat} (al : Al z) (hc : c ∈ z.cps.toList) (ho : J W S k o env (.str z)) (he : J W S k e env (sgn c)) (hbase : ∀ env : Env, attributeBase o "index" env (eval o env) = eval o env := by intro _; rfl) (hp : Plain e := by intro _ _; rfl) (hline : (apos.endLine == cpos.line) = true := by rfl) :
    J W S k (.Call (.Attribute o "index" apos) [e] [] cpos) env (.int ((z.cps.toList.idxOf c : Nat) : Int)) := fun σ G H x0 E Q q =>
  wE_X (fun X hX => pe_bm PySem.F.plainAttrs_str PySem.F.slot_str_index PySem.F.type_str_index mt_sindex (pe_w hX o) (pa_cons (pe_w hX e) pa_nil (hp [] X.env)) (hbase X.env) (by rw [hp [] X.env]; rfl) hline (hp [] X.env) rfl) fun X hX => ho σ G H x0 E _ fun v G1 H1 s1 ev => by
    refine ⟨?_, he σ G1 H1 s1.s (E.mono s1) _ fun u G2 H2 s2 eu => ?_⟩
    · rw [show v = V.str z from ev]
      exact rfl
    · obtain ⟨r, hr⟩ := occ_al al hc
      exact ⟨z, ⟨#[c]⟩, _, r, ev, by rw [show u = V.str ⟨#[c]⟩ from eu], hr, q _ G2 H2 (s1.trans s2) rfl⟩
end TH
set_option maxHeartbeats 4000000
namespace L2
open PySem PySem.Spec PyProof.Rows
def rGetN (K : PySem.W.Frag) : R2 := fun x y H Q => ∃ p xs, ∃ (i : Nat) (v : V), x = .ref p ∧ y = .int (i : Int) ∧ SqL K H p xs ∧ xs[i]? = some v ∧ Q v H
theorem get_listN {X : Cx} : PGet X (rGetN X.K) := by
  intro pins s σ H o i ov iv Q I ro ri h
  obtain ⟨p, xs, n, z, rfl, rfl, hq, he, q⟩ := h
  cases ro
  obtain ⟨t, rfl⟩ := ri
  obtain ⟨its, r, pl, hz⟩ := I.list hq
  obtain ⟨w, ew, rw'⟩ := r.get he
  have hl := r.length
  have hn := line63
  have hlt := (List.getElem?_eq_some_iff.mp he).1
  have fin : EP X pins σ Q w s := ⟨z, H, I, rw', q⟩
  exact wpAny_getItem_list (x := w) pl.isList (by omega) (by omega) (by simpa using ew) fin
end L2
namespace TM
/-- x is added at row r, place c -/
def addAt (R : Tab) (r c : Nat) (x : Int) : Tab := R.set r ((R.getD r []).set c ((R.getD r []).getD c 0 + x))
def addRow (R : Tab) (r b : Nat) (row : Row) : Tab := ((List.range row.length).zip row).foldl (fun R p => addAt R r (b + p.1) p.2) R
def addTab (R : Tab) (rb cb : Nat) (t : Tab) : Tab := ((List.range t.length).zip t).foldl (fun R p => addRow R (rb + p.1) cb p.2) R
theorem addAt_sq {N : Nat} {R : Tab} (h : Sq N R) (r c : Nat) (x : Int) : Sq N (addAt R r c x) := by
  refine ⟨by unfold addAt; rw [List.length_set, h.1], fun q hq => ?_⟩
  unfold addAt at hq
  rcases List.mem_or_eq_of_mem_set hq with q1 | q1
  · exact h.2 q q1
  · by_cases hr : r < R.length
    · rw [q1, List.length_set, List.getD_eq_getElem?_getD, List.getElem?_eq_getElem hr]
      exact h.2 _ (List.getElem_mem hr)
    · rw [List.set_eq_of_length_le (by omega)] at hq
      exact h.2 q hq
theorem addRow_sq {N : Nat} (r b : Nat) : ∀ (ps : List (Nat × Int)) {R : Tab}, Sq N R → Sq N (ps.foldl (fun R p => addAt R r (b + p.1) p.2) R)
  | [], _, h => h
  | p :: ps, _, h => addRow_sq r b ps (addAt_sq h _ _ _)
theorem addTab_sq {N : Nat} (rb cb : Nat) : ∀ (ps : List (Nat × Row)) {R : Tab}, Sq N R → Sq N (ps.foldl (fun R p => addRow R (rb + p.1) cb p.2) R)
  | [], _, h => h
  | p :: ps, _, h => addTab_sq rb cb ps (addRow_sq _ _ _ h)
end TM
namespace TH
open PySem PySem.Spec PyProof.Rows L2
theorem nodup_inj {α : Type} {l : List α} (nd : l.Nodup) {i j : Nat} {a : α} (h1 : l[i]? = some a) (h2 : l[j]? = some a) : i = j := by
  obtain ⟨k1, e1⟩ := List.getElem?_eq_some_iff.mp h1
  obtain ⟨k2, e2⟩ := List.getElem?_eq_some_iff.mp h2
  have p := List.pairwise_iff_getElem.mp nd
  rcases Nat.lt_trichotomy i j with h | h | h
  · exact absurd (e1.trans e2.symm) (p i j k1 k2 h)
  · exact h
  · exact absurd (e2.trans e1.symm) (p j i k2 k1 h)
/-- a list of lists, all written, in the base -/
structure RowsB (Hb : Hp) (R : Addr) (qs : List Addr) (rows : List (List Int)) : Prop where
  top : Hb R = some (.lst (qs.map V.ref))
  len : qs.length = rows.length
  ls : ∀ (i : Nat) (q : Addr) (row : List Int), qs[i]? = some q → rows[i]? = some row → Hb q = some (.lst (row.map V.int))
  nd : qs.Nodup
  ne : R ∉ qs
theorem RowsB.upd {Hb : Hp} {R : Addr} {qs : List Addr} {rows : List (List Int)} (B : RowsB Hb R qs rows) {r : Nat} {q : Addr} (hq : qs[r]? = some q) (row' : List Int) : RowsB (L2.upd Hb q (.lst (row'.map V.int))) R qs (rows.set r row') := by
  have hm := List.mem_of_getElem? hq
  refine ⟨?_, by rw [List.length_set]; exact B.len, fun i p row h1 h2 => ?_, B.nd, B.ne⟩
  · rw [upd_ne (fun e => B.ne (by rw [e]; exact hm))]
    exact B.top
  · by_cases e : i = r
    · subst e
      rw [hq] at h1
      cases h1
      have hl : i < rows.length := by rw [← B.len]; exact (List.getElem?_eq_some_iff.mp hq).1
      rw [List.getElem?_set_self hl] at h2
      cases h2
      exact upd_same
    · have hne : p ≠ q := fun z => by
        subst z
        exact e (nodup_inj B.nd h1 hq)
      rw [upd_ne hne]
      rw [List.getElem?_set_ne (Ne.symm e)] at h2
      exact B.ls i p row h1 h2
theorem At.growL {W : Gx} {G0 H0 G H : Hp} {env : List Sl} {σ : L2.St} (A : At W G0 H0 env σ G H) (L : List Addr) (h : ∀ a ∈ L, G a = none) (hno : ∀ (i : Nat) (ds : List D), env[i]? ≠ some (Sl.own ds)) : ∃ Hl : Hp, (∀ a ∈ L, Hl a = H a) ∧ (∀ a, a ∉ L → Hl a = H0 a) ∧ At W G0 Hl env σ G H := by
  refine ⟨fun a => if a ∈ L then H a else H0 a, fun a ha => if_pos ha, fun a ha => if_neg ha, ⟨A.s.g, fun a u ha => ?_, A.s.s, fun a ha hga => ?_⟩, A.e, fun i ds q hi _ => absurd hi (hno i ds), fun i j ds es q hi _ _ _ => absurd hi (hno i ds)⟩
  · by_cases e : a ∈ L
    · have ha' : (if a ∈ L then H a else H0 a) = some u := ha
      rw [if_pos e] at ha'
      exact ha'
    · have ha' : (if a ∈ L then H a else H0 a) = some u := ha
      rw [if_neg e] at ha'
      exact A.s.h a u ha'
  · by_cases e : a ∈ L
    · exact h a e
    · have ha' : (if a ∈ L then H a else H0 a) ≠ none := ha
      rw [if_neg e] at ha'
      exact A.s.o a ha' hga
def thruTab (x : Tl) (moves : List Mv) (states : List Nat) (c n : Nat) : List (List Int) :=
  states.foldl (fun R s => (mvFrom moves s c).foldl (fun R m => TM.addTab R (states.idxOf s * n) (states.idxOf m.t * n) (x.tab m.b)) R) (zeros (n * states.length) (n * states.length))
def plD (states : List Nat) : D := .dic ((List.range states.length).map fun i => ((.inl ((states.getD i 0 : Nat) : Int) : Key), D.int (i : Int)))
theorem valD_pl {states : List Nat} (nd : states.Nodup) {s : Nat} (h : s ∈ states) : valD ((List.range states.length).map fun i => ((.inl ((states.getD i 0 : Nat) : Int) : Key), D.int (i : Int))) (.inl (s : Int)) = some (.int ((states.idxOf s : Nat) : Int)) := by
  have hl := List.idxOf_lt_length_of_mem h
  unfold valD
  have e : ((List.range states.length).map fun i => ((.inl ((states.getD i 0 : Nat) : Int) : Key), D.int (i : Int))).find? (fun kv => decide (kv.1 = (.inl (s : Int) : Key))) = some ((.inl (s : Int) : Key), D.int ((states.idxOf s : Nat) : Int)) := by
    rw [List.find?_map]
    have e2 : (List.range states.length).find? ((fun kv : Key × D => decide (kv.1 = (.inl (s : Int) : Key))) ∘ fun i => ((.inl ((states.getD i 0 : Nat) : Int) : Key), D.int (i : Int))) = some (states.idxOf s) := by
      rw [List.find?_range_eq_some]
      refine ⟨?_, List.mem_range.mpr hl, fun j hj => ?_⟩
      · show decide ((Sum.inl ((states.getD (states.idxOf s) 0 : Nat) : Int) : Key) = _) = true
        rw [decide_eq_true_eq, List.getD_eq_getElem?_getD, List.getElem?_eq_getElem hl]
        show (Sum.inl ((states[states.idxOf s] : Nat) : Int) : Key) = _
        rw [List.getElem_idxOf]
      · show (!decide ((Sum.inl ((states.getD j 0 : Nat) : Int) : Key) = _)) = true
        rw [Bool.not_eq_true', decide_eq_false_iff_not]
        intro q
        have q2 := Sum.inl.inj q
        have hjl : j < states.length := Nat.lt_trans hj hl
        rw [List.getD_eq_getElem?_getD, List.getElem?_eq_getElem hjl] at q2
        have q3 : states[j] = s := by
          have : ((states[j] : Nat) : Int) = s := q2
          omega
        have := nodup_inj nd (i := j) (j := states.idxOf s) (a := s) (by rw [List.getElem?_eq_getElem hjl, q3]) (by rw [List.getElem?_eq_getElem hl, List.getElem_idxOf])
        omega
    rw [e2, Option.map_some, List.getD_eq_getElem?_getD, List.getElem?_eq_getElem hl]
    show some ((Sum.inl ((states[states.idxOf s] : Nat) : Int) : Key), _) = _
    rw [List.getElem_idxOf]
  rw [e]
  rfl
end TH
set_option maxHeartbeats 8000000
namespace TH
open PySem PySem.Spec PyProof.Rows L2
structure ThOk (n : Nat) (x : Tl) (moves : List Mv) (states : List Nat) (c : Nat) : Prop where
  al : Al x.z
  w : WT n x
  nd : states.Nodup
  lt : n * states.length < 1000
  ln : states.length ≤ 100
  mv : ∀ s ∈ states, ∀ m ∈ mvFrom moves s c, m.t ∈ states ∧ m.b ∈ x.z.cps.toList
  ml : moves.length < 1000
def f_table_through (W : Gx) (ds : List D) (d : D) : Prop := ∃ (x : Tl) (n : Nat) (z : Str) (moves : List Mv) (ends states : List Nat) (c : Nat), ThOk n x moves states c ∧ ds = [tlD W x, rwD W z moves ends, .lst (nsD states), sgn c] ∧ d = tabD (thruTab x moves states c n)
theorem zipRange {α : Type} {xs : List α} {i : Nat} {p : Nat × α} (h : ((List.range xs.length).zip xs)[i]? = some p) : p.1 = i ∧ xs[i]? = some p.2 := by
  rw [List.getElem?_zip_eq_some] at h
  obtain ⟨h1, h2⟩ := h
  have hl : i < xs.length := (List.getElem?_eq_some_iff.mp h2).1
  rw [List.getElem?_range hl] at h1
  exact ⟨(Option.some.inj h1).symm, h2⟩
theorem enum_items {α : Type} (g : α → D) (xs : List α) : zipD ((List.range (xs.map g).length).map fun (i : Nat) => D.int (i : Int)) (xs.map g) = ((List.range xs.length).zip xs).map fun p => .tup [.int (p.1 : Int), g p.2] := by
  rw [List.length_map, ← zipD_map2 (fun i : Nat => D.int (i : Int)) g]
theorem Reps.of_lists {K : PySem.W.Frag} {G : Hp} : ∀ {qs : List Addr} {rows : List (List Int)}, qs.length = rows.length → (∀ (i : Nat) (q : Addr) (row : List Int), qs[i]? = some q → rows[i]? = some row → G q = some (.lst (row.map V.int))) → Reps K G (rows.map fun r => D.lst (r.map D.int)) (qs.map V.ref)
  | [], [], _, _ => rfl
  | q :: qs, r :: rows, hl, h => ⟨.ref q, _, rfl, ⟨q, _, rfl, h 0 q r rfl rfl, Reps.of_ints r⟩, Reps.of_lists (Nat.succ.inj hl) fun i p row h1 h2 => h (i + 1) p row h1 h2⟩
theorem foldl_take_succ {α β : Type} {f : β → α → β} {b : β} {l : List α} {i : Nat} {a : α} (h : l[i]? = some a) : (l.take (i + 1)).foldl f b = f ((l.take i).foldl f b) a := by
  rw [take_succ_get h, List.foldl_append]
  rfl
theorem ok_table_through {W : Gx} (T : Tx W) : OkF W 3 "table_through" 4 (f_table_through W) := by
  have m1 := T.m_len
  have m2 := T.m_enumerate
  have m3 := T.m_range
  have m4 := T.m_tuple
  refine mk_table_through T fun ds d G0 H0 σ D' hf hn A fin => ?_
  obtain ⟨x, n, z, moves, ends, states, c, ok, rfl, rfl⟩ := hf
  have hlt := ok.w.lt
  have hsl := ok.w.sl
  have hL := ok.lt
  have hln := ok.ln
  have hnsl : (nsD states).length = states.length := List.length_map ..
  -- many, places
  refine ws_tup2 (d := .int (n : Int)) (d' := plD states) A sc_table_through.nd (sn 4) (sn 5) (by decide) (ja_cons (lenO T (jv 0) hsl hlt) (ja_cons (J.is (j_dcomp (own := [("place", 13), ("state", 7)]) (t := .two 13 7) (items := zipD ((List.range (nsD states).length).map fun (i : Nat) => D.int (i : Int)) (nsD states)) (fun i => .inl ((states.getD i 0 : Nat) : Int)) (fun i => .int ((states.getD i 0 : Nat) : Int)) (fun i => .int (i : Int)) (ji_enum (jsr_l (jv 2))) (blkOk_by (by decide +kernel)) sc_table_through.nd (.two (sn 13) (sn 7) (by decide)) rfl (fun d hd => ?_) ?_ (fun i G v h => h) (fun i j hij hj => ?_) (fun i d hd => ?_) (fun i d hd => ?_)) ?_) ja_nil)) fun σ1 G1 H1 A1 => ?_
  · obtain ⟨i, hi⟩ := List.getElem?_of_mem hd
    obtain ⟨a, b, _, _, rfl⟩ := zipD_get hi
    exact ⟨a, b, rfl⟩
  · unfold zipD
    rw [List.length_zipWith, List.length_map, List.length_range, hnsl, Nat.min_self]
    omega
  · have hjl : j < states.length := by
      unfold zipD at hj
      rw [List.length_zipWith, List.length_map, List.length_range, hnsl, Nat.min_self] at hj
      exact hj
    intro e
    have e2 := Sum.inl.inj e
    have hil : i < states.length := Nat.lt_trans hij hjl
    rw [List.getD_eq_getElem?_getD, List.getD_eq_getElem?_getD, List.getElem?_eq_getElem hil, List.getElem?_eq_getElem hjl] at e2
    have e3 : states[i] = states[j] := by
      have : ((states[i] : Nat) : Int) = (states[j] : Nat) := e2
      omega
    have := nodup_inj ok.nd (List.getElem?_eq_getElem hil) ((List.getElem?_eq_getElem hjl).trans (congrArg some e3.symm))
    omega
  · obtain ⟨a, b, h1, h2, rfl⟩ := zipD_get hd
    unfold nsD at h2
    rw [List.getElem?_map] at h2
    obtain ⟨s, hs, rfl⟩ := Option.map_eq_some_iff.mp h2
    refine J.is (jv 7) ?_
    rw [List.getD_eq_getElem?_getD, hs]
    rfl
  · obtain ⟨a, b, h1, h2, rfl⟩ := zipD_get hd
    have hil : i < (nsD states).length := (List.getElem?_eq_some_iff.mp h2).1
    rw [List.getElem?_map, List.getElem?_range hil] at h1
    refine J.is (jv 13) ?_
    exact (Option.some.inj h1).symm
  · unfold plD zipD
    rw [List.length_zipWith, List.length_map, List.length_range, hnsl, Nat.min_self]
  -- rows
  have jN : ∀ {S : Sc} {k : Nat} {env : List Sl} {pa pb pc pd pe pf : Pos}, J W S k (.BinOp (.Name "many" pa) .Mult (.Call (.Name "len" pb) [.Name "states" pc] [] pd) pe) env (.int ((n : Int) * ((nsD states).length : Int))) → J W S k (.BinOp (.Name "many" pa) .Mult (.Call (.Name "len" pb) [.Name "states" pc] [] pd) pe) env (.int ((n * states.length : Nat) : Int)) := fun h => J.is h (by rw [hnsl, Int.natCast_mul])
  refine wsc_setN (i := 6) A1 rfl rfl rfl (jlcN (own := [("number", 10)]) (t := .one 10) (items := (List.range (n * states.length)).map fun (i : Nat) => D.int (i : Int)) (List.replicate (n * states.length) (.int 0)) (ji_range1 (J.is (j_mul (jv 4) (j_lenL (jv 2).l) (.inl ⟨by omega, by omega⟩)) (by rw [hnsl, Int.natCast_mul])) (by omega)) (blkOk_by (by decide +kernel)) sc_table_through.nd (.one (sn 10)) rfl (fun _ _ => trivial) (by rw [List.length_map, List.length_range]; omega) (fun i d hd => JN.is (jn_rep (n := n * states.length) (JN.l (jn_lst (ja_cons (j_int (i := 0)) ja_nil) (by show 1 ≤ 100000; decide))) (J.is (j_mul (jv 4) (j_lenL (jv 2).l) (.inl ⟨by omega, by omega⟩)) (by rw [hnsl, Int.natCast_mul])) (by show 1 * (n * states.length) ≤ 100000; omega) (by omega)) (rep_flat _ _))) sc_table_through.nd fun R qs G2 H2 s2 N => ?_
  rw [List.length_map, List.length_range] at N
  obtain ⟨⟨nt1, nt2, nt3⟩, nlen, nls, nnd, nne⟩ := N
  have hqsl : qs.length = n * states.length := by rw [nlen, List.length_replicate]
  have hqn : ∀ q ∈ qs, H1 q = none ∧ G2 q = none ∧ H2 q = some (.lst ((List.replicate (n * states.length) (0 : Int)).map V.int)) := fun q hq => by
    obtain ⟨i, hi⟩ := List.getElem?_of_mem hq
    have hil : i < n * states.length := by rw [← hqsl]; exact (List.getElem?_eq_some_iff.mp hi).1
    obtain ⟨k1, k2, vs, k3, k4⟩ := nls i q _ hi (by rw [List.getElem?_replicate, if_pos hil])
    refine ⟨k1, k2, ?_⟩
    rw [k3]
    have : vs = (List.replicate (n * states.length) (0 : Int)).map V.int := Reps.ints (by rw [List.map_replicate]; exact k4)
    rw [this]
  have A2 := (A1.mono s2).setS (i := 6) (x := .raw (.ref R)) (o := some (.ref R)) rfl (fun ds z => nomatch z)
  obtain ⟨Hl, hl1, hl2, A3⟩ := A2.growL (R :: qs) (fun a ha => by
    rcases List.mem_cons.mp ha with q | q
    · rw [q]; exact nt2
    · exact (hqn a q).2.1) (fun i es h => by
    have := List.mem_of_getElem? h
    simp [startE, N_table_through] at this)
  have B0 : RowsB Hl R qs (zeros (n * states.length) (n * states.length)) := ⟨by rw [hl1 R List.mem_cons_self]; exact nt3, by rw [hqsl, zeros_len], fun i q row h1 h2 => by
    have hm := List.mem_of_getElem? h1
    rw [hl1 q (List.mem_cons_of_mem _ hm), (hqn q hm).2.2]
    rw [List.eq_of_mem_replicate (List.mem_of_getElem? h2)], nnd, nne⟩
  have hH1 : ∀ a ∈ R :: qs, H1 a = none := fun a ha => by
    rcases List.mem_cons.mp ha with q | q
    · rw [q]; exact nt1
    · exact (hqn a q).1
  have hH0 : ∀ a ∈ R :: qs, H0 a = none := fun a ha => A1.s.h.none (hH1 a ha)
  have hG0 : ∀ a ∈ R :: qs, G0 a = none := fun a ha => A1.s.g.none (A1.s.s.none (hH1 a ha))
  have hqG0 : ∀ q ∈ qs, G0 q = none := fun q hq => hG0 q (List.mem_cons_of_mem _ hq)
  let Z := zeros (n * states.length) (n * states.length)
  have sqZ : TM.Sq (n * states.length) Z := ⟨zeros_len _ _, zeros_row _ _⟩
  let fM : Nat → List (List Int) → Mv → List (List Int) := fun s R m => TM.addTab R (states.idxOf s * n) (states.idxOf m.t * n) (x.tab m.b)
  let fS : List (List Int) → Nat → List (List Int) := fun R s => (mvFrom moves s c).foldl (fM s) R
  have sqM : ∀ s (ms : List Mv) (R : List (List Int)), TM.Sq (n * states.length) R → TM.Sq (n * states.length) (ms.foldl (fM s) R) := fun s ms => by
    induction ms with
    | nil => intro R h; exact h
    | cons m ms ih => intro R h; exact ih _ (TM.addTab_sq _ _ _ h)
  have sqS : ∀ (ss : List Nat) (R : List (List Int)), TM.Sq (n * states.length) R → TM.Sq (n * states.length) (ss.foldl fS R) := fun ss => by
    induction ss with
    | nil => intro R h; exact h
    | cons s ss ih => intro R h; exact ih _ (sqM s _ _ h)
  let E0 : List Sl := [.d (tlD W x), .d (rwD W z moves ends), .d (.lst (nsD states)), .d (sgn c), .d (.int (n : Int)), .d (plD states), .raw (.ref R)]
  refine ws_forG (items := nsD states) (t := .one 7) (fun _ => E0 ++ [.no, .no, .no, .no, .no, .no, .no, .no]) (fun i _ Hb => RowsB Hb R qs ((states.take i).foldl fS Z) ∧ ∀ a, a ∉ qs → Hb a = Hl a) A3 sc_table_through.nd (ji_lst (jv 2)) (.one (sn 7)) (fun _ _ => trivial) (Le.refl _) (fun _ _ => ⟨B0, fun _ _ => rfl⟩) (fun Gb Hb i dd σ4 G4 H4 nx hd hGb gr iv A4 hnx => ?_) (fun Gb Hb σ4 G4 H4 hGb gr ega egb iv A4 => ?_) (fun _ _ _ _ _ h => h)
  · obtain ⟨B, off⟩ := iv
    unfold nsD at hd
    rw [List.getElem?_map] at hd
    obtain ⟨s, hs, rfl⟩ := Option.map_eq_some_iff.mp hd
    have hsm : s ∈ states := List.mem_of_getElem? hs
    have hlq : ∀ q ∈ qs, Hl q ≠ none := fun q hq => by rw [hl1 q (List.mem_cons_of_mem _ hq), (hqn q hq).2.2]; exact fun z => nomatch z
    have gbq : ∀ q ∈ qs, Gb q = none := fun q hq => hGb q (hlq q hq) (hqG0 q hq)
    have sqi := sqS (states.take i) Z sqZ
    generalize hR : (states.take i).foldl fS Z = Ri at B sqi
    refine ws_forG (items := (mvFrom moves s c).map mvD) (t := .one 8) (fun _ => E0 ++ [.d (.int (s : Int)), .no, .no, .no, .no, .no, .no, .no]) (fun j _ Hb => RowsB Hb R qs (((mvFrom moves s c).take j).foldl (fM s) Ri) ∧ ∀ a, a ∉ qs → Hb a = Hl a) A4 sc_table_through.nd (ji_lst (j_meth (ok_Rewriter_moves_from T) (fs := rwF z moves ends) (jv 1) (ja_cons (jv 7) (ja_cons (jv 3) ja_nil)) ⟨z, moves, ends, s, c, rfl, rfl⟩)) (.one (sn 8)) (fun _ _ => trivial) (Le.refl _) (fun _ _ => ⟨B, off⟩) (fun Gb2 Hb2 j dd σ5 G5 H5 nx2 hd2 hGb2 gr2 iv2 A5 hnx2 => ?_) (fun Gb2 Hb2 σ5 G5 H5 hGb2 gr2 ega2 egb2 iv2 A5 => ?_) (fun _ _ _ _ _ h => h)
    · obtain ⟨B2, off2⟩ := iv2
      rw [List.getElem?_map] at hd2
      obtain ⟨m, hm, rfl⟩ := Option.map_eq_some_iff.mp hd2
      have hmm := ok.mv s hsm m (List.mem_of_getElem? hm)
      have hbq : ∀ q ∈ qs, Hb q ≠ none := fun q hq => by
        obtain ⟨r, hr⟩ := List.getElem?_of_mem hq
        have hrl : r < Ri.length := by rw [← B.len]; exact (List.getElem?_eq_some_iff.mp hr).1
        rw [B.ls r q _ hr (List.getElem?_eq_getElem hrl)]
        exact fun z => nomatch z
      have gb2q : ∀ q ∈ qs, Gb2 q = none := fun q hq => hGb2 q (hbq q hq) (gbq q hq)
      have sqj := sqM s ((mvFrom moves s c).take j) Ri sqi
      rw [foldl_take_succ hm] at hnx2
      generalize hRj : ((mvFrom moves s c).take j).foldl (fM s) Ri = Rj at B2 sqj hnx2
      have tm := ok.w.mem_tab hmm.2
      have tsq := ok.w.sq _ tm
      have hidx : x.z.cps.toList.idxOf m.b < x.ts.length := by rw [ok.w.tl]; exact List.idxOf_lt_length_of_mem hmm.2
      have hat : atI (x.ts.map tabD) ((x.z.cps.toList.idxOf m.b : Nat) : Int) = some (tabD (x.tab m.b)) := by
        refine atI_nat ?_
        unfold Tl.tab
        rw [List.getElem?_map, List.getD_eq_getElem?_getD, List.getElem?_eq_getElem hidx]
        rfl
      refine ws_set A5 sc_table_through.nd (sn 9) (j_ixT (d := tabD (x.tab m.b)) (j_fld (fs := tlF x) (jv 0) rfl T.c_Tally T.n_Tally_tables) (j_sindex ok.al hmm.2 (j_fld (fs := tlF x) (jv 0) rfl T.c_Tally T.n_Tally_digits) (j_ixT (d := sgn m.b) (jv 8 (d := mvD m)) j_int rfl)) hat) fun σ6 G6 H6 A6 => ?_
      let fN : List (List Int) → Nat × List Int → List (List Int) := fun R p => TM.addRow R (states.idxOf s * n + p.1) (states.idxOf m.t * n) p.2
      have hps : states.idxOf s < states.length := List.idxOf_lt_length_of_mem hsm
      have hpt : states.idxOf m.t < states.length := List.idxOf_lt_length_of_mem hmm.1
      refine ws_forG (items := ((List.range (x.tab m.b).length).zip (x.tab m.b)).map fun p => .tup [.int (p.1 : Int), rowD p.2]) (t := .two 10 11) (fun _ => E0 ++ [.d (.int (s : Int)), .d (mvD m), .d (tabD (x.tab m.b)), .no, .no, .no, .no, .no]) (fun l _ Hb => RowsB Hb R qs ((((List.range (x.tab m.b).length).zip (x.tab m.b)).take l).foldl fN Rj) ∧ ∀ a, a ∉ qs → Hb a = Hl a) A6 sc_table_through.nd (by rw [← enum_items rowD]; exact ji_enum (jsr_t (jv 9))) (.two (sn 10) (sn 11) (by decide)) (fun dd hd => by obtain ⟨p, _, rfl⟩ := List.mem_map.mp hd; exact ⟨_, _, rfl⟩) (Le.refl _) (fun _ _ => ⟨B2, off2⟩) (fun Gb3 Hb3 l dd σ7 G7 H7 nx3 hd3 hGb3 gr3 iv3 A7 hnx3 => ?_) (fun Gb3 Hb3 σ7 G7 H7 hGb3 gr3 ega3 egb3 iv3 A7 => ?_) (fun _ _ _ _ _ h => h)
      · obtain ⟨B3, off3⟩ := iv3
        rw [List.getElem?_map] at hd3
        obtain ⟨p, hp, rfl⟩ := Option.map_eq_some_iff.mp hd3
        obtain ⟨hp1, hp2⟩ := zipRange hp
        have hpl : p.1 < n := by
          rw [hp1, ← tsq.1]
          exact (List.getElem?_eq_some_iff.mp hp2).1
        have hprow : p.2.length = n := tsq.2 _ (List.mem_of_getElem? hp2)
        have hb2q : ∀ q ∈ qs, Hb2 q ≠ none := fun q hq => by
          obtain ⟨r, hr⟩ := List.getElem?_of_mem hq
          have hrl : r < Rj.length := by rw [← B2.len]; exact (List.getElem?_eq_some_iff.mp hr).1
          rw [B2.ls r q _ hr (List.getElem?_eq_getElem hrl)]
          exact fun z => nomatch z
        have gb3q : ∀ q ∈ qs, Gb3 q = none := fun q hq => hGb3 q (hb2q q hq) (gb2q q hq)
        have sql := TM.addTab_sq (states.idxOf s * n) (states.idxOf m.t * n) (((List.range (x.tab m.b).length).zip (x.tab m.b)).take l) sqj
        rw [foldl_take_succ hp] at hnx3
        replace sql : TM.Sq (n * states.length) ((((List.range (x.tab m.b).length).zip (x.tab m.b)).take l).foldl fN Rj) := sql
        generalize hRl : (((List.range (x.tab m.b).length).zip (x.tab m.b)).take l).foldl fN Rj = Rl at B3 sql hnx3
        have hrow : states.idxOf s * n + p.1 < n * states.length := by
          have h1 : (states.idxOf s + 1) * n ≤ states.length * n := Nat.mul_le_mul_right n hps
          rw [Nat.add_mul, Nat.one_mul] at h1
          rw [Nat.mul_comm n]
          omega
        obtain ⟨q, hq⟩ : ∃ q, qs[states.idxOf s * n + p.1]? = some q := ⟨_, List.getElem?_eq_getElem (by rw [hqsl]; exact hrow)⟩
        have hqm := List.mem_of_getElem? hq
        have ei : ((states.idxOf s : Nat) : Int) * (n : Int) + (p.1 : Int) = ((states.idxOf s * n + p.1 : Nat) : Int) := by rw [Int.natCast_add, Int.natCast_mul]
        have hps2 : states.idxOf s < 100 := by omega
        -- led = rows[..]
        refine wSs_cons (wS_X (fun X hX => ps_asg (pe_ix ix_list (pe_w hX (.Name "rows" _)) (pe_w hX _) (by intro _ _; rfl)) (pg_nm hX sc_table_through.nd (sn 12)) rfl) fun X hX => ?_)
        refine jraw 6 rfl rfl (Or.inl rfl) (by decide) (by decide) σ7 G7 H7 A7.s.s A7.e _ fun v Ga Ha sa ev => (J.is (j_add (j_mul (j_dget (q0 := .inl (s : Int)) (jv 5 (d := plD states)) (jv 7 (d := .int (s : Int))) (fun G v h => h) (valD_pl ok.nd hsm)) (jv 4) (.inl ⟨by omega, by omega⟩)) (jv 10)) (congrArg D.int ei)) σ7 Ga Ha sa.s (A7.e.mono sa) _ fun u Gc Hc sc eu => ?_
        subst ev
        have Ac := A7.mono (sa.trans sc)
        refine ⟨R, qs.map V.ref, _, V.ref q, rfl, eu, .of (Ac.s.h _ _ B3.top), atI_nat (by rw [List.getElem?_map, hq]; rfl), ?_⟩
        have A8 := Ac.setS (i := 12) (x := .raw (.ref q)) (o := some (.ref q)) rfl (fun ds z => nomatch z)
        let rr := states.idxOf s * n + p.1
        let cb := states.idxOf m.t * n
        let fC : List (List Int) → Nat × Int → List (List Int) := fun R r => TM.addAt R rr (cb + r.1) r.2
        show wSs W (defS N_table_through (defScope s_table_through)) 2 _ _ (σ7.set 12 (some (.ref q))) Hc
        refine ws_forG (items := ((List.range p.2.length).zip p.2).map fun r => .tup [.int (r.1 : Int), .int r.2]) (t := .two 13 14) (fun _ => E0 ++ [.d (.int (s : Int)), .d (mvD m), .d (tabD (x.tab m.b)), .d (.int (p.1 : Int)), .d (rowD p.2), .raw (.ref q), .no, .no]) (fun l _ Hb => RowsB Hb R qs ((((List.range p.2.length).zip p.2).take l).foldl fC Rl) ∧ ∀ a, a ∉ qs → Hb a = Hl a) A8 sc_table_through.nd (by rw [← enum_items D.int]; exact ji_enum (jsr_t (jv 11))) (.two (sn 13) (sn 14) (by decide)) (fun dd hd => by obtain ⟨p, _, rfl⟩ := List.mem_map.mp hd; exact ⟨_, _, rfl⟩) (Le.refl _) (fun _ _ => ⟨B3, off3⟩) (fun Gb4 Hb4 l4 dd σ8 G8 H8 nx4 hd4 hGb4 gr4 iv4 A9 hnx4 => ?_) (fun Gb4 Hb4 σ8 G8 H8 hGb4 gr4 ega4 egb4 iv4 A9 => ?_) (fun _ _ _ _ _ h => h)
        · obtain ⟨B4, off4⟩ := iv4
          rw [List.getElem?_map] at hd4
          obtain ⟨r, hr, rfl⟩ := Option.map_eq_some_iff.mp hd4
          obtain ⟨hr1, hr2⟩ := zipRange hr
          have hrl : r.1 < n := by
            rw [hr1, ← hprow]
            exact (List.getElem?_eq_some_iff.mp hr2).1
          have hb3q : Hb3 q ≠ none := by
            have hrl : rr < Rl.length := by rw [← B3.len, hqsl]; exact hrow
            rw [B3.ls rr q _ hq (List.getElem?_eq_getElem hrl)]
            exact fun z => nomatch z
          have gb4q : Gb4 q = none := hGb4 q hb3q (gb3q q hqm)
          have squ : TM.Sq (n * states.length) ((((List.range p.2.length).zip p.2).take l4).foldl fC Rl) := TM.addRow_sq rr cb _ sql
          rw [foldl_take_succ hr] at hnx4
          generalize hRu : (((List.range p.2.length).zip p.2).take l4).foldl fC Rl = Ru at B4 squ hnx4
          have hru : rr < Ru.length := by rw [squ.1]; exact hrow
          have hcol : cb + r.1 < n * states.length := by
            have h1 : (states.idxOf m.t + 1) * n ≤ states.length * n := Nat.mul_le_mul_right n hpt
            rw [Nat.add_mul, Nat.one_mul] at h1
            show states.idxOf m.t * n + r.1 < _
            rw [Nat.mul_comm n]
            omega
          have hrowl : (Ru.getD rr []).length = n * states.length := by
            rw [List.getD_eq_getElem?_getD, List.getElem?_eq_getElem hru]
            exact squ.2 _ (List.getElem_mem hru)
          have hget : Ru[rr]? = some (Ru.getD rr []) := by
            rw [List.getD_eq_getElem?_getD, List.getElem?_eq_getElem hru]
            rfl
          have hHq := B4.ls rr q _ hq hget
          have hold : ((Ru.getD rr []).map V.int)[cb + r.1]? = some (.int ((Ru.getD rr []).getD (cb + r.1) 0)) := by
            rw [List.getElem?_map, List.getD_eq_getElem?_getD (l := Ru.getD rr []), List.getElem?_eq_getElem (by rw [hrowl]; exact hcol)]
            rfl
          have hpt2 : states.idxOf m.t < 100 := by omega
          have ei2 : ((states.idxOf m.t : Nat) : Int) * (n : Int) + (r.1 : Int) = ((cb + r.1 : Nat) : Int) := by
            show _ = ((states.idxOf m.t * n + r.1 : Nat) : Int)
            rw [Int.natCast_add, Int.natCast_mul]
          refine wSs_cons (wS_X (fun X hX => ps_augS (pe_w hX (.Name "led" _)) (pe_w hX _) get_listN (pe_w hX _) ip_add set_list) fun X hX => ?_)
          refine jraw 12 rfl rfl (Or.inl rfl) (by decide) (by decide) σ8 G8 H8 A9.s.s A9.e _ fun v Gd Hd sd ev => (J.is (j_add (j_mul (j_dget (q0 := .inl (m.t : Int)) (jv 5 (d := plD states)) (j_ixT (d := .int (m.t : Int)) (jv 8 (d := mvD m)) j_int rfl) (fun G v h => h) (valD_pl ok.nd hmm.1)) (jv 4) (.inl ⟨by omega, by omega⟩)) (jv 13)) (congrArg D.int ei2)) σ8 Gd Hd sd.s (A9.e.mono sd) _ fun u2 Ge He se eu2 => ?_
          subst ev
          have A10 := A9.mono (sd.trans se)
          rw [show u2 = V.int ((cb + r.1 : Nat) : Int) from eu2]
          refine ⟨q, _, cb + r.1, _, rfl, rfl, .of (A10.s.h _ _ hHq), hold, ?_⟩
          refine (jv 14 (d := .int r.2)) σ8 Ge He A10.s.s A10.e _ fun w Gf Hf sf ew => ?_
          have A11 := A10.mono sf
          rw [show w = V.int r.2 from ew]
          refine ⟨_, _, rfl, rfl, q, _, _, cb + r.1, rfl, rfl, A11.s.h _ _ hHq, ?_, ?_⟩
          · unfold ixN
            rw [if_pos (by omega), if_pos (by rw [List.length_map, hrowl]; omega), Int.toNat_natCast]
          · have hq0 : Hb4 q ≠ none := by rw [hHq]; exact fun z => nomatch z
            have es : ((Ru.getD rr []).map V.int).set (cb + r.1) (V.int ((Ru.getD rr []).getD (cb + r.1) 0 + r.2)) = ((Ru.getD rr []).set (cb + r.1) ((Ru.getD rr []).getD (cb + r.1) 0 + r.2)).map V.int := by rw [List.map_set]
            rw [es]
            refine ws_nil (hnx4 _ σ8 Gf _ ⟨fun a ha => ?_, fun a ha => ?_⟩ ⟨B4.upd hq _, fun a ha => ?_⟩ (At.le (A11.mutB hq0 gb4q) ?_))
            · by_cases e : a = q
              · rw [e, upd_same]; exact fun z => nomatch z
              · rw [upd_ne e]; exact ha
            · by_cases e : a = q
              · rw [e]; exact .inl hq0
              · rw [upd_ne e] at ha; exact .inl ha
            · rw [upd_ne (fun e => ha (by rw [e]; exact hqm))]
              exact off4 a ha
            · exact .cons (.cons (.cons (.cons (.cons (.cons (.cons (.cons (.cons (.cons (.cons (.cons (.cons (.no (.no .nil))))))))))))))
        · rw [List.length_map, List.take_of_length_le (Nat.le_refl _)] at iv4
          exact ws_nil (hnx3 Hb4 σ8 G8 H8 (gr4.of (A7.s.g.trans ((sa.trans sc).g.trans ega4))) iv4 (At.le A9 (.cons (.cons (.cons (.cons (.cons (.cons (.cons (.cons (.cons (.cons (.no (.no (.no (.cons (.cons .nil)))))))))))))))))
      · rw [List.length_map, List.take_of_length_le (Nat.le_refl _)] at iv3
        exact ws_nil (hnx2 Hb3 σ7 G7 H7 (gr3.of (A6.s.g.trans ega3)) iv3 (At.le A7 (.cons (.cons (.cons (.cons (.cons (.cons (.cons (.cons (.no (.no (.cons (.cons (.cons (.cons (.cons .nil)))))))))))))))))
    · rw [List.length_map, List.take_of_length_le (Nat.le_refl _)] at iv2
      rw [foldl_take_succ hs, hR] at hnx
      exact ws_nil (hnx Hb2 σ5 G5 H5 (gr2.of (A4.s.g.trans ega2)) iv2 (At.le A5 (.cons (.cons (.cons (.cons (.cons (.cons (.cons (.no (.cons (.cons (.cons (.cons (.cons (.cons (.cons .nil)))))))))))))))))
  · obtain ⟨B, off⟩ := iv
    rw [hnsl, List.take_length] at B
    -- the lists are never written again
    have hbq : ∀ a ∈ R :: qs, Hb a ≠ none := fun a ha => by
      rcases List.mem_cons.mp ha with e | hq
      · rw [e, B.top]; exact fun z => nomatch z
      · obtain ⟨r, hr⟩ := List.getElem?_of_mem hq
        have hrl : r < (states.foldl fS Z).length := by rw [← B.len]; exact (List.getElem?_eq_some_iff.mp hr).1
        rw [B.ls r a _ hr (List.getElem?_eq_getElem hrl)]
        exact fun z => nomatch z
    have hg4 : ∀ a ∈ R :: qs, G4 a = none := fun a ha => A4.s.o a (hbq a ha) (hG0 a ha)
    obtain ⟨G5, x5, h5, n5⟩ : ∃ G5 : Hp, Ex G4 G5 ∧ (∀ a ∈ R :: qs, G5 a = Hb a) ∧ ∀ a, a ∉ R :: qs → G5 a = G4 a := ⟨fun a => if a ∈ R :: qs then Hb a else G4 a, fun a o ha => by
      have : a ∉ R :: qs := fun hm => by rw [hg4 a hm] at ha; cases ha
      show (if a ∈ R :: qs then Hb a else G4 a) = _
      rw [if_neg this]
      exact ha, fun a ha => if_pos ha, fun a ha => if_neg ha⟩
    have off0 : ∀ a, a ∉ R :: qs → Hb a = H0 a := fun a ha => by
      rw [off a (fun h => ha (List.mem_cons_of_mem _ h)), hl2 a ha]
    have s5 : Stp G0 H0 G5 H4 := ⟨A4.s.g.trans x5, fun a o ha => by
      have : a ∉ R :: qs := fun hm => by rw [hH0 a hm] at ha; cases ha
      exact A4.s.h a o (by rw [off0 a this]; exact ha), fun a o ha => by
      by_cases hm : a ∈ R :: qs
      · rw [h5 a hm] at ha
        exact A4.s.h a o ha
      · rw [n5 a hm] at ha
        exact A4.s.s a o ha, fun a ha hg => by
      have : a ∉ R :: qs := fun hm => ha (hH0 a hm)
      rw [n5 a this]
      exact A4.s.o a (by rw [off0 a this]; exact ha) hg⟩
    have rR : Rep W.K G5 (.lst ((states.foldl fS Z).map fun r => D.lst (r.map D.int))) (.ref R) := ⟨R, _, rfl, (h5 R List.mem_cons_self).trans B.top, Reps.of_lists B.len fun i q row h1 h2 => (h5 q (List.mem_cons_of_mem _ (List.mem_of_getElem? h1))).trans (B.ls i q row h1 h2)⟩
    have E5 : EnvR W.K G5 H4 σ4 (E0 ++ [.no, .no, .no, .no, .no, .no, .no, .no]) := ⟨A4.e.len, fun i sl o h1 h2 => by
      have := A4.e.at_ i sl o h1 h2
      cases sl with
      | no => trivial
      | d d =>
        obtain ⟨v, e, r⟩ := this
        exact ⟨v, e, r.mono x5⟩
      | raw v => exact this
      | own ds =>
        have := List.mem_of_getElem? h1
        simp [E0] at this⟩
    have A5 : At W G0 H0 ([.d (tlD W x), .d (rwD W z moves ends), .d (.lst (nsD states)), .d (sgn c), .d (.int (n : Int)), .d (plD states), .d (.lst ((states.foldl fS Z).map fun r => D.lst (r.map D.int)))] ++ [.no, .no, .no, .no, .no, .no, .no, .no]) σ4 G5 H4 := by
      have hno : ∀ (i : Nat) (es : List D), ([.d (tlD W x), .d (rwD W z moves ends), .d (.lst (nsD states)), .d (sgn c), .d (.int (n : Int)), .d (plD states), .d (.lst ((states.foldl fS Z).map fun r => D.lst (r.map D.int)))] ++ [.no, .no, .no, .no, .no, .no, .no, .no] : List Sl)[i]? ≠ some (Sl.own es) := fun i es h => by
        have := List.mem_of_getElem? h
        simp at this
      refine ⟨s5, ⟨A4.e.len, fun i sl o h1 h2 => ?_⟩, fun i es q h1 _ => absurd h1 (hno i es), fun i j es fs q h1 _ _ _ => absurd h1 (hno i es)⟩
      by_cases h6 : i = 6
      · subst h6
        have hs6 : Sl.d (.lst ((states.foldl fS Z).map fun r => D.lst (r.map D.int))) = sl := Option.some.inj h1
        rw [← hs6]
        have := E5.at_ 6 (.raw (.ref R)) o rfl h2
        exact ⟨.ref R, this, rR⟩
      · refine E5.at_ i sl o ?_ h2
        rw [← h1]
        match i, h6 with
        | 0, _ => rfl
        | 1, _ => rfl
        | 2, _ => rfl
        | 3, _ => rfl
        | 4, _ => rfl
        | 5, _ => rfl
        | 6, h => exact absurd rfl h
        | i + 7, _ => rfl
    have hfin : thruTab x moves states c n = states.foldl fS Z := rfl
    have sqF := sqS states Z sqZ
    refine ws_ret A5 (J.is (j_tupleL (JN.l (JLc.n (jc1 11 sc_table_through.nd (ji_lst (jv 6)) (f := fun r : List Int => rowD r) (fun r hr => j_tupleL (jv 11).l) ?_)))) ?_) fin.rt
    · rw [sqF.1]
      omega
    · rw [hfin]
      rfl
end TH
set_option maxHeartbeats 4000000
namespace TH
open PySem PySem.Spec PyProof.Rows L2
def endB (x : Tl) (ends : List Nat) (n s : Nat) : List Int := if s ∈ ends then x.en else List.replicate n 0
def thruT (x : Tl) (z : Str) (moves : List Mv) (ends states : List Nat) (n : Nat) : Tl :=
  ⟨z, x.st ++ List.replicate (n * (states.length - 1)) 0, z.cps.toList.map fun c => thruTab x moves states c n, states.flatMap (endB x ends n)⟩
theorem fold_sq {N : Nat} {α : Type} {f : List (List Int) → α → List (List Int)} (h : ∀ R a, TM.Sq N R → TM.Sq N (f R a)) : ∀ (l : List α) (R : List (List Int)), TM.Sq N R → TM.Sq N (l.foldl f R)
  | [], R, s => s
  | a :: l, R, s => fold_sq h l _ (h R a s)
theorem thruTab_sq (x : Tl) (moves : List Mv) (states : List Nat) (c n : Nat) : TM.Sq (n * states.length) (thruTab x moves states c n) :=
  fold_sq (fun R s h => fold_sq (fun R m h => TM.addTab_sq _ _ _ h) _ R h) _ _ ⟨zeros_len _ _, zeros_row _ _⟩
theorem endB_len {x : Tl} {n : Nat} (h : x.en.length = n) (ends : List Nat) (s : Nat) : (endB x ends n s).length = n := by
  unfold endB
  by_cases e : s ∈ ends
  · rw [if_pos e, h]
  · rw [if_neg e, List.length_replicate]
theorem flat_len {α β : Type} {f : α → List β} {n : Nat} (h : ∀ a, (f a).length = n) : ∀ l : List α, (l.flatMap f).length = n * l.length
  | [] => rfl
  | a :: l => by rw [List.flatMap_cons, List.length_append, h, flat_len h l, List.length_cons, Nat.mul_succ, Nat.add_comm]
theorem thruT_wt {x : Tl} {n : Nat} {z : Str} {moves : List Mv} {ends states : List Nat} (dz : Dg z) (nd : z.cps.toList.Nodup) (w : WT n x) (h1 : 1 ≤ states.length) (hlt : n * states.length < 1000) : WT (n * states.length) (thruT x z moves ends states n) :=
  ⟨dz, nd, by
    show (x.st ++ _).length = _
    rw [List.length_append, List.length_replicate, w.sl]
    obtain ⟨m, hm⟩ : ∃ m, states.length = m + 1 := ⟨states.length - 1, by omega⟩
    rw [hm, Nat.mul_succ, Nat.add_sub_cancel, Nat.add_comm], flat_len (endB_len w.el ends) _, List.length_map .., fun t ht => by
    obtain ⟨c, _, rfl⟩ := List.mem_map.mp ht
    exact thruTab_sq _ _ _ _ _, hlt⟩
theorem any_mem : ∀ (ends : List Nat) (s : Nat), (ends.any ((fun m => m == (s : Int)) ∘ fun (e : Nat) => (e : Int))) = decide (s ∈ ends)
  | [], s => rfl
  | e :: es, s => by
    rw [List.any_cons, any_mem es s]
    show (((e : Int) == (s : Int)) || _) = _
    by_cases h : e = s
    · subst h
      rw [beq_self_eq_true, Bool.true_or, decide_eq_true List.mem_cons_self]
    · rw [show ((e : Int) == (s : Int)) = false from beq_eq_false_iff_ne.mpr (fun q => h (Int.ofNat.inj q)), Bool.false_or]
      by_cases g : s ∈ es
      · rw [decide_eq_true g, decide_eq_true (List.mem_cons_of_mem _ g)]
      · rw [decide_eq_false g, decide_eq_false fun q => (List.mem_cons.mp q).elim (fun q => h q.symm) g]
structure TrOk (n : Nat) (x : Tl) (z : Str) (moves : List Mv) (m : Nat) : Prop where
  al : Al z
  met : MetOk moves z.cps.toList m
  hm : 1 ≤ (metF moves z.cps.toList m).length
  th : ∀ c ∈ z.cps.toList, ThOk n x moves (metF moves z.cps.toList m) c
  hz : x.z = z
  ml : moves.length ≤ 100
def f_through (W : Gx) (ds : List D) (d : D) : Prop := ∃ (x : Tl) (n : Nat) (z : Str) (moves : List Mv) (ends : List Nat) (m : Nat), TrOk n x z moves m ∧ ds = [tlD W x, rwD W z moves ends] ∧ d = tlD W (thruT x z moves ends (metF moves z.cps.toList m) n)
theorem ok_through {W : Gx} (T : Tx W) : OkF W 7 "through" 2 (f_through W) := by
  have m1 := T.m_len
  have m2 := T.m_list
  have m3 := T.m_tuple
  refine mk_through T fun ds d G0 H0 σ D' hf hn A fin => ?_
  obtain ⟨x, n, z, moves, ends, m, ok, rfl, rfl⟩ := hf
  obtain ⟨hz1, hz3⟩ := al_len ok.al
  obtain ⟨c0, hc0⟩ : ∃ c, c ∈ z.cps.toList := ⟨_, List.getElem_mem (show 0 < _ by omega)⟩
  have t0 := ok.th c0 hc0
  have met := ok.met
  have hmm := ok.hm
  have hth := ok.th
  generalize hst : metF moves z.cps.toList m = states at t0 hmm hth
  rw [hst] at fin
  have w := t0.w
  have hlt := w.lt
  have hsl := w.sl
  have hel := w.el
  have hL := t0.lt
  have hln := t0.ln
  have hnsl : (nsD states).length = states.length := List.length_map ..
  have hL1 : n * (states.length - 1) ≤ n * states.length := Nat.mul_le_mul_left n (by omega)
  refine ws_ifF A (JT.is (jt_cmp c_neS (j_fld (fs := rwF z moves ends) (jv 1) rfl T.c_Rewriter T.n_Rewriter_written) (j_fld (fs := tlF x) (jv 0) rfl T.c_Tally T.n_Tally_digits)) ?_) fun G1 H1 A1 => ?_
  · rw [decide_eq_true ok.hz.symm]
    rfl
  refine ws_set A1 sc_through.nd (sn 2) (j_call (ok_met_states T) (ja_cons (jv 1) ja_nil) ⟨z, moves, ends, m, met, ok.ml, by omega, rfl, by rw [hst]⟩) fun σ2 G2 H2 A2 => ?_
  refine ws_parO (i := 3) (j := 4) (d := .lst (x.st.map D.int ++ List.replicate (n * (states.length - 1)) (.int 0))) (ds := []) A2 sc_through.nd rfl rfl rfl rfl (by decide) (JN.lst (JN.is (jn_cat (jn_listT (j_fld (fs := tlF x) (jv 0) rfl T.c_Tally T.n_Tally_start)).l (jn_rep (n := n * (states.length - 1)) (jn_lst (ja_cons (j_int (i := 0)) ja_nil) (by show 1 ≤ 100000; decide)).l (J.is (j_mul (lenO T (jv 0) hsl hlt) (j_sub (j_lenL (jv 2).l) j_int) (.inl ⟨by omega, by omega⟩)) ?_) (by show 1 * _ ≤ 100000; omega) (by omega)).l ?_) ?_)) (jn_lst ja_nil) fun σ3 G3 H3 A3 => ?_
  · rw [hnsl]
    have e : ((states.length : Int) - 1) = ((states.length - 1 : Nat) : Int) := by omega
    rw [e, Int.natCast_mul]
  · rw [rep_flat, List.length_replicate, List.length_map]
    omega
  · rw [rep_flat]
  refine ws_for (items := nsD states) (t := .one 5) (fun i => [.d (tlD W x), .d (rwD W z moves ends), .d (.lst (nsD states)), .d (.lst (x.st.map D.int ++ List.replicate (n * (states.length - 1)) (.int 0))), .own (((states.take i).flatMap (endB x ends n)).map D.int), .no, .no, .no]) A3 sc_through.nd (ji_lst (jv 2)) (.one (sn 5)) (fun _ _ => trivial) (Le.refl _) (fun Gb i dd σ4 G4 H4 nx hd A4 hnx => ?_) fun σ4 G4 H4 A4 => ?_
  · unfold nsD at hd
    rw [List.getElem?_map] at hd
    obtain ⟨s, hs, rfl⟩ := Option.map_eq_some_iff.mp hd
    have hsz : (((states.take i).flatMap (endB x ends n)).map D.int).length ≤ n * states.length := by
      rw [List.length_map, flat_len (endB_len hel ends), List.length_take]
      exact Nat.mul_le_mul_left n (Nat.min_le_right _ _)
    refine ws_extend (i := 4) (ds := ((states.take i).flatMap (endB x ends n)).map D.int) (es := (endB x ends n s).map D.int) A4 rfl rfl (Or.inl rfl) (j_if (r := decide (s ∈ ends)) (JT.is (jt_cmp (c_inT (i := (s : Int)) (ns := ends.map fun (e : Nat) => (e : Int))) (jv 5) (J.is (j_fld (fs := rwF z moves ends) (jv 1) rfl T.c_Rewriter T.n_Rewriter_ends) ?_)) ?_) (fun h => J.is (jn_listT (j_fld (fs := tlF x) (jv 0) rfl T.c_Tally T.n_Tally_ends)).lst ?_) (fun h => J.is (jn_rep (n := n) (jn_lst (ja_cons (j_int (i := 0)) ja_nil) (by show 1 ≤ 100000; decide)).l (lenO T (jv 0) hsl hlt) (by show 1 * _ ≤ 100000; omega) (by omega)).lst ?_)) ?_ fun σ5 G5 H5 A5 => ?_
    · rw [List.map_map]
      rfl
    · rw [List.any_map]
      exact any_mem ends s
    · rw [endB, if_pos (of_decide_eq_true h)]
    · rw [endB, if_neg (of_decide_eq_false h), rep_flat, List.map_replicate]
    · have := endB_len hel ends s
      rw [List.length_map (as := endB x ends n s), this]
      omega
    · refine ws_nil (hnx σ5 G5 H5 (At.le A5 ?_))
      rw [take_succ_get hs, List.flatMap_append, List.map_append, List.flatMap_cons, List.flatMap_nil, List.append_nil]
      exact .cons (.cons (.cons (.cons (.cons (.no (.cons (.cons .nil)))))))
  · rw [hnsl, List.take_length] at A4
    refine ws_setLcO (i := 6) A4 sc_through.nd rfl rfl rfl (jc1 7 sc_through.nd (ji_str (j_fld (fs := rwF z moves ends) (jv 1) rfl T.c_Rewriter T.n_Rewriter_digits)) (f := fun c => tabD (thruTab x moves states c n)) (fun c hc => j_call (ok_table_through T) (ja_cons (jv 0) (ja_cons (jv 1) (ja_cons (jv 2) (ja_cons (jv 7) ja_nil)))) ⟨x, n, z, moves, ends, states, c, hth c hc, rfl, rfl⟩)) fun σ5 G5 H5 A5 => ?_
    have wt := thruT_wt (moves := moves) (ends := ends) (dg_of ok.al) (by rw [← ok.hz]; exact w.nd) w hmm hL
    refine ws_ret A5 (J.is (JO1.j (jo_make (oki_Tally T) (ds := [.str z, rowD (thruT x z moves ends states n).st, tabsD (thruT x z moves ends states n).ts, rowD (thruT x z moves ends states n).en]) (ja_cons (j_fld (fs := rwF z moves ends) (jv 1) rfl T.c_Rewriter T.n_Rewriter_digits) (ja_cons (J.is (j_tupleL (jv 3).l) ?_) (ja_cons (J.is (j_tupleL (jvo 6)) ?_) (ja_cons (j_tupleL (jvo 4)) ja_nil)))) ⟨_, _, wt, rfl, rfl⟩)) rfl) fin.rt
    · show _ = D.tup (List.map D.int (x.st ++ _))
      rw [List.map_append, List.map_replicate]
    · show _ = D.tup (List.map tabD (List.map _ _))
      rw [List.map_map]
      rfl
end TH
set_option maxHeartbeats 4000000
namespace TH
open PySem PySem.Spec PyProof.Rows L2
def mSt (cs : List Nat) : Nat := if cs.length = 1 then 1 else 2
def stS (moves : List Mv) (cs : List Nat) : List Nat := metF moves cs (mSt cs)
structure RewOk (moves : List Mv) (z : Str) : Prop where
  met : MetOk moves z.cps.toList (mSt z.cps.toList)
  nd : (stS moves z.cps.toList).Nodup
  l1 : 1 ≤ (stS moves z.cps.toList).length
  l2 : (stS moves z.cps.toList).length ≤ 2
  mv : ∀ c ∈ z.cps.toList, ∀ s ∈ stS moves z.cps.toList, ∀ m ∈ mvFrom moves s c, m.t ∈ stS moves z.cps.toList ∧ m.b ∈ z.cps.toList
  ml : moves.length ≤ 100
theorem rew_up {z : Str} (h : Al z) : RewOk (upS z.cps.toList) z := by
  rcases h with rfl | rfl | rfl | rfl <;> exact ⟨⟨by decide +kernel, by decide +kernel, by decide +kernel⟩, by decide +kernel, by decide +kernel, by decide +kernel, by decide +kernel, by decide +kernel⟩
theorem rew_ahead {z : Str} (h : Al z) : RewOk (aheadS z.cps.toList) z := by
  rcases h with rfl | rfl | rfl | rfl <;> exact ⟨⟨by decide +kernel, by decide +kernel, by decide +kernel⟩, by decide +kernel, by decide +kernel, by decide +kernel, by decide +kernel, by decide +kernel⟩
theorem RewOk.tr {moves : List Mv} {x : Tl} {n : Nat} (r : RewOk moves x.z) (al : Al x.z) (w : WT n x) (hn : n * 2 < 1000) : TrOk n x x.z moves (mSt x.z.cps.toList) :=
  ⟨al, r.met, r.l1, fun c hc => ⟨al, w, r.nd, Nat.lt_of_le_of_lt (Nat.mul_le_mul_left n r.l2) hn, Nat.le_trans r.l2 (by decide), r.mv c hc, Nat.lt_of_le_of_lt r.ml (by decide)⟩, rfl, r.ml⟩
def sumT (x : Tl) (n : Nat) : Tl := thruT x x.z (upS x.z.cps.toList) [0, 1] (stS (upS x.z.cps.toList) x.z.cps.toList) n
def prvT (x : Tl) (n : Nat) : Tl := thruT x x.z (aheadS x.z.cps.toList) [1] (stS (aheadS x.z.cps.toList) x.z.cps.toList) n
def stepT (x : Tl) (n : Nat) : Tl := addT x (timT (-1) (prvT x n))
def f_sums (W : Gx) (ds : List D) (d : D) : Prop := ∃ (x : Tl) (n : Nat), Al x.z ∧ WT n x ∧ n * 2 < 1000 ∧ ds = [tlD W x] ∧ d = tlD W (sumT x n)
theorem ok_sums {W : Gx} (T : Tx W) : OkF W 8 "sums" 1 (f_sums W) := by
  refine mk_sums T fun ds d G0 H0 σ D' hf hn A fin => ?_
  obtain ⟨x, n, al, w, hlt, rfl, rfl⟩ := hf
  exact ws_ret A (j_call (ok_through T) (ja_cons (jv 0) (ja_cons (j_call (ok_up_to T) (ja_cons (j_fld (fs := tlF x) (jv 0) rfl T.c_Tally T.n_Tally_digits) ja_nil) ⟨x.z, al, rfl, rfl⟩) ja_nil)) ⟨x, n, x.z, _, _, _, (rew_up al).tr al w hlt, rfl, rfl⟩) fin.rt
theorem thru_bd {x : Tl} {n b : Nat} {z : Str} {moves : List Mv} {ends states : List Nat} (h : TM.Bd b x.en) : TM.Bd (b + 1) (thruT x z moves ends states n).en := fun v hv => by
  obtain ⟨s, _, hs⟩ := List.mem_flatMap.mp hv
  unfold endB at hs
  by_cases e : s ∈ ends
  · rw [if_pos e] at hs
    exact Nat.lt_trans (h v hs) (Nat.pow_lt_pow_right (by decide) (Nat.lt_succ_self b))
  · rw [if_neg e] at hs
    rw [List.eq_of_mem_replicate hs]
    exact Nat.two_pow_pos _
def f_steps (W : Gx) (ds : List D) (d : D) : Prop := ∃ (x : Tl) (n b : Nat), Al x.z ∧ WT n x ∧ n * 3 < 1000 ∧ TM.Bd b x.en ∧ b ≤ 900000 ∧ ds = [tlD W x] ∧ d = tlD W (stepT x n)
theorem ok_steps {W : Gx} (T : Tx W) : OkF W 9 "steps" 1 (f_steps W) := by
  refine mk_steps T fun ds d G0 H0 σ D' hf hn A fin => ?_
  obtain ⟨x, n, b, al, w, hlt, hb, hb2, rfl, rfl⟩ := hf
  have r := rew_ahead al
  have r1 := r.l1
  have r2 := r.l2
  have hle : n * (stS (aheadS x.z.cps.toList) x.z.cps.toList).length ≤ n * 2 := Nat.mul_le_mul_left n r2
  exact ws_ret A (j_call (ok_lessened T) (ja_cons (jv 0) (ja_cons (j_call (ok_through T) (ja_cons (jv 0) (ja_cons (j_call (ok_one_ahead T) (ja_cons (j_fld (fs := tlF x) (jv 0) rfl T.c_Tally T.n_Tally_digits) ja_nil) ⟨x.z, al, rfl, rfl⟩) ja_nil)) ⟨x, n, x.z, _, _, _, r.tr al w (by omega), rfl, rfl⟩) ja_nil)) ⟨x, prvT x n, n, _, b + 1, w, thruT_wt w.dg w.nd w r1 (by omega), rfl, by omega, thru_bd hb, by omega, rfl, rfl⟩) fin.rt
end TH
set_option maxHeartbeats 4000000
namespace TM
def radd (r s : Row) : Row := (r.zip s).map fun p => p.1 + p.2
def tadd (t u : Tab) : Tab := (t.zip u).map fun p => radd p.1 p.2
def whole (n : Nat) (ts : List Tab) : Tab := ts.foldl tadd (List.replicate n (List.replicate n 0))
def colIt (t : Tab) (e : Row) : Nat → Row
  | 0 => e
  | k + 1 => tcol t (colIt t e k)
theorem radd_bd {a b : Nat} {r s : Row} (h1 : Bd a r) (h2 : Bd a s) (h : a < b) : Bd b (radd r s) := fun v hv => by
  obtain ⟨p, hp, rfl⟩ := List.mem_map.mp hv
  obtain ⟨q1, q2⟩ := List.of_mem_zip (show (p.1, p.2) ∈ r.zip s from hp)
  have e1 := h1 _ q1
  have e2 := h2 _ q2
  have e3 : 2 ^ (a + 1) ≤ 2 ^ b := Nat.pow_le_pow_right (by decide) h
  rw [Nat.pow_succ] at e3
  omega
theorem Bd.le {a b : Nat} {r : Row} (h : Bd a r) (l : a ≤ b) : Bd b r := fun v hv => Nat.lt_of_lt_of_le (h v hv) (Nat.pow_le_pow_right (by decide) l)
theorem tadd_sq {n : Nat} {t u : Tab} (h1 : Sq n t) (h2 : Sq n u) : Sq n (tadd t u) := ⟨by rw [tadd, List.length_map, List.length_zip, h1.1, h2.1, Nat.min_self], fun r hr => by
  obtain ⟨p, hp, rfl⟩ := List.mem_map.mp hr
  obtain ⟨q1, q2⟩ := List.of_mem_zip (show (p.1, p.2) ∈ t.zip u from hp)
  rw [radd, List.length_map, List.length_zip, h1.2 _ q1, h2.2 _ q2, Nat.min_self]⟩
theorem tadd_bd {a b : Nat} {t u : Tab} (h1 : BdT a t) (h2 : BdT a u) (h : a < b) : BdT b (tadd t u) := fun r hr => by
  obtain ⟨p, hp, rfl⟩ := List.mem_map.mp hr
  obtain ⟨q1, q2⟩ := List.of_mem_zip (show (p.1, p.2) ∈ t.zip u from hp)
  exact radd_bd (h1 _ q1) (h2 _ q2) h
theorem fold_ok {n b : Nat} : ∀ (ts : List Tab) (c : Nat) (R : Tab), b ≤ c → Sq n R → BdT c R → (∀ t ∈ ts, Sq n t) → (∀ t ∈ ts, BdT b t) → Sq n (ts.foldl tadd R) ∧ BdT (c + ts.length) (ts.foldl tadd R)
  | [], c, R, _, h1, h2, _, _ => ⟨h1, h2⟩
  | t :: ts, c, R, hl, h1, h2, h3, h4 => by
    have := fold_ok ts (c + 1) (tadd R t) (Nat.le_succ_of_le hl) (tadd_sq h1 (h3 t List.mem_cons_self)) (tadd_bd h2 (fun r hr => (h4 t List.mem_cons_self r hr).le hl) (Nat.lt_succ_self c)) (fun u hu => h3 u (List.mem_cons_of_mem _ hu)) (fun u hu => h4 u (List.mem_cons_of_mem _ hu))
    rw [show c + (t :: ts).length = c + 1 + ts.length by rw [List.length_cons]; omega]
    exact this
theorem zero_ok (n b : Nat) : Sq n (List.replicate n (List.replicate n 0)) ∧ BdT b (List.replicate n (List.replicate n 0)) := ⟨⟨List.length_replicate .., fun r hr => by rw [List.eq_of_mem_replicate hr, List.length_replicate]⟩, fun r hr v hv => by
  rw [List.eq_of_mem_replicate hr] at hv
  rw [List.eq_of_mem_replicate hv]
  exact Nat.two_pow_pos _⟩
theorem whole_ok {n b : Nat} {ts : List Tab} (h1 : ∀ t ∈ ts, Sq n t) (h2 : ∀ t ∈ ts, BdT b t) : Sq n (whole n ts) ∧ BdT (b + ts.length) (whole n ts) :=
  fold_ok ts b _ (Nat.le_refl _) (zero_ok n b).1 (zero_ok n b).2 h1 h2
theorem colIt_ok {n a b : Nat} {t : Tab} {e : Row} (sq : Sq n t) (tb : BdT a t) (el : e.length = n) (eb : Bd b e) (hn : n < 1000) : ∀ k, (colIt t e k).length = n ∧ Bd (b + k * (a + 10)) (colIt t e k)
  | 0 => ⟨el, by rw [Nat.zero_mul]; exact eb⟩
  | k + 1 => by
    obtain ⟨h1, h2⟩ := colIt_ok sq tb el eb hn k
    refine ⟨by show (tcol t _).length = n; rw [tcol_length, sq.1], ?_⟩
    have := tcol_bd (c := 10) tb h2 (fun r hr => by rw [sq.2 r hr]; omega)
    exact this.le (by rw [Nat.succ_mul]; omega)
end TM
namespace TH
open PySem PySem.Spec PyProof.Rows L2
def lrowD (r : List Int) : D := .lst (r.map D.int)
def ltabD (t : List (List Int)) : D := .lst (t.map lrowD)
def f_whole_table (W : Gx) (ds : List D) (d : D) : Prop := ∃ (x : Tl) (n : Nat), WT n x ∧ ds = [tlD W x] ∧ d = ltabD (TM.whole n x.ts)
theorem fold_sq' {x : Tl} (n i : Nat) (w : WT n x) : TM.Sq n ((x.ts.take i).foldl TM.tadd (List.replicate n (List.replicate n 0))) := by
  have h : ∀ (ts : List (List (List Int))) R, TM.Sq n R → (∀ t ∈ ts, TM.Sq n t) → TM.Sq n (ts.foldl TM.tadd R) := by
    intro ts
    induction ts with
    | nil => exact fun R h _ => h
    | cons t ts ih => exact fun R h g => ih _ (TM.tadd_sq h (g t List.mem_cons_self)) fun u hu => g u (List.mem_cons_of_mem _ hu)
  exact h _ _ (TM.zero_ok n 0).1 fun t ht => w.sq t (List.mem_of_mem_take ht)
theorem take_foldl_succ {α β : Type} {f : β → α → β} {b : β} {l : List α} {i : Nat} {a : α} (h : l[i]? = some a) : (l.take (i + 1)).foldl f b = f ((l.take i).foldl f b) a := foldl_take_succ h
theorem ok_whole_table {W : Gx} (T : Tx W) : OkF W 3 "whole_table" 1 (f_whole_table W) := by
  have m1 := T.m_len
  have m2 := T.m_range
  have m3 := T.m_zip
  refine mk_whole_table T fun ds d G0 H0 σ D' hf hn A fin => ?_
  obtain ⟨x, n, w, rfl, rfl⟩ := hf
  have hlt := w.lt
  have hsl := w.sl
  refine ws_setLc (i := 1) A sc_whole_table.nd rfl rfl rfl (jc1 3 sc_whole_table.nd (ji_range1 (lenO T (jv 0) hsl hlt) (by omega)) (f := fun (i : Nat) => lrowD (List.replicate n 0)) (fun i hi => J.is (jn_rep (n := n) (jn_lst (ja_cons (j_int (i := 0)) ja_nil) (by show 1 ≤ 100000; decide)).l (lenO T (jv 0) hsl hlt) (by show 1 * _ ≤ 100000; omega) (by omega)).lst ?_) (by rw [List.length_range]; omega)) fun σ1 G1 H1 A1 => ?_
  · rw [rep_flat, lrowD, List.map_replicate]
  have e0 : (List.range n).map (fun (i : Nat) => lrowD (List.replicate n 0)) = (List.replicate n (List.replicate n (0 : Int))).map lrowD := by
    rw [List.map_replicate]
    exact List.ext_getElem (by rw [List.length_map, List.length_range, List.length_replicate]) fun i h1 h2 => by rw [List.getElem_map, List.getElem_replicate]
  rw [e0] at A1
  have sqT : ∀ i, TM.Sq n ((x.ts.take i).foldl TM.tadd (List.replicate n (List.replicate n 0))) := fun i => fold_sq' n i w
  refine ws_for (items := x.ts.map tabD) (t := .one 2) (fun i => [.d (tlD W x), .d (ltabD ((x.ts.take i).foldl TM.tadd (List.replicate n (List.replicate n 0)))), .no, .no, .no, .no, .no, .no]) A1 sc_whole_table.nd (ji_tup (j_fld (fs := tlF x) (jv 0) rfl T.c_Tally T.n_Tally_tables)) (.one (sn 2)) (fun _ _ => trivial) (Le.refl _) (fun Gb i dd σ2 G2 H2 nx hd A2 hnx => ?_) fun σ2 G2 H2 A2 => ?_
  · rw [List.getElem?_map] at hd
    obtain ⟨t, ht, rfl⟩ := Option.map_eq_some_iff.mp hd
    have sq := w.sq t (List.mem_of_getElem? ht)
    have sqi := sqT i
    have hs := take_foldl_succ (f := TM.tadd) (b := List.replicate n (List.replicate n 0)) ht
    rw [hs] at hnx
    generalize (x.ts.take i).foldl TM.tadd (List.replicate n (List.replicate n 0)) = R at A2 sqi hnx
    refine ws_setLc (i := 1) A2 sc_whole_table.nd rfl rfl rfl (jc2 4 5 sc_whole_table.nd (xs := R.zip t) (g1 := fun p => lrowD p.1) (g2 := fun p => rowD p.2) (f := fun p => lrowD (TM.radd p.1 p.2)) ?_ (fun p hp => ?_) ?_) fun σ3 G3 H3 A3 => ?_
    · rw [← zipD_map2]
      exact ji_zip (jsr_l (jv 1)) (jsr_t (jv 2))
    · obtain ⟨q1, q2⟩ := List.of_mem_zip (show (p.1, p.2) ∈ R.zip t from hp)
      have l1 := sqi.2 _ q1
      refine J.is (JLc.n (jc2 6 7 sc_whole_table.nd (xs := p.1.zip p.2) (g1 := fun q => D.int q.1) (g2 := fun q => D.int q.2) (f := fun q => D.int (q.1 + q.2)) ?_ (fun q hq => j_add (jv 6) (jv 7)) ?_)).lst ?_
      · rw [← zipD_map2]
        exact ji_zip (jsr_l (jv 4)) (jsr_t (jv 5))
      · rw [List.length_zip]
        omega
      · rw [lrowD, TM.radd, List.map_map]
        rfl
    · have := sqi.1
      rw [List.length_zip]
      omega
    · refine ws_nil (hnx σ3 G3 H3 (At.le A3 ?_))
      have e : ltabD (TM.tadd R t) = D.lst (List.map (fun p => lrowD (TM.radd p.1 p.2)) (List.zip R t)) := by
        rw [ltabD, TM.tadd, List.map_map]
        rfl
      rw [e]
      exact .cons (.cons (.no (.cons (.cons (.cons (.cons (.cons .nil)))))))
  · rw [List.length_map, List.take_length] at A2
    exact ws_ret A2 (jv 1) fin.rt
end TH
set_option maxHeartbeats 4000000
namespace TH
open PySem PySem.Spec PyProof.Rows L2
section
variable {W : Gx} {S : Sc} {k : Nat} {G0 H0 G H : Hp} {env : List Sl} {σ : L2.St} {D' : Ends} {rest : List Stmt} {e a b c tg : Expr} {pos pos' p p1 p2 p3 p4 : Pos} {x y z : Str} {i j l : Nat} {d d' d2 : D}
/-- a, b = e1, [..] where a name is captured: a tuple is made -/
theorem ws_tup2O {n n2 : Nat} {ds : List D} (A : At W G0 H0 env σ G H) (nd : S.N.Nodup) (hs1 : StN S i x) (hs2 : StN S j y) (hij : i ≠ j) (ha : J W S k a env d) (hb : JN W S k b env ds)
    (next : ∀ σ' G' H', At W G0 H0 ((env.set i (.d d)).set j (.own ds)) σ' G' H' → wSs W S k rest D' σ' H') (hpa : Plain a := by intro _ _; rfl) (hpb : Plain b := by intro _ _; rfl)
    (hw : ∀ env : Env, env.scope = S.sc → swappedStores [.Tuple [.Name x p1, .Name y p2] n p] (.Tuple [a, b] n2 p3) env = pure none := by intro env h; cases env; cases h; rfl)
    (hs : ∀ env : Env, swapsWithSole [.Tuple [.Name x p1, .Name y p2] n p] (.Tuple [a, b] n2 p3) pos.line env = pure false := by intro _; rfl) :
    wSs W S k (.Assign [.Tuple [.Name x p1, .Name y p2] n p] (.Tuple [a, b] n2 p3) pos :: rest) D' σ H :=
  wSs_cons (wS_of (fun X hX => ps_asg (pe_tup (pa_cons (pe_w hX a) (pa_cons (pe_w hX b) pa_nil (hpb [] X.env)) (hpa [b] X.env))) (pg_tg hX nd (.two hs1 hs2 hij)) (hs X.env) (hw X.env hX.sc))
    (ha σ G H A.s.s A.e _ fun u G1 H1 s1 r1 => hb σ G1 H1 s1.s (A.e.mono s1) _ fun q vs G2 H2 s2 hn hg hh r2 => ⟨sz (by show 2 ≤ 100000; decide), fun p hp =>
      ⟨p, [u, .ref q], rfl, .of upd_same, rfl, u, [.ref q], rfl, .ref q, [], rfl, rfl, next _ G2 _ ((((A.mono s1).set r1).setO s2 hn hg hh r2).mono (Stp.newO s2.s hp))⟩⟩))
end
/-- the columns of the first lengths -/
def colsT (x : Tl) (n k : Nat) : List (List Int) := (List.range k).map (TM.colIt (TM.whole n x.ts) x.en)
theorem colsT_succ (x : Tl) (n k : Nat) : colsT x n (k + 1) = colsT x n k ++ [TM.colIt (TM.whole n x.ts) x.en k] := by
  rw [colsT, List.range_succ, List.map_append]
  rfl
theorem atI_last (ds : List D) (d : D) : atI (ds ++ [d]) (-1) = some d := by
  have hl : (ds ++ [d]).length = ds.length + 1 := by rw [List.length_append]; rfl
  have h : ixN (ds ++ [d]).length (-1) = some ds.length := by
    unfold ixN
    rw [hl, if_neg (by decide), if_pos (by omega)]
    congr 1
    omega
  unfold atI
  rw [h]
  show (ds ++ [d])[ds.length]? = _
  rw [List.getElem?_append_right (Nat.le_refl _), Nat.sub_self]
  rfl
def f_columns_to (W : Gx) (ds : List D) (d : D) : Prop := ∃ (x : Tl) (n b k : Nat), WT n x ∧ WB b x ∧ b ≤ 400 ∧ k ≤ 1000 ∧ ds = [tlD W x, .int (k : Int)] ∧ d = ltabD (colsT x n (k + 1))
theorem ok_columns_to {W : Gx} (T : Tx W) : OkF W 4 "columns_to" 2 (f_columns_to W) := by
  have m1 := T.m_list
  have m2 := T.m_range
  refine mk_columns_to T fun ds d G0 H0 σ D' hf hn A fin => ?_
  obtain ⟨x, n, b, k, w, wb, hb, hk, rfl, rfl⟩ := hf
  have hlt := w.lt
  have l3 := w.dg.ten
  have tl := w.tl
  obtain ⟨sq, tb⟩ := TM.whole_ok (n := n) (b := b) w.sq wb.t
  have ci := TM.colIt_ok sq tb w.el wb.e hlt
  refine ws_tup2O (i := 2) (j := 3) (d := ltabD (TM.whole n x.ts)) (ds := (colsT x n 1).map lrowD) A sc_columns_to.nd (sn 2) (sn 3) (by decide) (j_call (ok_whole_table T) (ja_cons (jv 0) ja_nil) ⟨x, n, w, rfl, rfl⟩) (jn_lst (ja_cons (jn_listT (j_fld (fs := tlF x) (jv 0) rfl T.c_Tally T.n_Tally_ends)).lst ja_nil) (by show 1 ≤ 100000; decide)) fun σ1 G1 H1 A1 => ?_
  refine ws_for (items := (List.range k).map fun (i : Nat) => D.int (i : Int)) (t := .one 4) (fun i => [.d (tlD W x), .d (.int (k : Int)), .d (ltabD (TM.whole n x.ts)), .own ((colsT x n (i + 1)).map lrowD), .no, .no]) A1 sc_columns_to.nd (ji_range1 (jv 1) (by omega)) (.one (sn 4)) (fun _ _ => trivial) (Le.refl _) (fun Gb i dd σ2 G2 H2 nx hd A2 hnx => ?_) fun σ2 G2 H2 A2 => ?_
  · have hi : i < k := by
      have := (List.getElem?_eq_some_iff.mp hd).1
      rw [List.length_map, List.length_range] at this
      exact this
    obtain ⟨c1, c2⟩ := ci i
    have hle : i * (b + x.ts.length + 10) ≤ 1000 * 420 := Nat.mul_le_mul (by omega) (by omega)
    refine ws_append (i := 3) (ds := (colsT x n (i + 1)).map lrowD) (d := lrowD (TM.colIt (TM.whole n x.ts) x.en (i + 1))) A2 rfl rfl (Or.inr (Or.inl rfl)) (J.is (JLc.n (jc1 5 sc_columns_to.nd (ji_lst (jv 2)) (f := fun (r : List Int) => D.int (TM.prod r (TM.colIt (TM.whole n x.ts) x.en i))) (fun r hr => j_call (ok_product_of T) (ja_cons (jv 5) (ja_cons (j_ixL (jvo 3) (j_neg j_int) (d := lrowD (TM.colIt (TM.whole n x.ts) x.en i)) ?_) ja_nil)) ⟨_, _, r, TM.colIt (TM.whole n x.ts) x.en i, _, _, rfl, .inr rfl, .inr rfl, by rw [sq.2 r hr, c1], by rw [sq.2 r hr]; omega, tb r hr, c2, by omega, rfl⟩) ?_)).lst ?_) ?_ fun σ3 G3 H3 A3 => ?_
    · rw [colsT_succ, List.map_append]
      exact atI_last _ _
    · have := sq.1
      omega
    · rw [lrowD, TM.colIt, TM.tcol, List.map_map]
      rfl
    · rw [List.length_map, colsT, List.length_map, List.length_range]
      omega
    · refine ws_nil (hnx σ3 G3 H3 (At.le A3 ?_))
      rw [colsT_succ x n (i + 1), List.map_append]
      exact .cons (.cons (.cons (.cons (.no (.cons .nil)))))
  · rw [List.length_map, List.length_range] at A2
    exact ws_retO A2 (i := 3) rfl rfl (Or.inr (Or.inl rfl)) fin.rt
end TH
set_option maxHeartbeats 4000000
namespace TH
open PySem PySem.Spec PyProof.Rows L2
def Tl.col (x : Tl) (n k : Nat) : List Int := TM.colIt (TM.whole n x.ts) x.en k
theorem col_ok {x : Tl} {n b : Nat} (w : WT n x) (wb : WB b x) (hb : b ≤ 200) {k : Nat} (hk : k ≤ 1000) : (x.col n k).length = n ∧ TM.Bd 300000 (x.col n k) := by
  obtain ⟨sq, tb⟩ := TM.whole_ok (n := n) (b := b) w.sq wb.t
  obtain ⟨c1, c2⟩ := TM.colIt_ok sq tb w.el wb.e w.lt k
  have l3 := w.dg.ten
  have tl := w.tl
  have hle : k * (b + x.ts.length + 10) ≤ 1000 * 220 := Nat.mul_le_mul hk (by omega)
  exact ⟨c1, c2.le (by omega)⟩
def rsum (x : Tl) (n k : Nat) : Int := TM.prod x.st (x.col n k)
def bsum (x : Tl) (n : Nat) (w : List Nat) (l : Nat) : Int := if l < w.length then 0 else TM.prod (x.rowW w) (x.col n (l - w.length))
def f_roll_sum (W : Gx) (ds : List D) (d : D) : Prop := ∃ (x : Tl) (n b k : Nat), WT n x ∧ WB b x ∧ b ≤ 200 ∧ k ≤ 1000 ∧ ds = [tlD W x, .int (k : Int)] ∧ d = .int (rsum x n k)
theorem cols_last (x : Tl) (n k : Nat) : atI ((colsT x n (k + 1)).map lrowD) (-1) = some (lrowD (x.col n k)) := by
  rw [colsT_succ, List.map_append]
  exact atI_last _ _
theorem ok_roll_sum {W : Gx} (T : Tx W) : OkF W 5 "roll_sum" 2 (f_roll_sum W) := by
  refine mk_roll_sum T fun ds d G0 H0 σ D' hf hn A fin => ?_
  obtain ⟨x, n, b, k, w, wb, hb, hk, rfl, rfl⟩ := hf
  obtain ⟨c1, c2⟩ := col_ok w wb hb hk
  have hsl := w.sl
  have hlt := w.lt
  exact ws_ret A (j_call (ok_product_of T) (ja_cons (j_fld (fs := tlF x) (jv 0) rfl T.c_Tally T.n_Tally_start) (ja_cons (j_ixL (d := lrowD (x.col n k)) (J.l (j_call (ok_columns_to T) (ja_cons (jv 0) (ja_cons (jv 1) ja_nil)) ⟨x, n, b, k, w, wb, by omega, hk, rfl, rfl⟩)) (j_neg j_int) (cols_last x n k)) ja_nil)) ⟨_, _, x.st, x.col n k, b, 300000, rfl, .inl rfl, .inr rfl, by rw [hsl, c1], by omega, wb.s, c2, by omega, rfl⟩) fin.rt
def f_roll_sums (W : Gx) (ds : List D) (d : D) : Prop := ∃ (x : Tl) (n b k : Nat), WT n x ∧ WB b x ∧ b ≤ 200 ∧ k ≤ 1000 ∧ ds = [tlD W x, .int (k : Int)] ∧ d = rowD ((List.range k).map (rsum x n))
theorem ok_roll_sums {W : Gx} (T : Tx W) : OkF W 5 "roll_sums" 2 (f_roll_sums W) := by
  have m1 := T.m_tuple
  refine mk_roll_sums T fun ds d G0 H0 σ D' hf hn A fin => ?_
  obtain ⟨x, n, b, k, w, wb, hb, hk, rfl, rfl⟩ := hf
  have hsl := w.sl
  have hlt := w.lt
  refine ws_if A (jt_cmp c_eqI (jv 1) j_int) (fun h G1 H1 A1 => ?_) fun h G1 H1 A1 => ?_
  · have hk0 : k = 0 := by
      have := of_decide_eq_true h
      omega
    subst hk0
    exact ws_ret A1 (j_tup ja_nil (by show 0 ≤ 100000; decide)) fin.rt
  · have hk0 : k ≠ 0 := fun e => of_decide_eq_false h (by rw [e]; rfl)
    refine ws_nil ?_
    refine ws_ret A1 (J.is (j_tupleL (JN.l (JLc.n (jc1 2 sc_roll_sums.nd (ji_lst (j_call (ok_columns_to T) (ja_cons (jv 0) (ja_cons (J.is (j_sub (jv 1) j_int) (show D.int ((k : Int) - 1) = .int ((k - 1 : Nat) : Int) by congr 1; omega)) ja_nil)) ⟨x, n, b, k - 1, w, wb, by omega, by omega, rfl, rfl⟩)) (f := fun (r : List Int) => D.int (TM.prod x.st r)) (fun r hr => ?_) ?_)))) ?_) fin.rt
    · unfold colsT at hr
      obtain ⟨i, hi, rfl⟩ := List.mem_map.mp hr
      have hi2 := List.mem_range.mp hi
      obtain ⟨c1, c2⟩ := col_ok w wb hb (show i ≤ 1000 by omega)
      exact j_call (ok_product_of T) (ja_cons (j_fld (fs := tlF x) (jv 0) rfl T.c_Tally T.n_Tally_start) (ja_cons (jv 2) ja_nil)) ⟨_, _, x.st, x.col n i, b, 300000, rfl, .inl rfl, .inr rfl, by rw [hsl, c1], by omega, wb.s, c2, by omega, rfl⟩
    · unfold colsT
      rw [List.length_map, List.length_range]
      omega
    · unfold colsT
      rw [show k - 1 + 1 = k by omega, rowD, List.map_map, List.map_map]
      rfl
def f_block_sum (W : Gx) (ds : List D) (d : D) : Prop := ∃ (x : Tl) (n b l : Nat) (z : Str), WT n x ∧ WB b x ∧ b ≤ 200 ∧ l ≤ 1000 ∧ Tk x.z z ∧ ds = [tlD W x, .str z, .int (l : Int)] ∧ d = .int (bsum x n z.cps.toList l)
theorem ok_block_sum {W : Gx} (T : Tx W) : OkF W 5 "block_sum" 3 (f_block_sum W) := by
  have m1 := T.m_len
  refine mk_block_sum T fun ds d G0 H0 σ D' hf hn A fin => ?_
  obtain ⟨x, n, b, l, z, w, wb, hb, hl, tk, rfl, rfl⟩ := hf
  have hlt := w.lt
  have htk := tk.2
  obtain ⟨r1, r2⟩ := rowW_ok w wb tk.1
  have hbl := bits_le hb tk.2
  have hb3 : z.cps.toList.length * (b + 10) ≤ 1000 * 210 := Nat.mul_le_mul (by omega) (by omega)
  have zl : z.length = z.cps.toList.length := rfl
  refine ws_set A sc_block_sum.nd (sn 3) (j_meth (ok_Tally_row T) (fs := tlF x) (jv 0) (ja_cons (jv 1) ja_nil) ⟨x, n, b, z, w, wb, hb, tk, rfl, rfl⟩) fun σ1 G1 H1 A1 => ?_
  refine ws_if A1 (jt_cmp c_gtI (j_lenS (jv 1) (by omega)) (jv 2)) (fun h G2 H2 A2 => ?_) fun h G2 H2 A2 => ?_
  · have hh := of_decide_eq_true h
    refine ws_ret A2 (J.is j_int ?_) fin.rt
    rw [bsum, if_pos (by omega)]
  · have hh := of_decide_eq_false h
    have hle : z.cps.toList.length ≤ l := by omega
    obtain ⟨c1, c2⟩ := col_ok w wb hb (show l - z.cps.toList.length ≤ 1000 by omega)
    refine ws_nil ?_
    refine ws_ret A2 (J.is (j_call (ok_product_of T) (ja_cons (jv 3) (ja_cons (j_ixL (d := lrowD (x.col n (l - z.cps.toList.length))) (J.l (j_call (ok_columns_to T) (ja_cons (jv 0) (ja_cons (J.is (j_sub (jv 2) (j_lenS (jv 1) (by omega))) (show D.int ((l : Int) - (z.length : Int)) = .int ((l - z.cps.toList.length : Nat) : Int) by congr 1; omega)) ja_nil)) ⟨x, n, b, l - z.cps.toList.length, w, wb, by omega, by omega, rfl, rfl⟩)) (j_neg j_int) (cols_last x n _)) ja_nil)) ⟨_, _, x.rowW z.cps.toList, x.col n (l - z.cps.toList.length), _, 300000, rfl, .inl rfl, .inr rfl, by rw [r1, c1], by omega, r2, c2, by omega, rfl⟩) ?_) fin.rt
    rw [bsum, if_neg (by omega)]
end TH
set_option maxHeartbeats 4000000
namespace TH
open PySem PySem.Spec PyProof.Rows L2
/-- the addend of one digit below -/
def sumD (x : Tl) (n : Nat) (r : List Int) (k : Nat) (c : Nat) (acc : Int) (p : Nat × List (List Int)) : Int := if p.1 < c then acc + TM.prod (TM.led r p.2) (x.col n k) else acc
def sumP (x : Tl) (n : Nat) (r : List Int) (k c : Nat) (acc : Int) : Int := (x.z.cps.toList.zip x.ts).foldl (sumD x n r k c) acc
def sumS (x : Tl) (n l : Nat) (a : List Int × Int) (p : Nat × Nat) : List Int × Int := (TM.led a.1 (x.tab p.2), sumP x n a.1 (l - p.1 - 1) p.2 a.2)
def sumW (x : Tl) (n : Nat) (w : List Nat) (i : Nat) : List Int × Int := (((List.range w.length).zip w).take i).foldl (sumS x n w.length) (x.st, 0)
def sumTo (x : Tl) (n : Nat) (w : List Nat) : Int := (sumW x n w w.length).2 + TM.prod (sumW x n w w.length).1 x.en
theorem ok_check_range {W : Gx} (T : Tx W) : OkF W 2 "check_range" 3 (fun ds d => ∃ z lo hi : Str, Tk z lo ∧ Tk z hi ∧ lo.cps.toList.length = hi.cps.toList.length ∧ ds = [.str z, .str lo, .str hi] ∧ d = .non) := by
  have m1 := T.m_len
  refine mk_check_range T fun ds d G0 H0 σ D' hf hn A fin => ?_
  obtain ⟨z, lo, hi, t1, t2, hl, rfl, rfl⟩ := hf
  have l1 := t1.2
  have l2 := t2.2
  have e1 : lo.length = lo.cps.toList.length := rfl
  have e2 : hi.length = hi.cps.toList.length := rfl
  refine ws_for (items := [.str lo, .str hi]) (t := .one 3) (fun i => [.d (.str z), .d (.str lo), .d (.str hi), .no]) A sc_check_range.nd (ji_tup (j_tup (ja_cons (jv 1) (ja_cons (jv 2) ja_nil)) (by show 2 ≤ 100000; decide))) (.one (sn 3)) (fun _ _ => trivial) (Le.refl _) (fun Gb i dd σ2 G2 H2 nx hd A2 hnx => ?_) fun σ2 G2 H2 A2 => ?_
  · obtain ⟨w, tk, rfl⟩ : ∃ w, Tk z w ∧ dd = .str w := by
      match i, hd with
      | 0, h => exact ⟨lo, t1, (Option.some.inj h).symm⟩
      | 1, h => exact ⟨hi, t2, (Option.some.inj h).symm⟩
    refine ws_ifF A2 (JT.is (jt_not (jt_val (j_call (ok_is_ticket T) (ja_cons (jv 0) (ja_cons (jv 3) ja_nil)) ⟨z, w, rfl, tk, rfl⟩))) rfl) fun G3 H3 A3 => ?_
    exact ws_nil (hnx σ2 G3 H3 (At.le A3 (.cons (.cons (.cons (.no .nil))))))
  · refine ws_ifF A2 (JT.is (jt_cmp c_neI (j_lenS (jv 1) (by omega)) (j_lenS (jv 2) (by omega))) ?_) fun G3 H3 A3 => ?_
    · rw [decide_eq_true (show (lo.length : Int) = hi.length by omega)]
      rfl
    · exact ws_nil (fin.nx rfl _ _ _ A3.s)
theorem sumW_fst (x : Tl) (n : Nat) (w : List Nat) : ∀ i, i ≤ w.length → (sumW x n w i).1 = x.rowW (w.take i)
  | 0, _ => rfl
  | i + 1, h => by
    have hp : ((List.range w.length).zip w)[i]? = some (i, w[i]) := by
      rw [List.getElem?_zip_eq_some]
      exact ⟨List.getElem?_range h, List.getElem?_eq_getElem h⟩
    have e : sumW x n w (i + 1) = sumS x n w.length (sumW x n w i) (i, w[i]) := foldl_take_succ hp
    rw [e, take_succ_get (List.getElem?_eq_getElem h)]
    show TM.led (sumW x n w i).1 _ = _
    rw [sumW_fst x n w i (Nat.le_of_succ_le h)]
    exact (rowF_snoc x x.st (w.take i) w[i]).symm
def f_sum_to (W : Gx) (ds : List D) (d : D) : Prop := ∃ (x : Tl) (n b l : Nat) (z : Str), WT n x ∧ WB b x ∧ b ≤ 200 ∧ Tk x.z z ∧ l = z.cps.toList.length ∧ ds = [tlD W x, .str z, ltabD (colsT x n (l + 1))] ∧ d = .int (sumTo x n z.cps.toList)
theorem ok_sum_to {W : Gx} (T : Tx W) : OkF W 4 "sum_to" 3 (f_sum_to W) := by
  have m1 := T.m_len
  have m2 := T.m_enumerate
  have m3 := T.m_zip
  refine mk_sum_to T fun ds d G0 H0 σ D' hf hn A fin => ?_
  obtain ⟨x, n, b, l, z, w, wb, hb, tk, hl, rfl, rfl⟩ := hf
  have hlt := w.lt
  have hsl := w.sl
  have hel := w.el
  have htk := tk.2
  have zl : z.length = z.cps.toList.length := rfl
  have tlen := w.tl
  have ten := w.dg.ten
  refine ws_par (i := 3) (j := 4) (d := rowD x.st) (d' := .int 0) A sc_sum_to.nd rfl rfl rfl rfl (by decide) (ja_cons (j_fld (fs := tlF x) (jv 0) rfl T.c_Tally T.n_Tally_start) (ja_cons j_int ja_nil)) fun σ1 G1 H1 A1 => ?_
  refine ws_for (items := ((List.range z.cps.toList.length).zip z.cps.toList).map fun p => .tup [.int (p.1 : Int), sgn p.2]) (t := .two 5 6) (fun i => [.d (tlD W x), .d (.str z), .d (ltabD (colsT x n (l + 1))), .d (rowD (sumW x n z.cps.toList i).1), .d (.int (sumW x n z.cps.toList i).2), .no, .no, .no, .no, .no]) A1 sc_sum_to.nd (by rw [← enum_items sgn]; exact ji_enum (jsr_s (jv 1))) (.two (sn 5) (sn 6) (by decide)) (fun dd hd => by obtain ⟨p, _, rfl⟩ := List.mem_map.mp hd; exact ⟨_, _, rfl⟩) (Le.refl _) (fun Gb i dd σ2 G2 H2 nx hd A2 hnx => ?_) fun σ2 G2 H2 A2 => ?_
  · rw [List.getElem?_map] at hd
    obtain ⟨p, hp, rfl⟩ := Option.map_eq_some_iff.mp hd
    obtain ⟨hp1, hp2⟩ := zipRange hp
    have hil : i < z.cps.toList.length := (List.getElem?_eq_some_iff.mp hp2).1
    have hc : p.2 ∈ x.z.cps.toList := tk.1 _ (List.mem_of_getElem? hp2)
    have hs : sumW x n z.cps.toList (i + 1) = sumS x n z.cps.toList.length (sumW x n z.cps.toList i) p := foldl_take_succ hp
    have hf1 := sumW_fst x n z.cps.toList i (Nat.le_of_lt hil)
    obtain ⟨r1, r2⟩ := rowW_ok w wb (cs := z.cps.toList.take i) fun c hc => tk.1 c (List.mem_of_mem_take hc)
    have hti : (z.cps.toList.take i).length * (b + 10) ≤ 1000 * 210 := Nat.mul_le_mul (by rw [List.length_take]; omega) (by omega)
    rw [← hf1] at r1 r2
    have hk1 : l - p.1 - 1 ≤ 1000 := by omega
    obtain ⟨c1, c2⟩ := col_ok w wb hb hk1
    rw [hs] at hnx
    generalize sumW x n z.cps.toList i = a at A2 r1 r2 hnx
    have hcol : atI ((colsT x n (l + 1)).map lrowD) ((l - p.1 - 1 : Nat) : Int) = some (lrowD (x.col n (l - p.1 - 1))) := by
      refine atI_nat ?_
      rw [List.getElem?_map, colsT, List.getElem?_map, List.getElem?_range (by omega)]
      rfl
    refine ws_set A2 sc_sum_to.nd (sn 7) (j_ixL (jv 2).l (J.is (j_sub (j_sub (j_lenS (jv 1) (by omega)) (jv 5)) j_int) (show D.int ((z.length : Int) - (p.1 : Int) - 1) = .int ((l - p.1 - 1 : Nat) : Int) by congr 1; omega)) hcol) fun σ3 G3 H3 A3 => ?_
    refine ws_for (items := (x.z.cps.toList.zip x.ts).map fun q => .tup [sgn q.1, tabD q.2]) (t := .two 8 9) (fun j => [.d (tlD W x), .d (.str z), .d (ltabD (colsT x n (l + 1))), .d (rowD a.1), .d (.int (((x.z.cps.toList.zip x.ts).take j).foldl (sumD x n a.1 (l - p.1 - 1) p.2) a.2)), .no, .d (sgn p.2), .d (lrowD (x.col n (l - p.1 - 1))), .no, .no]) A3 sc_sum_to.nd (by rw [← zipD_map2 sgn tabD]; exact ji_zip (jsr_s (j_fld (fs := tlF x) (jv 0) rfl T.c_Tally T.n_Tally_digits)) (jsr_t (j_fld (fs := tlF x) (jv 0) rfl T.c_Tally T.n_Tally_tables))) (.two (sn 8) (sn 9) (by decide)) (fun dd hd => by obtain ⟨p, _, rfl⟩ := List.mem_map.mp hd; exact ⟨_, _, rfl⟩) (.cons (.cons (.cons (.cons (.cons (.no (.cons (.cons (.cons (.cons .nil)))))))))) (fun Gb2 j dd σ4 G4 H4 nx2 hd2 A4 hnx2 => ?_) fun σ4 G4 H4 A4 => ?_
    · rw [List.getElem?_map] at hd2
      obtain ⟨q, hq, rfl⟩ := Option.map_eq_some_iff.mp hd2
      obtain ⟨q1, q2⟩ := List.of_mem_zip (show (q.1, q.2) ∈ x.z.cps.toList.zip x.ts from List.mem_of_getElem? hq)
      have sq := w.sq _ q2
      rw [foldl_take_succ hq] at hnx2
      generalize ((x.z.cps.toList.zip x.ts).take j).foldl (sumD x n a.1 (l - p.1 - 1) p.2) a.2 = u at A4 hnx2
      refine ws_if A4 (JT.is (jt_cmp c_ltS (jv 8) (jv 6)) (sgn_lt q.1 p.2)) (fun h G5 H5 A5 => ?_) fun h G5 H5 A5 => ?_
      · have lb := TM.led_bd (c := 10) r2 (wb.t _ q2) (by omega)
        refine ws_augI (m := u) (n := TM.prod (TM.led a.1 q.2) (x.col n (l - p.1 - 1))) A5 sc_sum_to.nd (sn 4) rfl (j_call (ok_product_of T) (ja_cons (j_call (ok_led_on T) (ja_cons (jv 3) (ja_cons (jv 9) ja_nil)) ⟨_, a.1, q.2, _, b, rfl, .inl rfl, by rw [sq.1]; omega, fun r hr => by rw [sq.2 r hr, sq.1], by rw [r1, sq.1], r2, wb.t _ q2, by omega, rfl⟩) (ja_cons (jv 7) ja_nil)) ⟨_, _, TM.led a.1 q.2, x.col n (l - p.1 - 1), _, 300000, rfl, .inl rfl, .inr rfl, ?_, ?_, lb, c2, by omega, rfl⟩) fun σ6 G6 H6 A6 => ?_
        · rw [c1]
          show ((TM.cols q.2).map _).length = n
          rw [List.length_map, TM.cols, List.length_map, List.length_range, sq.1]
        · show ((TM.cols q.2).map _).length < _
          rw [List.length_map, TM.cols, List.length_map, List.length_range, sq.1]
          omega
        · refine ws_nil (ws_nil (hnx2 _ _ _ (At.le A6 ?_)))
          rw [sumD, if_pos (of_decide_eq_true h)]
          exact .cons (.cons (.cons (.cons (.cons (.no (.cons (.cons (.no (.no .nil)))))))))
      · refine ws_nil (ws_nil (hnx2 _ _ _ (At.le A5 ?_)))
        rw [sumD, if_neg (of_decide_eq_false h)]
        exact .cons (.cons (.cons (.cons (.cons (.no (.cons (.cons (.no (.no .nil)))))))))
    · rw [List.length_map, List.take_length] at A4
      refine ws_set A4 sc_sum_to.nd (sn 3) (j_meth (ok_Tally_step T) (fs := tlF x) (jv 0) (ja_cons (jv 3) (ja_cons (jv 6) ja_nil)) ⟨x, n, _, b, p.2, a.1, w, wb, hc, r1, r2, by omega, rfl, rfl⟩) fun σ5 G5 H5 A5 => ?_
      refine ws_nil (hnx _ _ _ (At.le A5 ?_))
      rw [show sumS x n z.cps.toList.length a p = (TM.led a.1 (x.tab p.2), sumP x n a.1 (l - p.1 - 1) p.2 a.2) by rw [hl]; rfl]
      exact .cons (.cons (.cons (.cons (.cons (.no (.no (.no (.no (.no .nil)))))))))
  · have hle : ((List.range z.cps.toList.length).zip z.cps.toList).length = z.cps.toList.length := by rw [List.length_zip, List.length_range, Nat.min_self]
    rw [List.length_map, hle] at A2
    have hf1 := sumW_fst x n z.cps.toList z.cps.toList.length (Nat.le_refl _)
    rw [List.take_length] at hf1
    obtain ⟨r1, r2⟩ := rowW_ok w wb tk.1
    have hbl := bits_le hb tk.2
    rw [← hf1] at r1 r2
    exact ws_ret A2 (j_add (jv 4) (j_call (ok_product_of T) (ja_cons (jv 3) (ja_cons (j_fld (fs := tlF x) (jv 0) rfl T.c_Tally T.n_Tally_ends) ja_nil)) ⟨_, _, _, x.en, _, b, rfl, .inl rfl, .inl rfl, by rw [r1, hel], by omega, r2, wb.e, by omega, rfl⟩)) fin.rt
end TH
set_option maxHeartbeats 4000000
namespace TH
open PySem PySem.Spec PyProof.Rows L2
def rngSum (x : Tl) (n : Nat) (lo hi : List Nat) : Int := if hi < lo then 0 else sumTo x n hi - sumTo x n lo + x.worth lo
def f_range_sum (W : Gx) (ds : List D) (d : D) : Prop := ∃ (x : Tl) (n b : Nat) (lo hi : Str), WT n x ∧ WB b x ∧ b ≤ 200 ∧ Tk x.z lo ∧ Tk x.z hi ∧ lo.cps.toList.length = hi.cps.toList.length ∧ ds = [tlD W x, .str lo, .str hi] ∧ d = .int (rngSum x n lo.cps.toList hi.cps.toList)
theorem ok_range_sum {W : Gx} (T : Tx W) : OkF W 6 "range_sum" 3 (f_range_sum W) := by
  have m1 := T.m_len
  refine mk_range_sum T fun ds d G0 H0 σ D' hf hn A fin => ?_
  obtain ⟨x, n, b, lo, hi, w, wb, hb, t1, t2, hl, rfl, rfl⟩ := hf
  have l1 := t1.2
  have zl : lo.length = lo.cps.toList.length := rfl
  refine ws_expr A (j_call (ok_check_range T) (ja_cons (j_fld (fs := tlF x) (jv 0) rfl T.c_Tally T.n_Tally_digits) (ja_cons (jv 1) (ja_cons (jv 2) ja_nil))) ⟨x.z, lo, hi, t1, t2, hl, rfl, rfl⟩) fun G1 H1 A1 => ?_
  refine ws_if A1 (jt_cmp c_ltS (jv 2) (jv 1)) (fun h G2 H2 A2 => ?_) fun h G2 H2 A2 => ?_
  · refine ws_ret A2 (J.is j_int ?_) fin.rt
    rw [rngSum, if_pos (of_decide_eq_true h)]
  · refine ws_nil ?_
    refine ws_set A2 sc_range_sum.nd (sn 3) (j_call (ok_columns_to T) (ja_cons (jv 0) (ja_cons (J.is (j_lenS (jv 1) (by omega)) (show D.int (lo.length : Int) = .int ((lo.cps.toList.length : Nat) : Int) from rfl)) ja_nil)) ⟨x, n, b, _, w, wb, by omega, by omega, rfl, rfl⟩) fun σ3 G3 H3 A3 => ?_
    refine ws_ret A3 (J.is (j_add (j_sub (j_call (ok_sum_to T) (ja_cons (jv 0) (ja_cons (jv 2) (ja_cons (jv 3) ja_nil))) ⟨x, n, b, lo.cps.toList.length, hi, w, wb, hb, t2, hl, rfl, rfl⟩) (j_call (ok_sum_to T) (ja_cons (jv 0) (ja_cons (jv 1) (ja_cons (jv 3) ja_nil))) ⟨x, n, b, lo.cps.toList.length, lo, w, wb, hb, t1, rfl, rfl, rfl⟩)) (j_meth (ok_Tally_worth T) (fs := tlF x) (jv 0) (ja_cons (jv 1) ja_nil) ⟨x, n, b, lo, w, wb, hb, t1, rfl, rfl⟩)) ?_) fin.rt
    rw [rngSum, if_neg (of_decide_eq_false h)]
end TH
set_option maxHeartbeats 4000000
namespace TH
open PySem PySem.Spec PyProof.Rows L2
theorem op_mul_str {X : Cx} : OpR X (binaryOp .Mult) (fun x y H Q => ∃ i n, x = .str i ∧ y = .int n ∧ MulOk i n ∧ Q (.str (Txt.mul i n)) H) := by
  intro pins s σ H x y v u Q I rx ry h
  obtain ⟨i, n, rfl, rfl, hz, q⟩ := h
  obtain ⟨t, rfl⟩ := rx
  obtain ⟨t', rfl⟩ := ry
  exact SB.mul hz (fun t' k => ⟨.str (Txt.mul i n), H, I.tok _, ⟨_, rfl⟩, q⟩)
theorem foldl_app (a : Array Nat) : ∀ (m : Nat) (b : Array Nat), ((List.replicate m a).foldl (· ++ ·) b).toList = b.toList ++ (List.replicate m a.toList).flatten
  | 0, b => (List.append_nil _).symm
  | m + 1, b => by
    show ((List.replicate m a).foldl (· ++ ·) (b ++ a)).toList = _
    rw [foldl_app a m (b ++ a), Array.toList_append, List.append_assoc]
    rfl
theorem mul_one {c n : Nat} : (Txt.mul ⟨#[c]⟩ (n : Int)).cps.toList = List.replicate n c := by
  unfold Txt.mul
  by_cases h : ((n : Int) < 1)
  · rw [if_pos h, show n = 0 by omega]
    rfl
  · rw [if_neg h]
    by_cases h1 : n = 1
    · subst h1
      rfl
    · have e : (((n : Int) == 1) || ((⟨#[c]⟩ : Str).length == 0)) = false := by
        rw [show ((n : Int) == 1) = false from beq_eq_false_iff_ne.mpr (by omega)]
        rfl
      rw [e]
      show ((List.replicate (n : Int).toNat (#[c] : Array Nat)).foldl (· ++ ·) #[]).toList = _
      rw [foldl_app, Int.toNat_natCast]
      exact rep_flat c n
theorem mulOk1 {c n : Nat} (h : n ≤ 100000) : MulOk ⟨#[c]⟩ (n : Int) := by
  refine ⟨?_, fun h1 h2 => ?_, fun h1 h2 => ?_⟩
  · rw [decide_eq_false (by omega), decide_eq_false (by omega)]
    rfl
  · have : (⟨#[c]⟩ : Str).length = 1 := rfl
    rw [this]
    have h3 : (1 : Int) ≤ (2 ^ 63 - 1) / (n : Int) := by
      rw [Int.le_ediv_iff_mul_le (by omega)]
      omega
    omega
  · show decide ((⟨#[c]⟩ : Str).length * (n : Int).toNat > sizeLine) = false
    rw [Int.toNat_natCast, show (⟨#[c]⟩ : Str).length = 1 from rfl]
    have : 100000 ≤ sizeLine := by decide
    exact decide_eq_false (by omega)
section
variable {W : Gx} {S : Sc} {k : Nat} {env : List Sl} {a b : Expr} {pos : Pos}
/-- a sign times a number -/
theorem j_mulS {c n : Nat} (ha : J W S k a env (sgn c)) (hb : J W S k b env (.int (n : Int))) (hn : n ≤ 100000) : J W S k (.BinOp a .Mult b pos) env (.str (Txt.mul ⟨#[c]⟩ (n : Int))) :=
  jp_op (fun X _ => op_mul_str) ha hb rep_stab fun x y' G H e h1 h2 Q q => ⟨⟨#[c]⟩, (n : Int), h1, h2, mulOk1 hn, q _ G H (.refl e) rfl⟩
end
end TH
set_option maxHeartbeats 4000000
namespace TH
open PySem PySem.Spec PyProof.Rows L2
theorem str_ext {y z : Str} : y = z ↔ y.cps.toList = z.cps.toList := ⟨fun h => by rw [h], fun h => by
  cases y; cases z
  exact congrArg Str.mk (Array.toList_inj.mp h)⟩
def isFst (z w : List Nat) : Bool := decide (w = List.replicate w.length (z.headD 0))
def isLst (z w : List Nat) : Bool := decide (w = List.replicate w.length (z.getLastD 0))
theorem at_first {z : Str} (al : Al z) : atI z.cps.toList 0 = some (z.cps.toList.headD 0) := by
  rcases al with rfl | rfl | rfl | rfl <;> decide +kernel
theorem at_last {z : Str} (al : Al z) : atI z.cps.toList (-1) = some (z.cps.toList.getLastD 0) := by
  rcases al with rfl | rfl | rfl | rfl <;> decide +kernel
theorem ok_is_first {W : Gx} (T : Tx W) : OkF W 1 "is_first" 2 (fun ds d => ∃ z w : Str, Al z ∧ w.cps.toList.length < 1000 ∧ ds = [.str z, .str w] ∧ d = .bl (isFst z.cps.toList w.cps.toList)) := by
  have m1 := T.m_len
  refine mk_is_first T fun ds d G0 H0 σ D' hf hn A fin => ?_
  obtain ⟨z, w, al, hw, rfl, rfl⟩ := hf
  have zl : w.length = w.cps.toList.length := rfl
  have l3 := (al_len al).2
  have zz : z.length = z.cps.toList.length := rfl
  refine ws_ret A (J.is (j_cmp c_eqS (jv 1) (j_mulS (j_ixS (jv 0) j_int (by omega) (at_first al)) (j_lenS (jv 1) (by omega)) (by omega))) ?_) fin.rt
  congr 1
  exact decide_eq_decide.mpr (by rw [str_ext, mul_one]; exact Iff.rfl)
theorem ok_is_last {W : Gx} (T : Tx W) : OkF W 1 "is_last" 2 (fun ds d => ∃ z w : Str, Al z ∧ w.cps.toList.length < 1000 ∧ ds = [.str z, .str w] ∧ d = .bl (isLst z.cps.toList w.cps.toList)) := by
  have m1 := T.m_len
  refine mk_is_last T fun ds d G0 H0 σ D' hf hn A fin => ?_
  obtain ⟨z, w, al, hw, rfl, rfl⟩ := hf
  have zl : w.length = w.cps.toList.length := rfl
  have l3 := (al_len al).2
  have zz : z.length = z.cps.toList.length := rfl
  refine ws_ret A (J.is (j_cmp c_eqS (jv 1) (j_mulS (j_ixS (jv 0) (j_neg j_int) (by omega) (at_last al)) (j_lenS (jv 1) (by omega)) (by omega))) ?_) fin.rt
  congr 1
  exact decide_eq_decide.mpr (by rw [str_ext, mul_one]; exact Iff.rfl)
end TH
set_option maxHeartbeats 4000000
namespace TH
open PySem PySem.Spec PyProof.Rows L2
section
variable {W : Gx} {S : Sc} {k : Nat} {env : List Sl} {a b : Expr} {pos apos : Pos} {y z : Str}
theorem j_rstrip (ha : J W S k a env (.str y)) (hb : J W S k b env (.str z)) (hl : y.length ≤ 100000) (hp : Plain b := by intro _ _; rfl) (hbase : ∀ env : Env, attributeBase a "rstrip" env (eval a env) = eval a env := by intro _; rfl) (hline : (apos.endLine == pos.line) = true := by rfl) :
    J W S k (.Call (.Attribute a "rstrip" apos) [b] [] pos) env (.str (Txt.rstripChars y z)) := fun σ G H x E Q q =>
  wE_of (fun X hX => pe_m1 F.slot_str_rstrip F.type_str_rstrip mt_rstripChars (pe_w hX a) (pe_w hX b) (hp [] X.env) (hbase X.env) hline)
    (ha σ G H x E _ fun u G1 H1 s1 r1 => ⟨⟨y, r1⟩, hb σ G1 H1 s1.s (E.mono s1) _ fun v G2 H2 s2 r2 => ⟨y, z, r1, by rw [show v = V.str z from r2], sz hl, q _ G2 H2 (s1.trans s2) rfl⟩⟩)
end
/-- without the trailing run of a sign -/
def rst (c : Nat) (w : List Nat) : List Nat := w.take (w.length - (w.reverse.takeWhile fun a => decide (a = c)).length)
theorem has_one (c : Nat) : (#[c] : Array Nat).contains = fun a => decide (a = c) := by
  funext a
  rw [Bool.eq_iff_iff]
  simp
theorem Builtin.Str.strSub_list (x : Str) (a b : Nat) : (Builtin.Str.strSub x a b).cps.toList = (x.cps.toList.take b).drop a := by
  unfold Builtin.Str.strSub
  simp [List.drop_take]
theorem rstrip_list (x : Str) (c : Nat) : (Txt.rstripChars x ⟨#[c]⟩).cps.toList = rst c x.cps.toList := by
  unfold Txt.rstripChars Txt.stripBy
  rw [has_one]
  have e : stripHi (fun a => decide (a = c)) true x 0 = x.cps.toList.length - (x.cps.toList.reverse.takeWhile fun a => decide (a = c)).length := rfl
  by_cases h : stripSame (fun a => decide (a = c)) false true x = true
  · rw [if_pos h]
    unfold stripSame at h
    have h2 := (Bool.and_eq_true _ _ ▸ h).2
    have h3 : stripHi (fun a => decide (a = c)) true x 0 = x.length := by
      have h4 : (stripHi (fun a => decide (a = c)) true x 0 == x.length) = true := h2
      exact eq_of_beq h4
    rw [rst, ← e, h3]
    exact (List.take_of_length_le (Nat.le_refl _)).symm
  · rw [if_neg h]
    unfold stripped
    show (Builtin.Str.strSub x 0 (stripHi _ true x 0)).cps.toList = _
    rw [e, Builtin.Str.strSub_list]
    rfl
end TH
set_option maxHeartbeats 4000000
namespace TH
open PySem PySem.Spec PyProof.Rows L2
theorem app_list (y z : Str) : (y ++ z).cps.toList = y.cps.toList ++ z.cps.toList := Array.toList_append ..
theorem rst_le (c : Nat) (w : List Nat) : (rst c w).length ≤ w.length := by
  unfold rst
  rw [List.length_take]
  omega
theorem cutS_init (z : Str) : (cutS z none (some (-1))).cps.toList = z.cps.toList.dropLast := by
  unfold cutS
  show ((z.cps.toList.drop 0).take (HT.sIx z.length z.length (some (-1)) - 0)) = _
  rw [List.drop_zero, Nat.sub_zero, List.dropLast_eq_take]
  congr 1
  have : z.length = z.cps.toList.length := rfl
  unfold HT.sIx
  show (if (-1 : Int) < 0 then ((-1 : Int) + (z.length : Int)).toNat else _) = _
  rw [if_pos (by decide)]
  omega
def tkAhead (z w : List Nat) : D := if rst (z.headD 0) w = [] then .non else .str ⟨((rst (z.headD 0) w).dropLast ++ [z.getD (z.idxOf ((rst (z.headD 0) w).getLastD 0) - 1) 0] ++ List.replicate (w.length - (rst (z.headD 0) w).length) (z.getLastD 0)).toArray⟩
theorem rst_mem {c a : Nat} {w : List Nat} (h : a ∈ rst c w) : a ∈ w := List.mem_of_mem_take h
theorem atI_getLast {w : List Nat} (h : w ≠ []) : atI w (-1) = some (w.getLastD 0) := by
  have e := List.dropLast_concat_getLast h
  have hx : w.getLastD 0 = w.getLast h := by
    rw [List.getLastD_eq_getLast?, List.getLast?_eq_some_getLast h]
    rfl
  rw [hx]
  unfold atI
  have hl : 0 < w.length := List.length_pos_iff.mpr h
  have hi : ixN w.length (-1) = some (w.length - 1) := by
    unfold ixN
    rw [if_neg (by decide), if_pos (by omega)]
    congr 1
    omega
  rw [hi]
  show w[w.length - 1]? = _
  rw [List.getLast_eq_getElem, List.getElem?_eq_getElem (by omega)]
theorem rst_rev (c : Nat) (w : List Nat) : rst c w = (w.reverse.dropWhile fun a => decide (a = c)).reverse := by
  unfold rst
  have h := List.takeWhile_append_dropWhile (p := fun a => decide (a = c)) (l := w.reverse)
  have h2 : w = (w.reverse.dropWhile fun a => decide (a = c)).reverse ++ (w.reverse.takeWhile fun a => decide (a = c)).reverse := by
    rw [← List.reverse_append, h, List.reverse_reverse]
  generalize w.reverse.dropWhile (fun a => decide (a = c)) = u at h2 ⊢
  generalize w.reverse.takeWhile (fun a => decide (a = c)) = v at h2 ⊢
  subst h2
  rw [List.take_append_of_le_length (by simp), List.take_of_length_le (by simp)]
theorem rst_last {c : Nat} {w : List Nat} (h : rst c w ≠ []) : (rst c w).getLastD 0 ≠ c := by
  rw [rst_rev] at h ⊢
  generalize hu : w.reverse.dropWhile (fun a => decide (a = c)) = u at h ⊢
  cases u with
  | nil => exact absurd rfl h
  | cons a u =>
    have h1 := List.head?_dropWhile_not (fun a => decide (a = c)) w.reverse
    rw [hu] at h1
    intro e
    rw [List.reverse_cons, List.getLastD_eq_getLast?, List.getLast?_append] at e
    simp at h1 e
    exact h1 e
theorem idx_pos {z : List Nat} {a : Nat} (h : a ∈ z) (hne : a ≠ z.headD 0) : 1 ≤ z.idxOf a ∧ z.idxOf a < z.length := by
  refine ⟨?_, List.idxOf_lt_length_of_mem h⟩
  cases z with
  | nil => cases h
  | cons b z =>
    rw [List.idxOf_cons]
    have : (b == a) = false := beq_eq_false_iff_ne.mpr fun e => hne e.symm
    rw [this]
    exact Nat.succ_le_succ (Nat.zero_le _)
theorem ok_ticket_ahead {W : Gx} (T : Tx W) : OkF W 1 "ticket_ahead" 2 (fun ds d => ∃ z w : Str, Al z ∧ Tk z w ∧ ds = [.str z, .str w] ∧ d = tkAhead z.cps.toList w.cps.toList) := by
  have m1 := T.m_len
  refine mk_ticket_ahead T fun ds d G0 H0 σ D' hf hn A fin => ?_
  obtain ⟨z, w, al, tk, rfl, rfl⟩ := hf
  have zl : w.length = w.cps.toList.length := rfl
  have l3 := (al_len al).2
  have hw := tk.2
  have zz : z.length = z.cps.toList.length := rfl
  refine ws_set A sc_ticket_ahead.nd (sn 2) (j_rstrip (jv 1) (j_ixS (jv 0) j_int (by omega) (at_first al)) (by omega)) fun σ1 G1 H1 A1 => ?_
  have hs := rstrip_list w (z.cps.toList.headD 0)
  have hle := rst_le (z.cps.toList.headD 0) w.cps.toList
  generalize hsh : Txt.rstripChars w ⟨#[z.cps.toList.headD 0]⟩ = s at A1 hs
  have sl : s.length = s.cps.toList.length := rfl
  rw [← hs] at hle
  refine ws_if A1 (jt_cmp c_eqS (jv 2) j_str) (fun h G2 H2 A2 => ?_) fun h G2 H2 A2 => ?_
  · refine ws_ret A2 (J.is j_non ?_) fin.rt
    have := of_decide_eq_true h
    rw [tkAhead, ← hs, this, if_pos (show (Str.ofString "").cps.toList = [] from rfl)]
  · refine ws_nil ?_
    have hne : s.cps.toList ≠ [] := fun e => of_decide_eq_false h (str_ext.mpr e)
    have hne2 : rst (z.cps.toList.headD 0) w.cps.toList ≠ [] := by rw [← hs]; exact hne
    have hlast : s.cps.toList.getLastD 0 ∈ s.cps.toList := by
      rw [List.getLastD_eq_getLast?, List.getLast?_eq_some_getLast hne]
      exact List.getLast_mem hne
    have hz : s.cps.toList.getLastD 0 ∈ z.cps.toList := tk.1 _ (rst_mem (by rw [← hs]; exact hlast))
    have hnc : s.cps.toList.getLastD 0 ≠ z.cps.toList.headD 0 := by
      rw [hs]
      exact rst_last hne2
    obtain ⟨i1, i2⟩ := idx_pos hz hnc
    refine ws_set A2 sc_ticket_ahead.nd (sn 3) (j_ixS (jv 0) (J.is (j_sub (j_sindex al hz (jv 0) (j_ixS (jv 2) (j_neg j_int) (by omega) (atI_getLast hne))) j_int) (show D.int (((z.cps.toList.idxOf (s.cps.toList.getLastD 0) : Nat) : Int) - 1) = .int ((z.cps.toList.idxOf (s.cps.toList.getLastD 0) - 1 : Nat) : Int) by congr 1; omega)) (ch := z.cps.toList.getD (z.cps.toList.idxOf (s.cps.toList.getLastD 0) - 1) 0) (by omega) (atI_nat ?_)) fun σ3 G3 H3 A3 => ?_
    · rw [List.getD_eq_getElem?_getD, List.getElem?_eq_getElem (by omega)]
      rfl
    refine ws_ret A3 (J.is (j_addS (j_addS (j_sliceS (jv 2) jo_none (jo_some (j_neg j_int)) (by omega)) (jv 3) ?_) (j_mulS (n := w.length - s.length) (j_ixS (jv 0) (j_neg j_int) (by omega) (at_last al)) (J.is (j_sub (j_lenS (jv 1) (by omega)) (j_lenS (jv 2) (by omega))) ?_) (by omega)) ?_) ?_) fin.rt
    · show (cutS s none (some (-1))).cps.toList.length + 1 ≤ _
      rw [cutS_init, List.length_dropLast]
      omega
    · congr 1
      omega
    · show (cutS s none (some (-1)) ++ ⟨#[_]⟩ : Str).cps.toList.length + (Txt.mul ⟨#[_]⟩ _).cps.toList.length ≤ _
      rw [app_list, cutS_init, mul_one, List.length_append, List.length_dropLast, List.length_replicate]
      show _ + 1 + _ ≤ _
      omega
    · rw [tkAhead, if_neg hne2, ← hs]
      congr 1
      rw [str_ext, app_list, app_list, cutS_init, mul_one]
      rfl
end TH
set_option maxHeartbeats 4000000
namespace TH
open PySem PySem.Spec PyProof.Rows L2
def tkBehind (z w : List Nat) : D := if rst (z.getLastD 0) w = [] then .non else .str ⟨((rst (z.getLastD 0) w).dropLast ++ [z.getD (z.idxOf ((rst (z.getLastD 0) w).getLastD 0) + 1) 0] ++ List.replicate (w.length - (rst (z.getLastD 0) w).length) (z.headD 0)).toArray⟩
theorem idx_last {z : List Nat} {a : Nat} (h : a ∈ z) (hne : a ≠ z.getLastD 0) : z.idxOf a + 1 < z.length := by
  have hl := List.idxOf_lt_length_of_mem h
  have hz : z ≠ [] := fun e => by rw [e] at h; cases h
  have hg : z[z.idxOf a] = a := List.getElem_idxOf hl
  have hx : z.getLastD 0 = z[z.length - 1] := by
    rw [List.getLastD_eq_getLast?, List.getLast?_eq_some_getLast hz, ← List.getLast_eq_getElem hz]
    rfl
  by_cases e : z.idxOf a = z.length - 1
  · refine absurd ?_ hne
    rw [hx]
    exact hg.symm.trans (by congr 1)
  · omega
theorem ok_ticket_behind {W : Gx} (T : Tx W) : OkF W 1 "ticket_behind" 2 (fun ds d => ∃ z w : Str, Al z ∧ Tk z w ∧ ds = [.str z, .str w] ∧ d = tkBehind z.cps.toList w.cps.toList) := by
  have m1 := T.m_len
  refine mk_ticket_behind T fun ds d G0 H0 σ D' hf hn A fin => ?_
  obtain ⟨z, w, al, tk, rfl, rfl⟩ := hf
  have zl : w.length = w.cps.toList.length := rfl
  have l3 := (al_len al).2
  have hw := tk.2
  have zz : z.length = z.cps.toList.length := rfl
  refine ws_set A sc_ticket_behind.nd (sn 2) (j_rstrip (jv 1) (j_ixS (jv 0) (j_neg j_int) (by omega) (at_last al)) (by omega)) fun σ1 G1 H1 A1 => ?_
  have hs := rstrip_list w (z.cps.toList.getLastD 0)
  have hle := rst_le (z.cps.toList.getLastD 0) w.cps.toList
  generalize hsh : Txt.rstripChars w ⟨#[z.cps.toList.getLastD 0]⟩ = s at A1 hs
  have sl : s.length = s.cps.toList.length := rfl
  rw [← hs] at hle
  refine ws_if A1 (jt_cmp c_eqS (jv 2) j_str) (fun h G2 H2 A2 => ?_) fun h G2 H2 A2 => ?_
  · refine ws_ret A2 (J.is j_non ?_) fin.rt
    have := of_decide_eq_true h
    rw [tkBehind, ← hs, this, if_pos (show (Str.ofString "").cps.toList = [] from rfl)]
  · refine ws_nil ?_
    have hne : s.cps.toList ≠ [] := fun e => of_decide_eq_false h (str_ext.mpr e)
    have hne2 : rst (z.cps.toList.getLastD 0) w.cps.toList ≠ [] := by rw [← hs]; exact hne
    have hlast : s.cps.toList.getLastD 0 ∈ s.cps.toList := by
      rw [List.getLastD_eq_getLast?, List.getLast?_eq_some_getLast hne]
      exact List.getLast_mem hne
    have hz : s.cps.toList.getLastD 0 ∈ z.cps.toList := tk.1 _ (rst_mem (by rw [← hs]; exact hlast))
    have hnc : s.cps.toList.getLastD 0 ≠ z.cps.toList.getLastD 0 := by
      rw [hs]
      exact rst_last hne2
    have i2 := idx_last hz hnc
    refine ws_set A2 sc_ticket_behind.nd (sn 3) (j_ixS (jv 0) (J.is (j_add (j_sindex al hz (jv 0) (j_ixS (jv 2) (j_neg j_int) (by omega) (atI_getLast hne))) j_int) (show D.int (((z.cps.toList.idxOf (s.cps.toList.getLastD 0) : Nat) : Int) + 1) = .int ((z.cps.toList.idxOf (s.cps.toList.getLastD 0) + 1 : Nat) : Int) by congr 1)) (ch := z.cps.toList.getD (z.cps.toList.idxOf (s.cps.toList.getLastD 0) + 1) 0) (by omega) (atI_nat ?_)) fun σ3 G3 H3 A3 => ?_
    · rw [List.getD_eq_getElem?_getD, List.getElem?_eq_getElem (by omega)]
      rfl
    refine ws_ret A3 (J.is (j_addS (j_addS (j_sliceS (jv 2) jo_none (jo_some (j_neg j_int)) (by omega)) (jv 3) ?_) (j_mulS (n := w.length - s.length) (j_ixS (jv 0) j_int (by omega) (at_first al)) (J.is (j_sub (j_lenS (jv 1) (by omega)) (j_lenS (jv 2) (by omega))) ?_) (by omega)) ?_) ?_) fin.rt
    · show (cutS s none (some (-1))).cps.toList.length + 1 ≤ _
      rw [cutS_init, List.length_dropLast]
      omega
    · congr 1
      omega
    · show (cutS s none (some (-1)) ++ ⟨#[_]⟩ : Str).cps.toList.length + (Txt.mul ⟨#[_]⟩ _).cps.toList.length ≤ _
      rw [app_list, cutS_init, mul_one, List.length_append, List.length_dropLast, List.length_replicate]
      show _ + 1 + _ ≤ _
      omega
    · rw [tkBehind, if_neg hne2, ← hs]
      congr 1
      rw [str_ext, app_list, app_list, cutS_init, mul_one]
      rfl
end TH
namespace TM
def sumN : Nat → (Nat → Int) → Int
  | 0, _ => 0
  | n + 1, f => sumN n f + f n
theorem sumN_congr {f g : Nat → Int} : ∀ {n : Nat}, (∀ i, i < n → f i = g i) → sumN n f = sumN n g
  | 0, _ => rfl
  | n + 1, h => by
    show sumN n f + f n = sumN n g + g n
    rw [sumN_congr fun i hi => h i (by omega), h n (by omega)]
theorem sumN_add (n : Nat) (f g : Nat → Int) : sumN n (fun i => f i + g i) = sumN n f + sumN n g := by
  induction n with
  | zero => rfl
  | succ n ih =>
    show sumN n _ + (f n + g n) = (sumN n f + f n) + (sumN n g + g n)
    rw [ih]
    omega
theorem sumN_sub (n : Nat) (f g : Nat → Int) : sumN n (fun i => f i - g i) = sumN n f - sumN n g := by
  induction n with
  | zero => rfl
  | succ n ih =>
    show sumN n _ + (f n - g n) = (sumN n f + f n) - (sumN n g + g n)
    rw [ih]
    omega
theorem sumN_mulR (n : Nat) (f : Nat → Int) (c : Int) : sumN n (fun i => f i * c) = sumN n f * c := by
  induction n with
  | zero => exact (Int.zero_mul c).symm
  | succ n ih =>
    show sumN n _ + f n * c = (sumN n f + f n) * c
    rw [ih, Int.add_mul]
theorem sumN_mulL (n : Nat) (f : Nat → Int) (c : Int) : sumN n (fun i => c * f i) = c * sumN n f := by
  induction n with
  | zero => exact (Int.mul_zero c).symm
  | succ n ih =>
    show sumN n _ + c * f n = c * (sumN n f + f n)
    rw [ih, Int.mul_add]
theorem sumN_zero (n : Nat) : sumN n (fun _ => 0) = 0 := by
  induction n with
  | zero => rfl
  | succ n ih =>
    show sumN n _ + 0 = 0
    rw [ih]
    rfl
theorem sumN_z {n : Nat} {f : Nat → Int} (h : ∀ i, i < n → f i = 0) : sumN n f = 0 := by
  rw [sumN_congr h, sumN_zero]
theorem sumN_swap (n m : Nat) (f : Nat → Nat → Int) : sumN n (fun i => sumN m (fun j => f i j)) = sumN m (fun j => sumN n (fun i => f i j)) := by
  induction n with
  | zero => exact (sumN_zero m).symm
  | succ n ih =>
    show sumN n _ + sumN m _ = _
    rw [ih, ← sumN_add]
    rfl
theorem sumN_split (n m : Nat) (f : Nat → Int) : sumN (n + m) f = sumN n f + sumN m (fun i => f (n + i)) := by
  induction m with
  | zero => exact (Int.add_zero _).symm
  | succ m ih =>
    show sumN (n + m) f + f (n + m) = _ + (sumN m _ + f (n + m))
    rw [ih]
    omega
theorem sumN_front (n : Nat) (f : Nat → Int) : sumN (n + 1) f = f 0 + sumN n (fun i => f (i + 1)) := by
  rw [Nat.add_comm, sumN_split]
  show (0 + f 0) + _ = _
  rw [Int.zero_add]
  congr 1
  exact sumN_congr fun i _ => by rw [Nat.add_comm]
/-- one term alone -/
theorem sumN_one {n k : Nat} {f : Nat → Int} (hk : k < n) (h : ∀ i, i < n → i ≠ k → f i = 0) : sumN n f = f k := by
  induction n with
  | zero => omega
  | succ n ih =>
    show sumN n f + f n = f k
    by_cases e : k = n
    · subst e
      rw [sumN_z fun i hi => h i (by omega) (by omega), Int.zero_add]
    · rw [ih (by omega) fun i hi => h i (by omega), h n (by omega) (Ne.symm e), Int.add_zero]
def lsum {α : Type} : List α → (α → Int) → Int
  | [], _ => 0
  | a :: l, f => f a + lsum l f
section
variable {α β : Type}
theorem lsum_eq (l : List α) (f : α → Int) : (l.map f).sum = lsum l f := by
  induction l with
  | nil => rfl
  | cons a l ih =>
    rw [List.map_cons, List.sum_cons, ih]
    rfl
theorem lsum_append (l m : List α) (f : α → Int) : lsum (l ++ m) f = lsum l f + lsum m f := by
  induction l with
  | nil => exact (Int.zero_add _).symm
  | cons a l ih =>
    show f a + lsum (l ++ m) f = f a + lsum l f + lsum m f
    rw [ih]
    omega
theorem lsum_map (l : List β) (g : β → α) (f : α → Int) : lsum (l.map g) f = lsum l (fun b => f (g b)) := by
  induction l with
  | nil => rfl
  | cons a l ih =>
    show f (g a) + lsum (l.map g) f = _
    rw [ih]
    rfl
theorem lsum_flatMap (l : List β) (g : β → List α) (f : α → Int) : lsum (l.flatMap g) f = lsum l (fun b => lsum (g b) f) := by
  induction l with
  | nil => rfl
  | cons a l ih =>
    rw [List.flatMap_cons, lsum_append, ih]
    rfl
theorem lsum_congr {l : List α} {f g : α → Int} (h : ∀ a ∈ l, f a = g a) : lsum l f = lsum l g := by
  induction l with
  | nil => rfl
  | cons a l ih =>
    show f a + lsum l f = g a + lsum l g
    rw [h a List.mem_cons_self, ih fun b hb => h b (List.mem_cons_of_mem _ hb)]
theorem lsum_add (l : List α) (f g : α → Int) : lsum l (fun a => f a + g a) = lsum l f + lsum l g := by
  induction l with
  | nil => rfl
  | cons a l ih =>
    show (f a + g a) + lsum l _ = (f a + lsum l f) + (g a + lsum l g)
    rw [ih]
    omega
theorem lsum_sub (l : List α) (f g : α → Int) : lsum l (fun a => f a - g a) = lsum l f - lsum l g := by
  induction l with
  | nil => rfl
  | cons a l ih =>
    show (f a - g a) + lsum l _ = (f a + lsum l f) - (g a + lsum l g)
    rw [ih]
    omega
theorem lsum_zero (l : List α) : lsum l (fun _ => 0) = 0 := by
  induction l with
  | nil => rfl
  | cons a l ih =>
    show 0 + lsum l _ = 0
    rw [ih]
    rfl
theorem lsum_mulR (l : List α) (f : α → Int) (c : Int) : lsum l (fun a => f a * c) = lsum l f * c := by
  induction l with
  | nil => exact (Int.zero_mul c).symm
  | cons a l ih =>
    show f a * c + lsum l _ = (f a + lsum l f) * c
    rw [ih, Int.add_mul]
theorem lsum_sumN (l : List α) (n : Nat) (f : α → Nat → Int) : lsum l (fun a => sumN n (f a)) = sumN n (fun i => lsum l (fun a => f a i)) := by
  induction l with
  | nil => exact (sumN_zero n).symm
  | cons a l ih =>
    show sumN n (f a) + lsum l _ = _
    rw [ih, ← sumN_add]
    rfl
theorem lsum_swap (l : List α) (m : List β) (f : α → β → Int) : lsum l (fun a => lsum m (f a)) = lsum m (fun b => lsum l (fun a => f a b)) := by
  induction l with
  | nil => exact (lsum_zero m).symm
  | cons a l ih =>
    show lsum m (f a) + lsum l _ = _
    rw [ih, ← lsum_add]
    rfl
theorem lsum_perm {l m : List α} (h : l.Perm m) (f : α → Int) : lsum l f = lsum m f := by
  induction h with
  | nil => rfl
  | cons a _ ih =>
    show f a + _ = f a + _
    rw [ih]
  | swap a b l =>
    show f b + (f a + _) = f a + (f b + _)
    omega
  | trans _ _ h1 h2 => exact h1.trans h2
end
def en (t : Tab) (i j : Nat) : Int := (t.getD i []).getD j 0
theorem getD_at {α : Type} {l : List α} {i : Nat} {d : α} (h : i < l.length) : l.getD i d = l[i] := by
  rw [List.getD_eq_getElem?_getD, List.getElem?_eq_getElem h]
  rfl
theorem getD_out {α : Type} {l : List α} {i : Nat} {d : α} (h : l.length ≤ i) : l.getD i d = d := by
  rw [List.getD_eq_getElem?_getD, List.getElem?_eq_none h]
  rfl
theorem row_ext {n : Nat} {r s : Row} (h1 : r.length = n) (h2 : s.length = n) (h : ∀ j, j < n → r.getD j 0 = s.getD j 0) : r = s := by
  apply List.ext_getElem (h1.trans h2.symm)
  intro i p q
  have := h i (by omega)
  rw [getD_at p, getD_at q] at this
  exact this
theorem prod_sum : ∀ {n : Nat} {r s : Row}, r.length = n → s.length = n → prod r s = sumN n fun i => r.getD i 0 * s.getD i 0
  | 0, [], [], _, _ => rfl
  | n + 1, x :: r, y :: s, h1, h2 => by
    rw [prod_cons, prod_sum (Nat.succ.inj h1) (Nat.succ.inj h2), sumN_front]
    rfl
theorem Sq.row {n : Nat} {t : Tab} (h : Sq n t) {i : Nat} (hi : i < n) : (t.getD i []).length = n := by
  rw [getD_at (by rw [h.1]; exact hi)]
  exact h.2 _ (List.getElem_mem _)
theorem map_getD {α β : Type} {l : List α} {f : α → β} {i : Nat} {d : β} (d' : α) (h : i < l.length) : (l.map f).getD i d = f (l.getD i d') := by
  rw [getD_at (by rw [List.length_map]; exact h), getD_at h, List.getElem_map]
theorem range_getD {n i d : Nat} (h : i < n) : (List.range n).getD i d = i := by
  rw [getD_at (by rw [List.length_range]; exact h), List.getElem_range]
theorem cols_get {n : Nat} {t : Tab} (h : Sq n t) {i j : Nat} (hi : i < n) (hj : j < n) : ((cols t).getD j []).getD i 0 = en t i j := by
  unfold cols
  rw [map_getD 0 (by rw [List.length_range, h.1]; exact hj), range_getD (by rw [h.1]; exact hj), map_getD [] (by rw [h.1]; exact hi)]
  rfl
theorem led_get {n : Nat} {r : Row} {t : Tab} (h : Sq n t) (hr : r.length = n) {j : Nat} (hj : j < n) : (led r t).getD j 0 = sumN n fun i => r.getD i 0 * en t i j := by
  have l1 : j < (cols t).length := by rw [cols_length, h.1]; exact hj
  unfold led
  rw [map_getD [] l1, prod_sum hr (by rw [getD_at l1, cols_row (List.getElem_mem _), h.1])]
  exact sumN_congr fun i hi => by rw [← cols_get h hi hj]
theorem led_len {n : Nat} {t : Tab} (h : Sq n t) (r : Row) : (led r t).length = n := by rw [led_length, h.1]
theorem tmul_en {n : Nat} {t u : Tab} (h : Sq n t) (h' : Sq n u) {i j : Nat} (hi : i < n) (hj : j < n) : en (tmul t u) i j = sumN n fun k => en t i k * en u k j := by
  unfold en tmul
  rw [map_getD [] (by rw [h.1]; exact hi)]
  exact led_get h' (h.row hi) hj
theorem led_led {n : Nat} {r : Row} {t u : Tab} (hr : r.length = n) (h : Sq n t) (h' : Sq n u) : led (led r t) u = led r (tmul t u) := by
  refine row_ext (led_len h' _) (led_len (tmul_sq h h') _) fun j hj => ?_
  rw [led_get h' (led_len h r) hj, led_get (tmul_sq h h') hr hj]
  have e1 : ∀ k, k < n → (led r t).getD k 0 * en u k j = sumN n fun i => r.getD i 0 * (en t i k * en u k j) := fun k hk => by
    rw [led_get h hr hk, ← sumN_mulR]
    exact sumN_congr fun i _ => Int.mul_assoc ..
  rw [sumN_congr e1, sumN_swap]
  refine sumN_congr fun i hi => ?_
  rw [sumN_mulL, tmul_en h h' hi hj]
theorem still_en {n i j : Nat} (hi : i < n) (hj : j < n) : en (still n) i j = if j = i then 1 else 0 := by
  unfold en still
  rw [map_getD 0 (by rw [List.length_range]; exact hi), range_getD hi, map_getD 0 (by rw [List.length_range]; exact hj), range_getD hj]
theorem led_still {n : Nat} {r : Row} (hr : r.length = n) : led r (still n) = r := by
  refine row_ext (led_len (still_sq n) _) hr fun j hj => ?_
  rw [led_get (still_sq n) hr hj, sumN_one hj fun i hi hne => by rw [still_en hi hj, if_neg (Ne.symm hne), Int.mul_zero], still_en hj hj, if_pos rfl, Int.mul_one]
theorem tcol_get {n : Nat} {t : Tab} {c : Row} (h : Sq n t) (hc : c.length = n) {i : Nat} (hi : i < n) : (tcol t c).getD i 0 = sumN n fun j => en t i j * c.getD j 0 := by
  unfold tcol
  rw [map_getD [] (by rw [h.1]; exact hi), prod_sum (h.row hi) hc]
  rfl
/-- led on, then worth: the column led back -/
theorem prod_tcol {n : Nat} {r c : Row} {t : Tab} (hr : r.length = n) (h : Sq n t) (hc : c.length = n) : prod r (tcol t c) = prod (led r t) c := by
  rw [prod_sum hr (by rw [tcol_length, h.1]), prod_sum (led_len h r) hc]
  rw [sumN_congr (g := fun i => sumN n fun j => r.getD i 0 * en t i j * c.getD j 0) fun i hi => by rw [tcol_get h hc hi, ← sumN_mulL]; exact sumN_congr fun j _ => (Int.mul_assoc ..).symm]
  rw [sumN_swap]
  refine sumN_congr fun j hj => ?_
  rw [sumN_mulR, led_get h hr hj]
def rowF (tab : Nat → Tab) (r : Row) (w : List Nat) : Row := w.foldl (fun r c => led r (tab c)) r
def tabF (tab : Nat → Tab) (n : Nat) (w : List Nat) : Tab := w.foldl (fun t c => tmul t (tab c)) (still n)
theorem rowF_app (tab : Nat → Tab) (r : Row) (v w : List Nat) : rowF tab r (v ++ w) = rowF tab (rowF tab r v) w := List.foldl_append ..
theorem rowF_snoc (tab : Nat → Tab) (r : Row) (v : List Nat) (c : Nat) : rowF tab r (v ++ [c]) = led (rowF tab r v) (tab c) := rowF_app tab r v [c]
theorem tabF_snoc (tab : Nat → Tab) (n : Nat) (v : List Nat) (c : Nat) : tabF tab n (v ++ [c]) = tmul (tabF tab n v) (tab c) := List.foldl_append ..
theorem snoc_ind {α : Type} {P : List α → Prop} (h0 : P []) (h1 : ∀ l a, P l → P (l ++ [a])) : ∀ l, P l := fun l => by
  have : ∀ m : List α, P m.reverse := fun m => by
    induction m with
    | nil => exact h0
    | cons a m ih =>
      rw [List.reverse_cons]
      exact h1 _ _ ih
  have h := this l.reverse
  rw [List.reverse_reverse] at h
  exact h
/-- all signs of w have tables of size n -/
def Ok (tab : Nat → Tab) (n : Nat) (w : List Nat) : Prop := ∀ c ∈ w, Sq n (tab c)
theorem Ok.l {tab : Nat → Tab} {n : Nat} {v w : List Nat} (h : Ok tab n (v ++ w)) : Ok tab n v := fun c hc => h c (List.mem_append_left _ hc)
theorem Ok.r {tab : Nat → Tab} {n : Nat} {v w : List Nat} (h : Ok tab n (v ++ w)) : Ok tab n w := fun c hc => h c (List.mem_append_right _ hc)
theorem Ok.one {tab : Nat → Tab} {n : Nat} {v : List Nat} {c : Nat} (h : Ok tab n (v ++ [c])) : Sq n (tab c) := h c (List.mem_append_right _ List.mem_cons_self)
theorem rowF_len {tab : Nat → Tab} {n : Nat} {r : Row} (hr : r.length = n) {w : List Nat} : Ok tab n w → (rowF tab r w).length = n := by
  refine snoc_ind (P := fun w => Ok tab n w → (rowF tab r w).length = n) (fun _ => hr) (fun l a ih h => ?_) w
  rw [rowF_snoc, led_len h.one]
theorem tabF_sq {tab : Nat → Tab} {n : Nat} {w : List Nat} : Ok tab n w → Sq n (tabF tab n w) := by
  refine snoc_ind (P := fun w => Ok tab n w → Sq n (tabF tab n w)) (fun _ => still_sq n) (fun l a ih h => ?_) w
  rw [tabF_snoc]
  exact tmul_sq (ih h.l) h.one
theorem led_tabF {tab : Nat → Tab} {n : Nat} {r : Row} (hr : r.length = n) {w : List Nat} : Ok tab n w → led r (tabF tab n w) = rowF tab r w := by
  refine snoc_ind (P := fun w => Ok tab n w → led r (tabF tab n w) = rowF tab r w) (fun _ => led_still hr) (fun l a ih h => ?_) w
  rw [tabF_snoc, ← led_led hr (tabF_sq h.l) h.one, ih h.l, rowF_snoc]
end TM
namespace TM
theorem getD_appL {α : Type} {l m : List α} {i : Nat} {d : α} (h : i < l.length) : (l ++ m).getD i d = l.getD i d := by
  rw [List.getD_eq_getElem?_getD, List.getElem?_append_left h, ← List.getD_eq_getElem?_getD]
theorem getD_appR {α : Type} {l m : List α} {i : Nat} {d : α} : (l ++ m).getD (l.length + i) d = m.getD i d := by
  rw [List.getD_eq_getElem?_getD, List.getElem?_append_right (by omega), ← List.getD_eq_getElem?_getD]
  congr 1
  omega
theorem getD_appR' {α : Type} {l m : List α} {n i : Nat} {d : α} (h : l.length = n) : (l ++ m).getD (n + i) d = m.getD i d := by
  subst h
  exact getD_appR
theorem rep_getD {n i : Nat} : (List.replicate n (0 : Int)).getD i 0 = 0 := by
  rw [List.getD_eq_getElem?_getD, List.getElem?_replicate]
  split <;> rfl
theorem zip_range_getD {A : Tab} {i : Nat} (h : i < A.length) : ((List.range A.length).zip A).getD i (0, []) = (i, A.getD i []) := by
  have hl : i < ((List.range A.length).zip A).length := by rw [List.length_zip, List.length_range]; omega
  rw [getD_at hl, List.getElem_zip, List.getElem_range, getD_at h]
section
variable {n m : Nat} {A C B : Tab} (hA : Sq n A) (hC : Sq m C) (hB : B.length = n) (hb : ∀ r ∈ B, r.length = m)
include hA in
theorem besd_top {i : Nat} (hi : i < n) : (besd A C B).getD i [] = A.getD i [] ++ B.getD i [] := by
  unfold besd
  have hz : i < ((List.range A.length).zip A).length := by rw [List.length_zip, List.length_range, hA.1]; omega
  rw [getD_appL (by rw [List.length_map]; exact hz), map_getD (0, []) hz, zip_range_getD (by rw [hA.1]; exact hi)]
include hA hC in
theorem besd_bot {i : Nat} (hi : i < m) : (besd A C B).getD (n + i) [] = List.replicate n 0 ++ C.getD i [] := by
  unfold besd
  rw [getD_appR' (by rw [List.length_map, List.length_zip, List.length_range, hA.1, Nat.min_self]), map_getD [] (by rw [hC.1]; exact hi), hA.1]
include hA in
theorem besd11 {i j : Nat} (hi : i < n) (hj : j < n) : en (besd A C B) i j = en A i j := by
  unfold en
  rw [besd_top hA hi, getD_appL (by rw [hA.row hi]; exact hj)]
include hA in
theorem besd12 {i j : Nat} (hi : i < n) : en (besd A C B) i (n + j) = en B i j := by
  unfold en
  rw [besd_top hA hi, getD_appR' (hA.row hi)]
include hA hC in
theorem besd21 {i j : Nat} (hi : i < m) (hj : j < n) : en (besd A C B) (n + i) j = 0 := by
  unfold en
  rw [besd_bot hA hC hi, getD_appL (by rw [List.length_replicate]; exact hj), rep_getD]
include hA hC in
theorem besd22 {i j : Nat} (hi : i < m) : en (besd A C B) (n + i) (n + j) = en C i j := by
  unfold en
  rw [besd_bot hA hC hi, getD_appR' List.length_replicate]
include hA hC hB hb in
/-- a row over two, led on: the first part by itself; the second one with what comes over the bridge -/
theorem led_besd {a b : Row} (ha : a.length = n) (hbl : b.length = m) : led (a ++ b) (besd A C B) = led a A ++ (List.range m).map fun j => sumN n (fun i => a.getD i 0 * en B i j) + sumN m (fun i => b.getD i 0 * en C i j) := by
  have sq := besd_sq hA hC hB hb
  have hl : (a ++ b).length = n + m := by rw [List.length_append, ha, hbl]
  refine row_ext (led_len sq _) (by rw [List.length_append, led_len hA, List.length_map, List.length_range]) fun j hj => ?_
  rw [led_get sq hl hj, sumN_split]
  have e1 : ∀ k, sumN n (fun i => (a ++ b).getD i 0 * en (besd A C B) i k) = sumN n (fun i => a.getD i 0 * en (besd A C B) i k) := fun k => sumN_congr fun i hi => by rw [getD_appL (by rw [ha]; exact hi)]
  have e2 : ∀ k, sumN m (fun i => (a ++ b).getD (n + i) 0 * en (besd A C B) (n + i) k) = sumN m (fun i => b.getD i 0 * en (besd A C B) (n + i) k) := fun k => sumN_congr fun i hi => by rw [getD_appR' ha]
  rw [e1, e2]
  by_cases h : j < n
  · rw [sumN_z (n := m) fun i hi => by rw [besd21 hA hC hi h, Int.mul_zero], Int.add_zero, getD_appL (by rw [led_len hA]; exact h), led_get hA ha h]
    exact sumN_congr fun i hi => by rw [besd11 hA hi h]
  · obtain ⟨k, rfl⟩ : ∃ k, j = n + k := ⟨j - n, by omega⟩
    rw [getD_appR' (led_len hA _), map_getD 0 (by rw [List.length_range]; omega), range_getD (by omega)]
    congr 1
    · exact sumN_congr fun i hi => by rw [besd12 hA hi]
    · exact sumN_congr fun i hi => by rw [besd22 hA hC hi]
end
/-- no bridge -/
theorem led_besd0 {n m : Nat} {A C : Tab} (hA : Sq n A) (hC : Sq m C) {a b : Row} (ha : a.length = n) (hbl : b.length = m) {B : Tab} (hB : B.length = n) (hb : ∀ r ∈ B, r = List.replicate m 0) : led (a ++ b) (besd A C B) = led a A ++ led b C := by
  rw [led_besd hA hC hB (fun r hr => by rw [hb r hr, List.length_replicate]) ha hbl]
  congr 1
  refine row_ext (by rw [List.length_map, List.length_range]) (led_len hC _) fun j hj => ?_
  rw [map_getD 0 (by rw [List.length_range]; exact hj), range_getD hj, led_get hC hbl hj, sumN_z fun i hi => ?_, Int.zero_add]
  unfold en
  rw [hb (B.getD i []) (by rw [getD_at (by rw [hB]; exact hi)]; exact List.getElem_mem _), rep_getD, Int.mul_zero]
theorem prod_app {a b c d : Row} (h : a.length = c.length) : prod (a ++ b) (c ++ d) = prod a c + prod b d := by
  unfold prod
  rw [List.zip_append h, List.map_append, List.sum_append]
theorem prod_zeroL {n : Nat} : ∀ {b : Row}, prod (List.replicate n 0) b = 0 := by
  induction n with
  | zero => intro b; rfl
  | succ n ih =>
    intro b
    cases b with
    | nil => rfl
    | cons y b => rw [List.replicate_succ, prod_cons, ih]; omega
theorem prod_zeroR {n : Nat} : ∀ {a : Row}, prod a (List.replicate n 0) = 0 := by
  induction n with
  | zero => intro a; cases a <;> rfl
  | succ n ih =>
    intro a
    cases a with
    | nil => rfl
    | cons y a => rw [List.replicate_succ, prod_cons, ih]; omega
theorem prod_neg {a : Row} (k : Int) : ∀ {b : Row}, prod a (b.map fun e => k * e) = k * prod a b := by
  induction a with
  | nil => intro b; exact (Int.mul_zero k).symm
  | cons x a ih =>
    intro b
    cases b with
    | nil => exact (Int.mul_zero k).symm
    | cons y b =>
      rw [List.map_cons, prod_cons, prod_cons, ih, Int.mul_add]
      congr 1
      rw [Int.mul_left_comm]
/-- sums: the row is both rows -/
theorem add_row {n m : Nat} {ta tc : Nat → Tab} {B : Nat → Tab} {a b : Row} (ha : a.length = n) (hb : b.length = m) {w : List Nat} (o1 : Ok ta n w) (o2 : Ok tc m w) (hB : ∀ c ∈ w, (B c).length = n ∧ ∀ r ∈ B c, r = List.replicate m 0) :
    rowF (fun c => besd (ta c) (tc c) (B c)) (a ++ b) w = rowF ta a w ++ rowF tc b w := by
  revert o1 o2 hB
  refine snoc_ind (P := fun w => Ok ta n w → Ok tc m w → (∀ c ∈ w, (B c).length = n ∧ ∀ r ∈ B c, r = List.replicate m 0) → rowF (fun c => besd (ta c) (tc c) (B c)) (a ++ b) w = rowF ta a w ++ rowF tc b w) (fun _ _ _ => rfl) (fun l c ih o1 o2 hB => ?_) w
  obtain ⟨b1, b2⟩ := hB c (List.mem_append_right _ List.mem_cons_self)
  rw [rowF_snoc, rowF_snoc, rowF_snoc, ih o1.l o2.l fun d hd => hB d (List.mem_append_left _ hd), led_besd0 o1.one o2.one (rowF_len ha o1.l) (rowF_len hb o2.l) b1 b2]
def mbr0 (c t : List Int) : List (List Int) := c.map fun w => t.map fun k => w * k
/-- what is met: the second part is the sum over the cuts -/
theorem met_row {n m : Nat} {ta tc : Nat → Tab} {a b ea : Row} (ha : a.length = n) (hb : b.length = m) (he : ea.length = n) {w : List Nat} (o1 : Ok ta n w) (o2 : Ok tc m w) :
    rowF (fun c => besd (ta c) (tc c) (mbr0 (tcol (ta c) ea) b)) (a ++ b.map fun k => prod a ea * k) w = rowF ta a w ++ (List.range m).map fun j => sumN (w.length + 1) fun i => prod (rowF ta a (w.take i)) ea * (rowF tc b (w.drop i)).getD j 0 := by
  revert o1 o2
  refine snoc_ind (P := fun w => Ok ta n w → Ok tc m w → rowF (fun c => besd (ta c) (tc c) (mbr0 (tcol (ta c) ea) b)) (a ++ b.map fun k => prod a ea * k) w = rowF ta a w ++ (List.range m).map fun j => sumN (w.length + 1) fun i => prod (rowF ta a (w.take i)) ea * (rowF tc b (w.drop i)).getD j 0) (fun _ _ => ?_) (fun l c ih o1 o2 => ?_) w
  · show a ++ _ = a ++ _
    congr 1
    refine row_ext (n := m) (by rw [List.length_map, hb]) (by rw [List.length_map, List.length_range]) fun j hj => ?_
    rw [map_getD 0 (by rw [hb]; exact hj), map_getD 0 (by rw [List.length_range]; exact hj), range_getD hj]
    exact (Int.zero_add _).symm
  · have ra := rowF_len ha o1.l
    have bl : (mbr0 (tcol (ta c) ea) b).length = n := by
      unfold mbr0
      rw [List.length_map, tcol_length, o1.one.1]
    rw [rowF_snoc, ih o1.l o2.l, led_besd o1.one o2.one bl (fun r hr => by
      obtain ⟨x, _, rfl⟩ := List.mem_map.mp hr
      rw [List.length_map, hb]) ra (by rw [List.length_map, List.length_range]), ← rowF_snoc]
    congr 1
    refine row_ext (n := m) (by rw [List.length_map, List.length_range]) (by rw [List.length_map, List.length_range]) fun j hj => ?_
    rw [map_getD 0 (by rw [List.length_range]; exact hj), range_getD hj, map_getD 0 (by rw [List.length_range]; exact hj), range_getD hj, List.length_append]
    show _ = sumN (l.length + 1) _ + _
    rw [Int.add_comm]
    congr 1
    · rw [sumN_congr (n := m) (g := fun k => sumN (l.length + 1) fun i => prod (rowF ta a (l.take i)) ea * ((rowF tc b (l.drop i)).getD k 0 * en (tc c) k j)) fun k hk => by
        rw [map_getD 0 (by rw [List.length_range]; exact hk), range_getD hk, ← sumN_mulR]
        exact sumN_congr fun i _ => Int.mul_assoc .., sumN_swap]
      refine sumN_congr fun i hi => ?_
      rw [sumN_mulL, List.take_append_of_le_length (by omega), List.drop_append_of_le_length (by omega), rowF_snoc, led_get o2.one (rowF_len hb fun d hd => o2.l d (List.mem_of_mem_drop hd)) hj]
    · show _ = prod (rowF ta a ((l ++ [c]).take (l.length + 1))) ea * (rowF tc b ((l ++ [c]).drop (l.length + 1))).getD j 0
      rw [List.take_of_length_le (by rw [List.length_append]; exact Nat.le_refl _), List.drop_eq_nil_of_le (by rw [List.length_append]; exact Nat.le_refl _)]
      show _ = _ * b.getD j 0
      rw [rowF_snoc, ← prod_tcol ra o1.one he, prod_sum ra (by rw [tcol_length, o1.one.1]), ← sumN_mulR]
      refine sumN_congr fun i hi => ?_
      rw [Int.mul_assoc]
      congr 1
      unfold en mbr0
      rw [map_getD 0 (by rw [tcol_length, o1.one.1]; exact hi), map_getD 0 (by rw [hb]; exact hj)]
/-- .. its worth -/
theorem met_worth {n m : Nat} {ta tc : Nat → Tab} {a b ea eb : Row} (ha : a.length = n) (hb : b.length = m) (he : ea.length = n) (hf : eb.length = m) {w : List Nat} (o1 : Ok ta n w) (o2 : Ok tc m w) :
    prod (rowF (fun c => besd (ta c) (tc c) (mbr0 (tcol (ta c) ea) b)) (a ++ b.map fun k => prod a ea * k) w) (List.replicate n 0 ++ eb) = sumN (w.length + 1) fun i => prod (rowF ta a (w.take i)) ea * prod (rowF tc b (w.drop i)) eb := by
  rw [met_row ha hb he o1 o2, prod_app (by rw [rowF_len ha o1, List.length_replicate]), prod_zeroR, Int.zero_add, prod_sum (by rw [List.length_map, List.length_range]) hf]
  rw [sumN_congr (g := fun j => sumN (w.length + 1) fun i => prod (rowF ta a (w.take i)) ea * ((rowF tc b (w.drop i)).getD j 0 * eb.getD j 0)) fun j hj => by
    rw [map_getD 0 (by rw [List.length_range]; exact hj), range_getD hj, ← sumN_mulR]
    exact sumN_congr fun i _ => Int.mul_assoc .., sumN_swap]
  refine sumN_congr fun i hi => ?_
  rw [sumN_mulL, prod_sum (rowF_len hb fun d hd => o2 d (List.mem_of_mem_drop hd)) hf]
end TM
namespace TM
/-- all words of k signs, in order -/
def words (cs : List Nat) : Nat → List (List Nat)
  | 0 => [[]]
  | k + 1 => cs.flatMap fun c => (words cs k).map fun w => c :: w
theorem words_len {cs : List Nat} : ∀ {k : Nat} {w : List Nat}, w ∈ words cs k → w.length = k
  | 0, w, h => by rw [List.mem_singleton.mp h]; rfl
  | k + 1, w, h => by
    obtain ⟨c, _, h2⟩ := List.mem_flatMap.mp h
    obtain ⟨v, h3, rfl⟩ := List.mem_map.mp h2
    rw [List.length_cons, words_len h3]
theorem words_sub {cs : List Nat} : ∀ {k : Nat} {w : List Nat}, w ∈ words cs k → ∀ c ∈ w, c ∈ cs
  | 0, w, h => by rw [List.mem_singleton.mp h]; exact fun c hc => by cases hc
  | k + 1, w, h => by
    obtain ⟨c, h1, h2⟩ := List.mem_flatMap.mp h
    obtain ⟨v, h3, rfl⟩ := List.mem_map.mp h2
    intro d hd
    rcases List.mem_cons.mp hd with rfl | hd
    · exact h1
    · exact words_sub h3 d hd
theorem words_mem {cs : List Nat} : ∀ {w : List Nat}, (∀ c ∈ w, c ∈ cs) → w ∈ words cs w.length
  | [], _ => List.mem_singleton.mpr rfl
  | c :: w, h => List.mem_flatMap.mpr ⟨c, h c List.mem_cons_self, List.mem_map.mpr ⟨w, words_mem fun d hd => h d (List.mem_cons_of_mem _ hd), rfl⟩⟩
theorem zip_getD {α β : Type} {l : List α} {m : List β} {i : Nat} {d : α} {e : β} (h : i < l.length) (h' : i < m.length) : (l.zip m).getD i (d, e) = (l.getD i d, m.getD i e) := by
  rw [getD_at (by rw [List.length_zip]; omega), List.getElem_zip, getD_at h, getD_at h']
theorem tadd_en {n : Nat} {t u : Tab} (h : Sq n t) (h' : Sq n u) {i j : Nat} (hi : i < n) (hj : j < n) : en (tadd t u) i j = en t i j + en u i j := by
  unfold en tadd
  rw [map_getD ([], []) (by rw [List.length_zip, h.1, h'.1]; omega), zip_getD (by rw [h.1]; exact hi) (by rw [h'.1]; exact hi)]
  show (radd (t.getD i []) (u.getD i [])).getD j 0 = _
  have l1 := h.row hi
  have l2 := h'.row hi
  unfold radd
  rw [map_getD (0, 0) (by rw [List.length_zip, l1, l2]; omega), zip_getD (by omega) (by omega)]
theorem foldT_en {n : Nat} : ∀ {ts : List Tab} {R : Tab}, Sq n R → (∀ t ∈ ts, Sq n t) → ∀ {i j : Nat}, i < n → j < n → en (ts.foldl tadd R) i j = en R i j + lsum ts fun t => en t i j
  | [], R, _, _, i, j, _, _ => (Int.add_zero _).symm
  | t :: ts, R, h, hs, i, j, hi, hj => by
    rw [List.foldl_cons, foldT_en (tadd_sq h (hs t List.mem_cons_self)) (fun u hu => hs u (List.mem_cons_of_mem _ hu)) hi hj, tadd_en h (hs t List.mem_cons_self) hi hj]
    show _ = _ + (en t i j + lsum ts fun t => en t i j)
    exact Int.add_assoc ..
theorem zeros_en {n m i j : Nat} : en (List.replicate n (List.replicate m 0)) i j = 0 := by
  unfold en
  rw [List.getD_eq_getElem?_getD (l := List.replicate n (List.replicate m 0)), List.getElem?_replicate]
  split
  · exact rep_getD
  · rfl
theorem whole_en {n : Nat} {ts : List Tab} (hs : ∀ t ∈ ts, Sq n t) {i j : Nat} (hi : i < n) (hj : j < n) : en (whole n ts) i j = lsum ts fun t => en t i j := by
  unfold whole
  rw [foldT_en (zero_ok n 0).1 hs hi hj, zeros_en, Int.zero_add]
theorem whole_sq {n : Nat} {ts : List Tab} (hs : ∀ t ∈ ts, Sq n t) : Sq n (whole n ts) := by
  have : ∀ (ts : List Tab) (R : Tab), Sq n R → (∀ t ∈ ts, Sq n t) → Sq n (ts.foldl tadd R) := fun ts => by
    induction ts with
    | nil => exact fun R h _ => h
    | cons t ts ih => exact fun R h hs => ih _ (tadd_sq h (hs t List.mem_cons_self)) fun u hu => hs u (List.mem_cons_of_mem _ hu)
  exact this ts _ (zero_ok n 0).1 hs
theorem colIt_len {n : Nat} {t : Tab} {e : Row} (h : Sq n t) (he : e.length = n) : ∀ k, (colIt t e k).length = n
  | 0 => he
  | k + 1 => by
    show (tcol t _).length = n
    rw [tcol_length, h.1]
/-- a row times the column of a length: the sum over all words of it -/
theorem col_sum {n : Nat} {tab : Nat → Tab} {cs : List Nat} (hs : ∀ c ∈ cs, Sq n (tab c)) {e : Row} (he : e.length = n) : ∀ (k : Nat) {r : Row}, r.length = n → prod r (colIt (whole n (cs.map tab)) e k) = lsum (words cs k) fun v => prod (rowF tab r v) e
  | 0, r, hr => (Int.add_zero _).symm
  | k + 1, r, hr => by
    have hs' : ∀ t ∈ cs.map tab, Sq n t := fun t ht => by
      obtain ⟨c, hc, rfl⟩ := List.mem_map.mp ht
      exact hs c hc
    have sq := whole_sq hs'
    have lc := colIt_len sq he k
    show prod r (tcol _ _) = _
    rw [prod_tcol hr sq lc, prod_sum (led_len sq r) lc]
    rw [sumN_congr (g := fun j => lsum cs fun c => (led r (tab c)).getD j 0 * (colIt (whole n (cs.map tab)) e k).getD j 0) fun j hj => by
      rw [lsum_mulR, led_get sq hr hj]
      congr 1
      rw [sumN_congr (g := fun i => lsum cs fun c => r.getD i 0 * en (tab c) i j) fun i hi => ?_, ← lsum_sumN]
      · exact lsum_congr fun c hc => (led_get (hs c hc) hr hj).symm
      · rw [whole_en hs' hi hj, lsum_map, Int.mul_comm, ← lsum_mulR]
        exact lsum_congr fun c _ => Int.mul_comm ..]
    rw [← lsum_sumN]
    show _ = lsum (cs.flatMap _) _
    rw [lsum_flatMap]
    refine lsum_congr fun c hc => ?_
    rw [← prod_sum (led_len (hs c hc) r) lc, col_sum hs he k (led_len (hs c hc) r), lsum_map]
    rfl
theorem set_getD {α : Type} {l : List α} {i j : Nat} {x d : α} (hi : i < l.length) : (l.set i x).getD j d = if i = j then x else l.getD j d := by
  rw [List.getD_eq_getElem?_getD, List.getD_eq_getElem?_getD, List.getElem?_set]
  by_cases h : i = j
  · subst h
    rw [if_pos rfl, if_pos hi, if_pos rfl]
    rfl
  · rw [if_neg h, if_neg h]
theorem addAt_en {N : Nat} {R : Tab} (h : Sq N R) {r c : Nat} (hr : r < N) (hc : c < N) (x : Int) (i j : Nat) : en (addAt R r c x) i j = en R i j + if i = r ∧ j = c then x else 0 := by
  unfold addAt en
  rw [set_getD (by rw [h.1]; exact hr)]
  by_cases e : r = i
  · subst e
    rw [if_pos rfl, set_getD (by rw [h.row hr]; exact hc)]
    by_cases e2 : c = j
    · subst e2
      rw [if_pos rfl, if_pos ⟨rfl, rfl⟩]
    · rw [if_neg e2, if_neg fun z => e2 z.2.symm, Int.add_zero]
  · rw [if_neg e, if_neg fun z => e z.1.symm, Int.add_zero]
/-- entry j of a row put from column b on -/
def shR (b : Nat) (row : Row) (j : Nat) : Int := if b ≤ j ∧ j < b + row.length then row.getD (j - b) 0 else 0
theorem addRow_en {N : Nat} {r b : Nat} (hr : r < N) : ∀ (row : Row) {R : Tab}, Sq N R → b + row.length ≤ N → ∀ (i j : Nat), en (addRow R r b row) i j = en R i j + if i = r then shR b row j else 0 := by
  have key : ∀ (row : Row) (k : Nat) {R : Tab}, Sq N R → b + k + row.length ≤ N → ∀ i j, en (((List.range' k row.length).zip row).foldl (fun R p => addAt R r (b + p.1) p.2) R) i j = en R i j + if i = r then shR (b + k) row j else 0 := fun row => by
    induction row with
    | nil =>
      intro k R h hb i j
      show en R i j = _
      have : shR (b + k) [] j = 0 := by
        unfold shR
        split <;> rfl
      rw [this]
      split <;> omega
    | cons x row ih =>
      intro k R h hb i j
      rw [List.length_cons] at hb
      rw [List.length_cons, List.range'_succ, List.zip_cons_cons, List.foldl_cons, ih (k + 1) (addAt_sq h _ _ _) (by omega), addAt_en h hr (by omega)]
      by_cases e : i = r
      · subst e
        rw [if_pos rfl, if_pos rfl]
        unfold shR
        rw [List.length_cons]
        by_cases e2 : j = b + k
        · subst e2
          rw [if_pos ⟨rfl, rfl⟩, if_neg (by omega), if_pos (by omega), Nat.sub_self]
          show _ + x + 0 = _ + x
          omega
        · rw [if_neg fun z => e2 z.2]
          by_cases e3 : b + (k + 1) ≤ j ∧ j < b + (k + 1) + row.length
          · rw [if_pos e3, if_pos (by omega), show j - (b + k) = (j - (b + (k + 1))) + 1 by omega]
            show _ + 0 + row.getD _ 0 = _ + row.getD _ 0
            omega
          · rw [if_neg e3, if_neg (by omega)]
            omega
      · rw [if_neg fun z => e z.1, if_neg e, if_neg e]
        omega
  intro row R h hb i j
  have := key row 0 h (by omega) i j
  unfold addRow
  rw [List.range_eq_range']
  exact this
theorem addRow_sqF {N : Nat} {R : Tab} (h : Sq N R) (r b : Nat) (row : Row) : Sq N (addRow R r b row) := addRow_sq r b _ h
/-- entry of a table put from row rb, column cb on -/
def shT (rb cb : Nat) (t : Tab) (i j : Nat) : Int := if rb ≤ i ∧ i < rb + t.length then shR cb (t.getD (i - rb) []) j else 0
theorem addTab_en {N n : Nat} {rb cb : Nat} : ∀ (t : Tab) {R : Tab}, Sq N R → (∀ r ∈ t, r.length = n) → cb + n ≤ N → rb + t.length ≤ N → ∀ (i j : Nat), en (addTab R rb cb t) i j = en R i j + shT rb cb t i j := by
  have key : ∀ (t : Tab) (k : Nat) {R : Tab}, Sq N R → (∀ r ∈ t, r.length = n) → cb + n ≤ N → rb + k + t.length ≤ N → ∀ i j, en (((List.range' k t.length).zip t).foldl (fun R p => addRow R (rb + p.1) cb p.2) R) i j = en R i j + shT (rb + k) cb t i j := fun t => by
    induction t with
    | nil =>
      intro k R h _ _ hb i j
      show en R i j = _
      have : shT (rb + k) cb [] i j = 0 := by
        unfold shT
        rw [if_neg (by rw [List.length_nil]; omega)]
      rw [this]
      omega
    | cons x t ih =>
      intro k R h hw hc hb i j
      have hx := hw x List.mem_cons_self
      rw [List.length_cons] at hb
      rw [List.length_cons, List.range'_succ, List.zip_cons_cons, List.foldl_cons, ih (k + 1) (addRow_sqF h _ _ _) (fun r hr => hw r (List.mem_cons_of_mem _ hr)) hc (by omega), addRow_en (by omega) x h (by omega)]
      unfold shT
      rw [List.length_cons]
      by_cases e : i = rb + k
      · subst e
        rw [if_pos rfl, if_neg (by omega), if_pos (by omega), Nat.sub_self]
        show _ + _ + 0 = _ + shR cb x j
        omega
      · rw [if_neg e]
        by_cases e3 : rb + (k + 1) ≤ i ∧ i < rb + (k + 1) + t.length
        · rw [if_pos e3, if_pos (by omega), show i - (rb + k) = (i - (rb + (k + 1))) + 1 by omega]
          show _ + 0 + shR cb (t.getD _ []) j = _ + shR cb (t.getD _ []) j
          omega
        · rw [if_neg e3, if_neg (by omega)]
          omega
  intro t R h hw hc hb i j
  have := key t 0 h hw hc (by omega) i j
  unfold addTab
  rw [List.range_eq_range']
  exact this
theorem addTab_sqF {N : Nat} {R : Tab} (h : Sq N R) (rb cb : Nat) (t : Tab) : Sq N (addTab R rb cb t) := addTab_sq rb cb _ h
end TM
namespace TM
/-- block p of a row -/
def blk (n : Nat) (r : Row) (p : Nat) : Row := (r.drop (p * n)).take n
theorem mul_le_of {n K p : Nat} (hp : p < K) : p * n + n ≤ n * K := by
  have : (p + 1) * n ≤ K * n := Nat.mul_le_mul_right n hp
  rw [Nat.add_mul, Nat.one_mul] at this
  rw [Nat.mul_comm n K]
  exact this
theorem blk_len {n K : Nat} {r : Row} (hr : r.length = n * K) {p : Nat} (hp : p < K) : (blk n r p).length = n := by
  have := mul_le_of (n := n) hp
  unfold blk
  rw [List.length_take, List.length_drop]
  omega
theorem blk_get {n : Nat} {r : Row} {p i : Nat} (hi : i < n) : (blk n r p).getD i 0 = r.getD (p * n + i) 0 := by
  unfold blk
  rw [List.getD_eq_getElem?_getD, List.getD_eq_getElem?_getD, List.getElem?_take_of_lt hi, List.getElem?_drop]
def blkT (n : Nat) (N : Nat) (ms : List (Nat × Nat × Tab)) : Tab := ms.foldl (fun R m => addTab R (m.1 * n) (m.2.1 * n) m.2.2) (List.replicate N (List.replicate N 0))
theorem blkT_sq (n N : Nat) (ms : List (Nat × Nat × Tab)) : Sq N (blkT n N ms) := by
  have : ∀ (ms : List (Nat × Nat × Tab)) (R : Tab), Sq N R → Sq N (ms.foldl (fun R m => addTab R (m.1 * n) (m.2.1 * n) m.2.2) R) := fun ms => by
    induction ms with
    | nil => exact fun R h => h
    | cons m ms ih => exact fun R h => ih _ (addTab_sqF h _ _ _)
  exact this ms _ (zero_ok N 0).1
theorem blkT_en {n K : Nat} {ms : List (Nat × Nat × Tab)} (hm : ∀ m ∈ ms, m.1 < K ∧ m.2.1 < K ∧ Sq n m.2.2) (i j : Nat) : en (blkT n (n * K) ms) i j = lsum ms fun m => shT (m.1 * n) (m.2.1 * n) m.2.2 i j := by
  have : ∀ (ms : List (Nat × Nat × Tab)) (R : Tab), Sq (n * K) R → (∀ m ∈ ms, m.1 < K ∧ m.2.1 < K ∧ Sq n m.2.2) → en (ms.foldl (fun R m => addTab R (m.1 * n) (m.2.1 * n) m.2.2) R) i j = en R i j + lsum ms fun m => shT (m.1 * n) (m.2.1 * n) m.2.2 i j := fun ms => by
    induction ms with
    | nil => exact fun R _ _ => (Int.add_zero _).symm
    | cons m ms ih =>
      intro R h hm
      obtain ⟨h1, h2, h3⟩ := hm m List.mem_cons_self
      have q1 := mul_le_of (n := n) h1
      have q2 := mul_le_of (n := n) h2
      rw [List.foldl_cons, ih _ (addTab_sqF h _ _ _) fun m' hm' => hm m' (List.mem_cons_of_mem _ hm'), addTab_en m.2.2 h h3.2 q2 (by rw [h3.1]; exact q1)]
      show _ + _ + _ = _ + (shT (m.1 * n) (m.2.1 * n) m.2.2 i j + _)
      exact Int.add_assoc ..
  unfold blkT
  rw [this ms _ (zero_ok _ 0).1 hm, zeros_en, Int.zero_add]
theorem shT_in {n p q q' i j : Nat} {t : Tab} (sq : Sq n t) (hi : i < n) (hj : j < n) : shT (p * n) (q * n) t (p * n + i) (q' * n + j) = if q = q' then en t i j else 0 := by
  unfold shT
  rw [if_pos (by rw [sq.1]; omega), Nat.add_sub_cancel_left]
  unfold shR
  rw [sq.row hi]
  by_cases e : q = q'
  · subst e
    rw [if_pos rfl, if_pos (by omega), Nat.add_sub_cancel_left]
    rfl
  · rw [if_neg e, if_neg]
    intro ⟨h1, h2⟩
    rcases Nat.lt_or_gt_of_ne e with h | h
    · have : (q + 1) * n ≤ q' * n := Nat.mul_le_mul_right n h
      rw [Nat.add_mul, Nat.one_mul] at this
      omega
    · have : (q' + 1) * n ≤ q * n := Nat.mul_le_mul_right n h
      rw [Nat.add_mul, Nat.one_mul] at this
      omega
theorem shT_out {n p cb i j : Nat} {t : Tab} (sq : Sq n t) (h : i < p * n ∨ p * n + n ≤ i) : shT (p * n) cb t i j = 0 := by
  unfold shT
  rw [if_neg (by rw [sq.1]; omega)]
/-- one step: block q takes what the moves into q bring -/
theorem blk_step {n K : Nat} {ms : List (Nat × Nat × Tab)} (hm : ∀ m ∈ ms, m.1 < K ∧ m.2.1 < K ∧ Sq n m.2.2) {r : Row} (hr : r.length = n * K) {q j : Nat} (hq : q < K) (hj : j < n) :
    (blk n (led r (blkT n (n * K) ms)) q).getD j 0 = lsum ms fun m => if m.2.1 = q then sumN n fun i => (blk n r m.1).getD i 0 * en m.2.2 i j else 0 := by
  have hqn := mul_le_of (n := n) hq
  rw [blk_get hj, led_get (blkT_sq n (n * K) ms) hr (by omega)]
  rw [sumN_congr (g := fun i => lsum ms fun m => r.getD i 0 * shT (m.1 * n) (m.2.1 * n) m.2.2 i (q * n + j)) fun i hi => by
    rw [blkT_en hm, Int.mul_comm, ← lsum_mulR]
    exact lsum_congr fun m _ => Int.mul_comm .., ← lsum_sumN]
  refine lsum_congr fun m hmm => ?_
  obtain ⟨h1, h2, sq⟩ := hm m hmm
  have hp := mul_le_of (n := n) h1
  obtain ⟨d, hd⟩ : ∃ d, n * K = m.1 * n + (n + d) := ⟨n * K - (m.1 * n + n), by omega⟩
  rw [hd, sumN_split, sumN_split, sumN_z fun i hi => by rw [shT_out sq (.inl hi), Int.mul_zero], Int.zero_add]
  rw [sumN_z (n := d) fun i hi => by rw [shT_out sq (.inr (by omega)), Int.mul_zero], Int.add_zero]
  by_cases e : m.2.1 = q
  · rw [if_pos e]
    exact sumN_congr fun i hi => by rw [shT_in sq hi hj, if_pos e, blk_get hi]
  · rw [if_neg e]
    exact sumN_z fun i hi => by rw [shT_in sq hi hj, if_neg e, Int.mul_zero]
/-- moves by place read, place reached, sign written; words that are written on the way to a place -/
structure Path (cs : List Nat) (K : Nat) (ms : Nat → List (Nat × Nat × Nat)) (pth : Nat → List Nat → List (List Nat)) : Prop where
  mv : ∀ c ∈ cs, ∀ m ∈ ms c, m.1 < K ∧ m.2.1 < K ∧ m.2.2 ∈ cs
  z : ∀ p, pth p [] = if p = 0 then [[]] else []
  st : ∀ (q c : Nat) (w : List Nat) (f : List Nat → Int), q < K → c ∈ cs → (∀ d ∈ w, d ∈ cs) → lsum (pth q (w ++ [c])) f = lsum (ms c) fun m => if m.2.1 = q then lsum (pth m.1 w) fun v => f (v ++ [m.2.2]) else 0
  sub : ∀ (p : Nat) (w : List Nat), (∀ d ∈ w, d ∈ cs) → ∀ v ∈ pth p w, ∀ d ∈ v, d ∈ cs
def msT (tab : Nat → Tab) (ms : List (Nat × Nat × Nat)) : List (Nat × Nat × Tab) := ms.map fun m => (m.1, m.2.1, tab m.2.2)
theorem thru_rows {cs : List Nat} {n K : Nat} {tab : Nat → Tab} {ms : Nat → List (Nat × Nat × Nat)} {pth : Nat → List Nat → List (List Nat)} (P : Path cs K ms pth) (hs : ∀ c ∈ cs, Sq n (tab c)) {st r0 : Row} (hst : st.length = n) (hr : r0.length = n * K)
    (h0 : ∀ p j, p < K → j < n → (blk n r0 p).getD j 0 = if p = 0 then st.getD j 0 else 0) (w : List Nat) (hw : ∀ d ∈ w, d ∈ cs) : ∀ p j, p < K → j < n → (blk n (rowF (fun c => blkT n (n * K) (msT tab (ms c))) r0 w) p).getD j 0 = lsum (pth p w) fun v => (rowF tab st v).getD j 0 := by
  revert hw
  refine snoc_ind (P := fun w => (∀ d ∈ w, d ∈ cs) → ∀ p j, p < K → j < n → (blk n (rowF (fun c => blkT n (n * K) (msT tab (ms c))) r0 w) p).getD j 0 = lsum (pth p w) fun v => (rowF tab st v).getD j 0) (fun _ p j hp hj => ?_) (fun l c ih hw p j hp hj => ?_) w
  · show (blk n r0 p).getD j 0 = _
    rw [h0 p j hp hj, P.z]
    split
    · exact (Int.add_zero _).symm
    · rfl
  · have hl : ∀ d ∈ l, d ∈ cs := fun d hd => hw d (List.mem_append_left _ hd)
    have hc : c ∈ cs := hw c (List.mem_append_right _ List.mem_cons_self)
    have hm : ∀ m ∈ msT tab (ms c), m.1 < K ∧ m.2.1 < K ∧ Sq n m.2.2 := fun m hm => by
      obtain ⟨m', hm', rfl⟩ := List.mem_map.mp hm
      obtain ⟨q1, q2, q3⟩ := P.mv c hc m' hm'
      exact ⟨q1, q2, hs _ q3⟩
    have hlen : (rowF (fun c => blkT n (n * K) (msT tab (ms c))) r0 l).length = n * K := rowF_len hr fun d _ => blkT_sq ..
    rw [TM.rowF_snoc, blk_step hm hlen hp hj, P.st p c l _ hp hc hl]
    refine (lsum_map (ms c) (fun m => (m.1, m.2.1, tab m.2.2)) _).trans (lsum_congr fun m hmm => ?_)
    obtain ⟨q1, q2, q3⟩ := P.mv c hc m hmm
    show (if m.2.1 = p then sumN n fun i => (blk n (rowF (fun c => blkT n (n * K) (msT tab (ms c))) r0 l) m.1).getD i 0 * en (tab m.2.2) i j else 0) = _
    by_cases e : m.2.1 = p
    · rw [if_pos e, if_pos e]
      rw [sumN_congr (g := fun i => lsum (pth m.1 l) fun v => (rowF tab st v).getD i 0 * en (tab m.2.2) i j) fun i hi => by rw [ih hl m.1 i q1 hi, ← lsum_mulR], ← lsum_sumN]
      refine lsum_congr fun v hv => ?_
      rw [rowF_snoc, led_get (hs _ q3) (rowF_len hst fun d hd => hs d (P.sub m.1 l hl v hv d hd)) hj]
    · rw [if_neg e, if_neg e]
/-- the worth: block by block -/
theorem thru_blk {cs : List Nat} {n K : Nat} {tab : Nat → Tab} {ms : Nat → List (Nat × Nat × Nat)} {pth : Nat → List Nat → List (List Nat)} (P : Path cs K ms pth) (hs : ∀ c ∈ cs, Sq n (tab c)) {st r0 e : Row} (hst : st.length = n) (he : e.length = n) (hr : r0.length = n * K)
    (h0 : ∀ p j, p < K → j < n → (blk n r0 p).getD j 0 = if p = 0 then st.getD j 0 else 0) (w : List Nat) (hw : ∀ d ∈ w, d ∈ cs) {p : Nat} (hp : p < K) : prod (blk n (rowF (fun c => blkT n (n * K) (msT tab (ms c))) r0 w) p) e = lsum (pth p w) fun v => prod (rowF tab st v) e := by
  have hlen : (rowF (fun c => blkT n (n * K) (msT tab (ms c))) r0 w).length = n * K := rowF_len hr fun d _ => blkT_sq ..
  rw [prod_sum (blk_len hlen hp) he, sumN_congr (g := fun j => lsum (pth p w) fun v => (rowF tab st v).getD j 0 * e.getD j 0) fun j hj => by rw [thru_rows P hs hst hr h0 w hw p j hp hj, ← lsum_mulR], ← lsum_sumN]
  refine lsum_congr fun v hv => ?_
  rw [prod_sum (rowF_len hst fun d hd => hs d (P.sub p w hw v hv d hd)) he]
/-- the ends of two blocks -/
theorem prod_two {n : Nat} {r e0 e1 : Row} (hr : r.length = n * 2) (h0 : e0.length = n) : prod r (e0 ++ e1) = prod (blk n r 0) e0 + prod (blk n r 1) e1 := by
  have e : r = blk n r 0 ++ blk n r 1 := by
    unfold blk
    rw [Nat.zero_mul, Nat.one_mul, List.drop_zero, List.take_of_length_le (l := r.drop n) (by rw [List.length_drop]; omega), List.take_append_drop]
  conv => lhs; rw [e]
  exact prod_app (by rw [blk_len hr (by decide), h0])
theorem prod_one {n : Nat} {r e0 : Row} (hr : r.length = n * 1) : prod r e0 = prod (blk n r 0) e0 := by
  unfold blk
  rw [Nat.zero_mul, List.drop_zero, List.take_of_length_le (by omega)]
/-- bound of the entries -/
theorem blkT_bd {n K b : Nat} {ms : List (Nat × Nat × Tab)} (hm : ∀ m ∈ ms, m.1 < K ∧ m.2.1 < K ∧ Sq n m.2.2) (hb : ∀ m ∈ ms, BdT b m.2.2) (hl : ms.length < 128) : BdT (b + 7) (blkT n (n * K) ms) := by
  have one : ∀ m ∈ ms, ∀ i j, (shT (m.1 * n) (m.2.1 * n) m.2.2 i j).natAbs < 2 ^ b := fun m hmm i j => by
    unfold shT shR
    split
    · split
      · rw [getD_at (l := m.2.2) (by omega)]
        exact mem_getD (hb m hmm _ (List.getElem_mem _))
      · exact Nat.pow_pos (by decide)
    · exact Nat.pow_pos (by decide)
  have all : ∀ i j, (en (blkT n (n * K) ms) i j).natAbs < 2 ^ (b + 7) := fun i j => by
    rw [blkT_en hm]
    have : ∀ l : List (Nat × Nat × Tab), (∀ m ∈ l, m ∈ ms) → (lsum l fun m => shT (m.1 * n) (m.2.1 * n) m.2.2 i j).natAbs ≤ l.length * 2 ^ b := fun l => by
      induction l with
      | nil => exact fun _ => Nat.zero_le _
      | cons m l ih =>
        intro h
        have h1 := one m (h m List.mem_cons_self) i j
        have h2 := ih fun m' hm' => h m' (List.mem_cons_of_mem _ hm')
        have h3 := Int.natAbs_add_le (shT (m.1 * n) (m.2.1 * n) m.2.2 i j) (lsum l fun m => shT (m.1 * n) (m.2.1 * n) m.2.2 i j)
        show (shT _ _ _ i j + lsum l _).natAbs ≤ _
        rw [List.length_cons, Nat.add_mul, Nat.one_mul]
        omega
    have h := this ms fun _ h => h
    have h2 : ms.length * 2 ^ b < 128 * 2 ^ b := Nat.mul_lt_mul_of_pos_right hl (Nat.pow_pos (by decide))
    rw [Nat.pow_add, Nat.mul_comm (2 ^ b)]
    exact Nat.lt_of_le_of_lt h h2
  intro r hr x hx
  obtain ⟨i, hi, rfl⟩ := List.getElem_of_mem hr
  obtain ⟨j, hj, rfl⟩ := List.getElem_of_mem hx
  have := all i j
  unfold en at this
  rw [getD_at (l := blkT n (n * K) ms) hi, getD_at hj] at this
  exact this
end TM
namespace TM
def lessQ (cs : List Nat) (a : List Nat × List (List Nat)) (c : Nat) : List Nat × List (List Nat) := (a.1 ++ [c], (a.2.flatMap fun v => cs.map fun d => v ++ [d]) ++ (cs.filter fun d => decide (d < c)).map fun d => a.1 ++ [d])
/-- the words of the same length ahead of w, in order -/
def lessF (cs : List Nat) (w : List Nat) : List (List Nat) := (w.foldl (lessQ cs) ([], [])).2
def fst0 (cs : List Nat) : Nat := cs.headD 0
def lst0 (cs : List Nat) : Nat := cs.getLastD 0
def prv (cs : List Nat) (c : Nat) : Nat := cs.getD (cs.idxOf c - 1) 0
def predQ (cs : List Nat) (a : List Nat × List (List Nat)) (c : Nat) : List Nat × List (List Nat) := (a.1 ++ [c], if c = fst0 cs then a.2.map fun v => v ++ [lst0 cs] else [a.1 ++ [prv cs c]])
/-- the word directly ahead of w, if there is one -/
def predL (cs : List Nat) (w : List Nat) : List (List Nat) := (w.foldl (predQ cs) ([], [])).2
theorem lessQ_fst (cs : List Nat) : ∀ (w : List Nat) (a : List Nat × List (List Nat)), (w.foldl (lessQ cs) a).1 = a.1 ++ w
  | [], a => (List.append_nil _).symm
  | c :: w, a => by
    rw [List.foldl_cons, lessQ_fst cs w]
    show (a.1 ++ [c]) ++ w = _
    rw [List.append_assoc]
    rfl
theorem predQ_fst (cs : List Nat) : ∀ (w : List Nat) (a : List Nat × List (List Nat)), (w.foldl (predQ cs) a).1 = a.1 ++ w
  | [], a => (List.append_nil _).symm
  | c :: w, a => by
    rw [List.foldl_cons, predQ_fst cs w]
    show (a.1 ++ [c]) ++ w = _
    rw [List.append_assoc]
    rfl
theorem lessF_snoc (cs w : List Nat) (c : Nat) : lessF cs (w ++ [c]) = ((lessF cs w).flatMap fun v => cs.map fun d => v ++ [d]) ++ (cs.filter fun d => decide (d < c)).map fun d => w ++ [d] := by
  have e := lessQ_fst cs w ([], [])
  unfold lessF
  rw [List.foldl_append]
  show (lessQ cs (w.foldl (lessQ cs) ([], [])) c).2 = _
  unfold lessQ at e ⊢
  rw [e]
  rfl
theorem predL_snoc (cs w : List Nat) (c : Nat) : predL cs (w ++ [c]) = if c = fst0 cs then (predL cs w).map fun v => v ++ [lst0 cs] else [w ++ [prv cs c]] := by
  have e := predQ_fst cs w ([], [])
  unfold predL
  rw [List.foldl_append]
  show (predQ cs (w.foldl (predQ cs) ([], [])) c).2 = _
  unfold predQ at e ⊢
  rw [e]
  rfl
/-- signs as they are wanted -/
structure Alp (cs : List Nat) : Prop where
  f : fst0 cs ∈ cs
  l : lst0 cs ∈ cs
  p : ∀ c ∈ cs, c ≠ fst0 cs → prv cs c ∈ cs ∧ (cs.filter fun d => decide (d < c)) = (cs.filter fun d => decide (d < prv cs c)) ++ [prv cs c]
  z : (cs.filter fun d => decide (d < fst0 cs)) = []
  t : (cs.filter fun d => decide (d < lst0 cs)) ++ [lst0 cs] = cs
  np : ∀ c ∈ cs, ∀ d ∈ cs, d < c → c ≠ fst0 cs
theorem lessF_sub {cs : List Nat} (w : List Nat) : (∀ d ∈ w, d ∈ cs) → ∀ v ∈ lessF cs w, (∀ d ∈ v, d ∈ cs) ∧ v.length = w.length := by
  refine snoc_ind (P := fun w => (∀ d ∈ w, d ∈ cs) → ∀ v ∈ lessF cs w, (∀ d ∈ v, d ∈ cs) ∧ v.length = w.length) (fun _ v hv => by cases hv) (fun l c ih hw v hv => ?_) w
  have hl : ∀ d ∈ l, d ∈ cs := fun d hd => hw d (List.mem_append_left _ hd)
  rw [lessF_snoc] at hv
  rcases List.mem_append.mp hv with h | h
  · obtain ⟨u, hu, h2⟩ := List.mem_flatMap.mp h
    obtain ⟨d, hd, rfl⟩ := List.mem_map.mp h2
    obtain ⟨h3, h4⟩ := ih hl u hu
    refine ⟨fun e he => ?_, by rw [List.length_append, List.length_append, h4]; rfl⟩
    rcases List.mem_append.mp he with he | he
    · exact h3 e he
    · rw [List.mem_singleton.mp he]; exact hd
  · obtain ⟨d, hd, rfl⟩ := List.mem_map.mp h
    refine ⟨fun e he => ?_, by rw [List.length_append, List.length_append]; rfl⟩
    rcases List.mem_append.mp he with he | he
    · exact hl e he
    · rw [List.mem_singleton.mp he]; exact (List.mem_filter.mp hd).1
theorem predL_sub {cs : List Nat} (A : Alp cs) (w : List Nat) : (∀ d ∈ w, d ∈ cs) → ∀ v ∈ predL cs w, (∀ d ∈ v, d ∈ cs) ∧ v.length = w.length := by
  refine snoc_ind (P := fun w => (∀ d ∈ w, d ∈ cs) → ∀ v ∈ predL cs w, (∀ d ∈ v, d ∈ cs) ∧ v.length = w.length) (fun _ v hv => by cases hv) (fun l c ih hw v hv => ?_) w
  have hl : ∀ d ∈ l, d ∈ cs := fun d hd => hw d (List.mem_append_left _ hd)
  have hc : c ∈ cs := hw c (List.mem_append_right _ List.mem_cons_self)
  rw [predL_snoc] at hv
  by_cases e : c = fst0 cs
  · rw [if_pos e] at hv
    obtain ⟨u, hu, rfl⟩ := List.mem_map.mp hv
    obtain ⟨h3, h4⟩ := ih hl u hu
    refine ⟨fun e he => ?_, by rw [List.length_append, List.length_append, h4]; rfl⟩
    rcases List.mem_append.mp he with he | he
    · exact h3 e he
    · rw [List.mem_singleton.mp he]; exact A.l
  · rw [if_neg e] at hv
    rw [List.mem_singleton.mp hv]
    refine ⟨fun e' he => ?_, by rw [List.length_append, List.length_append]; rfl⟩
    rcases List.mem_append.mp he with he | he
    · exact hl e' he
    · rw [List.mem_singleton.mp he]; exact (A.p c hc e).1
theorem lessF_sum (cs w : List Nat) (c : Nat) (f : List Nat → Int) : lsum (lessF cs (w ++ [c])) f = (lsum (lessF cs w) fun v => lsum cs fun d => f (v ++ [d])) + lsum (cs.filter fun d => decide (d < c)) fun d => f (w ++ [d]) := by
  rw [lessF_snoc, lsum_append, lsum_flatMap, lsum_map]
  congr 1
  exact lsum_congr fun v _ => lsum_map ..
/-- what is ahead of w: nothing, or u and what is ahead of u -/
theorem less_pred {cs : List Nat} (A : Alp cs) (w : List Nat) : (∀ d ∈ w, d ∈ cs) → (predL cs w = [] ∧ ∀ f, lsum (lessF cs w) f = 0) ∨ ∃ u, predL cs w = [u] ∧ (∀ d ∈ u, d ∈ cs) ∧ ∀ f, lsum (lessF cs w) f = lsum (lessF cs u) f + f u := by
  refine snoc_ind (P := fun w => (∀ d ∈ w, d ∈ cs) → (predL cs w = [] ∧ ∀ f, lsum (lessF cs w) f = 0) ∨ ∃ u, predL cs w = [u] ∧ (∀ d ∈ u, d ∈ cs) ∧ ∀ f, lsum (lessF cs w) f = lsum (lessF cs u) f + f u) (fun _ => .inl ⟨rfl, fun _ => rfl⟩) (fun l c ih hw => ?_) w
  have hl : ∀ d ∈ l, d ∈ cs := fun d hd => hw d (List.mem_append_left _ hd)
  have hc : c ∈ cs := hw c (List.mem_append_right _ List.mem_cons_self)
  by_cases e : c = fst0 cs
  · subst e
    rcases ih hl with ⟨h1, h2⟩ | ⟨u, h1, h2, h3⟩
    · refine .inl ⟨by rw [predL_snoc, if_pos rfl, h1]; rfl, fun f => ?_⟩
      rw [lessF_sum, h2, A.z]
      rfl
    · have hu : predL cs (l ++ [fst0 cs]) = [u ++ [lst0 cs]] := by rw [predL_snoc, if_pos rfl, h1]; rfl
      refine .inr ⟨u ++ [lst0 cs], hu, (predL_sub A _ hw _ (by rw [hu]; exact List.mem_cons_self)).1, fun f => ?_⟩
      rw [lessF_sum, lessF_sum, h3, A.z]
      have et : (lsum cs fun d => f (u ++ [d])) = (lsum (cs.filter fun d => decide (d < lst0 cs)) fun d => f (u ++ [d])) + f (u ++ [lst0 cs]) := by
        have := congrArg (fun l => lsum l fun d => f (u ++ [d])) A.t
        rw [← this]
        show lsum (_ ++ _) _ = _
        rw [lsum_append]
        congr 1
        exact Int.add_zero _
      rw [et]
      show _ + 0 = _
      omega
  · obtain ⟨p1, p2⟩ := A.p c hc e
    have hu : predL cs (l ++ [c]) = [l ++ [prv cs c]] := by rw [predL_snoc, if_neg e]
    refine .inr ⟨l ++ [prv cs c], hu, (predL_sub A _ hw _ (by rw [hu]; exact List.mem_cons_self)).1, fun f => ?_⟩
    rw [lessF_sum, lessF_sum, p2, lsum_append]
    show _ + (_ + (f _ + 0)) = _
    omega
def SumF (cs : List Nat) (f : List Nat → Int) (w : List Nat) : Int := lsum (lessF cs w) f + f w
def PrvF (cs : List Nat) (f : List Nat → Int) (w : List Nat) : Int := lsum (predL cs w) f
def StepF (cs : List Nat) (f : List Nat → Int) (w : List Nat) : Int := f w - PrvF cs f w
theorem step_sum {cs : List Nat} (A : Alp cs) (f : List Nat → Int) {w : List Nat} (hw : ∀ d ∈ w, d ∈ cs) : StepF cs (SumF cs f) w = f w := by
  unfold StepF SumF PrvF
  rcases less_pred A w hw with ⟨h1, h2⟩ | ⟨u, h1, h2, h3⟩
  · rw [h1, h2]
    show 0 + f w - 0 = f w
    omega
  · rw [h1, h3]
    show _ + f w - ((_ + f u) + 0) = f w
    omega
theorem sum_step {cs : List Nat} (A : Alp cs) (f : List Nat → Int) : ∀ (n : Nat) {w : List Nat}, (∀ d ∈ w, d ∈ cs) → (lsum (lessF cs w) fun _ => 1) < n → lsum (lessF cs w) (StepF cs f) = PrvF cs f w
  | 0, w, hw, hn => by
    exfalso
    have : ∀ l : List (List Nat), 0 ≤ lsum l fun _ => 1 := fun l => by
      induction l with
      | nil => exact Int.le_refl _
      | cons a l ih =>
        show 0 ≤ 1 + lsum l _
        omega
    have := this (lessF cs w)
    omega
  | n + 1, w, hw, hn => by
    unfold PrvF
    rcases less_pred A w hw with ⟨h1, h2⟩ | ⟨u, h1, h2, h3⟩
    · rw [h1, h2]
      rfl
    · have e := h3 fun _ => 1
      rw [h1, h3, sum_step A f n h2 (by omega)]
      unfold StepF
      show _ + (f u - _) = f u + 0
      omega
theorem sum_steps {cs : List Nat} (A : Alp cs) (f : List Nat → Int) {w : List Nat} (hw : ∀ d ∈ w, d ∈ cs) : SumF cs (StepF cs f) w = f w := by
  have key := sum_step A f ((lsum (lessF cs w) fun _ => 1).toNat + 1) hw (by omega)
  unfold SumF
  rw [key]
  unfold StepF
  omega
def upM (cs : List Nat) (c : Nat) : List (Nat × Nat × Nat) := (cs.filter fun d => decide (d < c)).map (fun o => (0, 1, o)) ++ [(0, 0, c)] ++ cs.map fun o => (1, 1, o)
def upP (cs : List Nat) : Nat → List Nat → List (List Nat)
  | 0, w => [w]
  | 1, w => lessF cs w
  | _, _ => []
theorem up_path {cs : List Nat} : Path cs 2 (upM cs) (upP cs) where
  mv := fun c hc m hm => by
    unfold upM at hm
    rcases List.mem_append.mp hm with h | h
    · rcases List.mem_append.mp h with h | h
      · obtain ⟨o, ho, rfl⟩ := List.mem_map.mp h
        exact ⟨Nat.le_of_ble_eq_true rfl, Nat.le_of_ble_eq_true rfl, (List.mem_filter.mp ho).1⟩
      · rw [List.mem_singleton.mp h]
        exact ⟨Nat.le_of_ble_eq_true rfl, Nat.le_of_ble_eq_true rfl, hc⟩
    · obtain ⟨o, ho, rfl⟩ := List.mem_map.mp h
      exact ⟨Nat.le_of_ble_eq_true rfl, Nat.le_of_ble_eq_true rfl, ho⟩
  z := fun p => by
    match p with
    | 0 => rfl
    | 1 => rfl
    | _ + 2 => rfl
  st := fun q c w f hq hc hw => by
    unfold upM
    rw [lsum_append, lsum_append, lsum_map, lsum_map]
    match q, hq with
    | 0, _ =>
      show f (w ++ [c]) + 0 = lsum _ (fun _ => 0) + (f (w ++ [c]) + 0 + 0) + lsum cs (fun _ => 0)
      rw [lsum_zero, lsum_zero]
      omega
    | 1, _ =>
      show lsum (lessF cs (w ++ [c])) f = (lsum (cs.filter fun d => decide (d < c)) fun d => f (w ++ [d]) + 0) + (0 + 0) + lsum cs fun d => lsum (lessF cs w) fun v => f (v ++ [d])
      rw [lessF_sum, lsum_swap, lsum_congr (g := fun d => f (w ++ [d])) fun d _ => Int.add_zero _]
      omega
  sub := fun p w hw v hv => by
    match p with
    | 0 =>
      rw [List.mem_singleton.mp hv]
      exact hw
    | 1 => exact (lessF_sub w hw v hv).1
    | _ + 2 => cases hv
def ahM (cs : List Nat) (c : Nat) : List (Nat × Nat × Nat) := (if c = fst0 cs then [] else [(0, 1, prv cs c)]) ++ [(0, 0, c)] ++ (if c = fst0 cs then [(1, 1, lst0 cs)] else [])
def ahP (cs : List Nat) : Nat → List Nat → List (List Nat)
  | 0, w => [w]
  | 1, w => predL cs w
  | _, _ => []
theorem ah_path {cs : List Nat} (A : Alp cs) : Path cs 2 (ahM cs) (ahP cs) where
  mv := fun c hc m hm => by
    unfold ahM at hm
    rcases List.mem_append.mp hm with h | h
    · rcases List.mem_append.mp h with h | h
      · by_cases e : c = fst0 cs
        · rw [if_pos e] at h
          cases h
        · rw [if_neg e] at h
          rw [List.mem_singleton.mp h]
          exact ⟨Nat.le_of_ble_eq_true rfl, Nat.le_of_ble_eq_true rfl, (A.p c hc e).1⟩
      · rw [List.mem_singleton.mp h]
        exact ⟨Nat.le_of_ble_eq_true rfl, Nat.le_of_ble_eq_true rfl, hc⟩
    · by_cases e : c = fst0 cs
      · rw [if_pos e] at h
        rw [List.mem_singleton.mp h]
        exact ⟨Nat.le_of_ble_eq_true rfl, Nat.le_of_ble_eq_true rfl, A.l⟩
      · rw [if_neg e] at h
        cases h
  z := fun p => by
    match p with
    | 0 => rfl
    | 1 => rfl
    | _ + 2 => rfl
  st := fun q c w f hq hc hw => by
    unfold ahM
    rw [lsum_append, lsum_append]
    by_cases e : c = fst0 cs
    · rw [if_pos e, if_pos e]
      match q, hq with
      | 0, _ =>
        show f (w ++ [c]) + 0 = 0 + (f (w ++ [c]) + 0 + 0) + (0 + 0)
        omega
      | 1, _ =>
        show lsum (predL cs (w ++ [c])) f = 0 + (0 + 0) + ((lsum (predL cs w) fun v => f (v ++ [lst0 cs])) + 0)
        rw [predL_snoc, if_pos e, lsum_map]
        omega
    · rw [if_neg e, if_neg e]
      match q, hq with
      | 0, _ =>
        show f (w ++ [c]) + 0 = (0 + 0) + (f (w ++ [c]) + 0 + 0) + 0
        omega
      | 1, _ =>
        show lsum (predL cs (w ++ [c])) f = (f (w ++ [prv cs c]) + 0 + 0) + (0 + 0) + 0
        rw [predL_snoc, if_neg e]
        show f _ + 0 = _
        omega
  sub := fun p w hw v hv => by
    match p with
    | 0 =>
      rw [List.mem_singleton.mp hv]
      exact hw
    | 1 => exact (predL_sub A w hw v hv).1
    | _ + 2 => cases hv
/-- one sign alone: one place -/
theorem one_path {cs : List Nat} : Path cs 1 (fun c => [(0, 0, c)]) (fun p w => if p = 0 then [w] else []) where
  mv := fun c hc m hm => by
    rw [List.mem_singleton.mp hm]
    exact ⟨Nat.le_of_ble_eq_true rfl, Nat.le_of_ble_eq_true rfl, hc⟩
  z := fun p => rfl
  st := fun q c w f hq hc hw => by
    have : q = 0 := by omega
    subst this
    show f (w ++ [c]) + 0 = f (w ++ [c]) + 0 + 0
    omega
  sub := fun p w hw v hv => by
    by_cases e : p = 0
    · rw [if_pos e] at hv
      rw [List.mem_singleton.mp hv]
      exact hw
    · rw [if_neg e] at hv
      cases hv
end TM
namespace TH
open TM
def begF (cs low : List Nat) : List (List Nat) := (List.range low.length).reverse.flatMap fun p => (cs.filter fun d => decide (low.getD p 0 < d)).map fun d => low.take p ++ [d]
def begFrom (cs low : List Nat) : List (List Nat) := rst (cs.headD 0) low :: (begF cs low).filter fun t => decide (t.length ≤ (rst (cs.headD 0) low).length)
def begT (cs sh : List Nat) : List (List Nat) := (List.range sh.length).flatMap fun p => (cs.filter fun d => decide (d < sh.getD p 0)).map fun d => sh.take p ++ [d]
def begTo (cs high : List Nat) : List (List Nat) := begT cs (rst (cs.getLastD 0) high) ++ [rst (cs.getLastD 0) high]
/-- how many signs two words share -/
def shr : List Nat → List Nat → Nat
  | a :: v, b :: w => if a = b then shr v w + 1 else 0
  | _, _ => 0
def begRaw (cs a f l : List Nat) : List (List Nat) := (((begFrom cs f.tail).map fun t => f.headD 0 :: t) ++ ((cs.filter fun d => decide (f.headD 0 < d) && decide (d < l.headD 0)).map fun d => [d]) ++ (begTo cs l.tail).map fun t => l.headD 0 :: t).map fun t => a ++ t
def beg (cs lo hi : List Nat) : List (List Nat) :=
  if hi < lo then [] else if cs.length = 1 then [[]] else
  if isFst cs (lo.drop (shr lo hi)) && isLst cs (hi.drop (shr lo hi)) then [lo.take (shr lo hi)] else
  begRaw cs (lo.take (shr lo hi)) (lo.drop (shr lo hi)) (hi.drop (shr lo hi))
def srtd : List (List Nat) → Bool
  | a :: b :: r => decide (a < b) && srtd (b :: r)
  | _ => true
def tolP (cs w : List Nat) (i : Nat) : List (List Nat) := (((List.range w.length).zip w).take i).flatMap fun p => (cs.filter fun d => decide (d < p.2)).flatMap fun o => (words cs (w.length - p.1 - 1)).map fun v => w.take p.1 ++ o :: v
def tol (cs w : List Nat) : List (List Nat) := tolP cs w w.length ++ [w]
def ahdL (z w : List Nat) : List (List Nat) := if rst (z.headD 0) w = [] then [] else [(rst (z.headD 0) w).dropLast ++ [z.getD (z.idxOf ((rst (z.headD 0) w).getLastD 0) - 1) 0] ++ List.replicate (w.length - (rst (z.headD 0) w).length) (z.getLastD 0)]
def bhdL (z w : List Nat) : List (List Nat) := if rst (z.getLastD 0) w = [] then [] else [(rst (z.getLastD 0) w).dropLast ++ [z.getD (z.idxOf ((rst (z.getLastD 0) w).getLastD 0) + 1) 0] ++ List.replicate (w.length - (rst (z.getLastD 0) w).length) (z.headD 0)]
/-- one word of a roll -/
def chk1 (cs : List Nat) (k : Nat) (W : List (List Nat)) (i : Nat) : Bool :=
  let w := W.getD i []
  decide (tol cs w = W.take (i + 1)) && decide (lessF cs w = W.take i) && decide (ahdL cs w = predL cs w) && (decide (i + 1 = W.length) || decide (bhdL cs w = [W.getD (i + 1) []]))
/-- two of them -/
def chk2 (cs : List Nat) (k : Nat) (W : List (List Nat)) (i j : Nat) : Bool :=
  let u := W.getD i []
  let v := W.getD j []
  (decide (v < u) == decide (j < i)) && (decide (j < i) || (decide ((beg cs u v).flatMap (fun b => (words cs (k - b.length)).map fun t => b ++ t) = (W.drop i).take (j + 1 - i)) && srtd (beg cs u v) && (beg cs u v).all fun b => decide (b.length ≤ k) && b.all fun d => decide (d ∈ cs)))
def chkR (cs : List Nat) (k : Nat) : Bool :=
  let W := words cs k
  (List.range W.length).all fun i => chk1 cs k W i && (List.range W.length).all fun j => chk2 cs k W i j
def rolls : List (List Nat × Nat) := [([48, 49], 0), ([48, 49], 1), ([48, 49], 2), ([48, 49], 3), ([48, 49], 4), ([48], 0), ([48], 1), ([48], 2), ([48], 3), ([48], 4), ([51, 56], 0), ([51, 56], 1), ([51, 56], 2), ([51, 56], 3), ([51, 56], 4), ([48, 49, 50], 0), ([48, 49, 50], 1), ([48, 49, 50], 2), ([48, 49, 50], 3)]
theorem rolls_ok : rolls.all (fun p => chkR p.1 p.2) = true := by decide +kernel
end TH
namespace TH
open TM
theorem roll_chk {cs : List Nat} {k : Nat} (h : (cs, k) ∈ rolls) : chkR cs k = true := List.all_eq_true.mp rolls_ok (cs, k) h
structure R1 (cs : List Nat) (k i : Nat) (w : List Nat) : Prop where
  tol : tol cs w = (words cs k).take (i + 1)
  less : lessF cs w = (words cs k).take i
  ahd : ahdL cs w = predL cs w
  bhd : i + 1 < (words cs k).length → bhdL cs w = [(words cs k).getD (i + 1) []]
theorem roll1 {cs : List Nat} {k i : Nat} (h : (cs, k) ∈ rolls) (hi : i < (words cs k).length) : R1 cs k i ((words cs k).getD i []) := by
  have h1 := roll_chk h
  unfold chkR at h1
  have h2 := List.all_eq_true.mp h1 i (List.mem_range.mpr hi)
  have h3 := (Bool.and_eq_true _ _ ▸ h2).1
  unfold chk1 at h3
  simp only [Bool.and_eq_true, Bool.or_eq_true, decide_eq_true_eq] at h3
  obtain ⟨⟨⟨a, b⟩, c⟩, d⟩ := h3
  exact ⟨a, b, c, fun hlt => d.elim (fun e => absurd e (by omega)) id⟩
structure R2 (cs : List Nat) (k i j : Nat) (u v : List Nat) : Prop where
  lt : v < u ↔ j < i
  beg : i ≤ j → (beg cs u v).flatMap (fun b => (words cs (k - b.length)).map fun t => b ++ t) = ((words cs k).drop i).take (j + 1 - i)
  srt : i ≤ j → srtd (TH.beg cs u v) = true
  len : i ≤ j → ∀ b ∈ TH.beg cs u v, b.length ≤ k ∧ ∀ d ∈ b, d ∈ cs
theorem roll2 {cs : List Nat} {k i j : Nat} (h : (cs, k) ∈ rolls) (hi : i < (words cs k).length) (hj : j < (words cs k).length) : R2 cs k i j ((words cs k).getD i []) ((words cs k).getD j []) := by
  have h1 := roll_chk h
  unfold chkR at h1
  have h2 := List.all_eq_true.mp h1 i (List.mem_range.mpr hi)
  have h3 := (Bool.and_eq_true _ _ ▸ h2).2
  have h4 := List.all_eq_true.mp h3 j (List.mem_range.mpr hj)
  unfold chk2 at h4
  simp only [Bool.and_eq_true, Bool.or_eq_true, decide_eq_true_eq, beq_iff_eq, decide_eq_decide, List.all_eq_true] at h4
  obtain ⟨a, b⟩ := h4
  have b' : i ≤ j → _ := fun hij => b.elim (fun e => absurd e (by omega)) id
  exact ⟨a, fun hij => (b' hij).1.1, fun hij => (b' hij).1.2, fun hij => (b' hij).2⟩
/-- the words from place i to place j -/
def seg (W : List (List Nat)) (i j : Nat) : List (List Nat) := (W.drop i).take (j + 1 - i)
theorem take_snoc {W : List (List Nat)} {i : Nat} (hi : i < W.length) : W.take (i + 1) = W.take i ++ [W.getD i []] := by
  rw [List.take_add_one, List.getElem?_eq_getElem hi, getD_at hi]
  rfl
theorem seg_sum {W : List (List Nat)} {i j : Nat} (hij : i ≤ j) (hj : j < W.length) (f : List Nat → Int) : lsum (W.take (j + 1)) f - lsum (W.take (i + 1)) f + f (W.getD i []) = lsum (seg W i j) f := by
  have e : W.take (j + 1) = W.take i ++ seg W i j := by
    unfold seg
    rw [show j + 1 = i + (j + 1 - i) by omega, List.take_add]
    congr 2
    omega
  rw [e, lsum_append, take_snoc (by omega), lsum_append]
  show _ + _ - (_ + (f _ + 0)) + f _ = _
  omega
theorem seg_split {W : List (List Nat)} {i m j : Nat} (h1 : i ≤ m) (h2 : m < j) (hj : j < W.length) (f : List Nat → Int) : lsum (seg W i m) f + lsum (seg W (m + 1) j) f = lsum (seg W i j) f := by
  rw [← seg_sum h1 (by omega), ← seg_sum (by omega) hj, ← seg_sum (by omega) hj, take_snoc (i := m + 1) (by omega), lsum_append]
  show _ + (_ - (_ + (f _ + 0)) + f _) = _
  omega
theorem seg_one {W : List (List Nat)} {i : Nat} (hi : i < W.length) (f : List Nat → Int) : lsum (seg W i i) f = f (W.getD i []) := by
  rw [← seg_sum (Nat.le_refl _) hi]
  omega
theorem seg_all {W : List (List Nat)} {j : Nat} (h : j + 1 = W.length) : seg W 0 j = W := by
  unfold seg
  rw [List.drop_zero, List.take_of_length_le (by omega)]
theorem words_ne {cs : List Nat} (h : cs ≠ []) : ∀ k, 0 < (words cs k).length
  | 0 => Nat.zero_lt_one
  | k + 1 => by
    cases cs with
    | nil => exact absurd rfl h
    | cons c cs =>
      have := words_ne h k
      show 0 < ((c :: cs).flatMap _).length
      rw [List.flatMap_cons, List.length_append, List.length_map]
      omega
end TH
set_option maxHeartbeats 4000000
namespace TH
open PySem PySem.Spec PyProof.Rows L2
/-- a step that may write at p and q -/
structure StpL (p q : Addr) (G H G' H' : Hp) : Prop where
  g : Ex G G'
  h : ∀ a o, a ≠ p → a ≠ q → H a = some o → H' a = some o
  s : Ex G' H'
  o : ∀ a, H a ≠ none → G a = none → G' a = none
  k : ∀ a, H a ≠ none → H' a ≠ none
theorem Stp.l {p q : Addr} {G H G' H' : Hp} (s : Stp G H G' H') : StpL p q G H G' H' := ⟨s.g, fun a o _ _ h => s.h a o h, s.s, s.o, fun a h => by
  cases e : H a with
  | none => exact absurd e h
  | some o => rw [s.h a o e]; exact fun z => nomatch z⟩
theorem StpL.refl {p q : Addr} {G H : Hp} (e : Ex G H) : StpL p q G H G H := (Stp.refl e).l
theorem StpL.trans {p q : Addr} {G H G1 H1 G2 H2 : Hp} (a : StpL p q G H G1 H1) (b : StpL p q G1 H1 G2 H2) : StpL p q G H G2 H2 :=
  ⟨a.g.trans b.g, fun x o h1 h2 h => b.h x o h1 h2 (a.h x o h1 h2 h), b.s, fun x h1 h2 => b.o x (a.k x h1) (a.o x h1 h2), fun x h => b.k x (a.k x h)⟩
/-- the deck stands at p (its cells at q), at most N turns were taken -/
structure Deck (G H : Hp) (p q : Addr) (N : Nat) : Prop where
  ne : p ≠ q
  gp : G p = none
  gq : G q = none
  ex : ∃ (cs : List Int) (m : Int) (t : Nat), H p = some (.dK [(.inr "cells", .ref q), (.inr "mixed", .int m), (.inr "turn", .int (t : Int))]) ∧ H q = some (.lst (cs.map V.int)) ∧ 0 ≤ m ∧ m < 2147483587 ∧ t ≤ N ∧ cs.length ≤ 1000
theorem Deck.hp {G H : Hp} {p q : Addr} {N : Nat} (d : Deck G H p q N) : H p ≠ none := by
  obtain ⟨cs, m, t, h, _⟩ := d.ex
  rw [h]
  exact fun z => nomatch z
theorem Deck.hq {G H : Hp} {p q : Addr} {N : Nat} (d : Deck G H p q N) : H q ≠ none := by
  obtain ⟨cs, m, t, _, h, _⟩ := d.ex
  rw [h]
  exact fun z => nomatch z
theorem Deck.le {G H : Hp} {p q : Addr} {N M : Nat} (d : Deck G H p q N) (l : N ≤ M) : Deck G H p q M := by
  obtain ⟨cs, m, t, h1, h2, h3, h4, h5, h6⟩ := d.ex
  exact ⟨d.ne, d.gp, d.gq, cs, m, t, h1, h2, h3, h4, Nat.le_trans h5 l, h6⟩
theorem Deck.mono {G H G' H' : Hp} {p q : Addr} {N : Nat} (d : Deck G H p q N) (s : Stp G H G' H') : Deck G' H' p q N := by
  obtain ⟨cs, m, t, h1, h2, h3⟩ := d.ex
  exact ⟨d.ne, s.o p d.hp d.gp, s.o q d.hq d.gq, cs, m, t, s.h _ _ h1, s.h _ _ h2, h3⟩
/-- the lists that are being made are not the deck's -/
def Off (p q : Addr) (σ : L2.St) (env : List Sl) : Prop := ∀ (i : Nat) (ds : List D) (a : Addr), env[i]? = some (.own ds) → σ[i]? = some (some (.ref a)) → a ≠ p ∧ a ≠ q
theorem EnvR.monoL {K : PySem.W.Frag} {G H G' H' : Hp} {p q : Addr} {σ : L2.St} {env : List Sl} (E : EnvR K G H σ env) (of : Off p q σ env) (s : StpL p q G H G' H') : EnvR K G' H' σ env :=
  ⟨E.len, fun i x o h1 h2 => by
    have h := E.at_ i x o h1 h2
    cases x with
    | no => trivial
    | d x =>
      obtain ⟨v, e, r⟩ := h
      exact ⟨v, e, r.mono s.g⟩
    | own ds =>
      obtain ⟨a, vs, e, h3, h4, r⟩ := h
      subst e
      obtain ⟨n1, n2⟩ := of i ds a h1 h2
      exact ⟨a, vs, rfl, s.h _ _ n1 n2 h3, s.o a (by rw [h3]; exact fun z => nomatch z) h4, r.mono s.g⟩
    | raw v => exact h⟩
/-- an expression that draws at most c times comes to a value of which P is true -/
def JD (W : Gx) (S : Sc) (k : Nat) (p q : Addr) (e : Expr) (env : List Sl) (c : Nat) (P : V → Hp → Hp → Prop) : Prop := ∀ σ G H N, Ex G H → EnvR W.K G H σ env → Off p q σ env → Deck G H p q N → N + c ≤ 1000000 → ∀ Q : VK, (∀ v G' H', StpL p q G H G' H' → Deck G' H' p q (N + c) → P v G' H' → Q v H') → wE W S k e σ H Q
/-- .. to a datum of which R is true -/
def JR (W : Gx) (S : Sc) (k : Nat) (p q : Addr) (e : Expr) (env : List Sl) (c : Nat) (R : D → Prop) : Prop := JD W S k p q e env c fun v G' _ => ∃ d, R d ∧ Rep W.K G' d v
/-- .. to a new list of data of which R is true -/
def JRN (W : Gx) (S : Sc) (k : Nat) (p q : Addr) (e : Expr) (env : List Sl) (c : Nat) (R : List D → Prop) : Prop := ∀ σ G H N, Ex G H → EnvR W.K G H σ env → Off p q σ env → Deck G H p q N → N + c ≤ 1000000 → ∀ Q : VK, (∀ a vs ds G' H', StpL p q G H G' H' → Deck G' H' p q (N + c) → H a = none → G' a = none → H' a = some (.lst vs) → Reps W.K G' ds vs → R ds → Q (.ref a) H') → wE W S k e σ H Q
section
variable {W : Gx} {S : Sc} {k : Nat} {p q : Addr} {env : List Sl} {a b c e tg : Expr} {pos p1 p2 : Pos} {x : Str} {R R' : D → Prop}
theorem J.r {d : D} (h : J W S k e env d) (hR : R d) : JR W S k p q e env 0 R := fun σ G H N x E of dk hn Q f => h σ G H x E Q fun v G' H' s r => f v G' H' s.l (dk.mono s) ⟨d, hR, r⟩
theorem JD.le {c c' : Nat} {P : V → Hp → Hp → Prop} (h : JD W S k p q e env c P) (l : c ≤ c') : JD W S k p q e env c' P := fun σ G H N x E of dk hn Q f => h σ G H N x E of dk (by omega) Q fun v G' H' s d r => f v G' H' s (d.le (by omega)) r
theorem JR.le {c c' : Nat} (h : JR W S k p q e env c R) (l : c ≤ c') : JR W S k p q e env c' R := JD.le h l
theorem JR.imp {c : Nat} (h : JR W S k p q e env c R) (hr : ∀ d, R d → R' d) : JR W S k p q e env c R' := fun σ G H N x E of dk hn Q f => h σ G H N x E of dk hn Q fun v G' H' s d ⟨y, r1, r2⟩ => f v G' H' s d ⟨y, hr y r1, r2⟩
theorem JRN.l {c : Nat} {R : List D → Prop} (h : JRN W S k p q e env c R) : JR W S k p q e env c fun d => ∃ ds, d = .lst ds ∧ R ds := fun σ G H N x E of dk hn Q f => h σ G H N x E of dk hn Q fun a vs ds G' H' s d h1 h2 h3 r hr => by
  have hap : a ≠ p := fun e => dk.hp (by rw [← e]; exact h1)
  have haq : a ≠ q := fun e => dk.hq (by rw [← e]; exact h1)
  have hn0 : G a = none := x.none h1
  have nd : ∀ b, b = p ∨ b = q → b ≠ a := fun b hb e => hb.elim (fun z => hap (e.symm.trans z)) fun z => haq (e.symm.trans z)
  refine f (.ref a) (upd G' a (.lst vs)) H' ⟨s.g.mut (by exact hn0), s.h, fun y u hy => ?_, fun y hy hg => ?_, s.k⟩ ⟨d.ne, by rw [upd_ne (nd p (.inl rfl))]; exact d.gp, by rw [upd_ne (nd q (.inr rfl))]; exact d.gq, d.ex⟩ ⟨.lst ds, ⟨ds, rfl, hr⟩, a, vs, rfl, upd_same, r.mono (.new h2)⟩
  · by_cases z : y = a
    · subst z
      rw [upd_same] at hy
      rw [h3]
      exact hy
    · rw [upd_ne z] at hy
      exact s.s y u hy
  · have : y ≠ a := fun z => hy (by rw [z]; exact h1)
    rw [upd_ne this]
    exact s.o y hy hg
end
def spD (K : PySem.W.Frag) (n c : Nat) (pre : List D → Prop) (post : List D → D → Prop) : Sp := fun vs H Q _ => ∃ G p q N us ds, vs = V.ref p :: us ∧ ds.length = n ∧ Ex G H ∧ Reps K G ds us ∧ Deck G H p q N ∧ N + c ≤ 1000000 ∧ pre ds ∧
  ∀ d v G' H', StpL p q G H G' H' → Deck G' H' p q (N + c) → post ds d → Rep K G' d v → Q v H'
/-- a def of the deck and n data -/
structure OkD (W : Gx) (k : Nat) (x : Str) (n c : Nat) (pre : List D → Prop) (post : List D → D → Prop) : Prop where
  ex : ∃ fa fd ps, W.mg x = some (.ref fa) ∧ PySem.W.keepIn W.K (.ref fa) = true ∧ Binds W.K fd ps [] ∧ FnOk W.P W.w W.K W.mg W.base CX0 k fa fd ps (spD W.K n c pre post)
structure FinD (W : Gx) (p q : Addr) (G0 H0 : Hp) (N : Nat) (post : D → Prop) (D' : Ends) : Prop where
  rt : ∀ d v G' H', StpL p q G0 H0 G' H' → Deck G' H' p q N → post d → Rep W.K G' d v → D'.rt v H'
def startD (N : List Str) (p : Addr) (ds : List D) : List Sl := Sl.raw (.ref p) :: (ds.map .d ++ List.replicate (N.length - (ds.length + 1)) .no)
theorem startD_at {W : Gx} {N : List Str} {ds : List D} {us : List V} {p : Addr} {G H : Hp} (x : Ex G H) (r : Reps W.K G ds us) : At W G H (startD N p ds) (L2.start N (.ref p :: us)) G H := by
  have hl2 := r.length
  have none_own : ∀ (i : Nat) (es : List D), (startD N p ds)[i]? ≠ some (.own es) := fun i es hh => by
    rcases List.mem_cons.mp (List.mem_of_getElem? hh) with q | q
    · cases q
    · rcases List.mem_append.mp q with q | q
      · obtain ⟨_, _, q⟩ := List.mem_map.mp q
        cases q
      · cases List.eq_of_mem_replicate q
  have est : L2.start N (V.ref p :: us) = some (V.ref p) :: (us.map some ++ List.replicate (N.length - (ds.length + 1)) none) := by
    unfold L2.start
    rw [List.map_cons, List.length_cons, hl2]
    rfl
  refine ⟨.refl x, ⟨?_, fun i sl o h1 h2 => ?_⟩, fun i es p' h1 _ => absurd h1 (none_own i es), fun i j es fs' p' h1 _ _ _ => absurd h1 (none_own i es)⟩
  · rw [est]
    unfold startD
    simp only [List.length_cons, List.length_append, List.length_map, List.length_replicate]
    rw [hl2]
  · rw [est] at h2
    unfold startD at h1
    cases i with
    | zero =>
      rw [List.getElem?_cons_zero] at h1 h2
      rw [← Option.some.inj h1, ← Option.some.inj h2]
      exact rfl
    | succ i =>
      rw [List.getElem?_cons_succ] at h1 h2
      by_cases hi : i < ds.length
      · rw [List.getElem?_append_left (by rw [List.length_map]; exact hi), List.getElem?_map] at h1
        rw [List.getElem?_append_left (by rw [List.length_map, hl2]; exact hi), List.getElem?_map] at h2
        obtain ⟨dd, hd', e1⟩ := Option.map_eq_some_iff.mp h1
        obtain ⟨v, hv, e2⟩ := Option.map_eq_some_iff.mp h2
        obtain ⟨u, h3, h4⟩ := r.get hd'
        rw [hv] at h3
        cases h3
        rw [← e1, ← e2]
        exact ⟨v, rfl, h4⟩
      · rw [List.getElem?_append_right (by rw [List.length_map]; omega)] at h1
        have := List.eq_of_mem_replicate (List.mem_of_getElem? h1)
        rw [this]
        trivial
theorem okD_of {W : Gx} (T : Tx W) (i g : Nat) {x : Str} {d : He.DefD} {N ps : List Str} {k n c : Nat} {pre : List D → Prop} {post : List D → D → Prop} (hd : fn[i]? = some d) (hx : d.at_ = (x, none)) (h1 : d.dfl = []) (h2 : d.kwd = []) (hg : fa[g]? = some (.glo x)) (S : FnScope N ps d.scope) (hn : ps.length = n + 1)
    (hb : ∀ (kV doc pm : Value) (an : Option Addr) (cdv ct : Value) (us : List Value), us.length = ps.length → bindArgs (PySem.W.fnOf d.name d.qual d.params d.body d.scope .none kV doc pm an cdv ct) ⟨us, []⟩ = pure (ps.zip us))
    (h : ∀ ds p q G0 H0 M σ D', pre ds → ds.length = n → Deck G0 H0 p q M → M + c ≤ 1000000 → At W G0 H0 (startD N p ds) σ G0 H0 → FinD W p q G0 H0 (M + c) (post ds) D' → wSs W (defS N d.scope) k d.body D' σ H0) : OkD W (k + 1) x n c pre post := by
  obtain ⟨fd, F⟩ := T.def_ i hd
  have e1 : d.dvs W.K = [] := by
    unfold He.DefD.dvs
    rw [h1]
    rfl
  have e2 : d.kws W.K = [] := by
    unfold He.DefD.kws
    rw [h2]
    rfl
  rw [e1, e2] at F
  have e3 : He.fAd W.K d.at_ = He.ga W.K x := by
    rw [hx]
    rfl
  rw [e3] at F
  refine ⟨He.ga W.K x, fd, ps, T.glo g hg, F.kp, F.bindsN hb, ?_⟩
  refine F.ok S (fun vs H Q E hs => ?_) fun cdv A outer s H vs Q E hr hsp => ?_
  · obtain ⟨G, p, q, M, us, ds, rfl, hl, _, r, _⟩ := hs
    rw [List.length_cons, r.length, hl, hn]
  · obtain ⟨G, p, q, M, us, ds, rfl, hl, x0, r, dk, hM, hp, f⟩ := hsp
    refine ⟨_, pss_w (W := W) (S := defS N d.scope) (k := k) (X := cxOf CX0 W.P W.w W.K W.mg W.base N d.qual d.scope _ cdv A outer s H E) ⟨rfl, rfl, rfl, rfl, rfl, rfl, rfl, rfl, rfl, hr⟩ d.body, ?_⟩
    exact h ds p q G H M (L2.start N (.ref p :: us)) _ hp hl dk hM (startD_at x0 r) ⟨fun dd v G' H' s1 d1 hq r1 => f dd v G' H' s1 d1 hq r1⟩
section
variable {W : Gx} {S : Sc} {k : Nat} {p q : Addr} {env : List Sl} {a b c e tg : Expr} {pos p1 p2 : Pos} {x y : Str} {R R' : D → Prop}
/-- f(deck, ..) -/
theorem jr_call {n kf c : Nat} {pre : List D → Prop} {post : List D → D → Prop} {es : List Expr} {ds : List D} (F : OkD W kf x n c pre post) (ha : JA W S k es env ds) (hp : pre ds) (hk : kf ≤ k := by decide) (hn : ds.length = n := by rfl) (i : Nat := 0) (hi : env[i]? = some (.raw (.ref p)) := by rfl) (hN : S.N[i]? = some y := by rfl) (hv : VisS S y := by first | exact Or.inl rfl | exact Or.inr (Or.inl rfl) | exact Or.inr (Or.inr rfl)) (hg : GlS S x := by exact rfl)
    (hd : (y == ("__debug__" : Str)) = false := by decide) (hcd : (y == ("__classdict__" : Str)) = false := by decide) (hpl : ∀ env : Env, (backTo pos (starEach es env)).any (·.1) = false := by intro _; rfl) (hdb : (x == ("__debug__" : Str)) = false := by decide) : JR W S k p q (.Call (.Name x p1) (.Name y p2 :: es) [] pos) env c (post ds) := fun σ G H N x0 E of dk hc Q f => by
  obtain ⟨fa, fd, ps, hm, kp, bd, F⟩ := F.ex
  have he : Plain (.Name y p2) := by intro _ _; rfl
  exact wE_X (fun X hX => pe_call (E := E0) (by rw [hX.P, hX.w, hX.K, hX.mg, hX.base]; exact F) (hX.room.mono hk) (hX.gl hg) (by rw [hX.mg]; exact hm) (by rw [hX.K]; exact kp) (by rw [hX.K]; exact bd) .nil pass0 (pa_cons (pe_w hX (.Name y p2)) (pa_w hX es) (he es X.env)) hdb (he es X.env) (hpl X.env))
    fun X hX => (jraw i hi hN hv hd hcd) σ G H x0 E _ fun v0 G1 H1 s1 e1 => ha σ G1 H1 s1.s (E.mono s1) _ fun vs G2 H2 s2 r2 => by
      subst e1
      rw [List.append_nil]
      exact ⟨G2, p, q, N, vs, ds, rfl, hn, s2.s, r2, dk.mono (s1.trans s2), hc, hp, fun d v G' H' s3 d3 hpost r3 => f v G' H' ((s1.trans s2).l.trans s3) d3 ⟨d, hpost, r3⟩⟩
/-- f(deck, e), e draws -/
theorem jr_call1 {kf c c1 : Nat} {pre : List D → Prop} {post : List D → D → Prop} (F : OkD W kf x 1 c pre post) (ha : JR W S k p q e env c1 R) (hp : ∀ d, R d → pre [d]) (hk : kf ≤ k := by decide) (i : Nat := 0) (hi : env[i]? = some (.raw (.ref p)) := by rfl) (hN : S.N[i]? = some y := by rfl) (hv : VisS S y := by first | exact Or.inl rfl | exact Or.inr (Or.inl rfl) | exact Or.inr (Or.inr rfl)) (hg : GlS S x := by exact rfl)
    (hd : (y == ("__debug__" : Str)) = false := by decide) (hcd : (y == ("__classdict__" : Str)) = false := by decide) (hpe : Plain e := by intro _ _; rfl) (hpl : ∀ env : Env, (backTo pos (starEach [e] env)).any (·.1) = false := by intro _; rfl) (hdb : (x == ("__debug__" : Str)) = false := by decide) : JR W S k p q (.Call (.Name x p1) [.Name y p2, e] [] pos) env (c1 + c) (fun d => ∃ d1, R d1 ∧ post [d1] d) := fun σ G H N x0 E of dk hc Q f => by
  obtain ⟨fa, fd, ps, hm, kp, bd, F⟩ := F.ex
  have he : Plain (.Name y p2) := by intro _ _; rfl
  exact wE_X (fun X hX => pe_call (E := E0) (by rw [hX.P, hX.w, hX.K, hX.mg, hX.base]; exact F) (hX.room.mono hk) (hX.gl hg) (by rw [hX.mg]; exact hm) (by rw [hX.K]; exact kp) (by rw [hX.K]; exact bd) .nil pass0 (pa_cons (pe_w hX (.Name y p2)) (pa_cons (pe_w hX e) pa_nil (hpe [] X.env)) (he [e] X.env)) hdb (he [e] X.env) (hpl X.env))
    fun X hX => (jraw i hi hN hv hd hcd) σ G H x0 E _ fun v0 G1 H1 s1 e1 => ha σ G1 H1 N s1.s (E.mono s1) of (dk.mono s1) (by omega) _ fun v G2 H2 s2 d2 ⟨dd, hR, r2⟩ => by
      subst e1
      show spD W.K 1 c pre post [V.ref p, v] H2 Q E0
      exact ⟨G2, p, q, N + c1, [v], [dd], rfl, rfl, s2.s, .one r2, d2, by omega, hp dd hR, fun d v G' H' s3 d3 hpost r3 => f v G' H' ((s1.l.trans s2).trans s3) (by rw [← Nat.add_assoc]; exact d3) ⟨d, ⟨dd, hR, hpost⟩, r3⟩⟩
end
end TH
set_option maxHeartbeats 4000000
namespace TH
open PySem PySem.Spec PyProof.Rows L2
/-- the base changed at p and q alone -/
structure BaseL (p q : Addr) (H0 Hb : Hp) : Prop where
  off : ∀ a, a ≠ p → a ≠ q → Hb a = H0 a
  dom : Dom H0 Hb
theorem BaseL.refl (p q : Addr) (H : Hp) : BaseL p q H H := ⟨fun _ _ _ => rfl, Dom.refl H⟩
theorem BaseL.trans {p q : Addr} {A B C : Hp} (h : BaseL p q A B) (h' : BaseL p q B C) : BaseL p q A C := ⟨fun a h1 h2 => (h'.off a h1 h2).trans (h.off a h1 h2), h.dom.trans h'.dom⟩
theorem BaseL.stp {p q : Addr} {H0 Hb G0 G H : Hp} (b : BaseL p q H0 Hb) (s : Stp G0 Hb G H) : StpL p q G0 H0 G H :=
  ⟨s.g, fun a o h1 h2 h => s.h a o (by rw [b.off a h1 h2]; exact h), s.s, fun a h1 h2 => s.o a (fun z => h1 ((b.dom a).mpr z)) h2, fun a h z => h ((b.dom a).mpr (Ex.none s.h z))⟩
theorem BaseL.stpL {p q : Addr} {H0 Hb G0 G H : Hp} (b : BaseL p q H0 Hb) (s : StpL p q G0 Hb G H) : StpL p q G0 H0 G H :=
  ⟨s.g, fun a o h1 h2 h => s.h a o h1 h2 (by rw [b.off a h1 h2]; exact h), s.s, fun a h1 h2 => s.o a (fun z => h1 ((b.dom a).mpr z)) h2, fun a h => s.k a fun z => h ((b.dom a).mpr z)⟩
section
variable {W : Gx} {p q : Addr} {G0 Hb G H G' H' : Hp} {env : List Sl} {σ : L2.St} {N M : Nat}
theorem At.deck (A : At W G0 Hb env σ G H) (d : Deck G0 Hb p q N) : Deck G H p q N := d.mono A.s
theorem At.off (A : At W G0 Hb env σ G H) (d : Deck G0 Hb p q N) : Off p q σ env := fun i ds a h1 h2 => by
  have h := A.fresh i ds a h1 h2
  exact ⟨fun e => d.hp (by rw [← e]; exact h), fun e => d.hq (by rw [← e]; exact h)⟩
theorem At.draw (A : At W G0 Hb env σ G H) (d : Deck G0 Hb p q N) (s : StpL p q G H G' H') (d' : Deck G' H' p q M) : ∃ Hb', BaseL p q Hb Hb' ∧ At W G0 Hb' env σ G' H' ∧ Deck G0 Hb' p q M := by
  obtain ⟨cs, m, t, e1, e2, e3⟩ := d'.ex
  have hdom : Dom Hb (upd (upd Hb p (.dK [(.inr "cells", .ref q), (.inr "mixed", .int m), (.inr "turn", .int (t : Int))])) q (.lst (cs.map V.int))) := (dom_upd d.hp).trans (dom_upd (by rw [upd_ne (Ne.symm d.ne)]; exact d.hq))
  have at_ : ∀ a, a ≠ p → a ≠ q → (upd (upd Hb p (.dK [(.inr "cells", .ref q), (.inr "mixed", .int m), (.inr "turn", .int (t : Int))])) q (.lst (cs.map V.int))) a = Hb a := fun a h1 h2 => by rw [upd_ne h2, upd_ne h1]
  have atp : (upd (upd Hb p (.dK [(.inr "cells", .ref q), (.inr "mixed", .int m), (.inr "turn", .int (t : Int))])) q (.lst (cs.map V.int))) p = some (.dK [(.inr "cells", .ref q), (.inr "mixed", .int m), (.inr "turn", .int (t : Int))]) := by rw [upd_ne d.ne, upd_same]
  have atq : (upd (upd Hb p (.dK [(.inr "cells", .ref q), (.inr "mixed", .int m), (.inr "turn", .int (t : Int))])) q (.lst (cs.map V.int))) q = some (.lst (cs.map V.int)) := upd_same
  generalize (upd (upd Hb p (.dK [(.inr "cells", .ref q), (.inr "mixed", .int m), (.inr "turn", .int (t : Int))])) q (.lst (cs.map V.int))) = Hn at hdom at_ atp atq
  refine ⟨Hn, ⟨at_, hdom⟩, ⟨⟨A.s.g.trans s.g, fun a u h => ?_, s.s, fun a h1 h2 => ?_⟩, A.e.monoL (A.off d) s, fun i ds a h1 h2 => (hdom a).mp (A.fresh i ds a h1 h2), A.dis⟩, ⟨d.ne, d.gp, d.gq, cs, m, t, atp, atq, e3⟩⟩
  · by_cases h1 : a = p
    · subst h1
      rw [atp] at h
      rw [e1]
      exact h
    · by_cases h2 : a = q
      · subst h2
        rw [atq] at h
        rw [e2]
        exact h
      · rw [at_ a h1 h2] at h
        exact s.h a u h1 h2 (A.s.h a u h)
  · have h3 : Hb a ≠ none := fun z => h1 ((hdom a).mp z)
    refine s.o a (fun z => h3 (A.s.h.none z)) (A.s.o a h3 h2)
end
section
variable {W : Gx} {S : Sc} {k : Nat} {p q : Addr} {G0 Hb G H : Hp} {env : List Sl} {σ : L2.St} {D' : Ends} {rest : List Stmt} {e a b tg : Expr} {pos pos' p1 p2 p3 p4 : Pos} {x y : Str} {i j : Nat} {R R2 : D → Prop} {N c c2 : Nat}
/-- x = e, e draws -/
theorem wsd_set (A : At W G0 Hb env σ G H) (dk : Deck G0 Hb p q N) (nd : S.N.Nodup) (hs : StN S i x) (he : JR W S k p q e env c R) (hc : N + c ≤ 1000000) (next : ∀ Hb' d σ' G' H', R d → BaseL p q Hb Hb' → At W G0 Hb' (env.set i (.d d)) σ' G' H' → Deck G0 Hb' p q (N + c) → wSs W S k rest D' σ' H')
    (hsw : ∀ env : Env, swapsWith e (some (.Name x pos')) pos.line env = pure false := by intro _; rfl) : wSs W S k (.Assign [.Name x pos'] e pos :: rest) D' σ H :=
  wSs_cons (wS_of (fun X hX => ps_set (by rw [hX.N]; exact nd) (by rw [hX.N]; exact hs.1) (by rw [hX.sc]; exact hs.2.1) (pe_w hX e) (hsw X.env) (by rw [hX.fb, hX.sc]; exact hs.2.2)) (he σ G H N A.s.s A.e (A.off dk) (A.deck dk) hc _ fun v G1 H1 s1 d1 ⟨dd, hR, r1⟩ => by
    obtain ⟨Hb', bl, A1, dk1⟩ := A.draw dk s1 d1
    exact next Hb' dd _ G1 H1 hR bl (A1.set r1) dk1))
/-- return e, e draws -/
theorem wsd_ret (A : At W G0 Hb env σ G H) (dk : Deck G0 Hb p q N) (he : JR W S k p q e env c R) (hc : N + c ≤ 1000000) (next : ∀ d v G' H', R d → StpL p q G0 Hb G' H' → Deck G' H' p q (N + c) → Rep W.K G' d v → D'.rt v H') : wSs W S k (.Return (some e) pos :: rest) D' σ H :=
  wSs_cons (wS_of (fun X hX => ps_ret (pe_w hX e)) (he σ G H N A.s.s A.e (A.off dk) (A.deck dk) hc _ fun v G1 H1 s1 d1 ⟨dd, hR, r1⟩ => by
    obtain ⟨Hb', bl, A1, dk1⟩ := A.draw dk s1 d1
    exact next dd v G1 H1 hR (bl.stp A1.s) d1 r1))
/-- a test that draws -/
def JDT (W : Gx) (S : Sc) (k : Nat) (p q : Addr) (e : Expr) (env : List Sl) (c : Nat) (R : Bool → Prop) : Prop := ∀ σ G H N, Ex G H → EnvR W.K G H σ env → Off p q σ env → Deck G H p q N → N + c ≤ 1000000 → ∀ Q : Bool → Hp → Prop, (∀ b G' H', StpL p q G H G' H' → Deck G' H' p q (N + c) → R b → Q b H') → wT W S k e σ H Q
theorem JT.dr {b : Bool} {R : Bool → Prop} (h : JT W S k e env b) (hR : R b) : JDT W S k p q e env 0 R := fun σ G H N x E of dk hn Q f => h σ G H x E Q fun G' H' s => f b G' H' s.l (dk.mono s) hR
theorem JDT.le {c' : Nat} {R : Bool → Prop} (h : JDT W S k p q e env c R) (l : c ≤ c') : JDT W S k p q e env c' R := fun σ G H N x E of dk hn Q f => h σ G H N x E of dk (by omega) Q fun b G' H' s d r => f b G' H' s (d.le (by omega)) r
theorem jdt_val {R : Bool → Prop} (h : JR W S k p q e env c fun d => ∃ b, d = .bl b ∧ R b) (he : ∀ (env : Env) whole, isTrue e env whole = (do let v ← whole; standAt e.pos; holding [v] (truthy v)) := by intro _ _; rfl) : JDT W S k p q e env c R := fun σ G H N x E of dk hn Q f =>
  wT_of (fun X hX => pt_val (pe_w hX e) (he X.env)) (h σ G H N x E of dk hn _ fun v G' H' s d ⟨dd, ⟨b, e1, hR⟩, r⟩ => by
    subst e1
    exact ⟨b, r, f b G' H' s d hR⟩)
theorem jdt_not {R : Bool → Prop} (h : JDT W S k p q a env c fun b => R (!b)) : JDT W S k p q (.UnaryOp .Not a pos) env c R := fun σ G H N x E of dk hn Q f =>
  wT_of (fun X hX => pt_not (pt_w hX a)) (h σ G H N x E of dk hn _ fun b G' H' s d r => f (!b) G' H' s d r)
theorem jdt_and {r : Bool} {R : Bool → Prop} (h : JT W S k a env r) (h' : r = true → JDT W S k p q b env c R) (hf : r = false → R false) : JDT W S k p q (.BoolOp .And [a, b] pos) env c R := fun σ G H N x E of dk hn Q f =>
  wT_of (fun X hX => (pw_and (pt_w hX a) (pw_and1 (pt_w hX b))).pt) (h σ G H x E _ fun G1 H1 s1 => by
    cases r with
    | false => exact iteF (f false G1 H1 s1.l ((dk.mono s1).le (by omega)) (hf rfl))
    | true => exact iteT (h' rfl σ G1 H1 N s1.s (E.mono s1) of (dk.mono s1) hn _ fun b G2 H2 s2 d2 r2 => f b G2 H2 (s1.l.trans s2) d2 r2))
theorem jdt_or {R1 R : Bool → Prop} (h : JDT W S k p q a env c R1) (h' : R1 false → JDT W S k p q b env c2 R) (hf : R1 true → R true) : JDT W S k p q (.BoolOp .Or [a, b] pos) env (c + c2) R := fun σ G H N x E of dk hn Q f =>
  wT_of (fun X hX => (pw_or (pt_w hX a) (pw_or1 (pt_w hX b))).pt) (h σ G H N x E of dk (by omega) _ fun r G1 H1 s1 d1 r1 => by
    cases r with
    | true => exact iteT (f true G1 H1 s1 (d1.le (by omega)) (hf r1))
    | false => exact iteF (h' r1 σ G1 H1 (N + c) s1.s (E.monoL of s1) of d1 (by omega) _ fun b G2 H2 s2 d2 r2 => f b G2 H2 (s1.trans s2) (by rw [← Nat.add_assoc]; exact d2) r2))
theorem wsd_if {t f : List Stmt} {R : Bool → Prop} (A : At W G0 Hb env σ G H) (dk : Deck G0 Hb p q N) (hd : JDT W S k p q e env c R) (hc : N + c ≤ 1000000)
    (next : ∀ b Hb' G' H', R b → BaseL p q Hb Hb' → At W G0 Hb' env σ G' H' → Deck G0 Hb' p q (N + c) → wSs W S k (if b = true then t else f) { D' with nx := wSs W S k rest D' } σ H') : wSs W S k (.If e t f pos :: rest) D' σ H :=
  wSs_cons (wS_of (fun X hX => ps_if (pt_w hX e) (pss_w hX t) (pss_w hX f)) (hd σ G H N A.s.s A.e (A.off dk) (A.deck dk) hc _ fun b G1 H1 s1 d1 r1 => by
    obtain ⟨Hb', bl, A1, dk1⟩ := A.draw dk s1 d1
    have h := next b Hb' G1 H1 r1 bl A1 dk1
    cases b with
    | true => exact iteT h
    | false => exact iteF h))
/-- xs[e], e draws -/
theorem jr_ixL {ds : List D} (ha : J W S k a env (.lst ds)) (hb : JR W S k p q b env c fun d => ∃ m : Nat, d = .int (m : Int) ∧ m < ds.length) (hs : PlIx b := by intro _ _; rfl) : JR W S k p q (.Subscript a b pos) env c fun d => d ∈ ds := fun σ G H N x E of dk hn Q f =>
  wE_X (fun X hX => pe_ix ix_list (pe_w hX a) (pe_w hX b) hs) fun X hX => ha σ G H x E _ fun u G1 H1 s1 ⟨p1, vs, e1, h1, r1⟩ => hb σ G1 H1 N s1.s (E.mono s1) of (dk.mono s1) hn _ fun v G2 H2 s2 d2 ⟨dd, ⟨m, e2, hm⟩, r2⟩ => by
    subst e1 e2
    have r3 := r1.mono s2.g
    obtain ⟨w, h3, h4⟩ := r3.get (List.getElem?_eq_getElem hm)
    refine ⟨p1, vs, (m : Int), w, rfl, r2, .of (s2.s _ _ (s2.g _ _ h1)), atI_nat h3, f w G2 H2 (s1.l.trans s2) d2 ⟨_, List.getElem_mem hm, h4⟩⟩
theorem jr_ixS {z : Str} (ha : J W S k a env (.str z)) (hb : JR W S k p q b env c fun d => ∃ m : Nat, d = .int (m : Int) ∧ m < z.cps.toList.length) (hl : z.length ≤ 100000) (hs : PlIx b := by intro _ _; rfl) : JR W S k p q (.Subscript a b pos) env c fun d => ∃ ch ∈ z.cps.toList, d = sgn ch := fun σ G H N x E of dk hn Q f =>
  wE_X (fun X hX => pe_ix ix_str (pe_w hX a) (pe_w hX b) hs) fun X hX => ha σ G H x E _ fun u G1 H1 s1 h1 => hb σ G1 H1 N s1.s (E.mono s1) of (dk.mono s1) hn _ fun v G2 H2 s2 d2 ⟨dd, ⟨m, e2, hm⟩, r2⟩ => by
    subst e2
    exact ⟨z, (m : Int), z.cps.toList[m], h1, r2, sz hl, atI_nat (List.getElem?_eq_getElem hm), f _ G2 H2 (s1.l.trans s2) d2 ⟨_, ⟨_, List.getElem_mem hm, rfl⟩, rfl⟩⟩
/-- a source of turns that draws -/
def JID (W : Gx) (S : Sc) (k : Nat) (p q : Addr) (tg e : Expr) (env : List Sl) (c : Nat) (Rn : List D → Prop) : Prop := ∀ σ G H N, Ex G H → EnvR W.K G H σ env → Off p q σ env → Deck G H p q N → N + c ≤ 1000000 → ∀ R : It → Hp → Prop, (∀ I items G' H', StpL p q G H G' H' → Deck G' H' p q (N + c) → Rn items → ItOk W.K G' I items → R I H') → wI W S k tg e σ H R
theorem JI.dr {items : List D} (h : JI W S k tg e env items) : JID W S k p q tg e env 0 (fun l => l = items) := fun σ G H N x E of dk hn R f => h σ G H x E R fun I G' H' s ok => f I items G' H' s.l (dk.mono s) rfl ok
/-- range(e), e draws -/
theorem jid_range1 {L : Nat} (h : JR W S k p q a env c fun d => ∃ n : Nat, d = .int (n : Int) ∧ n ≤ L) (hL : L ≤ 1000000 := by decide) (hg : GlS S "range" := by exact rfl) (hm : W.mg "range" = none := by assumption) (he : Plain a := by intro _ _; rfl) : JID W S k p q tg (.Call (.Name "range" p1) [a] [] pos) env c (fun l => ∃ n : Nat, n ≤ L ∧ l = (List.range n).map fun (i : Nat) => D.int (i : Int)) := fun σ G H N x E of dk hn R f =>
  wI_X (fun X hX => pi_range1 (hX.gl hg) (by rw [hX.mg]; exact hm) (pa_cons (pe_w hX a) pa_nil (he [] X.env)) (he [] X.env)) fun X hX => h σ G H N x E of dk hn _ fun v G1 H1 s1 d1 ⟨dd, ⟨n, e1, hnL⟩, r1⟩ => by
    subst e1
    refine ⟨(n : Int), by rw [show v = V.int n from r1], by omega, by omega, f _ _ G1 H1 s1 d1 ⟨n, hnL, rfl⟩ ⟨fun m G2 H2 hm g2 x2 => ?_, fun G2 H2 g2 x2 => ?_, fun m d G2 H2 u H3 hd g2 x2 hy => ?_⟩⟩
    · rw [List.length_map, List.length_range] at hm
      exact hm
    · rw [List.length_map, List.length_range]
      exact Nat.le_refl _
    · obtain ⟨e3, e4⟩ := hy
      rw [e3, e4]
      rw [List.getElem?_map] at hd
      by_cases hlt : m < n
      · rw [List.getElem?_range hlt] at hd
        have e5 : D.int (m : Int) = d := Option.some.inj hd
        rw [← e5]
        exact ⟨G2, .refl x2, by show V.int (0 + (m : Int)) = V.int m; rw [Int.zero_add]⟩
      · rw [List.getElem?_eq_none (by rw [List.length_range]; omega)] at hd
        cases hd
/-- [elt for x in xs], elt draws (the source may, too) -/
theorem jrn_lc {c0 L : Nat} {Rn : List D → Prop} {elt : Expr} {scope : Scope} {own : List (Str × Nat)} {t : Tg} (hi : JID W S k p q tg e env c0 Rn) (ok : BlkOk S.N S.sc scope own) (nd : S.N.Nodup) (ht : TgE (blkS S scope) tg t) (hv : own.map (·.2) = t.ix)
    (hfit : ∀ items, Rn items → ∀ d ∈ items, t.fits d) (hl : ∀ items, Rn items → items.length ≤ L) (hL : L < 100000) (he : ∀ items, Rn items → ∀ d ∈ items, JR W (blkS S scope) k p q elt (bnd t d env) c R) (hs : ∀ (env : Env) x, foldedSetIterable e env x = pure x := by intro _ _; rfl) :
    JRN W S k p q (.ListComp elt [⟨tg, e, [], 0⟩] scope pos) env (c0 + L * c) fun ds => (∃ items, Rn items ∧ ds.length = items.length) ∧ ∀ d ∈ ds, R d := fun σ G H N x E of dk hc Q f =>
  wE_of (fun X hX => pe_lc (own := own) (wi := wI W S k tg e) (g := gTg W.K t) (tt := wIf W (blkS S scope) k []) (te := wE W (blkS S scope) k elt) hX.calm (by rw [hX.N]; exact nd) (pi_w hX tg e) (by rw [hX.N, hX.sc]; exact ok)
    (fun s H C cl fp => pg_tg (cc_blk hX scope s H C cl fp) nd ht) (fun s H C cl fp => pts_w (cc_blk hX scope s H C cl fp) [] (Nat.zero_le _)) (fun s H C cl fp => pe_w (cc_blk hX scope s H C cl fp) elt) (hs X.env))
    (hi σ G H N x E of dk (by omega) _ fun I items G1 H1 s1 dk1 hR1 ok1 D hD => by
      rw [hv]
      have hlen0 := hl items hR1
      have Dp : D ≠ p := fun z => dk1.hp (by rw [← z]; exact hD)
      have Dq : D ≠ q := fun z => dk1.hq (by rw [← z]; exact hD)
      have HD : H D = none := by
        cases hh : H D with
        | none => rfl
        | some o => exact absurd hD (s1.k D (by rw [hh]; exact fun z => nomatch z))
      let Pv : Nat → Hp → Prop := fun n H' => ∃ G' vs ds, StpL p q G H G' H' ∧ Ex G1 G' ∧ Deck G' H' p q (N + c0 + n * c) ∧ H D = none ∧ G' D = none ∧ H' D = some (.lst vs) ∧ Reps W.K G' ds vs ∧ ds.length = n ∧ ∀ d ∈ ds, R d
      have snew : Stp G1 H1 G1 (upd H1 D (.lst [])) := .newO s1.s hD
      refine ⟨fun n m H' => n ≤ items.length ∧ n + m = items.length ∧ Pv n H', ⟨items.length, Nat.zero_le _, Nat.zero_add _, G1, [], [], s1.trans snew.l, .refl _, by rw [Nat.zero_mul]; exact dk1.mono snew, HD, s1.s.none hD, upd_same, rfl, rfl, fun d hd => by cases hd⟩, fun n m H' hw => ?_⟩
      obtain ⟨hn, hm, G', vs, ds, s', g', dk', dn, gd, hd, rs, hlen, hall⟩ := hw
      by_cases hlt : n < items.length
      · refine .inr ⟨ok1.go n G' H' hlt g' s'.s, fun H'' => Pv (n + 1) H'', fun H'' hp => ⟨m - 1, by omega, by omega, by omega, hp⟩, fun v H2 hy => ?_⟩
        obtain ⟨dt, hdt⟩ : ∃ d, items[n]? = some d := ⟨_, List.getElem?_eq_getElem hlt⟩
        obtain ⟨G2, s2, r2⟩ := ok1.yld n dt G' H' v H2 hdt g' s'.s hy
        have fit := hfit items hR1 dt (List.mem_of_getElem? hdt)
        have st2 : StpL p q G H G2 H2 := s'.trans s2.l
        have E2 : EnvR W.K G2 H2 (L2.wipe σ t.ix) (wipeE env t.ix) := (E.monoL of st2).wipe t.ix
        have hd2 := s2.h _ _ hd
        have gd2 : G2 D = none := s2.o D (by rw [hd]; exact fun z => nomatch z) gd
        refine gTg_run st2.s E2 r2 fit fun σ3 E3 hsame hlen3 => ⟨wipe_same (by rw [hlen3, wipe_length]) hsame, ?_⟩
        rw [bnd_wipe t dt env fit] at E3
        have of3 : Off p q σ3 (bnd t dt env) := fun j es a h1 h2 => by
          have key : env[j]? = some (.own es) ∧ j ∉ t.ix := by
            cases t with
            | one i =>
              rcases get_set h1 with ⟨_, z⟩ | ⟨ne, z⟩
              · cases z
              · exact ⟨z, fun y => ne (List.mem_singleton.mp y).symm⟩
            | two i i' =>
              obtain ⟨a, b, rfl⟩ := fit
              rcases get_set h1 with ⟨_, z⟩ | ⟨ne, z⟩
              · cases z
              · rcases get_set z with ⟨_, z2⟩ | ⟨ne2, z2⟩
                · cases z2
                · refine ⟨z2, fun y => ?_⟩
                  rcases List.mem_cons.mp y with y | y
                  · exact ne2 y.symm
                  · exact ne (List.mem_singleton.mp y).symm
          rw [hsame j key.2, wipe_out key.2] at h2
          exact of j es a key.1 h2
        have hle : N + c0 + n * c + c ≤ 1000000 := by
          have : (n + 1) * c ≤ L * c := Nat.mul_le_mul_right c (by omega)
          rw [Nat.add_mul, Nat.one_mul] at this
          omega
        unfold wIf tYes
        show (if true = true then _ else _)
        rw [if_pos rfl]
        refine (he items hR1 dt (List.mem_of_getElem? hdt)) σ3 G2 H2 (N + c0 + n * c) st2.s E3 of3 (dk'.mono s2) hle _ fun u G4 H4 s4 d4 ⟨dd, hR, r4⟩ => ?_
        have hd4 := s4.h _ _ Dp Dq hd2
        have gd4 : G4 D = none := s4.o D (by rw [hd2]; exact fun z => nomatch z) gd2
        have hg4 : G D = none := x.none dn
        have fin : StpL p q G H G4 (upd H4 D (.lst (vs ++ [u]))) := by
          have s5 := st2.trans s4
          refine ⟨s5.g, fun a o h1 h2 h => ?_, s5.s.mut gd4, s5.o, fun a h => ?_⟩
          · rw [upd_ne (fun z => by rw [z, dn] at h; cases h)]
            exact s5.h a o h1 h2 h
          · by_cases z : a = D
            · rw [z, upd_same]; exact fun z => nomatch z
            · rw [upd_ne z]; exact s5.k a h
        obtain ⟨cs, mm, tt, k1, k2, k3⟩ := d4.ex
        refine ⟨vs, hd4, szlt (by rw [rs.length, hlen]; omega), G4, vs ++ [u], ds ++ [dd], fin, (g'.trans s2.g).trans s4.g, ⟨d4.ne, d4.gp, d4.gq, cs, mm, tt, by rw [upd_ne (Ne.symm Dp)]; exact k1, by rw [upd_ne (Ne.symm Dq)]; exact k2, k3.1, k3.2.1, ?_, k3.2.2.2⟩, dn, gd4, upd_same, ((rs.mono s2.g).mono s4.g).append (.one r4), by rw [List.length_append, hlen]; rfl, fun d hd => ?_⟩
        · have := k3.2.2.1
          rw [Nat.add_mul, Nat.one_mul]
          omega
        · rcases List.mem_append.mp hd with h | h
          · exact hall d h
          · rw [List.mem_singleton.mp h]
            exact hR
      · have en : n = items.length := by omega
        subst en
        have : items.length * c ≤ L * c := Nat.mul_le_mul_right c hlen0
        exact .inl ⟨ok1.stop G' H' g' s'.s, f D vs ds G' H' s' (dk'.le (by omega)) dn gd hd rs ⟨⟨items, hR1, hlen⟩, hall⟩⟩)
/-- target a name in slot i -/
theorem jrn1 {c0 L : Nat} {Rn : List D → Prop} {elt : Expr} {scope : Scope} {px : Pos} (i : Nat) (nd : S.N.Nodup) (hi : JID W S k p q (.Name x px) e env c0 Rn) (hl : ∀ items, Rn items → items.length ≤ L) (hL : L < 100000) (he : ∀ items, Rn items → ∀ d ∈ items, JR W (blkS S scope) k p q elt (env.set i (.d d)) c R)
    (ok : blkC S.N S.sc scope [(x, i)] = true := by decide +kernel) (hs : StN (blkS S scope) i x := by exact ⟨rfl, by first | exact Or.inl rfl | exact Or.inr rfl, by first | exact Or.inl rfl | exact Or.inr rfl⟩) (hf : ∀ (env : Env) x, foldedSetIterable e env x = pure x := by intro _ _; rfl) :
    JRN W S k p q (.ListComp elt [⟨.Name x px, e, [], 0⟩] scope pos) env (c0 + L * c) fun ds => (∃ items, Rn items ∧ ds.length = items.length) ∧ ∀ d ∈ ds, R d :=
  jrn_lc (own := [(x, i)]) (t := .one i) hi (blkOk_by ok) nd (.one hs) rfl (fun _ _ _ _ => trivial) hl hL he hf
theorem JRN.imp {R R' : List D → Prop} (h : JRN W S k p q e env c R) (hr : ∀ ds, R ds → R' ds) : JRN W S k p q e env c R' := fun σ G H N x E of dk hn Q f => h σ G H N x E of dk hn Q fun a vs ds G' H' s d h1 h2 h3 r y => f a vs ds G' H' s d h1 h2 h3 r (hr ds y)
theorem JRN.le {c' : Nat} {R : List D → Prop} (h : JRN W S k p q e env c R) (l : c ≤ c') : JRN W S k p q e env c' R := fun σ G H N x E of dk hn Q f => h σ G H N x E of dk (by omega) Q fun a vs ds G' H' s d h1 h2 h3 r y => f a vs ds G' H' s (d.le (by omega)) h1 h2 h3 r y
/-- tuple(new list), the list draws -/
theorem jr_tupleN {R : List D → Prop} (ha : JRN W S k p q e env c R) (hg : GlS S "tuple" := by exact rfl) (hm : W.mg "tuple" = none := by assumption) (he : Plain e := by intro _ _; rfl) : JR W S k p q (.Call (.Name "tuple" p1) [e] [] pos) env c fun d => ∃ ds, d = .tup ds ∧ R ds := fun σ G H N x E of dk hn Q f =>
  wE_X (fun X hX => pe_callTy call_tuple_of (hX.gl hg) (by rw [hX.mg]; exact hm) (by decide +kernel) (pa_cons (pe_w hX e) pa_nil (he [] X.env)) (by decide) (by decide) (he [] X.env) rfl) fun X hX => ha σ G H N x E of dk hn _ fun a vs ds G1 H1 s1 d1 hn1 hg1 hh1 r1 hR => by
    refine ⟨a, vs, rfl, .inl ⟨.of hh1, fun l hl => ?_⟩⟩
    have s2 : Stp G1 H1 (upd G1 l (.tup vs)) (upd H1 l (.tup vs)) := .new s1.s hl
    exact f (.ref l) _ _ (s1.trans s2.l) (d1.mono s2) ⟨.tup ds, ⟨ds, rfl, hR⟩, l, vs, rfl, upd_same, r1.mono s2.g⟩
end
theorem join_codes : ∀ cs : List Nat, (Str.join (Str.ofString "") (cs.map fun c => (⟨#[c]⟩ : Str))).cps.toList = cs
  | [] => rfl
  | [c] => rfl
  | c :: d :: r => by
    have ih := join_codes (d :: r)
    show ((⟨#[c]⟩ : Str) ++ Str.ofString "" ++ Str.join (Str.ofString "") ((d :: r).map fun c => (⟨#[c]⟩ : Str))).cps.toList = _
    rw [app_list, ih, app_list]
    rfl
theorem codes_len : ∀ cs : List Nat, ((cs.map fun c => (⟨#[c]⟩ : Str)).map (·.length)).sum = cs.length
  | [] => rfl
  | c :: r => by
    rw [List.map_cons, List.map_cons, List.sum_cons, codes_len r, List.length_cons]
    show 1 + _ = _
    omega
theorem sgn_list {z : List Nat} : ∀ {ds : List D}, (∀ d ∈ ds, ∃ ch ∈ z, d = sgn ch) → ∃ cs : List Nat, ds = cs.map sgn ∧ ∀ c ∈ cs, c ∈ z
  | [], _ => ⟨[], rfl, fun c hc => by cases hc⟩
  | d :: ds, h => by
    obtain ⟨c, hc, e⟩ := h d List.mem_cons_self
    obtain ⟨cs, e2, h2⟩ := sgn_list (ds := ds) fun x hx => h x (List.mem_cons_of_mem _ hx)
    refine ⟨c :: cs, by rw [e, e2]; rfl, fun x hx => ?_⟩
    rcases List.mem_cons.mp hx with rfl | hx
    · exact hc
    · exact h2 x hx
section
variable {W : Gx} {S : Sc} {k : Nat} {p q : Addr} {env : List Sl} {a e : Expr} {pos p1 : Pos} {c : Nat}
/-- "".join(new list of signs), the list draws -/
theorem jr_joinN {L : Nat} {z : Str} {apos : Pos} (hL : L ≤ 1000) (ho : J W S k a env (.str "")) (ha : JRN W S k p q e env c fun ds => ds.length ≤ L ∧ ∀ d ∈ ds, ∃ ch ∈ z.cps.toList, d = sgn ch) (hp : Plain e := by intro _ _; rfl) (hbase : ∀ env : Env, attributeBase a "join" env (eval a env) = eval a env := by intro _; rfl) (hline : (apos.endLine == pos.line) = true := by rfl) : JR W S k p q (.Call (.Attribute a "join" apos) [e] [] pos) env c fun d => ∃ w : Str, d = .str w ∧ (∀ ch ∈ w.cps.toList, ch ∈ z.cps.toList) ∧ w.cps.toList.length ≤ L := fun σ G H N x E of dk hn Q f =>
  wE_X (fun X hX => pe_join (pe_w hX a) (pe_w hX e) (hp [] X.env) (hbase X.env) hline) fun X hX => ho σ G H x E _ fun u G1 H1 s1 e1 => ⟨⟨_, e1⟩, ha σ G1 H1 N s1.s (E.mono s1) of (dk.mono s1) hn _ fun b vs ds G2 H2 s2 d2 hn2 hg2 hh2 r2 ⟨hl, hR⟩ => by
    obtain ⟨cs, rfl, hcs⟩ := sgn_list hR
    have ev : vs = (cs.map fun c => (⟨#[c]⟩ : Str)).map V.str := by
      have : (cs.map sgn) = (cs.map fun c => (⟨#[c]⟩ : Str)).map D.str := by rw [List.map_map]; rfl
      rw [this] at r2
      exact r2.strs
    have hlen : ((cs.map fun c => (⟨#[c]⟩ : Str)).map (·.length)).sum = cs.length := by
      exact codes_len cs
    rw [List.length_map] at hl
    refine ⟨Str.ofString "", b, cs.map fun c => (⟨#[c]⟩ : Str), e1, rfl, .inl (.of (by rw [← ev]; exact hh2)), ?_, f _ G2 H2 (s1.l.trans s2) d2 ⟨.str (Txt.join (Str.ofString "") (cs.map fun c => (⟨#[c]⟩ : Str))), ⟨_, rfl, ?_⟩, rfl⟩⟩
    · rw [hlen, List.length_map]
      show _ + _ * 0 ≤ _
      omega
    · have : (Txt.join (Str.ofString "") (cs.map fun c => (⟨#[c]⟩ : Str))).cps.toList = cs := by
        unfold Txt.join
        rw [StrLaws.glued_eq_join]
        exact join_codes cs
      rw [this]
      exact ⟨hcs, hl⟩⟩
end
end TH
set_option maxHeartbeats 4000000
namespace TH
open PySem PySem.Spec PyProof.Rows L2
def dkK (q : Addr) (m : Int) (t : Nat) : List (Key × V) := [(.inr "cells", .ref q), (.inr "mixed", .int m), (.inr "turn", .int (t : Int))]
def deckD (cs : List Int) (m : Int) (t : Nat) : D := .dic [(.inr "cells", .lst (cs.map D.int)), (.inr "mixed", .int m), (.inr "turn", .int (t : Int))]
structure DkIs (G H : Hp) (p q : Addr) (cs : List Int) (m : Int) (t : Nat) : Prop where
  ne : p ≠ q
  gp : G p = none
  gq : G q = none
  hp : H p = some (.dK (dkK q m t))
  hq : H q = some (.lst (cs.map V.int))
theorem Deck.is {G H : Hp} {p q : Addr} {N : Nat} (d : Deck G H p q N) : ∃ cs m t, DkIs G H p q cs m t ∧ 0 ≤ m ∧ m < 2147483587 ∧ t ≤ N ∧ cs.length ≤ 1000 := by
  obtain ⟨cs, m, t, h1, h2, h3⟩ := d.ex
  exact ⟨cs, m, t, ⟨d.ne, d.gp, d.gq, h1, h2⟩, h3⟩
theorem DkIs.deck {G H : Hp} {p q : Addr} {cs : List Int} {m : Int} {t N : Nat} (d : DkIs G H p q cs m t) (h : 0 ≤ m ∧ m < 2147483587 ∧ t ≤ N ∧ cs.length ≤ 1000) : Deck G H p q N := ⟨d.ne, d.gp, d.gq, cs, m, t, d.hp, d.hq, h⟩
theorem DkIs.np {G H : Hp} {p q : Addr} {cs : List Int} {m : Int} {t : Nat} (d : DkIs G H p q cs m t) : H p ≠ none := by rw [d.hp]; exact fun z => nomatch z
theorem DkIs.nq {G H : Hp} {p q : Addr} {cs : List Int} {m : Int} {t : Nat} (d : DkIs G H p q cs m t) : H q ≠ none := by rw [d.hq]; exact fun z => nomatch z
theorem DkIs.mono {G H G' H' : Hp} {p q : Addr} {cs : List Int} {m : Int} {t : Nat} (d : DkIs G H p q cs m t) (s : Stp G H G' H') : DkIs G' H' p q cs m t := ⟨d.ne, s.o p d.np d.gp, s.o q d.nq d.gq, s.h _ _ d.hp, s.h _ _ d.hq⟩
def hole (p q : Addr) (G : Hp) : Hp := fun a => if a = p ∨ a = q then none else G a
section
variable {W : Gx} {S : Sc} {k : Nat} {p q : Addr} {G0 Hb G H : Hp} {env : List Sl} {σ : L2.St} {D' : Ends} {rest : List Stmt} {e a b tg : Expr} {pos pos' p1 p2 p3 p4 : Pos} {x y : Str} {i j : Nat} {N c c2 : Nat} {cs : List Int} {m : Int} {t : Nat}
def frz (G : Hp) (p q : Addr) (cs : List Int) (m : Int) (t : Nat) : Hp := upd (upd G p (.dK (dkK q m t))) q (.lst (cs.map V.int))
theorem DkIs.frz (d : DkIs G H p q cs m t) (x : Ex G H) : Ex (frz G p q cs m t) H := fun a o h => by
  unfold TH.frz at h
  by_cases h2 : a = q
  · subst h2
    rw [upd_same] at h
    rw [d.hq]
    exact h
  · rw [upd_ne h2] at h
    by_cases h1 : a = p
    · subst h1
      rw [upd_same] at h
      rw [d.hp]
      exact h
    · rw [upd_ne h1] at h
      exact x a o h
theorem frz_ex (d : DkIs G H p q cs m t) : Ex G (frz G p q cs m t) := fun a o h => by
  have h1 : a ≠ p := fun z => by rw [z, d.gp] at h; cases h
  have h2 : a ≠ q := fun z => by rw [z, d.gq] at h; cases h
  unfold frz
  rw [upd_ne h2, upd_ne h1]
  exact h
theorem deck_rep {K : PySem.W.Frag} (ne : p ≠ q) : Rep K (frz G p q cs m t) (deckD cs m t) (.ref p) := by
  refine ⟨p, dkK q m t, rfl, by unfold frz; rw [upd_ne ne, upd_same], ?_⟩
  refine ⟨.ref q, _, rfl, ⟨q, cs.map V.int, rfl, upd_same, ?_⟩, .int m, _, rfl, rfl, .int (t : Int), _, rfl, rfl, rfl⟩
  induction cs with
  | nil => exact rfl
  | cons c r ih => exact ⟨_, _, rfl, rfl, .of_ints r⟩
theorem thaw {G' H' : Hp} (d : DkIs G H p q cs m t) (s : Stp (frz G p q cs m t) H G' H') : Stp G H (hole p q G') H' := by
  have fr : ∀ a, a ≠ p → a ≠ q → frz G p q cs m t a = G a := fun a h1 h2 => by
    unfold frz
    rw [upd_ne h2, upd_ne h1]
  refine ⟨fun a o h => ?_, s.h, fun a o h => ?_, fun a h1 h2 => ?_⟩
  · have h1 : a ≠ p := fun z => by rw [z, d.gp] at h; cases h
    have h2 : a ≠ q := fun z => by rw [z, d.gq] at h; cases h
    unfold hole
    rw [if_neg (fun z => z.elim h1 h2)]
    exact s.g a o (by rw [fr a h1 h2]; exact h)
  · unfold hole at h
    by_cases z : a = p ∨ a = q
    · rw [if_pos z] at h
      cases h
    · rw [if_neg z] at h
      exact s.s a o h
  · unfold hole
    by_cases z : a = p ∨ a = q
    · rw [if_pos z]
    · rw [if_neg z]
      exact s.o a h1 (by rw [fr a (fun y => z (.inl y)) (fun y => z (.inr y))]; exact h2)
theorem frz_env {K : PySem.W.Frag} (E : EnvR K G H σ env) (d : DkIs G H p q cs m t) (h0 : env[0]? = some (.raw (.ref p))) (no : ∀ (i : Nat) (ds : List D), env[i]? ≠ some (.own ds)) : EnvR K (frz G p q cs m t) H σ (env.set 0 (.d (deckD cs m t))) := by
  refine ⟨by rw [List.length_set]; exact E.len, fun i x o h1 h2 => ?_⟩
  rcases get_set h1 with ⟨e1, e2⟩ | ⟨ne, h3⟩
  · subst e1 e2
    have := E.at_ 0 _ o h0 h2
    have e3 : o = some (.ref p) := this
    exact ⟨.ref p, e3, deck_rep d.ne⟩
  · have h := E.at_ i x o h3 h2
    cases x with
    | no => trivial
    | d x =>
      obtain ⟨v, e, r⟩ := h
      exact ⟨v, e, r.mono (frz_ex d)⟩
    | own ds => exact absurd h3 (no i ds)
    | raw v => exact h
theorem fz_int {i : Int} (E : EnvR W.K G H σ env) (x0 : Ex G H) (d : DkIs G H p q cs m t) (h0 : env[0]? = some (.raw (.ref p))) (no : ∀ (i : Nat) (ds : List D), env[i]? ≠ some (.own ds)) (he : J W S k e (env.set 0 (.d (deckD cs m t))) (.int i)) {Q : VK} (f : ∀ G' H', Stp G H G' H' → Q (.int i) H') : wE W S k e σ H Q :=
  he σ _ H (d.frz x0) (frz_env E d h0 no) Q fun v G' H' s r => by
    rw [show v = V.int i from r]
    exact f _ H' (thaw d s)
theorem fz_test {r : Bool} (E : EnvR W.K G H σ env) (x0 : Ex G H) (d : DkIs G H p q cs m t) (h0 : env[0]? = some (.raw (.ref p))) (no : ∀ (i : Nat) (ds : List D), env[i]? ≠ some (.own ds)) (he : JT W S k e (env.set 0 (.d (deckD cs m t))) r) {Q : Bool → Hp → Prop} (f : ∀ G' H', Stp G H G' H' → Q r H') : wT W S k e σ H Q :=
  he σ _ H (d.frz x0) (frz_env E d h0 no) Q fun G' H' s => f _ H' (thaw d s)
theorem wsz_set {i : Int} (A : At W G0 Hb env σ G H) (d : DkIs G0 Hb p q cs m t) (h0 : env[0]? = some (.raw (.ref p))) (no : ∀ (i : Nat) (ds : List D), env[i]? ≠ some (.own ds)) (nd : S.N.Nodup) (hs : StN S j x) (he : J W S k e (env.set 0 (.d (deckD cs m t))) (.int i)) (next : ∀ σ' G' H', At W G0 Hb (env.set j (.d (.int i))) σ' G' H' → wSs W S k rest D' σ' H')
    (hsw : ∀ env : Env, swapsWith e (some (.Name x pos')) pos.line env = pure false := by intro _; rfl) : wSs W S k (.Assign [.Name x pos'] e pos :: rest) D' σ H :=
  wSs_cons (wS_of (fun X hX => ps_set (by rw [hX.N]; exact nd) (by rw [hX.N]; exact hs.1) (by rw [hX.sc]; exact hs.2.1) (pe_w hX e) (hsw X.env) (by rw [hX.fb, hX.sc]; exact hs.2.2)) (fz_int A.e A.s.s (d.mono A.s) h0 no he fun G1 H1 s1 => next _ G1 H1 ((A.mono s1).set (x := .int i) rfl)))
theorem wsz_ret {i : Int} (A : At W G0 Hb env σ G H) (d : DkIs G0 Hb p q cs m t) (h0 : env[0]? = some (.raw (.ref p))) (no : ∀ (i : Nat) (ds : List D), env[i]? ≠ some (.own ds)) (he : J W S k e (env.set 0 (.d (deckD cs m t))) (.int i)) (next : ∀ G' H', At W G0 Hb env σ G' H' → D'.rt (.int i) H') : wSs W S k (.Return (some e) pos :: rest) D' σ H :=
  wSs_cons (wS_of (fun X hX => ps_ret (pe_w hX e)) (fz_int A.e A.s.s (d.mono A.s) h0 no he fun G1 H1 s1 => next G1 H1 (A.mono s1)))
theorem wsz_if {r : Bool} {t1 f1 : List Stmt} (A : At W G0 Hb env σ G H) (d : DkIs G0 Hb p q cs m t) (h0 : env[0]? = some (.raw (.ref p))) (no : ∀ (i : Nat) (ds : List D), env[i]? ≠ some (.own ds)) (he : JT W S k e (env.set 0 (.d (deckD cs m t))) r) (h1 : r = true → ∀ G' H', At W G0 Hb env σ G' H' → wSs W S k t1 { D' with nx := wSs W S k rest D' } σ H') (h2 : r = false → ∀ G' H', At W G0 Hb env σ G' H' → wSs W S k f1 { D' with nx := wSs W S k rest D' } σ H') : wSs W S k (.If e t1 f1 pos :: rest) D' σ H :=
  wSs_cons (wS_of (fun X hX => ps_if (pt_w hX e) (pss_w hX t1) (pss_w hX f1)) (fz_test A.e A.s.s (d.mono A.s) h0 no he fun G1 H1 s1 => by
    cases r with
    | true => exact iteT (h1 rfl G1 H1 (A.mono s1))
    | false => exact iteF (h2 rfl G1 H1 (A.mono s1))))
end
end TH
set_option maxHeartbeats 4000000
namespace TH
open PySem PySem.Spec PyProof.Rows L2
section
variable {W : Gx} {S : Sc} {k : Nat} {env : List Sl} {a b : Expr} {pos : Pos} {i j : Int}
theorem j_mod (ha : J W S k a env (.int i)) (hb : J W S k b env (.int j)) (hj : 0 < j) : J W S k (.BinOp a .Mod b pos) env (.int (i % j)) := j_opI (g := fun i j => i % j) (C := fun _ j => 0 < j) (fun _ => op_mod) ha hb hj
theorem j_fdiv (ha : J W S k a env (.int i)) (hb : J W S k b env (.int j)) (hj : 0 < j) (hj2 : j < 1073741824) : J W S k (.BinOp a .FloorDiv b pos) env (.int (i / j)) := j_opI (g := fun i j => i / j) (C := CDiv) (fun _ => op_fdiv) ha hb ⟨hj, hj2⟩
theorem j_pow {n : Nat} (ha : J W S k a env (.int i)) (hb : J W S k b env (.int (n : Int))) (hi : i.natAbs < 2 ^ 64) (hn : n ≤ 1000000) : J W S k (.BinOp a .Pow b pos) env (.int (i ^ n)) := J.is (j_opI (g := fun i j => i ^ j.toNat) (C := CPow) (fun _ => op_pow) ha hb ⟨by omega, by omega, hi⟩) (by rw [Int.toNat_natCast])
theorem j_ge (ha : J W S k a env (.int i)) (hb : J W S k b env (.int j)) : JT W S k (.Compare a [.GtE] [b] pos) env (decide (j ≤ i)) := jt_cmp c_geI ha hb
end
theorem shI (ns : List Int) : Sh 1 (.lst (ns.map D.int)) := .lst fun d hd => by
  obtain ⟨i, _, rfl⟩ := List.mem_map.mp hd
  exact .int i
theorem eqv_nil (ns : List Int) : PyData.eqv (toP (.lst (ns.map D.int))) (toP (.lst [])) = decide (ns = []) := by
  cases ns with
  | nil => rfl
  | cons n r => rfl
def f_draw_pre (ds : List D) : Prop := ∃ n : Nat, ds = [.int (n : Int)] ∧ 1 ≤ n ∧ n < 1000000
def f_draw (ds : List D) (d : D) : Prop := ∃ n r : Nat, ds = [.int (n : Int)] ∧ d = .int (r : Int) ∧ r < n
theorem post_mod {n : Nat} (h : 1 ≤ n) (i : Int) : f_draw [.int (n : Int)] (.int (i % (n : Int))) := by
  have h1 := Int.emod_nonneg i (show (n : Int) ≠ 0 by omega)
  have h2 := Int.emod_lt_of_pos i (show (0 : Int) < n by omega)
  refine ⟨n, (i % (n : Int)).toNat, rfl, ?_, by omega⟩
  rw [Int.toNat_of_nonneg h1]
theorem dk_cells {G H : Hp} {p q : Addr} {cs : List Int} {m : Int} {t : Nat} (d : DkIs G H p q cs m t) : DGet H p (V.str "cells") (some (.ref q)) := .inl ⟨dkK q m t, .inr "cells", .inl d.hp, rfl, rfl⟩
def noOwn : List Sl → Bool
  | [] => true
  | .own _ :: _ => false
  | .no :: r => noOwn r
  | .d _ :: r => noOwn r
  | .raw _ :: r => noOwn r
theorem noOwn_ok : ∀ {l : List Sl}, noOwn l = true → ∀ (i : Nat) (ds : List D), l[i]? ≠ some (.own ds)
  | [], _, i, ds, e => by simp at e
  | .own _ :: _, h, _, _, _ => by cases h
  | .no :: r, h, 0, ds, e => by cases e
  | .d _ :: r, h, 0, ds, e => by cases e
  | .raw _ :: r, h, 0, ds, e => by cases e
  | .no :: r, h, i + 1, ds, e => noOwn_ok (l := r) h i ds e
  | .d _ :: r, h, i + 1, ds, e => noOwn_ok (l := r) h i ds e
  | .raw _ :: r, h, i + 1, ds, e => noOwn_ok (l := r) h i ds e
theorem jz_get {W : Gx} {S : Sc} {k : Nat} {env : List Sl} {pos p1 p2 : Pos} {cs : List Int} {m : Int} {t : Nat} {x key : Str} {jj} {d : D} (h0 : env[0]? = some (.d (deckD cs m t)) := by rfl) (hd : valD [((Sum.inr "cells" : Key), D.lst (cs.map D.int)), (Sum.inr "mixed", D.int m), (Sum.inr "turn", D.int (t : Int))] (Sum.inr key : Key) = some d := by rfl) (hN : S.N[0]? = some x := by rfl) (hv : VisS S x := by first | exact Or.inl rfl | exact Or.inr (Or.inl rfl) | exact Or.inr (Or.inr rfl)) (hx : (x == ("__debug__" : Str)) = false := by decide) (hx2 : (x == ("__classdict__" : Str)) = false := by decide) : J W S k (.Subscript (.Name x p1) (.Constant (.str key) jj p2) pos) env d :=
  j_dget (q0 := .inr key) (j_var hN hv h0 hx hx2) j_str (fun G v h => h) hd
theorem ok_law_draw {W : Gx} (T : Tx W) : OkD W 1 "_law_draw" 1 1 f_draw_pre f_draw := by
  have mi := T.m_int
  refine okD_of T 49 49 (x := "_law_draw") (d := d_law_draw) (N := N_law_draw) (ps := ["_law_deck_here", "_law_many"]) (k := 0) (n := 1) rfl rfl rfl rfl rfl sc_law_draw rfl (fun _ _ _ _ _ _ us hl => match us, hl with | [_, _], _ => rfl) fun ds p q G0 H0 M σ D' hpre hn dk hM A fin => ?_
  obtain ⟨many, rfl, hm1, hm2⟩ := hpre
  obtain ⟨cs, m, t, is, b1, b2, b3, b4⟩ := dk.is
  refine wSs_cons (wS_X (fun X hX => ps_dput (hu_of hX.room) (pe_w hX _) (pe_w hX _) (pe_w hX _) rfl) fun X hX => ?_)
  refine fz_int (i := (t : Int) + 1) A.e A.s.s (is.mono A.s) rfl (noOwn_ok rfl) (j_add jz_get j_int) fun G1 H1 s1 => ?_
  have A1 := A.mono s1
  refine (jraw 0) σ G1 H1 A1.s.s A1.e _ fun u G2 H2 s2 eu => ?_
  subst eu
  have A2 := A1.mono s2
  refine (j_str (z := "turn")) σ G2 H2 A2.s.s A2.e _ fun u2 G3 H3 s3 eu2 => ?_
  have A3 := A2.mono s3
  rw [show u2 = V.str "turn" from eu2]
  have is3 := is.mono A3.s
  refine ⟨p, upd H3 p (.dK (dkK q m (t + 1))), rfl, .inl ⟨_, .inr "turn", is3.hp, rfl, by show 3 < sizeLine; decide, rfl⟩, ?_⟩
  have A4 := A3.mutB (o := .dK (dkK q m (t + 1))) is.np is.gp
  have is4 : DkIs G0 (upd H0 p (.dK (dkK q m (t + 1)))) p q cs m (t + 1) := ⟨is.ne, is.gp, is.gq, upd_same, by rw [upd_ne (Ne.symm is.ne)]; exact is.hq⟩
  have bl4 : BaseL p q H0 (upd H0 p (.dK (dkK q m (t + 1)))) := ⟨fun a h1 h2 => upd_ne h1, dom_upd is.np⟩
  refine wsz_set (i := m + 60367 * ((t + 1 : Nat) : Int) * ((t + 1 : Nat) : Int)) A4 is4 rfl (noOwn_ok rfl) sc_law_draw.nd (sn 2) (j_add jz_get (j_mul (j_mul j_int jz_get (.inl (by omega))) jz_get (.inr (by omega)))) fun σ5 G5 H5 A5 => ?_
  -- what follows the if, from any deck
  have rest : ∀ (Hb : Hp) (σ : L2.St) (G H : Hp) (ds : List Int) (f : Int) (s4 : Sl), noOwn [s4] = true → BaseL p q H0 Hb → DkIs G0 Hb p q ds m (t + 1) → ds.length ≤ 1000 → At W G0 Hb [.raw (.ref p), .d (.int (many : Int)), .d (.int f), s4] σ G H → wSs W (defS N_law_draw (defScope s_law_draw)) 0 ((defBody s_law_draw).drop 3) D' σ H := fun Hb σ G H ds f s4 hs4 bl is hl A => by
    have no : ∀ f : Int, noOwn [.raw (.ref p), .d (.int (many : Int)), .d (.int f), s4] = true := fun f => hs4
    have f1 := Int.emod_nonneg f (show (2147483579 : Int) ≠ 0 by decide)
    have f2 := Int.emod_lt_of_pos f (show (0 : Int) < 2147483579 by decide)
    refine wsz_set (i := (f % 2147483579 + 293) * 48271 % 2147483647) A is rfl (noOwn_ok (no f)) sc_law_draw.nd (sn 2) (j_mod (j_mul (j_intI (j_add (j_mod (j_intI (jv 2)) j_int (by decide)) j_int)) j_int (.inr (by decide))) j_int (by decide)) fun σ5 G5 H5 A5 => ?_
    generalize hf2 : (f % 2147483579 + 293) * 48271 % 2147483647 = g at A5
    have g1 : 0 ≤ g := by rw [← hf2]; exact Int.emod_nonneg _ (by decide)
    have g2 : g < 2147483647 := by rw [← hf2]; exact Int.emod_lt_of_pos _ (by decide)
    refine wsz_set (i := (g * g + 69621 * ((t + 1 : Nat) : Int) + 29) % 2147483563) A5 is rfl (noOwn_ok (no g)) sc_law_draw.nd (sn 2) (j_mod (j_intI (j_add (j_add (j_mul (jv 2) (jv 2) (.inl (by omega))) (j_mul j_int jz_get (.inl (by decide)))) j_int)) j_int (by decide)) fun σ6 G6 H6 A6 => ?_
    generalize (g * g + 69621 * ((t + 1 : Nat) : Int) + 29) % 2147483563 = h at A6
    refine wsz_ret (i := h * 40692 % 2147483587 / 64 % (many : Int)) A6 is rfl (noOwn_ok (no h)) (j_mod (j_fdiv (j_mod (j_intI (j_mul (jv 2) j_int (.inr (by decide)))) j_int (by decide)) j_int (by decide) (by decide)) (jv 1) (by omega)) fun G7 H7 A7 => ?_
    exact fin.rt _ _ G7 H7 (bl.stp A7.s) ((is.mono A7.s).deck ⟨b1, b2, by omega, hl⟩) (post_mod hm1 _) rfl
  refine wsz_if A5 is4 rfl (noOwn_ok rfl) (jt_cmp (c_neD (r := decide (cs = [])) (shI cs).p rfl ((shI cs).shaped (by decide)) rfl (eqv_nil cs)) jz_get (JN.lst (jn_lst ja_nil))) (fun hr G6 H6 A6 => ?_) fun hr G6 H6 A6 => ?_
  · have hne : cs ≠ [] := by
      rw [Bool.not_eq_true', decide_eq_false_iff_not] at hr
      exact hr
    obtain ⟨c, r, hcs⟩ : ∃ c r, cs = r ++ [c] := ⟨cs.getLast hne, cs.dropLast, (List.dropLast_concat_getLast hne).symm⟩
    have hlr : r.length + 1 = cs.length := by rw [hcs, List.length_append]; rfl
    refine wSs_cons (wS_X (fun X hX => ps_set (i := 3) (by rw [hX.N]; exact sc_law_draw.nd) (by rw [hX.N]; rfl) (by rw [hX.sc]; exact .inl rfl) (pe_bm0 PySem.F.plainAttrs_list PySem.F.slot_list_pop PySem.F.type_list_pop mt_pop (pe_dget (hu_of hX.room) (pe_w hX (.Name "_law_deck_here" _)) (pe_w hX _) (by intro _ _; rfl))) rfl (by rw [hX.fb]; exact .inl rfl)) fun X hX => ?_)
    refine (jraw 0) σ5 G6 H6 A6.s.s A6.e _ fun u G7 H7 s7 eu => ?_
    subst eu
    have A7 := A6.mono s7
    refine (j_str (z := "cells")) σ5 G7 H7 A7.s.s A7.e _ fun u2 G8 H8 s8 eu2 => ?_
    have A8 := A7.mono s8
    rw [show u2 = V.str "cells" from eu2]
    have is8 := is4.mono A8.s
    refine ⟨p, .ref q, rfl, dk_cells is8, .inl ⟨rfl, cs.map V.int, .of is8.hq⟩, q, cs.map V.int, .int c, rfl, rfl, is8.hq, ?_, ?_⟩
    · rw [hcs, List.map_append, List.length_append]
      show (_ ++ [V.int c])[_ + 1 - 1]? = _
      rw [Nat.add_sub_cancel, List.getElem?_append_right (Nat.le_refl _), Nat.sub_self]
      rfl
    · have ed : (cs.map V.int).dropLast = r.map V.int := by
        rw [hcs, List.map_append]
        exact List.dropLast_concat
      rw [ed]
      have A9 := (A8.mutB (o := .lst (r.map V.int)) is4.nq is4.gq).set (i := 3) (x := .int c) (v := .int c) rfl
      have is9 : DkIs G0 (upd (upd H0 p (.dK (dkK q m (t + 1)))) q (.lst (r.map V.int))) p q r m (t + 1) := ⟨is.ne, is.gp, is.gq, by rw [upd_ne is.ne]; exact is4.hp, upd_same⟩
      have bl9 : BaseL p q H0 (upd (upd H0 p (.dK (dkK q m (t + 1)))) q (.lst (r.map V.int))) := bl4.trans ⟨fun a h1 h2 => upd_ne h2, dom_upd is4.nq⟩
      refine ws_if A9 (j_ge (jv 3) (j_pow (n := 18) (i := 10) j_int j_int (by decide) (by decide))) (fun hr G10 H10 A10 => ?_) fun hr G10 H10 A10 => ?_
      · refine wSs_cons (wS_X (fun X hX => ps_expr (pe_bm (e := .BinOp (.Name "_law_cell" _) .FloorDiv (.Name "_law_many" _) _) (es := []) PySem.F.plainAttrs_list PySem.F.slot_list_append PySem.F.type_list_append mt_append (pe_dget (hu_of hX.room) (pe_w hX (.Name "_law_deck_here" _)) (pe_w hX _) (by intro _ _; rfl)) (pa_cons (pe_w hX _) pa_nil rfl) rfl rfl rfl rfl rfl) rfl) fun X hX => ?_)
        refine (jraw 0) _ G10 H10 A10.s.s A10.e _ fun u G7 H7 s7 eu => ?_
        subst eu
        have A7 := A10.mono s7
        refine (j_str (z := "cells")) _ G7 H7 A7.s.s A7.e _ fun u2 G8 H8 s8 eu2 => ?_
        have A8 := A7.mono s8
        rw [show u2 = V.str "cells" from eu2]
        have is8 := is9.mono A8.s
        refine ⟨p, .ref q, rfl, dk_cells is8, .inl ⟨rfl, r.map V.int, .of is8.hq⟩, ?_⟩
        refine (j_fdiv (jv 3) (jv 1) (by omega) (by omega)) _ G8 H8 A8.s.s A8.e _ fun v G11 H11 s11 ev => ?_
        have A11 := A8.mono s11
        have is11 := is9.mono A11.s
        rw [show v = V.int (c / (many : Int)) from ev]
        refine ⟨q, r.map V.int, .int (c / (many : Int)), rfl, rfl, is11.hq, szlt (by rw [List.length_map]; omega), ?_⟩
        have ea : r.map V.int ++ [V.int (c / (many : Int))] = (r ++ [c / (many : Int)]).map V.int := by rw [List.map_append]; rfl
        rw [ea]
        have A12 := A11.mutB (o := .lst ((r ++ [c / (many : Int)]).map V.int)) is9.nq is9.gq
        have bl12 := bl9.trans ⟨fun a h1 h2 => upd_ne (o := .lst ((r ++ [c / (many : Int)]).map V.int)) h2, dom_upd is9.nq⟩
        refine ws_ret A12 (j_mod (j_intI (jv 3)) (jv 1) (by omega)) fun v G13 H13 s13 ev => ?_
        refine fin.rt _ _ G13 H13 (bl12.stp s13) ?_ (post_mod hm1 c) ev
        have is12 : DkIs G0 (upd (upd (upd H0 p (.dK (dkK q m (t + 1)))) q (.lst (r.map V.int))) q (.lst ((r ++ [c / (many : Int)]).map V.int))) p q (r ++ [c / (many : Int)]) m (t + 1) := ⟨is.ne, is.gp, is.gq, by rw [upd_ne is.ne]; exact is9.hp, upd_same⟩
        exact (is12.mono s13).deck ⟨b1, b2, by omega, by rw [List.length_append]; show _ + 1 ≤ _; omega⟩
      · refine ws_nil (ws_set A10 sc_law_draw.nd (sn 2) (j_add (jv 2) (j_intI (jv 3))) fun σ11 G11 H11 A11 => ws_nil (rest _ _ _ _ r _ (.d (.int c)) rfl bl9 is9 (by omega) A11))
  · exact ws_nil (rest _ _ _ _ cs _ .no rfl bl4 is4 b4 A6)
end TH
set_option maxHeartbeats 4000000
namespace TH
open PySem PySem.Spec PyProof.Rows L2
def f_pick_pre (ds : List D) : Prop := (∃ xs : List D, ds = [.lst xs] ∧ 1 ≤ xs.length ∧ xs.length < 1000) ∨ ∃ z : Str, ds = [.str z] ∧ 1 ≤ z.cps.toList.length ∧ z.cps.toList.length < 1000
def f_pick (ds : List D) (d : D) : Prop := (∃ xs : List D, ds = [.lst xs] ∧ d ∈ xs) ∨ ∃ z : Str, ds = [.str z] ∧ ∃ ch ∈ z.cps.toList, d = sgn ch
theorem ok_law_pick {W : Gx} (T : Tx W) : OkD W 2 "_law_pick" 1 1 f_pick_pre f_pick := by
  have ml := T.m_len
  refine okD_of T 50 50 (x := "_law_pick") (d := d_law_pick) (N := N_law_pick) (ps := ["_law_deck_here", "_law_some"]) (k := 1) (n := 1) rfl rfl rfl rfl rfl sc_law_pick rfl (fun _ _ _ _ _ _ us hl => match us, hl with | [_, _], _ => rfl) fun ds p q G0 H0 M σ D' hpre hn dk hM A fin => ?_
  rcases hpre with ⟨xs, rfl, h1, h2⟩ | ⟨z, rfl, h1, h2⟩
  · refine wsd_ret A dk (jr_ixL (jv 1) (JR.imp (jr_call (ok_law_draw T) (ja_cons (j_lenL (jv 1).l) ja_nil) ⟨xs.length, rfl, h1, by omega⟩) ?_)) hM fun d v G' H' hR s d' r => fin.rt d v G' H' s d' (.inl ⟨xs, rfl, hR⟩) r
    rintro d ⟨n, r, e, rfl, hr⟩
    refine ⟨r, rfl, ?_⟩
    have := List.head_eq_of_cons_eq e
    injection this with this
    omega
  · have zl : z.length = z.cps.toList.length := rfl
    refine wsd_ret A dk (jr_ixS (jv 1) (JR.imp (jr_call (ok_law_draw T) (ja_cons (j_lenS (jv 1) (by omega)) ja_nil) ⟨z.length, rfl, by omega, by omega⟩) ?_) (by omega)) hM fun d v G' H' hR s d' r => fin.rt d v G' H' s d' (.inr ⟨z, rfl, hR⟩) r
    rintro d ⟨n, r, e, rfl, hr⟩
    refine ⟨r, rfl, ?_⟩
    have := List.head_eq_of_cons_eq e
    injection this with this
    omega
theorem pick_lst {xs : List D} {d : D} (h : f_pick [.lst xs] d) : d ∈ xs := by
  rcases h with ⟨ys, e, h⟩ | ⟨z, e, _⟩
  · have := List.head_eq_of_cons_eq e
    injection this with this
    rw [this]
    exact h
  · cases e
theorem pick_str {z : Str} {d : D} (h : f_pick [.str z] d) : ∃ ch ∈ z.cps.toList, d = sgn ch := by
  rcases h with ⟨ys, e, h⟩ | ⟨y, e, h⟩
  · cases e
  · have := List.head_eq_of_cons_eq e
    injection this with this
    rw [this]
    exact h
theorem ints_of {ns : List Int} : ∀ {ds : List D}, (∀ d ∈ ds, d ∈ ns.map D.int) → ∃ r : List Int, ds = r.map D.int ∧ ∀ v ∈ r, v ∈ ns
  | [], _ => ⟨[], rfl, fun v hv => by cases hv⟩
  | d :: ds, h => by
    obtain ⟨i, hi, e⟩ := List.mem_map.mp (h d List.mem_cons_self)
    obtain ⟨r, e2, h2⟩ := ints_of (ds := ds) fun x hx => h x (List.mem_cons_of_mem _ hx)
    refine ⟨i :: r, by rw [← e, e2]; rfl, fun v hv => ?_⟩
    rcases List.mem_cons.mp hv with rfl | hv
    · exact hi
    · exact h2 v hv
def f_line_pre (ds : List D) : Prop := ∃ (n : Nat) (ns : List Int), ds = [.int (n : Int), .lst (ns.map D.int)] ∧ n ≤ 10 ∧ 1 ≤ ns.length ∧ ns.length < 1000
def f_line (ds : List D) (d : D) : Prop := ∃ (n : Nat) (ns r : List Int), ds = [.int (n : Int), .lst (ns.map D.int)] ∧ d = rowD r ∧ r.length = n ∧ ∀ v ∈ r, v ∈ ns
theorem ok_law_line {W : Gx} (T : Tx W) : OkD W 3 "_law_line" 2 10 f_line_pre f_line := by
  have mt := T.m_tuple
  have mr := T.m_range
  refine okD_of T 51 51 (x := "_law_line") (d := d_law_line) (N := N_law_line) (ps := ["_law_deck_here", "_law_size", "_law_some"]) (k := 2) (n := 2) rfl rfl rfl rfl rfl sc_law_line rfl (fun _ _ _ _ _ _ us hl => match us, hl with | [_, _, _], _ => rfl) fun ds p q G0 H0 M σ D' hpre hn dk hM A fin => ?_
  obtain ⟨n, ns, rfl, h1, h2, h3⟩ := hpre
  refine wsd_ret A dk (JR.le (jr_tupleN (jrn1 (L := 10) (c := 1) (R := fun d => d ∈ ns.map D.int) 3 sc_law_line.nd (ji_range1 (n := n) (jv 1) (by omega)).dr (fun items e => ?_) (by decide) (fun items e d hd => JR.imp (jr_call (ok_law_pick T) (ja_cons (jv 2) ja_nil) (.inl ⟨_, rfl, by rw [List.length_map]; exact h2, by rw [List.length_map]; exact h3⟩)) fun d h => pick_lst h))) (by decide : 0 + 10 * 1 ≤ 10)) hM fun d v G' H' hR s d' r => ?_
  · rw [e, List.length_map, List.length_range]
    exact h1
  · obtain ⟨es, rfl, ⟨items, rfl, hl⟩, hall⟩ := hR
    obtain ⟨row, rfl, hr⟩ := ints_of hall
    refine fin.rt _ v G' H' s d' ⟨n, ns, row, rfl, rfl, ?_, hr⟩ r
    rw [List.length_map, List.length_map, List.length_range] at hl
    exact hl
def f_page_pre (ds : List D) : Prop := ∃ (z : Str) (n : Nat), ds = [.str z, .int (n : Int)] ∧ 1 ≤ z.cps.toList.length ∧ z.cps.toList.length < 1000 ∧ n ≤ 8
def f_page (ds : List D) (d : D) : Prop := ∃ (z w : Str) (n : Nat), ds = [.str z, .int (n : Int)] ∧ d = .str w ∧ (∀ c ∈ w.cps.toList, c ∈ z.cps.toList) ∧ w.cps.toList.length ≤ n
theorem ok_law_page {W : Gx} (T : Tx W) : OkD W 3 "_law_page" 2 10 f_page_pre f_page := by
  have mr := T.m_range
  refine okD_of T 59 59 (x := "_law_page") (d := d_law_page) (N := N_law_page) (ps := ["_law_deck_here", "_law_signs", "_law_most"]) (k := 2) (n := 2) rfl rfl rfl rfl rfl sc_law_page rfl (fun _ _ _ _ _ _ us hl => match us, hl with | [_, _, _], _ => rfl) fun ds p q G0 H0 M σ D' hpre hn dk hM A fin => ?_
  obtain ⟨z, n, rfl, h1, h2, h3⟩ := hpre
  refine wsd_ret A dk (JR.le (c := 1 + 8 * 1) (jr_joinN (L := n) (z := z) (by omega) j_str (JRN.imp (JRN.le (jrn1 (L := n) (c := 1) (R := fun d => ∃ ch ∈ z.cps.toList, d = sgn ch) 3 sc_law_page.nd (jid_range1 (L := n) (JR.imp (jr_call (ok_law_draw T) (ja_cons (j_add (jv 2) j_int) ja_nil) ⟨n + 1, rfl, by omega, by omega⟩) ?_) (by omega)) (fun items e => ?_) (by omega) (fun items e d hd => JR.imp (jr_call (ok_law_pick T) (ja_cons (jv 1) ja_nil) (.inr ⟨z, rfl, h1, h2⟩)) fun d h => pick_str h)) (by omega)) ?_)) (by decide)) hM fun d v G' H' hR s d' r => ?_
  · rintro d ⟨m, r, e, rfl, hr⟩
    refine ⟨r, rfl, ?_⟩
    have := List.head_eq_of_cons_eq e
    injection this with this
    omega
  · obtain ⟨m, hm, rfl⟩ := e
    rw [List.length_map, List.length_range]
    exact hm
  · rintro ds ⟨⟨items, ⟨m, hm, rfl⟩, hl⟩, hall⟩
    refine ⟨?_, hall⟩
    rw [hl, List.length_map, List.length_range]
    exact hm
  · obtain ⟨w, rfl, hw, hl⟩ := hR
    exact fin.rt _ v G' H' s d' ⟨z, w, n, rfl, rfl, hw, hl⟩ r
end TH
set_option maxHeartbeats 4000000
namespace TH
open PySem PySem.Spec PyProof.Rows L2
def wdD1 (x : Tl) : D := .dic [(.inr "signs", .str x.z), (.inr "begin", rowD x.st), (.inr "last", rowD x.en), (.inr "lots", tabsD x.ts)]
def wdD2 (x : Tl) : D := .dic [(.inr "signs", .str x.z), (.inr "begin", rowD x.st), (.inr "lots", tabsD x.ts), (.inr "last", rowD x.en)]
/-- the dict of a world -/
def IsW (x : Tl) (d : D) : Prop := d = wdD1 x ∨ d = wdD2 x
section
variable {W : Gx} {S : Sc} {k : Nat} {env : List Sl} {a : Expr} {pos p2 : Pos} {jj : Option Str} {x : Tl} {d : D}
theorem jw_signs {jj} (h : IsW x d) (ha : J W S k a env d) : J W S k (.Subscript a (.Constant (.str "signs") jj p2) pos) env (.str x.z) := by
  rcases h with rfl | rfl
  · exact j_dget (q0 := .inr "signs") ha j_str (fun G v h => h) rfl
  · exact j_dget (q0 := .inr "signs") ha j_str (fun G v h => h) rfl
theorem jw_begin {jj} (h : IsW x d) (ha : J W S k a env d) : J W S k (.Subscript a (.Constant (.str "begin") jj p2) pos) env (rowD x.st) := by
  rcases h with rfl | rfl
  · exact j_dget (q0 := .inr "begin") ha j_str (fun G v h => h) rfl
  · exact j_dget (q0 := .inr "begin") ha j_str (fun G v h => h) rfl
theorem jw_lots {jj} (h : IsW x d) (ha : J W S k a env d) : J W S k (.Subscript a (.Constant (.str "lots") jj p2) pos) env (tabsD x.ts) := by
  rcases h with rfl | rfl
  · exact j_dget (q0 := .inr "lots") ha j_str (fun G v h => h) rfl
  · exact j_dget (q0 := .inr "lots") ha j_str (fun G v h => h) rfl
theorem jw_last {jj} (h : IsW x d) (ha : J W S k a env d) : J W S k (.Subscript a (.Constant (.str "last") jj p2) pos) env (rowD x.en) := by
  rcases h with rfl | rfl
  · exact j_dget (q0 := .inr "last") ha j_str (fun G v h => h) rfl
  · exact j_dget (q0 := .inr "last") ha j_str (fun G v h => h) rfl
end
def f_code (W : Gx) (ds : List D) (d : D) : Prop := ∃ (x : Tl) (n : Nat) (dw : D), IsW x dw ∧ WT n x ∧ ds = [dw] ∧ d = tlD W x
theorem ok_law_code {W : Gx} (T : Tx W) : OkF W 7 "_law_code" 1 (f_code W) := by
  refine mk_law_code T fun ds d G0 H0 σ D' hf hn A fin => ?_
  obtain ⟨x, n, dw, hw, w, rfl, rfl⟩ := hf
  exact ws_ret A (JO1.j (jo_make (oki_Tally T) (ds := [.str x.z, rowD x.st, tabsD x.ts, rowD x.en]) (ja_cons (jw_signs hw (jv 0)) (ja_cons (jw_begin hw (jv 0)) (ja_cons (jw_lots hw (jv 0)) (ja_cons (jw_last hw (jv 0)) ja_nil)))) ⟨x, n, w, rfl, rfl⟩)) fin.rt
theorem sum_range (n : Nat) (f : Nat → Int) : ((List.range n).map f).sum = TM.sumN n f := by
  induction n with
  | zero => rfl
  | succ n ih =>
    rw [List.range_succ, List.map_append, List.sum_append, ih]
    show _ + (f n + 0) = _
    rw [Int.add_zero]
    rfl
def f_lled (ds : List D) (d : D) : Prop := ∃ (r : List Int) (t : List (List Int)) (n a b : Nat), ds = [rowD r, tabD t] ∧ n < 1000 ∧ TM.Sq n t ∧ r.length = n ∧ TM.Bd a r ∧ TM.BdT b t ∧ a + b ≤ 999990 ∧ d = rowD (TM.led r t)
theorem ok_law_led {W : Gx} (T : Tx W) : OkF W 1 "_law_led" 2 f_lled := by
  have mt := T.m_tuple
  have ms := T.m_sum
  have mr := T.m_range
  have ml := T.m_len
  refine mk_law_led T fun ds d G0 H0 σ D' hf hn A fin => ?_
  obtain ⟨r, t, n, a, b, rfl, hlt, sq, hr, ba, bb, hab, rfl⟩ := hf
  have hn' : (r.map D.int).length = n := by rw [List.length_map, hr]
  refine ws_ret A (J.is (j_tupleL (JN.l (JLc.n (jc1 2 sc_law_led.nd (ji_range1 (n := n) (J.is (j_lenT (jv 0)) (by rw [hn'])) (by omega)) (f := fun (j : Nat) => D.int ((TM.led r t).getD j 0)) (fun j hj => ?_) ?_)))) ?_) fin.rt
  · have hjn : j < n := List.mem_range.mp hj
    refine J.is (j_sum (ns := (List.range n).map fun i => r.getD i 0 * TM.en t i j) (JN.l (JN.is (JLc.n (jc1 3 sc_law_led.nd (ji_range1 (n := n) (J.is (j_lenT (jv 0)) (by rw [hn'])) (by omega)) (f := fun (i : Nat) => D.int (r.getD i 0 * TM.en t i j)) (fun i hi => ?_) ?_)) ?_))) ?_
    · have hin : i < n := List.mem_range.mp hi
      have hti : (t.getD i []).length = n := sq.row hin
      have hbt : TM.Bd b (t.getD i []) := by
        rw [TM.getD_at (by rw [sq.1]; exact hin)]
        exact bb _ (List.getElem_mem _)
      refine j_mulW (x := a) (y := b) (j_ixT (jv 0) (jv 3) (at_row (by omega))) (j_ixT (d := .int ((t.getD i []).getD j 0)) (j_ixT (d := rowD (t.getD i [])) (jv 1) (jv 3) (atI_nat ?_)) (jv 2) (at_row (by omega))) (TM.mem_getD ba) (TM.mem_getD hbt) hab
      rw [List.getElem?_map, List.getElem?_eq_getElem (by rw [sq.1]; exact hin), TM.getD_at (by rw [sq.1]; exact hin)]
      rfl
    · rw [List.length_range]
      omega
    · rw [List.map_map]
      rfl
    · rw [sum_range, TM.led_get sq hr hjn]
  · rw [List.length_range]
    omega
  · have : (List.range n).map (fun j => (TM.led r t).getD j 0) = TM.led r t := by
      refine TM.row_ext (n := n) (by rw [List.length_map, List.length_range]) (TM.led_len sq r) fun j hj => ?_
      rw [TM.map_getD 0 (by rw [List.length_range]; exact hj), TM.range_getD hj]
    rw [← this]
    unfold rowD
    rw [List.map_map, this]
    rfl
def f_ldot (ds : List D) (d : D) : Prop := ∃ (r s : List Int) (a b : Nat), ds = [rowD r, rowD s] ∧ r.length = s.length ∧ r.length < 1000 ∧ TM.Bd a r ∧ TM.Bd b s ∧ a + b ≤ 999990 ∧ d = .int (TM.prod r s)
theorem ok_law_dot {W : Gx} (T : Tx W) : OkF W 1 "_law_dot" 2 f_ldot := by
  have ms := T.m_sum
  have mz := T.m_zip
  refine mk_law_dot T fun ds d G0 H0 σ D' hf hn A fin => ?_
  obtain ⟨r, s, a, b, rfl, hl, hlt, ba, bb, hab, rfl⟩ := hf
  refine ws_ret (d := .int (TM.prod r s)) A (j_sum (ns := (r.zip s).map fun p => p.1 * p.2) ?_) fin.rt
  rw [List.map_map]
  refine JN.l (JLc.n (jc2 2 3 sc_law_dot.nd (xs := r.zip s) (g1 := fun p => D.int p.1) (g2 := fun p => D.int p.2) ?_ (fun p hp => ?_) ?_))
  · rw [← zipD_map2 D.int D.int]
    exact ji_zip (jsr_t (jv 0)) (jsr_t (jv 1))
  · obtain ⟨q1, q2⟩ := List.of_mem_zip (show (p.1, p.2) ∈ r.zip s from hp)
    exact j_mulW (jv 2) (jv 3) (ba _ q1) (bb _ q2) hab
  · rw [List.length_zip]
    omega
def f_line_of (ds : List D) (d : D) : Prop := ∃ (x : Tl) (n b : Nat) (w : Str) (dw : D), IsW x dw ∧ Al x.z ∧ WT n x ∧ WB b x ∧ b ≤ 200 ∧ Tk x.z w ∧ ds = [dw, .str w] ∧ d = rowD (x.rowW w.cps.toList)
theorem ok_law_line_of {W : Gx} (T : Tx W) : OkF W 2 "_law_line_of" 2 f_line_of := by
  refine mk_law_line_of T fun ds d G0 H0 σ D' hf hn A fin => ?_
  obtain ⟨x, n, b, w, dw, iw, al, hw, hb, hb2, tk, rfl, rfl⟩ := hf
  refine ws_set A sc_law_line_of.nd (sn 2) (jw_begin iw (jv 0)) fun σ2 G2 H2 A2 => ?_
  refine ws_for (items := w.cps.toList.map sgn) (t := .one 3) (fun i => [.d dw, .d (.str w), .d (rowD (x.rowW (w.cps.toList.take i))), .no]) A2 sc_law_line_of.nd (ji_str (jv 1)) (.one (sn 3)) (fun _ _ => trivial) (Le.refl _) (fun Gb m dd σ3 G3 H3 nx hd A3 hnx => ?_) fun σ3 G3 H3 A3 => ?_
  · rw [List.getElem?_map] at hd
    obtain ⟨c, hc, rfl⟩ := Option.map_eq_some_iff.mp hd
    have hmem : c ∈ x.z.cps.toList := tk.1 c (List.mem_of_getElem? hc)
    have hl : m < w.cps.toList.length := (List.getElem?_eq_some_iff.mp hc).1
    obtain ⟨r1, r2⟩ := rowW_ok hw hb (cs := w.cps.toList.take m) (fun d hd => tk.1 d (List.mem_of_mem_take hd))
    have hm := hw.mem_tab hmem
    have hix : x.z.cps.toList.idxOf c < x.ts.length := by rw [hw.tl]; exact List.idxOf_lt_length_of_mem hmem
    refine ws_set A3 sc_law_line_of.nd (sn 2) (j_call (ok_law_led T) (ja_cons (jv 2) (ja_cons (j_ixT (d := tabD (x.tab c)) (jw_lots iw (jv 0)) (j_sindex al hmem (jw_signs iw (jv 0)) (jv 3 (d := sgn c))) (atI_nat ?_)) ja_nil)) ⟨_, x.tab c, n, _, b, rfl, hw.lt, hw.sq _ hm, r1, r2, hb.t _ hm, ?_, rfl⟩) fun σ4 G4 H4 A4 => ?_
    · rw [List.getElem?_map, List.getElem?_eq_getElem hix]
      unfold Tl.tab
      rw [TM.getD_at hix]
      rfl
    · have := bits_le hb2 (l := (w.cps.toList.take m).length) (by rw [List.length_take]; have := tk.2; omega)
      omega
    · refine ws_nil (hnx σ4 G4 H4 (At.le (env := [.d dw, .d (.str w), .d (rowD (TM.led (x.rowW (w.cps.toList.take m)) (x.tab c))), .d (sgn c)]) A4 ?_))
      rw [take_succ_get hc]
      unfold Tl.rowW
      rw [rowF_snoc]
      exact .cons (.cons (.cons (.no .nil)))
  · refine ws_ret A3 (J.is (jv 2) ?_) fin.rt
    rw [List.length_map, List.take_length]
def f_lworth (ds : List D) (d : D) : Prop := ∃ (x : Tl) (n b : Nat) (w : Str) (dw : D), IsW x dw ∧ Al x.z ∧ WT n x ∧ WB b x ∧ b ≤ 200 ∧ Tk x.z w ∧ ds = [dw, .str w] ∧ d = .int (x.worth w.cps.toList)
theorem ok_law_worth {W : Gx} (T : Tx W) : OkF W 3 "_law_worth" 2 f_lworth := by
  refine mk_law_worth T fun ds d G0 H0 σ D' hf hn A fin => ?_
  obtain ⟨x, n, b, w, dw, iw, al, hw, hb, hb2, tk, rfl, rfl⟩ := hf
  obtain ⟨r1, r2⟩ := rowW_ok hw hb (cs := w.cps.toList) tk.1
  have := bits_le hb2 tk.2
  exact ws_ret A (j_call (ok_law_dot T) (ja_cons (j_call (ok_law_line_of T) (ja_cons (jv 0) (ja_cons (jv 1) ja_nil)) ⟨x, n, b, w, dw, iw, al, hw, hb, hb2, tk, rfl, rfl⟩) (ja_cons (jw_last iw (jv 0)) ja_nil)) ⟨_, x.en, _, b, rfl, by rw [r1, hw.el], by rw [r1]; exact hw.lt, r2, hb.e, by omega, rfl⟩) fin.rt
end TH
set_option maxHeartbeats 4000000
namespace TM
theorem words_snoc (cs : List Nat) : ∀ k, words cs (k + 1) = (words cs k).flatMap fun v => cs.map fun d => v ++ [d]
  | 0 => by
    show cs.flatMap (fun c => [[c]]) = (cs.map fun d => [d]) ++ []
    rw [List.append_nil]
    induction cs with
    | nil => rfl
    | cons c r ih => rw [List.flatMap_cons, ih]; rfl
  | k + 1 => by
    show cs.flatMap (fun c => (words cs (k + 1)).map fun w => c :: w) = (cs.flatMap fun c => (words cs k).map fun w => c :: w).flatMap _
    rw [List.flatMap_assoc]
    congr 1
    funext c
    rw [words_snoc cs k, List.map_flatMap, List.flatMap_map]
    congr 1
    funext v
    rw [List.map_map]
    rfl
theorem words_length (cs : List Nat) : ∀ k, (words cs k).length = cs.length ^ k
  | 0 => rfl
  | k + 1 => by
    show (cs.flatMap _).length = _
    rw [List.length_flatMap]
    have : cs.map (fun c => ((words cs k).map fun w => c :: w).length) = cs.map fun _ => cs.length ^ k := by
      congr 1
      funext c
      rw [List.length_map, words_length cs k]
    rw [this, List.map_const', List.sum_replicate_nat, Nat.pow_succ, Nat.mul_comm]
end TM
namespace TH
open PySem PySem.Spec PyProof.Rows L2
def toS (w : List Nat) : Str := ⟨w.toArray⟩
theorem toS_list (w : List Nat) : (toS w).cps.toList = w := rfl
theorem toS_of (z : Str) : toS z.cps.toList = z := by cases z; rfl
def wD (w : List Nat) : D := .str (toS w)
/-- all words of at most k signs -/
def foundW (cs : List Nat) : Nat → List (List Nat)
  | 0 => [[]]
  | k + 1 => foundW cs k ++ TM.words cs (k + 1)
theorem pow_small {a k : Nat} (ha : a ≤ 3) (hk : k ≤ 4) : a ^ k ≤ 81 := Nat.le_trans (Nat.pow_le_pow_left ha k) (Nat.le_trans (Nat.pow_le_pow_right (by decide) hk) (by decide))
theorem foundW_len {cs : List Nat} (h : cs.length ≤ 3) : ∀ {k : Nat}, k ≤ 4 → (foundW cs k).length ≤ (k + 1) * 81
  | 0, _ => Nat.le_of_ble_eq_true rfl
  | k + 1, hk => by
    have ih := foundW_len h (k := k) (by omega)
    have := pow_small h hk
    show (foundW cs k ++ TM.words cs (k + 1)).length ≤ _
    rw [List.length_append, TM.words_length, Nat.add_mul (k + 1) 1]
    omega
theorem al3 {z : Str} (al : Al z) : 1 ≤ z.cps.toList.length ∧ z.cps.toList.length ≤ 3 := by
  rcases al with rfl | rfl | rfl | rfl <;> decide
def f_pages (ds : List D) (d : D) : Prop := ∃ (z : Str) (n : Nat), Al z ∧ n ≤ 4 ∧ ds = [.str z, .int (n : Int)] ∧ d = .lst ((foundW z.cps.toList n).map wD)
theorem str_one {c : Nat} : (⟨#[c]⟩ : Str) = toS [c] := rfl
theorem toS_app (v w : List Nat) : toS v ++ toS w = toS (v ++ w) := by
  rw [str_ext, app_list]
  rfl
theorem ok_law_pages {W : Gx} (T : Tx W) : OkF W 1 "_law_pages" 2 f_pages := by
  have mr := T.m_range
  refine mk_law_pages T fun ds d G0 H0 σ D' hf hn A fin => ?_
  obtain ⟨z, n, al, hn4, rfl, rfl⟩ := hf
  obtain ⟨l1, l3⟩ := al3 al
  have zl : z.length = z.cps.toList.length := rfl
  have wl : ∀ k, k ≤ 4 → (TM.words z.cps.toList k).length ≤ 81 := fun k hk => by
    rw [TM.words_length]
    exact pow_small l3 hk
  refine ws_par (i := 2) (j := 3) (d := .lst ((foundW z.cps.toList 0).map wD)) (d' := .lst ((TM.words z.cps.toList 0).map wD)) A sc_law_pages.nd rfl rfl rfl rfl (by decide) (ja_cons (JN.lst (jn_lst (ja_cons j_str ja_nil) (by show 1 ≤ 100000; decide))) (ja_cons (JN.lst (jn_lst (ja_cons j_str ja_nil) (by show 1 ≤ 100000; decide))) ja_nil)) fun σ1 G1 H1 A1 => ?_
  refine ws_for (items := (List.range n).map fun (i : Nat) => D.int (i : Int)) (t := .one 4) (fun i => [.d (.str z), .d (.int (n : Int)), .d (.lst ((foundW z.cps.toList i).map wD)), .d (.lst ((TM.words z.cps.toList i).map wD)), .no, .no, .no, .no]) A1 sc_law_pages.nd (ji_range1 (jv 1) (by omega)) (.one (sn 4)) (fun _ _ => trivial) (Le.refl _) (fun Gb m dd σ3 G3 H3 nx hd A3 hnx => ?_) fun σ3 G3 H3 A3 => ?_
  · have hmn : m < n := by
      have := (List.getElem?_eq_some_iff.mp hd).1
      rw [List.length_map, List.length_range] at this
      exact this
    have wl2 := wl m (by omega)
    refine ws_setO A3 sc_law_pages.nd (sn 5) (jn_lst ja_nil) fun σ4 G4 H4 A4 => ?_
    refine ws_for (items := (TM.words z.cps.toList m).map wD) (t := .one 6) (fun j => [.d (.str z), .d (.int (n : Int)), .d (.lst ((foundW z.cps.toList m).map wD)), .d (.lst ((TM.words z.cps.toList m).map wD)), .d dd, .own ((((TM.words z.cps.toList m).take j).flatMap fun v => z.cps.toList.map fun c => v ++ [c]).map wD), .no, .no]) A4 sc_law_pages.nd (ji_lst (jv 3)) (.one (sn 6)) (fun _ _ => trivial) (Le.refl _) (fun Gc j dj σ5 G5 H5 nx2 hd2 A5 hnx2 => ?_) fun σ5 G5 H5 A5 => ?_
    · rw [List.getElem?_map] at hd2
      obtain ⟨v, hv, rfl⟩ := Option.map_eq_some_iff.mp hd2
      have hvm := List.mem_of_getElem? hv
      have hvl := TM.words_len hvm
      have hjl : j < (TM.words z.cps.toList m).length := (List.getElem?_eq_some_iff.mp hv).1
      have flat_le : ∀ l : List (List Nat), (l.flatMap fun v => z.cps.toList.map fun c => v ++ [c]).length = l.length * z.cps.toList.length := fun l => by
        induction l with
        | nil => exact (Nat.zero_mul _).symm
        | cons a l ih => rw [List.flatMap_cons, List.length_append, ih, List.length_map, List.length_cons, Nat.add_mul, Nat.one_mul, Nat.add_comm]
      refine ws_extend (i := 5) A5 rfl rfl (.inl rfl) (es := (z.cps.toList.map fun c => wD (v ++ [c]))) (JN.lst (JLc.n (jc1 7 sc_law_pages.nd (ji_str (jv 0)) (f := fun c => wD (v ++ [c])) (fun c hc => ?_) (by omega)))) ?_ fun σ6 G6 H6 A6 => ?_
      · refine J.is (j_addS (y := toS v) (z := ⟨#[c]⟩) (jv 6 (d := wD v)) (jv 7 (d := sgn c)) ?_) ?_
        · show v.length + 1 ≤ _
          omega
        · rw [str_one, toS_app]
          rfl
      · rw [List.length_map, flat_le, List.length_take, List.length_map]
        have : min j (TM.words z.cps.toList m).length * z.cps.toList.length ≤ 81 * 3 := Nat.mul_le_mul (by omega) l3
        omega
      · refine ws_nil (hnx2 σ6 G6 H6 (At.le (env := [.d (.str z), .d (.int (n : Int)), .d (.lst ((foundW z.cps.toList m).map wD)), .d (.lst ((TM.words z.cps.toList m).map wD)), .d dd, .own (((((TM.words z.cps.toList m).take j).flatMap fun v => z.cps.toList.map fun c => v ++ [c]).map wD) ++ (z.cps.toList.map fun c => wD (v ++ [c]))), .d (wD v), .no]) A6 ?_))
        rw [take_succ_get hv, List.flatMap_append, List.map_append]
        show Le _ [_, _, _, _, _, Sl.own (_ ++ List.map wD ((z.cps.toList.map fun c => v ++ [c]) ++ [])), _, _]
        rw [List.append_nil, List.map_map]
        exact .cons (.cons (.cons (.cons (.cons (.cons (.no (.cons .nil)))))))
    · have hfull : ((TM.words z.cps.toList m).take ((TM.words z.cps.toList m).map wD).length).flatMap (fun v => z.cps.toList.map fun c => v ++ [c]) = TM.words z.cps.toList (m + 1) := by
        rw [List.length_map, List.take_length, ← TM.words_snoc]
      rw [hfull] at A5
      obtain ⟨G6, A6⟩ := A5.freeze (i := 5) rfl
      refine ws_par (i := 2) (j := 3) (d := .lst ((foundW z.cps.toList (m + 1)).map wD)) (d' := .lst ((TM.words z.cps.toList (m + 1)).map wD)) A6 sc_law_pages.nd rfl rfl rfl rfl (by decide) (ja_cons (J.is (JN.lst (jn_cat (jv 2).l (jv 5).l ?_)) ?_) (ja_cons (jv 5) ja_nil)) fun σ7 G7 H7 A7 => ?_
      · have h1 := foundW_len l3 (k := m) (by omega)
        have h2 := wl (m + 1) (by omega)
        rw [List.length_map, List.length_map]
        have : (m + 1) * 81 ≤ 5 * 81 := Nat.mul_le_mul_right _ (by omega)
        omega
      · show D.lst _ = D.lst ((foundW z.cps.toList m ++ TM.words z.cps.toList (m + 1)).map wD)
        rw [List.map_append]
      · refine ws_nil (hnx σ7 G7 H7 (At.le (env := [.d (.str z), .d (.int (n : Int)), .d (.lst ((foundW z.cps.toList (m + 1)).map wD)), .d (.lst ((TM.words z.cps.toList (m + 1)).map wD)), .d dd, .d (.lst ((TM.words z.cps.toList (m + 1)).map wD)), .no, .no]) A7 ?_))
        exact .cons (.cons (.cons (.cons (.no (.no (.no (.no .nil)))))))
  · refine ws_ret A3 (J.is (jv 2) ?_) fin.rt
    rw [List.length_map, List.length_range]
end TH
set_option maxHeartbeats 4000000
namespace TH
open PySem PySem.Spec PyProof.Rows L2
section
variable {W : Gx} {S : Sc} {k : Nat} {G0 H0 G H : Hp} {env : List Sl} {σ : L2.St} {D' : Ends} {rest : List Stmt} {e a b c tg : Expr} {pos pos' p p1 p2 p3 p4 p5 : Pos} {x y z : Str} {i j l : Nat} {d d' d2 : D}
/-- a, b = [..], e where a name is captured -/
theorem ws_tup2O1 {n n2 : Nat} {ds : List D} (A : At W G0 H0 env σ G H) (nd : S.N.Nodup) (hs1 : StN S i x) (hs2 : StN S j y) (hij : i ≠ j) (ha : JN W S k a env ds) (hb : J W S k b env d)
    (next : ∀ σ' G' H', At W G0 H0 ((env.set i (.own ds)).set j (.d d)) σ' G' H' → wSs W S k rest D' σ' H') (hpa : Plain a := by intro _ _; rfl) (hpb : Plain b := by intro _ _; rfl)
    (hw : ∀ env : Env, env.scope = S.sc → swappedStores [.Tuple [.Name x p1, .Name y p2] n p] (.Tuple [a, b] n2 p3) env = pure none := by intro env h; cases env; cases h; rfl)
    (hs : ∀ env : Env, swapsWithSole [.Tuple [.Name x p1, .Name y p2] n p] (.Tuple [a, b] n2 p3) pos.line env = pure false := by intro _; rfl) :
    wSs W S k (.Assign [.Tuple [.Name x p1, .Name y p2] n p] (.Tuple [a, b] n2 p3) pos :: rest) D' σ H :=
  wSs_cons (wS_of (fun X hX => ps_asg (pe_tup (pa_cons (pe_w hX a) (pa_cons (pe_w hX b) pa_nil (hpb [] X.env)) (hpa [b] X.env))) (pg_tg hX nd (.two hs1 hs2 hij)) (hs X.env) (hw X.env hX.sc))
    (ha σ G H A.s.s A.e _ fun q vs G1 H1 s1 hn hg hh r1 => hb σ G1 H1 s1.s (A.e.mono s1) _ fun u G2 H2 s2 r2 => ⟨sz (by show 2 ≤ 100000; decide), fun p hp =>
      ⟨p, [.ref q, u], rfl, .of upd_same, rfl, .ref q, [u], rfl, u, [], rfl, rfl, next _ G2 _ ((((A.setO (i := i) s1 hn hg hh r1).mono s2).set (i := j) r2).mono (Stp.newO s2.s hp))⟩⟩))
/-- a, b, c = e1, e2, e3 where a name is captured -/
theorem ws_tup3 {n n2 : Nat} {d3 : D} (A : At W G0 H0 env σ G H) (nd : S.N.Nodup) (hs1 : StN S i x) (hs2 : StN S j y) (hs3 : StN S l z) (hij : i ≠ j) (hil : i ≠ l) (hjl : j ≠ l) (he : JA W S k [a, b, c] env [d, d2, d3])
    (next : ∀ σ' G' H', At W G0 H0 (((env.set i (.d d)).set j (.d d2)).set l (.d d3)) σ' G' H' → wSs W S k rest D' σ' H')
    (hw : ∀ env : Env, env.scope = S.sc → swappedStores [.Tuple [.Name x p1, .Name y p2, .Name z p4] n p] (.Tuple [a, b, c] n2 p3) env = pure none := by intro env h; cases env; cases h; rfl)
    (hs : ∀ env : Env, swapsWithSole [.Tuple [.Name x p1, .Name y p2, .Name z p4] n p] (.Tuple [a, b, c] n2 p3) pos.line env = pure false := by intro _; rfl) :
    wSs W S k (.Assign [.Tuple [.Name x p1, .Name y p2, .Name z p4] n p] (.Tuple [a, b, c] n2 p3) pos :: rest) D' σ H :=
  wSs_cons (wS_of (fun X hX => ps_asg (g := gTup W.K 3 (gCons (gName i) (gCons (gName j) (gCons (gName l) gNil)))) (pe_w hX _) (by rw [← hX.K]; exact pg_tup (X := X) (n := 3) hX.calm (pgs_cons (pg_nm hX nd hs1) (pgs_cons (pg_nm hX nd hs2) (pgs_cons (pg_nm hX nd hs3) pgs_nil))) (by rfl) (by rfl)) (hs X.env) (hw X.env hX.sc))
    ((j_tup he (by show 3 ≤ 100000; decide)) σ G H A.s.s A.e _ fun v G1 H1 s1 r1 => by
      obtain ⟨q, vs, rfl, h1, u, r, rfl, h2, w, r', rfl, h3, w2, r2, rfl, h4, e⟩ := r1
      rw [show r2 = [] from e] at h1
      have A1 := A.mono s1
      exact ⟨q, [u, w, w2], rfl, .of (s1.s _ _ h1), rfl, u, [w, w2], rfl, w, [w2], rfl, w2, [], rfl, rfl, next _ G1 H1 (((A1.set h2).set h3).set h4)⟩))
end
section
variable {W : Gx} {S : Sc} {k : Nat} {env : List Sl} {a b c e tg : Expr} {pos p : Pos}
/-- range(n - 1, -1, -1) -/
theorem ji_rangeDown {n : Nat} (ha : J W S k a env (.int ((n : Int) - 1))) (hb : J W S k b env (.int (-1))) (hc : J W S k c env (.int (-1))) (hn : n ≤ 1000000) (hg : GlS S "range" := by exact rfl) (hm : W.mg "range" = none := by assumption) (hpa : Plain a := by intro _ _; rfl) (hpb : Plain b := by intro _ _; rfl) (hpc : Plain c := by intro _ _; rfl) : JI W S k tg (.Call (.Name "range" p) [a, b, c] [] pos) env ((List.range n).reverse.map fun (i : Nat) => D.int (i : Int)) := fun σ G H x E R q =>
  wI_X (fun X hX => pi_range3 (hX.gl hg) (by rw [hX.mg]; exact hm) (pa_cons (pe_w hX a) (pa_cons (pe_w hX b) (pa_cons (pe_w hX c) pa_nil (hpc [] X.env)) (hpb [c] X.env)) (hpa [b, c] X.env)) (hpa [b, c] X.env) (by rw [hpb [c] X.env, hpc [] X.env]; rfl)) fun X hX => ha σ G H x E _ fun v1 G1 H1 s1 e1 => hb σ G1 H1 s1.s (E.mono s1) _ fun v2 G2 H2 s2 e2 => hc σ G2 H2 s2.s ((E.mono s1).mono s2) _ fun v3 G3 H3 s3 e3 => by
    refine ⟨(n : Int) - 1, -1, -1, n, by rw [show v1 = V.int ((n : Int) - 1) from e1, show v2 = V.int (-1) from e2, show v3 = V.int (-1) from e3], by have := RgC.neg (i := (n : Int) - 1) (j := -1) (by omega) (by omega) (by omega) (by omega); rw [show ((n : Int) - 1 - -1).toNat = n by omega] at this; exact this, q _ G3 H3 ((s1.trans s2).trans s3) ⟨fun m G2 H2 hm g2 x2 => ?_, fun G2 H2 g2 x2 => ?_, fun m d G2 H2 u H3 hd g2 x2 hy => ?_⟩⟩
    · rw [List.length_map, List.length_reverse, List.length_range] at hm
      exact hm
    · rw [List.length_map, List.length_reverse, List.length_range]
      exact Nat.le_refl _
    · obtain ⟨e3, e4⟩ := hy
      rw [e3, e4]
      have hlt : m < n := by
        have := (List.getElem?_eq_some_iff.mp hd).1
        rw [List.length_map, List.length_reverse, List.length_range] at this
        exact this
      rw [List.getElem?_map, List.getElem?_reverse (by rw [List.length_range]; exact hlt), List.length_range, List.getElem?_range (by omega)] at hd
      have e5 : D.int ((n - 1 - m : Nat) : Int) = d := Option.some.inj hd
      rw [← e5]
      exact ⟨G2, .refl x2, by show V.int (((n : Int) - 1) + (m : Nat) * (-1)) = V.int _; congr 1; omega⟩
end
theorem cutS_take (z : Str) (i : Nat) : (cutS z none (some (i : Int))).cps.toList = z.cps.toList.take i := by
  have zl : z.length = z.cps.toList.length := rfl
  unfold cutS
  rw [HT.sIx_nat, HT.sIx_none]
  show ((z.cps.toList.drop 0).take (min i z.length - 0)) = _
  rw [List.drop_zero, Nat.sub_zero, zl]
  rcases Nat.le_total i z.cps.toList.length with h | h
  · rw [Nat.min_eq_left h]
  · rw [Nat.min_eq_right h, List.take_of_length_le h, List.take_of_length_le (Nat.le_refl _)]
theorem cutS_drop (z : Str) (i : Nat) : (cutS z (some (i : Int)) none).cps.toList = z.cps.toList.drop i := by
  have zl : z.length = z.cps.toList.length := rfl
  unfold cutS
  rw [HT.sIx_nat, HT.sIx_none]
  show ((z.cps.toList.drop (min i z.length)).take (z.length - min i z.length)) = _
  rw [List.take_of_length_le (by rw [List.length_drop]; omega), zl]
  rcases Nat.le_total i z.cps.toList.length with h | h
  · rw [Nat.min_eq_left h]
  · rw [Nat.min_eq_right h, List.drop_eq_nil_of_le (Nat.le_refl _), List.drop_eq_nil_of_le h]
theorem cutS_takeS (z : Str) (i : Nat) : cutS z none (some (i : Int)) = toS (z.cps.toList.take i) := by rw [str_ext, cutS_take]; rfl
theorem cutS_dropS (z : Str) (i : Nat) : cutS z (some (i : Int)) none = toS (z.cps.toList.drop i) := by rw [str_ext, cutS_drop]; rfl
theorem srtd_pw : ∀ {l : List (List Nat)}, srtd l = true → l.Pairwise fun a b => a < b
  | [], _ => .nil
  | [a], _ => List.pairwise_singleton ..
  | a :: b :: r, h => by
    unfold srtd at h
    rw [Bool.and_eq_true, decide_eq_true_eq] at h
    have ih := srtd_pw h.2
    refine List.pairwise_cons.mpr ⟨fun c hc => ?_, ih⟩
    rcases List.mem_cons.mp hc with rfl | hc
    · exact h.1
    · exact List.lt_trans h.1 ((List.pairwise_cons.mp ih).1 c hc)
theorem sortedS_pw : ∀ {l : List Str}, sortedS l = true → l.Pairwise fun a b => ¬ b.cps.toList < a.cps.toList
  | [], _ => .nil
  | [a], _ => List.pairwise_singleton ..
  | a :: b :: r, h => by
    have h' : (!ltCps b.cps.toList a.cps.toList && sortedS (b :: r)) = true := h
    rw [Bool.and_eq_true, Bool.not_eq_true', ltCps_eq, decide_eq_false_iff_not] at h'
    have ih := sortedS_pw h'.2
    refine List.pairwise_cons.mpr ⟨fun c hc => ?_, ih⟩
    rcases List.mem_cons.mp hc with rfl | hc
    · exact h'.1
    · exact List.not_lt.mpr (List.le_trans (List.not_lt.mp h'.1) (List.not_lt.mp ((List.pairwise_cons.mp ih).1 c hc)))
theorem sorted_uniq {l : List (List Nat)} (h : srtd l = true) {zs : List Str} (hp : zs.Perm (l.map toS)) (hs : sortedS zs = true) : zs = l.map toS := by
  have h1 := sortedS_pw hs
  have h2 : (l.map toS).Pairwise fun a b => ¬ b.cps.toList < a.cps.toList := by
    rw [List.pairwise_map]
    exact (srtd_pw h).imp fun hab hba => List.lt_irrefl _ (List.lt_trans hab hba)
  exact List.Perm.eq_of_pairwise (le := fun a b => ¬ b.cps.toList < a.cps.toList) (fun a b _ _ p q => str_ext.mpr (List.le_antisymm (List.not_lt.mp p) (List.not_lt.mp q))) h1 h2 hp
end TH
set_option maxHeartbeats 4000000
namespace TH
open PySem PySem.Spec PyProof.Rows L2
theorem one_lt {a b : Nat} : ([a] : List Nat) < [b] ↔ a < b := by
  rw [List.cons_lt_cons_iff]
  constructor
  · rintro (h | ⟨_, h⟩)
    · exact h
    · exact absurd h (List.not_lt_nil _)
  · exact .inl
theorem dec_one {a b : Nat} : decide ((⟨#[a]⟩ : Str).cps.toList < (⟨#[b]⟩ : Str).cps.toList) = decide (a < b) := decide_eq_decide.mpr one_lt
theorem rstripW (w : Str) (c : Nat) : Txt.rstripChars w ⟨#[c]⟩ = toS (rst c w.cps.toList) := by
  rw [str_ext, rstrip_list]
  rfl
theorem wD_len (w : List Nat) : (toS w).length = w.length := rfl
def bfF (cs low : List Nat) (p : Nat) : List (List Nat) := (cs.filter fun d => decide (low.getD p 0 < d)).map fun d => low.take p ++ [d]
def btF (cs sh : List Nat) (p : Nat) : List (List Nat) := (cs.filter fun d => decide (d < sh.getD p 0)).map fun d => sh.take p ++ [d]
theorem flat_bd {F : Nat → List (List Nat)} (h : ∀ p, (F p).length ≤ 3) : ∀ l : List Nat, (l.flatMap F).length ≤ l.length * 3
  | [] => Nat.zero_le _
  | a :: l => by
    rw [List.flatMap_cons, List.length_append, List.length_cons, Nat.add_mul]
    have := h a
    have := flat_bd h l
    omega
def f_bfrom (ds : List D) (d : D) : Prop := ∃ z w : Str, Al z ∧ Tk z w ∧ w.cps.toList.length ≤ 8 ∧ ds = [.str z, .str w] ∧ d = .lst ((begFrom z.cps.toList w.cps.toList).map wD)
theorem ok_beginnings_from {W : Gx} (T : Tx W) : OkF W 1 "beginnings_from" 2 f_bfrom := by
  have mr := T.m_range
  have ml := T.m_len
  refine mk_beginnings_from T fun ds d G0 H0 σ D' hf hn A fin => ?_
  obtain ⟨z, w, al, tk, hw8, rfl, rfl⟩ := hf
  obtain ⟨l1, l3⟩ := al3 al
  have zl : z.length = z.cps.toList.length := rfl
  have zw : w.length = w.cps.toList.length := rfl
  have fl : ∀ p, (bfF z.cps.toList w.cps.toList p).length ≤ 3 := fun p => by
    unfold bfF
    rw [List.length_map]
    exact Nat.le_trans (List.length_filter_le _ _) l3
  refine ws_setO A sc_beginnings_from.nd (sn 2) (jn_lst ja_nil) fun σ1 G1 H1 A1 => ?_
  refine ws_for (items := (List.range w.cps.toList.length).reverse.map fun (i : Nat) => D.int (i : Int)) (t := .one 3) (fun i => [.d (.str z), .d (.str w), .own ((((List.range w.cps.toList.length).reverse.take i).flatMap (bfF z.cps.toList w.cps.toList)).map wD), .no, .no, .no, .no]) A1 sc_beginnings_from.nd (ji_rangeDown (J.is (j_sub (j_lenS (jv 1) (by omega)) j_int) rfl) (j_neg j_int) (j_neg j_int) (by omega)) (.one (sn 3)) (fun _ _ => trivial) (Le.refl _) (fun Gb m dd σ3 G3 H3 nx hd A3 hnx => ?_) fun σ3 G3 H3 A3 => ?_
  · rw [List.getElem?_map] at hd
    obtain ⟨pl, hp, rfl⟩ := Option.map_eq_some_iff.mp hd
    have hpl : pl < w.cps.toList.length := List.mem_range.mp (List.mem_reverse.mp (List.mem_of_getElem? hp))
    have hml : m < w.cps.toList.length := by
      have := (List.getElem?_eq_some_iff.mp hp).1
      rw [List.length_reverse, List.length_range] at this
      exact this
    refine ws_extend (i := 2) A3 rfl rfl (.inl rfl) (es := (bfF z.cps.toList w.cps.toList pl).map wD) (J.is (JN.lst (JLc.n (jc1If 5 (fun c => decide (w.cps.toList.getD pl 0 < c)) sc_beginnings_from.nd (ji_str (jv 0)) (fun c hc => ?_) (f := fun c => wD (w.cps.toList.take pl ++ [c])) (fun c hc _ => ?_) (by omega)))) ?_) ?_ fun σ6 G6 H6 A6 => ?_
    · exact JT.is (jt_cmp c_gtS (jv 5 (d := sgn c)) (j_ixS (jv 1) (jv 3) (by omega) (atS hpl))) dec_one
    · refine J.is (j_addS (z := ⟨#[c]⟩) (j_sliceS (jv 1) jo_none (jo_some (jv 3)) (by omega)) (jv 5 (d := sgn c)) ?_) ?_
      · rw [cutS_takeS, wD_len, List.length_take]
        show _ + 1 ≤ _
        omega
      · rw [cutS_takeS, str_one, toS_app]
        rfl
    · unfold bfF
      rw [List.map_map]
      rfl
    · rw [List.length_map, List.length_map]
      have := flat_bd fl ((List.range w.cps.toList.length).reverse.take m)
      rw [List.length_take, List.length_reverse, List.length_range] at this
      have := fl pl
      omega
    · refine ws_nil (hnx σ6 G6 H6 (At.le (env := [.d (.str z), .d (.str w), .own (((((List.range w.cps.toList.length).reverse.take m).flatMap (bfF z.cps.toList w.cps.toList)).map wD) ++ (bfF z.cps.toList w.cps.toList pl).map wD), .d (.int (pl : Int)), .no, .no, .no]) A6 ?_))
      rw [take_succ_get hp, List.flatMap_append, List.map_append, List.flatMap_cons, List.flatMap_nil, List.append_nil]
      exact .cons (.cons (.cons (.no (.no (.no (.no .nil))))))
  · have hfull : (((List.range w.cps.toList.length).reverse.take ((List.range w.cps.toList.length).reverse.map fun (i : Nat) => D.int (i : Int)).length).flatMap (bfF z.cps.toList w.cps.toList)) = begF z.cps.toList w.cps.toList := by
      rw [List.length_map, List.take_length]
      rfl
    rw [hfull] at A3
    have hbl : (begF z.cps.toList w.cps.toList).length ≤ 24 := by
      have := flat_bd fl (List.range w.cps.toList.length).reverse
      rw [List.length_reverse, List.length_range] at this
      exact Nat.le_trans this (by omega)
    refine ws_set A3 sc_beginnings_from.nd (sn 4) (J.is (j_rstrip (jv 1) (j_ixS (jv 0) j_int (by omega) (at_first al)) (by omega)) (show _ = wD (rst (z.cps.toList.headD 0) w.cps.toList) from congrArg D.str (rstripW _ _))) fun σ4 G4 H4 A4 => ?_
    obtain ⟨G5, A5⟩ := A4.freeze (i := 2) rfl
    have hsl := rst_le (z.cps.toList.headD 0) w.cps.toList
    have sub : ∀ t ∈ begF z.cps.toList w.cps.toList, t.length ≤ 9 := fun t ht => by
      obtain ⟨p, _, h2⟩ := List.mem_flatMap.mp ht
      obtain ⟨c, _, rfl⟩ := List.mem_map.mp h2
      rw [List.length_append, List.length_take]
      show _ + 1 ≤ _
      omega
    refine ws_ret A5 (J.is (JN.lst (jn_lst (ja_cons (jv 4) (ja_star (JLc.n (jc1If 6 (fun t => decide (t.length ≤ (rst (z.cps.toList.headD 0) w.cps.toList).length)) sc_beginnings_from.nd (ji_lst (jv 2)) (fun t ht => ?_) (f := wD) (fun t ht _ => jv 6) (by omega))).l ja_nil)) ?_)) ?_) fin.rt
    · have := sub t ht
      refine JT.is (jt_cmp c_leI (j_lenS (z := toS t) (jv 6) (by rw [wD_len]; omega)) (j_lenS (z := toS (rst (z.cps.toList.headD 0) w.cps.toList)) (jv 4) (by rw [wD_len]; omega))) ?_
      rw [wD_len, wD_len]
      exact decide_eq_decide.mpr (by omega)
    · rw [List.append_nil, List.length_cons, List.length_map]
      have := List.length_filter_le (fun t => decide (t.length ≤ (rst (z.cps.toList.headD 0) w.cps.toList).length)) (begF z.cps.toList w.cps.toList)
      omega
    · rw [List.append_nil]
      rfl
def f_bto (ds : List D) (d : D) : Prop := ∃ z w : Str, Al z ∧ Tk z w ∧ w.cps.toList.length ≤ 8 ∧ ds = [.str z, .str w] ∧ d = .lst ((begTo z.cps.toList w.cps.toList).map wD)
theorem ok_beginnings_to {W : Gx} (T : Tx W) : OkF W 1 "beginnings_to" 2 f_bto := by
  have me := T.m_enumerate
  refine mk_beginnings_to T fun ds d G0 H0 σ D' hf hn A fin => ?_
  obtain ⟨z, w, al, tk, hw8, rfl, rfl⟩ := hf
  obtain ⟨l1, l3⟩ := al3 al
  have zl : z.length = z.cps.toList.length := rfl
  have zw : w.length = w.cps.toList.length := rfl
  have hsl := rst_le (z.cps.toList.getLastD 0) w.cps.toList
  have rr := rstripW w (z.cps.toList.getLastD 0)
  unfold begTo at fin
  generalize hsh : rst (z.cps.toList.getLastD 0) w.cps.toList = sh at hsl rr fin
  have fl : ∀ p, (btF z.cps.toList sh p).length ≤ 3 := fun p => by
    unfold btF
    rw [List.length_map]
    exact Nat.le_trans (List.length_filter_le _ _) l3
  refine ws_tup2O1 A sc_beginnings_to.nd (sn 2) (sn 3) (by decide) (jn_lst ja_nil) (J.is (j_rstrip (jv 1) (j_ixS (jv 0) (j_neg j_int) (by omega) (at_last al)) (by omega)) (show _ = wD sh from congrArg D.str rr)) fun σ1 G1 H1 A1 => ?_
  refine ws_for (items := ((List.range sh.length).zip sh).map fun p => .tup [.int (p.1 : Int), sgn p.2]) (t := .two 4 5) (fun i => [.d (.str z), .d (.str w), .own ((((List.range sh.length).take i).flatMap (btF z.cps.toList sh)).map wD), .d (wD sh), .no, .no, .no]) A1 sc_beginnings_to.nd ?_ (.two (sn 4) (sn 5) (by decide)) (fun dd hdd => ?_) (Le.refl _) (fun Gb m dd σ3 G3 H3 nx hd A3 hnx => ?_) fun σ3 G3 H3 A3 => ?_
  · rw [← enum_items sgn sh]
    exact ji_enum (jsr_s (z := toS sh) (jv 3))
  · obtain ⟨p, _, rfl⟩ := List.mem_map.mp hdd
    exact ⟨_, _, rfl⟩
  · rw [List.getElem?_map] at hd
    obtain ⟨pp, hp, rfl⟩ := Option.map_eq_some_iff.mp hd
    obtain ⟨e1, e2⟩ := zipRange hp
    have hml : m < sh.length := (List.getElem?_eq_some_iff.mp e2).1
    have hg : sh.getD m 0 = pp.2 := by
      rw [List.getD_eq_getElem?_getD, e2]
      rfl
    have A3' : At W Gb H0 [.d (.str z), .d (.str w), .own ((((List.range sh.length).take m).flatMap (btF z.cps.toList sh)).map wD), .d (wD sh), .d (.int (pp.1 : Int)), .d (sgn pp.2), .no] σ3 G3 H3 := A3
    rw [e1] at A3'
    refine ws_extend (i := 2) A3' rfl rfl (.inl rfl) (es := (btF z.cps.toList sh m).map wD) (J.is (JN.lst (JLc.n (jc1If 6 (fun c => decide (c < pp.2)) sc_beginnings_to.nd (ji_str (jv 0)) (fun c hc => ?_) (f := fun c => wD (sh.take m ++ [c])) (fun c hc _ => ?_) (by omega)))) ?_) ?_ fun σ6 G6 H6 A6 => ?_
    · exact JT.is (jt_cmp c_ltS (jv 6 (d := sgn c)) (jv 5 (d := sgn pp.2))) dec_one
    · refine J.is (j_addS (z := ⟨#[c]⟩) (j_sliceS (z := toS sh) (jv 3) jo_none (jo_some (jv 4)) (by rw [wD_len]; omega)) (jv 6 (d := sgn c)) ?_) ?_
      · rw [cutS_takeS, wD_len, List.length_take, toS_list]
        show _ + 1 ≤ _
        omega
      · rw [cutS_takeS, str_one, toS_app]
        rfl
    · unfold btF
      rw [List.map_map, hg]
      rfl
    · rw [List.length_map, List.length_map]
      have := flat_bd fl ((List.range sh.length).take m)
      rw [List.length_take, List.length_range] at this
      have := fl m
      omega
    · refine ws_nil (hnx σ6 G6 H6 (At.le (env := [.d (.str z), .d (.str w), .own (((((List.range sh.length).take m).flatMap (btF z.cps.toList sh)).map wD) ++ (btF z.cps.toList sh m).map wD), .d (wD sh), .d (.int (m : Int)), .d (sgn pp.2), .no]) A6 ?_))
      rw [take_succ_get (List.getElem?_range hml), List.flatMap_append, List.map_append, List.flatMap_cons, List.flatMap_nil, List.append_nil]
      exact .cons (.cons (.cons (.cons (.no (.no (.no .nil))))))
  · have hfull : (((List.range sh.length).take (((List.range sh.length).zip sh).map fun p => D.tup [.int (p.1 : Int), sgn p.2]).length).flatMap (btF z.cps.toList sh)) = begT z.cps.toList sh := by
      rw [List.length_map, List.length_zip, List.length_range, Nat.min_self, List.take_of_length_le (by rw [List.length_range]; exact Nat.le_refl _)]
      rfl
    rw [hfull] at A3
    have hbl : (begT z.cps.toList sh).length ≤ 24 := by
      have := flat_bd fl (List.range sh.length)
      rw [List.length_range] at this
      exact Nat.le_trans this (by omega)
    refine ws_ret A3 (J.is (JN.lst (jn_lst (ja_star (jvo 2) (ja_cons (jv 3) ja_nil)) ?_)) ?_) fin.rt
    · rw [List.length_append, List.length_map]
      show _ + 1 ≤ _
      omega
    · rw [List.map_append]
      rfl
end TH
set_option maxHeartbeats 4000000
namespace TH
open PySem PySem.Spec PyProof.Rows L2
theorem shr_le : ∀ (v w : List Nat), v.length = w.length → shr v w ≤ v.length
  | [], [], _ => Nat.le_refl _
  | a :: v, b :: w, h => by
    unfold shr
    split
    · exact Nat.succ_le_succ (shr_le v w (Nat.succ.inj h))
    · exact Nat.zero_le _
theorem shr_spec : ∀ (v w : List Nat) (n : Nat), v.length = w.length → n ≤ shr v w → (decide (n < v.length) && decide (v.getD n 0 = w.getD n 0)) = decide (n < shr v w)
  | [], [], n, _, hn => rfl
  | a :: v, b :: w, 0, h, hn => by
    unfold shr
    show (decide (0 < v.length + 1) && decide (a = b)) = _
    by_cases e : a = b
    · rw [if_pos e, decide_eq_true e, decide_eq_true (Nat.succ_pos _), decide_eq_true (Nat.succ_pos _)]
      rfl
    · rw [if_neg e, decide_eq_false e, Bool.and_false]
      rfl
  | a :: v, b :: w, n + 1, h, hn => by
    unfold shr at hn ⊢
    by_cases e : a = b
    · rw [if_pos e] at hn ⊢
      have ih := shr_spec v w n (Nat.succ.inj h) (Nat.le_of_succ_le_succ hn)
      show (decide (n + 1 < v.length + 1) && decide (v.getD n 0 = w.getD n 0)) = decide (n + 1 < shr v w + 1)
      rw [show decide (n + 1 < v.length + 1) = decide (n < v.length) from decide_eq_decide.mpr (by omega), ih]
      exact decide_eq_decide.mpr (by omega)
    · rw [if_neg e] at hn
      exact absurd hn (by omega)
theorem eq_one {a b : Nat} : decide ((⟨#[a]⟩ : Str) = ⟨#[b]⟩) = decide (a = b) := decide_eq_decide.mpr ⟨fun h => by
  have := str_ext.mp h
  exact List.head_eq_of_cons_eq this, fun h => by rw [h]⟩
theorem begF_len {cs : List Nat} (l3 : cs.length ≤ 3) {w : List Nat} (hw : w.length ≤ 8) : (begFrom cs w).length ≤ 25 ∧ ∀ t ∈ begFrom cs w, t.length ≤ 9 := by
  have fl : ∀ p, (bfF cs w p).length ≤ 3 := fun p => by
    unfold bfF
    rw [List.length_map]
    exact Nat.le_trans (List.length_filter_le _ _) l3
  have h1 : (begF cs w).length ≤ 24 := by
    have := flat_bd fl (List.range w.length).reverse
    rw [List.length_reverse, List.length_range] at this
    exact Nat.le_trans this (by omega)
  unfold begFrom
  refine ⟨?_, fun t ht => ?_⟩
  · rw [List.length_cons]
    exact Nat.succ_le_succ (Nat.le_trans (List.length_filter_le _ _) h1)
  · have := rst_le (cs.headD 0) w
    rcases List.mem_cons.mp ht with rfl | ht
    · omega
    · obtain ⟨p, _, h2⟩ := List.mem_flatMap.mp (List.mem_filter.mp ht).1
      obtain ⟨c, _, rfl⟩ := List.mem_map.mp h2
      rw [List.length_append, List.length_take]
      show _ + 1 ≤ _
      omega
theorem begT_len {cs : List Nat} (l3 : cs.length ≤ 3) {w : List Nat} (hw : w.length ≤ 8) : (begTo cs w).length ≤ 25 ∧ ∀ t ∈ begTo cs w, t.length ≤ 9 := by
  have hsl := rst_le (cs.getLastD 0) w
  unfold begTo
  generalize rst (cs.getLastD 0) w = sh at hsl
  have fl : ∀ p, (btF cs sh p).length ≤ 3 := fun p => by
    unfold btF
    rw [List.length_map]
    exact Nat.le_trans (List.length_filter_le _ _) l3
  refine ⟨?_, fun t ht => ?_⟩
  · have := flat_bd fl (List.range sh.length)
    rw [List.length_range] at this
    rw [List.length_append]
    show (begT cs sh).length + 1 ≤ _
    have h2 : (begT cs sh).length ≤ sh.length * 3 := this
    omega
  · rcases List.mem_append.mp ht with ht | ht
    · obtain ⟨p, _, h2⟩ := List.mem_flatMap.mp ht
      obtain ⟨c, _, rfl⟩ := List.mem_map.mp h2
      rw [List.length_append, List.length_take]
      show _ + 1 ≤ _
      omega
    · rw [List.mem_singleton.mp ht]
      omega
def f_beginnings (ds : List D) (d : D) : Prop := ∃ z lo hi : Str, Al z ∧ Tk z lo ∧ Tk z hi ∧ lo.cps.toList.length = hi.cps.toList.length ∧ lo.cps.toList.length ≤ 8 ∧ srtd (beg z.cps.toList lo.cps.toList hi.cps.toList) = true ∧ ds = [.str z, .str lo, .str hi] ∧ d = .tup ((beg z.cps.toList lo.cps.toList hi.cps.toList).map wD)
theorem ok_beginnings {W : Gx} (T : Tx W) : OkF W 3 "beginnings" 3 f_beginnings := by
  have ml := T.m_len
  have mt := T.m_tuple
  have ms := T.m_sorted
  refine mk_beginnings T fun ds d G0 H0 σ D' hf hn A fin => ?_
  obtain ⟨z, lo, hi, al, tl, th, hlen, hl8, hsr, rfl, rfl⟩ := hf
  obtain ⟨l1, l3⟩ := al3 al
  have zl : z.length = z.cps.toList.length := rfl
  have zlo : lo.length = lo.cps.toList.length := rfl
  have zhi : hi.length = hi.cps.toList.length := rfl
  unfold beg at fin hsr
  refine ws_expr A (j_call (ok_check_range T) (ja_cons (jv 0) (ja_cons (jv 1) (ja_cons (jv 2) ja_nil))) ⟨z, lo, hi, tl, th, hlen, rfl, rfl⟩) fun G1 H1 A1 => ?_
  refine ws_if A1 (jt_cmp c_ltS (jv 2) (jv 1)) (fun h G2 H2 A2 => ?_) fun h G2 H2 A2 => ws_nil ?_
  · refine ws_ret A2 (J.is (j_tup ja_nil) ?_) fin.rt
    rw [if_pos (of_decide_eq_true h)]
    rfl
  rw [if_neg (of_decide_eq_false h)] at fin hsr
  refine ws_if A2 (jt_cmp c_eqI (j_lenS (jv 0) (by omega)) j_int) (fun h G3 H3 A3 => ?_) fun h G3 H3 A3 => ws_nil ?_
  · refine ws_ret A3 (J.is (j_tup (ja_cons j_str ja_nil)) ?_) fin.rt
    have h1 : z.cps.toList.length = 1 := by
      have := of_decide_eq_true h
      omega
    rw [if_pos h1]
    rfl
  have h1 : ¬ z.cps.toList.length = 1 := fun e => of_decide_eq_false h (by omega)
  rw [if_neg h1] at fin hsr
  have hs := shr_le lo.cps.toList hi.cps.toList hlen
  have hspec := shr_spec lo.cps.toList hi.cps.toList
  generalize hsd : shr lo.cps.toList hi.cps.toList = s at fin hsr hs hspec
  refine ws_set A3 sc_beginnings.nd (sn 3) j_int fun σ4 G4 H4 A4 => ?_
  refine ws_while (fun n => [.d (.str z), .d (.str lo), .d (.str hi), .d (.int (n : Int)), .no, .no, .no, .no, .no, .no, .no, .no]) s A4 (Le.refl _) (fun n hn => ?_) (fun Gb n σ' G' H' nx hlt A' hnx => ?_) fun σ5 G5 H5 A5 => ?_
  · refine JT.is (jt_and (JT.is (jt_cmp c_ltI (jv 3) (j_lenS (jv 1) (by omega))) (d' := decide (n < lo.cps.toList.length)) (decide_eq_decide.mpr (by omega))) (fun hr => JT.is (jt_cmp c_eqS (j_ixS (jv 1) (jv 3) (by omega) (atS ?_)) (j_ixS (jv 2) (jv 3) (by omega) (atS ?_))) eq_one)) (hspec n hlen hn)
    · exact of_decide_eq_true hr
    · rw [← hlen]
      exact of_decide_eq_true hr
  · refine ws_augI A' sc_beginnings.nd (sn 3) rfl j_int fun σ6 G6 H6 A6 => ws_nil (hnx σ6 G6 H6 ?_)
    exact A6
  have dl : (lo.cps.toList.drop s).length = (hi.cps.toList.drop s).length := by rw [List.length_drop, List.length_drop, hlen]
  have d8 : (lo.cps.toList.drop s).length ≤ 8 := by rw [List.length_drop]; omega
  have t8 : (lo.cps.toList.take s).length ≤ 8 := by rw [List.length_take]; omega
  have tf : Tk z (toS (lo.cps.toList.drop s)) := ⟨fun c hc => tl.1 c (List.mem_of_mem_drop hc), by rw [toS_list]; omega⟩
  have tg : Tk z (toS (hi.cps.toList.drop s)) := ⟨fun c hc => th.1 c (List.mem_of_mem_drop hc), by rw [toS_list]; omega⟩
  refine ws_tup3 (d := wD (lo.cps.toList.take s)) (d2 := wD (lo.cps.toList.drop s)) (d3 := wD (hi.cps.toList.drop s)) A5 sc_beginnings.nd (sn 4) (sn 5) (sn 6) (by decide) (by decide) (by decide) (ja_cons (J.is (j_sliceS (jv 1) jo_none (jo_some (jv 3)) (by omega)) (by rw [cutS_takeS]; rfl)) (ja_cons (J.is (j_sliceS (jv 1) (jo_some (jv 3)) jo_none (by omega)) (by rw [cutS_dropS]; rfl)) (ja_cons (J.is (j_sliceS (jv 2) (jo_some (jv 3)) jo_none (by omega)) (by rw [cutS_dropS]; rfl)) ja_nil))) fun σ6 G6 H6 A6 => ?_
  generalize hfe : lo.cps.toList.drop s = f at A6 fin hsr dl d8 tf
  generalize hle : hi.cps.toList.drop s = l at A6 fin hsr dl tg
  generalize hae : lo.cps.toList.take s = a at A6 fin hsr t8
  refine ws_if A6 (jt_and (r := isFst z.cps.toList f) (r' := isLst z.cps.toList l) (jt_val (j_call (ok_is_first T) (ja_cons (jv 0) (ja_cons (jv 5) ja_nil)) ⟨z, toS f, al, tf.2, rfl, rfl⟩)) (fun _ => jt_val (j_call (ok_is_last T) (ja_cons (jv 0) (ja_cons (jv 6) ja_nil)) ⟨z, toS l, al, tg.2, rfl, rfl⟩))) (fun h G7 H7 A7 => ?_) fun h G7 H7 A7 => ws_nil ?_
  · refine ws_ret A7 (J.is (j_tup (ja_cons (jv 4) ja_nil) (by show 1 ≤ 100000; decide)) ?_) fin.rt
    rw [if_pos h]
    rfl
  rw [if_neg (by rw [h]; exact Bool.false_ne_true)] at fin hsr
  have fne : 0 < f.length := by
    cases f with
    | nil =>
      have : l = [] := List.length_eq_zero_iff.mp dl.symm
      rw [this] at h
      cases h
    | cons => exact Nat.succ_pos _
  have lne : 0 < l.length := by omega
  have af : atI f 0 = some (f.headD 0) := by
    cases f with
    | nil => cases fne
    | cons => exact atI_nat (j := 0) rfl
  have al0 : atI l 0 = some (l.headD 0) := by
    cases l with
    | nil => cases lne
    | cons => exact atI_nat (j := 0) rfl
  have tail1 : ∀ w : List Nat, cutS (toS w) (some 1) none = toS w.tail := fun w => by
    have := cutS_dropS (toS w) 1
    rw [toS_list, List.drop_one] at this
    exact this
  obtain ⟨bf1, bf2⟩ := begF_len l3 (w := f.tail) (by rw [List.length_tail]; omega)
  obtain ⟨bt1, bt2⟩ := begT_len l3 (w := l.tail) (by rw [List.length_tail]; omega)
  have fz : (toS f).length ≤ 100000 := by rw [wD_len]; omega
  have lz : (toS l).length ≤ 100000 := by rw [wD_len]; omega
  refine ws_par (i := 7) (j := 8) (d := .lst ((begFrom z.cps.toList f.tail).map wD)) (d' := .lst ((begTo z.cps.toList l.tail).map wD)) A7 sc_beginnings.nd rfl rfl rfl rfl (by decide) (ja_cons (j_call (ok_beginnings_from T) (ja_cons (jv 0) (ja_cons (J.is (j_sliceS (z := toS f) (jv 5) (jo_some j_int) jo_none fz) (show _ = D.str (toS f.tail) by rw [tail1])) ja_nil)) ⟨z, toS f.tail, al, ⟨fun c hc => tf.1 c (List.mem_of_mem_tail hc), by rw [toS_list, List.length_tail]; omega⟩, by rw [toS_list, List.length_tail]; omega, rfl, rfl⟩) (ja_cons (j_call (ok_beginnings_to T) (ja_cons (jv 0) (ja_cons (J.is (j_sliceS (z := toS l) (jv 6) (jo_some j_int) jo_none lz) (show _ = D.str (toS l.tail) by rw [tail1])) ja_nil)) ⟨z, toS l.tail, al, ⟨fun c hc => tg.1 c (List.mem_of_mem_tail hc), by rw [toS_list, List.length_tail]; omega⟩, by rw [toS_list, List.length_tail]; omega, rfl, rfl⟩) ja_nil)) fun σ8 G8 H8 A8 => ?_
  have joinW : ∀ (c : Nat) (t : List Nat), (⟨#[c]⟩ : Str) ++ toS t = toS (c :: t) := fun c t => by rw [str_one, toS_app]; rfl
  refine ws_set A8 sc_beginnings.nd (sn 9) (J.is (JN.lst (jn_cat (ds := (begFrom z.cps.toList f.tail).map fun t => wD (f.headD 0 :: t)) (es := (z.cps.toList.filter fun d => decide (f.headD 0 < d) && decide (d < l.headD 0)).map fun d => wD [d]) (JN.l (JLc.n (jc1 10 sc_beginnings.nd (ji_lst (jv 7)) (fun t ht => ?_) (by omega)))) (JN.l (JLc.n (jc1If 11 (fun d => decide (f.headD 0 < d) && decide (d < l.headD 0)) sc_beginnings.nd (ji_str (jv 0)) (fun c hc => ?_) (fun c hc _ => jv 11 (d := sgn c)) (by omega)))) ?_)) (show _ = D.lst ((((begFrom z.cps.toList f.tail).map fun t => f.headD 0 :: t) ++ ((z.cps.toList.filter fun d => decide (f.headD 0 < d) && decide (d < l.headD 0)).map fun d => [d])).map wD) by rw [List.map_append, List.map_map, List.map_map]; rfl)) fun σ9 G9 H9 A9 => ?_
  · refine J.is (j_addS (y := ⟨#[f.headD 0]⟩) (z := toS t) (j_ixS (z := toS f) (jv 5) j_int fz af) (jv 10) ?_) (by rw [joinW]; rfl)
    show 1 + t.length ≤ _
    have := bf2 t ht
    omega
  · exact JT.is (jt_chain c_ltS c_ltS (j_ixS (z := toS f) (jv 5) j_int fz af) (jv 11 (d := sgn c)) (j_ixS (z := toS l) (jv 6) j_int lz al0)) (by rw [dec_one, dec_one])
  · rw [List.length_map, List.length_map]
    have := List.length_filter_le (fun d => decide (f.headD 0 < d) && decide (d < l.headD 0)) z.cps.toList
    omega
  generalize hmid : ((begFrom z.cps.toList f.tail).map fun t => f.headD 0 :: t) ++ ((z.cps.toList.filter fun d => decide (f.headD 0 < d) && decide (d < l.headD 0)).map fun d => [d]) = mid at A9
  have ml1 : mid.length ≤ 28 ∧ ∀ t ∈ mid, t.length ≤ 10 := by
    rw [← hmid]
    refine ⟨?_, fun t ht => ?_⟩
    · rw [List.length_append, List.length_map, List.length_map]
      have := List.length_filter_le (fun d => decide (f.headD 0 < d) && decide (d < l.headD 0)) z.cps.toList
      omega
    · rcases List.mem_append.mp ht with ht | ht
      · obtain ⟨u, hu, rfl⟩ := List.mem_map.mp ht
        exact Nat.succ_le_succ (bf2 u hu)
      · obtain ⟨u, hu, rfl⟩ := List.mem_map.mp ht
        exact Nat.le_of_ble_eq_true rfl
  have hraw : begRaw z.cps.toList a f l = (mid ++ (begTo z.cps.toList l.tail).map fun t => l.headD 0 :: t).map fun t => a ++ t := by
    unfold begRaw
    rw [hmid]
  rw [hraw] at fin hsr
  have hall : ∀ t ∈ mid ++ (begTo z.cps.toList l.tail).map (fun t => l.headD 0 :: t), t.length ≤ 10 := fun t ht => by
    rcases List.mem_append.mp ht with ht | ht
    · exact ml1.2 t ht
    · obtain ⟨u, hu, rfl⟩ := List.mem_map.mp ht
      exact Nat.succ_le_succ (bt2 u hu)
  have hlen2 : (mid ++ (begTo z.cps.toList l.tail).map (fun t => l.headD 0 :: t)).length ≤ 53 := by
    rw [List.length_append, List.length_map]
    omega
  refine ws_ret A9 (J.is (j_tupleL (JN.l (jn_sortedS (xs := ((mid ++ (begTo z.cps.toList l.tail).map fun t => l.headD 0 :: t).map fun t => a ++ t).map toS) (((mid ++ (begTo z.cps.toList l.tail).map fun t => l.headD 0 :: t).map fun t => a ++ t).map toS) (JN.l (JN.is (JLc.n (jc1 10 sc_beginnings.nd (xs := mid ++ (begTo z.cps.toList l.tail).map fun t => l.headD 0 :: t) (g := wD) (ji_lst (J.is (JN.lst (jn_cat (ds := mid.map wD) (es := (begTo z.cps.toList l.tail).map fun t => wD (l.headD 0 :: t)) (jv 9).l (JN.l (JLc.n (jc1 10 sc_beginnings.nd (ji_lst (jv 8)) (fun t ht => ?_) (by omega)))) ?_)) ?_)) (f := fun t => wD (a ++ t)) (fun t ht => ?_) (by omega))) ?_)) ?_ (fun zs hp hs => sorted_uniq hsr hp hs)))) ?_) fin.rt
  · refine J.is (j_addS (y := ⟨#[l.headD 0]⟩) (z := toS t) (j_ixS (z := toS l) (jv 6) j_int lz al0) (jv 10) ?_) (by rw [joinW]; rfl)
    show 1 + t.length ≤ _
    have := bt2 t ht
    omega
  · rw [List.length_map, List.length_map]
    omega
  · rw [List.map_append, List.map_map]
    rfl
  · refine J.is (j_addS (y := toS a) (z := toS t) (jv 4) (jv 10) ?_) (by rw [toS_app]; rfl)
    show a.length + t.length ≤ _
    have := hall t ht
    omega
  · rw [List.map_map, List.map_map]
    rfl
  · rw [List.length_map, List.length_map]
    omega
  · rw [List.map_map]
    rfl
end TH
set_option maxHeartbeats 4000000
namespace TM
theorem rowF_congr {t1 t2 : Nat → Tab} : ∀ {w : List Nat} {r : Row}, (∀ c ∈ w, t1 c = t2 c) → rowF t1 r w = rowF t2 r w
  | [], _, _ => rfl
  | c :: w, r, h => by
    show rowF t1 (led r (t1 c)) w = rowF t2 (led r (t2 c)) w
    rw [h c List.mem_cons_self]
    exact rowF_congr fun d hd => h d (List.mem_cons_of_mem _ hd)
theorem rep_getD' {α : Type} {n i : Nat} {a d : α} (h : i < n) : (List.replicate n a).getD i d = a := by
  rw [List.getD_eq_getElem?_getD, List.getElem?_replicate, if_pos h]
  rfl
end TM
namespace TH
open PySem TM
theorem WT.ok {n : Nat} {x : Tl} (w : WT n x) {v : List Nat} (h : ∀ c ∈ v, c ∈ x.z.cps.toList) : TM.Ok x.tab n v := fun c hc => w.sq _ (w.mem_tab (h c hc))
theorem row_led {n : Nat} {x : Tl} (w : WT n x) {u v : List Nat} (hu : ∀ c ∈ u, c ∈ x.z.cps.toList) (hv : ∀ c ∈ v, c ∈ x.z.cps.toList) : TM.led (x.rowW u) (x.tabW v) = x.rowW (u ++ v) := by
  have h1 : (TM.rowF x.tab x.st u).length = n := rowF_len w.sl (w.ok hu)
  have h2 := led_tabF (tab := x.tab) h1 (w.ok hv)
  have h3 : x.tabW v = TM.tabF x.tab n v := by rw [← w.sl]; rfl
  rw [h3]
  show TM.led (TM.rowF x.tab x.st u) _ = TM.rowF x.tab x.st (u ++ v)
  rw [h2, TM.rowF_app]
theorem piece_worth {n : Nat} {x : Tl} (w : WT n x) {u v : List Nat} (hu : ∀ c ∈ u, c ∈ x.z.cps.toList) (hv : ∀ c ∈ v, c ∈ x.z.cps.toList) : TM.prod (TM.led x.st (TM.tmul (x.tabW u) (x.tabW v))) x.en = x.worth (u ++ v) := by
  have e : ∀ v, x.tabW v = TM.tabF x.tab n v := fun v => by rw [← w.sl]; rfl
  have h1 := TM.led_led w.sl (tabF_sq (w.ok hu)) (tabF_sq (w.ok hv))
  rw [e u, e v, ← h1, led_tabF w.sl (w.ok hu), ← e v]
  unfold Tl.worth
  congr 1
  exact row_led w hu hv
theorem ahead_worth (x : Tl) (u v : List Nat) : (aheadT x u).worth v = x.worth (u ++ v) := by
  unfold Tl.worth
  congr 1
  exact (TM.rowF_app x.tab x.st u v).symm
theorem behind_worth {n : Nat} {x : Tl} (w : WT n x) {u v : List Nat} (hu : ∀ c ∈ u, c ∈ x.z.cps.toList) (hv : ∀ c ∈ v, c ∈ x.z.cps.toList) : (behindT x v).worth u = x.worth (u ++ v) := by
  have e : x.tabW v = TM.tabF x.tab n v := by rw [← w.sl]; rfl
  have h1 : (TM.rowF x.tab x.st u).length = n := rowF_len w.sl (w.ok hu)
  show TM.prod (TM.rowF x.tab x.st u) (TM.tcol (x.tabW v) x.en) = _
  rw [e, TM.prod_tcol h1 (tabF_sq (w.ok hv)) w.el, ← e]
  unfold Tl.worth
  congr 1
  exact row_led w hu hv
def loneT (z : Str) : Tl := ⟨z, [1], List.replicate z.cps.toList.length [[1]], [1]⟩
theorem lone_tab {z : Str} {c : Nat} (h : c ∈ z.cps.toList) : (loneT z).tab c = [[1]] := rep_getD' (List.idxOf_lt_length_of_mem h)
theorem lone_worth {z : Str} : ∀ {w : List Nat}, (∀ c ∈ w, c ∈ z.cps.toList) → (loneT z).worth w = 1 := by
  intro w h
  have : TM.rowF (loneT z).tab [1] w = [1] := by
    rw [rowF_congr (t2 := fun _ => [[1]]) fun c hc => lone_tab (h c hc)]
    clear h
    induction w with
    | nil => rfl
    | cons c w ih => exact ih
  show TM.prod (TM.rowF (loneT z).tab [1] w) [1] = 1
  rw [this]
  rfl
theorem al_ris {z : Str} (al : Al z) : ∀ i, i < 3 → (i + 1 < z.cps.toList.length → z.cps.toList.getD i 0 < z.cps.toList.getD (i + 1) 0) := by
  rcases al with rfl | rfl | rfl | rfl <;> decide
theorem al_dg {z : Str} (al : Al z) : Dg z ∧ z.cps.toList.Nodup := by
  obtain ⟨l1, l3⟩ := al3 al
  have fig : (∀ c ∈ z.cps.toList, c ∈ ("0123456789" : Str).cps.toList) ∧ z.cps.toList.Nodup := by
    rcases al with rfl | rfl | rfl | rfl <;> exact ⟨by decide, by decide⟩
  exact ⟨⟨l1, by omega, fig.1, fun i hi => al_ris al i (by omega) hi⟩, fig.2⟩
theorem lone_wt {z : Str} (al : Al z) : WT 1 (loneT z) := ⟨(al_dg al).1, (al_dg al).2, rfl, rfl, List.length_replicate .., fun t ht => by
  rw [List.eq_of_mem_replicate ht]
  exact ⟨rfl, fun r hr => by rw [List.mem_singleton.mp hr]; rfl⟩, by decide⟩
theorem lone_wb (z : Str) : WB 1 (loneT z) := ⟨fun x hx => by rw [List.mem_singleton.mp hx]; decide, fun x hx => by rw [List.mem_singleton.mp hx]; decide, fun t ht r hr x hx => by
  rw [List.eq_of_mem_replicate ht] at hr
  rw [List.mem_singleton.mp hr] at hx
  rw [List.mem_singleton.mp hx]
  decide⟩
theorem met_tab {n m : Nat} {x y : Tl} (w : WT n x) (v : WT m y) (hz : x.z = y.z) {c : Nat} (hc : c ∈ x.z.cps.toList) : (metT x y).tab c = TM.besd (x.tab c) (y.tab c) (mbr (TM.tcol (x.tab c) x.en) y.st) := by
  have hi : x.z.cps.toList.idxOf c < x.ts.length := by rw [w.tl]; exact List.idxOf_lt_length_of_mem hc
  have hj : x.z.cps.toList.idxOf c < y.ts.length := by rw [v.tl, ← hz]; exact List.idxOf_lt_length_of_mem hc
  show ((x.ts.zip y.ts).map _).getD (x.z.cps.toList.idxOf c) [] = _
  rw [map_getD ([], []) (by rw [List.length_zip]; omega), zip_getD hi hj]
  unfold Tl.tab
  rw [← hz]
theorem met_worthT {n m : Nat} {x y : Tl} (w : WT n x) (v : WT m y) (hz : x.z = y.z) {u : List Nat} (hu : ∀ c ∈ u, c ∈ x.z.cps.toList) : (metT x y).worth u = TM.sumN (u.length + 1) fun i => x.worth (u.take i) * y.worth (u.drop i) := by
  have h := TM.met_worth (ta := x.tab) (tc := y.tab) (ea := x.en) (eb := y.en) w.sl v.sl w.el v.el (w.ok hu) (v.ok (by rw [← hz]; exact hu))
  rw [← show TM.rowF (metT x y).tab (metT x y).st u = TM.rowF (fun c => TM.besd (x.tab c) (y.tab c) (TM.mbr0 (TM.tcol (x.tab c) x.en) y.st)) (x.st ++ y.st.map fun k => TM.prod x.st x.en * k) u from rowF_congr fun c hc => met_tab w v hz (hu c hc)] at h
  show TM.prod (TM.rowF (metT x y).tab (metT x y).st u) (List.replicate x.st.length 0 ++ y.en) = _
  rw [w.sl]
  exact h
theorem met_right {n : Nat} {x : Tl} (w : WT n x) (al : Al x.z) {u : List Nat} (hu : ∀ c ∈ u, c ∈ x.z.cps.toList) : (metT x (loneT x.z)).worth u = TM.sumN (u.length + 1) fun i => x.worth (u.take i) := by
  rw [met_worthT w (lone_wt al) rfl hu]
  refine sumN_congr fun i _ => ?_
  rw [lone_worth (fun c hc => hu c (List.mem_of_mem_drop hc)), Int.mul_one]
theorem met_left {n : Nat} {x : Tl} (w : WT n x) (al : Al x.z) {u : List Nat} (hu : ∀ c ∈ u, c ∈ x.z.cps.toList) : (metT (loneT x.z) x).worth u = TM.sumN (u.length + 1) fun i => x.worth (u.drop i) := by
  rw [met_worthT (lone_wt al) w rfl hu]
  refine sumN_congr fun i _ => ?_
  rw [lone_worth (fun c hc => hu c (List.mem_of_mem_take hc)), Int.one_mul]
theorem WB.mono {b c : Nat} {x : Tl} (h : WB b x) (l : b ≤ c) : WB c x := ⟨h.s.mono l, h.e.mono l, fun t ht => (h.t t ht).mono l⟩
theorem ahead_wb {n b : Nat} {x : Tl} (w : WT n x) (wb : WB b x) {v : List Nat} (hv : ∀ c ∈ v, c ∈ x.z.cps.toList) : WB (b + v.length * (b + 10)) (aheadT x v) := ⟨(rowW_ok w wb hv).2, wb.e.mono (Nat.le_add_right ..), fun t ht => (wb.t t ht).mono (Nat.le_add_right ..)⟩
theorem ahead_wt {n b : Nat} {x : Tl} (w : WT n x) (wb : WB b x) {v : List Nat} (hv : ∀ c ∈ v, c ∈ x.z.cps.toList) : WT n (aheadT x v) := ⟨w.dg, w.nd, (rowW_ok w wb hv).1, w.el, w.tl, w.sq, w.lt⟩
theorem behind_wt {n b : Nat} {x : Tl} (w : WT n x) (wb : WB b x) {v : List Nat} (hv : ∀ c ∈ v, c ∈ x.z.cps.toList) : WT n (behindT x v) := ⟨w.dg, w.nd, w.sl, by
  show (TM.tcol _ _).length = n
  rw [TM.tcol_length, (tabW_ok w wb hv).1.1], w.tl, w.sq, w.lt⟩
theorem behind_wb {n b : Nat} {x : Tl} (w : WT n x) (wb : WB b x) {v : List Nat} (hv : ∀ c ∈ v, c ∈ x.z.cps.toList) : WB (1 + v.length * (b + 10) + b + 10) (behindT x v) := by
  obtain ⟨h1, h2⟩ := tabW_ok w wb hv
  have := w.lt
  exact ⟨wb.s.mono (by omega), TM.tcol_bd h2 wb.e fun r hr => by rw [h1.2 r hr]; omega, fun t ht => (wb.t t ht).mono (by omega)⟩
theorem met_wb {n m b c : Nat} {x y : Tl} (w : WT n x) (v : WT m y) (wb : WB b x) (vb : WB c y) : WB (2 * b + 10 + c) (metT x y) := by
  have hlt := w.lt
  have mulB : ∀ {a d : Nat} {p q : Int}, p.natAbs < 2 ^ a → q.natAbs < 2 ^ d → (p * q).natAbs < 2 ^ (a + d) := fun {a d p q} h1 h2 => by
    rw [Int.natAbs_mul, Nat.pow_add]
    exact Nat.mul_lt_mul'' h1 h2
  refine ⟨TM.bd_append (wb.s.mono (by omega)) fun z hz => ?_, TM.bd_append TM.bd_zero (vb.e.mono (by omega)), fun t ht => ?_⟩
  · obtain ⟨k, hk, rfl⟩ := List.mem_map.mp hz
    have h1 : (TM.prod x.st x.en).natAbs < 2 ^ (2 * b + 10) := Nat.lt_of_lt_of_le (TM.prod_lt wb.s wb.e (c := 10) (by rw [w.sl]; omega)) (Nat.pow_le_pow_right (by decide) (by omega))
    exact mulB h1 (vb.s k hk)
  · obtain ⟨p, hp, rfl⟩ := List.mem_map.mp ht
    obtain ⟨h1, h2⟩ := List.of_mem_zip (show (p.1, p.2) ∈ x.ts.zip y.ts from hp)
    refine TM.besd_bd ((wb.t _ h1).mono (by omega)) ((vb.t _ h2).mono (by omega)) fun r hr z hz => ?_
    unfold mbr at hr
    obtain ⟨e, he, rfl⟩ := List.mem_map.mp hr
    obtain ⟨k, hk, rfl⟩ := List.mem_map.mp hz
    have h3 := TM.tcol_bd (wb.t _ h1) wb.e (c := 10) (fun r hr => by rw [(w.sq _ h1).2 r hr]; omega) e he
    exact mulB (Nat.lt_of_lt_of_le h3 (Nat.pow_le_pow_right (by decide) (by omega : b + b + 10 ≤ 2 * b + 10))) (vb.s k hk)
theorem add_wb {b : Nat} {x y : Tl} (wb : WB b x) (vb : WB b y) : WB b (addT x y) := ⟨TM.bd_append wb.s vb.s, TM.bd_append wb.e vb.e, fun t ht => by
  obtain ⟨p, hp, rfl⟩ := List.mem_map.mp ht
  obtain ⟨h1, h2⟩ := List.of_mem_zip (show (p.1, p.2) ∈ x.ts.zip y.ts from hp)
  exact TM.besd_bd (wb.t _ h1) (vb.t _ h2) fun r hr => by
    rw [List.eq_of_mem_replicate hr]
    exact TM.bd_zero⟩
theorem neg_wb {b : Nat} {x : Tl} (wb : WB b x) : WB b (timT (-1) x) := ⟨wb.s, fun v hv => by
  obtain ⟨e, he, rfl⟩ := List.mem_map.mp hv
  have := wb.e e he
  show (-1 * e).natAbs < _
  rw [Int.neg_one_mul, Int.natAbs_neg]
  exact this, wb.t⟩
theorem add_worth {n m : Nat} {x y : Tl} (w : WT n x) (v : WT m y) (hz : x.z = y.z) {u : List Nat} (hu : ∀ c ∈ u, c ∈ x.z.cps.toList) : (addT x y).worth u = x.worth u + y.worth u := by
  have tab : ∀ c ∈ u, (addT x y).tab c = TM.besd (x.tab c) (y.tab c) (zeros n m) := fun c hc => by
    have hi : x.z.cps.toList.idxOf c < x.ts.length := by rw [w.tl]; exact List.idxOf_lt_length_of_mem (hu c hc)
    have hj : x.z.cps.toList.idxOf c < y.ts.length := by rw [v.tl, ← hz]; exact List.idxOf_lt_length_of_mem (hu c hc)
    show ((x.ts.zip y.ts).map _).getD (x.z.cps.toList.idxOf c) [] = _
    rw [map_getD ([], []) (by rw [List.length_zip]; omega), zip_getD hi hj, w.sl, v.sl]
    unfold Tl.tab
    rw [← hz]
  have hy := v.ok (v := u) (by rw [← hz]; exact hu)
  show TM.prod (TM.rowF (addT x y).tab (x.st ++ y.st) u) (x.en ++ y.en) = _
  rw [rowF_congr tab, TM.add_row (B := fun _ => zeros n m) w.sl v.sl (w.ok hu) hy fun c _ => ⟨zeros_len _ _, fun r hr => List.eq_of_mem_replicate hr⟩]
  exact TM.prod_app (by rw [rowF_len w.sl (w.ok hu), w.el])
theorem neg_worth (x : Tl) (u : List Nat) : (timT (-1) x).worth u = - x.worth u := by
  show TM.prod (x.rowW u) (x.en.map fun e => -1 * e) = _
  rw [TM.prod_neg, Int.neg_one_mul]
  rfl
end TH
set_option maxHeartbeats 4000000
namespace TH
open PySem TM
/-- the moves that read c, by the places of their states -/
def msOf (moves : List Mv) (states : List Nat) (c : Nat) : List (Nat × Nat × Nat) := states.flatMap fun s => (mvFrom moves s c).map fun m => (states.idxOf s, states.idxOf m.t, m.b)
theorem thruTab_blk (x : Tl) (moves : List Mv) (states : List Nat) (c n : Nat) : thruTab x moves states c n = TM.blkT n (n * states.length) (TM.msT x.tab (msOf moves states c)) := by
  unfold thruTab TM.blkT TM.msT msOf
  rw [List.map_flatMap]
  have key : ∀ (l : List Nat) (R : Tab), l.foldl (fun R s => (mvFrom moves s c).foldl (fun R m => TM.addTab R (states.idxOf s * n) (states.idxOf m.t * n) (x.tab m.b)) R) R = (l.flatMap fun s => ((mvFrom moves s c).map fun m => (states.idxOf s, states.idxOf m.t, m.b)).map fun m => (m.1, m.2.1, x.tab m.2.2)).foldl (fun R m => addTab R (m.1 * n) (m.2.1 * n) m.2.2) R := fun l => by
    induction l with
    | nil => exact fun R => rfl
    | cons s l ih =>
      intro R
      rw [List.foldl_cons, List.flatMap_cons, List.foldl_append, ih, List.map_map, List.foldl_map]
      rfl
  exact key states _
theorem thru_tab {x : Tl} {z : Str} {moves : List Mv} {ends states : List Nat} {n c : Nat} (hc : c ∈ z.cps.toList) : (thruT x z moves ends states n).tab c = TM.blkT n (n * states.length) (TM.msT x.tab (msOf moves states c)) := by
  show (z.cps.toList.map _).getD (z.cps.toList.idxOf c) [] = _
  have hi := List.idxOf_lt_length_of_mem hc
  rw [map_getD 0 hi, getD_at hi, List.getElem_idxOf hi]
  exact thruTab_blk ..
/-- what the law's digits give -/
theorem al_alp {z : Str} (al : Al z) : Alp z.cps.toList := by
  rcases al with rfl | rfl | rfl | rfl <;> exact ⟨by decide, by decide, by decide, by decide, by decide, by decide⟩
theorem al_two {z : Str} (al : Al z) : z = "0" ∨ (stS (upS z.cps.toList) z.cps.toList = [0, 1] ∧ stS (aheadS z.cps.toList) z.cps.toList = [0, 1] ∧ (∀ c ∈ z.cps.toList, msOf (upS z.cps.toList) [0, 1] c = upM z.cps.toList c) ∧ ∀ c ∈ z.cps.toList, msOf (aheadS z.cps.toList) [0, 1] c = ahM z.cps.toList c) := by
  rcases al with rfl | rfl | rfl | rfl
  · exact .inr ⟨by decide, by decide, by decide, by decide⟩
  · exact .inl rfl
  · exact .inr ⟨by decide, by decide, by decide, by decide⟩
  · exact .inr ⟨by decide, by decide, by decide, by decide⟩
theorem zero_st : stS (upS [48]) [48] = [0] ∧ stS (aheadS [48]) [48] = [0] ∧ msOf (upS [48]) [0] 48 = [(0, 0, 48)] ∧ msOf (aheadS [48]) [0] 48 = [(0, 0, 48)] := by decide
theorem less48 (w : List Nat) : (∀ d ∈ w, d ∈ [48]) → lessF [48] w = [] ∧ predL [48] w = [] := by
  refine snoc_ind (P := fun w => (∀ d ∈ w, d ∈ [48]) → lessF [48] w = [] ∧ predL [48] w = []) (fun _ => ⟨rfl, rfl⟩) (fun l c ih h => ?_) w
  obtain ⟨h1, h2⟩ := ih fun d hd => h d (List.mem_append_left _ hd)
  have hc : c = 48 := List.mem_singleton.mp (h c (List.mem_append_right _ List.mem_cons_self))
  subst hc
  rw [lessF_snoc, predL_snoc, h1, h2]
  exact ⟨rfl, rfl⟩
theorem start_blk {n : Nat} {st : Row} (hs : st.length = n) : ∀ p j, p < 2 → j < n → (blk n (st ++ List.replicate (n * (2 - 1)) 0) p).getD j 0 = if p = 0 then st.getD j 0 else 0 := fun p j hp hj => by
  rw [blk_get hj]
  by_cases e : p = 0
  · subst e
    rw [if_pos rfl, Nat.zero_mul, Nat.zero_add, getD_appL (by omega)]
  · rw [if_neg e, show p = 1 by omega, Nat.one_mul, getD_appR' hs, rep_getD]
theorem start_one {n : Nat} {st : Row} (hs : st.length = n) : ∀ p j, p < 1 → j < n → (blk n (st ++ List.replicate (n * (1 - 1)) 0) p).getD j 0 = if p = 0 then st.getD j 0 else 0 := fun p j hp hj => by
  rw [blk_get hj, show p = 0 by omega, if_pos rfl, Nat.zero_mul, Nat.zero_add, getD_appL (by omega)]
section
variable {x : Tl} {n : Nat} (w : WT n x) (al : Al x.z)
include w
theorem tab_sq {c : Nat} (hc : c ∈ x.z.cps.toList) : Sq n (x.tab c) := w.sq _ (w.mem_tab hc)
theorem thru_row {moves : List Mv} {ends states : List Nat} {ms : Nat → List (Nat × Nat × Nat)} {K : Nat} (hK : states.length = K) (hm : ∀ c ∈ x.z.cps.toList, msOf moves states c = ms c) {u : List Nat} (hu : ∀ c ∈ u, c ∈ x.z.cps.toList) : (thruT x x.z moves ends states n).rowW u = TM.rowF (fun c => TM.blkT n (n * K) (TM.msT x.tab (ms c))) (x.st ++ List.replicate (n * (K - 1)) 0) u := by
  show TM.rowF _ (x.st ++ List.replicate (n * (states.length - 1)) 0) u = _
  rw [hK]
  refine rowF_congr fun c hc => ?_
  rw [thru_tab (hu c hc), hK, hm c (hu c hc)]
include al
theorem sum_worth {u : List Nat} (hu : ∀ c ∈ u, c ∈ x.z.cps.toList) : (sumT x n).worth u = SumF x.z.cps.toList x.worth u := by
  rcases al_two al with h0 | ⟨h1, _, h3, _⟩
  · have hz : x.z.cps.toList = [48] := by rw [h0]; rfl
    obtain ⟨z1, _, z3, _⟩ := zero_st
    have hst : stS (upS x.z.cps.toList) x.z.cps.toList = [0] := by rw [hz]; exact z1
    unfold sumT Tl.worth
    rw [hst, thru_row w (K := 1) (ms := fun c => [(0, 0, c)]) rfl (fun c hc => by rw [hz] at hc ⊢; rw [List.mem_singleton.mp hc]; exact z3) hu]
    have hlen : (TM.rowF (fun c => TM.blkT n (n * 1) (TM.msT x.tab [(0, 0, c)])) (x.st ++ List.replicate (n * (1 - 1)) 0) u).length = n * 1 := rowF_len (by rw [List.length_append, List.length_replicate, w.sl]; omega) fun d _ => blkT_sq ..
    show TM.prod _ ((endB x [0, 1] n 0) ++ []) = _
    rw [List.append_nil, prod_one hlen]
    show TM.prod _ x.en = _
    rw [thru_blk (one_path (cs := x.z.cps.toList)) (fun c hc => tab_sq w hc) w.sl w.el (by rw [List.length_append, List.length_replicate, w.sl]; omega) (start_one w.sl) u hu (by decide)]
    unfold SumF
    rw [hz, (less48 u (by rw [← hz]; exact hu)).1]
    show x.worth u + 0 = 0 + x.worth u
    omega
  · unfold sumT Tl.worth
    rw [h1, thru_row w (K := 2) rfl h3 hu]
    have hlen : (TM.rowF (fun c => TM.blkT n (n * 2) (TM.msT x.tab (upM x.z.cps.toList c))) (x.st ++ List.replicate (n * (2 - 1)) 0) u).length = n * 2 := rowF_len (by rw [List.length_append, List.length_replicate, w.sl]; omega) fun d _ => blkT_sq ..
    show TM.prod _ (endB x [0, 1] n 0 ++ (endB x [0, 1] n 1 ++ [])) = _
    rw [List.append_nil, prod_two hlen (endB_len w.el _ _)]
    show TM.prod _ x.en + TM.prod _ x.en = _
    have hr0 : (x.st ++ List.replicate (n * (2 - 1)) 0).length = n * 2 := by rw [List.length_append, List.length_replicate, w.sl]; omega
    rw [thru_blk up_path (fun c hc => tab_sq w hc) w.sl w.el hr0 (start_blk w.sl) u hu (by decide), thru_blk up_path (fun c hc => tab_sq w hc) w.sl w.el hr0 (start_blk w.sl) u hu (by decide)]
    show (x.worth u + 0) + TM.lsum (lessF x.z.cps.toList u) x.worth = TM.lsum (lessF x.z.cps.toList u) x.worth + x.worth u
    omega
theorem prv_worth {u : List Nat} (hu : ∀ c ∈ u, c ∈ x.z.cps.toList) : (prvT x n).worth u = PrvF x.z.cps.toList x.worth u := by
  rcases al_two al with h0 | ⟨_, h2, _, h4⟩
  · have hz : x.z.cps.toList = [48] := by rw [h0]; rfl
    obtain ⟨_, z2, _, z4⟩ := zero_st
    have hst : stS (aheadS x.z.cps.toList) x.z.cps.toList = [0] := by rw [hz]; exact z2
    unfold prvT Tl.worth
    rw [hst]
    show TM.prod _ (List.replicate n 0 ++ []) = _
    rw [List.append_nil, prod_zeroR]
    unfold PrvF
    rw [hz, (less48 u (by rw [← hz]; exact hu)).2]
    rfl
  · unfold prvT Tl.worth
    rw [h2, thru_row w (K := 2) rfl h4 hu]
    have hlen : (TM.rowF (fun c => TM.blkT n (n * 2) (TM.msT x.tab (ahM x.z.cps.toList c))) (x.st ++ List.replicate (n * (2 - 1)) 0) u).length = n * 2 := rowF_len (by rw [List.length_append, List.length_replicate, w.sl]; omega) fun d _ => blkT_sq ..
    show TM.prod _ (endB x [1] n 0 ++ (endB x [1] n 1 ++ [])) = _
    rw [List.append_nil, prod_two hlen (endB_len w.el _ _)]
    show TM.prod _ (List.replicate n 0) + TM.prod _ x.en = _
    have hr0 : (x.st ++ List.replicate (n * (2 - 1)) 0).length = n * 2 := by rw [List.length_append, List.length_replicate, w.sl]; omega
    rw [prod_zeroR, Int.zero_add, thru_blk (ah_path (al_alp al)) (fun c hc => tab_sq w hc) w.sl w.el hr0 (start_blk w.sl) u hu (by decide)]
    rfl
end
def kS (z : Str) : Nat := if z.cps.toList.length = 1 then 1 else 2
theorem st_len {z : Str} (al : Al z) : (stS (upS z.cps.toList) z.cps.toList).length = kS z ∧ (stS (aheadS z.cps.toList) z.cps.toList).length = kS z := by
  rcases al with rfl | rfl | rfl | rfl <;> exact ⟨by decide, by decide⟩
theorem kS_bd {z : Str} (al : Al z) : 1 ≤ kS z ∧ kS z ≤ 2 := by
  rcases al with rfl | rfl | rfl | rfl <;> decide
theorem ms_len {z : Str} (al : Al z) : ∀ c ∈ z.cps.toList, ((msOf (upS z.cps.toList) (stS (upS z.cps.toList) z.cps.toList) c).length < 128 ∧ ∀ m ∈ msOf (upS z.cps.toList) (stS (upS z.cps.toList) z.cps.toList) c, m.1 < (stS (upS z.cps.toList) z.cps.toList).length ∧ m.2.1 < (stS (upS z.cps.toList) z.cps.toList).length ∧ m.2.2 ∈ z.cps.toList) ∧ ((msOf (aheadS z.cps.toList) (stS (aheadS z.cps.toList) z.cps.toList) c).length < 128 ∧ ∀ m ∈ msOf (aheadS z.cps.toList) (stS (aheadS z.cps.toList) z.cps.toList) c, m.1 < (stS (aheadS z.cps.toList) z.cps.toList).length ∧ m.2.1 < (stS (aheadS z.cps.toList) z.cps.toList).length ∧ m.2.2 ∈ z.cps.toList) := by
  rcases al with rfl | rfl | rfl | rfl <;> decide
theorem thru_wb {n b : Nat} {x : Tl} (w : WT n x) (wb : WB b x) {moves : List Mv} {ends states : List Nat} (h : ∀ c ∈ x.z.cps.toList, (msOf moves states c).length < 128 ∧ ∀ m ∈ msOf moves states c, m.1 < states.length ∧ m.2.1 < states.length ∧ m.2.2 ∈ x.z.cps.toList) : WB (b + 7) (thruT x x.z moves ends states n) := by
  refine ⟨TM.bd_append (wb.s.mono (by omega)) TM.bd_zero, fun v hv => (thru_bd (moves := moves) (z := x.z) (n := n) wb.e).mono (by omega) v hv, fun t ht => ?_⟩
  obtain ⟨c, hc, rfl⟩ := List.mem_map.mp ht
  obtain ⟨h1, h2⟩ := h c hc
  rw [thruTab_blk]
  refine blkT_bd (fun m hm => ?_) (fun m hm => ?_) (by unfold msT; rw [List.length_map]; exact h1)
  · obtain ⟨m', hm', rfl⟩ := List.mem_map.mp hm
    obtain ⟨q1, q2, q3⟩ := h2 m' hm'
    exact ⟨q1, q2, w.sq _ (w.mem_tab q3)⟩
  · obtain ⟨m', hm', rfl⟩ := List.mem_map.mp hm
    exact wb.t _ (w.mem_tab (h2 m' hm').2.2)
theorem sum_wb {n b : Nat} {x : Tl} (w : WT n x) (al : Al x.z) (wb : WB b x) : WB (b + 7) (sumT x n) := thru_wb w wb fun c hc => (ms_len al c hc).1
theorem prv_wb {n b : Nat} {x : Tl} (w : WT n x) (al : Al x.z) (wb : WB b x) : WB (b + 7) (prvT x n) := thru_wb w wb fun c hc => (ms_len al c hc).2
theorem sum_wt {n : Nat} {x : Tl} (w : WT n x) (al : Al x.z) (hn : n * 2 < 1000) : WT (n * kS x.z) (sumT x n) := by
  have h := st_len al
  have hk := kS_bd al
  have : n * kS x.z ≤ n * 2 := Nat.mul_le_mul_left n hk.2
  have := thruT_wt (moves := upS x.z.cps.toList) (ends := [0, 1]) (states := stS (upS x.z.cps.toList) x.z.cps.toList) w.dg w.nd w (by rw [h.1]; exact hk.1) (by rw [h.1]; omega)
  rw [h.1] at this
  exact this
theorem prv_wt {n : Nat} {x : Tl} (w : WT n x) (al : Al x.z) (hn : n * 2 < 1000) : WT (n * kS x.z) (prvT x n) := by
  have h := st_len al
  have hk := kS_bd al
  have : n * kS x.z ≤ n * 2 := Nat.mul_le_mul_left n hk.2
  have := thruT_wt (moves := aheadS x.z.cps.toList) (ends := [1]) (states := stS (aheadS x.z.cps.toList) x.z.cps.toList) w.dg w.nd w (by rw [h.2]; exact hk.1) (by rw [h.2]; omega)
  rw [h.2] at this
  exact this
theorem step_wt {n : Nat} {x : Tl} (w : WT n x) (al : Al x.z) (hn : n * 3 < 1000) : WT (n + n * kS x.z) (stepT x n) := by
  have : n * kS x.z ≤ n * 2 := Nat.mul_le_mul_left n (kS_bd al).2
  exact addT_wt w (timT_wt (prv_wt w al (by omega)) (-1)) rfl (by omega)
theorem step_wb {n b : Nat} {x : Tl} (w : WT n x) (al : Al x.z) (wb : WB b x) : WB (b + 7) (stepT x n) := add_wb (wb.mono (by omega)) (neg_wb (prv_wb w al wb))
theorem step_worth {n : Nat} {x : Tl} (w : WT n x) (al : Al x.z) (hn : n * 2 < 1000) {u : List Nat} (hu : ∀ c ∈ u, c ∈ x.z.cps.toList) : (stepT x n).worth u = StepF x.z.cps.toList x.worth u := by
  unfold stepT
  rw [add_worth w (timT_wt (prv_wt w al hn) (-1)) rfl hu, neg_worth, prv_worth w al hu]
  unfold StepF
  omega
theorem sumF_congr {cs : List Nat} {f g : List Nat → Int} {u : List Nat} (h : ∀ v, (∀ c ∈ v, c ∈ cs) → f v = g v) (hu : ∀ c ∈ u, c ∈ cs) : SumF cs f u = SumF cs g u := by
  unfold SumF
  rw [h u hu, lsum_congr fun v hv => h v (lessF_sub u hu v hv).1]
/-- steps of sums -/
theorem back_worth {n : Nat} {x : Tl} (w : WT n x) (al : Al x.z) (hn : n * 2 * 2 < 1000) {u : List Nat} (hu : ∀ c ∈ u, c ∈ x.z.cps.toList) : (stepT (sumT x n) (n * kS x.z)).worth u = x.worth u := by
  have : n * kS x.z ≤ n * 2 := Nat.mul_le_mul_left n (kS_bd al).2
  have ws := sum_wt w al (by omega)
  rw [step_worth (x := sumT x n) ws al (by omega) hu]
  have A := al_alp al
  rw [show StepF (sumT x n).z.cps.toList (sumT x n).worth u = StepF x.z.cps.toList (SumF x.z.cps.toList x.worth) u from by
    unfold StepF PrvF
    rw [sum_worth w al hu]
    congr 1
    exact lsum_congr fun v hv => sum_worth w al (predL_sub A u hu v hv).1]
  exact step_sum A x.worth hu
/-- sums of steps -/
theorem again_worth {n : Nat} {x : Tl} (w : WT n x) (al : Al x.z) (hn : n * 3 < 1000) {u : List Nat} (hu : ∀ c ∈ u, c ∈ x.z.cps.toList) : (sumT (stepT x n) (n + n * kS x.z)).worth u = x.worth u := by
  rw [sum_worth (x := stepT x n) (step_wt w al hn) al hu]
  have A := al_alp al
  rw [show SumF (stepT x n).z.cps.toList (stepT x n).worth u = SumF x.z.cps.toList (StepF x.z.cps.toList x.worth) u from sumF_congr (fun v hv => step_worth w al (by omega) hv) hu]
  exact sum_steps A x.worth hu
end TH
set_option maxHeartbeats 4000000
namespace TH
open PySem TM
theorem idx_nodup {l : List Nat} (h : l.Nodup) {i : Nat} (hi : i < l.length) : l.idxOf l[i] = i := by
  have h1 : l.idxOf l[i] < l.length := List.idxOf_lt_length_of_mem (List.getElem_mem hi)
  have h2 : l[l.idxOf l[i]] = l[i] := List.getElem_idxOf h1
  exact (List.getElem_inj h).mp h2
theorem WT.ts_eq {n : Nat} {x : Tl} (w : WT n x) : x.ts = x.z.cps.toList.map x.tab := by
  apply List.ext_getElem (by rw [List.length_map, w.tl])
  intro i h1 h2
  rw [List.getElem_map]
  unfold Tl.tab
  rw [idx_nodup w.nd, getD_at h1]
section
variable {x : Tl} {n : Nat} (w : WT n x)
include w
theorem col_sumT (k : Nat) {r : Row} (hr : r.length = n) : TM.prod r (x.col n k) = lsum (words x.z.cps.toList k) fun v => TM.prod (TM.rowF x.tab r v) x.en := by
  unfold Tl.col
  have h := col_sum (tab := x.tab) (cs := x.z.cps.toList) (fun c hc => tab_sq w hc) w.el k hr
  rw [← w.ts_eq] at h
  exact h
theorem rsum_eq (k : Nat) : rsum x n k = lsum (words x.z.cps.toList k) x.worth := col_sumT w k w.sl
theorem bsum_eq {u : List Nat} (hu : ∀ c ∈ u, c ∈ x.z.cps.toList) {l : Nat} (hl : u.length ≤ l) : bsum x n u l = lsum (words x.z.cps.toList (l - u.length)) fun v => x.worth (u ++ v) := by
  unfold bsum
  rw [if_neg (by omega)]
  refine (col_sumT w (l - u.length) (r := x.rowW u) (rowF_len w.sl (w.ok hu))).trans (lsum_congr fun v _ => ?_)
  unfold Tl.worth
  congr 1
  exact (TM.rowF_app x.tab x.st u v).symm
theorem sumP_eq {r : Row} (hr : r.length = n) (k c : Nat) (acc : Int) : sumP x n r k c acc = acc + lsum (x.z.cps.toList.filter fun d => decide (d < c)) fun o => lsum (words x.z.cps.toList k) fun v => TM.prod (TM.rowF x.tab r (o :: v)) x.en := by
  have key : ∀ (l : List Nat) (acc : Int), (∀ d ∈ l, d ∈ x.z.cps.toList) → (l.zip (l.map x.tab)).foldl (sumD x n r k c) acc = acc + lsum (l.filter fun d => decide (d < c)) fun o => lsum (words x.z.cps.toList k) fun v => TM.prod (TM.rowF x.tab r (o :: v)) x.en := fun l => by
    induction l with
    | nil => exact fun acc _ => (Int.add_zero _).symm
    | cons d l ih =>
      intro acc h
      rw [List.map_cons, List.zip_cons_cons, List.foldl_cons, ih _ fun e he => h e (List.mem_cons_of_mem _ he)]
      unfold sumD
      by_cases e : d < c
      · rw [if_pos e, List.filter_cons_of_pos (by exact decide_eq_true e)]
        have hd := h d List.mem_cons_self
        rw [col_sumT w k (led_len (tab_sq w hd) r)]
        show acc + _ + _ = acc + (_ + _)
        exact Int.add_assoc ..
      · rw [if_neg e, List.filter_cons_of_neg (by rw [decide_eq_true_eq]; exact e)]
  unfold sumP
  have h := key x.z.cps.toList acc fun d hd => hd
  rw [← w.ts_eq] at h
  exact h
theorem sumW_snd {u : List Nat} (hu : ∀ c ∈ u, c ∈ x.z.cps.toList) : ∀ i, i ≤ u.length → (sumW x n u i).2 = lsum (tolP x.z.cps.toList u i) x.worth
  | 0, _ => rfl
  | i + 1, h => by
    have hp : ((List.range u.length).zip u)[i]? = some (i, u[i]) := by
      rw [List.getElem?_zip_eq_some]
      exact ⟨List.getElem?_range h, List.getElem?_eq_getElem h⟩
    have e : sumW x n u (i + 1) = sumS x n u.length (sumW x n u i) (i, u[i]) := foldl_take_succ hp
    have hr : (x.rowW (u.take i)).length = n := rowF_len w.sl (w.ok fun c hc => hu c (List.mem_of_mem_take hc))
    rw [e]
    show sumP x n (sumW x n u i).1 (u.length - i - 1) u[i] (sumW x n u i).2 = _
    rw [sumW_fst x n u i (Nat.le_of_succ_le h), sumP_eq w hr, sumW_snd hu i (Nat.le_of_succ_le h)]
    unfold tolP
    rw [take_succ_get hp, List.flatMap_append, lsum_append]
    congr 1
    rw [List.flatMap_cons, List.flatMap_nil, List.append_nil, lsum_flatMap]
    refine lsum_congr fun o _ => ?_
    rw [lsum_map]
    refine lsum_congr fun v _ => ?_
    unfold Tl.worth
    congr 1
    exact (TM.rowF_app x.tab x.st (u.take i) (o :: v)).symm
theorem sumTo_eq {u : List Nat} (hu : ∀ c ∈ u, c ∈ x.z.cps.toList) : sumTo x n u = lsum (tol x.z.cps.toList u) x.worth := by
  unfold sumTo tol
  rw [sumW_fst x n u u.length (Nat.le_refl _), sumW_snd w hu u.length (Nat.le_refl _), lsum_append, List.take_length]
  show _ = _ + (x.worth u + 0)
  rw [Int.add_zero]
  rfl
end
theorem words_at {cs : List Nat} {k i : Nat} (h : i < (words cs k).length) : (words cs k).getD i [] ∈ words cs k := by
  rw [getD_at h]
  exact List.getElem_mem h
section
variable {x : Tl} {n k i j : Nat} (w : WT n x) (hr : (x.z.cps.toList, k) ∈ rolls) (hi : i < (words x.z.cps.toList k).length) (hj : j < (words x.z.cps.toList k).length)
include w hr hi hj
theorem rng_eq : rngSum x n ((words x.z.cps.toList k).getD i []) ((words x.z.cps.toList k).getD j []) = if j < i then 0 else lsum (seg (words x.z.cps.toList k) i j) x.worth := by
  have h2 := roll2 hr hi hj
  unfold rngSum
  by_cases e : j < i
  · rw [if_pos e, if_pos (h2.lt.mpr e)]
  · rw [if_neg e, if_neg fun z => e (h2.lt.mp z)]
    rw [sumTo_eq w (words_sub (words_at hj)), sumTo_eq w (words_sub (words_at hi)), (roll1 hr hj).tol, (roll1 hr hi).tol]
    exact seg_sum (by omega) hj x.worth
theorem blocks_eq (hij : i ≤ j) : lsum (beg x.z.cps.toList ((words x.z.cps.toList k).getD i []) ((words x.z.cps.toList k).getD j [])) (fun b => bsum x n b k) = lsum (seg (words x.z.cps.toList k) i j) x.worth := by
  have h2 := roll2 hr hi hj
  unfold seg
  rw [← h2.beg hij, lsum_flatMap]
  refine lsum_congr fun b hb => ?_
  obtain ⟨b1, b2⟩ := h2.len hij b hb
  rw [bsum_eq w b2 b1, lsum_map]
end
/-- the sum up to a word of a roll -/
theorem sumF_roll {cs : List Nat} {k i : Nat} (hr : (cs, k) ∈ rolls) (hi : i < (words cs k).length) (f : List Nat → Int) : SumF cs f ((words cs k).getD i []) = lsum ((words cs k).take (i + 1)) f := by
  unfold SumF
  rw [(roll1 hr hi).less, take_snoc hi, lsum_append]
  show _ = _ + (f _ + 0)
  omega
theorem ahead_D (z w : List Nat) : tkAhead z w = match ahdL z w with | [] => .non | v :: _ => wD v := by
  unfold tkAhead ahdL
  split <;> rfl
theorem behind_D (z w : List Nat) : tkBehind z w = match bhdL z w with | [] => .non | v :: _ => wD v := by
  unfold tkBehind bhdL
  split <;> rfl
end TH
set_option maxHeartbeats 4000000
namespace TH
open PySem PySem.Spec PyProof.Rows L2
structure JPs (W : Gx) (S : Sc) (k : Nat) (keys : List (Option Expr)) (values : List Expr) (env : List Sl) (kds : List (Str × D)) : Prop where
  all : keys.all (·.isSome) = true
  len : keys.length = values.length
  ln2 : keys.length = kds.length
  run : ∀ X, CC W S k X → ∀ pos, ∃ trs, PPs X pos keys values trs ∧ ∀ σ G H, Ex G H → EnvR W.K G H σ env → ∀ Q : List (V × V) → Hp → Prop, (∀ us G' H', Stp G H G' H' → Reps W.K G' (kds.map (·.2)) us → Q (((kds.map fun x => (Sum.inr x.1 : Key)).zip us).map fun kv => (kV kv.1, kv.2)) H') → tPairs trs σ H Q
section
variable {W : Gx} {S : Sc} {k : Nat} {env : List Sl} {e : Expr} {pos p p2 : Pos} {d : D}
theorem jps_nil : JPs W S k [] [] env [] := ⟨rfl, rfl, rfl, fun X hX pos => ⟨[], pps_nil, fun σ G H x E Q q => q [] G H (.refl x) rfl⟩⟩
theorem jps_cons {y : Str} {jj} {keys : List (Option Expr)} {values : List Expr} {kds : List (Str × D)} (he : J W S k e env d) (h : JPs W S k keys values env kds) : JPs W S k (some (.Constant (.str y) jj p2) :: keys) (e :: values) env ((y, d) :: kds) :=
  ⟨by rw [List.all_cons, h.all]; rfl, by rw [List.length_cons, List.length_cons, h.len], by rw [List.length_cons, List.length_cons, h.ln2], fun X hX pos => by
    obtain ⟨trs, hp, hr⟩ := h.run X hX pos
    refine ⟨(wE W S k (.Constant (.str y) jj p2), wE W S k e) :: trs, pps_cons (pe_w hX _) (pe_w hX _) hp, fun σ G H x E Q q => ?_⟩
    refine j_str σ G H x E _ fun u G1 H1 s1 e1 => he σ G1 H1 s1.s (E.mono s1) _ fun v G2 H2 s2 r2 => hr σ G2 H2 s2.s ((E.mono s1).mono s2) _ fun us G3 H3 s3 r3 => ?_
    have h1 : u = V.str y := e1
    subst h1
    exact q (v :: us) G3 H3 ((s1.trans s2).trans s3) ⟨v, us, rfl, r2.mono s3.g, r3⟩⟩
/-- a new dict -/
def JKN (W : Gx) (S : Sc) (k : Nat) (e : Expr) (env : List Sl) (kds : List (Str × D)) : Prop := ∀ σ G H, Ex G H → EnvR W.K G H σ env → ∀ Q : VK, (∀ r us G' H', Stp G H G' H' → H r = none → G' r = none → H' r = some (.dK ((kds.map fun x => (Sum.inr x.1 : Key)).zip us)) → Reps W.K G' (kds.map (·.2)) us → Q (.ref r) H') → wE W S k e σ H Q
theorem upd_upd' {H : Hp} {p : Addr} {o o' : HO} : upd (upd H p o) p o' = upd H p o' := by
  funext a
  by_cases e : a = p
  · rw [e, upd_same, upd_same]
  · rw [upd_ne e, upd_ne e, upd_ne e]
theorem map_zip_fst {α β : Type} : ∀ {l : List α} {m : List β}, l.length = m.length → (l.zip m).map (·.1) = l
  | [], _, _ => rfl
  | a :: l, b :: m, h => by rw [List.zip_cons_cons, List.map_cons, map_zip_fst (Nat.succ.inj h)]
theorem jkn_disp {keys : List (Option Expr)} {values : List Expr} {kds : List (Str × D)} (h : JPs W S k keys values env kds) (hne : keys ≠ [] := by exact fun z => nomatch z) (hl : keys.length ≤ 15 := by exact Nat.le_of_ble_eq_true rfl) (nd : (kds.map fun x => (Sum.inr x.1 : Key)).Nodup := by decide) : JKN W S k (.Dict keys values pos) env kds := fun σ G H x E Q q => ⟨fun X hX pins s I => by
  obtain ⟨trs, hp, hr⟩ := h.run X hX pos
  refine (pe_disp hp h.all h.len hne hl).run pins s σ H Q I ?_
  intro r hrn
  have s0 : Stp G H G (upd H r (.dK [])) := .newO x hrn
  refine hr σ G (upd H r (.dK [])) s0.s (E.mono s0) _ fun us G1 H1 s1 r1 => ?_
  have h1 : H1 r = some (.dK []) := s1.h _ _ upd_same
  have g1 : G1 r = none := s1.o r (by rw [upd_same]; exact fun z => nomatch z) (x.none hrn)
  have hlen : (kds.map fun x => (Sum.inr x.1 : Key)).length = us.length := by rw [r1.length, List.length_map, List.length_map]
  have em : mergeK [] ((kds.map fun x => (Sum.inr x.1 : Key)).zip us) = (kds.map fun x => (Sum.inr x.1 : Key)).zip us := by
    rw [mergeK_new _ [] (by rw [List.nil_append, map_zip_fst hlen]; exact nd)]
    rfl
  refine ⟨h1, _, rfl, ?_, ?_⟩
  · rw [List.length_zip, ← hlen, Nat.min_self, List.length_map, ← h.ln2]
    exact hl
  · rw [em]
    have s2 : Stp G H G1 (upd H1 r (.dK ((kds.map fun x => (Sum.inr x.1 : Key)).zip us))) := (s0.trans s1).mut hrn g1
    exact q r us G1 _ s2 hrn g1 upd_same r1⟩
theorem zip_pairs {kds : List (Str × D)} : (kds.map fun x => (Sum.inr x.1 : Key)).zip (kds.map (·.2)) = kds.map fun x => ((Sum.inr x.1 : Key), x.2) := by
  induction kds with
  | nil => rfl
  | cons a l ih => rw [List.map_cons, List.map_cons, List.zip_cons_cons, ih]; rfl
theorem JKN.dic {kds : List (Str × D)} (h : JKN W S k e env kds) : J W S k e env (.dic (kds.map fun x => ((Sum.inr x.1 : Key), x.2))) := fun σ G H x E Q q => h σ G H x E Q fun r us G1 H1 s1 hn hg hh rr =>
  q (.ref r) (upd G1 r _) H1 (s1.freeze hn hg hh) ⟨r, _, rfl, upd_same, by rw [← zip_pairs]; exact repK_zip (rr.mono (.new hg))⟩
end
section
variable {W : Gx} {S : Sc} {k : Nat} {p q : Addr} {G0 Hb G H : Hp} {env : List Sl} {σ : L2.St} {D' : Ends} {rest : List Stmt} {e a b c tg : Expr} {pos pos' p1 p2 p3 p4 : Pos} {x y z : Str} {i j l : Nat} {R R2 : D → Prop} {N c1 c2 : Nat} {d : D}
/-- x = {..}, that will be written -/
theorem ws_setK {kds : List (Str × D)} (A : At W G0 Hb env σ G H) (nd : S.N.Nodup) (hs : StN S i x) (he : JKN W S k e env kds) (next : ∀ r us σ' G' H', Hb r = none → G' r = none → H' r = some (.dK ((kds.map fun x => (Sum.inr x.1 : Key)).zip us)) → Reps W.K G' (kds.map (·.2)) us → At W G0 Hb (env.set i (.raw (.ref r))) σ' G' H' → wSs W S k rest D' σ' H')
    (hsw : ∀ env : Env, swapsWith e (some (.Name x pos')) pos.line env = pure false := by intro _; rfl) : wSs W S k (.Assign [.Name x pos'] e pos :: rest) D' σ H :=
  wSs_cons (wS_of (fun X hX => ps_set (by rw [hX.N]; exact nd) (by rw [hX.N]; exact hs.1) (by rw [hX.sc]; exact hs.2.1) (pe_w hX e) (hsw X.env) (by rw [hX.fb, hX.sc]; exact hs.2.2)) (he σ G H A.s.s A.e _ fun r us G1 H1 s1 hn hg hh rr =>
    next r us _ G1 H1 (A.s.h.none hn) hg hh rr ((A.mono s1).setS (x := .raw (.ref r)) (o := some (.ref r)) rfl fun ds h => nomatch h)))
/-- a fresh thing joins the base -/
theorem At.growR {r : Addr} {o : HO} (A : At W G0 Hb env σ G H) (h0 : Hb r = none) (hg : G r = none) (hh : H r = some o) (no : ∀ (i : Nat) (ds : List D), env[i]? ≠ some (.own ds)) : At W G0 (upd Hb r o) env σ G H :=
  ⟨⟨A.s.g, fun a u h => by
    by_cases e : a = r
    · subst e
      rw [upd_same] at h
      rw [hh]
      exact h
    · rw [upd_ne e] at h
      exact A.s.h a u h, A.s.s, fun a h1 h2 => by
    by_cases e : a = r
    · rw [e]; exact hg
    · rw [upd_ne e] at h1
      exact A.s.o a h1 h2⟩, A.e, fun i ds a h1 _ => absurd h1 (no i ds), fun i j ds es a h1 _ _ _ => absurd h1 (no i ds)⟩
/-- .. and leaves it -/
theorem At.shrink {r : Addr} {o : HO} (A : At W G0 (upd Hb r o) env σ G H) (h0 : Hb r = none) : At W G0 Hb env σ G H :=
  ⟨⟨A.s.g, fun a u h => A.s.h a u (by rw [upd_ne (ne_of_none h h0)]; exact h), A.s.s, fun a h1 h2 => A.s.o a (by
    by_cases e : a = r
    · rw [e, upd_same]; exact fun z => nomatch z
    · rw [upd_ne e]; exact h1) h2⟩, A.e, fun i ds a h1 h2 => by
    have h := A.fresh i ds a h1 h2
    by_cases e : a = r
    · rw [e]; exact h0
    · rw [upd_ne e] at h; exact h, A.dis⟩
/-- x["key"] = e, x a dict that stands in the base -/
theorem ws_dputB {r : Addr} {kvs : List (Key × V)} {key : Str} {jj} (A : At W G0 (upd Hb r (.dK kvs)) env σ G H) (i : Nat) (hg : G0 r = none) (he : J W S k e env d) (hl : kvs.length < 1000) (hnew : (Sum.inr key : Key) ∉ kvs.map (·.1))
    (next : ∀ v G' H', At W G0 (upd Hb r (.dK (kvs ++ [(.inr key, v)]))) env σ G' H' → Rep W.K G' d v → wSs W S k rest D' σ H')
    (hi : env[i]? = some (.raw (.ref r)) := by rfl) (hN : S.N[i]? = some x := by rfl) (hv : VisS S x := by first | exact Or.inl rfl | exact Or.inr (Or.inl rfl) | exact Or.inr (Or.inr rfl)) (hd : (x == ("__debug__" : Str)) = false := by decide) (hcd : (x == ("__classdict__" : Str)) = false := by decide)
    (hs : ∀ env : Env, swapsWith e (some (.Subscript (.Name x p1) (.Constant (.str key) jj p2) pos')) pos.line env = pure false := by intro _; rfl) : wSs W S k (.Assign [.Subscript (.Name x p1) (.Constant (.str key) jj p2) pos'] e pos :: rest) D' σ H :=
  wSs_cons (wS_X (fun X hX => ps_dput (hu_of hX.room) (pe_w hX _) (pe_w hX _) (pe_w hX e) (hs X.env)) fun X hX => he σ G H A.s.s A.e _ fun v G1 H1 s1 r1 => jraw i hi hN hv hd hcd σ G1 H1 s1.s (A.e.mono s1) _ fun u G2 H2 s2 eu => j_str σ G2 H2 s2.s ((A.e.mono s1).mono s2) _ fun u2 G3 H3 s3 eu2 => by
    subst eu
    have e2 : u2 = V.str key := eu2
    subst e2
    have A3 := A.mono ((s1.trans s2).trans s3)
    have h3 : H3 r = some (.dK kvs) := A3.s.h _ _ upd_same
    refine ⟨r, upd H3 r (.dK (kvs ++ [(.inr key, v)])), rfl, .inl ⟨kvs, .inr key, h3, rfl, szlt (by omega), by rw [putK_new hnew]⟩, ?_⟩
    have A4 := A3.mutB (p := r) (o := .dK (kvs ++ [(.inr key, v)])) (by rw [upd_same]; exact fun z => nomatch z) hg
    rw [upd_upd'] at A4
    exact next v G3 _ A4 (r1.mono (s2.trans s3).g))
/-- return x, x a dict that stands in the base alone -/
theorem ws_retB {r : Addr} {kvs : List (Key × V)} {kds : List (Key × D)} (A : At W G0 (upd Hb r (.dK kvs)) env σ G H) (i : Nat) (h0 : Hb r = none) (hg : G0 r = none) (hr : RepK W.K G kds kvs) (next : ∀ v G' H', Stp G0 Hb G' H' → Rep W.K G' (.dic kds) v → D'.rt v H')
    (hi : env[i]? = some (.raw (.ref r)) := by rfl) (hN : S.N[i]? = some x := by rfl) (hv : VisS S x := by first | exact Or.inl rfl | exact Or.inr (Or.inl rfl) | exact Or.inr (Or.inr rfl)) (hd : (x == ("__debug__" : Str)) = false := by decide) (hcd : (x == ("__classdict__" : Str)) = false := by decide) : wSs W S k (.Return (some (.Name x p1)) pos :: rest) D' σ H :=
  wSs_cons (wS_of (fun X hX => ps_ret (pe_w hX _)) (jraw i hi hN hv hd hcd σ G H A.s.s A.e _ fun u G2 H2 s2 eu => by
    subst eu
    have A2 := A.mono s2
    have h2 : H2 r = some (.dK kvs) := A2.s.h _ _ upd_same
    have g2 : G2 r = none := A2.s.o r (by rw [upd_same]; exact fun z => nomatch z) hg
    exact next (.ref r) (upd G2 r (.dK kvs)) H2 ((A2.shrink h0).s.freeze h0 g2 h2) ⟨r, kvs, rfl, upd_same, (hr.mono s2.g).mono (.new g2)⟩))
theorem wsd_tup2 {n n2 : Nat} (A : At W G0 Hb env σ G H) (dk : Deck G0 Hb p q N) (nd : S.N.Nodup) (hs1 : StN S i x) (hs2 : StN S j y) (hij : i ≠ j) (ha : JR W S k p q a env c1 R) (hb : JR W S k p q b env c2 R2) (hc : N + (c1 + c2) ≤ 1000000)
    (next : ∀ Hb' d d2 σ' G' H', R d → R2 d2 → BaseL p q Hb Hb' → At W G0 Hb' ((env.set i (.d d)).set j (.d d2)) σ' G' H' → Deck G0 Hb' p q (N + (c1 + c2)) → wSs W S k rest D' σ' H') (hpa : Plain a := by intro _ _; rfl) (hpb : Plain b := by intro _ _; rfl)
    (hw : ∀ env : Env, env.scope = S.sc → swappedStores [.Tuple [.Name x p1, .Name y p2] n p3] (.Tuple [a, b] n2 p4) env = pure none := by intro env h; cases env; cases h; rfl)
    (hs : ∀ env : Env, swapsWithSole [.Tuple [.Name x p1, .Name y p2] n p3] (.Tuple [a, b] n2 p4) pos.line env = pure false := by intro _; rfl) :
    wSs W S k (.Assign [.Tuple [.Name x p1, .Name y p2] n p3] (.Tuple [a, b] n2 p4) pos :: rest) D' σ H :=
  wSs_cons (wS_of (fun X hX => ps_asg (pe_tup (pa_cons (pe_w hX a) (pa_cons (pe_w hX b) pa_nil (hpb [] X.env)) (hpa [b] X.env))) (pg_tg hX nd (.two hs1 hs2 hij)) (hs X.env) (hw X.env hX.sc))
    (ha σ G H N A.s.s A.e (A.off dk) (A.deck dk) (by omega) _ fun u G1 H1 s1 d1 ⟨dd, hR, r1⟩ => hb σ G1 H1 (N + c1) s1.s (A.e.monoL (A.off dk) s1) (A.off dk) d1 (by omega) _ fun v G2 H2 s2 d2 ⟨dd2, hR2, r2⟩ => ⟨sz (by show 2 ≤ 100000; decide), fun r hr => by
      have s := s1.trans s2
      obtain ⟨Hb', bl, A1, dk1⟩ := A.draw dk s (by rw [← Nat.add_assoc]; exact d2 : Deck G2 H2 p q (N + (c1 + c2)))
      exact ⟨r, [u, v], rfl, .of upd_same, rfl, u, [v], rfl, v, [], rfl, rfl, next Hb' dd dd2 _ G2 _ hR hR2 bl (((A1.set (r1.mono s2.g)).set r2).mono (Stp.newO s2.s hr)) dk1⟩⟩))
/-- .. two plain locals -/
theorem wsd_par2 {n n2 : Nat} (A : At W G0 Hb env σ G H) (dk : Deck G0 Hb p q N) (nd : S.N.Nodup) (hi : S.N[i]? = some x) (hj : S.N[j]? = some y) (hx : S.sc.names.lookup x = some .local) (hy : S.sc.names.lookup y = some .local) (hij : i ≠ j) (ha : JR W S k p q a env c1 R) (hb : JR W S k p q b env c2 R2) (hc : N + (c1 + c2) ≤ 1000000)
    (next : ∀ Hb' d d2 σ' G' H', R d → R2 d2 → BaseL p q Hb Hb' → At W G0 Hb' ((env.set i (.d d)).set j (.d d2)) σ' G' H' → Deck G0 Hb' p q (N + (c1 + c2)) → wSs W S k rest D' σ' H') (hpa : Plain a := by intro _ _; rfl) (hpb : Plain b := by intro _ _; rfl)
    (hw : ∀ env : Env, env.scope = S.sc → swappedStores [.Tuple [.Name x p1, .Name y p2] n p3] (.Tuple [a, b] n2 p4) env = pure (some [x, y]) := by intro env h; cases env; cases h; rfl)
    (hs : ∀ env : Env, swapsWithSole [.Tuple [.Name x p1, .Name y p2] n p3] (.Tuple [a, b] n2 p4) pos.line env = pure false := by intro _; rfl) :
    wSs W S k (.Assign [.Tuple [.Name x p1, .Name y p2] n p3] (.Tuple [a, b] n2 p4) pos :: rest) D' σ H :=
  wSs_cons (wS_of (fun X hX => ps_par (i := i) (j := j) hX.calm (by rw [hX.N]; exact nd) (by rw [hX.N]; exact hi) (by rw [hX.N]; exact hj) hij (by rw [hX.sc]; exact hx) (by rw [hX.sc]; exact hy) (pa_cons (pe_w hX a) (pa_cons (pe_w hX b) pa_nil (hpb [] X.env)) (hpa [b] X.env)) (hw X.env hX.sc) (hs X.env))
    (ha σ G H N A.s.s A.e (A.off dk) (A.deck dk) (by omega) _ fun u G1 H1 s1 d1 ⟨dd, hR, r1⟩ => hb σ G1 H1 (N + c1) s1.s (A.e.monoL (A.off dk) s1) (A.off dk) d1 (by omega) _ fun v G2 H2 s2 d2 ⟨dd2, hR2, r2⟩ => by
      have s := s1.trans s2
      obtain ⟨Hb', bl, A1, dk1⟩ := A.draw dk s (by rw [← Nat.add_assoc]; exact d2 : Deck G2 H2 p q (N + (c1 + c2)))
      exact ⟨u, v, rfl, next Hb' dd dd2 _ G2 H2 hR hR2 bl ((A1.set (r1.mono s2.g)).set r2) dk1⟩))
/-- a, b = e, [..]: e draws, a name is captured -/
theorem wsd_tup2O {n n2 : Nat} {ds : List D} (A : At W G0 Hb env σ G H) (dk : Deck G0 Hb p q N) (nd : S.N.Nodup) (hs1 : StN S i x) (hs2 : StN S j y) (hij : i ≠ j) (ha : JR W S k p q a env c1 R) (hb : JN W S k b env ds) (hc : N + c1 ≤ 1000000)
    (next : ∀ Hb' d σ' G' H', R d → BaseL p q Hb Hb' → At W G0 Hb' ((env.set i (.d d)).set j (.own ds)) σ' G' H' → Deck G0 Hb' p q (N + c1) → wSs W S k rest D' σ' H') (hpa : Plain a := by intro _ _; rfl) (hpb : Plain b := by intro _ _; rfl)
    (hw : ∀ env : Env, env.scope = S.sc → swappedStores [.Tuple [.Name x p1, .Name y p2] n p3] (.Tuple [a, b] n2 p4) env = pure none := by intro env h; cases env; cases h; rfl)
    (hs : ∀ env : Env, swapsWithSole [.Tuple [.Name x p1, .Name y p2] n p3] (.Tuple [a, b] n2 p4) pos.line env = pure false := by intro _; rfl) :
    wSs W S k (.Assign [.Tuple [.Name x p1, .Name y p2] n p3] (.Tuple [a, b] n2 p4) pos :: rest) D' σ H :=
  wSs_cons (wS_of (fun X hX => ps_asg (pe_tup (pa_cons (pe_w hX a) (pa_cons (pe_w hX b) pa_nil (hpb [] X.env)) (hpa [b] X.env))) (pg_tg hX nd (.two hs1 hs2 hij)) (hs X.env) (hw X.env hX.sc))
    (ha σ G H N A.s.s A.e (A.off dk) (A.deck dk) (by omega) _ fun u G1 H1 s1 d1 ⟨dd, hR, r1⟩ => by
      obtain ⟨Hb', bl, A1, dk1⟩ := A.draw dk s1 d1
      exact hb σ G1 H1 A1.s.s A1.e _ fun r vs G2 H2 s2 hn hg hh r2 => ⟨sz (by show 2 ≤ 100000; decide), fun t ht =>
        ⟨t, [u, .ref r], rfl, .of upd_same, rfl, u, [.ref r], rfl, .ref r, [], rfl, rfl, next Hb' dd _ G2 _ hR bl (((A1.set r1).setO s2 hn hg hh r2).mono (Stp.newO s2.s ht)) dk1⟩⟩))
theorem jr_min {m : Int} (ha : J W S k a env (.int m)) (hb : JR W S k p q b env c1 fun d => ∃ i : Int, d = .int i ∧ R (.int i)) (hpa : Plain a := by intro _ _; rfl) (hpb : Plain b := by intro _ _; rfl) (hg : GlS S "min" := by exact rfl) (hm : W.mg "min" = none := by assumption) : JR W S k p q (.Call (.Name "min" p1) [a, b] [] pos) env c1 fun d => ∃ i : Int, d = .int (if i < m then i else m) ∧ R (.int i) := fun σ G H N x E of dk hn Q f =>
  wE_X (fun X hX => pe_callB (call_min2 hX.calm) (hX.gl hg) (by rw [hX.mg]; exact hm) (by decide +kernel) (pa_cons (pe_w hX a) (pa_cons (pe_w hX b) pa_nil (hpb [] X.env)) (hpa [b] X.env)) (by decide) (by decide) (hpa [b] X.env) (by rw [hpb [] X.env]; rfl)) fun X hX => ha σ G H x E _ fun u G1 H1 s1 e1 => hb σ G1 H1 N s1.s (E.mono s1) of (dk.mono s1) hn _ fun v G2 H2 s2 d2 ⟨dd, ⟨i, ei, hR⟩, r2⟩ => by
    subst ei
    exact ⟨m, i, by rw [show u = V.int m from e1, show v = V.int i from r2], f _ G2 H2 (s1.l.trans s2) d2 ⟨_, ⟨i, rfl, hR⟩, rfl⟩⟩
/-- a + e, e draws -/
theorem jr_addI {m : Int} (ha : J W S k a env (.int m)) (hb : JR W S k p q b env c1 fun d => ∃ i : Int, d = .int i ∧ R (.int i)) : JR W S k p q (.BinOp a .Add b pos) env c1 fun d => ∃ i : Int, d = .int (m + i) ∧ R (.int i) := fun σ G H N x E of dk hn Q f =>
  wE_of (fun X hX => pe_op op_add (pe_w hX a) (pe_w hX b)) (ha σ G H x E _ fun u G1 H1 s1 e1 => hb σ G1 H1 N s1.s (E.mono s1) of (dk.mono s1) hn _ fun v G2 H2 s2 d2 ⟨dd, ⟨i, ei, hR⟩, r2⟩ => by
    subst ei
    exact ⟨m, i, e1, r2, f _ G2 H2 (s1.l.trans s2) d2 ⟨_, ⟨i, rfl, hR⟩, rfl⟩⟩)
end
end TH
set_option maxHeartbeats 4000000
namespace TH
open PySem PySem.Spec PyProof.Rows L2
section
variable {W : Gx} {S : Sc} {k : Nat} {G0 H0 G H : Hp} {env : List Sl} {σ : L2.St} {D' : Ends} {rest : List Stmt} {e a b c tg : Expr} {pos pos' p p1 p2 : Pos} {x y : Str} {i j : Nat} {d d' : D}
/-- a loop: Iv i env Hb is true, ahead of turn i, of the slots and of the base heap, whose contents may change -/
theorem ws_forX {body : List Stmt} {items : List D} {t : Tg} (Iv : Nat → List Sl → Hp → Prop) (A : At W G0 H0 env σ G H) (nd : S.N.Nodup) (hi : JI W S k tg e env items) (ht : TgE S tg t) (hfit : ∀ d ∈ items, t.fits d) (i0 : Iv 0 env H0)
    (hb : ∀ (Gb Hb : Hp) n d env' σ' G' H' (nx : L2.St → Hp → Prop), (∀ a, H0 a ≠ none → G0 a = none → Gb a = none) → items[n]? = some d → Dom H0 Hb → Iv n env' Hb → At W Gb Hb (bnd t d env') σ' G' H' → (∀ Hc env2 σ2 G2 H2, Dom H0 Hc → Iv (n + 1) env2 Hc → At W Gb Hc env2 σ2 G2 H2 → nx σ2 H2) → wSs W S k body { D' with nx := nx, ct := nx, bk := wSs W S k rest D' } σ' H')
    (next : ∀ Hb env' σ' G' H', Dom H0 Hb → Iv items.length env' Hb → At W G0 Hb env' σ' G' H' → wSs W S k rest D' σ' H') (hs : ∀ (env : Env) x, foldedSetIterable e env x = pure x := by intro _ _; rfl)
     : wSs W S k (.For tg e body [] pos :: rest) D' σ H :=
  wSs_cons (wS_X (fun X hX => (ps_for (X := X.nox) PassesOwn.never hX.calm (pi_w (show CC W S k X.nox from ⟨hX.P, hX.w, hX.K, hX.mg, hX.base, hX.N, hX.sc, hX.fb, hX.calm, hX.room⟩) tg e) (pg_tg (show CC W S k X.nox from ⟨hX.P, hX.w, hX.K, hX.mg, hX.base, hX.N, hX.sc, hX.fb, hX.calm, hX.room⟩) nd ht) (pss_w (show CC W S k X.nox from ⟨hX.P, hX.w, hX.K, hX.mg, hX.base, hX.N, hX.sc, hX.fb, hX.calm, hX.room⟩) body) (hs X.env)) |> fun h => ⟨fun pins s σ H D I q => wpAny_mono (h.run pins s σ H D (I.wish _) q) (fun f s' z => z.unwish) fun _ _ z => z.elim⟩) fun X hX =>
    hi σ G H A.s.s A.e _ fun I G1 H1 s1 ok => by
      have A1 := A.mono s1
      refine ⟨fun n m σ' H' => n + m = items.length ∧ ∃ env' G' Hb, Dom H0 Hb ∧ Iv n env' Hb ∧ At W G1 Hb env' σ' G' H', ⟨items.length, Nat.zero_add _, env, G1, H0, fun _ => Iff.rfl, i0, A1.rebase⟩, fun n m σ' H' hw => ?_⟩
      obtain ⟨hm, env', G', Hb, db, iv, A'⟩ := hw
      have g' := A'.s.g
      by_cases hlt : n < items.length
      · refine .inr ⟨ok.go n G' H' hlt g' A'.s.s, fun σ2 H2 => ∃ env2 G2 Hc, Dom H0 Hc ∧ Iv (n + 1) env2 Hc ∧ At W G1 Hc env2 σ2 G2 H2, fun σ2 H2 ⟨env2, G2, Hc, dc, ic, A2⟩ => ⟨m - 1, by omega, by omega, env2, G2, Hc, dc, ic, A2⟩, fun v H2 hy => ?_⟩
        obtain ⟨dt, hdt⟩ : ∃ d, items[n]? = some d := ⟨_, List.getElem?_eq_getElem hlt⟩
        obtain ⟨G2, s2, r2⟩ := ok.yld n dt G' H' v H2 hdt g' A'.s.s hy
        have fit := hfit dt (List.mem_of_getElem? hdt)
        have A2 := A'.mono s2
        have A3 : ∀ (σ3 : L2.St), EnvR W.K G2 H2 σ3 (bnd t dt env') → (∀ i, i ∉ t.ix → σ3[i]? = σ'[i]?) → At W G1 Hb (bnd t dt env') σ3 G2 H2 := fun σ3 E3 hsame => by
          have key : ∀ (j : Nat) (ds : List D), (bnd t dt env')[j]? = some (.own ds) → env'[j]? = some (.own ds) ∧ j ∉ t.ix := fun j ds hj => by
            cases t with
            | one i =>
              rcases get_set hj with ⟨_, q⟩ | ⟨ne, q⟩
              · cases q
              · exact ⟨q, fun z => ne (List.mem_singleton.mp z).symm⟩
            | two i i' =>
              obtain ⟨a, b, rfl⟩ := fit
              rcases get_set hj with ⟨_, q⟩ | ⟨ne, q⟩
              · cases q
              · rcases get_set q with ⟨_, q2⟩ | ⟨ne2, q2⟩
                · cases q2
                · refine ⟨q2, fun z => ?_⟩
                  rcases List.mem_cons.mp z with z | z
                  · exact ne2 z.symm
                  · exact ne (List.mem_singleton.mp z).symm
          refine ⟨A2.s, E3, fun j ds q h1 h2 => ?_, fun j j' ds es q h1 h2 h3 h4 => ?_⟩
          · obtain ⟨k1, k2⟩ := key j ds h1
            rw [hsame j k2] at h2
            exact A2.fresh j ds q k1 h2
          · obtain ⟨k1, k2⟩ := key j ds h1
            obtain ⟨k3, k4⟩ := key j' es h2
            rw [hsame j k2] at h3
            rw [hsame j' k4] at h4
            exact A2.dis j j' ds es q k1 k3 h3 h4
        refine gTg_run A2.s.s A2.e r2 fit fun σ3 E3 hsame _ => ?_
        exact hb G1 Hb n dt env' σ3 G2 H2 _ (fun a h1 h2 => A1.s.o a h1 h2) hdt db iv (A3 σ3 E3 hsame) fun Hc env4 σ4 G4 H4 dc ic A4 => ⟨env4, G4, Hc, dc, ic, A4⟩
      · have en : n = items.length := by omega
        subst en
        exact .inl ⟨ok.stop G' H' g' A'.s.s, next Hb env' σ' G' H' db iv (A'.unbaseB A1.s db)⟩)
end
section
variable {W : Gx} {S : Sc} {k : Nat} {p q : Addr} {G0 Hb G H : Hp} {env : List Sl} {σ : L2.St} {D' : Ends} {rest : List Stmt} {e : Expr} {pos pos' p1 : Pos} {x : Str} {i : Nat} {R : D → Prop} {N c : Nat}
/-- xs.append(e), e draws -/
theorem wsd_append {ds : List D} {apos cpos : Pos} (A : At W G0 Hb env σ G H) (dk : Deck G0 Hb p q N) (hi : env[i]? = some (.own ds)) (hN : S.N[i]? = some x) (hv : VisS S x) (he : JR W S k p q e env c R) (hc : N + c ≤ 1000000) (hl : ds.length < 100000) (next : ∀ Hb' d σ' G' H', R d → BaseL p q Hb Hb' → At W G0 Hb' (env.set i (.own (ds ++ [d]))) σ' G' H' → Deck G0 Hb' p q (N + c) → wSs W S k rest D' σ' H') (hp : Plain e := by intro _ _; rfl)
    (hd : (x == ("__debug__" : Str)) = false := by decide) (hcd : (x == ("__classdict__" : Str)) = false := by decide) (hline : (apos.endLine == cpos.line) = true := by rfl)
    (hsw : ∀ env : Env, swapsWith (.Call (.Attribute (.Name x p1) "append" apos) [e] [] cpos) none pos.line env = pure false := by intro _; rfl) : wSs W S k (.Expr (.Call (.Attribute (.Name x p1) "append" apos) [e] [] cpos) pos :: rest) D' σ H := by
  refine wSs_cons (wS_X (fun X hX => ps_expr (pe_bm PySem.F.plainAttrs_list PySem.F.slot_list_append PySem.F.type_list_append mt_append (pe_var (i := i) (by rw [hX.N]; exact hN) (by rw [hX.sc]; exact hv) hd hcd) (pa_cons (pe_w hX e) pa_nil (hp [] X.env)) rfl (by rw [hp [] X.env]; rfl) hline (hp [] X.env) rfl) (hsw X.env)) fun X hX => ?_)
  obtain ⟨o, e1, a, vs, e2, h1, h2, r⟩ := A.e.get hi
  subst e2
  refine ⟨.ref a, e1, .inl ⟨rfl, vs, .of h1⟩, he σ G H N A.s.s A.e (A.off dk) (A.deck dk) hc _ fun v G1 H1 s1 d1 ⟨dd, hR, r1⟩ => ?_⟩
  obtain ⟨n1, n2⟩ := A.off dk i ds a hi e1
  obtain ⟨Hb', bl, A1, dk1⟩ := A.draw dk s1 d1
  have h1' := s1.h _ _ n1 n2 h1
  have g1' : G1 a = none := s1.o a (by rw [h1]; exact fun z => nomatch z) h2
  exact ⟨a, vs, v, rfl, rfl, h1', szlt (by rw [r.length]; exact hl), next Hb' dd _ G1 _ hR bl (A1.mutO hi e1 g1' ((r.mono s1.g).append (.one r1))) dk1⟩
/-- e > m, e draws -/
theorem jdt_gt {a b : Expr} {m : Int} (ha : JR W S k p q a env c fun d => ∃ i : Int, d = .int i) (hb : J W S k b env (.int m)) (hm : behindInMarks .Gt b = false := by first | exact nomark _ | rfl) : JDT W S k p q (.Compare a [.Gt] [b] pos) env c fun _ => True := fun σ G H N x E of dk hn Q f =>
  wT.mk fun X hX pins s I => (pt_cmpR (pos := pos) op_gt (pe_w hX a) (pe_w hX b) hm).run pins s σ H Q I (ha σ G H N x E of dk hn _ fun u G1 H1 s1 d1 ⟨dd, ⟨i, ei⟩, r1⟩ => by
    subst ei
    exact hb σ G1 H1 s1.s (E.monoL of s1) _ fun v G2 H2 s2 r2 => ⟨i, m, r1, r2, _, rfl, f _ G2 H2 (s1.trans s2.l) (d1.mono s2) trivial⟩)
theorem JDT.imp {R R' : Bool → Prop} (h : JDT W S k p q e env c R) (hr : ∀ b, R b → R' b) : JDT W S k p q e env c R' := fun σ G H N x E of dk hn Q f => h σ G H N x E of dk hn Q fun b G' H' s d r => f b G' H' s d (hr b r)
end
end TH
set_option maxHeartbeats 4000000
namespace TH
open PySem PySem.Spec PyProof.Rows L2
def f_world_pre (ds : List D) : Prop := ∃ t : Nat, ds = [.int (t : Int)] ∧ t ≤ 4
def f_world (ds : List D) (d : D) : Prop := ∃ (x : Tl) (n : Nat), n ≤ 4 ∧ WT n x ∧ WB 4 x ∧ Al x.z ∧ IsW x d
theorem mk_wt {z : Str} (al : Al z) {n : Nat} (hn : n ≤ 4) {st en : List Int} {ts : List (List (List Int))} (h1 : st.length = n) (h2 : en.length = n) (h3 : ts.length = z.cps.toList.length) (h4 : ∀ t ∈ ts, TM.Sq n t) : WT n ⟨z, st, ts, en⟩ := ⟨(al_dg al).1, (al_dg al).2, h1, h2, h3, h4, by omega⟩
theorem cutD_init (es : List D) : cutD es none (some (-1)) = es.dropLast := by
  unfold cutD
  show ((es.drop 0).take (HT.sIx es.length es.length (some (-1)) - 0)) = _
  rw [List.drop_zero, Nat.sub_zero, List.dropLast_eq_take]
  congr 1
  unfold HT.sIx
  show (if (-1 : Int) < 0 then ((-1 : Int) + (es.length : Int)).toNat else _) = _
  rw [if_pos (by decide)]
  omega
theorem ints_inj : ∀ {l m : List Int}, l.map D.int = m.map D.int → l = m
  | [], [], _ => rfl
  | [], _ :: _, h => by cases h
  | _ :: _, [], h => by cases h
  | a :: l, b :: m, h => by
    rw [List.map_cons, List.map_cons] at h
    have h1 := List.head_eq_of_cons_eq h
    injection h1 with h1
    rw [h1, ints_inj (List.tail_eq_of_cons_eq h)]
theorem lots_new : (Sum.inr "lots" : Key) ∉ ([.inr "signs", .inr "begin", .inr "last"] : List Key) := fun h => by
  rcases List.mem_cons.mp h with h | h
  · exact absurd (Sum.inr.inj h) (by decide)
  rcases List.mem_cons.mp h with h | h
  · exact absurd (Sum.inr.inj h) (by decide)
  rcases List.mem_cons.mp h with h | h
  · exact absurd (Sum.inr.inj h) (by decide)
  · cases h
theorem Stp.under {G0 Hb G2 H2 G' H' : Hp} (a : Stp G0 Hb G2 H2) (b : Stp G2 Hb G' H') : Stp G0 Hb G' H' := ⟨a.g.trans b.g, b.h, b.s, fun x h1 h2 => b.o x h1 (a.o x h1 h2)⟩
theorem bd9 {b : Nat} {l : List Int} (h : ∀ v ∈ l, v.natAbs < 16) (hb : 4 ≤ b := by decide) : TM.Bd b l := fun v hv => Nat.lt_of_lt_of_le (h v hv) (show 2 ^ 4 ≤ 2 ^ b from Nat.pow_le_pow_right (by decide) hb)
theorem ok_law_world {W : Gx} (T : Tx W) : OkD W 4 "_law_world" 1 500 f_world_pre f_world := by
  have mt := T.m_tuple
  have mr := T.m_range
  have ml := T.m_len
  have mm := T.m_min
  refine okD_of T 52 52 (x := "_law_world") (d := d_law_world) (N := N_law_world) (ps := ["_law_deck_here", "_law_top"]) (k := 3) (n := 1) rfl rfl rfl rfl rfl sc_law_world rfl (fun _ _ _ _ _ _ us hl => match us, hl with | [_, _], _ => rfl) fun ds p q G0 H0 M σ D' hpre hn dk hM A fin => ?_
  obtain ⟨top, rfl, ht4⟩ := hpre
  -- signs, way
  refine wsd_tup2 (R := fun d => ∃ z, Al z ∧ d = .str z) (R2 := fun d => ∃ r : Nat, d = .int (r : Int) ∧ r < 8) (c1 := 1) (c2 := 1) A dk sc_law_world.nd (sn 2) (sn 3) (by decide) (JR.imp (jr_call (ok_law_pick T) (ja_cons (JN.lst (jn_lst (ja_cons j_str (ja_cons j_str (ja_cons j_str (ja_cons j_str (ja_cons j_str ja_nil))))))) ja_nil) (.inl ⟨_, rfl, by decide, by decide⟩)) ?_) (JR.imp (jr_call (ok_law_draw T) (ja_cons (j_int (i := 8)) ja_nil) ⟨8, rfl, by decide, by decide⟩) ?_) (by omega) fun Hb1 d1 d2 σ1 G1 H1 hR1 hR2 bl1 A1 dk1 => ?_
  · intro d hd
    have := pick_lst hd
    simp only [List.mem_cons, List.not_mem_nil, or_false] at this
    rcases this with rfl | rfl | rfl | rfl | rfl
    · exact ⟨_, .inl rfl, rfl⟩
    · exact ⟨_, .inl rfl, rfl⟩
    · exact ⟨_, .inr (.inl rfl), rfl⟩
    · exact ⟨_, .inr (.inr (.inl rfl)), rfl⟩
    · exact ⟨_, .inr (.inr (.inr rfl)), rfl⟩
  · rintro d ⟨n, r, e, rfl, hr⟩
    have := List.head_eq_of_cons_eq e
    injection this with this
    exact ⟨r, rfl, by omega⟩
  obtain ⟨z, al, rfl⟩ := hR1
  obtain ⟨way, rfl, hw8⟩ := hR2
  obtain ⟨l1, l3⟩ := al3 al
  have zl : z.length = z.cps.toList.length := rfl
  -- the dict
  refine ws_setK (kds := [("signs", .str z), ("begin", rowD [1, 0]), ("last", rowD [0, 1])]) A1 sc_law_world.nd (sn 4) (jkn_disp (jps_cons (jv 2) (jps_cons (j_tup (ja_cons j_int (ja_cons j_int ja_nil))) (jps_cons (j_tup (ja_cons j_int (ja_cons j_int ja_nil))) jps_nil))) (nd := by show ([.inr "signs", .inr "begin", .inr "last"] : List Key).Nodup; decide)) fun r us σ2 G2 H2 hr0 hrg hrh rr A2 => ?_
  obtain ⟨v1, _, rfl, r1, v2, _, rfl, r2, v3, us3, rfl, r3, e3⟩ := rr
  have e3' : us3 = [] := e3
  subst e3'
  have g0r : G0 r = none := A2.s.g.none hrg
  have A3 := (A2.growR hr0 hrg hrh (noOwn_ok rfl)).rebase
  have hkv : ∀ v : V, (((([("signs", .str z), ("begin", rowD [1, 0]), ("last", rowD [0, 1])] : List (Str × D)).map fun x => (Sum.inr x.1 : Key)).zip [v1, v2, v3]) ++ [((Sum.inr "lots" : Key), v)]) = [(.inr "signs", v1), (.inr "begin", v2), (.inr "last", v3), (.inr "lots", v)] := fun v => rfl
  -- a world of known shape comes back
  have done : ∀ (ts : List (List (List Int))) (v : V) (env : List Sl) (σ : L2.St) (G H : Hp) (rest : List Stmt) (pos p1 : Pos), ts.length = z.cps.toList.length → (∀ t ∈ ts, TM.Sq 2 t) → (∀ t ∈ ts, TM.BdT 4 t) → Rep W.K G (tabsD ts) v → env[4]? = some (.raw (.ref r)) → At W G2 (upd Hb1 r (.dK [(.inr "signs", v1), (.inr "begin", v2), (.inr "last", v3), (.inr "lots", v)])) env σ G H → ∀ D2 : Ends, (∀ v H, D2.rt v H = D'.rt v H) → wSs W (defS N_law_world (defScope s_law_world)) 3 (.Return (some (.Name "_law_w" p1)) pos :: rest) D2 σ H := fun ts v env σ G H rest pos p1 h1 h2 h3 rv he A D2 hD => by
    have eg := A.s.g
    refine ws_retB (kds := [(.inr "signs", .str z), (.inr "begin", rowD [1, 0]), (.inr "last", rowD [0, 1]), (.inr "lots", tabsD ts)]) A 4 hr0 hrg ⟨v1, _, rfl, r1.mono eg, v2, _, rfl, r2.mono eg, v3, _, rfl, r3.mono eg, v, [], rfl, rv, rfl⟩ (fun u G' H' s ru => ?_) he
    have s' := A2.s.under s
    rw [hD]
    exact fin.rt _ u G' H' (bl1.stp s') ((dk1.mono s').le (by omega)) ⟨⟨z, [1, 0], ts, [0, 1]⟩, 2, by decide, mk_wt al (by decide) rfl rfl h1 h2, ⟨by intro x hx; simp at hx; rcases hx with rfl | rfl <;> decide, by intro x hx; simp at hx; rcases hx with rfl | rfl <;> decide, h3⟩, al, .inl rfl⟩ ru
  refine ws_if A3 (jt_cmp c_ltI (jv 3) j_int) (fun h G4 H4 A4 => ?_) fun h G4 H4 A4 => ws_nil ?_
  · have hw2 : way < 2 := by
      have := of_decide_eq_true h
      omega
    refine ws_dputB (d := tabsD ((List.range z.cps.toList.length).map fun (k : Nat) => [[1, (k : Int)], [0, 1 + (way : Int)]])) A4 4 hrg (J.is (j_tupleL (JN.l (JLc.n (jc1 12 sc_law_world.nd (ji_range1 (n := z.cps.toList.length) (j_lenS (jv 2) (by omega)) (by omega)) (f := fun (k : Nat) => tabD [[1, (k : Int)], [0, 1 + (way : Int)]]) (fun k hk => ?_) ?_)))) ?_) (by show 3 < 1000; decide) lots_new fun v G5 H5 A5 rv => ?_
    · exact j_tup (ja_cons (j_tup (ja_cons j_int (ja_cons (jv 12) ja_nil)) (by show 2 ≤ 100000; decide)) (ja_cons (j_tup (ja_cons j_int (ja_cons (j_add j_int (jv 3)) ja_nil)) (by show 2 ≤ 100000; decide)) ja_nil)) (by show 2 ≤ 100000; decide)
    · rw [List.length_range]
      omega
    · unfold tabsD
      rw [List.map_map]
      rfl
    · rw [hkv] at A5
      refine done _ v _ _ G5 H5 [] _ _ (by rw [List.length_map, List.length_range]) (fun t ht => ?_) (fun t ht => ?_) rv rfl A5 _ (fun _ _ => rfl)
      · obtain ⟨k, _, rfl⟩ := List.mem_map.mp ht
        exact ⟨rfl, fun r hr => by simp at hr; rcases hr with rfl | rfl <;> rfl⟩
      · obtain ⟨k, hk, rfl⟩ := List.mem_map.mp ht
        have := List.mem_range.mp hk
        intro r hr
        simp at hr
        rcases hr with rfl | rfl
        · refine bd9 fun v hv => ?_
          simp at hv
          rcases hv with rfl | rfl
          · decide
          · omega
        · refine bd9 fun v hv => ?_
          simp at hv
          rcases hv with rfl | rfl
          · decide
          · omega
  have hw2 : 2 ≤ way := by
    have := of_decide_eq_false h
    omega
  refine ws_if A4 (jt_cmp c_eqI (jv 3) j_int) (fun h2 G5 H5 A5 => ?_) fun h2 G5 H5 A5 => ws_nil ?_
  · obtain ⟨tl, htl, htl1, htl2⟩ : ∃ tl : List (List (List Int)), tl = (if 1 < z.cps.toList.length then [[[1, 0], [0, 1]], [[0, 1], [1, 0]]] else [[[0, 1], [1, 0]]]) ∧ 1 ≤ tl.length ∧ ∀ t ∈ tl, TM.Sq 2 t ∧ TM.BdT 4 t := by
      refine ⟨_, rfl, ?_, fun t ht => ?_⟩
      · split <;> decide
      · have : t = [[1, 0], [0, 1]] ∨ t = [[0, 1], [1, 0]] := by
          split at ht
          · simpa using ht
          · exact .inr (by simpa using ht)
        rcases this with rfl | rfl
        · exact ⟨⟨rfl, by decide⟩, by unfold TM.BdT TM.Bd; decide⟩
        · exact ⟨⟨rfl, by decide⟩, by unfold TM.BdT TM.Bd; decide⟩
    have htl3 : tl.length ≤ 2 := by rw [htl]; split <;> decide
    refine ws_set (d := .lst (tl.map tabD)) A5 sc_law_world.nd (sn 5) (j_if (r := decide (1 < z.cps.toList.length)) (JT.is (jt_cmp c_gtI (j_lenS (jv 2) (by omega)) j_int) (decide_eq_decide.mpr (by omega))) (fun hr => ?_) fun hr => ?_) fun σ6 G6 H6 A6 => ?_
    · rw [htl, if_pos (of_decide_eq_true hr)]
      exact JN.lst (jn_lst (ja_cons (j_tup (ja_cons (j_tup (ja_cons j_int (ja_cons j_int ja_nil))) (ja_cons (j_tup (ja_cons j_int (ja_cons j_int ja_nil))) ja_nil))) (ja_cons (j_tup (ja_cons (j_tup (ja_cons j_int (ja_cons j_int ja_nil))) (ja_cons (j_tup (ja_cons j_int (ja_cons j_int ja_nil))) ja_nil))) ja_nil)))
    · rw [htl, if_neg (of_decide_eq_false hr)]
      exact JN.lst (jn_lst (ja_cons (j_tup (ja_cons (j_tup (ja_cons j_int (ja_cons j_int ja_nil))) (ja_cons (j_tup (ja_cons j_int (ja_cons j_int ja_nil))) ja_nil))) ja_nil))
    have hml : (tl.map tabD).length = tl.length := List.length_map ..
    have hidx : ∀ k : Nat, ((k : Int) % ((tl.map tabD).length : Int)) = ((k % tl.length : Nat) : Int) ∧ k % tl.length < tl.length := fun k => ⟨by rw [hml]; omega, Nat.mod_lt _ (by omega)⟩
    refine ws_dputB (d := tabsD ((List.range z.cps.toList.length).map fun (k : Nat) => tl.getD (k % tl.length) [])) A6 4 hrg (J.is (j_tupleL (JN.l (JLc.n (jc1 12 sc_law_world.nd (ji_range1 (n := z.cps.toList.length) (j_lenS (jv 2) (by omega)) (by omega)) (f := fun (k : Nat) => tabD (tl.getD (k % tl.length) [])) (fun k hk => ?_) ?_)))) ?_) (by show 3 < 1000; decide) lots_new fun v G7 H7 A7 rv => ?_
    · refine j_ixL (jv 5).l (j_mod (jv 12) (j_lenL (jv 5).l) (by rw [hml]; omega)) ?_
      rw [(hidx k).1]
      refine atI_nat ?_
      rw [List.getElem?_map, List.getElem?_eq_getElem (hidx k).2, TM.getD_at (hidx k).2]
      rfl
    · rw [List.length_range]
      omega
    · unfold tabsD
      rw [List.map_map]
      rfl
    · rw [hkv] at A7
      refine done _ v _ _ G7 H7 [] _ _ (by rw [List.length_map, List.length_range]) (fun t ht => ?_) (fun t ht => ?_) rv rfl A7 _ (fun _ _ => rfl)
      · obtain ⟨k, _, rfl⟩ := List.mem_map.mp ht
        rw [TM.getD_at (hidx k).2]
        exact (htl2 _ (List.getElem_mem _)).1
      · obtain ⟨k, hk, rfl⟩ := List.mem_map.mp ht
        rw [TM.getD_at (hidx k).2]
        exact (htl2 _ (List.getElem_mem _)).2
  clear done
  have A6 := (A5.shrink hr0).unbase A2.s
  refine wsd_tup2O (R := fun d => ∃ n : Nat, d = .int (n : Int) ∧ n ≤ 4) (c1 := 1) A6 dk1 sc_law_world.nd (sn 6) (sn 7) (by decide) (JR.imp (jr_min (R := fun d => ∃ r : Nat, d = .int (r : Int)) (jv 1) (JR.imp (jr_call (ok_law_draw T) (ja_cons (j_add (j_mul j_int (jv 1) (.inl (by decide))) j_int) ja_nil) ⟨2 * top + 1, by congr 2, by omega, by omega⟩) ?_)) ?_) (jn_lst ja_nil) (by omega) fun Hb2 d3 σ7 G7 H7 hR3 bl7 A7 dk7 => ?_
  · rintro d ⟨n, r, e, rfl, hr⟩
    exact ⟨r, rfl, r, rfl⟩
  · rintro d ⟨i, rfl, r, hr⟩
    injection hr with hr
    subst hr
    by_cases h3 : (r : Int) < (top : Int)
    · rw [if_pos h3]
      exact ⟨r, rfl, by omega⟩
    · rw [if_neg h3]
      exact ⟨top, rfl, ht4⟩
  obtain ⟨n, rfl, hn4⟩ := hR3
  refine wsd_set (R := fun d => ∃ ns : List Int, d = .lst (ns.map D.int) ∧ 1 ≤ ns.length ∧ ns.length < 1000 ∧ ∀ v ∈ ns, v.natAbs < 16) (c := 1) A7 dk7 sc_law_world.nd (sn 8) (JR.imp (jr_call (ok_law_pick T) (ja_cons (JN.lst (jn_lst (ja_cons (JN.lst (jn_lst (ja_cons j_int (ja_cons j_int (ja_cons j_int ja_nil))))) (ja_cons (JN.lst (jn_lst (ja_cons j_int (ja_cons j_int (ja_cons j_int (ja_cons j_int ja_nil)))))) (ja_cons (JN.lst (jn_lst (ja_cons j_int (ja_cons j_int (ja_cons j_int (ja_cons (j_neg j_int) ja_nil)))))) (ja_cons (JN.lst (jn_lst (ja_cons j_int (ja_cons j_int (ja_cons j_int (ja_cons (j_neg j_int) (ja_cons j_int (ja_cons (j_neg j_int) ja_nil)))))))) ja_nil)))))) ja_nil) (.inl ⟨_, rfl, by decide, by decide⟩)) ?_) (by omega) fun Hb3 d4 σ8 G8 H8 hR4 bl8 A8 dk8 => ?_
  · intro d hd
    have := pick_lst hd
    simp only [List.mem_cons, List.not_mem_nil, or_false] at this
    rcases this with rfl | rfl | rfl | rfl
    · exact ⟨[0, 0, 1], rfl, by decide, by decide, by decide⟩
    · exact ⟨[0, 1, 1, 2], rfl, by decide, by decide, by decide⟩
    · exact ⟨[0, 0, 1, -1], rfl, by decide, by decide, by decide⟩
    · exact ⟨[0, 1, 2, -2, 9, -9], rfl, by decide, by decide, by decide⟩
  obtain ⟨ns, rfl, hns1, hns2, hns3⟩ := hR4
  have rowR : ∀ d, f_line [.int (n : Int), .lst (ns.map D.int)] d → ∃ row : List Int, d = rowD row ∧ row.length = n ∧ ∀ v ∈ row, v.natAbs < 16 := by
    rintro d ⟨n', ns', row, e, rfl, hl, hv⟩
    have e1 := List.head_eq_of_cons_eq e
    injection e1 with e1
    have e2 := List.head_eq_of_cons_eq (List.tail_eq_of_cons_eq e)
    injection e2 with e2
    have e3 : ns = ns' := ints_inj e2
    exact ⟨row, rfl, by omega, fun v hv' => hns3 v (by rw [e3]; exact hv v hv')⟩
  refine ws_forX (items := z.cps.toList.map sgn) (t := .one 9) (fun i env' Hb => ∃ ts : List (List (List Int)), ts.length = i ∧ (∀ t ∈ ts, TM.Sq n t ∧ TM.BdT 4 t) ∧ env' = [.raw (.ref p), .d (.int (top : Int)), .d (.str z), .d (.int (way : Int)), .raw (.ref r), .no, .d (.int (n : Int)), .own (ts.map tabD), .d (.lst (ns.map D.int)), .no, .no, .no, .no] ∧ BaseL p q Hb3 Hb ∧ Deck (fun _ => none) Hb p q (M + 4 + i * 40)) A8 sc_law_world.nd (ji_str (jv 2)) (.one (sn 9)) (fun _ _ => trivial) ⟨[], rfl, (fun t ht => by cases ht), rfl, .refl _ _ _, ⟨dk8.ne, rfl, rfl, (dk8.le (by omega)).ex⟩⟩ (fun Gb Hb i dd env' σ9 G9 H9 nx hGb hd hdom hIv A9 hnx => ?_) fun Hb4 env' σ9 G9 H9 hdom hIv A9 => ?_
  · obtain ⟨ts, hts, hsq, rfl, bl9, dk9⟩ := hIv
    have hil : i < z.cps.toList.length := by
      have := (List.getElem?_eq_some_iff.mp hd).1
      rw [List.length_map] at this
      exact this
    have dk9' : Deck Gb Hb p q (M + 4 + i * 40) := ⟨dk9.ne, hGb p dk8.hp dk8.gp, hGb q dk8.hq dk8.gq, dk9.ex⟩
    refine wsd_append (i := 7) (c := 40) (R := fun d => ∃ t : List (List Int), d = tabD t ∧ TM.Sq n t ∧ TM.BdT 4 t) A9 dk9' rfl rfl (.inl rfl) (JR.le (c := 0 + 4 * 10) (JR.imp (jr_tupleN (jrn1 (L := 4) (c := 10) (R := fun d => ∃ row : List Int, d = rowD row ∧ row.length = n ∧ ∀ v ∈ row, v.natAbs < 16) 12 sc_law_world.nd (ji_range1 (n := n) (jv 6) (by omega)).dr (fun items e => ?_) (by decide) (fun items e d hd => JR.imp (jr_call (ok_law_line T) (ja_cons (jv 6) (ja_cons (jv 8) ja_nil)) ⟨n, ns, rfl, by omega, hns1, hns2⟩) rowR))) ?_) (by decide)) (by omega) (by rw [List.length_map]; omega) fun Hb5 d5 σ10 G10 H10 hR5 bl10 A10 dk10 => ?_
    · rw [e, List.length_map, List.length_range]
      exact hn4
    · rintro d ⟨ds, rfl, ⟨items, rfl, hl⟩, hall⟩
      rw [List.length_map, List.length_range] at hl
      have rows : ∀ ds : List D, (∀ d ∈ ds, ∃ row : List Int, d = rowD row ∧ row.length = n ∧ ∀ v ∈ row, v.natAbs < 16) → ∃ t : List (List Int), ds = t.map rowD ∧ (∀ r ∈ t, r.length = n) ∧ TM.BdT 4 t := fun ds => by
        induction ds with
        | nil => exact fun _ => ⟨[], rfl, (fun r hr => by cases hr), (fun r hr => by cases hr)⟩
        | cons d ds ih =>
          intro h
          obtain ⟨row, e1, e2, e3⟩ := h d List.mem_cons_self
          obtain ⟨t, f1, f2, f3⟩ := ih fun x hx => h x (List.mem_cons_of_mem _ hx)
          refine ⟨row :: t, by rw [e1, f1]; rfl, fun r hr => ?_, fun r hr => ?_⟩
          · rcases List.mem_cons.mp hr with rfl | hr
            · exact e2
            · exact f2 r hr
          · rcases List.mem_cons.mp hr with rfl | hr
            · exact bd9 e3
            · exact f3 r hr
      obtain ⟨t, rfl, f2, f3⟩ := rows ds hall
      rw [List.length_map] at hl
      exact ⟨t, rfl, ⟨hl, f2⟩, f3⟩
    · obtain ⟨t, rfl, hs1, hs2⟩ := hR5
      refine ws_nil (hnx Hb5 [.raw (.ref p), .d (.int (top : Int)), .d (.str z), .d (.int (way : Int)), .raw (.ref r), .no, .d (.int (n : Int)), .own ((ts ++ [t]).map tabD), .d (.lst (ns.map D.int)), .no, .no, .no, .no] σ10 G10 H10 (hdom.trans bl10.dom) ⟨ts ++ [t], by rw [List.length_append, hts]; rfl, fun t' ht' => ?_, rfl, bl9.trans bl10, ⟨dk10.ne, rfl, rfl, (dk10.le (by omega)).ex⟩⟩ (At.le (env := [.raw (.ref p), .d (.int (top : Int)), .d (.str z), .d (.int (way : Int)), .raw (.ref r), .no, .d (.int (n : Int)), .own (ts.map tabD ++ [tabD t]), .d (.lst (ns.map D.int)), .d dd, .no, .no, .no]) A10 ?_))
      · rcases List.mem_append.mp ht' with h | h
        · exact hsq t' h
        · rw [List.mem_singleton.mp h]
          exact ⟨hs1, hs2⟩
      · rw [List.map_append]
        exact .cons (.cons (.cons (.cons (.cons (.cons (.cons (.cons (.cons (.no (.cons (.cons (.cons .nil))))))))))))
  obtain ⟨ts, hts, hsq, rfl, bl9, dk9⟩ := hIv
  rw [List.length_map] at hts
  have dk9' : Deck G0 Hb4 p q (M + 4 + 3 * 40) := ⟨dk9.ne, dk8.gp, dk8.gq, (dk9.le (by rw [List.length_map]; omega)).ex⟩
  have bl4 : BaseL p q H0 Hb4 := ((bl1.trans bl7).trans bl8).trans bl9
  obtain ⟨G9', A9'⟩ := A9.freeze (i := 7) rfl
  refine wsd_par2 (i := 10) (j := 11) (c1 := 10) (c2 := 10) A9' dk9' sc_law_world.nd rfl rfl rfl rfl (by decide) (JR.imp (jr_call (ok_law_line T) (ja_cons (jv 6) (ja_cons (jv 8) ja_nil)) ⟨n, ns, rfl, by omega, hns1, hns2⟩) rowR) (JR.imp (jr_call (ok_law_line T) (ja_cons (jv 6) (ja_cons (jv 8) ja_nil)) ⟨n, ns, rfl, by omega, hns1, hns2⟩) rowR) (by omega) fun Hb6 d6 d7 σ11 G11 H11 hR6 hR7 bl11 A11 dk11 => ?_
  obtain ⟨st, rfl, st1, st2⟩ := hR6
  obtain ⟨en, rfl, en1, en2⟩ := hR7
  have bl6 : BaseL p q H0 Hb6 := bl4.trans bl11
  -- the end, from any rows
  have last : ∀ (Hb : Hp) (st en : List Int) (σ : L2.St) (G H : Hp), BaseL p q H0 Hb → Deck G0 Hb p q (M + 4 + 3 * 40 + (10 + 10) + 1) → st.length = n → en.length = n → (∀ v ∈ st, v.natAbs < 16) → (∀ v ∈ en, v.natAbs < 16) → At W G0 Hb [.raw (.ref p), .d (.int (top : Int)), .d (.str z), .d (.int (way : Int)), .raw (.ref r), .no, .d (.int (n : Int)), .d (.lst (ts.map tabD)), .d (.lst (ns.map D.int)), .no, .d (rowD st), .d (rowD en), .no] σ G H → wSs W (defS N_law_world (defScope s_law_world)) 3 ((defBody s_law_world).drop 9) D' σ H := fun Hb st en σ G H bl dk h1 h2 h3 h4 A => by
    refine ws_ret A (JKN.dic (jkn_disp (kds := [("signs", .str z), ("begin", rowD st), ("lots", tabsD ts), ("last", rowD en)]) (jps_cons (jv 2) (jps_cons (jv 10) (jps_cons (j_tupleL (jv 7).l) (jps_cons (jv 11) jps_nil)))) (nd := by show ([.inr "signs", .inr "begin", .inr "lots", .inr "last"] : List Key).Nodup; decide))) fun v G' H' s r1 => ?_
    exact fin.rt _ v G' H' (bl.stp s) ((dk.mono s).le (by omega)) ⟨⟨z, st, ts, en⟩, n, hn4, mk_wt al hn4 h1 h2 hts fun t ht => (hsq t ht).1, ⟨bd9 h3, bd9 h4, fun t ht => (hsq t ht).2⟩, al, .inr rfl⟩ r1
  refine wsd_if (c := 1) (R := fun b => b = true → 0 < n) A11 dk11 (jdt_and (r := decide (0 < n)) (JT.is (jt_cmp c_gtI (jv 6) j_int) (decide_eq_decide.mpr (by omega))) (fun hr => ?_) fun _ h => nomatch h) (by omega) fun b Hb7 G12 H12 hRb bl12 A12 dk12 => ?_
  · have h0 : 0 < n := of_decide_eq_true hr
    refine JDT.imp (jdt_gt (c := 1) (JR.imp (jr_call (ok_law_draw T) (ja_cons (j_int (i := 4)) ja_nil) ⟨4, rfl, by decide, by decide⟩) ?_) (j_int (i := 0))) fun b _ _ => h0
    rintro d ⟨n', r, e, rfl, hr'⟩
    exact ⟨_, rfl⟩
  have bl7 := bl6.trans bl12
  cases b with
  | true =>
    rw [if_pos rfl]
    have h0 := hRb rfl
    have c1 : (1 : Nat) + (cutD (st.map D.int) (some 1) none).length ≤ 100000 := by
      rw [cutD_drop1, List.length_drop, List.length_map]
      omega
    have c2 : (cutD (en.map D.int) none (some (-1))).length + 1 ≤ 100000 := by
      rw [cutD_init, List.length_dropLast, List.length_map]
      omega
    refine ws_par (i := 10) (j := 11) (d := rowD (1 :: st.tail)) (d' := rowD (en.dropLast ++ [1])) A12 sc_law_world.nd rfl rfl rfl rfl (by decide) (ja_cons (J.is (j_catT (j_tup (ja_cons j_int ja_nil)) (j_sliceT (jv 10) (jo_some j_int) jo_none) c1) ?_) (ja_cons (J.is (j_catT (j_sliceT (jv 11) jo_none (jo_some (j_neg j_int))) (j_tup (ja_cons j_int ja_nil)) c2) ?_) ja_nil)) fun σ13 G13 H13 A13 => ?_
    · rw [cutD_drop1, List.drop_one, ← List.map_tail]
      rfl
    · rw [cutD_init, ← List.map_dropLast]
      unfold rowD
      rw [List.map_append]
      rfl
    · refine ws_nil (last Hb7 (1 :: st.tail) (en.dropLast ++ [1]) σ13 G13 H13 bl7 dk12 ?_ ?_ (fun v hv => ?_) (fun v hv => ?_) A13)
      · rw [List.length_cons, List.length_tail]
        omega
      · rw [List.length_append, List.length_dropLast]
        show _ + 1 = _
        omega
      · rcases List.mem_cons.mp hv with rfl | hv
        · decide
        · exact st2 v (List.mem_of_mem_tail hv)
      · rcases List.mem_append.mp hv with hv | hv
        · exact en2 v ((List.dropLast_subset _ hv))
        · rw [List.mem_singleton.mp hv]
          decide
  | false =>
    rw [if_neg Bool.false_ne_true]
    exact ws_nil (last Hb7 st en σ11 G12 H12 bl7 dk12 st1 en1 st2 en2 A12)
end TH
set_option maxHeartbeats 4000000
namespace TH
open PySem PySem.Spec PyProof.Rows L2
/-- a tally of the law -/
structure LW (x : Tl) (n : Nat) : Prop where
  n4 : n ≤ 4
  w : WT n x
  wb : WB 4 x
  al : Al x.z
/-- a word over the digits of x, not long -/
structure Wo (x : Tl) (u : List Nat) : Prop where
  s : ∀ c ∈ u, c ∈ x.z.cps.toList
  l : u.length ≤ 8
theorem Wo.tk {x : Tl} {u : List Nat} (h : Wo x u) : Tk x.z (toS u) := ⟨h.s, Nat.lt_of_le_of_lt h.l (by decide)⟩
theorem Wo.take {x : Tl} {u : List Nat} (h : Wo x u) (i : Nat) : Wo x (u.take i) := ⟨fun c hc => h.s c (List.mem_of_mem_take hc), by rw [List.length_take]; have := h.l; omega⟩
theorem Wo.drop {x : Tl} {u : List Nat} (h : Wo x u) (i : Nat) : Wo x (u.drop i) := ⟨fun c hc => h.s c (List.mem_of_mem_drop hc), by rw [List.length_drop]; have := h.l; omega⟩
section
variable {W : Gx} {S : Sc} {k : Nat} {env : List Sl} {a b c e : Expr} {pos p p2 : Pos} {x : Tl} {n : Nat}
theorem jl_worth (T : Tx W) {m bb : Nat} {y : Tl} {u : List Nat} (w : WT m y) (wb : WB bb y) (hb : bb ≤ 200) (tk : Tk y.z (toS u)) {apos : Pos} (ha : J W S k a env (tlD W y)) (hp : J W S k b env (wD u)) (hk : 5 ≤ k := by decide) (he : Plain b := by intro _ _; rfl) (hpl : ∀ env : Env, (backTo pos (starEach [] env)).any (·.1) = false := by intro _; rfl)
    {pl : Env → Sem Bool} (ht : ∀ env : Env, eval (.Call (.Attribute a "worth" apos) [b] [] pos) env = (do
      let ov ← eval a env
      standAt apos.atName
      let (f, first) ← holding [ov] (getMethod ov "worth" (pl env))
      callWith pos f first (backTo pos (starEach [b] env)) (backToKw pos (keywordEach [] env))) := by intro _; rfl) : J W S k (.Call (.Attribute a "worth" apos) [b] [] pos) env (.int (y.worth u)) :=
  j_meth (ok_Tally_worth T) (fs := tlF y) ha (ja_cons hp ja_nil he) ⟨y, m, bb, toS u, w, wb, hb, tk, rfl, rfl⟩ rfl hk rfl he hpl ht
theorem jl_piece (T : Tx W) (L : LW x n) {u : List Nat} (hu : Wo x u) (ha : J W S k a env (tlD W x)) (hp : J W S k b env (wD u)) (hk : 5 ≤ k := by decide) (hg : GlS S "Piece" := by exact rfl) (hpa : Plain a := by intro _ _; rfl) (hpb : Plain b := by intro _ _; rfl) : J W S k (.Call (.Name "Piece" p) [a, b] [] pos) env (pcD W x (x.tabW u) (toS u)) :=
  JO1.j (jo_make (oki_Piece T) (ja_cons ha (ja_cons hp ja_nil hpb) hpa) ⟨x, n, 4, toS u, L.w, L.wb, by decide, hu.tk, rfl, rfl⟩ hk rfl hg hpa (fun env => by rw [hpb [] env]; rfl))
theorem jl_lworth (T : Tx W) (L : LW x n) {dw : D} (iw : IsW x dw) {u : List Nat} (hu : Wo x u) (ha : J W S k a env dw) (hp : J W S k b env (wD u)) (hk : 3 ≤ k := by decide) (hg : GlS S "_law_worth" := by exact rfl) (hpa : Plain a := by intro _ _; rfl) (hpb : Plain b := by intro _ _; rfl) : J W S k (.Call (.Name "_law_worth" p) [a, b] [] pos) env (.int (x.worth u)) :=
  j_call (ok_law_worth T) (ja_cons ha (ja_cons hp ja_nil hpb) hpa) ⟨x, n, 4, toS u, dw, iw, L.al, L.w, L.wb, by decide, hu.tk, rfl, rfl⟩ hk rfl hg hpa (fun env => by rw [hpb [] env]; rfl)
theorem jl_take {u : List Nat} {i : Nat} (ha : J W S k a env (wD u)) (hb : J W S k b env (.int (i : Int))) (hl : u.length ≤ 1000) : J W S k (.Subscript a (.Slice none (some b) none p2) pos) env (wD (u.take i)) := by
  refine J.is (j_sliceS (z := toS u) ha jo_none (jo_some hb) (by rw [wD_len]; omega)) ?_
  rw [cutS_takeS]
  rfl
theorem jl_drop {u : List Nat} {i : Nat} (ha : J W S k a env (wD u)) (hb : J W S k b env (.int (i : Int))) (hl : u.length ≤ 1000) : J W S k (.Subscript a (.Slice (some b) none none p2) pos) env (wD (u.drop i)) := by
  refine J.is (j_sliceS (z := toS u) ha (jo_some hb) jo_none (by rw [wD_len]; omega)) ?_
  rw [cutS_dropS]
  rfl
end
theorem bits8 {l : Nat} (h : l ≤ 8) : l * (4 + 10) ≤ 112 := by omega
theorem LW.tab {x : Tl} {n : Nat} (L : LW x n) {u : List Nat} (h : Wo x u) : TM.Sq n (x.tabW u) ∧ TM.BdT 113 (x.tabW u) := by
  obtain ⟨h1, h2⟩ := tabW_ok L.w L.wb h.s
  have := bits8 h.l
  exact ⟨h1, h2.mono (by omega)⟩
theorem LW.row {x : Tl} {n : Nat} (L : LW x n) {u : List Nat} (h : Wo x u) : (x.rowW u).length = n ∧ TM.Bd 116 (x.rowW u) := by
  obtain ⟨h1, h2⟩ := rowW_ok L.w L.wb h.s
  have := bits8 h.l
  exact ⟨h1, h2.mono (by omega)⟩
def f_lw_pre (W : Gx) (ds : List D) : Prop := ∃ (x : Tl) (n : Nat) (dw : D), LW x n ∧ IsW x dw ∧ ds = [dw, tlD W x]
def f_true (ds : List D) (d : D) : Prop := d = .bl true
theorem ints_lst (ns : List Int) : Sh 1 (.lst (ns.map D.int)) := shI ns
theorem ok_law_cuts_right {W : Gx} (T : Tx W) : OkD W 9 "_law_cuts_right" 2 20 (f_lw_pre W) f_true := by
  have mr := T.m_range
  have ml := T.m_len
  have ms := T.m_sum
  refine okD_of T 60 60 (x := "_law_cuts_right") (d := d_law_cuts_right) (N := N_law_cuts_right) (ps := ["_law_deck_here", "_law_w", "_law_code_here"]) (k := 8) (n := 2) rfl rfl rfl rfl rfl sc_law_cuts_right rfl (fun _ _ _ _ _ _ us hl => match us, hl with | [_, _, _], _ => rfl) fun ds p q G0 H0 M σ D' hpre hn dk hM A fin => ?_
  obtain ⟨x, n, dw, L, iw, rfl⟩ := hpre
  obtain ⟨l1, l3⟩ := al3 L.al
  have zl : x.z.length = x.z.cps.toList.length := rfl
  refine wsd_tup2 (R := fun d => ∃ u, d = wD u ∧ Wo x u) (R2 := fun d => d = .str x.z) (c1 := 10) (c2 := 0) A dk sc_law_cuts_right.nd (sn 3) (sn 4) (by decide) (JR.imp (jr_call (ok_law_page T) (ja_cons (jw_signs iw (jv 1)) (ja_cons (j_int (i := 8)) ja_nil)) ⟨x.z, 8, rfl, l1, by omega, by decide⟩) ?_) (J.r (jw_signs iw (jv 1)) rfl) (by omega) fun Hb1 d1 d2 σ1 G1 H1 hR1 hR2 bl1 A1 dk1 => ?_
  · rintro d ⟨z, w, m, e, rfl, hw, hl⟩
    have e1 := List.head_eq_of_cons_eq e
    injection e1 with e1
    have e2 := List.head_eq_of_cons_eq (List.tail_eq_of_cons_eq e)
    injection e2 with e2
    refine ⟨w.cps.toList, by rw [wD, toS_of], fun c hc => by rw [e1]; exact hw c hc, by omega⟩
  obtain ⟨u, rfl, hu⟩ := hR1
  subst hR2
  have hl8 := hu.l
  have dlen := wD_len u
  have ret : ∀ v G' H', Stp G0 Hb1 G' H' → Rep W.K G' (.bl true) v → D'.rt v H' := fun v G' H' s r => fin.rt _ v G' H' (bl1.stp s) ((dk1.mono s).le (by omega)) rfl r
  have lw := lone_wt L.al
  have lb := lone_wb x.z
  refine ws_par (i := 5) (j := 6) (d := .int (x.worth u)) (d' := tlD W (loneT x.z)) A1 sc_law_cuts_right.nd rfl rfl rfl rfl (by decide) (ja_cons (jl_lworth T L iw hu (jv 1) (jv 3)) (ja_cons (JO1.j (jo_make (oki_Tally T) (ds := [.str x.z, rowD [1], tabsD (List.replicate x.z.cps.toList.length [[1]]), rowD [1]]) (ja_cons (jv 4) (ja_cons (j_tup (ja_cons j_int ja_nil)) (ja_cons (J.is (j_repT (n := x.z.cps.toList.length) (ds := [tabD [[1]]]) (j_tup (ja_cons (j_tup (ja_cons (j_tup (ja_cons j_int ja_nil)) ja_nil)) ja_nil)) (j_lenS (jv 4) (by omega)) (by omega) (by decide)) ?_) (ja_cons (j_tup (ja_cons j_int ja_nil)) ja_nil)))) ⟨loneT x.z, 1, lw, rfl, rfl⟩)) ja_nil)) fun σ2 G2 H2 A2 => ?_
  · rw [rep_flat]
    unfold tabsD
    rw [List.map_replicate]
  refine ws_for (items := (List.range (u.length + 1)).map fun (i : Nat) => D.int (i : Int)) (t := .one 7) (fun _ => [.raw (.ref p), .d dw, .d (tlD W x), .d (wD u), .d (.str x.z), .d (.int (x.worth u)), .d (tlD W (loneT x.z)), .no, .no, .no, .no, .no, .no, .no, .no]) A2 sc_law_cuts_right.nd (ji_range1 (n := u.length + 1) (J.is (j_add (j_lenS (z := toS u) (jv 3) (by omega)) j_int) (by rw [dlen]; rfl)) (by omega)) (.one (sn 7)) (fun _ _ => trivial) (Le.refl _) (fun Gb m dd σ3 G3 H3 nx hd A3 hnx => ?_) fun σ3 G3 H3 A3 => ?_
  · rw [List.getElem?_map] at hd
    obtain ⟨i, hi, rfl⟩ := Option.map_eq_some_iff.mp hd
    have hun := hu.take i
    have huf := hu.drop i
    have eapp : u.take i ++ u.drop i = u := List.take_append_drop i u
    obtain ⟨t1, t2⟩ := L.tab hun
    obtain ⟨t3, t4⟩ := L.tab huf
    obtain ⟨r1, r2⟩ := L.row hun
    have hb1 := bits8 hun.l
    have hb2 := bits8 huf.l
    have lsum : (toS (u.take i)).length + (toS (u.drop i)).length ≤ 1000 := by
      rw [wD_len, wD_len]
      have := hun.l
      have := huf.l
      omega
    refine ws_par (i := 8) (j := 9) (d := wD (u.take i)) (d' := wD (u.drop i)) A3 sc_law_cuts_right.nd rfl rfl rfl rfl (by decide) (ja_cons (jl_take (jv 3) (jv 7) (by omega)) (ja_cons (jl_drop (jv 3) (jv 7) (by omega)) ja_nil)) fun σ4 G4 H4 A4 => ?_
    refine ws_set (d := pcD W x (TM.tmul (x.tabW (u.take i)) (x.tabW (u.drop i))) (toS (u.take i) ++ toS (u.drop i))) A4 sc_law_cuts_right.nd (sn 10) (j_meth (ok_Piece_joined T) (fs := pcF W x (x.tabW (u.take i)) (toS (u.take i))) (jl_piece T L hun (jv 2) (jv 8)) (ja_cons (jl_piece T L huf (jv 2) (jv 9)) ja_nil) ⟨x, _, _, _, _, n, 113, 113, 4, L.w, L.wb, by decide, t1, t2, t3, t4, by decide, lsum, rfl, rfl⟩) fun σ5 G5 H5 A5 => ?_
    have bt : TM.BdT (113 + 113 + 10) (TM.tmul (x.tabW (u.take i)) (x.tabW (u.drop i))) := TM.tmul_bd t2 t4 (c := 10) fun r hr => by rw [t1.2 r hr]; have := L.n4; omega
    have wn : f_worth_now W [pcD W x (TM.tmul (x.tabW (u.take i)) (x.tabW (u.drop i))) (toS (u.take i) ++ toS (u.drop i))] (.int (x.worth u)) := ⟨x, TM.tmul (x.tabW (u.take i)) (x.tabW (u.drop i)), toS (u.take i) ++ toS (u.drop i), n, 4, 113 + 113 + 10, L.w, L.wb, TM.tmul_sq t1 t3, bt, by omega, rfl, by rw [piece_worth L.w hun.s huf.s, eapp]⟩
    refine ws_set (d := .lst ([x.worth u, x.worth u, x.worth u, x.worth u].map D.int)) A5 sc_law_cuts_right.nd (sn 11) (JN.lst (jn_lst (ja_cons (j_prop (ok_worth_now T) (fs := pcF W x (TM.tmul (x.tabW (u.take i)) (x.tabW (u.drop i))) (toS (u.take i) ++ toS (u.drop i))) (jv 10) wn) (ja_cons (J.is (jl_worth T (y := aheadT x (u.take i)) (u := u.drop i) (ahead_wt L.w L.wb hun.s) (ahead_wb L.w L.wb hun.s) (by omega) huf.tk (j_call (ok_ahead T) (ja_cons (jv 2) (ja_cons (jv 8) ja_nil)) ⟨x, n, 4, toS (u.take i), L.w, L.wb, by decide, hun.tk, rfl, rfl⟩) (jv 9)) ?_) (ja_cons (J.is (jl_worth T (y := behindT x (u.drop i)) (u := u.take i) (behind_wt L.w L.wb huf.s) (behind_wb L.w L.wb huf.s) (by omega) hun.tk (j_call (ok_behind T) (ja_cons (jv 2) (ja_cons (jv 9) ja_nil)) ⟨x, n, 4, toS (u.drop i), L.w, L.wb, by decide, huf.tk, rfl, rfl⟩) (jv 8)) ?_) (ja_cons (jl_worth T L.w L.wb (by decide) hu.tk (jv 2) (jv 3)) ja_nil)))) (by show 4 ≤ 100000; decide))) fun σ6 G6 H6 A6 => ?_
    · rw [ahead_worth, eapp]
    · rw [behind_worth L.w hun.s huf.s, eapp]
    refine ws_set (d := rowD (x.rowW u)) A6 sc_law_cuts_right.nd (sn 12) (J.is (j_meth (ok_Piece_led T) (fs := pcF W x (x.tabW (u.drop i)) (toS (u.drop i))) (jl_piece T L huf (jv 2) (jv 9)) (ja_cons (j_meth (ok_Tally_row T) (fs := tlF x) (jv 2) (ja_cons (jv 8) ja_nil) ⟨x, n, 4, toS (u.take i), L.w, L.wb, by decide, hun.tk, rfl, rfl⟩) ja_nil) ⟨x, _, _, _, x.rowW (u.take i), n, 116, 113, by have := L.n4; omega, t3, t4, .inl rfl, r1, r2, by decide, rfl, rfl⟩) ?_) fun σ7 G7 H7 A7 => ?_
    · rw [row_led L.w hun.s huf.s, eapp]
    obtain ⟨q1, q2⟩ := L.row hu
    refine ws_ifF A7 (JT.is (jt_or3 (r := false) (r' := false) (r2 := false) (JT.is (jt_cmp (c_neD (r := true) (ints_lst _).p (ints_lst _).p ((ints_lst _).shaped (by decide)) ((ints_lst _).shaped (by decide)) (SeqAt.eqv_refl _ (ints_lst [x.worth u, x.worth u, x.worth u, x.worth u]).c)) (jv 11) (J.is (JN.lst (jn_rep (n := 4) (ds := [.int (x.worth u)]) (JN.l (jn_lst (ja_cons (jv 5) ja_nil) (by show 1 ≤ 100000; decide))) j_int (by show 1 * 4 ≤ 100000; decide) (by decide))) rfl)) rfl) (fun _ => JT.is (jt_cmp c_neI (j_call (ok_law_dot T) (ja_cons (jv 12) (ja_cons (jw_last iw (jv 1)) ja_nil)) ⟨x.rowW u, x.en, 116, 4, rfl, by rw [q1, L.w.el], by rw [q1]; have := L.n4; omega, q2, L.wb.e, by decide, rfl⟩) (jv 5)) ?_) (fun _ _ => JT.is (jt_cmp (c_neD (r := true) (Sh.row _).p (Sh.row _).p ((Sh.row _).shaped (by decide)) ((Sh.row _).shaped (by decide)) (SeqAt.eqv_refl _ (Sh.row (x.rowW u)).c)) (jv 12) (j_meth (ok_Tally_row T) (fs := tlF x) (jv 2) (ja_cons (jv 3) ja_nil) ⟨x, n, 4, toS u, L.w, L.wb, by decide, hu.tk, rfl, rfl⟩)) rfl)) rfl) fun G8 H8 A8 => ?_
    · rw [decide_eq_true (show TM.prod (x.rowW u) x.en = x.worth u from rfl)]
      rfl
    refine ws_nil (hnx σ7 G8 H8 (At.le A8 ?_))
    exact .cons (.cons (.cons (.cons (.cons (.cons (.cons (.no (.no (.no (.no (.no (.no (.cons (.cons .nil))))))))))))))
  · refine ws_set (d := .int (TM.sumN (u.length + 1) fun i => x.worth (u.take i))) A3 sc_law_cuts_right.nd (sn 13) (J.is (j_sum (ns := (List.range (u.length + 1)).map fun i => x.worth (u.take i)) (JN.l (JN.is (JLc.n (jc1 7 sc_law_cuts_right.nd (ji_range1 (n := u.length + 1) (J.is (j_add (j_lenS (z := toS u) (jv 3) (by omega)) j_int) (by rw [dlen]; rfl)) (by omega)) (f := fun i => D.int (x.worth (u.take i))) (fun i hi => jl_lworth T L iw (hu.take i) (jv 1) (jl_take (jv 3) (jv 7) (by omega))) ?_)) ?_))) ?_) fun σ4 G4 H4 A4 => ?_
    · rw [List.length_range]
      omega
    · rw [List.map_map]
      rfl
    · rw [sum_range]
    refine ws_set (d := .int (TM.sumN (u.length + 1) fun i => x.worth (u.drop i))) A4 sc_law_cuts_right.nd (sn 14) (J.is (j_sum (ns := (List.range (u.length + 1)).map fun i => x.worth (u.drop i)) (JN.l (JN.is (JLc.n (jc1 7 sc_law_cuts_right.nd (ji_range1 (n := u.length + 1) (J.is (j_add (j_lenS (z := toS u) (jv 3) (by omega)) j_int) (by rw [dlen]; rfl)) (by omega)) (f := fun i => D.int (x.worth (u.drop i))) (fun i hi => jl_lworth T L iw (hu.drop i) (jv 1) (jl_drop (jv 3) (jv 7) (by omega))) ?_)) ?_))) ?_) fun σ5 G5 H5 A5 => ?_
    · rw [List.length_range]
      omega
    · rw [List.map_map]
      rfl
    · rw [sum_range]
    have hn4 := L.n4
    have m1 : WT (n + 1) (metT x (loneT x.z)) := metT_wt L.w lw rfl (by omega)
    have m2 : WT (1 + n) (metT (loneT x.z) x) := metT_wt lw L.w rfl (by omega)
    have b1 := met_wb L.w lw L.wb lb
    have b2 := met_wb lw L.w lb L.wb
    refine ws_ret A5 (J.is (j_cmp (c_eqD (r := true) (ints_lst _).p (ints_lst _).p ((ints_lst _).shaped (by decide)) ((ints_lst _).shaped (by decide)) (SeqAt.eqv_refl _ (ints_lst [TM.sumN (u.length + 1) fun i => x.worth (u.take i), TM.sumN (u.length + 1) fun i => x.worth (u.drop i)]).c)) (JN.lst (jn_lst (ja_cons (J.is (jl_worth T (y := metT x (loneT x.z)) (u := u) m1 b1 (by decide) hu.tk (j_call (ok_met T) (ja_cons (jv 2) (ja_cons (jv 6) ja_nil)) ⟨x, loneT x.z, n, 1, 4, 1, L.w, lw, rfl, by omega, L.wb, lb, by decide, by decide, rfl, rfl⟩) (jv 3)) ?_) (ja_cons (J.is (jl_worth T (y := metT (loneT x.z) x) (u := u) m2 b2 (by decide) hu.tk (j_call (ok_met T) (ja_cons (jv 6) (ja_cons (jv 2) ja_nil)) ⟨loneT x.z, x, 1, n, 1, 4, lw, L.w, rfl, by omega, lb, L.wb, by decide, by decide, rfl, rfl⟩) (jv 3)) ?_) ja_nil)) (by show 2 ≤ 100000; decide))) (JN.lst (jn_lst (ja_cons (jv 13) (ja_cons (jv 14) ja_nil)) (by show 2 ≤ 100000; decide)))) rfl) ret
    · rw [met_right L.w L.al hu.s]
    · rw [met_left L.w L.al hu.s]
end TH
set_option maxHeartbeats 4000000
namespace TH
open PySem PySem.Spec PyProof.Rows L2
theorem rolls_small {cs : List Nat} {k : Nat} (h : (cs, k) ∈ rolls) : k ≤ 4 ∧ 1 ≤ cs.length ∧ cs.length ≤ 3 := by
  have : rolls.all (fun p => decide (p.2 ≤ 4 ∧ 1 ≤ p.1.length ∧ p.1.length ≤ 3)) = true := by decide
  exact of_decide_eq_true (List.all_eq_true.mp this (cs, k) h)
theorem atI_lastD {l : List D} {d : D} (h : l[l.length - 1]? = some d) (h0 : 0 < l.length) : atI l (-1) = some d := by
  unfold atI
  have : ixN l.length (-1) = some (l.length - 1) := by
    unfold ixN
    rw [if_neg (by decide), if_pos (by omega)]
    congr 1
    omega
  rw [this]
  exact h
structure RR (x : Tl) (n k : Nat) : Prop where
  L : LW x n
  r : (x.z.cps.toList, k) ∈ rolls
abbrev RR.ws {x : Tl} {n k : Nat} (_ : RR x n k) : List (List Nat) := TM.words x.z.cps.toList k
theorem RR.wo {x : Tl} {n k : Nat} (R : RR x n k) {u : List Nat} (h : u ∈ TM.words x.z.cps.toList k) : Wo x u := ⟨TM.words_sub h, by rw [TM.words_len h]; have := (rolls_small R.r).1; omega⟩
theorem RR.pos {x : Tl} {n k : Nat} (R : RR x n k) : 0 < (TM.words x.z.cps.toList k).length := words_ne (fun e => by have := (rolls_small R.r).2.1; rw [e] at this; exact absurd this (by decide)) k
theorem RR.le {x : Tl} {n k : Nat} (R : RR x n k) : (TM.words x.z.cps.toList k).length ≤ 81 := by
  rw [TM.words_length]
  exact pow_small (rolls_small R.r).2.2 (rolls_small R.r).1
theorem RR.at_ {x : Tl} {n k i : Nat} (R : RR x n k) (hi : i < (TM.words x.z.cps.toList k).length) : ((TM.words x.z.cps.toList k).map wD)[i]? = some (wD ((TM.words x.z.cps.toList k).getD i [])) := by
  rw [List.getElem?_map, List.getElem?_eq_getElem hi, TM.getD_at hi]
  rfl
def f_roll_pre (W : Gx) (ds : List D) : Prop := ∃ (x : Tl) (n k : Nat) (dw : D), RR x n k ∧ IsW x dw ∧ ds = [dw, tlD W x, .int (k : Int), .lst ((TM.words x.z.cps.toList k).map wD), .lst (((TM.words x.z.cps.toList k).map x.worth).map D.int)]
theorem ok_law_roll_right {W : Gx} (T : Tx W) : OkD W 10 "_law_roll_right" 5 2 (f_roll_pre W) f_true := by
  have ms := T.m_sum
  refine okD_of T 62 62 (x := "_law_roll_right") (d := d_law_roll_right) (N := N_law_roll_right) (ps := ["_law_deck_here", "_law_w", "_law_code_here", "_law_size", "_law_every", "_law_worths_now"]) (k := 9) (n := 5) rfl rfl rfl rfl rfl sc_law_roll_right rfl (fun _ _ _ _ _ _ us hl => match us, hl with | [_, _, _, _, _, _], _ => rfl) fun ds p q G0 H0 M σ D' hpre hn dk hM A fin => ?_
  obtain ⟨x, n, k, dw, R, iw, rfl⟩ := hpre
  have L := R.L
  obtain ⟨k4, c1, c3⟩ := rolls_small R.r
  have hpos := R.pos
  have hle := R.le
  have hn4 := L.n4
  have zl : x.z.length = x.z.cps.toList.length := rfl
  have ret : ∀ v G' H', Stp G0 H0 G' H' → Rep W.K G' (.bl true) v → D'.rt v H' := fun v G' H' s r => fin.rt _ v G' H' s.l ((dk.mono s).le (by omega)) rfl r
  have hWlen : ((TM.words x.z.cps.toList k).map wD).length = (TM.words x.z.cps.toList k).length := List.length_map ..
  have hlast : (TM.words x.z.cps.toList k).length - 1 < (TM.words x.z.cps.toList k).length := by omega
  have wfst := R.wo (words_at hpos)
  have wlst := R.wo (words_at hlast)
  have e0 : atI ((TM.words x.z.cps.toList k).map wD) 0 = some (wD ((TM.words x.z.cps.toList k).getD 0 [])) := atI_nat (j := 0) (R.at_ hpos)
  have e1 : atI ((TM.words x.z.cps.toList k).map wD) (-1) = some (wD ((TM.words x.z.cps.toList k).getD ((TM.words x.z.cps.toList k).length - 1) [])) := atI_lastD (by rw [hWlen]; exact R.at_ hlast) (by rw [hWlen]; exact hpos)
  -- the sum of the roll, told in five ways
  obtain ⟨due, hdue⟩ : ∃ due, due = TM.lsum (TM.words x.z.cps.toList k) x.worth := ⟨_, rfl⟩
  have s1 : rsum x n k = due := (rsum_eq L.w k).trans hdue.symm
  have s2 : rngSum x n ((TM.words x.z.cps.toList k).getD 0 []) ((TM.words x.z.cps.toList k).getD ((TM.words x.z.cps.toList k).length - 1) []) = due := by
    rw [rng_eq L.w R.r hpos hlast, if_neg (by omega), seg_all (by omega), hdue]
  have s3 : bsum x n [] k = due := by
    rw [bsum_eq L.w (fun c hc => by cases hc) (Nat.zero_le k), hdue]
    rfl
  have s4 : (sumT x n).worth ((TM.words x.z.cps.toList k).getD ((TM.words x.z.cps.toList k).length - 1) []) = due := by
    rw [sum_worth L.w L.al wlst.s, sumF_roll R.r hlast, List.take_of_length_le (by omega), hdue]
  refine ws_par (i := 6) (j := 7) (d := .int due) (d' := .str x.z) A sc_law_roll_right.nd rfl rfl rfl rfl (by decide) (ja_cons (J.is (j_sum (jv 5).l) ?_) (ja_cons (jw_signs iw (jv 1)) ja_nil)) fun σ1 G1 H1 A1 => ?_
  · rw [TM.lsum_eq, hdue]
  refine ws_set (d := .lst ([due, due, due].map D.int)) A1 sc_law_roll_right.nd (sn 8) (JN.lst (jn_lst (ja_cons (J.is (j_call (ok_roll_sum T) (ja_cons (jv 2) (ja_cons (jv 3) ja_nil)) ⟨x, n, 4, k, L.w, L.wb, by decide, by omega, rfl, rfl⟩) (by rw [s1])) (ja_cons (J.is (j_ixT (j_call (ok_roll_sums T) (ja_cons (jv 2) (ja_cons (j_add (jv 3) j_int) ja_nil)) ⟨x, n, 4, k + 1, L.w, L.wb, by decide, by omega, rfl, rfl⟩) (jv 3) (at_row (by rw [List.length_map, List.length_range]; omega))) ?_) (ja_cons (J.is (j_call (ok_range_sum T) (ja_cons (jv 2) (ja_cons (j_ixL (jv 4).l j_int e0) (ja_cons (j_ixL (jv 4).l (j_neg j_int) e1) ja_nil))) ⟨x, n, 4, toS ((TM.words x.z.cps.toList k).getD 0 []), toS ((TM.words x.z.cps.toList k).getD ((TM.words x.z.cps.toList k).length - 1) []), L.w, L.wb, by decide, wfst.tk, wlst.tk, ?_, rfl, rfl⟩) ?_) ja_nil))) (by show 3 ≤ 100000; decide))) fun σ2 G2 H2 A2 => ?_
  · rw [TM.map_getD 0 (by rw [List.length_range]; omega), TM.range_getD (by omega), s1]
  · show ((TM.words x.z.cps.toList k).getD 0 []).length = _
    rw [TM.words_len (words_at hpos)]
    exact (TM.words_len (words_at hlast)).symm
  · exact congrArg D.int s2
  have ws := sum_wt L.w L.al (n := n) (by omega)
  have wb := sum_wb (n := n) L.w L.al L.wb
  refine ws_set (d := .lst ([due, due, due, due, due].map D.int)) A2 sc_law_roll_right.nd (sn 8) (JN.lst (jn_cat (ds := [due, due, due].map D.int) (es := [due, due].map D.int) (jv 8).l (JN.l (jn_lst (ja_cons (J.is (j_call (ok_block_sum T) (ja_cons (jv 2) (ja_cons j_str (ja_cons (jv 3) ja_nil))) ⟨x, n, 4, k, "", L.w, L.wb, by decide, by omega, tk_nil _, rfl, rfl⟩) (congrArg D.int s3)) (ja_cons (J.is (jl_worth T (y := sumT x n) (u := (TM.words x.z.cps.toList k).getD ((TM.words x.z.cps.toList k).length - 1) []) ws wb (by decide) wlst.tk (j_call (ok_sums T) (ja_cons (jv 2) ja_nil) ⟨x, n, L.al, L.w, by omega, rfl, rfl⟩) (j_ixL (jv 4).l (j_neg j_int) e1)) (congrArg D.int s4)) ja_nil)) (by show 2 ≤ 100000; decide))) (by show 3 + 2 ≤ 100000; decide))) fun σ3 G3 H3 A3 => ?_
  refine ws_ifF A3 (JT.is (jt_cmp (c_neD (r := true) (ints_lst _).p (ints_lst _).p ((ints_lst _).shaped (by decide)) ((ints_lst _).shaped (by decide)) (SeqAt.eqv_refl _ (ints_lst [due, due, due, due, due]).c)) (jv 8) (J.is (JN.lst (jn_rep (n := 5) (ds := [.int due]) (JN.l (jn_lst (ja_cons (jv 6) ja_nil) (by show 1 ≤ 100000; decide))) j_int (by show 1 * 5 ≤ 100000; decide) (by decide))) rfl)) rfl) fun G4 H4 A4 => ?_
  have rest : ∀ σ G H, At W G0 H0 [.raw (.ref p), .d dw, .d (tlD W x), .d (.int (k : Int)), .d (.lst ((TM.words x.z.cps.toList k).map wD)), .d (.lst (((TM.words x.z.cps.toList k).map x.worth).map D.int)), .d (.int due), .d (.str x.z), .d (.lst ([due, due, due, due, due].map D.int)), .no, .no, .no, .no, .no, .no] σ G H → wSs W (defS N_law_roll_right (defScope s_law_roll_right)) 9 ((defBody s_law_roll_right).drop 5) D' σ H := fun σ G H A => by
    refine wsd_set (R := fun d => ∃ i, i < (TM.words x.z.cps.toList k).length ∧ d = wD ((TM.words x.z.cps.toList k).getD i [])) (c := 1) A dk sc_law_roll_right.nd (sn 11) (JR.imp (jr_call (ok_law_pick T) (ja_cons (jv 4) ja_nil) (.inl ⟨_, rfl, by rw [hWlen]; omega, by rw [hWlen]; omega⟩)) ?_) (by omega) fun Hb1 d1 σ1 G1 H1 hR1 bl1 A1 dk1 => ?_
    · intro d hd
      obtain ⟨v, hv, e⟩ := List.mem_map.mp (pick_lst hd)
      obtain ⟨i, hi, rfl⟩ := List.getElem_of_mem hv
      exact ⟨i, hi, by rw [TM.getD_at hi]; exact e.symm⟩
    obtain ⟨i, hi, rfl⟩ := hR1
    have r1 := roll1 R.r hi
    have hwm := words_at hi
    generalize hu : (TM.words x.z.cps.toList k).getD i [] = u at A1 r1 hwm
    have wo := R.wo hwm
    have ret1 : ∀ v G' H', Stp G0 Hb1 G' H' → Rep W.K G' (.bl true) v → D'.rt v H' := fun v G' H' s r => fin.rt _ v G' H' (bl1.stp s) ((dk1.mono s).le (by omega)) rfl r
    have ss := step_worth L.w L.al (n := n) (by omega) wo.s
    have sw := step_wt L.w L.al (n := n) (by omega)
    have sb := step_wb (n := n) L.w L.al L.wb
    refine ws_set A1 sc_law_roll_right.nd (sn 12) (j_call (ok_ticket_ahead T) (ja_cons (jv 7) (ja_cons (jv 11) ja_nil)) ⟨x.z, toS u, L.al, wo.tk, rfl, rfl⟩) fun σ2 G2 H2 A2 => ?_
    rw [show tkAhead x.z.cps.toList (toS u).cps.toList = tkAhead x.z.cps.toList u from rfl, ahead_D, r1.ahd] at A2
    have fin2 : ∀ (l : Int), TM.PrvF x.z.cps.toList x.worth u = l → ∀ σ G H (s12 : Sl), At W G0 Hb1 [.raw (.ref p), .d dw, .d (tlD W x), .d (.int (k : Int)), .d (.lst ((TM.words x.z.cps.toList k).map wD)), .d (.lst (((TM.words x.z.cps.toList k).map x.worth).map D.int)), .d (.int due), .d (.str x.z), .d (.lst ([due, due, due, due, due].map D.int)), .no, .no, .d (wD u), s12, .d (.int l), .no] σ G H → wSs W (defS N_law_roll_right (defScope s_law_roll_right)) 9 ((defBody s_law_roll_right).drop 8) D' σ H := fun l hl σ G H s12 A => by
      refine ws_ret A (J.is (j_cmp c_eqI (jl_worth T (y := stepT x n) (u := u) sw sb (by decide) wo.tk (j_call (ok_steps T) (ja_cons (jv 2) ja_nil) ⟨x, n, 4, L.al, L.w, by omega, L.wb.e, by decide, rfl, rfl⟩) (jv 11)) (j_sub (jl_worth T (y := x) (u := u) L.w L.wb (by decide) wo.tk (jv 2) (jv 11)) (jv 13))) ?_) ret1
      rw [ss, decide_eq_true]
      unfold TM.StepF
      rw [hl]
    rcases TM.less_pred (al_alp L.al) u wo.s with ⟨h1, h2⟩ | ⟨v, h1, h2, h3⟩
    · rw [h1] at A2
      refine ws_set (d := .int 0) A2 sc_law_roll_right.nd (sn 13) (j_if (r := false) (jt_cmp c_notN0 (jv 12 (d := .non)) j_non) (fun h => nomatch h) fun _ => j_int) fun σ3 G3 H3 A3 => ?_
      exact fin2 0 (by unfold TM.PrvF; rw [h1]; rfl) σ3 G3 H3 _ A3
    · rw [h1] at A2
      have hv8 := (TM.predL_sub (al_alp L.al) u wo.s v (by rw [h1]; exact List.mem_cons_self)).2
      have wv : Wo x v := ⟨h2, by rw [hv8]; exact wo.l⟩
      refine ws_set (d := .int (x.worth v)) A2 sc_law_roll_right.nd (sn 13) (j_if (r := true) (jt_cmp (c_notN fun G u h e => by
        have h' : u = V.str (toS v) := h
        rw [h'] at e
        cases e) (jv 12 (d := wD v)) j_non) (fun _ => jl_worth T (y := x) (u := v) L.w L.wb (by decide) wv.tk (jv 2) (jv 12)) fun h => nomatch h) fun σ3 G3 H3 A3 => ?_
      exact fin2 (x.worth v) (by unfold TM.PrvF; rw [h1]; exact Int.add_zero _) σ3 G3 H3 _ A3
  refine ws_if A4 (jt_cmp c_gtI (jv 3) j_int) (fun h G5 H5 A5 => ?_) fun h G5 H5 A5 => ws_nil (rest _ _ _ A5)
  have hk1 : 1 ≤ k := by
    have := of_decide_eq_true h
    omega
  have one_wo : ∀ c ∈ x.z.cps.toList, Wo x [c] := fun c hc => ⟨fun d hd => by rw [List.mem_singleton.mp hd]; exact hc, by show 1 ≤ 8; decide⟩
  have alike : ∀ c, rsum (aheadT x [c]) n (k - 1) = bsum x n [c] k := fun c => by
    unfold bsum
    rw [if_neg (by show ¬ k < 1; omega)]
    rfl
  refine ws_setLc (i := 9) A5 sc_law_roll_right.nd rfl rfl rfl (jc1 14 sc_law_roll_right.nd (ji_str (jv 7)) (f := fun c => D.int (bsum x n [c] k)) (fun c hc => j_call (ok_block_sum T) (ja_cons (jv 2) (ja_cons (jv 14 (d := sgn c)) (ja_cons (jv 3) ja_nil))) ⟨x, n, 4, k, ⟨#[c]⟩, L.w, L.wb, by decide, by omega, (one_wo c hc).tk, rfl, rfl⟩) (by omega)) fun σ6 G6 H6 A6 => ?_
  refine ws_setLc (i := 10) A6 sc_law_roll_right.nd rfl rfl rfl (jc1 14 sc_law_roll_right.nd (ji_str (jv 7)) (f := fun c => D.int (bsum x n [c] k)) (fun c hc => J.is (j_call (ok_roll_sum T) (ja_cons (j_call (ok_ahead T) (ja_cons (jv 2) (ja_cons (jv 14 (d := sgn c)) ja_nil)) ⟨x, n, 4, ⟨#[c]⟩, L.w, L.wb, by decide, (one_wo c hc).tk, rfl, rfl⟩) (ja_cons (J.is (j_sub (jv 3) j_int) (show D.int ((k : Int) - 1) = .int ((k - 1 : Nat) : Int) by congr 1; omega)) ja_nil)) ⟨aheadT x [c], n, _, k - 1, ahead_wt L.w L.wb (one_wo c hc).s, ahead_wb L.w L.wb (one_wo c hc).s, by show 4 + 1 * (4 + 10) ≤ 200; decide, by omega, rfl, rfl⟩) (by rw [alike])) (by omega)) fun σ7 G7 H7 A7 => ?_
  have hsum : TM.lsum x.z.cps.toList (fun c => bsum x n [c] k) = due := by
    obtain ⟨k', rfl⟩ : ∃ k', k = k' + 1 := ⟨k - 1, by omega⟩
    rw [hdue]
    show _ = TM.lsum (x.z.cps.toList.flatMap _) _
    rw [TM.lsum_flatMap]
    refine TM.lsum_congr fun c hc => ?_
    rw [bsum_eq L.w (one_wo c hc).s (by show 1 ≤ k' + 1; omega), TM.lsum_map]
    rfl
  have lm : x.z.cps.toList.map (fun c => D.int (bsum x n [c] k)) = (x.z.cps.toList.map fun c => bsum x n [c] k).map D.int := by rw [List.map_map]; rfl
  refine ws_ifF A7 (JT.is (jt_or (r := false) (r' := false) (JT.is (jt_cmp c_neI (j_sum (ns := x.z.cps.toList.map fun c => bsum x n [c] k) (by rw [← lm]; exact (jv 9).l)) (jv 6)) ?_) (fun _ => JT.is (jt_cmp (c_neD (r := true) (ints_lst _).p (ints_lst _).p ((ints_lst _).shaped (by decide)) ((ints_lst _).shaped (by decide)) (SeqAt.eqv_refl _ (ints_lst (x.z.cps.toList.map fun c => bsum x n [c] k)).c)) (by rw [← lm]; exact jv 9) (by rw [← lm]; exact jv 10)) rfl)) rfl) fun G8 H8 A8 => ?_
  · rw [TM.lsum_eq, hsum, decide_eq_true rfl]
    rfl
  refine ws_nil (rest _ _ _ (At.le A8 ?_))
  exact .cons (.cons (.cons (.cons (.cons (.cons (.cons (.cons (.cons (.no (.no (.cons (.cons (.cons (.cons .nil))))))))))))))
end TH
set_option maxHeartbeats 4000000
namespace TH
open PySem PySem.Spec PyProof.Rows L2
theorem foundW_le {cs : List Nat} : ∀ {k : Nat} {w : List Nat}, w ∈ foundW cs k → w.length ≤ k
  | 0, w, h => by rw [List.mem_singleton.mp h]; exact Nat.le_refl _
  | k + 1, w, h => by
    rcases List.mem_append.mp h with h | h
    · have := foundW_le h
      omega
    · rw [TM.words_len h]
      exact Nat.le_refl _
theorem foundW_filter (cs : List Nat) : ∀ k, (foundW cs k).filter (fun w => decide (w.length = k)) = TM.words cs k
  | 0 => rfl
  | k + 1 => by
    show (foundW cs k ++ TM.words cs (k + 1)).filter _ = _
    rw [List.filter_append]
    have h1 : (foundW cs k).filter (fun w => decide (w.length = k + 1)) = [] := List.filter_eq_nil_iff.mpr fun w hw => by
      have := foundW_le hw
      rw [decide_eq_true_eq]
      omega
    have h2 : (TM.words cs (k + 1)).filter (fun w => decide (w.length = k + 1)) = TM.words cs (k + 1) := List.filter_eq_self.mpr fun w hw => decide_eq_true (TM.words_len hw)
    rw [h1, h2]
    rfl
theorem roll_mem {z : Str} (al : Al z) {r : Nat} (h : r < if z.cps.toList.length < 3 then 5 else 4) : (z.cps.toList, r) ∈ rolls := by
  have key : ∀ cs : List Nat, cs = [48, 49] ∨ cs = [48] ∨ cs = [51, 56] → ∀ r, r < 5 → (cs, r) ∈ rolls := fun cs hcs => by
    rcases hcs with rfl | rfl | rfl <;> decide
  have key3 : ∀ r, r < 4 → (([48, 49, 50] : List Nat), r) ∈ rolls := by decide
  rcases al with rfl | rfl | rfl | rfl
  · exact key _ (.inl rfl) r h
  · exact key _ (.inr (.inl rfl)) r h
  · exact key3 r h
  · exact key _ (.inr (.inr rfl)) r h
theorem cutD_mid (ds : List D) {i j : Nat} (hi : i ≤ ds.length) (hj : j ≤ ds.length) : cutD ds (some (i : Int)) (some (j : Int)) = (ds.drop i).take (j - i) := by
  unfold cutD
  rw [HT.sIx_nat, HT.sIx_nat, Nat.min_eq_left hi, Nat.min_eq_left hj]
theorem sum_bd {α : Type} {b : Nat} (f : α → Int) : ∀ (l : List α), (∀ a ∈ l, (f a).natAbs < 2 ^ b) → (TM.lsum l f).natAbs ≤ l.length * 2 ^ b
  | [], _ => Nat.zero_le _
  | a :: l, h => by
    have h1 := h a List.mem_cons_self
    have h2 := sum_bd f l fun c hc => h c (List.mem_cons_of_mem _ hc)
    have h3 := Int.natAbs_add_le (f a) (TM.lsum l f)
    show (f a + TM.lsum l f).natAbs ≤ _
    rw [List.length_cons, Nat.add_mul, Nat.one_mul]
    omega
theorem LW.worth_bd {x : Tl} {n : Nat} (L : LW x n) {u : List Nat} (h : Wo x u) : (x.worth u).natAbs < 2 ^ (116 + 4 + 10) := by
  obtain ⟨r1, r2⟩ := L.row h
  have h10 : (x.rowW u).length < 2 ^ 10 := by rw [r1]; have := L.n4; omega
  exact TM.prod_lt (c := 10) r2 L.wb.e h10
theorem log_small {i : Int} {b : Nat} (h : i.natAbs < 2 ^ b) (hb : b ≤ 1920) : i.natAbs.log2 < 1920 := by
  by_cases h0 : i.natAbs = 0
  · rw [h0]
    decide
  · exact Nat.lt_of_lt_of_le ((Nat.log2_lt h0).mpr h) hb
theorem sum_log {α : Type} {b : Nat} (f : α → Int) {l : List α} (h : ∀ a ∈ l, (f a).natAbs < 2 ^ b) (hl : l.length < 2 ^ 7) (hb : 7 + b ≤ 1920) : (TM.lsum l f).natAbs.log2 < 1920 := by
  refine log_small (b := 7 + b) (Nat.lt_of_le_of_lt (sum_bd f l h) ?_) hb
  rw [Nat.pow_add]
  exact Nat.mul_lt_mul_of_pos_right hl (Nat.two_pow_pos b)
section
variable {W : Gx} {S : Sc} {k : Nat} {p q : Addr} {G0 Hb G H : Hp} {env : List Sl} {σ : L2.St} {D' : Ends} {rest : List Stmt} {a b : Expr} {pos p1 p2 p3 p4 p5 pl : Pos} {x y : Str} {i j : Nat} {N c1 c2 : Nat}
/-- x, y = sorted([e1, e2]), both draw -/
theorem wsd_sorted2 {n : Nat} {m : Nat} (A : At W G0 Hb env σ G H) (dk : Deck G0 Hb p q N) (nd : S.N.Nodup) (hs1 : StN S i x) (hs2 : StN S j y) (hij : i ≠ j) (ha : JR W S k p q a env c1 fun d => ∃ r : Nat, d = .int (r : Int) ∧ r < m) (hb : JR W S k p q b env c2 fun d => ∃ r : Nat, d = .int (r : Int) ∧ r < m) (hc : N + (c1 + c2) ≤ 1000000)
    (next : ∀ Hb' (lo hi : Nat) σ' G' H', lo ≤ hi → hi < m → BaseL p q Hb Hb' → At W G0 Hb' ((env.set i (.d (.int (lo : Int)))).set j (.d (.int (hi : Int)))) σ' G' H' → Deck G0 Hb' p q (N + (c1 + c2)) → wSs W S k rest D' σ' H') (hpa : Plain a := by intro _ _; rfl) (hpb : Plain b := by intro _ _; rfl)
    (hg : GlS S "sorted" := by exact rfl) (hm : W.mg "sorted" = none := by assumption)
    (hw : ∀ env : Env, env.scope = S.sc → swappedStores [.Tuple [.Name x p1, .Name y p2] n p3] (.Call (.Name "sorted" p4) [.List [a, b] pl] [] p5) env = pure none := by intro env h; cases env; cases h; rfl)
    (hs : ∀ env : Env, swapsWithSole [.Tuple [.Name x p1, .Name y p2] n p3] (.Call (.Name "sorted" p4) [.List [a, b] pl] [] p5) pos.line env = pure false := by intro _; rfl) :
    wSs W S k (.Assign [.Tuple [.Name x p1, .Name y p2] n p3] (.Call (.Name "sorted" p4) [.List [a, b] pl] [] p5) pos :: rest) D' σ H :=
  wSs_cons (wS_X (fun X hX => ps_asg (pe_callB cr_sorted (hX.gl hg) (by rw [hX.mg]; exact hm) (by decide +kernel) (pa_cons (pe_lst (pa_cons (pe_w hX a) (pa_cons (pe_w hX b) pa_nil (hpb [] X.env)) (hpa [b] X.env))) pa_nil rfl) (by decide) (by decide) rfl rfl) (pg_unl (n := 2) hX.calm (pgs_cons (pg_nm hX nd hs1) (pgs_cons (pg_nm hX nd hs2) pgs_nil)) (by rfl) (by rfl)) (hs X.env) (hw X.env hX.sc)) fun X hX =>
    ha σ G H N A.s.s A.e (A.off dk) (A.deck dk) (by omega) _ fun u G1 H1 s1 d1 ⟨_, ⟨r1, e1, l1⟩, q1⟩ => hb σ G1 H1 (N + c1) s1.s (A.e.monoL (A.off dk) s1) (A.off dk) d1 (by omega) _ fun v G2 H2 s2 d2 ⟨_, ⟨r2, e2, l2⟩, q2⟩ => by
      subst e1 e2
      have eu : u = V.int (r1 : Int) := q1
      have ev : v = V.int (r2 : Int) := q2
      subst eu ev
      refine ⟨sz (by show 2 ≤ 100000; decide), fun t ht => ?_⟩
      refine ⟨t, [(r1 : Int), (r2 : Int)], rfl, .of upd_same, by show 2 < 64; decide, fun ns w hp hpw hwn => ?_⟩
      have s := s1.trans s2
      obtain ⟨Hb', bl, A1, dk1⟩ := A.draw dk s (by rw [← Nat.add_assoc]; exact d2 : Deck G2 H2 p q (N + (c1 + c2)))
      have A2 := (A1.mono (Stp.newO (o := .lst ([(r1 : Int), (r2 : Int)].map V.int)) s2.s ht))
      have A3 := A2.mono (Stp.newO (o := .lst (ns.map V.int)) A2.s.s hwn)
      obtain ⟨lo, hi, hns, hle, hlt⟩ : ∃ lo hi : Nat, ns = [(lo : Int), (hi : Int)] ∧ lo ≤ hi ∧ hi < m := by
        have hl := hp.length_eq
        match ns, hl, hp, hpw with
        | [a, b], _, hp, hpw =>
          have ha : a ∈ [(r1 : Int), (r2 : Int)] := hp.mem_iff.mp List.mem_cons_self
          have hb : b ∈ [(r1 : Int), (r2 : Int)] := hp.mem_iff.mp (List.mem_cons_of_mem _ List.mem_cons_self)
          have hab : a ≤ b := (List.pairwise_cons.mp hpw).1 b List.mem_cons_self
          simp only [List.mem_cons, List.not_mem_nil, or_false] at ha hb
          exact ⟨a.toNat, b.toNat, by rw [Int.toNat_of_nonneg (by omega), Int.toNat_of_nonneg (by omega)], by omega, by omega⟩
      subst hns
      exact ⟨w, [.int (lo : Int), .int (hi : Int)], rfl, .of upd_same, rfl, .int (lo : Int), [.int (hi : Int)], rfl, .int (hi : Int), [], rfl, rfl, next Hb' lo hi _ G2 _ hle hlt bl ((A3.set (x := .int (lo : Int)) rfl).set (x := .int (hi : Int)) rfl) dk1⟩)
end
end TH
set_option maxHeartbeats 4000000
namespace TH
open PySem PySem.Spec PyProof.Rows L2
section
variable {W : Gx} {S : Sc} {k : Nat} {env : List Sl} {a b c e : Expr} {pos p p2 : Pos} {x : Tl} {n kk i j : Nat}
/-- range_sum of two words of a roll -/
theorem jl_range (T : Tx W) (R : RR x n kk) (hi : i < (TM.words x.z.cps.toList kk).length) (hj : j < (TM.words x.z.cps.toList kk).length) (ha : J W S k a env (tlD W x)) (hb : J W S k b env (wD ((TM.words x.z.cps.toList kk).getD i []))) (hc : J W S k c env (wD ((TM.words x.z.cps.toList kk).getD j []))) (hk : 6 ≤ k := by decide) (hg : GlS S "range_sum" := by exact rfl) (hpa : Plain a := by intro _ _; rfl) (hpb : Plain b := by intro _ _; rfl) (hpc : Plain c := by intro _ _; rfl) :
    J W S k (.Call (.Name "range_sum" p) [a, b, c] [] pos) env (.int (if j < i then 0 else TM.lsum (seg (TM.words x.z.cps.toList kk) i j) x.worth)) :=
  J.is (j_call (ok_range_sum T) (ja_cons ha (ja_cons hb (ja_cons hc ja_nil hpc) hpb) hpa) ⟨x, n, 4, toS ((TM.words x.z.cps.toList kk).getD i []), toS ((TM.words x.z.cps.toList kk).getD j []), R.L.w, R.L.wb, by decide, (R.wo (words_at hi)).tk, (R.wo (words_at hj)).tk, by
    show ((TM.words x.z.cps.toList kk).getD i []).length = ((TM.words x.z.cps.toList kk).getD j []).length
    rw [TM.words_len (words_at hi), TM.words_len (words_at hj)], rfl, rfl⟩ hk rfl hg hpa (fun env => by rw [hpb [c] env, hpc [] env]; rfl)) (congrArg D.int (rng_eq R.L.w R.r hi hj))
end
theorem beg_len_le {f : List Nat → List (List Nat)} (hf : ∀ b, 0 < (f b).length) : ∀ l : List (List Nat), l.length ≤ (l.flatMap f).length
  | [] => Nat.le_refl _
  | b :: l => by
    rw [List.flatMap_cons, List.length_append, List.length_cons]
    have := hf b
    have := beg_len_le hf l
    omega
theorem range_rest {W : Gx} (T : Tx W) {p q : Addr} {G0 Hb G H : Hp} {σ : L2.St} {D' : Ends} {N : Nat} {x : Tl} {n k lo hi m : Nat} {dw : D} {due : Int} (R : RR x n k) (iw : IsW x dw) (hlh : lo ≤ hi) (hhi : hi < (TM.words x.z.cps.toList k).length) (hdue : due = TM.lsum (seg (TM.words x.z.cps.toList k) lo hi) x.worth)
    (dk : Deck G0 Hb p q N) (hN : N + 2 ≤ 1000000) (fin : ∀ v G' H', StpL p q G0 Hb G' H' → Deck G' H' p q (N + 2) → Rep W.K G' (.bl true) v → D'.rt v H')
    (A : At W G0 Hb [.raw (.ref p), .d dw, .d (tlD W x), .d (.int (k : Int)), .d (.lst ((TM.words x.z.cps.toList k).map wD)), .d (.int (lo : Int)), .d (.int (hi : Int)), .d (.lst (((TM.words x.z.cps.toList k).map x.worth).map D.int)), .d (wD ((TM.words x.z.cps.toList k).getD lo [])), .d (wD ((TM.words x.z.cps.toList k).getD hi [])), .d (.int due), .d (.int (m : Int)), .d (.int due), .no, .no, .no, .no, .no] σ G H) : wSs W (defS N_law_range_right (defScope s_law_range_right)) 10 ((defBody s_law_range_right).drop 10) D' σ H := by
  have ms := T.m_sum
  have L := R.L
  obtain ⟨k4, c1, c3⟩ := rolls_small R.r
  have hpos := R.pos
  have hle := R.le
  have hn4 := L.n4
  have hlo : lo < (TM.words x.z.cps.toList k).length := by omega
  have r2 := roll2 R.r hlo hhi
  have wlo := R.wo (words_at hlo)
  have whi := R.wo (words_at hhi)
  have seg_mem : ∀ u ∈ seg (TM.words x.z.cps.toList k) lo hi, u ∈ TM.words x.z.cps.toList k := fun u hu => List.mem_of_mem_drop (List.mem_of_mem_take hu)
  have seg_len : (seg (TM.words x.z.cps.toList k) lo hi).length ≤ 81 := by
    unfold seg
    rw [List.length_take, List.length_drop]
    omega
  have beg_len : (beg x.z.cps.toList ((TM.words x.z.cps.toList k).getD lo []) ((TM.words x.z.cps.toList k).getD hi [])).length ≤ 81 := by
    have h := beg_len_le (f := fun b => (TM.words x.z.cps.toList (k - b.length)).map fun t => b ++ t) (fun b => by
      rw [List.length_map]
      exact words_ne (fun e => by rw [e] at c1; exact absurd c1 (by decide)) _) (beg x.z.cps.toList ((TM.words x.z.cps.toList k).getD lo []) ((TM.words x.z.cps.toList k).getD hi []))
    rw [r2.beg hlh] at h
    exact Nat.le_trans h seg_len
  have hblocks := blocks_eq L.w R.r hlo hhi hlh
  refine ws_setLc (i := 13) A sc_law_range_right.nd rfl rfl rfl (jc1 17 sc_law_range_right.nd (xs := beg x.z.cps.toList ((TM.words x.z.cps.toList k).getD lo []) ((TM.words x.z.cps.toList k).getD hi [])) (g := wD) (ji_tup (j_call (ok_beginnings T) (ja_cons (jw_signs iw (jv 1)) (ja_cons (jv 8) (ja_cons (jv 9) ja_nil))) ⟨x.z, toS ((TM.words x.z.cps.toList k).getD lo []), toS ((TM.words x.z.cps.toList k).getD hi []), L.al, wlo.tk, whi.tk, ?_, wlo.l, r2.srt hlh, rfl, rfl⟩)) (f := fun b => D.int (bsum x n b k)) (fun b hb => ?_) (by omega)) fun σ1 G1 H1 A1 => ?_
  · show ((TM.words x.z.cps.toList k).getD lo []).length = ((TM.words x.z.cps.toList k).getD hi []).length
    rw [TM.words_len (words_at hlo), TM.words_len (words_at hhi)]
  · obtain ⟨b1, b2⟩ := r2.len hlh b hb
    exact j_call (ok_block_sum T) (ja_cons (jv 2) (ja_cons (jv 17) (ja_cons (jv 3) ja_nil))) ⟨x, n, 4, k, toS b, L.w, L.wb, by decide, by omega, ⟨b2, by rw [toS_list]; omega⟩, rfl, rfl⟩
  have eb : (beg x.z.cps.toList ((TM.words x.z.cps.toList k).getD lo []) ((TM.words x.z.cps.toList k).getD hi [])).map (fun b => D.int (bsum x n b k)) = ((beg x.z.cps.toList ((TM.words x.z.cps.toList k).getD lo []) ((TM.words x.z.cps.toList k).getD hi [])).map fun b => bsum x n b k).map D.int := by rw [List.map_map]; rfl
  rw [eb] at A1
  have cut : ∀ ds : List D, ds.length = (TM.words x.z.cps.toList k).length → cutD ds (some (lo : Int)) (some ((hi + 1 : Nat) : Int)) = (ds.drop lo).take (hi + 1 - lo) := fun ds h => cutD_mid ds (by omega) (by omega)
  refine ws_setLc (i := 14) A1 sc_law_range_right.nd rfl rfl rfl (jc1 17 sc_law_range_right.nd (xs := seg (TM.words x.z.cps.toList k) lo hi) (g := wD) (ji_lst (JN.lst (JN.is (jn_sliceL (jv 4).l (jo_some (jv 5)) (jo_some (J.is (j_add (jv 6) j_int) (show D.int ((hi : Int) + 1) = .int ((hi + 1 : Nat) : Int) from rfl)))) ?_))) (f := fun u => D.int (x.worth u)) (fun u hu => ?_) (by omega)) fun σ2 G2 H2 A2 => ?_
  · rw [cut _ (by rw [List.length_map])]
    unfold seg
    rw [List.map_take, List.map_drop]
  · obtain ⟨i, hi', hie⟩ := List.getElem_of_mem (seg_mem u hu)
    have hw : wD u = wD ((TM.words x.z.cps.toList k).getD i []) := by rw [TM.getD_at hi', hie]
    refine J.is (jl_range T R hi' hi' (jv 2) (J.is (jv 17) hw) (J.is (jv 17) hw)) ?_
    rw [if_neg (by omega), seg_one hi', TM.getD_at hi', hie]
  have el : (seg (TM.words x.z.cps.toList k) lo hi).map (fun u => D.int (x.worth u)) = ((seg (TM.words x.z.cps.toList k) lo hi).map x.worth).map D.int := by rw [List.map_map]; rfl
  rw [el] at A2
  have ws := sum_wt L.w L.al (n := n) (by omega)
  have wb := sum_wb (n := n) L.w L.al L.wb
  refine ws_set A2 sc_law_range_right.nd (sn 15) (j_call (ok_sums T) (ja_cons (jv 2) ja_nil) ⟨x, n, L.al, L.w, by omega, rfl, rfl⟩) fun σ3 G3 H3 A3 => ?_
  refine ws_set (d := .int due) A3 sc_law_range_right.nd (sn 16) (J.is (j_add (j_sub (jl_worth T (y := sumT x n) (u := (TM.words x.z.cps.toList k).getD hi []) ws wb (by decide) whi.tk (jv 15) (jv 9)) (jl_worth T (y := sumT x n) (u := (TM.words x.z.cps.toList k).getD lo []) ws wb (by decide) wlo.tk (jv 15) (jv 8))) (jl_worth T (y := x) (u := (TM.words x.z.cps.toList k).getD lo []) L.w L.wb (by decide) wlo.tk (jv 2) (jv 8))) ?_) fun σ4 G4 H4 A4 => ?_
  · rw [sum_worth L.w L.al whi.s, sum_worth L.w L.al wlo.s, sumF_roll R.r hhi, sumF_roll R.r hlo, hdue]
    exact congrArg D.int (seg_sum hlh hhi x.worth)
  refine ws_ifF A4 (JT.is (jt_cmp (c_neD (r := true) (ints_lst _).p (ints_lst _).p ((ints_lst _).shaped (by decide)) ((ints_lst _).shaped (by decide)) (SeqAt.eqv_refl _ (ints_lst [due, due, due, due]).c)) (JN.lst (jn_lst (ja_cons (jv 12) (ja_cons (J.is (j_sum (jv 13).l) ?_) (ja_cons (J.is (j_sum (jv 14).l) ?_) (ja_cons (jv 16) ja_nil)))) (by show 4 ≤ 100000; decide))) (J.is (JN.lst (jn_rep (n := 4) (ds := [.int due]) (JN.l (jn_lst (ja_cons (jv 10) ja_nil) (by show 1 ≤ 100000; decide))) j_int (by show 1 * 4 ≤ 100000; decide) (by decide))) rfl)) rfl) fun G5 H5 A5 => ?_
  · rw [TM.lsum_eq, hblocks, hdue]
  · rw [TM.lsum_eq, hdue]
  refine wsd_ret A5 dk (jr_call (ok_law_roll_right T) (ja_cons (jv 1) (ja_cons (jv 2) (ja_cons (jv 3) (ja_cons (jv 4) (ja_cons (jv 7) ja_nil))))) ⟨x, n, k, dw, R, iw, rfl⟩) hN fun d v G' H' hR s d' r => ?_
  have : d = .bl true := hR
  subst this
  exact fin v G' H' s d' r
theorem ok_law_range_right {W : Gx} (T : Tx W) : OkD W 11 "_law_range_right" 2 10 (f_lw_pre W) f_true := by
  have ms := T.m_sum
  have ml := T.m_len
  have mso := T.m_sorted
  have mrp := T.m_repr
  refine okD_of T 61 61 (x := "_law_range_right") (d := d_law_range_right) (N := N_law_range_right) (ps := ["_law_deck_here", "_law_w", "_law_code_here"]) (k := 10) (n := 2) rfl rfl rfl rfl rfl sc_law_range_right rfl (fun _ _ _ _ _ _ us hl => match us, hl with | [_, _, _], _ => rfl) fun ds p q G0 H0 M σ D' hpre hn dk hM A fin => ?_
  obtain ⟨x, n, dw, L, iw, rfl⟩ := hpre
  obtain ⟨l1, l3⟩ := al3 L.al
  have zl : x.z.length = x.z.cps.toList.length := rfl
  -- the length
  refine wsd_set (R := fun d => ∃ k : Nat, d = .int (k : Int) ∧ (x.z.cps.toList, k) ∈ rolls) (c := 1) A dk sc_law_range_right.nd (sn 3) (JR.imp (jr_call (ok_law_draw T) (ja_cons (j_if (r := decide (x.z.cps.toList.length < 3)) (dr := .int ((if x.z.cps.toList.length < 3 then 5 else 4 : Nat) : Int)) (JT.is (jt_cmp c_ltI (j_lenS (jw_signs iw (jv 1)) (by omega)) j_int) (decide_eq_decide.mpr (by omega))) (fun h => J.is j_int (by rw [if_pos (of_decide_eq_true h)]; rfl)) fun h => J.is j_int (by rw [if_neg (of_decide_eq_false h)]; rfl)) ja_nil) ⟨_, rfl, by split <;> decide, by split <;> decide⟩) ?_) (by omega) fun Hb1 d1 σ1 G1 H1 hR1 bl1 A1 dk1 => ?_
  · rintro d ⟨m, r, e, rfl, hr⟩
    have e1 := List.head_eq_of_cons_eq e
    injection e1 with e1
    have e2 := Int.ofNat.inj e1
    exact ⟨r, rfl, roll_mem L.al (by rw [e2]; exact hr)⟩
  obtain ⟨k, rfl, hroll⟩ := hR1
  have R : RR x n k := ⟨L, hroll⟩
  obtain ⟨k4, c1, c3⟩ := rolls_small hroll
  have hpos := R.pos
  have hle := R.le
  have hn4 := L.n4
  have hWlen : ((TM.words x.z.cps.toList k).map wD).length = (TM.words x.z.cps.toList k).length := List.length_map ..
  have hfl := foundW_len l3 k4
  have hfl2 : (foundW x.z.cps.toList k).length ≤ 405 := Nat.le_trans hfl (by omega)
  -- all words
  refine ws_setLc (i := 4) (ds := (TM.words x.z.cps.toList k).map wD) A1 sc_law_range_right.nd rfl rfl rfl ?_ fun σ2 G2 H2 A2 => ?_
  · rw [← foundW_filter]
    refine jc1If 17 (fun w => decide (w.length = k)) sc_law_range_right.nd (ji_lst (j_call (ok_law_pages T) (ja_cons (jw_signs iw (jv 1)) (ja_cons (jv 3) ja_nil)) ⟨x.z, k, L.al, k4, rfl, rfl⟩)) (fun w hw => ?_) (f := wD) (fun w hw _ => jv 17) (by omega)
    have := foundW_le hw
    refine JT.is (jt_cmp c_eqI (j_lenS (z := toS w) (jv 17) (by rw [wD_len]; omega)) (jv 3)) ?_
    rw [wD_len]
    exact decide_eq_decide.mpr (by omega)
  refine wsd_sorted2 (c1 := 1) (c2 := 1) (m := (TM.words x.z.cps.toList k).length) A2 dk1 sc_law_range_right.nd (sn 5) (sn 6) (by decide) (JR.imp (jr_call (ok_law_draw T) (ja_cons (J.is (j_lenL (jv 4).l) (by rw [hWlen])) ja_nil) ⟨_, rfl, by omega, by omega⟩) ?_) (JR.imp (jr_call (ok_law_draw T) (ja_cons (J.is (j_lenL (jv 4).l) (by rw [hWlen])) ja_nil) ⟨_, rfl, by omega, by omega⟩) ?_) (by omega) fun Hb3 lo hi σ3 G3 H3 hlh hhi bl3 A3 dk3 => ?_
  · rintro d ⟨m, r, e, rfl, hr⟩
    have e1 := List.head_eq_of_cons_eq e
    injection e1 with e1
    exact ⟨r, rfl, by omega⟩
  · rintro d ⟨m, r, e, rfl, hr⟩
    have e1 := List.head_eq_of_cons_eq e
    injection e1 with e1
    exact ⟨r, rfl, by omega⟩
  have hlo : lo < (TM.words x.z.cps.toList k).length := by omega
  have bl1' := bl1.trans bl3
  have r1 := roll1 R.r hhi
  have r2 := roll2 R.r hlo hhi
  have wlo := R.wo (words_at hlo)
  have whi := R.wo (words_at hhi)
  obtain ⟨due, hdue⟩ : ∃ due, due = TM.lsum (seg (TM.words x.z.cps.toList k) lo hi) x.worth := ⟨_, rfl⟩
  have seg_mem : ∀ u ∈ seg (TM.words x.z.cps.toList k) lo hi, u ∈ TM.words x.z.cps.toList k := fun u hu => List.mem_of_mem_drop (List.mem_of_mem_take hu)
  have seg_len : (seg (TM.words x.z.cps.toList k) lo hi).length ≤ 81 := by
    unfold seg
    rw [List.length_take, List.length_drop]
    omega
  have dlog : due.natAbs.log2 < 1920 := by
    rw [hdue]
    exact sum_log (b := 116 + 4 + 10) x.worth (fun u hu => L.worth_bd (R.wo (seg_mem u hu))) (Nat.lt_of_le_of_lt seg_len (by decide)) (by decide)
  -- their worths
  refine ws_setLc (i := 7) (ds := (TM.words x.z.cps.toList k).map fun u => D.int (x.worth u)) A3 sc_law_range_right.nd rfl rfl rfl (jc1 17 sc_law_range_right.nd (ji_lst (jv 4)) (fun u hu => jl_lworth T L iw (R.wo hu) (jv 1) (jv 17)) (by omega)) fun σ4 G4 H4 A4 => ?_
  rw [show (TM.words x.z.cps.toList k).map (fun u => D.int (x.worth u)) = ((TM.words x.z.cps.toList k).map x.worth).map D.int by rw [List.map_map]; rfl] at A4
  refine ws_par (i := 8) (j := 9) (d := wD ((TM.words x.z.cps.toList k).getD lo [])) (d' := wD ((TM.words x.z.cps.toList k).getD hi [])) A4 sc_law_range_right.nd rfl rfl rfl rfl (by decide) (ja_cons (j_ixL (jv 4).l (jv 5) (atI_nat (R.at_ hlo))) (ja_cons (j_ixL (jv 4).l (jv 6) (atI_nat (R.at_ hhi))) ja_nil)) fun σ5 G5 H5 A5 => ?_
  have cut : ∀ ds : List D, ds.length = (TM.words x.z.cps.toList k).length → cutD ds (some (lo : Int)) (some ((hi + 1 : Nat) : Int)) = (ds.drop lo).take (hi + 1 - lo) := fun ds h => cutD_mid ds (by omega) (by omega)
  refine ws_set (d := .int due) A5 sc_law_range_right.nd (sn 10) (J.is (j_sum (ns := (seg (TM.words x.z.cps.toList k) lo hi).map x.worth) (JN.l (JN.is (jn_sliceL (jv 7).l (jo_some (jv 5)) (jo_some (J.is (j_add (jv 6) j_int) (show D.int ((hi : Int) + 1) = .int ((hi + 1 : Nat) : Int) from rfl)))) ?_))) ?_) fun σ6 G6 H6 A6 => ?_
  · rw [cut _ (by rw [List.length_map, List.length_map])]
    unfold seg
    rw [List.map_take, List.map_take, List.map_drop, List.map_drop]
  · rw [TM.lsum_eq, hdue]
  obtain ⟨v2, hv2⟩ : ∃ v2, v2 = if lo < hi then 0 else due := ⟨_, rfl⟩
  refine ws_ifF A6 (JT.is (jt_or (r := false) (r' := false) (JT.is (jt_cmp c_neS (j_repr (i := due) (J.is (jl_range T R hlo hhi (jv 2) (jv 8) (jv 9)) (by rw [if_neg (by omega), hdue])) dlog) (j_repr (jv 10) dlog)) ?_) (fun _ => JT.is (jt_cmp c_neI (J.is (jl_range T R hhi hlo (jv 2) (jv 9) (jv 8)) (show _ = D.int v2 from ?_)) (j_if (r := decide (lo = hi)) (dr := .int v2) (JT.is (jt_cmp c_eqI (jv 5) (jv 6)) (decide_eq_decide.mpr (by omega))) (fun h => J.is (jv 10) ?_) fun h => J.is j_int ?_)) ?_)) rfl) fun G7 H7 A7 => ?_
  · rw [decide_eq_true rfl]
    rfl
  · congr 1
    rw [hv2]
    by_cases h : lo < hi
    · rw [if_pos h, if_pos h]
    · have : lo = hi := by omega
      subst this
      rw [if_neg h, if_neg h, hdue]
  · have := of_decide_eq_true h
    rw [hv2, if_neg (by omega)]
  · have := of_decide_eq_false h
    rw [hv2, if_pos (by omega)]
  · rw [decide_eq_true rfl]
    rfl
  -- cut in two
  refine wsd_set (R := fun d => ∃ m : Nat, d = .int (m : Int) ∧ lo ≤ m ∧ m ≤ hi) (c := 1) A7 dk3 sc_law_range_right.nd (sn 11) (JR.imp (jr_addI (R := fun d => ∃ r : Nat, d = .int (r : Int) ∧ r < hi - lo + 1) (jv 5) (JR.imp (jr_call (ok_law_draw T) (ja_cons (J.is (j_add (j_sub (jv 6) (jv 5)) j_int) (show D.int ((hi : Int) - (lo : Int) + 1) = .int ((hi - lo + 1 : Nat) : Int) by congr 1; omega)) ja_nil) ⟨_, rfl, by omega, by omega⟩) ?_)) ?_) (by omega) fun Hb8 d8 σ8 G8 H8 hR8 bl8 A8 dk8 => ?_
  · rintro d ⟨m, r, e, rfl, hr⟩
    have e1 := List.head_eq_of_cons_eq e
    injection e1 with e1
    exact ⟨r, rfl, r, rfl, by omega⟩
  · rintro d ⟨i, rfl, r, e, hr⟩
    injection e with e
    subst e
    exact ⟨lo + r, by congr 1, by omega, by omega⟩
  obtain ⟨m, rfl, hm1, hm2⟩ := hR8
  have hmm : m < (TM.words x.z.cps.toList k).length := by omega
  have bl8' := bl1'.trans bl8
  refine ws_set (d := .int (TM.lsum (seg (TM.words x.z.cps.toList k) lo m) x.worth)) A8 sc_law_range_right.nd (sn 12) (J.is (jl_range T R hlo hmm (jv 2) (jv 8) (j_ixL (jv 4).l (jv 11) (atI_nat (R.at_ hmm)))) (by rw [if_neg (by omega)])) fun σ9 G9 H9 A9 => ?_
  have rest : ∀ σ G H, At W G0 Hb8 [.raw (.ref p), .d dw, .d (tlD W x), .d (.int (k : Int)), .d (.lst ((TM.words x.z.cps.toList k).map wD)), .d (.int (lo : Int)), .d (.int (hi : Int)), .d (.lst (((TM.words x.z.cps.toList k).map x.worth).map D.int)), .d (wD ((TM.words x.z.cps.toList k).getD lo [])), .d (wD ((TM.words x.z.cps.toList k).getD hi [])), .d (.int due), .d (.int (m : Int)), .d (.int due), .no, .no, .no, .no, .no] σ G H → wSs W (defS N_law_range_right (defScope s_law_range_right)) 10 ((defBody s_law_range_right).drop 10) D' σ H := fun σ G H A => range_rest T R iw hlh hhi hdue dk8 (by omega) (fun v G' H' s d r => fin.rt _ v G' H' (bl8'.stpL s) (d.le (by omega)) rfl r) A
  refine ws_if A9 (jt_cmp c_ltI (jv 11) (jv 6)) (fun h G10 H10 A10 => ?_) fun h G10 H10 A10 => ws_nil ?_
  · have hmh : m < hi := by
      have := of_decide_eq_true h
      omega
    have hm3 : m + 1 < (TM.words x.z.cps.toList k).length := by omega
    have rm := roll1 R.r hmm
    have wm := R.wo (words_at hmm)
    refine ws_set (d := .int due) A10 sc_law_range_right.nd (sn 12) (J.is (j_add (jv 12) (jl_range T R hm3 hhi (jv 2) (J.is (j_call (ok_ticket_behind T) (ja_cons (jw_signs iw (jv 1)) (ja_cons (j_ixL (jv 4).l (jv 11) (atI_nat (R.at_ hmm))) ja_nil)) ⟨x.z, toS ((TM.words x.z.cps.toList k).getD m []), L.al, wm.tk, rfl, rfl⟩) ?_) (jv 9))) ?_) fun σ11 G11 H11 A11 => ws_nil (rest _ _ _ A11)
    · rw [toS_list, behind_D, rm.bhd hm3]
    · rw [if_neg (by omega), hdue]
      exact congrArg D.int (seg_split hm1 hmh hhi x.worth)
  · have hmh : m = hi := by
      have := of_decide_eq_false h
      omega
    subst hmh
    rw [← hdue] at A10
    exact rest _ _ _ A10
end TH
set_option maxHeartbeats 4000000
namespace TH
open PySem PySem.Spec PyProof.Rows L2
abbrev GE : Hp := fun _ => none
theorem exE (H : Hp) : Ex GE H := fun _ _ h => nomatch h
/-- from a script it makes a deck -/
def spK (K : PySem.W.Frag) : Sp := fun vs H Q _ => ∃ (G : Hp) (a : Addr) (ns : List Int), vs = [V.ref a] ∧ Ex G H ∧ SqL K H a (ns.map V.int) ∧ ns.length ≤ 63 ∧ ∀ p q G' H', Stp G H G' H' → H p = none → H q = none → Deck G' H' p q 0 → Q (.ref p) H'
structure OkK (W : Gx) (k : Nat) : Prop where
  ex : ∃ fa fd ps, W.mg "_law_deck" = some (.ref fa) ∧ PySem.W.keepIn W.K (.ref fa) = true ∧ Binds W.K fd ps [] ∧ FnOk W.P W.w W.K W.mg W.base CX0 k fa fd ps (spK W.K)
def mixS (m c : Int) : Int := (m * 39373 + c % 2147483629 + 293) % 2147483587
def mixF (ns : List Int) : Int := ns.foldl mixS 10870820
theorem mixF_bd (ns : List Int) : 0 ≤ mixF ns ∧ mixF ns < 2147483587 := by
  have : ∀ (l : List Int) (m : Int), (0 ≤ m ∧ m < 2147483587) → 0 ≤ l.foldl mixS m ∧ l.foldl mixS m < 2147483587 := fun l => by
    induction l with
    | nil => exact fun m h => h
    | cons c l ih => exact fun m _ => ih _ ⟨Int.emod_nonneg _ (by decide), Int.emod_lt_of_pos _ (by decide)⟩
  exact this ns _ ⟨by decide, by decide⟩
theorem ok_law_deck {W : Gx} (T : Tx W) : OkK W 1 := by
  have ml := T.m_list
  have mi := T.m_int
  obtain ⟨fd, F⟩ := T.def_ 48 (d := d_law_deck) rfl
  refine ⟨He.ga W.K "_law_deck", fd, ["_law_script"], T.glo 48, F.kp, F.bindsN (fun _ _ _ _ _ _ us hl => match us, hl with | [_], _ => rfl), ?_⟩
  refine F.ok sc_law_deck (fun vs H Q E hs => ?_) fun cdv A outer s H vs Q E hr hsp => ?_
  · obtain ⟨G, a, ns, rfl, _⟩ := hs
    rfl
  obtain ⟨GE, a, ns, rfl, xE, hS, hl, f⟩ := hsp
  refine ⟨_, pss_w (W := W) (S := defS N_law_deck d_law_deck.scope) (k := 0) (X := cxOf CX0 W.P W.w W.K W.mg W.base N_law_deck d_law_deck.qual d_law_deck.scope _ cdv A outer s H E) ⟨rfl, rfl, rfl, rfl, rfl, rfl, rfl, rfl, rfl, hr⟩ d_law_deck.body, ?_⟩
  have A0 : At W GE H (startD N_law_deck a []) (L2.start N_law_deck [.ref a]) GE H := startD_at xE rfl
  generalize L2.start N_law_deck [V.ref a] = σ0 at A0
  -- cells, mixed
  refine wSs_cons (wS_X (fun X hX => ps_par (i := 1) (j := 2) hX.calm (by rw [hX.N]; exact sc_law_deck.nd) (by rw [hX.N]; rfl) (by rw [hX.N]; rfl) (by decide) (by rw [hX.sc]; rfl) (by rw [hX.sc]; rfl) (pa_cons (pe_callTy call_list_of (hX.gl rfl) (by rw [hX.mg]; exact ml) (by decide +kernel) (pa_cons (pe_slice sl_list (pe_w hX (.Name "_law_script" _)) (po_w hX none) (po_w hX (some _))) pa_nil rfl) (by decide) (by decide) rfl rfl) (pa_cons (pe_w hX _) pa_nil rfl) rfl) (by have h := hX.sc; generalize X.env = en at h; cases en; cases h; rfl) rfl) fun X hX => ?_)
  refine (jraw 0) σ0 GE H A0.s.s A0.e _ fun u G1 H1 s1 eu => ?_
  subst eu
  have A1 := A0.mono s1
  refine JO.run (o := none) jo_none A1.s.s A1.e fun G2 H2 s2 => JO.run (o := some 63) (jo_some j_int) s2.s (A1.e.mono s2) fun G3 H3 s3 => ?_
  have A3 := A1.mono (s2.trans s3)
  have cutN : cutV (ns.map V.int) none (some 63) = ns.map V.int := by
    unfold cutV
    rw [HT.sIx_none, show HT.sIx (ns.map V.int).length (ns.map V.int).length (some 63) = min 63 (ns.map V.int).length from rfl, List.drop_zero, Nat.sub_zero, List.take_of_length_le (by rw [List.length_map]; omega)]
  refine ⟨a, ns.map V.int, rfl, by rw [hX.K]; exact ex_l A3.s.h hS, fun c hc => ?_⟩
  rw [cutN]
  have s4 : Stp G3 H3 G3 (upd H3 c (.lst (ns.map V.int))) := .newO A3.s.s hc
  have A4 := A3.mono s4
  refine ⟨c, ns.map V.int, rfl, .inl (.of upd_same), fun l hl => ?_⟩
  have A5 := A4.setO (i := 1) (ds := ns.map D.int) (Stp.newO (o := .lst (ns.map V.int)) A4.s.s hl) hl (A4.s.s.none hl) upd_same (.of_ints ns)
  have s5 : Stp G3 (upd H3 c (.lst (ns.map V.int))) G3 (upd (upd H3 c (.lst (ns.map V.int))) l (.lst (ns.map V.int))) := .newO A4.s.s hl
  refine (j_int (i := 10870820)) σ0 G3 _ s5.s (A4.e.mono s5) _ fun v G6 H6 s6 ev => ?_
  have ev' : v = V.int 10870820 := ev
  subst ev'
  have A6 := (A5.mono s6).set (i := 2) (x := .int 10870820) (v := .int 10870820) rfl
  refine ⟨.ref l, .int 10870820, rfl, ?_⟩
  obtain ⟨G7, A7⟩ := A6.freeze (i := 1) rfl
  refine ws_for (items := ns.map D.int) (t := .one 3) (fun i => [.raw (.ref a), .d (.lst (ns.map D.int)), .d (.int (mixF (ns.take i))), .no]) A7 sc_law_deck.nd (ji_lst (jv 1)) (.one (sn 3)) (fun _ _ => trivial) (Le.refl _) (fun Gb m dd σ8 G8 H8 nx hd A8 hnx => ?_) fun σ8 G8 H8 A8 => ?_
  · rw [List.getElem?_map] at hd
    obtain ⟨x, hx, rfl⟩ := Option.map_eq_some_iff.mp hd
    refine ws_set (d := .int (mixF (ns.take (m + 1)))) A8 sc_law_deck.nd (sn 2) (J.is (j_mod (j_intI (j_add (j_add (j_mul (jv 2) j_int (.inr (by decide))) (j_mod (j_intI (jv 3)) j_int (by decide))) j_int)) j_int (by decide)) ?_) fun σ9 G9 H9 A9 => ?_
    · rw [take_succ_get hx]
      unfold mixF
      rw [List.foldl_append]
      rfl
    · exact ws_nil (hnx σ9 G9 H9 (At.le A9 (.cons (.cons (.cons (.no .nil))))))
  · rw [List.length_map, List.take_length] at A8
    obtain ⟨b1, b2⟩ := mixF_bd ns
    refine wSs_cons (wS_X (fun X hX => ps_ret (pe_disp (pps_cons (pe_w hX _) (pe_revL (pe_w hX (.Name "_law_cells" _))) (pps_cons (pe_w hX _) (pe_w hX _) (pps_cons (pe_w hX _) (pe_w hX _) pps_nil))) rfl rfl (fun z => nomatch z) (Nat.le_of_ble_eq_true rfl))) fun X hX => ?_)
    intro p hp
    have t1 : Stp G8 H8 G8 (upd H8 p (.dK [])) := .newO A8.s.s hp
    have B1 := A8.mono t1
    refine (j_str (z := "cells")) σ8 G8 _ B1.s.s B1.e _ fun u1 G9 H9 s9 e9 => ?_
    have B2 := B1.mono s9
    refine (jv 1 (d := .lst (ns.map D.int))) σ8 G9 H9 B2.s.s B2.e _ fun u2 G10 H10 s10 ⟨c2, vs2, e10, h10, r10⟩ => ?_
    subst e10
    rw [r10.ints] at h10
    have B3 := B2.mono s10
    refine ⟨c2, ns.map V.int, rfl, .inl (.of (B3.s.s _ _ h10)), fun q hq => ?_⟩
    rw [← List.map_reverse]
    have s11 : Stp G10 H10 G10 (upd H10 q (.lst (ns.reverse.map V.int))) := .newO B3.s.s hq
    have B4 := B3.mono s11
    refine (j_str (z := "mixed")) σ8 G10 _ B4.s.s B4.e _ fun u3 G12 H12 s12 e12 => ?_
    have B5 := B4.mono s12
    refine (jv 2 (d := .int (mixF ns))) σ8 G12 H12 B5.s.s B5.e _ fun u4 G13 H13 s13 e13 => ?_
    have B6 := B5.mono s13
    refine (j_str (z := "turn")) σ8 G13 H13 B6.s.s B6.e _ fun u5 G14 H14 s14 e14 => ?_
    have B7 := B6.mono s14
    refine (j_int (i := 0)) σ8 G14 H14 B7.s.s B7.e _ fun u6 G15 H15 s15 e15 => ?_
    have B8 := B7.mono s15
    have e9' : u1 = V.str "cells" := e9
    have e12' : u3 = V.str "mixed" := e12
    have e13' : u4 = V.int (mixF ns) := e13
    have e14' : u5 = V.str "turn" := e14
    have e15' : u6 = V.int 0 := e15
    subst e9' e12' e13' e14' e15'
    -- what stands of the new things
    have t2 := (((s11.trans s12).trans s13).trans s14).trans s15
    have t3 := ((s9.trans s10).trans t2)
    have p1 : H15 p = some (.dK []) := t3.h _ _ upd_same
    have gp : G15 p = none := t3.o p (by rw [upd_same]; exact fun z => nomatch z) (A8.s.s.none hp)
    have q1 : H15 q = some (.lst (ns.reverse.map V.int)) := (((s12.trans s13).trans s14).trans s15).h _ _ upd_same
    have gq : G15 q = none := (((s12.trans s13).trans s14).trans s15).o q (by rw [upd_same]; exact fun z => nomatch z) (B3.s.s.none hq)
    have hpq : p ≠ q := fun e => by
      rw [← e, p1] at q1
      injection q1 with q1
      injection q1
    have em : mergeK [] [((.inr "cells" : Key), V.ref q), (.inr "mixed", .int (mixF ns)), (.inr "turn", .int 0)] = dkK q (mixF ns) 0 := by
      rw [mergeK_new _ [] (by show ([.inr "cells", .inr "mixed", .inr "turn"] : List Key).Nodup; decide)]
      rfl
    refine ⟨p1, [(.inr "cells", .ref q), (.inr "mixed", .int (mixF ns)), (.inr "turn", .int 0)], rfl, Nat.le_of_ble_eq_true rfl, ?_⟩
    rw [em]
    have hpH : H p = none := A8.s.h.none hp
    have hqH : H q = none := B3.s.h.none hq
    have sf : Stp GE H G15 (upd H15 p (.dK (dkK q (mixF ns) 0))) := B8.s.mut hpH gp
    exact f p q G15 _ sf hpH hqH ⟨hpq, gp, gq, ns.reverse, mixF ns, 0, upd_same, by rw [upd_ne (Ne.symm hpq)]; exact q1, b1, b2, Nat.le_refl _, by rw [List.length_reverse]; omega⟩
end TH
set_option maxHeartbeats 4000000
namespace TH
open PySem PySem.Spec PyProof.Rows L2
section
variable {W : Gx} {S : Sc} {k : Nat} {G0 H0 G H : Hp} {env : List Sl} {σ : L2.St} {D' : Ends} {rest : List Stmt} {e a b c tg : Expr} {pos pos' p p1 p2 : Pos} {x y : Str} {i j : Nat} {d d' : D}
/-- for target in a source that draws; the body does not draw -/
theorem ws_forJ {body : List Stmt} {Rn : List D → Prop} {t : Tg} {N cst : Nat} {q1 q2 : Addr} (envs : Nat → List Sl) (A : At W G0 H0 env σ G H) (dk : Deck G0 H0 q1 q2 N) (nd : S.N.Nodup) (hi : JID W S k q1 q2 tg e env cst Rn) (hcst : N + cst ≤ 1000000) (ht : TgE S tg t) (hfit : ∀ items, Rn items → ∀ d ∈ items, t.fits d) (h0 : Le env (envs 0))
    (hb : ∀ (Gb Hb : Hp) items n d σ' G' H' (nx : L2.St → Hp → Prop), Rn items → items[n]? = some d → At W Gb Hb (bnd t d (envs n)) σ' G' H' → (∀ σ2 G2 H2, At W Gb Hb (envs (n + 1)) σ2 G2 H2 → nx σ2 H2) → wSs W S k body { D' with nx := nx, ct := nx, bk := wSs W S k rest D' } σ' H')
    (next : ∀ Hb items σ' G' H', Rn items → BaseL q1 q2 H0 Hb → Deck G0 Hb q1 q2 (N + cst) → At W G0 Hb (envs items.length) σ' G' H' → wSs W S k rest D' σ' H') (hs : ∀ (env : Env) x, foldedSetIterable e env x = pure x := by intro _ _; rfl)
     : wSs W S k (.For tg e body [] pos :: rest) D' σ H :=
  wSs_cons (wS_X (fun X hX => (ps_for (X := X.nox) PassesOwn.never hX.calm (pi_w (show CC W S k X.nox from ⟨hX.P, hX.w, hX.K, hX.mg, hX.base, hX.N, hX.sc, hX.fb, hX.calm, hX.room⟩) tg e) (pg_tg (show CC W S k X.nox from ⟨hX.P, hX.w, hX.K, hX.mg, hX.base, hX.N, hX.sc, hX.fb, hX.calm, hX.room⟩) nd ht) (pss_w (show CC W S k X.nox from ⟨hX.P, hX.w, hX.K, hX.mg, hX.base, hX.N, hX.sc, hX.fb, hX.calm, hX.room⟩) body) (hs X.env)) |> fun h => ⟨fun pins s σ H D I q => wpAny_mono (h.run pins s σ H D (I.wish _) q) (fun f s' z => z.unwish) fun _ _ z => z.elim⟩) fun X hX =>
    hi σ G H N A.s.s A.e (A.off dk) (A.deck dk) hcst _ fun I items G1 H1 s1 d1 hRn ok => by
      obtain ⟨Hb, bl, A1', dk1⟩ := A.draw dk s1 d1
      have A1 := A1'.le h0
      refine ⟨fun n m σ' H' => n + m = items.length ∧ ∃ G', At W G1 Hb (envs n) σ' G' H', ⟨items.length, Nat.zero_add _, G1, A1.rebase⟩, fun n m σ' H' hw => ?_⟩
      obtain ⟨hm, G', A'⟩ := hw
      have g' := A'.s.g
      by_cases hlt : n < items.length
      · refine .inr ⟨ok.go n G' H' hlt g' A'.s.s, fun σ2 H2 => ∃ G2, At W G1 Hb (envs (n + 1)) σ2 G2 H2, fun σ2 H2 ⟨G2, A2⟩ => ⟨m - 1, by omega, by omega, G2, A2⟩, fun v H2 hy => ?_⟩
        obtain ⟨dt, hdt⟩ : ∃ d, items[n]? = some d := ⟨_, List.getElem?_eq_getElem hlt⟩
        obtain ⟨G2, s2, r2⟩ := ok.yld n dt G' H' v H2 hdt g' A'.s.s hy
        have fit := hfit items hRn dt (List.mem_of_getElem? hdt)
        have A2 := A'.mono s2
        have A3 : ∀ (σ3 : L2.St), EnvR W.K G2 H2 σ3 (bnd t dt (envs n)) → (∀ i, i ∉ t.ix → σ3[i]? = σ'[i]?) → At W G1 Hb (bnd t dt (envs n)) σ3 G2 H2 := fun σ3 E3 hsame => by
          have key : ∀ (j : Nat) (ds : List D), (bnd t dt (envs n))[j]? = some (.own ds) → (envs n)[j]? = some (.own ds) ∧ j ∉ t.ix := fun j ds hj => by
            cases t with
            | one i =>
              rcases get_set hj with ⟨_, q⟩ | ⟨ne, q⟩
              · cases q
              · exact ⟨q, fun z => ne (List.mem_singleton.mp z).symm⟩
            | two i i' =>
              obtain ⟨a, b, rfl⟩ := fit
              rcases get_set hj with ⟨_, q⟩ | ⟨ne, q⟩
              · cases q
              · rcases get_set q with ⟨_, q2⟩ | ⟨ne2, q2⟩
                · cases q2
                · refine ⟨q2, fun z => ?_⟩
                  rcases List.mem_cons.mp z with z | z
                  · exact ne2 z.symm
                  · exact ne (List.mem_singleton.mp z).symm
          refine ⟨A2.s, E3, fun j ds q h1 h2 => ?_, fun j j' ds es q h1 h2 h3 h4 => ?_⟩
          · obtain ⟨k1, k2⟩ := key j ds h1
            rw [hsame j k2] at h2
            exact A2.fresh j ds q k1 h2
          · obtain ⟨k1, k2⟩ := key j ds h1
            obtain ⟨k3, k4⟩ := key j' es h2
            rw [hsame j k2] at h3
            rw [hsame j' k4] at h4
            exact A2.dis j j' ds es q k1 k3 h3 h4
        refine gTg_run A2.s.s A2.e r2 fit fun σ3 E3 hsame _ => ?_
        exact hb G1 Hb items n dt σ3 G2 H2 _ hRn hdt (A3 σ3 E3 hsame) fun σ4 G4 H4 A4 => ⟨G4, A4⟩
      · have en : n = items.length := by omega
        subst en
        exact .inl ⟨ok.stop G' H' g' A'.s.s, next Hb items σ' G' H' hRn bl dk1 (A'.unbase A1.s)⟩)
end
section
variable {W : Gx} {S : Sc} {k : Nat} {p q : Addr} {env : List Sl} {a b e tg : Expr} {pos p1 p2 : Pos} {N c : Nat}
theorem jid_lst {Rn : List D → Prop} (h : JR W S k p q e env c fun d => ∃ ds, d = .lst ds ∧ Rn ds) : JID W S k p q tg e env c Rn := fun σ G H N x E of dk hn R f =>
  wI_X (fun X hX => pi_list (pe_w hX e)) fun X hX => h σ G H N x E of dk hn _ fun v G1 H1 s1 d1 ⟨dd, ⟨ds, e0, hR⟩, r⟩ => by
    subst e0
    obtain ⟨p1, vs, e1, h1, r1⟩ := r
    subst e1
    rw [hX.K]
    refine ⟨p1, rfl, ⟨vs, .of (s1.s _ _ h1)⟩, f _ ds G1 H1 s1 d1 hR ⟨fun m G2 H2 hm g2 x2 => ?_, fun G2 H2 g2 x2 => ?_, fun m d G2 H2 u H3 hd g2 x2 hy => ?_⟩⟩
    · have hl : m < vs.length := by rw [r1.length]; exact hm
      exact ⟨vs, vs[m], .of (x2 _ _ (g2 _ _ h1)), List.getElem?_eq_getElem hl⟩
    · exact ⟨vs, .of (x2 _ _ (g2 _ _ h1)), by rw [r1.length]; exact Nat.le_refl _⟩
    · obtain ⟨e3, h3⟩ := hy
      rw [e3]
      obtain ⟨w, h4, h5⟩ := r1.get hd
      have h6 := h3 vs (.of (x2 _ _ (g2 _ _ h1)))
      rw [h4] at h6
      cases h6
      exact ⟨G2, .refl x2, h5.mono g2⟩
/-- a list and a new list that draws -/
theorem jrn_cat {ds : List D} {L : Nat} {R : List D → Prop} (ha : J W S k a env (.lst ds)) (hb : JRN W S k p q b env c R) (hl : ∀ es, R es → es.length ≤ L) (hL : ds.length + L ≤ 100000) : JRN W S k p q (.BinOp a .Add b pos) env c fun l => ∃ es, l = ds ++ es ∧ R es := fun σ G H N x E of dk hn Q f =>
  wE_of (fun X hX => pe_op op_cat (pe_w hX a) (pe_w hX b)) (ha σ G H x E _ fun u G1 H1 s1 ⟨p1, xs, e1, h1, r1⟩ => hb σ G1 H1 N s1.s (E.mono s1) of (dk.mono s1) hn _ fun p2 ys es G2 H2 s2 d2 n2 g2 h2 r2 hR => by
    subst e1
    have := hl es hR
    refine ⟨p1, p2, xs, ys, rfl, rfl, s2.s _ _ (s2.g _ _ h1), h2, sz (by rw [r1.length, r2.length]; omega), fun l hl => ?_⟩
    have s3 : Stp G2 H2 G2 (upd H2 l (.lst (xs ++ ys))) := .newO s2.s hl
    have s := s1.l.trans s2
    refine f l (xs ++ ys) (ds ++ es) G2 _ (s.trans s3.l) (d2.mono s3) ?_ (s2.s.none hl) upd_same ((r1.mono s2.g).append r2) ⟨es, rfl, hR⟩
    cases hh : H l with
    | none => rfl
    | some o => exact absurd hl (s.k l (by rw [hh]; exact fun z => nomatch z)))
/-- e == m, e draws -/
theorem jr_eqI {m : Int} (ha : JR W S k p q a env c fun d => ∃ i : Int, d = .int i) (hb : J W S k b env (.int m)) (hm : behindInMarks .Eq b = false := by first | exact nomark _ | rfl) : JR W S k p q (.Compare a [.Eq] [b] pos) env c fun d => ∃ r : Bool, d = .bl r := fun σ G H N x E of dk hn Q f =>
  wE_of (fun X hX => pe_cmpR op_eq (pe_w hX a) (pe_w hX b) hm) (ha σ G H N x E of dk hn _ fun u G1 H1 s1 d1 ⟨dd, ⟨i, ei⟩, r1⟩ => by
    subst ei
    exact hb σ G1 H1 s1.s (E.monoL of s1) _ fun v G2 H2 s2 r2 => by
      have h1 : u = V.int i := r1
      have h2 : v = V.int m := r2
      subst h1 h2
      refine ⟨rfl, ?_⟩
      exact f _ G2 H2 (s1.trans s2.l) (d1.mono s2) ⟨.bl (decide (V.int i = V.int m)), ⟨_, rfl⟩, rfl⟩)
/-- int(e), e draws a bool -/
theorem jr_intB (ha : JR W S k p q e env c fun d => ∃ r : Bool, d = .bl r) (hg : GlS S "int" := by exact rfl) (hm : W.mg "int" = none := by assumption) (he : Plain e := by intro _ _; rfl) : JR W S k p q (.Call (.Name "int" p1) [e] [] pos) env c fun d => ∃ i : Int, d = .int i ∧ (i = 0 ∨ i = 1) := fun σ G H N x E of dk hn Q f =>
  wE_X (fun X hX => pe_callTy call_int1 (hX.gl hg) (by rw [hX.mg]; exact hm) (by decide +kernel) (pa_cons (pe_w hX e) pa_nil (he [] X.env)) (by decide) (by decide) (he [] X.env) rfl) fun X hX => ha σ G H N x E of dk hn _ fun u G1 H1 s1 d1 ⟨dd, ⟨r, er⟩, r1⟩ => by
    subst er
    refine .inr ⟨r, by rw [show u = V.bl r from r1], f _ G1 H1 s1 d1 ⟨_, ⟨_, rfl, ?_⟩, rfl⟩⟩
    cases r with
    | true => exact .inr rfl
    | false => exact .inl rfl
end
end TH
set_option maxHeartbeats 4000000
namespace TH
open PySem PySem.Spec PyProof.Rows L2
def spL (K : PySem.W.Frag) : Sp := fun vs H Q _ => ∃ (a : Addr) (ns : List Int), vs = [V.ref a] ∧ SqL K H a (ns.map V.int) ∧ ns.length ≤ 63 ∧ ∀ H', Q (.bl true) H'
abbrev lawE (a p : Addr) : List Sl := [.raw (.ref a), .raw (.ref p), .no, .no, .no, .no, .no, .no, .no, .no, .no]
def lawBody : List Stmt := match (defBody s_law)[1]? with | some (Stmt.For _ _ b _ _) => b | _ => []
/-- one turn of the law -/
theorem law_turn {W : Gx} (T : Tx W) {a p q : Addr} {G0 Hb G H : Hp} {σ : L2.St} {D' : Ends} {N : Nat} {d2 : D} (dk : Deck G0 Hb p q N) (hN : N + 1000 ≤ 1000000) (A : At W G0 Hb [.raw (.ref a), .raw (.ref p), .d d2, .no, .no, .no, .no, .no, .no, .no, .no] σ G H)
    (next : ∀ Hb' σ' G' H', BaseL p q Hb Hb' → Deck G0 Hb' p q (N + 1000) → At W G0 Hb' (lawE a p) σ' G' H' → D'.nx σ' H') : wSs W (defS N_law (defScope s_law)) 11 lawBody D' σ H := by
  have mi := T.m_int
  have mr := T.m_range
  -- the world
  refine wsd_set (R := fun d => ∃ (x : Tl) (n : Nat), LW x n ∧ IsW x d) (c := 1 + 500) A dk sc_law.nd (sn 3) (JR.imp (jr_call1 (ok_law_world T) (R := fun d => ∃ t : Nat, d = .int (t : Int) ∧ t ≤ 4) (c1 := 1) (JR.imp (jr_addI (R := fun d => d = .int 0 ∨ d = .int 1) j_int (JR.imp (jr_intB (jr_eqI (JR.imp (jr_call (ok_law_draw T) (ja_cons (j_int (i := 4)) ja_nil) ⟨4, rfl, by decide, by decide⟩ (i := 1)) ?_) j_int)) ?_)) ?_) (fun d ⟨t, e, h⟩ => ⟨t, by rw [e], h⟩) (i := 1)) ?_) (by omega) fun Hb1 dw σ1 G1 H1 hR1 bl1 A1 dk1 => ?_
  · rintro d ⟨n, r, e, rfl, hr⟩
    exact ⟨_, rfl⟩
  · rintro d ⟨i, rfl, h⟩
    refine ⟨i, rfl, ?_⟩
    rcases h with rfl | rfl
    · exact .inl rfl
    · exact .inr rfl
  · rintro d ⟨i, rfl, h⟩
    rcases h with h | h
    · injection h with h
      subst h
      exact ⟨3, rfl, by decide⟩
    · injection h with h
      subst h
      exact ⟨4, rfl, by decide⟩
  · rintro d ⟨d1, ⟨t, rfl, _⟩, x, n, h1, h2, h3, h4, h5⟩
    exact ⟨x, n, ⟨h1, h2, h3, h4⟩, h5⟩
  obtain ⟨x, n, L, iw⟩ := hR1
  have hn4 := L.n4
  have hk := kS_bd L.al
  have hnk : n * kS x.z ≤ n * 2 := Nat.mul_le_mul_left n hk.2
  refine ws_set A1 sc_law.nd (sn 4) (j_call (ok_law_code T) (ja_cons (jv 3) ja_nil) ⟨x, n, dw, iw, L.w, rfl, rfl⟩) fun σ2 G2 H2 A2 => ?_
  -- cuts, ranges
  refine wsd_if (c := 20 + 10) (R := fun b => b = false) A2 dk1 (jdt_or (R1 := fun b => b = false) (jdt_not (jdt_val (JR.imp (jr_call (ok_law_cuts_right T) (ja_cons (jv 3) (ja_cons (jv 4) ja_nil)) ⟨x, n, dw, L, iw, rfl⟩ (i := 1)) ?_))) (fun _ => jdt_not (jdt_val (JR.imp (jr_call (ok_law_range_right T) (ja_cons (jv 3) (ja_cons (jv 4) ja_nil)) ⟨x, n, dw, L, iw, rfl⟩ (i := 1)) ?_))) (fun h => nomatch h)) (by omega) fun b Hb3 G3 H3 hb bl3 A3 dk3 => ?_
  · intro d hd
    exact ⟨true, hd, rfl⟩
  · intro d hd
    exact ⟨true, hd, rfl⟩
  subst hb
  rw [if_neg Bool.false_ne_true]
  refine ws_nil ?_
  have ws := sum_wt L.w L.al (n := n) (by omega)
  have wb := sum_wb (n := n) L.w L.al L.wb
  have als : Al (sumT x n).z := L.al
  have sw := step_wt L.w L.al (n := n) (by omega)
  have sb := step_wb (n := n) L.w L.al L.wb
  have alt : Al (stepT x n).z := L.al
  have bw := step_wt (x := sumT x n) ws als (by omega)
  have bb := step_wb (x := sumT x n) ws als wb
  have gw := sum_wt (x := stepT x n) sw alt (by omega)
  have gb := sum_wb (x := stepT x n) sw alt sb
  refine ws_par (i := 5) (j := 6) (d := tlD W (sumT x n)) (d' := tlD W (sumT x n)) A3 sc_law.nd rfl rfl rfl rfl (by decide) (ja_cons (j_call (ok_sums T) (ja_cons (jv 4) ja_nil) ⟨x, n, L.al, L.w, by omega, rfl, rfl⟩) (ja_cons (j_call (ok_through T) (ja_cons (jv 4) (ja_cons (j_call (ok_up_to T) (ja_cons (jw_signs iw (jv 3)) ja_nil) ⟨x.z, L.al, rfl, rfl⟩) ja_nil)) ⟨x, n, x.z, _, _, _, (rew_up L.al).tr L.al L.w (by omega), rfl, rfl⟩) ja_nil)) fun σ4 G4 H4 A4 => ?_
  refine ws_par (i := 7) (j := 8) (d := tlD W (stepT (sumT x n) (n * kS x.z))) (d' := tlD W (sumT (stepT x n) (n + n * kS x.z))) A4 sc_law.nd rfl rfl rfl rfl (by decide) (ja_cons (j_call (ok_steps T) (ja_cons (jv 5) ja_nil) ⟨sumT x n, n * kS x.z, 4 + 7, als, ws, by omega, wb.e, by decide, rfl, rfl⟩) (ja_cons (j_call (ok_sums T) (ja_cons (j_call (ok_steps T) (ja_cons (jv 4) ja_nil) ⟨x, n, 4, L.al, L.w, by omega, L.wb.e, by decide, rfl, rfl⟩) ja_nil) ⟨stepT x n, n + n * kS x.z, alt, sw, by omega, rfl, rfl⟩) ja_nil)) fun σ5 G5 H5 A5 => ?_
  obtain ⟨l1, l3⟩ := al3 L.al
  refine ws_forJ (cst := 40) (Rn := fun ds => ∀ d ∈ ds, ∃ u, d = wD u ∧ Wo x u) (t := .one 9) (fun _ => [.raw (.ref a), .raw (.ref p), .no, .no, .d (tlD W x), .d (tlD W (sumT x n)), .d (tlD W (sumT x n)), .d (tlD W (stepT (sumT x n) (n * kS x.z))), .d (tlD W (sumT (stepT x n) (n + n * kS x.z))), .no, .no]) A5 dk3 sc_law.nd (jid_lst (JR.imp (JRN.l (jrn_cat (ds := [wD [], .str x.z]) (L := 4) (JN.lst (jn_lst (ja_cons j_str (ja_cons (jw_signs iw (jv 3)) ja_nil)) (by show 2 ≤ 100000; decide))) (JRN.le (JRN.imp (jrn1 (L := 4) (c := 10) (R := fun d => ∃ u, d = wD u ∧ Wo x u) 10 sc_law.nd (ji_range1 (n := 4) j_int (by decide)).dr (fun items e => ?_) (by decide) (fun items e d hd => JR.imp (jr_call (ok_law_page T) (ja_cons (jw_signs iw (jv 3)) (ja_cons (j_int (i := 7)) ja_nil)) ⟨x.z, 7, rfl, l1, by omega, by decide⟩ (i := 1)) ?_)) ?_) (by decide : 0 + 4 * 10 ≤ 40)) (R := fun es => es.length ≤ 4 ∧ ∀ d ∈ es, ∃ u, d = wD u ∧ Wo x u) (fun es h => h.1) (by show 2 + 4 ≤ 100000; decide))) ?_)) (by omega) (.one (sn 9)) (fun _ _ _ _ => trivial) ?_ (fun Gb Hb6 items m dd σ6 G6 H6 nx hRn hd A6 hnx => ?_) fun Hb6 items σ6 G6 H6 hRn bl6 dk6 A6 => ?_
  · rw [e, List.length_map, List.length_range]
    exact Nat.le_refl _
  · rintro d ⟨z, w, m, e, rfl, hw, hl⟩
    have e1 := List.head_eq_of_cons_eq e
    injection e1 with e1
    have e2 := List.head_eq_of_cons_eq (List.tail_eq_of_cons_eq e)
    injection e2 with e2
    exact ⟨w.cps.toList, by rw [wD, toS_of], fun c hc => by rw [e1]; exact hw c hc, by omega⟩
  · rintro es ⟨⟨items, rfl, hl⟩, hall⟩
    rw [List.length_map, List.length_range] at hl
    exact ⟨by omega, hall⟩
  · rintro d ⟨ds, rfl, es, rfl, hl, hall⟩
    refine ⟨_, rfl, fun d hd => ?_⟩
    rcases List.mem_cons.mp hd with rfl | hd
    · exact ⟨[], rfl, (fun c hc => by cases hc), Nat.zero_le _⟩
    rcases List.mem_cons.mp hd with rfl | hd
    · exact ⟨x.z.cps.toList, by rw [wD, toS_of], fun c hc => hc, by omega⟩
    · exact hall d hd
  · exact .cons (.cons (.no (.no (.cons (.cons (.cons (.cons (.cons (.cons (.cons .nil))))))))))
  · obtain ⟨u, rfl, wo⟩ := hRn dd (List.mem_of_getElem? hd)
    have e1 := back_worth L.w L.al (n := n) (by omega) wo.s
    have e2 := again_worth L.w L.al (n := n) (by omega) wo.s
    refine ws_ifF A6 (JT.is (jt_cmp c_neI (jl_worth T (y := sumT x n) (u := u) ws wb (by decide) wo.tk (jv 6) (jv 9 (d := wD u))) (jl_worth T (y := sumT x n) (u := u) ws wb (by decide) wo.tk (jv 5) (jv 9 (d := wD u)))) (by rw [decide_eq_true rfl]; rfl)) fun G7 H7 A7 => ?_
    refine ws_ifF A7 (JT.is (jt_cmp (c_neD (r := true) (ints_lst _).p (ints_lst _).p ((ints_lst _).shaped (by decide)) ((ints_lst _).shaped (by decide)) (SeqAt.eqv_refl _ (ints_lst [x.worth u, x.worth u]).c)) (JN.lst (jn_lst (ja_cons (J.is (jl_worth T (y := stepT (sumT x n) (n * kS x.z)) (u := u) bw bb (by decide) wo.tk (jv 7) (jv 9 (d := wD u))) (congrArg D.int e1)) (ja_cons (J.is (jl_worth T (y := sumT (stepT x n) (n + n * kS x.z)) (u := u) gw gb (by decide) wo.tk (jv 8) (jv 9 (d := wD u))) (congrArg D.int e2)) ja_nil)) (by show 2 ≤ 100000; decide))) (J.is (JN.lst (jn_rep (n := 2) (ds := [.int (x.worth u)]) (JN.l (jn_lst (ja_cons (jl_worth T (y := x) (u := u) L.w L.wb (by decide) wo.tk (jv 4) (jv 9 (d := wD u))) ja_nil) (by show 1 ≤ 100000; decide))) j_int (by show 1 * 2 ≤ 100000; decide) (by decide))) rfl)) rfl) fun G8 H8 A8 => ?_
    exact ws_nil (hnx _ G8 H8 (At.le A8 (.cons (.cons (.cons (.cons (.cons (.cons (.cons (.cons (.cons (.no (.cons .nil)))))))))))))
  · refine ws_nil (next Hb6 _ G6 H6 ((bl1.trans bl3).trans bl6) (dk6.le (by omega)) (At.le A6 ?_))
    exact .cons (.cons (.cons (.cons (.no (.no (.no (.no (.no (.cons (.cons .nil))))))))))
/-- the law keeps its promise -/
theorem ok_law {W : Gx} (T : Tx W) {fd : FuncData} (F : FunD W.K d_law.name d_law.qual d_law.params d_law.body d_law.scope (d_law.dvs W.K) (d_law.kws W.K) (He.fAd W.K d_law.at_) fd) : FnOk W.P W.w W.K W.mg W.base CX0 12 (He.ga W.K "law") fd ["_law_script"] (spL W.K) := by
  have mr := T.m_range
  refine F.ok sc_law (fun vs H Q E hs => ?_) fun cdv A outer s H vs Q E hr hsp => ?_
  · obtain ⟨a, ns, rfl, _⟩ := hs
    rfl
  obtain ⟨a, ns, rfl, hS, hl, f⟩ := hsp
  refine ⟨_, pss_w (W := W) (S := defS N_law d_law.scope) (k := 11) (X := cxOf CX0 W.P W.w W.K W.mg W.base N_law d_law.qual d_law.scope _ cdv A outer s H E) ⟨rfl, rfl, rfl, rfl, rfl, rfl, rfl, rfl, rfl, hr⟩ d_law.body, ?_⟩
  have A0 : At W GE H (startD N_law a []) (L2.start N_law [.ref a]) GE H := startD_at (exE H) rfl
  generalize L2.start N_law [V.ref a] = σ0 at A0
  -- the deck
  obtain ⟨fa, fd2, ps, hm, kp, bd, FK⟩ := (ok_law_deck T).ex
  refine wSs_cons (wS_X (fun X hX => ps_set (i := 1) (by rw [hX.N]; exact sc_law.nd) (by rw [hX.N]; rfl) (by rw [hX.sc]; exact .inr rfl) (pe_call (E := E0) (by rw [hX.P, hX.w, hX.K, hX.mg, hX.base]; exact FK) (hX.room.mono (by decide)) (hX.gl rfl) (by rw [hX.mg]; exact hm) (by rw [hX.K]; exact kp) (by rw [hX.K]; exact bd) .nil pass0 (pa_cons (pe_w hX (.Name "_law_script" _)) pa_nil rfl) (by decide) rfl rfl) rfl (by rw [hX.fb]; exact .inl rfl)) fun X hX => ?_)
  refine (jraw 0) σ0 GE H A0.s.s A0.e _ fun u G1 H1 s1 eu => ?_
  subst eu
  have A1 := A0.mono s1
  refine ⟨G1, a, ns, rfl, A1.s.s, ex_l A1.s.h hS, hl, fun p q G2 H2 s2 hp hq dk => ?_⟩
  have A2 := (A1.mono s2).setS (i := 1) (x := .raw (.ref p)) (o := some (.ref p)) rfl fun ds h => nomatch h
  have no := noOwn_ok (l := (startD N_law a []).set 1 (.raw (.ref p))) rfl
  have A3 : At W G2 H2 ((startD N_law a []).set 1 (.raw (.ref p))) (σ0.set 1 (some (.ref p))) G2 H2 := ⟨.refl A2.s.s, A2.e, fun i ds a h1 _ => absurd h1 (no i ds), fun i j ds es a h1 _ _ _ => absurd h1 (no i ds)⟩
  refine ws_forX (items := (List.range 2).map fun (i : Nat) => D.int (i : Int)) (t := .one 2) (fun i env' Hb => env' = lawE a p ∧ BaseL p q H2 Hb ∧ Deck (fun _ => none) Hb p q (i * 1000)) A3 sc_law.nd (ji_range1 (n := 2) j_int (by decide)) (.one (sn 2)) (fun _ _ => trivial) ⟨rfl, .refl _ _ _, ⟨dk.ne, rfl, rfl, (dk.le (Nat.zero_le _)).ex⟩⟩ (fun Gb Hb i dd env' σ4 G4 H4 nx hGb hd hdom hIv A4 hnx => ?_) fun Hb env' σ4 G4 H4 hdom hIv A4 => ?_
  · obtain ⟨rfl, bl, dk4⟩ := hIv
    have hi2 : i < 2 := by
      have := (List.getElem?_eq_some_iff.mp hd).1
      rw [List.length_map, List.length_range] at this
      exact this
    have dk5 : Deck Gb Hb p q (i * 1000) := ⟨dk4.ne, hGb p dk.hp dk.gp, hGb q dk.hq dk.gq, dk4.ex⟩
    refine law_turn T dk5 (by omega) A4 fun Hb' σ' G' H' bl' dk' A' => ?_
    exact hnx Hb' (lawE a p) σ' G' H' (hdom.trans bl'.dom) ⟨rfl, bl.trans bl', ⟨dk'.ne, rfl, rfl, (dk'.le (by omega)).ex⟩⟩ A'
  · obtain ⟨rfl, bl, dk4⟩ := hIv
    refine ws_ret A4 (j_bl (b := true)) fun v G' H' s r => ?_
    rw [show v = V.bl true from r]
    exact f H'
end TH
set_option maxHeartbeats 0
namespace TH
open PySem PySem.Spec PyProof.Rows L2
theorem facts {P : Program} {w : World} {K : PySem.W.Frag} {h : Heap} {mg : Str → Option Value} {f : Addr} (X : K.In h) (G : h.Ns mainGlobals mg) (hfa : mg ("law" : Str) = some (.ref f)) (c : SaysX K) :
    ∃ fd : FuncData, (∀ (s : Shared) (v : Value), BindsTo s fd ⟨[v], []⟩ [("_law_script", v)]) ∧ ∀ base : Heap, K.In base → base.Ns mainGlobals mg → FnOk P w K mg base CX0 12 f fd ["_law_script"] (spL K) := by
  have sd : He.SaysD fa fn K := congrArg (fun z : AlX => z.1) c
  obtain ⟨fd, F⟩ := sd.def_ 63 (d := d_law) rfl
  have e := hfa.symm.trans (He.glo_ok X G (sd.fact 63 (f := .glo "law") rfl))
  cases e
  have b := FunD.bindsA (ps := ["_law_script"]) F fun _ _ _ _ _ _ us hl => match us, hl with | [_], _ => rfl
  exact ⟨fd, fun s v => b s [v] rfl, fun base kb kn => ok_law (W := ⟨P, w, K, mg, base⟩) ⟨c, base, kb, kn⟩ F⟩
end TH
open PySem PySem.W PySem.Calls PyProof.Rows
theorem PySem.Challenge.cw_tallyhouse_k82_whole_tickets_and_ranges_holds : PySem.Challenge.rw_tallyhouse_k82_whole_tickets_and_ranges.Holds := by
  w_on; o_law
  refine HandSHeadRun.head_any (r := OpenLaw.row PySem.Challenge.rw_tallyhouse_k82_whole_tickets_and_ranges) (q := view (OpenLaw.row PySem.Challenge.rw_tallyhouse_k82_whole_tickets_and_ranges).prog [122]) (H := TH.hk) (ob := TH.ob) (M := 9000) (loose := TH.loose) (d := HandSHeadRun.topDef (OpenLaw.row PySem.Challenge.rw_tallyhouse_k82_whole_tickets_and_ranges).prog 122) (kwd := []) TH.ob_eq
    (by kernel_rfl) (fun s => by kernel_rfl) TH.run (by kernel_rfl) (by kernel_rfl) (by kernel_rfl) (by rfl) (by first | assumption | decide +kernel) (by decide +kernel) ⟨rfl, rfl, rfl, rfl, rfl, by decide +kernel⟩ ?hw ?hc
  case hw => w_witness2
  case hc =>
    refine L2.walk_ofE (l := PySem.Challenge.rw_tallyhouse_k82_whole_tickets_and_ranges) (n := 63) (k := 12) (x := "_law_script") (CX := L2.CX0) rfl (by decide) (by kernel_rfl) ⟨rfl, by decide, by decide⟩ ?F (fun _ _ _ _ z => z)
    intro w mg fa h Y G hmg0
    obtain ⟨K, KX, c⟩ := Y
    have hmg : mg ("law" : PySem.Str) = some (.ref fa) := by
      have e : (HandSHeadRun.topDef (OpenLaw.row PySem.Challenge.rw_tallyhouse_k82_whole_tickets_and_ranges).prog 122).name = ("law" : PySem.Str) := by kernel_rfl
      rw [← e]
      exact hmg0
    obtain ⟨fd, hb, hF⟩ := TH.facts (P := (PySem.Challenge.rw_tallyhouse_k82_whole_tickets_and_ranges).prog) (w := w) KX G hmg c
    exact ⟨K, fd, TH.spL K, KX, hb, fun H a ns hl _ hS => ⟨a, ns, rfl, hS, hl, fun _ => rfl⟩, hF⟩
