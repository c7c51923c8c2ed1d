import PyProof.Rows.All
import Wide.All
import OpenK.AllK
import Wide.FinOn
import KE.KStateDown
import Lean
import HandS.Base
import HandS.Call
import HandS.Ends
import HandS.More
import HandS.Words
import HandS.WordsExc
import HandS.Defaults
import HandS.Head0
import HandS.Head1
import HandS.Head2
import HandS.Head3
import HandS.HeadEnd
import HandS.HeadHook1
import HandS.HeadHook2
import HandS.HeadHook3
import HandS.HeadHook4
import HandS.HeadNt
import HandS.Property
import HandS.IsInst
import PySem.Challenge.RW_tracewords_k28_whole_houses_of_houses
import HandS.ForMost
import HandS.Walk
import HandS.Wide
import HandS.Style
import HandS.Flow
import HandS.Zip
import HandS.Gcd
import HandS.OwnEq
import PyProof.InstEq
import KE.KMathG
import KE.KOpsOwn
import HandS.MakeKw
import HandS.MakeKwOnly
import HandS.Conv
import HandS.Evl
section
set_option Elab.async false
set_option linter.all false
set_option maxRecDepth 100000
set_option maxHeartbeats 0
namespace K28
open PySem PySem.Spec PyProof.Rows L2
def top (i : Nat) : Stmt := PySem.Challenge.pw_tracewords_k28_whole_houses_of_houses.main.body.getD i (.Pass ⟨0, 0, 0, 0⟩)

abbrev s_is_integer : Stmt := top 18
abbrev s_is_count : Stmt := top 19
abbrev s_is_list : Stmt := top 20
abbrev s_want_at_most : Stmt := top 21
abbrev s_divisor_of : Stmt := top 25
abbrev s_Ratio_init : Stmt := inClass (top 26) 0
abbrev s_Ratio_sign : Stmt := inClass (top 26) 3
abbrev s_Ratio_add : Stmt := inClass (top 26) 6
abbrev s_Ratio_eq : Stmt := inClass (top 26) 17
abbrev s_told_pair : Stmt := top 27
abbrev s_is_number : Stmt := top 28
abbrev s_ratio_of : Stmt := top 29
abbrev s_wholes : Stmt := top 30
abbrev s_total_of : Stmt := top 31
abbrev s_ints_of : Stmt := top 33
abbrev s_bare_row : Stmt := top 34
abbrev s_cleared : Stmt := top 35
abbrev s_first_at : Stmt := top 36
abbrev s_headed_row : Stmt := top 37
abbrev s_int_steps : Stmt := top 38
abbrev s_head_of : Stmt := top 39
abbrev s_told_rows : Stmt := top 40
abbrev s_steps_of : Stmt := top 41
abbrev s_are_numbers : Stmt := top 42
abbrev s_table_in : Stmt := top 45
abbrev s_want_table : Stmt := top 46
abbrev s_want_sized : Stmt := top 47
abbrev s_bare_table : Stmt := top 48
abbrev s_int_product : Stmt := top 49
abbrev s_over_bottom : Stmt := top 50
abbrev s_idle_of : Stmt := top 51
abbrev s_product_of : Stmt := top 52
abbrev s_line_sum : Stmt := top 53
abbrev s_about_of : Stmt := top 54
abbrev s_undone_of : Stmt := top 55
abbrev s_long_of : Stmt := top 56
abbrev s_two_tables : Stmt := top 57
abbrev s_want_alike : Stmt := top 58
abbrev s_idle : Stmt := top 59
abbrev s_times : Stmt := top 60
abbrev s_about : Stmt := top 61
abbrev s_undone : Stmt := top 62
abbrev s_letters_in : Stmt := top 67
abbrev s_House_init : Stmt := inClass (top 68) 0
abbrev s_House_width : Stmt := inClass (top 68) 1
abbrev s_House_many : Stmt := inClass (top 68) 2
abbrev s_House_letters : Stmt := inClass (top 68) 3
abbrev s_House_table : Stmt := inClass (top 68) 4
abbrev s_House_word_sum : Stmt := inClass (top 68) 5
abbrev s_House_eq : Stmt := inClass (top 68) 6
abbrev s_want_house : Stmt := top 69
abbrev s_house_of : Stmt := top 70
abbrev s_word_in : Stmt := top 71
abbrev s_want_word : Stmt := top 72
abbrev s_word_table : Stmt := top 73
abbrev s_want_pair : Stmt := top 74
abbrev s_about_house : Stmt := top 75
abbrev s_on_line : Stmt := top 76
abbrev s_side : Stmt := top 77
abbrev s_led_house : Stmt := top 78
abbrev s_left_of : Stmt := top 80
abbrev s_long_with : Stmt := top 81
abbrev s_base_with : Stmt := top 82
abbrev s_base_of : Stmt := top 83
abbrev s_base_words : Stmt := top 84
abbrev s_dimension : Stmt := top 85
abbrev s_law_pot : Stmt := top 87
abbrev s_law_draw : Stmt := top 88
abbrev s_law_pick : Stmt := top 89
abbrev s_law_times : Stmt := top 90
abbrev s_law_idle : Stmt := top 91
abbrev s_law_letters : Stmt := top 92
abbrev s_law_lead : Stmt := top 93
abbrev s_law_word : Stmt := top 94
abbrev s_law_about_right : Stmt := top 95
abbrev s_law_side_right : Stmt := top 96
abbrev s_law_led_right : Stmt := top 97
abbrev s_law_right : Stmt := top 98
abbrev s_law : Stmt := top 99
/-- a property's getter -/
def pget (K : PySem.W.Frag) (p : Addr) : Addr := match PySem.W.recIn K p "property" with
  | some (.ref f :: _) => f
  | _ => 0
def d_is_integer : He5.DefA := ⟨fun K => He.ga K "is_integer", "is_integer", "is_integer", defArgs s_is_integer, defBody s_is_integer, defScope s_is_integer, [], []⟩
def d_is_count : He5.DefA := ⟨fun K => He.ga K "is_count", "is_count", "is_count", defArgs s_is_count, defBody s_is_count, defScope s_is_count, [], []⟩
def d_is_list : He5.DefA := ⟨fun K => He.ga K "is_list", "is_list", "is_list", defArgs s_is_list, defBody s_is_list, defScope s_is_list, [], []⟩
def d_want_at_most : He5.DefA := ⟨fun K => He.ga K "want_at_most", "want_at_most", "want_at_most", defArgs s_want_at_most, defBody s_want_at_most, defScope s_want_at_most, [], []⟩
def d_divisor_of : He5.DefA := ⟨fun K => He.ga K "divisor_of", "divisor_of", "divisor_of", defArgs s_divisor_of, defBody s_divisor_of, defScope s_divisor_of, [], []⟩
def d_Ratio_init : He5.DefA := ⟨fun K => He.ma K (He.ga K "Ratio") "__init__", "__init__", "Ratio.__init__", defArgs s_Ratio_init, defBody s_Ratio_init, defScope s_Ratio_init, [.int 1], []⟩
def d_Ratio_sign : He5.DefA := ⟨fun K => pget K (He.ma K (He.ga K "Ratio") "sign"), "sign", "Ratio.sign", defArgs s_Ratio_sign, defBody s_Ratio_sign, defScope s_Ratio_sign, [], []⟩
def d_Ratio_add : He5.DefA := ⟨fun K => He.ma K (He.ga K "Ratio") "__add__", "__add__", "Ratio.__add__", defArgs s_Ratio_add, defBody s_Ratio_add, defScope s_Ratio_add, [], []⟩
def d_Ratio_eq : He5.DefA := ⟨fun K => He.ma K (He.ga K "Ratio") "__eq__", "__eq__", "Ratio.__eq__", defArgs s_Ratio_eq, defBody s_Ratio_eq, defScope s_Ratio_eq, [], []⟩
def d_told_pair : He5.DefA := ⟨fun K => He.ga K "told_pair", "told_pair", "told_pair", defArgs s_told_pair, defBody s_told_pair, defScope s_told_pair, [], []⟩
def d_is_number : He5.DefA := ⟨fun K => He.ga K "is_number", "is_number", "is_number", defArgs s_is_number, defBody s_is_number, defScope s_is_number, [], []⟩
def d_ratio_of : He5.DefA := ⟨fun K => He.ga K "ratio_of", "ratio_of", "ratio_of", defArgs s_ratio_of, defBody s_ratio_of, defScope s_ratio_of, [], []⟩
def d_wholes : He5.DefA := ⟨fun K => He.ga K "wholes", "wholes", "wholes", defArgs s_wholes, defBody s_wholes, defScope s_wholes, [], []⟩
def d_total_of : He5.DefA := ⟨fun K => He.ga K "total_of", "total_of", "total_of", defArgs s_total_of, defBody s_total_of, defScope s_total_of, [], []⟩
def d_ints_of : He5.DefA := ⟨fun K => He.ga K "ints_of", "ints_of", "ints_of", defArgs s_ints_of, defBody s_ints_of, defScope s_ints_of, [], []⟩
def d_bare_row : He5.DefA := ⟨fun K => He.ga K "bare_row", "bare_row", "bare_row", defArgs s_bare_row, defBody s_bare_row, defScope s_bare_row, [], []⟩
def d_cleared : He5.DefA := ⟨fun K => He.ga K "cleared", "cleared", "cleared", defArgs s_cleared, defBody s_cleared, defScope s_cleared, [], []⟩
def d_first_at : He5.DefA := ⟨fun K => He.ga K "first_at", "first_at", "first_at", defArgs s_first_at, defBody s_first_at, defScope s_first_at, [], []⟩
def d_headed_row : He5.DefA := ⟨fun K => He.ga K "headed_row", "headed_row", "headed_row", defArgs s_headed_row, defBody s_headed_row, defScope s_headed_row, [], []⟩
def d_int_steps : He5.DefA := ⟨fun K => He.ga K "int_steps", "int_steps", "int_steps", defArgs s_int_steps, defBody s_int_steps, defScope s_int_steps, [], []⟩
def d_head_of : He5.DefA := ⟨fun K => He.ga K "head_of", "head_of", "head_of", defArgs s_head_of, defBody s_head_of, defScope s_head_of, [], []⟩
def d_told_rows : He5.DefA := ⟨fun K => He.ga K "told_rows", "told_rows", "told_rows", defArgs s_told_rows, defBody s_told_rows, defScope s_told_rows, [], []⟩
def d_steps_of : He5.DefA := ⟨fun K => He.ga K "steps_of", "steps_of", "steps_of", defArgs s_steps_of, defBody s_steps_of, defScope s_steps_of, [], []⟩
def d_are_numbers : He5.DefA := ⟨fun K => He.ga K "are_numbers", "are_numbers", "are_numbers", defArgs s_are_numbers, defBody s_are_numbers, defScope s_are_numbers, [], []⟩
def d_table_in : He5.DefA := ⟨fun K => He.ga K "table_in", "table_in", "table_in", defArgs s_table_in, defBody s_table_in, defScope s_table_in, [], []⟩
def d_want_table : He5.DefA := ⟨fun K => He.ga K "want_table", "want_table", "want_table", defArgs s_want_table, defBody s_want_table, defScope s_want_table, [], []⟩
def d_want_sized : He5.DefA := ⟨fun K => He.ga K "want_sized", "want_sized", "want_sized", defArgs s_want_sized, defBody s_want_sized, defScope s_want_sized, [], []⟩
def d_bare_table : He5.DefA := ⟨fun K => He.ga K "bare_table", "bare_table", "bare_table", defArgs s_bare_table, defBody s_bare_table, defScope s_bare_table, [], []⟩
def d_int_product : He5.DefA := ⟨fun K => He.ga K "int_product", "int_product", "int_product", defArgs s_int_product, defBody s_int_product, defScope s_int_product, [], []⟩
def d_over_bottom : He5.DefA := ⟨fun K => He.ga K "over_bottom", "over_bottom", "over_bottom", defArgs s_over_bottom, defBody s_over_bottom, defScope s_over_bottom, [], []⟩
def d_idle_of : He5.DefA := ⟨fun K => He.ga K "idle_of", "idle_of", "idle_of", defArgs s_idle_of, defBody s_idle_of, defScope s_idle_of, [], []⟩
def d_product_of : He5.DefA := ⟨fun K => He.ga K "product_of", "product_of", "product_of", defArgs s_product_of, defBody s_product_of, defScope s_product_of, [], []⟩
def d_line_sum : He5.DefA := ⟨fun K => He.ga K "line_sum", "line_sum", "line_sum", defArgs s_line_sum, defBody s_line_sum, defScope s_line_sum, [], []⟩
def d_about_of : He5.DefA := ⟨fun K => He.ga K "about_of", "about_of", "about_of", defArgs s_about_of, defBody s_about_of, defScope s_about_of, [], []⟩
def d_undone_of : He5.DefA := ⟨fun K => He.ga K "undone_of", "undone_of", "undone_of", defArgs s_undone_of, defBody s_undone_of, defScope s_undone_of, [], []⟩
def d_long_of : He5.DefA := ⟨fun K => He.ga K "long_of", "long_of", "long_of", defArgs s_long_of, defBody s_long_of, defScope s_long_of, [], []⟩
def d_two_tables : He5.DefA := ⟨fun K => He.ga K "two_tables", "two_tables", "two_tables", defArgs s_two_tables, defBody s_two_tables, defScope s_two_tables, [], []⟩
def d_want_alike : He5.DefA := ⟨fun K => He.ga K "want_alike", "want_alike", "want_alike", defArgs s_want_alike, defBody s_want_alike, defScope s_want_alike, [], []⟩
def d_idle : He5.DefA := ⟨fun K => He.ga K "idle", "idle", "idle", defArgs s_idle, defBody s_idle, defScope s_idle, [], []⟩
def d_times : He5.DefA := ⟨fun K => He.ga K "times", "times", "times", defArgs s_times, defBody s_times, defScope s_times, [], []⟩
def d_about : He5.DefA := ⟨fun K => He.ga K "about", "about", "about", defArgs s_about, defBody s_about, defScope s_about, [], []⟩
def d_undone : He5.DefA := ⟨fun K => He.ga K "undone", "undone", "undone", defArgs s_undone, defBody s_undone, defScope s_undone, [], []⟩
def d_letters_in : He5.DefA := ⟨fun K => He.ga K "letters_in", "letters_in", "letters_in", defArgs s_letters_in, defBody s_letters_in, defScope s_letters_in, [], []⟩
def d_House_init : He5.DefA := ⟨fun K => He.ma K (He.ga K "House") "__init__", "__init__", "House.__init__", defArgs s_House_init, defBody s_House_init, defScope s_House_init, [], []⟩
def d_House_width : He5.DefA := ⟨fun K => pget K (He.ma K (He.ga K "House") "width"), "width", "House.width", defArgs s_House_width, defBody s_House_width, defScope s_House_width, [], []⟩
def d_House_many : He5.DefA := ⟨fun K => pget K (He.ma K (He.ga K "House") "many"), "many", "House.many", defArgs s_House_many, defBody s_House_many, defScope s_House_many, [], []⟩
def d_House_letters : He5.DefA := ⟨fun K => He.ma K (He.ga K "House") "letters", "letters", "House.letters", defArgs s_House_letters, defBody s_House_letters, defScope s_House_letters, [], []⟩
def d_House_table : He5.DefA := ⟨fun K => He.ma K (He.ga K "House") "table", "table", "House.table", defArgs s_House_table, defBody s_House_table, defScope s_House_table, [], []⟩
def d_House_word_sum : He5.DefA := ⟨fun K => He.ma K (He.ga K "House") "word_sum", "word_sum", "House.word_sum", defArgs s_House_word_sum, defBody s_House_word_sum, defScope s_House_word_sum, [], []⟩
def d_House_eq : He5.DefA := ⟨fun K => He.ma K (He.ga K "House") "__eq__", "__eq__", "House.__eq__", defArgs s_House_eq, defBody s_House_eq, defScope s_House_eq, [], []⟩
def d_want_house : He5.DefA := ⟨fun K => He.ga K "want_house", "want_house", "want_house", defArgs s_want_house, defBody s_want_house, defScope s_want_house, [], []⟩
def d_house_of : He5.DefA := ⟨fun K => He.ga K "house_of", "house_of", "house_of", defArgs s_house_of, defBody s_house_of, defScope s_house_of, [], []⟩
def d_word_in : He5.DefA := ⟨fun K => He.ga K "word_in", "word_in", "word_in", defArgs s_word_in, defBody s_word_in, defScope s_word_in, [], []⟩
def d_want_word : He5.DefA := ⟨fun K => He.ga K "want_word", "want_word", "want_word", defArgs s_want_word, defBody s_want_word, defScope s_want_word, [], []⟩
def d_word_table : He5.DefA := ⟨fun K => He.ga K "word_table", "word_table", "word_table", defArgs s_word_table, defBody s_word_table, defScope s_word_table, [], []⟩
def d_want_pair : He5.DefA := ⟨fun K => He.ga K "want_pair", "want_pair", "want_pair", defArgs s_want_pair, defBody s_want_pair, defScope s_want_pair, [], []⟩
def d_about_house : He5.DefA := ⟨fun K => He.ga K "about_house", "about_house", "about_house", defArgs s_about_house, defBody s_about_house, defScope s_about_house, [], []⟩
def d_on_line : He5.DefA := ⟨fun K => He.ga K "on_line", "on_line", "on_line", defArgs s_on_line, defBody s_on_line, defScope s_on_line, [], []⟩
def d_side : He5.DefA := ⟨fun K => He.ga K "side", "side", "side", defArgs s_side, defBody s_side, defScope s_side, [], []⟩
def d_led_house : He5.DefA := ⟨fun K => He.ga K "led_house", "led_house", "led_house", defArgs s_led_house, defBody s_led_house, defScope s_led_house, [], []⟩
def d_left_of : He5.DefA := ⟨fun K => He.ga K "left_of", "left_of", "left_of", defArgs s_left_of, defBody s_left_of, defScope s_left_of, [], []⟩
def d_long_with : He5.DefA := ⟨fun K => He.ga K "long_with", "long_with", "long_with", defArgs s_long_with, defBody s_long_with, defScope s_long_with, [], []⟩
def d_base_with : He5.DefA := ⟨fun K => He.ga K "base_with", "base_with", "base_with", defArgs s_base_with, defBody s_base_with, defScope s_base_with, [], []⟩
def d_base_of : He5.DefA := ⟨fun K => He.ga K "base_of", "base_of", "base_of", defArgs s_base_of, defBody s_base_of, defScope s_base_of, [], []⟩
def d_base_words : He5.DefA := ⟨fun K => He.ga K "base_words", "base_words", "base_words", defArgs s_base_words, defBody s_base_words, defScope s_base_words, [], []⟩
def d_dimension : He5.DefA := ⟨fun K => He.ga K "dimension", "dimension", "dimension", defArgs s_dimension, defBody s_dimension, defScope s_dimension, [], []⟩
def d_law_pot : He5.DefA := ⟨fun K => He.ga K "_law_pot", "_law_pot", "_law_pot", defArgs s_law_pot, defBody s_law_pot, defScope s_law_pot, [], []⟩
def d_law_draw : He5.DefA := ⟨fun K => He.ga K "_law_draw", "_law_draw", "_law_draw", defArgs s_law_draw, defBody s_law_draw, defScope s_law_draw, [], []⟩
def d_law_pick : He5.DefA := ⟨fun K => He.ga K "_law_pick", "_law_pick", "_law_pick", defArgs s_law_pick, defBody s_law_pick, defScope s_law_pick, [], []⟩
def d_law_times : He5.DefA := ⟨fun K => He.ga K "_law_times", "_law_times", "_law_times", defArgs s_law_times, defBody s_law_times, defScope s_law_times, [], []⟩
def d_law_idle : He5.DefA := ⟨fun K => He.ga K "_law_idle", "_law_idle", "_law_idle", defArgs s_law_idle, defBody s_law_idle, defScope s_law_idle, [], []⟩
def d_law_letters : He5.DefA := ⟨fun K => He.ga K "_law_letters", "_law_letters", "_law_letters", defArgs s_law_letters, defBody s_law_letters, defScope s_law_letters, [], []⟩
def d_law_lead : He5.DefA := ⟨fun K => He.ga K "_law_lead", "_law_lead", "_law_lead", defArgs s_law_lead, defBody s_law_lead, defScope s_law_lead, [], []⟩
def d_law_word : He5.DefA := ⟨fun K => He.ga K "_law_word", "_law_word", "_law_word", defArgs s_law_word, defBody s_law_word, defScope s_law_word, [], []⟩
def d_law_about_right : He5.DefA := ⟨fun K => He.ga K "_law_about_right", "_law_about_right", "_law_about_right", defArgs s_law_about_right, defBody s_law_about_right, defScope s_law_about_right, [], []⟩
def d_law_side_right : He5.DefA := ⟨fun K => He.ga K "_law_side_right", "_law_side_right", "_law_side_right", defArgs s_law_side_right, defBody s_law_side_right, defScope s_law_side_right, [], []⟩
def d_law_led_right : He5.DefA := ⟨fun K => He.ga K "_law_led_right", "_law_led_right", "_law_led_right", defArgs s_law_led_right, defBody s_law_led_right, defScope s_law_led_right, [], []⟩
def d_law_right : He5.DefA := ⟨fun K => He.ga K "_law_right", "_law_right", "_law_right", defArgs s_law_right, defBody s_law_right, defScope s_law_right, [], []⟩
def d_law : He5.DefA := ⟨fun K => He.ga K "law", "law", "law", defArgs s_law, defBody s_law, defScope s_law, [], []⟩
def fn : List He5.DefA := [d_is_integer, d_is_count, d_is_list, d_want_at_most, d_divisor_of, d_Ratio_init, d_Ratio_sign, d_Ratio_add, d_Ratio_eq, d_told_pair, d_is_number, d_ratio_of, d_wholes, d_total_of, d_ints_of, d_bare_row, d_cleared, d_first_at, d_headed_row, d_int_steps, d_head_of, d_told_rows, d_steps_of, d_are_numbers, d_table_in, d_want_table, d_want_sized, d_bare_table, d_int_product, d_over_bottom, d_idle_of, d_product_of, d_line_sum, d_about_of, d_undone_of, d_long_of, d_two_tables, d_want_alike, d_idle, d_times, d_about, d_undone, d_letters_in, d_House_init, d_House_width, d_House_many, d_House_letters, d_House_table, d_House_word_sum, d_House_eq, d_want_house, d_house_of, d_word_in, d_want_word, d_word_table, d_want_pair, d_about_house, d_on_line, d_side, d_led_house, d_left_of, d_long_with, d_base_with, d_base_of, d_base_words, d_dimension, d_law_pot, d_law_draw, d_law_pick, d_law_times, d_law_idle, d_law_letters, d_law_lead, d_law_word, d_law_about_right, d_law_side_right, d_law_led_right, d_law_right, d_law]
def fa1 : List He.Fa := [.glo "is_integer", .glo "is_count", .glo "is_list", .glo "want_at_most", .glo "divisor_of", .glo "told_pair", .glo "is_number", .glo "ratio_of", .glo "wholes", .glo "total_of", .glo "ints_of", .glo "bare_row", .glo "cleared", .glo "first_at", .glo "headed_row", .glo "int_steps", .glo "head_of", .glo "told_rows", .glo "steps_of", .glo "are_numbers", .glo "table_in", .glo "want_table", .glo "want_sized", .glo "bare_table", .glo "int_product", .glo "over_bottom", .glo "idle_of", .glo "product_of", .glo "line_sum", .glo "about_of", .glo "undone_of", .glo "long_of", .glo "two_tables", .glo "want_alike", .glo "idle", .glo "times", .glo "about", .glo "undone", .glo "letters_in", .glo "want_house", .glo "house_of", .glo "word_in", .glo "want_word", .glo "word_table", .glo "want_pair", .glo "about_house", .glo "on_line", .glo "side", .glo "led_house", .glo "left_of"]
def fa2 : List He.Fa := [.glo "long_with", .glo "base_with", .glo "base_of", .glo "base_words", .glo "dimension", .glo "_law_pot", .glo "_law_draw", .glo "_law_pick", .glo "_law_times", .glo "_law_idle", .glo "_law_letters", .glo "_law_lead", .glo "_law_word", .glo "_law_about_right", .glo "_law_side_right", .glo "_law_led_right", .glo "_law_right", .glo "law", .glo "Ratio", .glo "House", .free "len", .free "range", .free "zip", .free "isinstance", .free "int", .free "bool", .free "tuple", .free "list", .free "sum", .free "any", .free "all", .free "enumerate", .free "abs", .free "max", .free "divmod", .int "MOST_SIZE_tables" 4, .int "MOST_LETTERS" 3, .int "MOST_WORD" 16, .int "MOST_SIZE_houses" 4, .cls "Ratio", .cls "House", .noat "Ratio" "own_top", .noat "Ratio" "own_bottom", .noat "House" "own_letters", .noat "House" "own_width", .mkr "Ratio", .mkr "House", .meth "House" "letters", .meth "House" "table", .meth "House" "word_sum"]
def fa : List He.Fa := fa1 ++ fa2
/-- what a function's object names: its code, its defaults -/
def fnRefs (g : Addr → Option Obj) (a : Addr) : List Addr := match g a with
  | some ⟨_, _, .func fd, _⟩ => a :: (He.refV fd.code ++ He.refV fd.defaults)
  | _ => [a]
/-- what stands in a namespace's dict -/
def nsRefs (g : Addr → Option Obj) (ns : Addr) : List Addr := match g ns with
  | some ⟨_, _, .dict es _, _⟩ => es.toList.flatMap fun e => He.refV e.val
  | _ => []
def recRefs (g : Addr → Option Obj) (a : Addr) : List Addr := match g a with
  | some ⟨_, _, .fields vs, _⟩ => a :: (vs.toList.flatMap He.refV).flatMap (fnRefs g)
  | _ => fnRefs g a
/-- a class: itself, its namespace, the functions there -/
def clsRefs (g : Addr → Option Obj) (a : Addr) : List Addr := match g a with
  | some ⟨_, _, .cls cd, _⟩ => a :: cd.ns :: (nsRefs g cd.ns).flatMap (recRefs g)
  | _ => fnRefs g a
def addrs (g : Addr → Option Obj) : List Addr := mainGlobals :: PySem.cStatics :: (nsRefs g mainGlobals).flatMap (clsRefs g)
def obsK (fa : List He.Fa) (fn : List He5.DefA) (ex : PySem.W.Frag → Bool) (K : PySem.W.Frag) : Bool × List He.FnW := (((fa.all fun f => f.ok K) && fn.all fun d => d.ok K) && ex K, fn.map fun d => He5.fnA K (d.at_ K))
def eqO := He.eqO
def dec (p : Prop) [Decidable p] : Bool := decide p
def propB (K : PySem.W.Frag) (C : Addr) (f : Str) : Bool := eqO (PySem.W.findIn K (.ref C) f) (some (some (.ref (He.ma K C f)))) && (eqO (PySem.W.specialIn K (.ref (He.ma K C f)) "__get__") (some (some (.builtin "property.__get__"))) && (dec (PySem.W.takesIn K (.ref (He.ma K C f)) = some true) && (match PySem.W.recIn K (He.ma K C f) "property" with
  | some (.ref _ :: _) => true
  | _ => false)))
def isiB (K : PySem.W.Frag) (C : Addr) : Bool := eqO (PySem.W.findIn K (.ref C) "__class__") (some (some (.builtin "object.__class__"))) && (eqO (PySem.W.specialIn K (.builtin "object.__class__") "__get__") (some (some (.builtin "getset_descriptor.__get__"))) && (dec (PySem.W.takesIn K (.builtin "object.__class__") = some true) && dec (PySem.W.mroIn K C (.type "object") = some true)))
def fnB (K : PySem.W.Frag) (C : Addr) (m : Str) : Bool := eqO (PySem.W.findIn K (.ref C) m) (some (some (.ref (He.ma K C m)))) && PySem.W.isFn K (.ref (He.ma K C m))
def ex (K : PySem.W.Frag) : Bool :=
  eqO (PySem.W.nsIn K mainGlobals "gcd") (some (some (.builtin "math.gcd"))) && eqO (PySem.W.nsIn K mainGlobals "lcm") (some (some (.builtin "math.lcm"))) &&
  propB K (He.ga K "Ratio") "sign" && propB K (He.ga K "House") "width" && propB K (He.ga K "House") "many" &&
  isiB K (He.ga K "Ratio") && isiB K (He.ga K "House") &&
  fnB K (He.ga K "Ratio") "__add__" && fnB K (He.ga K "Ratio") "__eq__" && fnB K (He.ga K "House") "__eq__" &&
  eqO (PySem.W.findIn K (.ref (He.ga K "House")) "__ne__") (some (some (.builtin "object.__ne__"))) &&
  eqO (PySem.W.findIn K (.ref (He.ga K "Ratio")) "__ne__") (some (some (.builtin "object.__ne__"))) &&
  PySem.W.selfFirst K (He.ga K "Ratio") && PySem.W.selfFirst K (He.ga K "House") &&
  dec (PySem.W.kitOne K (.ref (He.ga K "Ratio")) (.ref (He.ga K "Ratio")) = some true) && dec (PySem.W.kitOne K (.ref (He.ga K "Ratio")) (.type "int") = some false) &&
  dec (PySem.W.kitOne K (.type "int") (.ref (He.ga K "Ratio")) = some false) && dec (PySem.W.kitOne K (.type "list") (.ref (He.ga K "Ratio")) = some false) &&
  dec (PySem.W.kitOne K (.ref (He.ga K "House")) (.ref (He.ga K "House")) = some true)
abbrev R : PySem.W.OpenRow := PySem.W.OpenLaw.row PySem.Challenge.rw_tracewords_k28_whole_houses_of_houses
def hk : PySem.W.Hook where
  α := Bool × List He.FnW
  obs := fun s => obsK fa fn ex (He.frG s.heap.get? (addrs s.heap.get?))
  val := fun _ => (true, fn.map He5.DefA.val)
  says := fun _ h => ∃ K : PySem.W.Frag, K.In h ∧ obsK fa fn ex K = (true, fn.map He5.DefA.val)
  of := fun _ _ e => ⟨_, He.frG_in, e⟩
  keeps := fun _ _ _ ⟨K, hK, c⟩ k => ⟨K, PySem.W.Frag.In.keeps hK k, c⟩
def ob (s : PySem.W.SharedT) : Bool × List He.FnW := obsK fa fn ex (He.frG (HandSHeadRun.getT s) (addrs (HandSHeadRun.getT s)))
theorem ob_eq (s : PySem.W.SharedT) : ob s = hk.obs s.abs := by
  have e : HandSHeadRun.getT s = s.abs.heap.get? := funext (HandSHeadRun.getT_eq s)
  unfold ob
  rw [e] <;> rfl
def loose0 : List PySem.Str := ["gcd", "lcm", "_wall", "__name__", "TableError", "StateError", "LimitError", "InvalidHouse", "InvalidNumber", "InvalidTable", "InvalidWord", "DividedByZero", "InvalidLetters", "InvalidSize", "UnlikeSizes", "NotUndone", "UnlikeLetters", "TooMany", "is_integer", "is_count", "is_list", "want_at_most", "PART", "digits_of", "divisor_of", "Ratio", "told_pair", "is_number", "ratio_of", "wholes"]
def loose1 : List PySem.Str := ["total_of", "ints_of", "bare_row", "cleared", "first_at", "headed_row", "int_steps", "head_of", "told_rows", "steps_of", "are_numbers", "MOST_SIZE_tables", "table_in", "want_table", "want_sized", "bare_table", "int_product", "over_bottom", "idle_of", "product_of", "line_sum", "about_of", "undone_of", "long_of", "two_tables", "want_alike", "idle", "times", "about", "undone"]
def loose2 : List PySem.Str := ["MOST_LETTERS", "MOST_WORD", "MOST_SIZE_houses", "letters_in", "House", "want_house", "house_of", "word_in", "want_word", "word_table", "want_pair", "about_house", "on_line", "side", "led_house", "left_of", "long_with", "base_with", "base_of", "base_words", "dimension", "_law_pot", "_law_draw", "_law_pick", "_law_times", "_law_idle", "_law_letters", "_law_lead", "_law_word", "_law_about_right"]
def loose3 : List PySem.Str := ["_law_side_right", "_law_led_right", "_law_right"]
def loose : List PySem.Str := loose0 ++ loose1 ++ loose2 ++ loose3
end K28
end
section
set_option Elab.async false
set_option linter.all false
set_option maxRecDepth 100000
set_option maxHeartbeats 0
namespace K28
open PySem PySem.Spec PyProof.Rows L2
def valL : Bool × List He.FnW := (true, [d_is_integer.val, d_is_count.val, d_is_list.val, d_want_at_most.val, d_divisor_of.val, d_Ratio_init.val, d_Ratio_sign.val, d_Ratio_add.val, d_Ratio_eq.val, d_told_pair.val, d_is_number.val, d_ratio_of.val, d_wholes.val, d_total_of.val, d_ints_of.val, d_bare_row.val, d_cleared.val, d_first_at.val, d_headed_row.val, d_int_steps.val, d_head_of.val, d_told_rows.val, d_steps_of.val, d_are_numbers.val, d_table_in.val, d_want_table.val, d_want_sized.val, d_bare_table.val, d_int_product.val, d_over_bottom.val, d_idle_of.val, d_product_of.val, d_line_sum.val, d_about_of.val, d_undone_of.val, d_long_of.val, d_two_tables.val, d_want_alike.val, d_idle.val, d_times.val, d_about.val, d_undone.val, d_letters_in.val, d_House_init.val, d_House_width.val, d_House_many.val, d_House_letters.val, d_House_table.val, d_House_word_sum.val, d_House_eq.val, d_want_house.val, d_house_of.val, d_word_in.val, d_want_word.val, d_word_table.val, d_want_pair.val, d_about_house.val, d_on_line.val, d_side.val, d_led_house.val, d_left_of.val, d_long_with.val, d_base_with.val, d_base_of.val, d_base_words.val, d_dimension.val, d_law_pot.val, d_law_draw.val, d_law_pick.val, d_law_times.val, d_law_idle.val, d_law_letters.val, d_law_lead.val, d_law_word.val, d_law_about_right.val, d_law_side_right.val, d_law_led_right.val, d_law_right.val, d_law.val])
theorem valL_eq : valL = (true, fn.map He5.DefA.val) := rfl
theorem runL (w : World) : (HandSHeadRun.wholeF (fun p => HandSHeadRun.stepQ (HandSHeadRun.denQ HandSHeadRun.tabQ) p w) HandSHeadRun.fenceQ 30000 R.prog).map (fun x => (HandSHeadRun.looksF R.prog x.1.heap x.2.abs, HandSHeadRun.seenQ (PySem.W.view R.prog [0, 99]) loose (importedModules R.prog.main.body) (fun s => PySem.W.xlAt (PySem.W.view R.prog [0, 99]) [] s && PySem.W.recOk R.toRowW.records s) x.2.abs, ob x.2)) = some (true, PySem.W.openGood (PySem.W.view R.prog [0, 99]) loose, (true, [d_is_integer.val, d_is_count.val, d_is_list.val, d_want_at_most.val, d_divisor_of.val, d_Ratio_init.val, d_Ratio_sign.val, d_Ratio_add.val, d_Ratio_eq.val, d_told_pair.val, d_is_number.val, d_ratio_of.val, d_wholes.val, d_total_of.val, d_ints_of.val, d_bare_row.val, d_cleared.val, d_first_at.val, d_headed_row.val, d_int_steps.val, d_head_of.val, d_told_rows.val, d_steps_of.val, d_are_numbers.val, d_table_in.val, d_want_table.val, d_want_sized.val, d_bare_table.val, d_int_product.val, d_over_bottom.val, d_idle_of.val, d_product_of.val, d_line_sum.val, d_about_of.val, d_undone_of.val, d_long_of.val, d_two_tables.val, d_want_alike.val, d_idle.val, d_times.val, d_about.val, d_undone.val, d_letters_in.val, d_House_init.val, d_House_width.val, d_House_many.val, d_House_letters.val, d_House_table.val, d_House_word_sum.val, d_House_eq.val, d_want_house.val, d_house_of.val, d_word_in.val, d_want_word.val, d_word_table.val, d_want_pair.val, d_about_house.val, d_on_line.val, d_side.val, d_led_house.val, d_left_of.val, d_long_with.val, d_base_with.val, d_base_of.val, d_base_words.val, d_dimension.val, d_law_pot.val, d_law_draw.val, d_law_pick.val, d_law_times.val, d_law_idle.val, d_law_letters.val, d_law_lead.val, d_law_word.val, d_law_about_right.val, d_law_side_right.val, d_law_led_right.val, d_law_right.val, d_law.val])) := by
  kernel_rfl
theorem run (w : World) : HandSHeadRun.RunEqI R (PySem.W.view R.prog [0, 99]) hk ob 30000 loose w := runL w
end K28
end
section
set_option Elab.async false
set_option linter.all false
set_option maxRecDepth 100000
set_option maxHeartbeats 4000000
namespace K28
open PySem L2

/-! ### heaps: G the part that never changes, H the whole -/
theorem same_upd {H : Hp} {p : Addr} {o : HO} (h : H p = none) : Same H (upd H p o) := fun b u e => by
  rw [upd_ne (ne_of_none e h)]; exact e
structure Stp (G H G' H' : Hp) : Prop where
  gg : Same G G'
  gh : Same G' H'
  hh : Same H H'
  fr : ∀ a o, G a = none → G' a = some o → H a = none
section
variable {G H G1 H1 G2 H2 : Hp}
theorem Stp.refl (h : Same G H) : Stp G H G H := ⟨.refl _, h, .refl _, fun a o e e' => by rw [e] at e'; cases e'⟩
theorem Stp.trans (a : Stp G H G1 H1) (b : Stp G1 H1 G2 H2) : Stp G H G2 H2 := by
  refine ⟨a.gg.trans b.gg, b.gh, a.hh.trans b.hh, fun x o e e' => ?_⟩
  cases q : G1 x with
  | some u => exact a.fr x u e q
  | none => exact a.hh.free (b.fr x o q e')
theorem Stp.new {p : Addr} {o : HO} (h : Same G H) (hp : H p = none) : Stp G H (upd G p o) (upd H p o) := by
  have gp : G p = none := h.free hp
  refine ⟨same_upd gp, fun b u e => ?_, same_upd hp, fun a u e e' => ?_⟩
  · by_cases q : b = p
    · subst q; rw [upd_same] at e ⊢; exact e
    · rw [upd_ne q] at e ⊢; exact h b u e
  · by_cases q : a = p
    · rw [q]; exact hp
    · rw [upd_ne q, e] at e'; cases e'
/-- a new thing that G does not know -/
theorem Stp.aside {p : Addr} {o : HO} (h : Same G H) (hp : H p = none) : Stp G H G (upd H p o) :=
  ⟨.refl _, fun b u e => (same_upd hp) b u (h b u e), same_upd hp, fun a o e e' => by rw [e] at e'; cases e'⟩
/-- what is not in G is written; it was not there at the entry -/
theorem Stp.wr {p : Addr} {o : HO} (s : Stp G H G1 H1) (hp : H p = none) (gp : G1 p = none) : Stp G H G1 (upd H1 p o) :=
  ⟨s.gg, fun b u e => by rw [upd_ne (ne_of_none e gp)]; exact s.gh b u e, fun b u e => by rw [upd_ne (ne_of_none e hp)]; exact s.hh b u e, s.fr⟩
/-- .. and comes to stand for good -/
theorem Stp.frz {p : Addr} {o : HO} (s : Stp G H G1 H1) (hp : H p = none) (gp : G1 p = none) (e : H1 p = some o) : Stp G H (upd G1 p o) H1 := by
  refine ⟨s.gg.trans (same_upd gp), fun b u q => ?_, s.hh, fun a u q q' => ?_⟩
  · by_cases z : b = p
    · subst z; rw [upd_same] at q; cases q; exact e
    · rw [upd_ne z] at q; exact s.gh b u q
  · by_cases z : a = p
    · rw [z]; exact hp
    · rw [upd_ne z] at q'; exact s.fr a u q q'
theorem Stp.keep {p : Addr} {o : HO} (s : Stp G H G1 H1) (gp : G p = none) (e : H p = some o) : G1 p = none ∧ H1 p = some o := by
  refine ⟨?_, s.hh _ _ e⟩
  cases q : G1 p with
  | none => rfl
  | some u => have := s.fr p u gp q; rw [e] at this; cases this
end
def join (G G' : Hp) : Hp := fun a => match G a with
  | some o => some o
  | none => G' a

/-! ### what a value is, by the heap -/
abbrev HP := Hp → V → Prop
class Mono (P : HP) : Prop where
  mono : ∀ {G G' : Hp} {v : V}, Same G G' → P G v → P G' v
def rVal (x : V) : HP := fun _ v => v = x
def rInt (i : Int) : HP := fun _ v => v = .int i
def rBl (b : Bool) : HP := fun _ v => v = .bl b
def rLst {α : Type} (r : α → HP) (xs : List α) : HP := fun G v => ∃ a us, v = .ref a ∧ G a = some (.lst us) ∧ Paired (fun x u => r x G u) xs us
def rPr {α β : Type} (r : α → HP) (s : β → HP) (x : α × β) : HP := fun G v => ∃ a u w, v = .ref a ∧ G a = some (.tup [u, w]) ∧ r x.1 G u ∧ s x.2 G w
theorem paired_imp {α β : Type} {F F' : α → β → Prop} (h : ∀ a b, F a b → F' a b) : ∀ {xs : List α} {us : List β}, Paired F xs us → Paired F' xs us
  | _, _, .nil => .nil
  | _, _, .cons a t => .cons (h _ _ a) (paired_imp h t)
instance {x : V} : Mono (rVal x) := ⟨fun _ h => h⟩
instance {i : Int} : Mono (rInt i) := ⟨fun _ h => h⟩
instance {b : Bool} : Mono (rBl b) := ⟨fun _ h => h⟩
instance {α : Type} {r : α → HP} [∀ x, Mono (r x)] {xs : List α} : Mono (rLst r xs) := ⟨fun e ⟨a, us, h1, h2, h3⟩ => ⟨a, us, h1, e _ _ h2, paired_imp (fun _ _ => Mono.mono e) h3⟩⟩
instance {α β : Type} {r : α → HP} {s : β → HP} [∀ x, Mono (r x)] [∀ x, Mono (s x)] {x : α × β} : Mono (rPr r s x) := ⟨fun e ⟨a, u, w, h1, h2, h3, h4⟩ => ⟨a, u, w, h1, e _ _ h2, Mono.mono e h3, Mono.mono e h4⟩⟩
theorem paired_len {α β : Type} {F : α → β → Prop} {xs : List α} {us : List β} (h : Paired F xs us) : us.length = xs.length := h.length.symm
theorem paired_at {α β : Type} {F : α → β → Prop} : ∀ {xs : List α} {us : List β} {i : Nat} {x : α}, Paired F xs us → xs[i]? = some x → ∃ u, us[i]? = some u ∧ F x u
  | _, _, _, _, .nil, e => by cases e
  | _, _, 0, _, .cons r _, e => by cases e; exact ⟨_, rfl, r⟩
  | _, _, i + 1, x, .cons _ t, e => by obtain ⟨u, h1, h2⟩ := paired_at (i := i) (x := x) t e; exact ⟨u, h1, h2⟩
theorem paired_at' {α β : Type} {F : α → β → Prop} {xs : List α} {us : List β} {i : Nat} {u : β} (h : Paired F xs us) (e : us[i]? = some u) : ∃ x, xs[i]? = some x ∧ F x u := by
  have hi := (List.getElem?_eq_some_iff.mp e).1
  rw [paired_len h] at hi
  obtain ⟨u', h1, h2⟩ := paired_at h (List.getElem?_eq_getElem hi)
  rw [e] at h1; cases h1
  exact ⟨_, List.getElem?_eq_getElem hi, h2⟩
theorem paired_app {α β : Type} {F : α → β → Prop} : ∀ {xs ys : List α} {us ws : List β}, Paired F xs us → Paired F ys ws → Paired F (xs ++ ys) (us ++ ws)
  | _, _, _, _, .nil, s => s
  | _, _, _, _, .cons r t, s => .cons r (paired_app t s)
theorem paired_take {α β : Type} {F : α → β → Prop} : ∀ {xs : List α} {us : List β} (n : Nat), Paired F xs us → Paired F (xs.take n) (us.take n)
  | _, _, 0, _ => .nil
  | _, _, _ + 1, .nil => .nil
  | _, _, n + 1, .cons r t => .cons r (paired_take n t)
theorem paired_drop {α β : Type} {F : α → β → Prop} : ∀ {xs : List α} {us : List β} (n : Nat), Paired F xs us → Paired F (xs.drop n) (us.drop n)
  | _, _, 0, r => r
  | _, _, _ + 1, .nil => .nil
  | _, _, n + 1, .cons _ t => paired_drop n t
theorem paired_rev {α β : Type} {F : α → β → Prop} : ∀ {xs : List α} {us : List β}, Paired F xs us → Paired F xs.reverse us.reverse
  | _, _, .nil => .nil
  | _, _, .cons r t => by rw [List.reverse_cons, List.reverse_cons]; exact paired_app (paired_rev t) (.cons r .nil)
theorem paired_rep {α β : Type} {F : α → β → Prop} {x : α} {u : β} (h : F x u) : ∀ n : Nat, Paired F (List.replicate n x) (List.replicate n u)
  | 0 => .nil
  | n + 1 => .cons h (paired_rep h n)
theorem paired_ints {xs : List Int} {us : List V} {G : Hp} : Paired (fun x u => rInt x G u) xs us → us = xs.map V.int
  | .nil => rfl
  | .cons r t => by rw [show _ = _ from r, paired_ints t]; rfl
theorem ints_paired (G : Hp) : ∀ xs : List Int, Paired (fun x u => rInt x G u) xs (xs.map V.int)
  | [] => .nil
  | _ :: xs => .cons rfl (ints_paired G xs)
theorem paired_bls {xs : List Bool} {us : List V} {G : Hp} : Paired (fun x u => rBl x G u) xs us → us = xs.map V.bl
  | .nil => rfl
  | .cons r t => by rw [show _ = _ from r, paired_bls t]; rfl

/-! ### what a reading gives -/
def Ev (te : TE) (σ : St) (G : Hp) (P : HP) : Prop := ∀ H, Same G H → ∀ Q : VK, (∀ v G' H', Stp G H G' H' → P G' v → Q v H') → te σ H Q
def EvT (tt : TT) (σ : St) (G : Hp) (b : Bool) : Prop := ∀ H, Same G H → ∀ Q : Bool → Hp → Prop, (∀ G' H', Stp G H G' H' → Q b H') → tt σ H Q
def EvA (ta : TA) (σ : St) (G : Hp) (P : Hp → List V → Prop) : Prop := ∀ H, Same G H → ∀ Q : List V → Hp → Prop, (∀ vs G' H', Stp G H G' H' → P G' vs → Q vs H') → ta σ H Q
section
variable {te ta tb tc : TE} {tt tu : TT} {σ : St} {G G1 H : Hp} {P P1 P2 P3 : HP} {v : V} {b : Bool}
theorem Stp.join {G H G1 G' H' : Hp} (s : Stp G H G' H') (g : Same G G1) (h : Same G1 H) : Stp G1 H (K28.join G1 G') H' ∧ Same G' (K28.join G1 G') := by
  have j1 : ∀ a o, G1 a = some o → K28.join G1 G' a = some o := fun a o e => by unfold K28.join; rw [e]
  have j2 : ∀ a o, K28.join G1 G' a = some o → G1 a = some o ∨ (G1 a = none ∧ G' a = some o) := fun a o e => by
    unfold K28.join at e
    cases q : G1 a with
    | some u => rw [q] at e; exact .inl e
    | none => rw [q] at e; exact .inr ⟨rfl, e⟩
  refine ⟨⟨j1, fun a o e => ?_, s.hh, fun a o e e' => ?_⟩, fun a o e => ?_⟩
  · rcases j2 a o e with q | ⟨_, q⟩
    · exact s.hh a o (h a o q)
    · exact s.gh a o q
  · rcases j2 a o e' with q | ⟨_, q⟩
    · rw [e] at q; cases q
    · refine s.fr a o ?_ q
      cases z : G a with
      | none => rfl
      | some u => rw [g a u z] at e; cases e
  · unfold K28.join
    cases q : G1 a with
    | none => exact e
    | some u =>
      have e1 := s.gh a o e
      have e2 := s.hh a u (h a u q)
      rw [e1] at e2
      exact e2.symm
theorem Ev.mono [Mono P] (h : Ev te σ G P) (g : Same G G1) : Ev te σ G1 P := fun H hh Q q => h H (g.trans hh) Q fun v G' H' s p => by
  obtain ⟨s1, s2⟩ := s.join g hh
  exact q v _ H' s1 (Mono.mono s2 p)
theorem EvT.mono (h : EvT tt σ G b) (g : Same G G1) : EvT tt σ G1 b := fun H hh Q q => h H (g.trans hh) Q fun G' H' s => by
  obtain ⟨s1, s2⟩ := s.join g hh
  exact q _ H' s1
theorem Ev.imp (h : Ev te σ G P) (k : ∀ G' v, Same G G' → P G' v → P1 G' v) : Ev te σ G P1 := fun H hh Q q => h H hh Q fun v G' H' s p => q v G' H' s (k G' v s.gg p)
theorem ev_var {i : Nat} (e : σ[i]? = some (some v)) (h : P G v) : Ev (tVar i) σ G P := fun H hh Q q => ⟨v, e, q v G H (.refl hh) h⟩
theorem ev_c (h : P G v) : Ev (tC v) σ G P := fun H hh Q q => q v G H (.refl hh) h
theorem ev_int {i : Int} : Ev (tC (.int i)) σ G (rInt i) := ev_c rfl
theorem ev_bl : Ev (tC (.bl b)) σ G (rBl b) := ev_c rfl
/-- a two-place operation of what two readings give -/
theorem ev_op {r : R2} [Mono P1] (ha : Ev ta σ G P1) (hb : ∀ G', Same G G' → Ev tb σ G' P2) (hr : ∀ G' H' x y Q, Same G G' → Same G' H' → P1 G' x → P2 G' y → (∀ v G2 H2, Stp G' H' G2 H2 → P G2 v → Q v H2) → r x y H' Q) : Ev (tOp r ta tb) σ G P := fun H hh Q q =>
  ha H hh _ fun x G1 H1 s1 p1 => hb G1 s1.gg H1 s1.gh _ fun y G2 H2 s2 p2 => hr G2 H2 x y Q (s1.gg.trans s2.gg) s2.gh (Mono.mono s2.gg p1) p2 fun v G3 H3 s3 p3 => q v G3 H3 ((s1.trans s2).trans s3) p3
theorem ev_I0 {g : Int → Int → V} {i j : Int} (ha : Ev ta σ G (rInt i)) (hb : Ev tb σ G (rInt j)) : Ev (tOp (rI0 g) ta tb) σ G (rVal (g i j)) :=
  ev_op ha (fun _ g => hb.mono g) fun G' H' x y Q _ gh e1 e2 k => ⟨i, j, e1, e2, k _ _ _ (.refl gh) rfl⟩
theorem ev_I {C : Int → Int → Prop} {g : Int → Int → V} {i j : Int} (ha : Ev ta σ G (rInt i)) (hb : Ev tb σ G (rInt j)) (hc : C i j) : Ev (tOp (rI C g) ta tb) σ G (rVal (g i j)) :=
  ev_op ha (fun _ g => hb.mono g) fun G' H' x y Q _ gh e1 e2 k => ⟨i, j, e1, e2, hc, k _ _ _ (.refl gh) rfl⟩
theorem ev_eq {x y : V} (ha : Ev ta σ G (rVal x)) (hb : Ev tb σ G (rVal y)) (hs : scal x y = true) : Ev (tOp rEq ta tb) σ G (rBl (decide (x = y))) :=
  ev_op ha (fun _ g => hb.mono g) fun G' H' x y Q _ gh e1 e2 k => by cases e1; cases e2; exact ⟨hs, k _ _ _ (.refl gh) rfl⟩
theorem ev_ne {x y : V} (ha : Ev ta σ G (rVal x)) (hb : Ev tb σ G (rVal y)) (hs : scal x y = true) : Ev (tOp rNe ta tb) σ G (rBl (!decide (x = y))) :=
  ev_op ha (fun _ g => hb.mono g) fun G' H' x y Q _ gh e1 e2 k => by cases e1; cases e2; exact ⟨hs, k _ _ _ (.refl gh) rfl⟩
theorem Ev.toV {i : Int} (h : Ev te σ G (rInt i)) : Ev te σ G (rVal (.int i)) := h
theorem Ev.toI {i : Int} (h : Ev te σ G (rVal (.int i))) : Ev te σ G (rInt i) := h
theorem Ev.toB (h : Ev te σ G (rVal (.bl b))) : Ev te σ G (rBl b) := h
theorem ev_eqI {i j : Int} (ha : Ev ta σ G (rInt i)) (hb : Ev tb σ G (rInt j)) : Ev (tOp rEq ta tb) σ G (rBl (decide (i = j))) :=
  (ev_eq (x := .int i) (y := .int j) ha hb rfl).imp fun _ _ _ e => by rw [show _ = _ from e]; show V.bl _ = V.bl _; congr 1; simp
theorem ev_neI {i j : Int} (ha : Ev ta σ G (rInt i)) (hb : Ev tb σ G (rInt j)) : Ev (tOp rNe ta tb) σ G (rBl (!decide (i = j))) :=
  (ev_ne (x := .int i) (y := .int j) ha hb rfl).imp fun _ _ _ e => by rw [show _ = _ from e]; show V.bl _ = V.bl _; congr 1; simp
theorem ev_un {g : Int → V} {i : Int} (ha : Ev ta σ G (rInt i)) : Ev (tUn (rU g) ta) σ G (rVal (g i)) := fun H hh Q q =>
  ha H hh _ fun x G1 H1 s1 p1 => ⟨i, p1, q _ _ _ s1 rfl⟩
/-! tests -/
theorem et_test (h : Ev te σ G (rBl b)) : EvT (tTest te) σ G b := fun H hh Q q => h H hh _ fun v G1 H1 s p => ⟨b, p, q G1 H1 s⟩
theorem et_B (h : Ev te σ G (rBl b)) : EvT (tB te) σ G b := fun H hh Q q => h H hh _ fun v G1 H1 s p => ⟨b, p, q G1 H1 s⟩
theorem et_not (h : EvT tt σ G b) : EvT (tNot tt) σ G (!b) := fun H hh Q q => h H hh _ fun G1 H1 s => q G1 H1 s
theorem et_and {c : Bool} (h : EvT tt σ G b) (k : b = true → ∀ G', Same G G' → EvT tu σ G' c) : EvT (tAnd tt tu) σ G (b && c) := fun H hh Q q => h H hh _ fun G1 H1 s => by
  cases b with
  | true => exact iteT (k rfl G1 s.gg H1 s.gh _ fun G2 H2 s2 => q G2 H2 (s.trans s2))
  | false => exact iteF (q G1 H1 s)
theorem et_or {c : Bool} (h : EvT tt σ G b) (k : b = false → ∀ G', Same G G' → EvT tu σ G' c) : EvT (tOr tt tu) σ G (b || c) := fun H hh Q q => h H hh _ fun G1 H1 s => by
  cases b with
  | true => exact iteT (q G1 H1 s)
  | false => exact iteF (k rfl G1 s.gg H1 s.gh _ fun G2 H2 s2 => q G2 H2 (s.trans s2))
theorem et_is {c : Bool} (h : EvT tt σ G b) (e : b = c) : EvT tt σ G c := e ▸ h
theorem ev_if (h : EvT tt σ G b) (k1 : b = true → ∀ G', Same G G' → Ev ta σ G' P) (k2 : b = false → ∀ G', Same G G' → Ev tb σ G' P) : Ev (tIf tt ta tb) σ G P := fun H hh Q q => h H hh _ fun G1 H1 s => by
  cases b with
  | true => exact iteT (k1 rfl G1 s.gg H1 s.gh _ fun v G2 H2 s2 p => q v G2 H2 (s.trans s2) p)
  | false => exact iteF (k2 rfl G1 s.gg H1 s.gh _ fun v G2 H2 s2 p => q v G2 H2 (s.trans s2) p)
theorem ev_andV {c : Bool} (h : Ev ta σ G (rBl b)) (k : b = true → ∀ G', Same G G' → Ev tb σ G' (rBl c)) : Ev (tAndV ta tb) σ G (rBl (b && c)) := fun H hh Q q => h H hh _ fun v G1 H1 s p => ⟨b, p, by
  cases b with
  | true => exact iteT (k rfl G1 s.gg H1 s.gh _ fun v G2 H2 s2 p => q v G2 H2 (s.trans s2) p)
  | false => exact iteF (q _ G1 H1 s rfl)⟩
theorem ev_orV {c : Bool} (h : Ev ta σ G (rBl b)) (k : b = false → ∀ G', Same G G' → Ev tb σ G' (rBl c)) : Ev (tOrV ta tb) σ G (rBl (b || c)) := fun H hh Q q => h H hh _ fun v G1 H1 s p => ⟨b, p, by
  cases b with
  | true => exact iteT (q _ G1 H1 s rfl)
  | false => exact iteF (k rfl G1 s.gg H1 s.gh _ fun v G2 H2 s2 p => q v G2 H2 (s.trans s2) p)⟩
theorem ev_notV (h : Ev ta σ G (rBl b)) : Ev (tNotV ta) σ G (rBl (!b)) := fun H hh Q q => h H hh _ fun v G1 H1 s p => ⟨b, p, q _ G1 H1 s rfl⟩
/-! arguments -/
def p0 : Hp → List V → Prop := fun _ vs => vs = []
def p1 (P1 : HP) : Hp → List V → Prop := fun G vs => ∃ u, vs = [u] ∧ P1 G u
def p2 (P1 P2 : HP) : Hp → List V → Prop := fun G vs => ∃ u w, vs = [u, w] ∧ P1 G u ∧ P2 G w
def p3 (P1 P2 P3 : HP) : Hp → List V → Prop := fun G vs => ∃ u w z, vs = [u, w, z] ∧ P1 G u ∧ P2 G w ∧ P3 G z
theorem ea0 : EvA tNil σ G p0 := fun H hh Q q => q [] G H (.refl hh) rfl
theorem ea1 (h : Ev ta σ G P1) : EvA (tCons ta tNil) σ G (p1 P1) := fun H hh Q q => h H hh _ fun v G1 H1 s p => q [v] G1 H1 s ⟨v, rfl, p⟩
theorem ea2 [Mono P1] (h : Ev ta σ G P1) (k : ∀ G', Same G G' → Ev tb σ G' P2) : EvA (tCons ta (tCons tb tNil)) σ G (p2 P1 P2) := fun H hh Q q => h H hh _ fun v G1 H1 s p =>
  k G1 s.gg H1 s.gh _ fun w G2 H2 s2 p' => q [v, w] G2 H2 (s.trans s2) ⟨v, w, rfl, Mono.mono s2.gg p, p'⟩
theorem ea3 [Mono P1] [Mono P2] (h : Ev ta σ G P1) (k : ∀ G', Same G G' → Ev tb σ G' P2) (k3 : ∀ G', Same G G' → Ev tc σ G' P3) : EvA (tCons ta (tCons tb (tCons tc tNil))) σ G (p3 P1 P2 P3) := fun H hh Q q => h H hh _ fun v G1 H1 s p =>
  k G1 s.gg H1 s.gh _ fun w G2 H2 s2 p' => k3 G2 (s.gg.trans s2.gg) H2 s2.gh _ fun z G3 H3 s3 p'' => q [v, w, z] G3 H3 ((s.trans s2).trans s3) ⟨v, w, z, rfl, Mono.mono (s2.gg.trans s3.gg) p, Mono.mono s3.gg p', p''⟩
/-! calls: the promise of a def that only makes new things. A: arguments, G, H, what is given back -/
def spP (A : List V → Hp → Hp → HP → Prop) : Sp := fun vs H Q _ => ∃ G P, Same G H ∧ A vs G H P ∧ ∀ v G' H', Stp G H G' H' → P G' v → Q v H'
theorem ev_call {A : List V → Hp → Hp → HP → Prop} {t : TA} {E : XK} {PL : Hp → List V → Prop} (h : EvA t σ G PL) (k : ∀ G' H' vs, Same G G' → Same G' H' → PL G' vs → A vs G' H' P) : Ev (tCall (spP A) [] E t) σ G P := fun H hh Q q =>
  h H hh _ fun vs G1 H1 s p => ⟨G1, P, s.gh, by rw [List.append_nil]; exact k G1 H1 vs s.gg s.gh p, fun v G2 H2 s2 p2 => q v G2 H2 (s.trans s2) p2⟩
theorem ev_cb {r : List V → Hp → VK → Prop} {t : TA} {PL : Hp → List V → Prop} (h : EvA t σ G PL) (k : ∀ G' H' vs Q, Same G G' → Same G' H' → PL G' vs → (∀ v G2 H2, Stp G' H' G2 H2 → P G2 v → Q v H2) → r vs H' Q) : Ev (tCB r t) σ G P := fun H hh Q q =>
  h H hh _ fun vs G1 H1 s p => k G1 H1 vs Q s.gg s.gh p fun v G2 H2 s2 p2 => q v G2 H2 (s.trans s2) p2
end
end K28
end
section
set_option Elab.async false
set_option linter.all false
set_option maxRecDepth 100000
set_option maxHeartbeats 4000000
namespace K28
open PySem L2
section
variable {te ta tb tc : TE} {tt tu : TT} {σ : St} {G G1 H : Hp} {P P1 P2 P3 : HP} {v : V} {b : Bool} {K : PySem.W.Frag} {α β γ : Type} {r : α → HP} {s : β → HP} {rt : γ → HP}
theorem sz_of {n : Nat} (h : n ≤ 100000) : n ≤ sizeLine := Nat.le_trans h (by decide)
theorem sz_lt {n : Nat} (h : n < 100000) : n < sizeLine := Nat.lt_of_lt_of_le h (by decide)
theorem atI_of {xs : List V} {i : Int} {j : Nat} {u : V} (e : i = (j : Int)) (h : xs[j]? = some u) : atI xs i = some u := by rw [e]; exact atI_nat h
/-- xs[i] -/
theorem ev_ix {xs : List α} {i : Int} {j : Nat} {x : α} [∀ x, Mono (r x)] (ha : Ev ta σ G (rLst r xs)) (hb : ∀ G', Same G G' → Ev tb σ G' (rInt i)) (e : i = (j : Int)) (hx : xs[j]? = some x) : Ev (tOp (rIxL K) ta tb) σ G (r x) :=
  ev_op ha hb fun G' H' u w Q _ gh ⟨a, us, e1, h1, h2⟩ e2 k => by
    obtain ⟨y, hy, ry⟩ := paired_at h2 hx
    exact ⟨a, us, i, y, e1, e2, .inl (.inl (gh _ _ h1)), atI_of e hy, k _ _ _ (.refl gh) ry⟩
/-- t[0], t[1] of a pair -/
theorem ev_ix0 {x : α} {y : β} [∀ x, Mono (r x)] [∀ x, Mono (s x)] (ha : Ev ta σ G (rPr r s (x, y))) : Ev (tOp (rIxT K) ta (tC (.int 0))) σ G (r x) :=
  ev_op ha (fun _ _ => ev_int) fun G' H' u w Q _ gh ⟨a, u1, u2, e1, h1, h2, _⟩ e2 k => ⟨a, _, 0, u1, e1, e2, .inl (.inl (gh _ _ h1)), rfl, k _ _ _ (.refl gh) h2⟩
theorem ev_ix1 {x : α} {y : β} [∀ x, Mono (r x)] [∀ x, Mono (s x)] (ha : Ev ta σ G (rPr r s (x, y))) : Ev (tOp (rIxT K) ta (tC (.int 1))) σ G (s y) :=
  ev_op ha (fun _ _ => ev_int) fun G' H' u w Q _ gh ⟨a, u1, u2, e1, h1, _, h2⟩ e2 k => ⟨a, _, 1, u2, e1, e2, .inl (.inl (gh _ _ h1)), rfl, k _ _ _ (.refl gh) h2⟩
/-- [..], (.., ..) -/
theorem el_nil : Ev (tLst tNil) σ G (rLst r []) := fun H hh Q q => ⟨Nat.zero_le _, fun p hp => q _ _ _ (Stp.new hh hp) ⟨p, [], rfl, upd_same, .nil⟩⟩
theorem el_one {x : α} [∀ x, Mono (r x)] (h : Ev ta σ G (r x)) : Ev (tLst (tCons ta tNil)) σ G (rLst r [x]) := fun H hh Q q => h H hh _ fun v G1 H1 s1 p1 =>
  ⟨by show 1 ≤ sizeLine; decide, fun p hp => q _ _ _ (s1.trans (Stp.new s1.gh hp)) ⟨p, _, rfl, upd_same, .cons (Mono.mono (same_upd (s1.gh.free hp)) p1) .nil⟩⟩
theorem ev_pair {x : α} {y : β} [∀ x, Mono (r x)] [∀ x, Mono (s x)] (h : Ev ta σ G (r x)) (k : ∀ G', Same G G' → Ev tb σ G' (s y)) : Ev (tTup (tCons ta (tCons tb tNil))) σ G (rPr r s (x, y)) := fun H hh Q q =>
  h H hh _ fun v G1 H1 s1 p1 => k G1 s1.gg H1 s1.gh _ fun w G2 H2 s2 p2 => ⟨by show 2 ≤ sizeLine; decide, fun p hp =>
    q _ _ _ ((s1.trans s2).trans (Stp.new s2.gh hp)) ⟨p, v, w, rfl, upd_same, Mono.mono (s2.gg.trans (same_upd (s2.gh.free hp))) p1, Mono.mono (same_upd (s2.gh.free hp)) p2⟩⟩
/-- len(xs) -/
theorem ev_len {xs : List α} (ha : Ev ta σ G (rLst r xs)) : Ev (tCB (fun xs H Q => ∃ p ys, xs = [.ref p] ∧ (SqL K H p ys ∨ SqT K H p ys) ∧ Q (.int ys.length) H) (tCons ta tNil)) σ G (rInt (xs.length : Int)) :=
  ev_cb (ea1 ha) fun G' H' vs Q _ gh ⟨u, e, a, us, e1, h1, h2⟩ k => ⟨a, us, by rw [e, e1], .inl (.inl (.inl (gh _ _ h1))), k _ _ _ (.refl gh) (by show V.int _ = V.int _; rw [paired_len h2])⟩
/-- list(xs) -/
theorem ev_list {xs : List α} [∀ x, Mono (r x)] (ha : Ev ta σ G (rLst r xs)) : Ev (tCB (fun xs H Q => ∃ p ys, xs = [.ref p] ∧ (SqL K H p ys ∨ SqT K H p ys) ∧ ∀ l, H l = none → Q (.ref l) (upd H l (.lst ys))) (tCons ta tNil)) σ G (rLst r xs) :=
  ev_cb (ea1 ha) fun G' H' vs Q _ gh ⟨u, e, a, us, e1, h1, h2⟩ k => ⟨a, us, by rw [e, e1], .inl (.inl (.inl (gh _ _ h1))), fun l hl => k _ _ _ (Stp.new gh hl) ⟨l, us, rfl, upd_same, paired_imp (fun _ _ => Mono.mono (same_upd (gh.free hl))) h2⟩⟩
/-- xs + ys -/
theorem ev_cat {xs ys : List α} [∀ x, Mono (r x)] (ha : Ev ta σ G (rLst r xs)) (hb : ∀ G', Same G G' → Ev tb σ G' (rLst r ys)) (hl : xs.length + ys.length ≤ 100000) : Ev (tOp rCat ta tb) σ G (rLst r (xs ++ ys)) :=
  ev_op ha hb fun G' H' u w Q _ gh ⟨a, us, e1, h1, h2⟩ ⟨a', us', e1', h1', h2'⟩ k => ⟨a, a', us, us', e1, e1', gh _ _ h1, gh _ _ h1', sz_of (by rw [paired_len h2, paired_len h2']; exact hl), fun p hp =>
    k _ _ _ (Stp.new gh hp) ⟨p, _, rfl, upd_same, paired_imp (fun _ _ => Mono.mono (same_upd (gh.free hp))) (paired_app h2 h2')⟩⟩
/-- [x] * n -/
theorem ev_rep {x : α} {n : Nat} [∀ x, Mono (r x)] (ha : Ev ta σ G (rLst r [x])) (hb : ∀ G', Same G G' → Ev tb σ G' (rInt (n : Int))) (hn : n ≤ 100000) : Ev (tOp rRep ta tb) σ G (rLst r (List.replicate n x)) :=
  ev_op ha hb fun G' H' u w Q _ gh ⟨a, us, e1, h1, h2⟩ e2 k => by
    obtain ⟨z, rfl, hz⟩ : ∃ z, us = [z] ∧ r x G' z := by cases h2 with | cons q t => cases t; exact ⟨_, rfl, q⟩
    refine ⟨a, (n : Int), [z], e1, e2, gh _ _ h1, by omega, by omega, sz_of (by simpa using hn), fun p hp => ?_⟩
    have e3 : (List.replicate ((n : Int)).toNat [z]).flatten = List.replicate n z := by
      rw [Int.toNat_natCast]
      clear hp k hn e2 hb h1 h2
      induction n with
      | zero => rfl
      | succ n ih => rw [List.replicate_succ, List.flatten_cons, ih, List.replicate_succ]; rfl
    rw [e3]
    exact k _ _ _ (Stp.new gh hp) ⟨p, _, rfl, upd_same, paired_imp (fun _ _ => Mono.mono (same_upd (gh.free hp))) (paired_rep (F := fun x u => r x G' u) (x := x) (u := z) hz n)⟩
/-- xs[a:b] -/
def EvO (to : TO) (σ : St) (G : Hp) (o : Option Int) : Prop := ∀ H, Same G H → ∀ Q : Option Int → Hp → Prop, (∀ G' H', Stp G H G' H' → Q o H') → to σ H Q
theorem eo_none : EvO tNoPart σ G none := fun H hh Q q => q G H (.refl hh)
theorem eo_some {i : Int} (h : Ev ta σ G (rInt i)) : EvO (tPart ta) σ G (some i) := fun H hh Q q => h H hh _ fun v G1 H1 s1 p1 => ⟨i, p1, q G1 H1 s1⟩
def cutL {α : Type} (xs : List α) (lo hi : Option Int) : List α := (xs.drop (HT.sIx xs.length 0 lo)).take (HT.sIx xs.length xs.length hi - HT.sIx xs.length 0 lo)
theorem ev_sl {tl th : TO} {xs : List α} {lo hi : Option Int} [∀ x, Mono (r x)] (ha : Ev ta σ G (rLst r xs)) (h1 : ∀ G', Same G G' → EvO tl σ G' lo) (h2 : ∀ G', Same G G' → EvO th σ G' hi) : Ev (tSl (rSlL K) ta tl th) σ G (rLst r (cutL xs lo hi)) := fun H hh Q q =>
  ha H hh _ fun v G1 H1 s1 ⟨a, us, e1, e2, e3⟩ => h1 G1 s1.gg H1 s1.gh _ fun G2 H2 s2 => h2 G2 (s1.gg.trans s2.gg) H2 s2.gh _ fun G3 H3 s3 =>
    ⟨a, us, e1, .inl (.inl (s3.hh _ _ (s2.hh _ _ (s1.gh _ _ e2)))), fun p hp => q _ _ _ (((s1.trans s2).trans s3).trans (Stp.new s3.gh hp)) ⟨p, _, rfl, upd_same, by
      unfold cutV cutL
      rw [paired_len e3]
      exact paired_imp (fun _ _ => Mono.mono ((s2.gg.trans s3.gg).trans (same_upd (s3.gh.free hp)))) (paired_take _ (paired_drop _ e3))⟩⟩
/-- xs[::-1] -/
theorem ev_rev {xs : List α} [∀ x, Mono (r x)] (ha : Ev ta σ G (rLst r xs)) : Ev (tRevL K ta) σ G (rLst r xs.reverse) := fun H hh Q q =>
  ha H hh _ fun v G1 H1 s1 ⟨a, us, e1, e2, e3⟩ => ⟨a, us, e1, .inl (.inl (s1.gh _ _ e2)), fun p hp => q _ _ _ (s1.trans (Stp.new s1.gh hp)) ⟨p, _, rfl, upd_same, paired_imp (fun _ _ => Mono.mono (same_upd (s1.gh.free hp))) (paired_rev e3)⟩⟩
/-! built-in functions -/
theorem ev_sum {ns : List Int} (ha : Ev ta σ G (rLst rInt ns)) : Ev (tCB (rSum K) (tCons ta tNil)) σ G (rInt ns.sum) :=
  ev_cb (ea1 ha) fun G' H' vs Q _ gh ⟨u, e, a, us, e1, h1, h2⟩ k => ⟨a, ns, by rw [e, e1], .inl (.inl (by rw [← paired_ints h2]; exact gh _ _ h1)), k _ _ _ (.refl gh) rfl⟩
theorem ev_all {bs : List Bool} (ha : Ev ta σ G (rLst rBl bs)) : Ev (tCB (rAll K) (tCons ta tNil)) σ G (rBl (bs.all id)) :=
  ev_cb (ea1 ha) fun G' H' vs Q _ gh ⟨u, e, a, us, e1, h1, h2⟩ k => ⟨a, bs, by rw [e, e1], .inl (.inl (by rw [← paired_bls h2]; exact gh _ _ h1)), k _ _ _ (.refl gh) rfl⟩
theorem ev_any {bs : List Bool} (ha : Ev ta σ G (rLst rBl bs)) : Ev (tCB (rAny K) (tCons ta tNil)) σ G (rBl (bs.any id)) :=
  ev_cb (ea1 ha) fun G' H' vs Q _ gh ⟨u, e, a, us, e1, h1, h2⟩ k => ⟨a, bs, by rw [e, e1], .inl (.inl (by rw [← paired_bls h2]; exact gh _ _ h1)), k _ _ _ (.refl gh) rfl⟩
theorem ev_intB {c : Bool} (ha : Ev ta σ G (rBl c)) : Ev (tCB (fun xs H Q => (∃ i, xs = [.int i] ∧ Q (.int i) H) ∨ ∃ k, xs = [.bl k] ∧ Q (.int (if k then 1 else 0)) H) (tCons ta tNil)) σ G (rInt (if c then 1 else 0)) :=
  ev_cb (ea1 ha) fun G' H' vs Q _ gh ⟨u, e, e1⟩ k => .inr ⟨c, by rw [e, show u = _ from e1], k _ _ _ (.refl gh) rfl⟩
theorem ev_intI {i : Int} (ha : Ev ta σ G (rInt i)) : Ev (tCB (fun xs H Q => (∃ i, xs = [.int i] ∧ Q (.int i) H) ∨ ∃ k, xs = [.bl k] ∧ Q (.int (if k then 1 else 0)) H) (tCons ta tNil)) σ G (rInt i) :=
  ev_cb (ea1 ha) fun G' H' vs Q _ gh ⟨u, e, e1⟩ k => .inl ⟨i, by rw [e, show u = _ from e1], k _ _ _ (.refl gh) rfl⟩
theorem ev_gcd {i j : Int} (ha : Ev ta σ G (rInt i)) (hb : Ev tb σ G (rInt j)) : Ev (tCB rGcd (tCons ta (tCons tb tNil))) σ G (rInt ((Nat.gcd i.natAbs j.natAbs : Nat) : Int)) :=
  ev_cb (ea2 ha fun _ g => hb.mono g) fun G' H' vs Q _ gh ⟨u, w, e, e1, e2⟩ k => ⟨i, j, by rw [e, show u = _ from e1, show w = _ from e2], k _ _ _ (.refl gh) rfl⟩

/-! ### what is walked -/
def Src (wi : TI) (σ : St) (G : Hp) (n : Nat) (Y : Nat → HP) : Prop := ∀ H, Same G H → ∀ R : It → Hp → Prop, (∀ J G' H', Stp G H G' H' →
    (∀ i G1 H1, i < n → Same G' G1 → Same G1 H1 → J.go i H1 ∧ ∀ x H2, J.yld i H1 x H2 → ∃ G2, Stp G1 H1 G2 H2 ∧ Y i G2 x) → (∀ H1, Same G' H1 → J.stop n H1) → R J H') → wi σ H R
def yAt (r : α → HP) (xs : List α) (i : Nat) : HP := fun G v => ∃ x, xs[i]? = some x ∧ r x G v
theorem src_list {xs : List α} [∀ x, Mono (r x)] (h : Ev ta σ G (rLst r xs)) : Src (iList K ta) σ G xs.length (yAt r xs) := fun H hh R k => h H hh _ fun v G1 H1 s1 ⟨a, us, e1, e2, e3⟩ => by
  refine ⟨a, e1, ⟨us, .inl (.inl (s1.gh _ _ e2))⟩, k _ G1 H1 s1 (fun i G2 H2 hi g gh => ?_) fun H2 g => ?_⟩
  · have q : SqL K H2 a us := .inl (.inl (gh _ _ (g _ _ e2)))
    have w := walk_list (K := K) (a := a) (xs := us)
    have hi' : i < us.length := by rw [paired_len e3]; exact hi
    refine ⟨w.goes i H2 hi' q, fun x H3 y => ?_⟩
    obtain ⟨rfl, hx⟩ := w.yields i H2 x H3 hi' q y
    obtain ⟨z, hz, rz⟩ := paired_at' e3 hx
    exact ⟨G2, .refl gh, z, hz, Mono.mono g rz⟩
  · have q : SqL K H2 a us := .inl (.inl (g _ _ e2))
    have w := (walk_list (K := K) (a := a) (xs := us)).stops H2 q
    rw [paired_len e3] at w
    exact w
theorem src_range {n : Nat} {tA : TA} (h : EvA tA σ G (p1 (rInt (n : Int)))) (hn : n ≤ 100000) : Src (iRng1 tA) σ G n (fun i => rInt (i : Int)) := fun H hh R k => h H hh _ fun vs G1 H1 s1 ⟨u, e1, e2⟩ => by
  refine ⟨(n : Int), by rw [e1, show u = _ from e2], by omega, by omega, ?_⟩
  rw [Int.toNat_natCast]
  exact k _ G1 H1 s1 (fun i G2 H2 hi g gh => ⟨hi, fun x H3 y => by obtain ⟨rfl, rfl⟩ := y; exact ⟨G2, .refl gh, by show V.int _ = V.int _; rw [Int.zero_add]⟩⟩) fun _ _ => Nat.le_refl _
theorem src_enum {xs : List α} [∀ x, Mono (r x)] (h : Ev ta σ G (rLst r xs)) : Src (iEnum K (tCons ta tNil)) σ G xs.length (fun i G v => ∃ x, xs[i]? = some x ∧ rPr rInt r ((i : Int), x) G v) := fun H hh R k => h H hh _ fun v G1 H1 s1 ⟨a, us, e1, e2, e3⟩ => by
  refine ⟨a, us, by rw [e1], .inl (.inl (s1.gh _ _ e2)), k _ G1 H1 s1 (fun i G2 H2 hi g gh => ?_) fun H2 g => ?_⟩
  · have q : SqL K H2 a us := .inl (.inl (gh _ _ (g _ _ e2)))
    have w := walk_enum (K := K) (a := a) (xs := us)
    have hi' : i < us.length := by rw [paired_len e3]; exact hi
    refine ⟨w.goes i H2 hi' q, fun x H3 y => ?_⟩
    obtain ⟨T, u1, u2, rfl, hT, rfl, hx, hy⟩ := w.yields i H2 x H3 hi' q y
    obtain ⟨z, hz, rz⟩ := paired_at' e3 hy
    refine ⟨upd G2 T (.tup [u1, u2]), Stp.new gh hT, z, hz, T, u1, u2, rfl, upd_same, ?_, Mono.mono (g.trans (same_upd (gh.free hT))) rz⟩
    exact (Option.some.inj hx).symm
  · have q : SqL K H2 a us := .inl (.inl (g _ _ e2))
    have w := (walk_enum (K := K) (a := a) (xs := us)).stops H2 q
    rw [paired_len e3] at w
    exact w
theorem src_zip {xs : List α} {ys : List β} [∀ x, Mono (r x)] [∀ x, Mono (s x)] {n : Nat} (h : Ev ta σ G (rLst r xs)) (h' : ∀ G', Same G G' → Ev tb σ G' (rLst s ys)) (hn : n = min xs.length ys.length) :
    Src (iZip K (tCons ta (tCons tb tNil))) σ G n (fun i G v => ∃ x y, xs[i]? = some x ∧ ys[i]? = some y ∧ rPr r s (x, y) G v) := fun H hh R k => h H hh _ fun v G1 H1 s1 ⟨a, us, e1, e2, e3⟩ => h' G1 s1.gg H1 s1.gh _ fun v' G1' H1' s1' ⟨b, ws, e1', e2', e3'⟩ => by
  have e2 := s1'.gg _ _ e2
  have e3 := paired_imp (fun _ _ => Mono.mono s1'.gg) e3
  have hn' : n = min us.length ws.length := by rw [paired_len e3, paired_len e3']; exact hn
  have w := walk_zip (K := K) (a := a) (b := b) (xs := us) (ys := ws) hn'
  refine ⟨a, b, us, ws, by rw [e1, e1'], .inl (.inl (s1'.gh _ _ e2)), .inl (.inl (s1'.gh _ _ e2')), k _ G1' H1' (s1.trans s1') (fun i G2 H2 hi g gh => ?_) fun H2 g => ?_⟩
  · have q : SqL K H2 a us ∧ SqL K H2 b ws := ⟨.inl (.inl (gh _ _ (g _ _ e2))), .inl (.inl (gh _ _ (g _ _ e2')))⟩
    refine ⟨w.goes i H2 hi q, fun x H3 y => ?_⟩
    obtain ⟨T, u1, u2, rfl, hT, rfl, hx, hy⟩ := w.yields i H2 x H3 hi q y
    obtain ⟨z, hz, rz⟩ := paired_at' e3 hx
    obtain ⟨z', hz', rz'⟩ := paired_at' e3' hy
    exact ⟨upd G2 T (.tup [u1, u2]), Stp.new gh hT, z, z', hz, hz', T, u1, u2, rfl, upd_same, Mono.mono (g.trans (same_upd (gh.free hT))) rz, Mono.mono (g.trans (same_upd (gh.free hT))) rz'⟩
  · exact w.stops H2 ⟨.inl (.inl (g _ _ e2)), .inl (.inl (g _ _ e2'))⟩

/-! ### targets -/
/-- the target g takes such an x: the slots become those that R tells; nothing of the heap changes -/
def Tgt (g : TG) (σ : St) (G : Hp) (x : V) (R : St → Prop) : Prop := ∀ H, Same G H → ∀ Q : St → Hp → Prop, (∀ σ', R σ' → Q σ' H) → g x σ H Q
theorem tg_name {j : Nat} {x : V} : Tgt (gName j) σ G x (fun σ' => σ' = σ.set j (some x)) := fun H _ Q k => k _ rfl
theorem tg_pair {j l : Nat} {x : V} {z : α} {y : β} (h : rPr r s (z, y) G x) : Tgt (gTup K 2 (gCons (gName j) (gCons (gName l) gNil))) σ G x (fun σ' => ∃ u w, r z G u ∧ s y G w ∧ σ' = (σ.set j (some u)).set l (some w)) := fun H gh Q k => by
  obtain ⟨a, u, w, rfl, e, h1, h2⟩ := h
  exact ⟨a, _, rfl, .inl (.inl (gh _ _ e)), rfl, u, _, rfl, w, _, rfl, rfl, k _ ⟨u, w, h1, h2, rfl⟩⟩

/-! ### comprehensions -/
/-- [e for target in source] : zs -/
theorem ev_lc {wi : TI} {g : TG} {vs : List Nat} {n : Nat} {Y : Nat → HP} [∀ x, Mono (r x)] (zs : List α) (hsrc : Src wi σ G n Y) (hz : zs.length = n) (hn : n ≤ 100000)
    (hb : ∀ i z G1 x, zs[i]? = some z → Same G G1 → Y i G1 x → Tgt g (wipe σ vs) G1 x (fun σ2 => wipe σ2 vs = wipe σ vs ∧ Ev te σ2 G1 (r z))) : Ev (tLc wi g tYes te vs) σ G (rLst r zs) := fun H hh Q q =>
  hsrc H hh _ fun J G1 H1 s1 hgo hstop D hD => by
    have gD : G1 D = none := s1.gh.free hD
    refine ⟨fun i m H2 => m = n - i ∧ i ≤ n ∧ ∃ G2 us, Stp G1 H1 G2 H2 ∧ G2 D = none ∧ H2 D = some (.lst us) ∧ Paired (fun x u => r x G2 u) (zs.take i) us, ⟨n, rfl, Nat.zero_le _, G1, [], Stp.aside s1.gh hD, gD, upd_same, .nil⟩, ?_⟩
    rintro i m H2 ⟨rfl, hi, G2, us, s2, d1, d2, hp⟩
    by_cases hlt : i < n
    · obtain ⟨hg, hy⟩ := hgo i G2 H2 hlt s2.gg s2.gh
      have hzi : i < zs.length := by rw [hz]; exact hlt
      refine .inr ⟨hg, fun H' => (i + 1 ≤ n ∧ ∃ G2 us, Stp G1 H1 G2 H' ∧ G2 D = none ∧ H' D = some (.lst us) ∧ Paired (fun x u => r x G2 u) (zs.take (i + 1)) us), fun H' h' => ⟨n - (i + 1), by omega, rfl, h'⟩, fun x H3 y => ?_⟩
      obtain ⟨G3, s3, y3⟩ := hy x H3 y
      refine hb i zs[i] G3 x (List.getElem?_eq_getElem hzi) (s1.gg.trans (s2.gg.trans s3.gg)) y3 H3 s3.gh _ fun σ2 ⟨w1, w2⟩ => ⟨w1, ?_⟩
      show te σ2 H3 _
      refine w2 H3 s3.gh _ fun v G4 H4 s4 p4 => ?_
      obtain ⟨k1, k2⟩ := (s3.trans s4).keep d1 d2
      refine ⟨us, k2, sz_lt (by rw [paired_len hp, List.length_take]; omega), hlt, G4, us ++ [v], Stp.wr ((s2.trans s3).trans s4) hD k1, k1, upd_same, ?_⟩
      rw [List.take_succ_eq_append_getElem hzi]
      exact paired_app (paired_imp (fun _ _ => Mono.mono (s3.gg.trans s4.gg)) hp) (.cons p4 .nil)
    · have e : i = n := by omega
      subst e
      refine .inl ⟨hstop H2 (s2.gg.trans s2.gh), ?_⟩
      have hp' : Paired (fun x u => r x G2 u) zs us := by rw [← List.take_length (l := zs), hz]; exact hp
      have s2' := s2.frz hD d1 d2
      exact q _ _ _ (s1.trans s2') ⟨D, us, rfl, upd_same, paired_imp (fun _ _ => Mono.mono (same_upd d1)) hp'⟩
/-- .. with a test: f tells which of them, zs are all -/
theorem ev_lcF {wi : TI} {g : TG} {vs : List Nat} {n : Nat} {Y : Nat → HP} [∀ x, Mono (r x)] (zs : List α) (f : α → Bool) (hsrc : Src wi σ G n Y) (hz : zs.length = n) (hn : n ≤ 100000)
    (hb : ∀ i z G1 x, zs[i]? = some z → Same G G1 → Y i G1 x → Tgt g (wipe σ vs) G1 x (fun σ2 => wipe σ2 vs = wipe σ vs ∧ EvT tt σ2 G1 (f z) ∧ Ev te σ2 G1 (r z))) : Ev (tLc wi g tt te vs) σ G (rLst r (zs.filter f)) := fun H hh Q q =>
  hsrc H hh _ fun J G1 H1 s1 hgo hstop D hD => by
    have gD : G1 D = none := s1.gh.free hD
    refine ⟨fun i m H2 => m = n - i ∧ i ≤ n ∧ ∃ G2 us, Stp G1 H1 G2 H2 ∧ G2 D = none ∧ H2 D = some (.lst us) ∧ Paired (fun x u => r x G2 u) ((zs.take i).filter f) us, ⟨n, rfl, Nat.zero_le _, G1, [], Stp.aside s1.gh hD, gD, upd_same, .nil⟩, ?_⟩
    rintro i m H2 ⟨rfl, hi, G2, us, s2, d1, d2, hp⟩
    by_cases hlt : i < n
    · obtain ⟨hg, hy⟩ := hgo i G2 H2 hlt s2.gg s2.gh
      have hzi : i < zs.length := by rw [hz]; exact hlt
      refine .inr ⟨hg, fun H' => (i + 1 ≤ n ∧ ∃ G2 us, Stp G1 H1 G2 H' ∧ G2 D = none ∧ H' D = some (.lst us) ∧ Paired (fun x u => r x G2 u) ((zs.take (i + 1)).filter f) us), fun H' h' => ⟨n - (i + 1), by omega, rfl, h'⟩, fun x H3 y => ?_⟩
      obtain ⟨G3, s3, y3⟩ := hy x H3 y
      refine hb i zs[i] G3 x (List.getElem?_eq_getElem hzi) (s1.gg.trans (s2.gg.trans s3.gg)) y3 H3 s3.gh _ fun σ2 ⟨w1, w2, w3⟩ => ⟨w1, ?_⟩
      refine w2 H3 s3.gh _ fun G4 H4 s4 => ?_
      obtain ⟨k1, k2⟩ := (s3.trans s4).keep d1 d2
      have hlen : us.length ≤ i := by rw [paired_len hp]; exact Nat.le_trans (List.length_filter_le _ _) (by rw [List.length_take]; omega)
      rw [List.take_succ_eq_append_getElem hzi, List.filter_append]
      cases hf : f zs[i] with
      | true =>
        refine iteT ((w3.mono s4.gg) H4 s4.gh _ fun v G5 H5 s5 p5 => ?_)
        obtain ⟨k3, k4⟩ := s5.keep k1 k2
        refine ⟨us, k4, sz_lt (by omega), hlt, G5, us ++ [v], Stp.wr (((s2.trans s3).trans s4).trans s5) hD k3, k3, upd_same, ?_⟩
        refine paired_app (paired_imp (fun _ _ => Mono.mono ((s3.gg.trans s4.gg).trans s5.gg)) hp) ?_
        rw [List.filter_cons_of_pos hf]
        exact .cons p5 .nil
      | false =>
        refine iteF ⟨hlt, G4, us, (s2.trans s3).trans s4, k1, k2, ?_⟩
        rw [List.filter_cons_of_neg (by rw [hf]; exact Bool.false_ne_true)]
        rw [List.filter_nil, List.append_nil]
        exact paired_imp (fun _ _ => Mono.mono (s3.gg.trans s4.gg)) hp
    · have e : i = n := by omega
      subst e
      refine .inl ⟨hstop H2 (s2.gg.trans s2.gh), ?_⟩
      have hp' : Paired (fun x u => r x G2 u) (zs.filter f) us := by
        have e : zs.take i = zs := by rw [← hz]; exact List.take_length
        rw [e] at hp
        exact hp
      have s2' := s2.frz hD d1 d2
      exact q _ _ _ (s1.trans s2') ⟨D, us, rfl, upd_same, paired_imp (fun _ _ => Mono.mono (same_upd d1)) hp'⟩

/-! ### statements -/
variable {D : Ends} {tz u1 u2 : TS} {G0 H0 : Hp}
theorem q_asg {i : Nat} (gh : Same G H) (h : Ev te σ G P) (k : ∀ v G' H', Stp G H G' H' → P G' v → tz D (σ.set i (some v)) H') : tSeq (tAsg te (gName i)) tz D σ H := h H gh _ k
theorem q_ret (gh : Same G H) (h : Ev te σ G P) (k : ∀ v G' H', Stp G H G' H' → P G' v → D.rt v H') : tRet te D σ H := h H gh _ k
theorem q_drop (gh : Same G H) (h : Ev te σ G P) (k : ∀ v G' H', Stp G H G' H' → P G' v → tz D σ H') : tSeq (tDrop te) tz D σ H := h H gh _ k
theorem q_if (gh : Same G H) (h : EvT tt σ G b) (k1 : b = true → ∀ G' H', Stp G H G' H' → u1 { D with nx := tz D } σ H') (k2 : b = false → ∀ G' H', Stp G H G' H' → u2 { D with nx := tz D } σ H') : tSeq (tIfS tt u1 u2) tz D σ H := h H gh _ fun G1 H1 s1 => by
  cases b with
  | true => exact iteT (k1 rfl G1 H1 s1)
  | false => exact iteF (k2 rfl G1 H1 s1)
theorem s_if (gh : Same G H) (h : EvT tt σ G b) (k1 : b = true → ∀ G' H', Stp G H G' H' → u1 D σ H') (k2 : b = false → ∀ G' H', Stp G H G' H' → u2 D σ H') : tIfS tt u1 u2 D σ H := h H gh _ fun G1 H1 s1 => by
  cases b with
  | true => exact iteT (k1 rfl G1 H1 s1)
  | false => exact iteF (k2 rfl G1 H1 s1)
/-- a test that says no: what raises is passed by -/
theorem q_no (gh : Same G H) (h : EvT tt σ G false) (k : ∀ G' H', Stp G H G' H' → tz D σ H') : tSeq (tIfS tt u1 tNext) tz D σ H := q_if gh h (fun e => nomatch e) fun _ => k
/-- for target in source: Inv by the turn, the two heaps, the slots; G0, H0: the entry -/
theorem s_for {wi : TI} {g : TG} {n : Nat} {Y : Nat → HP} (st : Stp G0 H0 G H) (hsrc : Src wi σ G n Y) (Inv : Nat → Hp → Hp → St → Prop) (mono : ∀ i G1 H1 G2 H2 σ, Stp G1 H1 G2 H2 → Inv i G1 H1 σ → Inv i G2 H2 σ)
    (h0 : ∀ G1 H1, Stp G H G1 H1 → Inv 0 G1 H1 σ)
    (turn : ∀ i G1 H1 σ1 x, i < n → Stp G0 H0 G1 H1 → Same G G1 → Inv i G1 H1 σ1 → Y i G1 x → ∀ (N : St → Hp → Prop), (∀ σ' G' H', Stp G0 H0 G' H' → Same G1 G' → Inv (i + 1) G' H' σ' → N σ' H') → g x σ1 H1 fun σ2 H2 => u1 { D with nx := N, ct := N, bk := D.nx } σ2 H2)
    (done : ∀ G1 H1 σ1, Stp G0 H0 G1 H1 → Same G G1 → Inv n G1 H1 σ1 → D.nx σ1 H1) : tFor wi g u1 D σ H := hsrc H st.gh _ fun J G1 H1 s1 hgo hstop => by
  refine ⟨fun i m σ2 H2 => m = n - i ∧ i ≤ n ∧ ∃ G2, Stp G0 H0 G2 H2 ∧ Same G1 G2 ∧ Inv i G2 H2 σ2, ⟨n, rfl, Nat.zero_le _, G1, st.trans s1, .refl _, h0 G1 H1 s1⟩, ?_⟩
  rintro i m σ2 H2 ⟨rfl, hi, G2, s2, g2, inv⟩
  by_cases hlt : i < n
  · obtain ⟨hg, hy⟩ := hgo i G2 H2 hlt g2 s2.gh
    refine .inr ⟨hg, fun σ' H' => (i + 1 ≤ n ∧ ∃ G', Stp G0 H0 G' H' ∧ Same G1 G' ∧ Inv (i + 1) G' H' σ'), fun σ' H' h' => ⟨n - (i + 1), by omega, rfl, h'⟩, fun x H3 y => ?_⟩
    obtain ⟨G3, s3, y3⟩ := hy x H3 y
    exact turn i G3 H3 σ2 x hlt (s2.trans s3) ((s1.gg.trans g2).trans s3.gg) (mono i G2 H2 G3 H3 σ2 s3 inv) y3 _ fun σ' G' H' a b c => ⟨hlt, G', a, (g2.trans s3.gg).trans b, c⟩
  · have e : i = n := by omega
    subst e
    exact .inl ⟨hstop H2 (g2.trans s2.gh), done G2 H2 σ2 s2 (s1.gg.trans g2) inv⟩
theorem q_for {wi : TI} {g : TG} {n : Nat} {Y : Nat → HP} (st : Stp G0 H0 G H) (hsrc : Src wi σ G n Y) (Inv : Nat → Hp → Hp → St → Prop) (mono : ∀ i G1 H1 G2 H2 σ, Stp G1 H1 G2 H2 → Inv i G1 H1 σ → Inv i G2 H2 σ)
    (h0 : ∀ G1 H1, Stp G H G1 H1 → Inv 0 G1 H1 σ)
    (turn : ∀ i G1 H1 σ1 x, i < n → Stp G0 H0 G1 H1 → Same G G1 → Inv i G1 H1 σ1 → Y i G1 x → ∀ (N : St → Hp → Prop), (∀ σ' G' H', Stp G0 H0 G' H' → Same G1 G' → Inv (i + 1) G' H' σ' → N σ' H') → g x σ1 H1 fun σ2 H2 => u1 { D with nx := N, ct := N, bk := tz D } σ2 H2)
    (done : ∀ G1 H1 σ1, Stp G0 H0 G1 H1 → Same G G1 → Inv n G1 H1 σ1 → tz D σ1 H1) : tSeq (tFor wi g u1) tz D σ H := s_for (D := { D with nx := tz D }) st hsrc Inv mono h0 turn done
end
end K28
end
section
set_option Elab.async false
set_option linter.all false
set_option maxRecDepth 100000
set_option maxHeartbeats 4000000
namespace K28q
open PySem PySem.SeqAt
open AutoSeq1 (wpAny_loadPart')
open MeetsSeq MeetsSeq2 MeetsSeq3 SeqRoads2
section
variable {prog : Program} {w : World} {A : Around} {R : Result → Shared → Prop}
/-- the items are asked from the left; bs tells the answers; the two lists stand through all -/
structure Lup (prog : Program) (w : World) (A : Around) (E : Value → Shared → Prop) (l b : Addr) (N : Nat) (bs : Nat → Bool) (I : Nat → Shared → Prop) : Prop where
  stand : ∀ i s, I i s → ∃ (xs ys : Array Value) (n m : Nat), s.heap.get? l = some { cls := .type "list", data := .seq xs n } ∧ s.heap.get? b = some { cls := .type "list", data := .seq ys m } ∧ xs.size = N ∧ ys.size = N ∧
    ∀ (h1 : i < xs.size) (h2 : i < ys.size), wpAny (model prog w) A.in1 (eqBool xs[i] ys[i]) (fun r s' => r = bs i ∧ I (i + 1) s') E s
theorem eq_go (l b : Addr) (N : Nat) (bs : Nat → Bool) (I : Nat → Shared → Prop) (L : Lup prog w A (fun e s' => R (.error e) s') l b N bs I) (r : Bool) (hT : (∀ j, j < N → bs j = true) → r = true) (hF : ∀ j, j < N → bs j = false → r = false)
    (fin : ∀ i s, I i s → R (.ok (.ret (.bool r))) s) (k : Nat) :
    ∀ i : Nat, N - i = k → i ≤ N → (∀ j, j < i → bs j = true) → ∀ s, I i s →
      wpAny (model prog w) A.in1 (Builtin.«list.__eq__.loop» ⟨[.ref l, .ref b, rawInt i, rawInt 2], []⟩) (GQ.FinOf prog w A R) (fun e s' => R (.error e) s') s := by
  induction k with
  | zero =>
    intro i hk hi hall s h
    obtain ⟨xs, ys, n, m, g1, g2, z1, z2, _⟩ := L.stand _ _ h
    have e : i = N := by omega
    have q := fin i s h
    rw [hT (fun j hj => hall j (by omega))] at q
    obtain ⟨hp, g, d, tk, os⟩ := s
    wp_walk using wpAny_loadPart' g1, wpAny_loadPart' g2
    have n1 : xs[((i : Nat) : Int).toNat]? = none := by simp; omega
    have n2 : ys[((i : Nat) : Int).toNat]? = none := by simp; omega
    rw [n1, n2]
    wp_walk using wpAny_loadPart' g1, wpAny_loadPart' g2
    show R (.ok (.ret (.bool (xs.size == ys.size)))) _
    rw [z1, z2]
    simpa using q
  | succ k ih =>
    intro i hk hi hall s h
    obtain ⟨xs, ys, n, m, g1, g2, z1, z2, turn⟩ := L.stand _ _ h
    have l1 : i < xs.size := by omega
    have l2 : i < ys.size := by omega
    have ht := turn l1 l2
    obtain ⟨hp, g, d, tk, os⟩ := s
    wp_walk using wpAny_loadPart' g1, wpAny_loadPart' g2
    have n1 : xs[((i : Nat) : Int).toNat]? = some xs[i] := by simp [l1]
    have n2 : ys[((i : Nat) : Int).toNat]? = some ys[i] := by simp [l2]
    have ec : ((i : Int) + 1) = ((i + 1 : Nat) : Int) := by omega
    rw [n1, n2]
    refine wpAny_bind (wpAny_mono ht (fun c s2 q => ?_) fun _ _ x => x)
    obtain ⟨hc, h2⟩ := q
    cases hb : bs i with
    | true =>
      rw [hb] at hc
      subst hc
      have rest := ih (i + 1) (by omega) (by omega) (fun j hj => by
        rcases Nat.lt_or_ge j i with z | z
        · exact hall j z
        · rw [show j = i by omega]; exact hb) s2 h2
      obtain ⟨hp2, g2', d2, tk2, os2⟩ := s2
      wp_walk
      rw [ec]
      refine ⟨plainId_quiet plain_eq_loop _, codeAny_builtin entry_eq_loop ?_⟩
      rw [Around.under_plainId plain_eq_loop _]
      exact rest
    | false =>
      rw [hb] at hc
      subst hc
      obtain ⟨xs', ys', n', m', g1', g2', z1', z2', _⟩ := L.stand _ _ h2
      have q := fin (i + 1) s2 h2
      rw [hF i (by omega) hb] at q
      obtain ⟨hp2, gg2, d2, tk2, os2⟩ := s2
      wp_walk using wpAny_loadPart' g1', wpAny_loadPart' g2'
      have m1 : xs'[((i : Nat) : Int).toNat]? = some (xs'[i]'(by omega)) := by simp
      have m2 : ys'[((i : Nat) : Int).toNat]? = some (ys'[i]'(by omega)) := by simp
      rw [m1, m2]
      wp_walk
      exact q
theorem ne_go (l b : Addr) (N : Nat) (bs : Nat → Bool) (I : Nat → Shared → Prop) (L : Lup prog w A (fun e s' => R (.error e) s') l b N bs I) (r : Bool) (hT : (∀ j, j < N → bs j = true) → r = true) (hF : ∀ j, j < N → bs j = false → r = false)
    (fin : ∀ i s, I i s → R (.ok (.ret (.bool (!r)))) s) (k : Nat) :
    ∀ i : Nat, N - i = k → i ≤ N → (∀ j, j < i → bs j = true) → ∀ s, I i s →
      wpAny (model prog w) A.in1 (Builtin.«list.__eq__.loop» ⟨[.ref l, .ref b, rawInt i, rawInt 3], []⟩) (GQ.FinOf prog w A R) (fun e s' => R (.error e) s') s := by
  induction k with
  | zero =>
    intro i hk hi hall s h
    obtain ⟨xs, ys, n, m, g1, g2, z1, z2, _⟩ := L.stand _ _ h
    have e : i = N := by omega
    have q := fin i s h
    rw [hT (fun j hj => hall j (by omega))] at q
    obtain ⟨hp, g, d, tk, os⟩ := s
    wp_walk using wpAny_loadPart' g1, wpAny_loadPart' g2
    have n1 : xs[((i : Nat) : Int).toNat]? = none := by simp; omega
    have n2 : ys[((i : Nat) : Int).toNat]? = none := by simp; omega
    rw [n1, n2]
    wp_walk using wpAny_loadPart' g1, wpAny_loadPart' g2
    show R (.ok (.ret (.bool (xs.size != ys.size)))) _
    rw [z1, z2]
    simpa using q
  | succ k ih =>
    intro i hk hi hall s h
    obtain ⟨xs, ys, n, m, g1, g2, z1, z2, turn⟩ := L.stand _ _ h
    have l1 : i < xs.size := by omega
    have l2 : i < ys.size := by omega
    have ht := turn l1 l2
    obtain ⟨hp, g, d, tk, os⟩ := s
    wp_walk using wpAny_loadPart' g1, wpAny_loadPart' g2
    have n1 : xs[((i : Nat) : Int).toNat]? = some xs[i] := by simp [l1]
    have n2 : ys[((i : Nat) : Int).toNat]? = some ys[i] := by simp [l2]
    have ec : ((i : Int) + 1) = ((i + 1 : Nat) : Int) := by omega
    rw [n1, n2]
    refine wpAny_bind (wpAny_mono ht (fun c s2 q => ?_) fun _ _ x => x)
    obtain ⟨hc, h2⟩ := q
    cases hb : bs i with
    | true =>
      rw [hb] at hc
      subst hc
      have rest := ih (i + 1) (by omega) (by omega) (fun j hj => by
        rcases Nat.lt_or_ge j i with z | z
        · exact hall j z
        · rw [show j = i by omega]; exact hb) s2 h2
      obtain ⟨hp2, g2', d2, tk2, os2⟩ := s2
      wp_walk
      rw [ec]
      refine ⟨plainId_quiet plain_eq_loop _, codeAny_builtin entry_eq_loop ?_⟩
      rw [Around.under_plainId plain_eq_loop _]
      exact rest
    | false =>
      rw [hb] at hc
      subst hc
      obtain ⟨xs', ys', n', m', g1', g2', z1', z2', _⟩ := L.stand _ _ h2
      have q := fin (i + 1) s2 h2
      rw [hF i (by omega) hb] at q
      obtain ⟨hp2, gg2, d2, tk2, os2⟩ := s2
      wp_walk using wpAny_loadPart' g1', wpAny_loadPart' g2'
      have m1 : xs'[((i : Nat) : Int).toNat]? = some (xs'[i]'(by omega)) := by simp
      have m2 : ys'[((i : Nat) : Int).toNat]? = some (ys'[i]'(by omega)) := by simp
      rw [m1, m2]
      wp_walk
      exact q
theorem list_eqB (l b : Addr) (N : Nat) (bs : Nat → Bool) (I : Nat → Shared → Prop) (L : Lup prog w A (fun e s' => R (.error e) s') l b N bs I) (r : Bool) (hT : (∀ j, j < N → bs j = true) → r = true) (hF : ∀ j, j < N → bs j = false → r = false)
    (fin : ∀ i s, I i s → R (.ok (.ret (.bool r))) s) {s : Shared} (h : I 0 s) :
    wpAny (model prog w) A.in1 (Builtin.«list.__eq__» ⟨[.ref l, .ref b], []⟩) (GQ.FinOf prog w A R) (fun e s' => R (.error e) s') s := by
  obtain ⟨xs, ys, n, m, g1, g2, z1, z2, _⟩ := L.stand _ _ h
  have rest := eq_go (A := A) (R := R) l b N bs I L r hT hF fin _ 0 rfl (Nat.zero_le _) (fun j hj => absurd hj (Nat.not_lt_zero j)) s h
  obtain ⟨hp, g, d, tk, os⟩ := s
  have f3 := AutoSeq1.sub_list_list
  have hne : ¬ (xs.size != ys.size) = true := by simp [z1, z2]
  wp_walk using wpAny_loadPart' g1, wpAny_loadPart' g2
  refine ⟨plainId_quiet plain_eq_loop _, codeAny_builtin entry_eq_loop ?_⟩
  rw [Around.under_plainId plain_eq_loop _]
  exact rest
theorem list_neB (l b : Addr) (N : Nat) (bs : Nat → Bool) (I : Nat → Shared → Prop) (L : Lup prog w A (fun e s' => R (.error e) s') l b N bs I) (r : Bool) (hT : (∀ j, j < N → bs j = true) → r = true) (hF : ∀ j, j < N → bs j = false → r = false)
    (fin : ∀ i s, I i s → R (.ok (.ret (.bool (!r)))) s) {s : Shared} (h : I 0 s) :
    wpAny (model prog w) A.in1 (Builtin.«list.__ne__» ⟨[.ref l, .ref b], []⟩) (GQ.FinOf prog w A R) (fun e s' => R (.error e) s') s := by
  obtain ⟨xs, ys, n, m, g1, g2, z1, z2, _⟩ := L.stand _ _ h
  have rest := ne_go (A := A) (R := R) l b N bs I L r hT hF fin _ 0 rfl (Nat.zero_le _) (fun j hj => absurd hj (Nat.not_lt_zero j)) s h
  obtain ⟨hp, g, d, tk, os⟩ := s
  have f3 := AutoSeq1.sub_list_list
  have hne : ¬ (xs.size != ys.size) = true := by simp [z1, z2]
  wp_walk using wpAny_loadPart' g1, wpAny_loadPart' g2
  refine ⟨plainId_quiet plain_eq_loop _, codeAny_builtin entry_eq_loop ?_⟩
  rw [Around.under_plainId plain_eq_loop _]
  exact rest
/-- of other lengths -/
theorem list_eqL {l b : Addr} {xs ys : Array Value} {n m : Nat} {s : Shared} (g1 : s.heap.get? l = some { cls := .type "list", data := .seq xs n }) (g2 : s.heap.get? b = some { cls := .type "list", data := .seq ys m }) (hz : xs.size ≠ ys.size) (q : R (.ok (.ret (.bool false))) s) :
    wpAny (model prog w) A.in1 (Builtin.«list.__eq__» ⟨[.ref l, .ref b], []⟩) (GQ.FinOf prog w A R) (fun e s' => R (.error e) s') s := by
  obtain ⟨hp, g, d, tk, os⟩ := s
  have f3 := AutoSeq1.sub_list_list
  have hne : (xs.size != ys.size) = true := by simp [hz]
  wp_walk using wpAny_loadPart' g1, wpAny_loadPart' g2
  exact q
theorem list_neL {l b : Addr} {xs ys : Array Value} {n m : Nat} {s : Shared} (g1 : s.heap.get? l = some { cls := .type "list", data := .seq xs n }) (g2 : s.heap.get? b = some { cls := .type "list", data := .seq ys m }) (hz : xs.size ≠ ys.size) (q : R (.ok (.ret (.bool true))) s) :
    wpAny (model prog w) A.in1 (Builtin.«list.__ne__» ⟨[.ref l, .ref b], []⟩) (GQ.FinOf prog w A R) (fun e s' => R (.error e) s') s := by
  obtain ⟨hp, g, d, tk, os⟩ := s
  have f3 := AutoSeq1.sub_list_list
  have hne : (xs.size != ys.size) = true := by simp [hz]
  wp_walk using wpAny_loadPart' g1, wpAny_loadPart' g2
  exact q
end
end K28q
end
section
set_option Elab.async false
set_option linter.all false
set_option maxRecDepth 100000
set_option maxHeartbeats 4000000
namespace K28q
open PySem PySem.W PySem.Calls PyProof.Rows
section
variable {prog : Program} {w : World} {A : Around} {E : Value → Shared → Prop} {s : Shared} {K : Frag} {x y C L f : Addr} {h0 : Heap} {m : Str → Option Value} {ox oy : Obj} {od od2 : Option Obj} {b tb : Value}
/-- a built-in slot of an own class, bound and called -/
theorem ifBound_B {M : Model} {name : Str} {id : String} {args : List Value} {Q : Option Value → Shared → Prop} (X : K.In s.heap) (I : InstAt s.heap x ox C od) (hs : findIn K (.ref C) name = some (some (.builtin id)))
    (hb : ∀ self, bindSpecial (.builtin id) self = pure (.builtin id, [self])) (h : wpAny M A (call (.builtin id) (.ref x :: args)) (fun v => Q (some v)) E s) : wpAny M A (callSpecialIfBound? (.ref x) name args) Q E s := by
  have fin : wpAny M A (call (.builtin id) ([.ref x] ++ args) >>= fun v => pure (some v)) Q E s := wpAny_bind (wpAny_mono h (fun v s' z => wpAny_pure z) fun _ _ z => z)
  simp only [callSpecialIfBound?, bindSpecialIfBound?]; refine wpAny_holding (wpAny_bind (wpAny_bind (wpAny_bind (I.type.here ((looks_findIn X hs).here ?_)))))
  refine wpAny_bind (wpAny_askSetting (wpAny_ite ?_)); split
  · exact wpAny_bind (wpAny_of_eq (hb _) (wpAny_pure (by exact fin)))
  · exact wpAny_tryCatch (wpAny_bind (wpAny_of_eq (hb _) (wpAny_pure (by exact fin))))
/-- a comparison whose left side answers -/
theorem rc_left {op : CmpOp} {Q : Value → Shared → Prop} (hu : A.units < cLine) (X : K.In s.heap) (I : InstAt s.heap x ox C od) (hb : Looks (model prog w) s.heap (typeOf b) tb) (hn : notFirst K C tb = true)
    (one : wpAny (model prog w) A (tryCompare (.ref x) (cmpInfo op).2.1 b) (fun r s' => ∃ v, r = some v ∧ Q v s') E s) : wpAny (model prog w) A (richCompare op (.ref x) b) Q E s := by
  have tail : ∀ {t : Option Value → Sem Value}, (∀ v, t (some v) = pure v) → wpAny (model prog w) A (tryCompare (.ref x) (cmpInfo op).2.1 b >>= t) Q E s := fun {t} ht => wpAny_bind (wpAny_mono one (fun r s' z => by
    obtain ⟨v, rfl, hq⟩ := z; exact wpAny_of_eq (ht v) hq) fun _ _ e => e)
  unfold richCompare; simp only [oneThing_ref]
  refine wpAny_holding ?_; refine wpAny_bind (wpAny_cRoomFor hu ?_); refine wpAny_bind (I.type.here ?_); refine wpAny_bind (hb.here ?_)
  split
  · rename_i q
    have e : subIn K tb (.ref C) = some false := by
      rcases Bool.or_eq_true_iff.mp hn with e | e
      · rw [beq_iff_eq.mp e] at q; simp at q
      · exact beq_iff_eq.mp e
    refine wpAny_bind ((looks_subIn X e).here ?_); simp only [Bool.false_eq_true, if_false]
    exact tail fun _ => rfl
  · refine wpAny_bind (wpAny_pure ?_); simp only [Bool.false_eq_true, if_false]
    exact tail fun _ => rfl
/-- != of an own class that has only its own ==, by object's -/
theorem ne_own {Q : Value → Shared → Prop} (hu : A.units + 1 < cLine) (X : K.In s.heap) (I : InstAt s.heap x ox C od) (hb : Looks (model prog w) s.heap (typeOf b) tb) (hn : notFirst K C tb = true)
    (hs : findIn K (.ref C) "__ne__" = some (some (.builtin "object.__ne__"))) (hm : mroIn K C (.type "object") = some true) (he : findIn K (.ref C) "__eq__" = some (some (.ref f))) (hf : isFn K (.ref f) = true)
    (h : wpAny (model prog w) A.in1 (call (.ref f) [.ref x, b]) (fun v s' => ∃ r, v = .bool r ∧ Q (.bool (!r)) s') E s) : wpAny (model prog w) A (richCompare .NotEq (.ref x) b) Q E s := by
  refine rc_left (by omega) X I hb hn ?_
  simp only [tryCompare]
  refine wpAny_bind (ifBound_B X I hs F.cmp_object.ne.bind ?_)
  refine wpAny_call (codeAny_call_builtin F.cmp_object.ne.plain F.cmpEntry_ne (check_slot (owner := "object") (n := "__ne__") F.cmpKind_ne F.cmpSplit_ne (I.type.andThen (looks_mroIn X hm)) (F.cmpArgs_ne _ _) ?_))
  unfold Builtin.«object.__ne__»
  refine wpAny_bind (m := slotArgs "__ne__" 1 _) (wpAny_pure ?_)
  refine wpAny_bind (m := cRoomFor _ _) (wpAny_cRoomFor (by show A.units + 1 < cLine; exact hu) ?_)
  refine wpAny_bind (m := callSpecialIfBound? (.ref x) (Str.ofString "__eq__") _) (ifBound_K X I he hf (wpAny_mono h (fun v s' z => ?_) fun _ _ y => y))
  obtain ⟨r, rfl, q⟩ := z
  refine wpAny_bind (wpAny_truthy_bool ?_)
  exact wpAny_pure (wpAny_pure ⟨_, rfl, q⟩)
/-- x op y of two instances of one own class with the operator's method -/
theorem bin_own {op : Operator} {Q : Value → Shared → Prop} (X : K.In s.heap) (I : InstAt s.heap x ox C od) (J : InstAt s.heap y oy C od2) (hc : selfFirst K C = true) (hs : findIn K (.ref C) (PySem.dunder op.info.2) = some (some (.ref f))) (hf : isFn K (.ref f) = true)
    (h : wpAny (model prog w) A (call (.ref f) [.ref x, .ref y]) (PySem.W.CmpBack Q) E s) : wpAny (model prog w) A (binaryOp op (.ref x) (.ref y)) Q E s := by
  obtain ⟨cd, rest, hcd, hm⟩ := ksp_first hc
  rcases hi : op.info with ⟨sym, nm'⟩
  rw [hi] at hs
  dsimp only at hs
  have one := ksp_try X I hs hf h
  obtain ⟨hh, g, d, tt, os⟩ := s
  have L1 : Looks (model prog w) hh (typeOf (.ref x)) (.ref C) := I.type
  have L2 : Looks (model prog w) hh (typeOf (.ref y)) (.ref C) := J.type
  have L3 : Looks (model prog w) hh (fillsNumberSlot (.ref C) nm') true := fills_K X hcd hm hs
  have hq : (Value.ref C == Value.ref C) = true := beq_self_eq_true _
  simp only [binaryOp, hi]; refine wpAny_holding (wpAny_bind ?_); unfold binaryOp1
  refine wpAny_bind (L1.at (wpAny_bind (L2.at (wpAny_bind (L3.at ?_)))))
  simp only [hq, if_true]
  ksp_lk
  refine wpAny_mono one (fun r s' z => ?_) fun _ _ e => e; obtain ⟨v, rfl, hv⟩ := z
  ksp_lk
  exact hv
end
end K28q
end
section
set_option Elab.async false
set_option linter.all false
set_option maxRecDepth 100000
set_option maxHeartbeats 4000000
namespace K28
open PySem L2
/-! ### == and != of what is told by r -/
class Inj {α : Type} (r : α → HP) : Prop where
  inj : ∀ {p q : α} {G : Hp} {v : V}, r p G v → r q G v → p = q
instance : Inj rInt := ⟨fun h h' => V.int.inj ((show _ = _ from h).symm.trans h')⟩
instance : Inj rBl := ⟨fun h h' => V.bl.inj ((show _ = _ from h).symm.trans h')⟩
theorem paired_inj {α : Type} {r : α → HP} [Inj r] {G : Hp} : ∀ {xs ys : List α} {us : List V}, Paired (fun x u => r x G u) xs us → Paired (fun x u => r x G u) ys us → xs = ys
  | _, _, _, .nil, .nil => rfl
  | _, _, _, .cons a t, .cons b u => by rw [Inj.inj a b, paired_inj t u]
instance {α : Type} {r : α → HP} [Inj r] : Inj (rLst r) := ⟨fun ⟨a, us, e1, e2, e3⟩ ⟨a', us', e1', e2', e3'⟩ => by
  rw [e1] at e1'; cases e1'; rw [e2] at e2'; cases e2'; exact paired_inj e3 e3'⟩
/-- the values are addresses of tracked things -/
def IsRef {α : Type} (r : α → HP) : Prop := ∀ p G v, r p G v → ∃ a, v = .ref a
abbrev DB := V → V → Bool → Hp → Prop
def DEq {α : Type} [DecidableEq α] (r : α → HP) : DB := fun x y b H => ∃ p q, r p H x ∧ r q H y ∧ b = decide (p = q)
def EqB (X : Cx) (n : Nat) (D : DB) : Prop := ∀ (A : Around) (pins : List (Addr × Obj)) (s : Shared) (σ : St) (H : Hp) (x y : V) (b : Bool) (u v : Value), Sub X n A → Inv X pins σ H s → RelV x u → RelV y v → D x y b H →
    wpAny (model X.prog X.w) A (eqBool u v) (fun r s' => r = b ∧ ∃ H', Inv X pins σ H' s' ∧ Same H H') X.xe s
def RcB (X : Cx) (n : Nat) (op : CmpOp) (neg : Bool) (D : DB) : Prop := ∀ (A : Around) (pins : List (Addr × Obj)) (s : Shared) (σ : St) (H : Hp) (x y : V) (b : Bool) (u v : Value), Sub X n A → Inv X pins σ H s → RelV x u → RelV y v → D x y b H →
    wpAny (model X.prog X.w) A (richCompare op u v) (fun r s' => r = .bool (b != neg) ∧ ∃ H', Inv X pins σ H' s' ∧ Same H H') X.xe s
section
variable {X : Cx} {n m : Nat} {α : Type} [DecidableEq α] {r : α → HP}
theorem EqB.up {D : DB} (h : EqB X n D) (hn : n ≤ m) : EqB X m D := fun A pins s σ H x y b u v sb => h A pins s σ H x y b u v (sb.mono hn)
theorem eqB_int : EqB X n (DEq rInt) := by
  intro A pins s σ H x y b u v sb I rx ry ⟨p, q, h1, h2, e⟩
  rw [show x = _ from h1] at rx
  rw [show y = _ from h2] at ry
  obtain ⟨t, rfl⟩ := rx
  obtain ⟨t', rfl⟩ := ry
  refine wpAny_eqBool_int ⟨?_, H, I, .refl _⟩
  rw [e, Bool.beq_eq_decide_eq]
theorem EqB.of {α : Type} [DecidableEq α] {r : α → HP} [Inj r] (h : RcB X n .Eq false (DEq r)) (hr : IsRef r) : EqB X n (DEq r) := by
  intro A pins s σ H x y b u v sb I rx ry ⟨p, q, h1, h2, e⟩
  obtain ⟨a, rfl⟩ := hr _ _ _ h1
  obtain ⟨a', rfl⟩ := hr _ _ _ h2
  cases rx; cases ry
  by_cases hab : a = a'
  · subst hab
    have : b = true := by rw [e, Inj.inj h1 h2]; exact decide_eq_true rfl
    subst this
    exact SeqAt.EqAt.same (A := A) (s := s) (.ref a) X.prog X.w X.xe _ ⟨rfl, H, I, .refl _⟩
  · refine GQ.eqBool_refG hab (wpAny_mono (h A pins s σ H (.ref a) (.ref a') b _ _ sb I rfl rfl ⟨p, q, h1, h2, e⟩) (fun z s' k => ?_) fun _ _ x => x)
    obtain ⟨hz, k⟩ := k
    exact ⟨b, by rw [hz, Bool.bne_false], rfl, k⟩
/-- the items' own answers, from the left -/
theorem lup_of [∀ p, Mono (r p)] (h : EqB X n (DEq r)) {A : Around} (sb : Sub X (n + 1) A) {pins : List (Addr × Obj)} {σ : St} {H : Hp} {a a' : Addr} {us ws : List V} {xs ys : List α} (e2 : H a = some (.lst us)) (e3 : Paired (fun x u => r x H u) xs us) (e2' : H a' = some (.lst ws)) (e3' : Paired (fun x u => r x H u) ys ws) (hl : xs.length = ys.length) :
    K28q.Lup X.prog X.w A X.xe a a' xs.length (fun i => decide (xs[i]? = ys[i]?)) (fun _ s' => ∃ H', Inv X pins σ H' s' ∧ Same H H') := by
  refine ⟨fun i s' ⟨H1, I1, g1⟩ => ?_⟩
  obtain ⟨z, its, k, rv, ev⟩ := I1.hok a _ (g1 _ _ e2)
  obtain ⟨z2, its2, k2, rv2, ev2⟩ := I1.hok a' _ (g1 _ _ e2')
  have l1 : its.length = xs.length := by rw [← rv.length, paired_len e3]
  have l2 : its2.length = xs.length := by rw [← rv2.length, paired_len e3', hl]
  refine ⟨its.toArray, its2.toArray, k, k2, ev, ev2, by rw [List.size_toArray, l1], by rw [List.size_toArray, l2], fun h1 h2 => ?_⟩
  have j1 : i < xs.length := by rw [← l1]; simpa using h1
  have j2 : i < ys.length := by omega
  obtain ⟨x1, ex1, rx1⟩ := paired_at e3 (List.getElem?_eq_getElem j1)
  obtain ⟨y1, ey1, ry1⟩ := paired_at e3' (List.getElem?_eq_getElem j2)
  obtain ⟨u, hu, ru⟩ := rv.get ex1
  obtain ⟨v, hv, rv'⟩ := rv2.get ey1
  have hu' : its.toArray[i] = u := by
    have q : its[i]? = some its.toArray[i] := by rw [List.getElem?_eq_getElem (by simpa using h1)] <;> simp
    rw [q] at hu; exact Option.some.inj hu
  have hv' : its2.toArray[i] = v := by
    have q : its2[i]? = some its2.toArray[i] := by rw [List.getElem?_eq_getElem (by simpa using h2)] <;> simp
    rw [q] at hv; exact Option.some.inj hv
  rw [hu', hv']
  refine wpAny_mono (h A.in1 pins s' σ H1 x1 y1 (decide (xs[i] = ys[i])) u v sb.in1 I1 ru rv' ⟨_, _, Mono.mono g1 rx1, Mono.mono g1 ry1, rfl⟩) (fun c s2 ⟨hc, H2, I2, g2⟩ => ⟨?_, H2, I2, g1.trans g2⟩) fun _ _ x => x
  rw [hc, List.getElem?_eq_getElem j1, List.getElem?_eq_getElem j2]
  simp
theorem ext_all {xs ys : List α} (hl : xs.length = ys.length) : ((∀ j, j < xs.length → decide (xs[j]? = ys[j]?) = true) → decide (xs = ys) = true) ∧ ∀ j, j < xs.length → decide (xs[j]? = ys[j]?) = false → decide (xs = ys) = false := by
  refine ⟨fun h => decide_eq_true (List.ext_getElem? fun j => ?_), fun j hj h => decide_eq_false fun e => ?_⟩
  · by_cases hj : j < xs.length
    · exact of_decide_eq_true (h j hj)
    · rw [List.getElem?_eq_none (by omega), List.getElem?_eq_none (by omega)]
  · rw [e] at h; simp at h
theorem rcB_lst [∀ p, Mono (r p)] (h : EqB X n (DEq r)) : RcB X (n + 1) .Eq false (DEq (rLst r)) := by
  intro A pins s σ H x y b u v sb I rx ry ⟨xs, ys, ⟨a, us, e1, e2, e3⟩, ⟨a', ws, e1', e2', e3'⟩, e⟩
  subst e1 e1'
  cases rx; cases ry
  rw [Bool.bne_false]
  obtain ⟨z, its, k, rv, ev⟩ := I.hok a _ e2
  obtain ⟨z2, its2, k2, rv2, ev2⟩ := I.hok a' _ e2'
  refine wpAny_richCompare_same_room (op := .Eq) ⟨_, ev, rfl⟩ ⟨_, ev2, rfl⟩ F.slot_list_eq (GQ.call_here F.slot_list_eq ⟨_, ev, rfl⟩ F.entry_list_eq (F.args_list_eq_2 _ _) ?_) sb.room.units0
  by_cases hl : xs.length = ys.length
  · obtain ⟨t1, t2⟩ := ext_all hl
    rw [e]
    exact K28q.list_eqB (R := wants (fun v s' => v ≠ .notImplemented ∧ v = .bool (decide (xs = ys)) ∧ ∃ H', Inv X pins σ H' s' ∧ Same H H') X.xe) a a' xs.length _ _ (lup_of h sb e2 e3 e2' e3' hl) _ t1 t2 (fun i s' q => ⟨(fun x => nomatch x), rfl, q⟩) ⟨H, I, .refl _⟩
  · rw [show b = false by rw [e]; exact decide_eq_false fun z => hl (by rw [z])]
    refine K28q.list_eqL (R := wants (fun v s' => v ≠ .notImplemented ∧ v = .bool false ∧ ∃ H', Inv X pins σ H' s' ∧ Same H H') X.xe) ev ev2 ?_ ⟨(fun x => nomatch x), rfl, H, I, .refl _⟩
    rw [List.size_toArray, List.size_toArray, ← rv.length, ← rv2.length, paired_len e3, paired_len e3']
    exact hl
theorem rnB_lst [∀ p, Mono (r p)] (h : EqB X n (DEq r)) : RcB X (n + 1) .NotEq true (DEq (rLst r)) := by
  intro A pins s σ H x y b u v sb I rx ry ⟨xs, ys, ⟨a, us, e1, e2, e3⟩, ⟨a', ws, e1', e2', e3'⟩, e⟩
  subst e1 e1'
  cases rx; cases ry
  rw [Bool.bne_true]
  obtain ⟨z, its, k, rv, ev⟩ := I.hok a _ e2
  obtain ⟨z2, its2, k2, rv2, ev2⟩ := I.hok a' _ e2'
  refine wpAny_richCompare_same_room (op := .NotEq) ⟨_, ev, rfl⟩ ⟨_, ev2, rfl⟩ F.slot_list_ne (GQ.call_here F.slot_list_ne ⟨_, ev, rfl⟩ F.entry_list_ne (F.args_list_ne_2 _ _) ?_) sb.room.units0
  by_cases hl : xs.length = ys.length
  · obtain ⟨t1, t2⟩ := ext_all hl
    rw [e]
    exact K28q.list_neB (R := wants (fun v s' => v ≠ .notImplemented ∧ v = .bool (!decide (xs = ys)) ∧ ∃ H', Inv X pins σ H' s' ∧ Same H H') X.xe) a a' xs.length _ _ (lup_of h sb e2 e3 e2' e3' hl) _ t1 t2 (fun i s' q => ⟨(fun x => nomatch x), rfl, q⟩) ⟨H, I, .refl _⟩
  · rw [show b = false by rw [e]; exact decide_eq_false fun z => hl (by rw [z])]
    refine K28q.list_neL (R := wants (fun v s' => v ≠ .notImplemented ∧ v = .bool true ∧ ∃ H', Inv X pins σ H' s' ∧ Same H H') X.xe) ev ev2 ?_ ⟨(fun x => nomatch x), rfl, H, I, .refl _⟩
    rw [List.size_toArray, List.size_toArray, ← rv.length, ← rv2.length, paired_len e3, paired_len e3']
    exact hl
theorem ref_lst : IsRef (rLst r) := fun _ _ _ ⟨a, _, e, _⟩ => ⟨a, e⟩
theorem eqB_lst [Inj r] [∀ p, Mono (r p)] (h : EqB X n (DEq r)) : EqB X (n + 1) (DEq (rLst r)) := EqB.of (rcB_lst h) ref_lst
/-- lists of other lengths, or both empty: their items are not asked -/
def DLen : DB := fun x y b H => ∃ a a' us ws, x = .ref a ∧ y = .ref a' ∧ H a = some (.lst us) ∧ H a' = some (.lst ws) ∧ ws.length = 0 ∧ b = decide (us.length = 0)
theorem rnB_len : RcB X 1 .NotEq true DLen := by
  intro A pins s σ H x y b u v sb I rx ry ⟨a, a', us, ws, e1, e1', e2, e2', e0, e⟩
  subst e1 e1'
  cases rx; cases ry
  rw [Bool.bne_true]
  obtain ⟨z, its, k, rv, ev⟩ := I.hok a _ e2
  obtain ⟨z2, its2, k2, rv2, ev2⟩ := I.hok a' _ e2'
  refine wpAny_richCompare_same_room (op := .NotEq) ⟨_, ev, rfl⟩ ⟨_, ev2, rfl⟩ F.slot_list_ne (GQ.call_here F.slot_list_ne ⟨_, ev, rfl⟩ F.entry_list_ne (F.args_list_ne_2 _ _) ?_) sb.room.units0
  by_cases hl : us.length = 0
  · rw [e, decide_eq_true hl]
    refine K28q.list_neB (R := wants (fun v s' => v ≠ .notImplemented ∧ v = .bool (!true) ∧ ∃ H', Inv X pins σ H' s' ∧ Same H H') X.xe) a a' 0 (fun _ => true) (fun _ s' => ∃ H', Inv X pins σ H' s' ∧ Same H H') ⟨fun i s' ⟨H1, I1, g1⟩ => ?_⟩ true (fun _ => rfl) (fun j hj => absurd hj (Nat.not_lt_zero j)) (fun i s' q => ⟨(fun x => nomatch x), rfl, q⟩) ⟨H, I, .refl _⟩
    obtain ⟨z', its', k', rv', ev'⟩ := I1.hok a _ (g1 _ _ e2)
    obtain ⟨z2', its2', k2', rv2', ev2'⟩ := I1.hok a' _ (g1 _ _ e2')
    have n1 : its'.length = 0 := by rw [← rv'.length, hl]
    refine ⟨its'.toArray, its2'.toArray, k', k2', ev', ev2', by rw [List.size_toArray, n1], by rw [List.size_toArray, ← rv2'.length, e0], fun h1 _ => ?_⟩
    exact absurd h1 (by simp [n1])
  · rw [e, decide_eq_false hl]
    refine K28q.list_neL (R := wants (fun v s' => v ≠ .notImplemented ∧ v = .bool (!false) ∧ ∃ H', Inv X pins σ H' s' ∧ Same H H') X.xe) ev ev2 ?_ ⟨(fun x => nomatch x), rfl, H, I, .refl _⟩
    rw [List.size_toArray, List.size_toArray, ← rv.length, ← rv2.length, e0]
    exact hl
/-! own classes -/
/-- what r tells of are instances of the class at C -/
def IsIns (r : α → HP) (C : Addr) : Prop := ∀ p G v, r p G v → ∃ a dx fs, v = .ref a ∧ G a = some (.ins C dx fs)
/-- the own == as it is promised -/
def EqSp (r : α → HP) (sp : Sp) : Prop := ∀ x y p q H (Q : VK), r p H x → r q H y → (∀ H', Same H H' → Q (.bl (decide (p = q))) H') → sp [x, y] H Q E0
theorem call_eq {A : Around} {pins : List (Addr × Obj)} {s : Shared} {σ : St} {H : Hp} {x y : V} {u v : Value} {p q : α} {f : Addr} {fd : FuncData} {ps : List Str} {sp : Sp} (F : FnOk X.prog X.w X.K X.mg X.base CX0 n f fd ps sp) (hb : Binds X.K fd ps []) (hsp : EqSp r sp)
    (sb : Sub X n A) (I : Inv X pins σ H s) (rx : RelV x u) (ry : RelV y v) (h1 : r p H x) (h2 : r q H y) :
    wpAny (model X.prog X.w) A (call (.ref f) [u, v]) (fun c s' => c = .bool (decide (p = q)) ∧ ∃ H', Inv X pins σ H' s' ∧ Same H H') X.xe s := by
  have h := hsp x y p q H (fun z H' => z = .bl (decide (p = q)) ∧ Same H H') h1 h2 fun H' g => ⟨rfl, g⟩
  have e0 : Env0 X.prog X.w X.K X.mg X.base A X.stack s H := by
    have e := I.env0
    exact ⟨by rw [sb.fr]; exact e.frames, e.mod, e.bs, e.bsz, e.funs, e.frf, e.hok, e.bare⟩
  have r2 : Vals [x, y] [u, v] := .cons rx (.cons ry .nil)
  have hl := F.len _ _ _ _ h
  have bd := hb s [u, v] I.kIn (by simpa using hl)
  rw [List.append_nil] at bd
  refine wpAny_call (codeAny_mono (F.run A X.stack s H ⟨[u, v], []⟩ [u, v] [x, y] _ E0 sb.room e0 bd r2 h) fun c s' hq => ?_)
  cases c with
  | error e => exact False.elim hq
  | ok fl =>
    cases fl with
    | ret w =>
      obtain ⟨z, H', I', rz, ez, g⟩ := I.after hq
      subst ez
      cases rz
      exact ⟨rfl, H', I', g⟩
    | next => exact False.elim hq
    | brk => exact False.elim hq
    | cont => exact False.elim hq
theorem rcB_ins {C f : Addr} {fd : FuncData} {ps : List Str} {sp : Sp} (hr : IsIns r C) (F : FnOk X.prog X.w X.K X.mg X.base CX0 n f fd ps sp) (hb : Binds X.K fd ps []) (hsp : EqSp r sp)
    (hs : PySem.W.findIn X.K (.ref C) "__eq__" = some (some (.ref f))) (hf : PySem.W.isFn X.K (.ref f) = true) : RcB X n .Eq false (DEq r) := by
  intro A pins s σ H x y b u v sb I rx ry ⟨p, q, h1, h2, e⟩
  obtain ⟨a, dx, fs, rfl, ea⟩ := hr _ _ _ h1
  obtain ⟨a', dy, gs, rfl, ea'⟩ := hr _ _ _ h2
  cases rx; cases ry
  rw [Bool.bne_false]
  obtain ⟨mA, J, _⟩ := ins_get I.hok ea
  obtain ⟨mB, J', _⟩ := ins_get I.hok ea'
  obtain ⟨od, J, _⟩ := J.look
  obtain ⟨od', J', _⟩ := J'.look
  obtain ⟨m, hF⟩ := I.fr
  refine PySem.W.cmp_K (op := .Eq) (tb := .ref C) sb.room.units0 hF I.ok.mod.kin J J'.type (by simp [PySem.W.notFirst]) hs hf (wpAny_mono (call_eq (x := .ref a) (y := .ref a') F hb hsp sb I rfl rfl h1 h2) (fun c s' ⟨hc, k⟩ => ?_) fun _ _ x => x)
  subst hc
  exact ⟨by rw [e], k⟩
theorem rnB_ins {C f : Addr} {fd : FuncData} {ps : List Str} {sp : Sp} (hr : IsIns r C) (F : FnOk X.prog X.w X.K X.mg X.base CX0 n f fd ps sp) (hb : Binds X.K fd ps []) (hsp : EqSp r sp)
    (hs : PySem.W.findIn X.K (.ref C) "__eq__" = some (some (.ref f))) (hf : PySem.W.isFn X.K (.ref f) = true) (hn : PySem.W.findIn X.K (.ref C) "__ne__" = some (some (.builtin "object.__ne__"))) (hm : PySem.W.mroIn X.K C (.type "object") = some true) : RcB X (n + 1) .NotEq true (DEq r) := by
  intro A pins s σ H x y b u v sb I rx ry ⟨p, q, h1, h2, e⟩
  obtain ⟨a, dx, fs, rfl, ea⟩ := hr _ _ _ h1
  obtain ⟨a', dy, gs, rfl, ea'⟩ := hr _ _ _ h2
  cases rx; cases ry
  rw [Bool.bne_true]
  obtain ⟨mA, J, _⟩ := ins_get I.hok ea
  obtain ⟨mB, J', _⟩ := ins_get I.hok ea'
  obtain ⟨od, J, _⟩ := J.look
  obtain ⟨od', J', _⟩ := J'.look
  have hu := sb.room.units
  refine K28q.ne_own (tb := .ref C) (by omega) I.kIn J J'.type (by simp [PySem.W.notFirst]) hn hm hs hf (wpAny_mono (call_eq (x := .ref a) (y := .ref a') F hb hsp sb.in1 I rfl rfl h1 h2) (fun c s' ⟨hc, k⟩ => ?_) fun _ _ x => x)
  exact ⟨_, hc, by rw [e], k⟩
end
/-! as expressions -/
def rEqB (neg : Bool) (D : DB) : R2 := fun x y H Q => ∃ b, D x y b H ∧ ∀ H', Same H H' → Q (.bl (b != neg)) H'
theorem op_eqB {X : Cx} {n : Nat} {op : CmpOp} {neg : Bool} {D : DB} (h : RcB X n op neg D) (hr : Room n X.A) (ho : ∀ v u, compareOp op v u = richCompare op v u := by intros; rfl) : OpR X (compareOp op) (rEqB neg D) := by
  intro pins s σ H x y v u Q I rx ry ⟨b, d, q⟩
  rw [ho]
  refine wpAny_mono (h X.A pins s σ H x y b v u ⟨hr, rfl⟩ I rx ry d) (fun c s' ⟨hc, H', I', g⟩ => ?_) fun _ _ x => x
  subst hc
  exact ⟨.bl _, H', I', rfl, q H' g⟩
section
variable {ta tb : TE} {σ : St} {G : Hp} {α : Type} [DecidableEq α] {r : α → HP} {p q : α}
theorem Stp.same {G H H' : Hp} (g : Same G H) (h : Same H H') : Stp G H G H' := ⟨.refl _, g.trans h, h, fun a o e e' => by rw [e] at e'; cases e'⟩
theorem ev_eqD {neg : Bool} [∀ p, Mono (r p)] (ha : Ev ta σ G (r p)) (hb : ∀ G', Same G G' → Ev tb σ G' (r q)) : Ev (tOp (rEqB neg (DEq r)) ta tb) σ G (rBl (decide (p = q) != neg)) :=
  ev_op ha hb fun G' H' x y Q _ gh e1 e2 k => ⟨_, ⟨p, q, Mono.mono gh e1, Mono.mono gh e2, rfl⟩, fun H2 g => k _ G' H2 (Stp.same gh g) rfl⟩
/-- any(xs) of whole numbers -/
def rAnyI (K : PySem.W.Frag) : List V → Hp → VK → Prop := fun vs H Q => ∃ (a : Addr) (ns : List Int), vs = [V.ref a] ∧ SqL K H a (ns.map V.int) ∧ Q (.bl (ns.any fun i => i != 0)) H
theorem truth_ints {prog : Program} {w : World} {A : Around} {ns : List Int} {its : List Value} (e : PyProof.Rows.IntsAre its ns) : TruthOf prog w A (fun i v => its.toArray[i]? = some v) (fun i => ns.getD i 0 != 0) := fun i v s Q E hv hq => by
  have hv' : its[i]? = some v := by simpa using hv
  have rv := vals_of_ints e
  have hi : i < its.length := (List.getElem?_eq_some_iff.mp hv').1
  have hi' : i < ns.length := by have := rv.length; simp at this; omega
  obtain ⟨u, hu, ru⟩ := rv.get (i := i) (x := .int ns[i]) (by simp [hi'])
  rw [hv'] at hu
  cases hu
  obtain ⟨t, rfl⟩ := ru
  have q : Q (ns.getD i 0 != 0) s := hq
  rw [show ns.getD i 0 = ns[i] by simp [hi']] at q
  exact PySem.P.truthy_int q
theorem anyI_range : ∀ ns : List Int, (List.range ns.length).any (fun i => ns.getD i 0 != 0) = ns.any fun i => i != 0
  | [] => rfl
  | b :: bs => by
    rw [List.length_cons, List.range_succ_eq_map, List.any_cons, List.any_map, List.any_cons, ← anyI_range bs]; rfl
theorem cr_anyI {X : Cx} (hc : X.calm = true) : CallR X (.builtin "any") (rAnyI X.K) := by
  intro pins s σ H vs us Q I rr ⟨a, ns, e, hs, q⟩
  subst e
  obtain ⟨its, rv, hl, _⟩ := I.list hs
  rw [Vals.ref1 rr]
  have hb := intsAre_of rv
  refine call_any_walk (iter_any hl.isList fun s2 e2 st hne => ?_)
  subst e2
  refine ⟨_, _, _, _, _, _, _, rfl, Walks.list (A := X.A.in1) (I.ok.hd hc) _ a hne its.toArray, st, truth_ints hb, fun h' tk hk => ⟨.bl (ns.any fun i => i != 0), H, I.kept fun b o eo => hk b o (fun hm => ?_) (Heap.get?_push_of_some _ eo), ?_, q⟩⟩
  · rcases List.mem_cons.mp hm with e1 | hm
    · exact absurd (e1 ▸ Heap.lt_size eo) (Nat.lt_irrefl _)
    · cases hm
  · show Value.bool _ = Value.bool _
    rw [← anyI_range, List.size_toArray, ← rv.length, List.length_map]
theorem ev_anyI {K : PySem.W.Frag} {ns : List Int} (ha : Ev ta σ G (rLst rInt ns)) : Ev (tCB (rAnyI K) (tCons ta tNil)) σ G (rBl (ns.any fun i => i != 0)) :=
  ev_cb (ea1 ha) fun G' H' vs Q _ gh ⟨u, e, a, us, e1, h1, h2⟩ k => ⟨a, ns, by rw [e, e1], .inl (.inl (by rw [← paired_ints h2]; exact gh _ _ h1)), k _ _ _ (.refl gh) rfl⟩
/-- lcm, of numbers below 2 ^ 9000 -/
def rLcm : List V → Hp → VK → Prop := fun vs H Q => ∃ a b : Int, vs = [.int a, .int b] ∧ a.natAbs < 2 ^ 9000 ∧ b.natAbs < 2 ^ 9000 ∧ Q (.int ((Nat.lcm a.natAbs b.natAbs : Nat) : Int)) H
theorem log_lt {n k : Nat} (h : n < 2 ^ k) (hk : 0 < k) : n.log2 < k := by
  by_cases h0 : n = 0
  · subst h0; rw [Nat.log2_zero]; exact hk
  · exact (Nat.log2_lt h0).mpr h
theorem cr_lcm {X : Cx} : CallR X (.builtin "math.lcm") rLcm := by
  intro pins s σ H vs us Q I rr ⟨a, b, e, ha, hb, q⟩
  subst e
  obtain ⟨t, u, rfl⟩ := Vals.int2 rr
  have e1 : (Nat.lcm 1 a.natAbs).lcm b.natAbs = Nat.lcm a.natAbs b.natAbs := by rw [Nat.lcm_one_left]
  have pos : (1 : Nat) ≤ 2 ^ 9000 := Nat.one_le_two_pow
  have one : (1 : Nat) < 2 ^ 9000 := Nat.one_lt_two_pow (by decide)
  have h1 : (max 1 a.natAbs).log2 < 9000 := log_lt (Nat.max_lt.mpr ⟨one, ha⟩) (by decide)
  have h2 : (max a.natAbs b.natAbs).log2 < 9000 := log_lt (Nat.max_lt.mpr ⟨ha, hb⟩) (by decide)
  have h3 : Nat.lcm a.natAbs b.natAbs < 2 ^ 18000 := by
    refine Nat.lt_of_le_of_lt (Nat.div_le_self _ _) ?_
    rw [show (18000 : Nat) = 9000 + 9000 from rfl, Nat.pow_add]
    exact Nat.mul_lt_mul'' ha hb
  have eb : bitsLine = 134217728 := by decide
  have h4 : ((((Nat.lcm 1 a.natAbs).lcm b.natAbs : Nat) : Int)).natAbs.log2 < bitsLine := by
    rw [e1, Int.natAbs_natCast, eb]
    exact Nat.lt_trans (log_lt h3 (by decide)) (by decide)
  have m := (PySem.W.mg_run_lcm a t b u (by omega) (by omega) h4).meets
  refine call_function_meets PySem.W.MGF.kind_lcm PySem.W.MGF.plain_lcm PySem.W.MGF.entry_lcm (PySem.W.MGF.args_lcm _ _) m ?_
  rw [e1]
  exact ⟨.int _, H, I.tok _, ⟨_, rfl⟩, q⟩
theorem ev_lcm {i j : Int} (ha : Ev ta σ G (rInt i)) (hb : Ev tb σ G (rInt j)) (hi : i.natAbs < 2 ^ 9000) (hj : j.natAbs < 2 ^ 9000) : Ev (tCB rLcm (tCons ta (tCons tb tNil))) σ G (rInt ((Nat.lcm i.natAbs j.natAbs : Nat) : Int)) :=
  ev_cb (ea2 ha fun _ g => hb.mono g) fun G' H' vs Q _ gh ⟨u, w, e, e1, e2⟩ k => ⟨i, j, by rw [e, show u = _ from e1, show w = _ from e2], hi, hj, k _ _ _ (.refl gh) rfl⟩
end
end K28
end
section
set_option Elab.async false
set_option linter.all false
set_option maxRecDepth 100000
set_option maxHeartbeats 4000000
set_option autoImplicit false
namespace K28
open PySem L2
/-! ### what the top has written -/
structure Txt (K : PySem.W.Frag) (mg : Str → Option Value) (CR CH : Addr) : Prop where
  clR : Cls K CR
  clH : Cls K CH
  nTop : NoAttr K CR "own_top"
  nBot : NoAttr K CR "own_bottom"
  nLet : NoAttr K CH "own_letters"
  nWid : NoAttr K CH "own_width"
  mgR : mg "Ratio" = some (.ref CR)
  mgH : mg "House" = some (.ref CH)
  kRR : PySem.W.kitOne K (.ref CR) (.ref CR) = some true
  kRi : PySem.W.kitOne K (.ref CR) (.type "int") = some false
  kiR : PySem.W.kitOne K (.type "int") (.ref CR) = some false
  kHH : PySem.W.kitOne K (.ref CH) (.ref CH) = some true
  aR : PySem.W.findIn K (.ref CR) "__class__" = some (some (.builtin "object.__class__"))
  aH : PySem.W.findIn K (.ref CH) "__class__" = some (some (.builtin "object.__class__"))
  gC : PySem.W.specialIn K (.builtin "object.__class__") "__get__" = some (some (.builtin "getset_descriptor.__get__"))
  tC : PySem.W.takesIn K (.builtin "object.__class__") = some true
  mR : PySem.W.mroIn K CR (.type "object") = some true
  mH : PySem.W.mroIn K CH (.type "object") = some true
  len : mg "len" = none
  range : mg "range" = none
  zip : mg "zip" = none
  isinstance : mg "isinstance" = none
  int : mg "int" = none
  bool : mg "bool" = none
  tuple : mg "tuple" = none
  list : mg "list" = none
  sum : mg "sum" = none
  any : mg "any" = none
  all : mg "all" = none
  enumerate : mg "enumerate" = none
  abs : mg "abs" = none
  max : mg "max" = none
  divmod : mg "divmod" = none
  gcd : mg "gcd" = some (.builtin "math.gcd")
  lcm : mg "lcm" = some (.builtin "math.lcm")
  mst : ∃ t, mg "MOST_SIZE_tables" = some (.int 4 t)
  msl : ∃ t, mg "MOST_LETTERS" = some (.int 3 t)
  msw : ∃ t, mg "MOST_WORD" = some (.int 16 t)
  msh : ∃ t, mg "MOST_SIZE_houses" = some (.int 4 t)
/-- a def that may be called by its name -/
structure Cal (P : Program) (w : World) (K : PySem.W.Frag) (mg : Str → Option Value) (base : Heap) (x : Str) (k : Nat) (ps : List Str) (sp : Sp) : Prop where
  ex : ∃ f fd, mg x = some (.ref f) ∧ PySem.W.keepIn K (.ref f) = true ∧ Binds K fd ps [] ∧ FnOk P w K mg base CX0 k f fd ps sp
theorem pe_cal {X : Cx} {x : Str} {k : Nat} {ps : List Str} {sp : Sp} {e : Expr} {es : List Expr} {t : TA} {p pos : Pos} (c : Cal X.prog X.w X.K X.mg X.base x k ps sp) (hr : Room k X.A) (hg : Gl X x) (ha : PA X (e :: es) t)
    (hdb : (x == ("__debug__" : Str)) = false := by decide) (he : starEach (e :: es) X.env = (false, eval e X.env) :: starEach es X.env := by rfl) (hpl : (backTo pos (starEach es X.env)).any (·.1) = false := by rfl) : PE X (.Call (.Name x p) (e :: es) [] pos) (tCall sp [] E0 t) := by
  refine ⟨fun pins s σ H Q I h => ?_⟩
  obtain ⟨f, fd, hm, hk, hb, F⟩ := c.ex
  exact (pe_call F hr hg hm hk hb .nil pass0 ha hdb he hpl).run pins s σ H Q I h
/-- an instance of a class, made by its __init__ (its defaults dvs) -/
structure CalMk (P : Program) (w : World) (K : PySem.W.Frag) (mg : Str → Option Value) (base : Heap) (x : Str) (C : Addr) (k : Nat) (ps : List Str) (dvs : List V) (sp : Sp) : Prop where
  ex : ∃ f fd ds, mg x = some (.ref C) ∧ Mk K C f ∧ Vals dvs ds ∧ Binds K fd ps ds ∧ FnOk P w K mg base CX0 k f fd ps sp
theorem pe_mk {X : Cx} {x : Str} {C : Addr} {k : Nat} {ps : List Str} {dvs : List V} {sp : Sp} {e : Expr} {es : List Expr} {t : TA} {p pos : Pos} (c : CalMk X.prog X.w X.K X.mg X.base x C k ps dvs sp) (hr : Room (k + 1) X.A) (hg : Gl X x) (ha : PA X (e :: es) t)
    (hdb : (x == ("__debug__" : Str)) = false := by decide) (he : starEach (e :: es) X.env = (false, eval e X.env) :: starEach es X.env := by rfl) (hpl : (backTo pos (starEach es X.env)).any (·.1) = false := by rfl) : PE X (.Call (.Name x p) (e :: es) [] pos) (tMake C sp dvs E0 t) := by
  refine ⟨fun pins s σ H Q I h => ?_⟩
  obtain ⟨f, fd, ds, hm, M, hd, hb, F⟩ := c.ex
  exact (pe_make M F hr hg hm hb hd pass0 ha hdb he hpl).run pins s σ H Q I h
/-- a method -/
structure CalMeth (P : Program) (w : World) (K : PySem.W.Frag) (mg : Str → Option Value) (base : Heap) (C : Addr) (m : Str) (k : Nat) (ps : List Str) (sp : Sp) : Prop where
  ex : ∃ f fd, Meth K C m f ∧ Binds K fd ps [] ∧ FnOk P w K mg base CX0 k f fd ps sp
theorem pe_cm {X : Cx} {C : Addr} {m : Str} {k : Nat} {ps : List Str} {sp : Sp} {o e : Expr} {es : List Expr} {ta : TE} {t : TA} {apos pos : Pos} {pl : Sem Bool} (c : CalMeth X.prog X.w X.K X.mg X.base C m k ps sp) (hc : Cls X.K C) (hr : Room k X.A) (ho : PE X o ta) (ha : PA X (e :: es) t)
    (hst : starEach (e :: es) X.env = (false, eval e X.env) :: starEach es X.env := by rfl) (hpl : (backTo pos (starEach es X.env)).any (·.1) = false := by rfl)
    (ht : eval (.Call (.Attribute o m apos) (e :: es) [] pos) X.env = (do let ov ← eval o X.env; standAt apos.atName; let (f, first) ← holding [ov] (getMethod ov m pl); callWith pos f first (backTo pos (starEach (e :: es) X.env)) (backToKw pos (keywordEach [] X.env))) := by rfl) :
    PE X (.Call (.Attribute o m apos) (e :: es) [] pos) (tMeth C m sp [] E0 ta t) := by
  refine ⟨fun pins s σ H Q I h => ?_⟩
  obtain ⟨f, fd, M, hb, F⟩ := c.ex
  exact (pe_meth ho hc M F hr hb .nil pass0 ha hst hpl ht).run pins s σ H Q I h
theorem pe_cm0 {X : Cx} {C : Addr} {m : Str} {k : Nat} {ps : List Str} {sp : Sp} {o : Expr} {ta : TE} {apos pos : Pos} {pl : Sem Bool} (c : CalMeth X.prog X.w X.K X.mg X.base C m k ps sp) (hc : Cls X.K C) (hr : Room k X.A) (ho : PE X o ta)
    (ht : eval (.Call (.Attribute o m apos) [] [] pos) X.env = (do let ov ← eval o X.env; standAt apos.atName; let (f, first) ← holding [ov] (getMethod ov m pl); callWith pos f first (backTo pos (starEach [] X.env)) (backToKw pos (keywordEach [] X.env))) := by rfl) :
    PE X (.Call (.Attribute o m apos) [] [] pos) (tMeth C m sp [] E0 ta tNil) := by
  refine ⟨fun pins s σ H Q I h => ?_⟩
  obtain ⟨f, fd, M, hb, F⟩ := c.ex
  exact (pe_meth0 ho hc M F hr hb .nil pass0 ht).run pins s σ H Q I h
/-- a property -/
structure CalPr (P : Program) (w : World) (K : PySem.W.Frag) (mg : Str → Option Value) (base : Heap) (C : Addr) (m : Str) (k : Nat) (ps : List Str) (sp : Sp) : Prop where
  ex : ∃ p g fd, PropOf K C m p g ∧ Binds K fd ps [] ∧ FnOk P w K mg base CX0 k g fd ps sp
theorem pe_pr {X : Cx} {C : Addr} {m : Str} {k : Nat} {ps : List Str} {sp : Sp} {o : Expr} {ta : TE} {pos : Pos} (c : CalPr X.prog X.w X.K X.mg X.base C m k ps sp) (hc : Cls X.K C) (hr : Room (k + 1) X.A) (ho : PE X o ta) (hab : attributeBase o m X.env (eval o X.env) = eval o X.env) : PE X (.Attribute o m pos) (tProp C sp [] E0 ta) := by
  refine ⟨fun pins s σ H Q I h => ?_⟩
  obtain ⟨p, g, fd, M, hb, F⟩ := c.ex
  exact (pe_prop ho hc M F hr hb .nil pass0 hab).run pins s σ H Q I h
theorem pe_k4 {X : Cx} {x : Str} {i : Int} {pos : Pos} (hg : Gl X x) (hm : ∃ t, X.mg x = some (.int i t)) (hd : (x == ("__debug__" : Str)) = false := by decide) : PE X (.Name x pos) (tC (.int i)) := by
  refine ⟨fun pins s σ H Q I h => ?_⟩
  obtain ⟨t, hm⟩ := hm
  exact (pe_glob (v := .int i) hg hm ⟨t, rfl⟩ hd).run pins s σ H Q I h

/-! ### Ratios: a number by its lowest terms -/
theorem s_bt : ¬ (("own_bottom" : Str) = "own_top") := by decide +kernel
theorem s_tb : ¬ (("own_top" : Str) = "own_bottom") := by decide +kernel
def ratF (n d : Int) : List (Str × V) := putF "own_bottom" (.int d) (putF "own_top" (.int n) [])
theorem ratF_top (n d : Int) : (ratF n d).lookup ("own_top" : Str) = some (.int n) := by unfold ratF; rw [lookup_putF, if_neg s_tb, lookup_putF, if_pos rfl]
theorem ratF_bot (n d : Int) : (ratF n d).lookup ("own_bottom" : Str) = some (.int d) := by unfold ratF; rw [lookup_putF, if_pos rfl]
def rRat (CR : Addr) (q : Rat) : HP := fun G v => ∃ a dx, v = .ref a ∧ G a = some (.ins CR dx (ratF q.num (q.den : Int)))
instance {CR : Addr} {q : Rat} : Mono (rRat CR q) := ⟨fun e ⟨a, dx, h1, h2⟩ => ⟨a, dx, h1, e _ _ h2⟩⟩
instance {CR : Addr} : Inj (rRat CR) := ⟨fun {p q _ _} ⟨a, dx, h1, h2⟩ ⟨a', dx', h1', h2'⟩ => by
  rw [h1] at h1'; cases h1'
  rw [h2] at h2'
  have e : ratF p.num (p.den : Int) = ratF q.num (q.den : Int) := by injection h2' with z; injection z
  have e1 : p.num = q.num := by exact V.int.inj (Option.some.inj ((ratF_top p.num (p.den : Int)).symm.trans (by rw [e]; exact ratF_top _ _)))
  have e2 : (p.den : Int) = (q.den : Int) := by exact V.int.inj (Option.some.inj ((ratF_bot p.num (p.den : Int)).symm.trans (by rw [e]; exact ratF_bot _ _)))
  exact Rat.ext e1 (by omega)⟩
theorem ins_rat {CR : Addr} : IsIns (rRat CR) CR := fun _ _ _ ⟨a, dx, h1, h2⟩ => ⟨a, dx, _, h1, h2⟩
theorem ref_rat {CR : Addr} : IsRef (rRat CR) := fun _ _ _ ⟨a, dx, h1, h2⟩ => ⟨a, h1⟩
abbrev rRow (CR : Addr) : List Rat → HP := rLst (rRat CR)
abbrev rTab (CR : Addr) : List (List Rat) → HP := rLst (rRow CR)
abbrev rIR : List Int → HP := rLst rInt
abbrev rIT : List (List Int) → HP := rLst rIR
/-! ### houses: their letters -/
theorem s_wl : ¬ (("own_width" : Str) = "own_letters") := by decide +kernel
theorem s_lw : ¬ (("own_letters" : Str) = "own_width") := by decide +kernel
def houF (lv : V) (n : Int) : List (Str × V) := putF "own_width" (.int n) (putF "own_letters" lv [])
theorem houF_let (lv : V) (n : Int) : (houF lv n).lookup ("own_letters" : Str) = some lv := by unfold houF; rw [lookup_putF, if_neg s_lw, lookup_putF, if_pos rfl]
theorem houF_wid (lv : V) (n : Int) : (houF lv n).lookup ("own_width" : Str) = some (.int n) := by unfold houF; rw [lookup_putF, if_pos rfl]
structure Hs where
  n : Nat
  ls : List (List (List Rat))
  deriving DecidableEq
def rHou (CR CH : Addr) (h : Hs) : HP := fun G v => ∃ a dx lv, v = .ref a ∧ G a = some (.ins CH dx (houF lv (h.n : Int))) ∧ rLst (rTab CR) h.ls G lv
instance {CR CH : Addr} {h : Hs} : Mono (rHou CR CH h) := ⟨fun e ⟨a, dx, lv, h1, h2, h3⟩ => ⟨a, dx, lv, h1, e _ _ h2, Mono.mono e h3⟩⟩
theorem ins_hou {CR CH : Addr} : IsIns (rHou CR CH) CH := fun _ _ _ ⟨a, dx, lv, h1, h2, _⟩ => ⟨a, dx, _, h1, h2⟩
section
variable {K : PySem.W.Frag} {mg : Str → Option Value} {CR CH : Addr} {ta : TE} {σ : St} {G : Hp}
theorem ev_top (T : Txt K mg CR CH) {q : Rat} (h : Ev ta σ G (rRat CR q)) : Ev (tFld K ta "own_top") σ G (rInt q.num) := fun H hh Q k => h H hh _ fun v G1 H1 s1 ⟨a, dx, e1, e2⟩ =>
  ⟨a, CR, dx, _, _, e1, s1.gh _ _ e2, T.clR, T.nTop, ratF_top _ _, k _ G1 H1 s1 rfl⟩
theorem ev_bot (T : Txt K mg CR CH) {q : Rat} (h : Ev ta σ G (rRat CR q)) : Ev (tFld K ta "own_bottom") σ G (rInt (q.den : Int)) := fun H hh Q k => h H hh _ fun v G1 H1 s1 ⟨a, dx, e1, e2⟩ =>
  ⟨a, CR, dx, _, _, e1, s1.gh _ _ e2, T.clR, T.nBot, ratF_bot _ _, k _ G1 H1 s1 rfl⟩
theorem ev_lett (T : Txt K mg CR CH) {h : Hs} (hv : Ev ta σ G (rHou CR CH h)) : Ev (tFld K ta "own_letters") σ G (rLst (rTab CR) h.ls) := fun H hh Q k => hv H hh _ fun v G1 H1 s1 ⟨a, dx, lv, e1, e2, e3⟩ =>
  ⟨a, CH, dx, _, _, e1, s1.gh _ _ e2, T.clH, T.nLet, houF_let _ _, k _ G1 H1 s1 e3⟩
theorem ev_wid (T : Txt K mg CR CH) {h : Hs} (hv : Ev ta σ G (rHou CR CH h)) : Ev (tFld K ta "own_width") σ G (rInt (h.n : Int)) := fun H hh Q k => hv H hh _ fun v G1 H1 s1 ⟨a, dx, lv, e1, e2, e3⟩ =>
  ⟨a, CH, dx, _, _, e1, s1.gh _ _ e2, T.clH, T.nWid, houF_wid _ _, k _ G1 H1 s1 rfl⟩
/-! isinstance -/
theorem ty_rat (T : Txt K mg CR CH) {a dx : Addr} {fs : List (Str × V)} (h : G a = some (.ins CR dx fs)) : TyX K G (.ref a) (.ref CR) := .base (.ins h T.clR T.aR T.gC T.tC T.mR)
theorem ty_hou (T : Txt K mg CR CH) {a dx : Addr} {fs : List (Str × V)} (h : G a = some (.ins CH dx fs)) : TyX K G (.ref a) (.ref CH) := .base (.ins h T.clH T.aH T.gC T.tC T.mH)
theorem ty_int {i : Int} {v : V} (h : rInt i G v) : TyX K G v (.type "int") := by
  cases (show v = .int i from h)
  exact .base (.int i)
theorem ty_lst {α : Type} {r : α → HP} {xs : List α} {v : V} (h : rLst r xs G v) : TyX K G v (.type "list") := by
  obtain ⟨a, us, rfl, e, _⟩ := h
  exact .base (.lst e)
theorem ty_ratv (T : Txt K mg CR CH) {q : Rat} {v : V} (h : rRat CR q G v) : TyX K G v (.ref CR) := by
  obtain ⟨a, dx, rfl, e⟩ := h
  exact ty_rat T e
theorem ty_houv (T : Txt K mg CR CH) {q : Hs} {v : V} (h : rHou CR CH q G v) : TyX K G v (.ref CH) := by
  obtain ⟨a, dx, lv, rfl, e, _⟩ := h
  exact ty_hou T e
theorem k_ii : PySem.W.kitOne K (.type "int") (.type "int") = some true := kit_ty (by decide +kernel)
theorem k_ib : PySem.W.kitOne K (.type "int") (.type "bool") = some false := kit_ty (by decide +kernel)
theorem k_ll : PySem.W.kitAny K (.type "list") [.type "list", .type "tuple"] = some true := by
  unfold PySem.W.kitAny
  rw [show PySem.W.kitOne K (.type "list") (.type "list") = some true from kit_ty (by decide +kernel)]
/-- isinstance(x, C): c the class, as a value; b the answer for such a type -/
theorem ev_isi {tc : TE} {P : HP} {c : V} {u : Value} {b : Bool} [Mono P] (h : Ev ta σ G P) (hc : ∀ G', Same G G' → Ev tc σ G' (rVal c)) (hu : ClsV c u) (hk : ∀ G' v, P G' v → ∃ t, TyX K G' v t ∧ PySem.W.kitOne K t u = some b) : Ev (tCB (rIsi K) (tCons ta (tCons tc tNil))) σ G (rBl b) :=
  ev_cb (ea2 h hc) fun G' H' vs Q _ gh ⟨x, w, e, e1, e2⟩ k => by
    obtain ⟨t, ht, kt⟩ := hk H' x (Mono.mono gh e1)
    exact ⟨x, c, t, u, b, by rw [e, show w = _ from e2], hu, ht, kt, k _ _ _ (.refl gh) rfl⟩
/-- isinstance(x, (C1, C2)) -/
theorem ev_isiT {t1 t2 : TE} {P : HP} {c1 c2 : V} {u1 u2 : Value} {b : Bool} [Mono P] (h : Ev ta σ G P) (h1 : ∀ G', Same G G' → Ev t1 σ G' (rVal c1)) (h2 : ∀ G', Same G G' → Ev t2 σ G' (rVal c2)) (hu1 : ClsV c1 u1) (hu2 : ClsV c2 u2)
    (hk : ∀ G' v, P G' v → ∃ t, TyX K G' v t ∧ PySem.W.kitAny K t [u1, u2] = some b) : Ev (tCB (rIsiT K) (tCons ta (tCons (tTup (tCons t1 (tCons t2 tNil))) tNil))) σ G (rBl b) := fun H hh Q k =>
  h H hh _ fun x G1 H1 s1 e1 => h1 G1 s1.gg H1 s1.gh _ fun w1 G2 H2 s2 z1 => h2 G2 (s1.gg.trans s2.gg) H2 s2.gh _ fun w2 G3 H3 s3 z2 => ⟨by show 2 ≤ sizeLine; decide, fun p hp => by
    have s4 := ((s1.trans s2).trans s3).trans (Stp.new (o := .tup [w1, w2]) s3.gh hp)
    obtain ⟨t, ht, kt⟩ := hk (upd H3 p (.tup [w1, w2])) x (Mono.mono (((s1.gh.trans s2.hh).trans s3.hh).trans (same_upd hp)) e1)
    exact ⟨x, p, [c1, c2], t, [u1, u2], b, rfl, by rw [show w1 = _ from z1, show w2 = _ from z2]; exact upd_same, .cons hu1 (.cons hu2 .nil), ht, kt, k _ _ _ s4 rfl⟩⟩
end
section
variable {K : PySem.W.Frag} {te : TE} {σ : St} {G H : Hp} {tz : TS} {D : Ends} {α β : Type} {r : α → HP} {s : β → HP}
/-- a, b = e, e a pair -/
theorem q_pair {j l : Nat} {x : α} {y : β} (gh : Same G H) (h : Ev te σ G (rPr r s (x, y))) (k : ∀ u w G' H', Stp G H G' H' → r x G' u → s y G' w → tz D ((σ.set j (some u)).set l (some w)) H') : tSeq (tAsg te (gTup K 2 (gCons (gName j) (gCons (gName l) gNil)))) tz D σ H := h H gh _ fun v G1 H1 s1 p1 =>
  tg_pair p1 H1 s1.gh _ fun σ' ⟨u, w, e1, e2, e3⟩ => by subst e3; exact k u w G1 H1 s1 e1 e2
/-- a, b = e1, e2 -/
theorem q_par {ta tb : TE} {j l : Nat} {P1 P2 : HP} [Mono P1] (gh : Same G H) (h : Ev ta σ G P1) (h2 : ∀ G', Same G G' → Ev tb σ G' P2) (k : ∀ u w G' H', Stp G H G' H' → P1 G' u → P2 G' w → tz D ((σ.set j (some u)).set l (some w)) H') : tSeq (tPar j l (tCons ta (tCons tb tNil))) tz D σ H :=
  ea2 h h2 H gh (fun vs H1 => ∃ v w, vs = [v, w] ∧ tz D ((σ.set j (some v)).set l (some w)) H1) fun vs G1 H1 s1 p => by
    obtain ⟨u, w, e, e1, e2⟩ := p
    exact ⟨u, w, e, k u w G1 H1 s1 e1 e2⟩
end
section
variable {K : PySem.W.Frag} {te : TE} {σ : St} {G H : Hp} {tz : TS} {D : Ends} {α β : Type} {r : α → HP} {s : β → HP} {P1 : HP}
theorem s_asg {i : Nat} (gh : Same G H) (h : Ev te σ G P1) (k : ∀ v G' H', Stp G H G' H' → P1 G' v → D.nx (σ.set i (some v)) H') : tAsg te (gName i) D σ H := h H gh _ k
/-- xs.append(e), xs of one's own making -/
theorem s_app {i : Nat} {p : Addr} {us : List V} (gh : Same G H) (gp : G p = none) (hp : H p = some (.lst us)) (e : σ[i]? = some (some (.ref p))) (h : Ev te σ G P1) (hl : us.length < 100000)
    (k : ∀ v G' H', Stp G H G' H' → P1 G' v → G' p = none → H' p = some (.lst us) → D.nx σ (upd H' p (.lst (us ++ [v])))) : tDrop (tBM K "list" rAppend (tVar i) (tCons te tNil)) D σ H := by
  refine ⟨_, e, .inl ⟨rfl, _, .inl (.inl hp)⟩, ?_⟩
  refine h H gh _ fun v G1 H1 s1 p1 => ?_
  obtain ⟨k1, k2⟩ := s1.keep gp hp
  exact ⟨p, us, v, rfl, rfl, k2, sz_lt hl, k v G1 H1 s1 p1 k1 k2⟩
theorem q_app {i : Nat} {p : Addr} {us : List V} (gh : Same G H) (gp : G p = none) (hp : H p = some (.lst us)) (e : σ[i]? = some (some (.ref p))) (h : Ev te σ G P1) (hl : us.length < 100000)
    (k : ∀ v G' H', Stp G H G' H' → P1 G' v → G' p = none → H' p = some (.lst us) → tz D σ (upd H' p (.lst (us ++ [v])))) : tSeq (tDrop (tBM K "list" rAppend (tVar i) (tCons te tNil))) tz D σ H := s_app (D := { D with nx := tz D }) gh gp hp e h hl k
/-- xs.extend(ys) -/
theorem s_ext {i : Nat} {p : Addr} {us : List V} {ys : List α} (gh : Same G H) (gp : G p = none) (hp : H p = some (.lst us)) (e : σ[i]? = some (some (.ref p))) (h : Ev te σ G (rLst r ys)) (hl : us.length + ys.length ≤ 100000)
    (k : ∀ ws G' H', Stp G H G' H' → Paired (fun x u => r x G' u) ys ws → G' p = none → H' p = some (.lst us) → D.nx σ (upd H' p (.lst (us ++ ws)))) : tDrop (tBM K "list" rExtend (tVar i) (tCons te tNil)) D σ H := by
  refine ⟨_, e, .inl ⟨rfl, _, .inl (.inl hp)⟩, ?_⟩
  refine h H gh _ fun v G1 H1 s1 ⟨a, ws, e1, e2, e3⟩ => ?_
  obtain ⟨k1, k2⟩ := s1.keep gp hp
  exact ⟨p, a, us, ws, rfl, by rw [e1], k2, s1.gh _ _ e2, sz_of (by rw [paired_len e3]; exact hl), k ws G1 H1 s1 e3 k1 k2⟩
end
section
/-! ### the same rules with K as a letter -/
variable {X : Cx} (K : PySem.W.Frag)
theorem pe_fldK {e : Expr} {ta : TE} {f : Str} {pos : Pos} (he : PE X e ta) (hb : attributeBase e f X.env (eval e X.env) = eval e X.env) (hK : X.K = K := by rfl) : PE X (.Attribute e f pos) (tFld K ta f) := by subst hK; exact pe_fld he hb
theorem ix_listK (hK : X.K = K := by rfl) : IxR X (rIxL K) := by subst hK; exact ix_list
theorem ix_tupK (hK : X.K = K := by rfl) : IxR X (rIxT K) := by subst hK; exact ix_tup
theorem pi_listK {tg l : Expr} {tl : TE} (hl : PE X l tl) (hK : X.K = K := by rfl) : PI X tg l (iList K tl) := by subst hK; exact pi_list hl
theorem pi_enumK {e : Expr} {ta : TA} {p pos tpos : Pos} {elts : List Expr} {kk : Nat} (hg : Gl X "enumerate") (hm : X.mg "enumerate" = none) (ha : PA X [e] ta) (hs : starEach [e] X.env = [(false, eval e X.env)] := by rfl) (hK : X.K = K := by rfl) :
    PI X (.Tuple elts kk tpos) (.Call (.Name "enumerate" p) [e] [] pos) (iEnum K ta) := by subst hK; exact pi_enum hg hm ha hs
theorem pi_zipK {e e2 : Expr} {ta : TA} {p pos tpos : Pos} {elts : List Expr} {kk : Nat} (hg : Gl X "zip") (hm : X.mg "zip" = none) (ha : PA X [e, e2] ta)
    (hs : starEach [e, e2] X.env = (false, eval e X.env) :: starEach [e2] X.env := by rfl) (hpl : (backTo pos (starEach [e2] X.env)).any (·.1) = false := by rfl) (hK : X.K = K := by rfl) :
    PI X (.Tuple elts kk tpos) (.Call (.Name "zip" p) [e, e2] [] pos) (iZip K ta) := by subst hK; exact pi_zip hg hm ha hs hpl
theorem pg_tupK {es : List Expr} {k : Nat} {t : TGs} {n : Nat} {pos : Pos} (hc : X.calm = true) (h : PGs X es t) (hn : (assignEach es X.env).length = n := by rfl) (hst : (assignEach es X.env).findIdx? (·.1) = none := by rfl) (hK : X.K = K := by rfl) : PG X (.Tuple es k pos) (gTup K n t) := by subst hK; exact pg_tup hc h hn hst
theorem sl_listK (hK : X.K = K := by rfl) : SlR X (rSlL K) := by subst hK; exact sl_list
theorem call_lenK (hK : X.K = K := by rfl) : CallR X (.builtin "len") (fun xs H Q => ∃ p ys, xs = [.ref p] ∧ (SqL K H p ys ∨ SqT K H p ys) ∧ Q (.int ys.length) H) := by subst hK; exact call_len_seq
theorem call_listK (hK : X.K = K := by rfl) : CallR X (.type "list") (fun xs H Q => ∃ p ys, xs = [.ref p] ∧ (SqL K H p ys ∨ SqT K H p ys) ∧ ∀ l, H l = none → Q (.ref l) (upd H l (.lst ys))) := by subst hK; exact call_list_of
theorem cr_sumK (hc : X.calm = true) (hK : X.K = K := by rfl) : CallR X (.builtin "sum") (rSum K) := by subst hK; exact cr_sum hc
theorem cr_anyK (hc : X.calm = true) (hK : X.K = K := by rfl) : CallR X (.builtin "any") (rAny K) := by subst hK; exact cr_any hc
theorem cr_allK (hc : X.calm = true) (hK : X.K = K := by rfl) : CallR X (.builtin "all") (rAll K) := by subst hK; exact cr_all hc
theorem cr_anyIK (hc : X.calm = true) (hK : X.K = K := by rfl) : CallR X (.builtin "any") (rAnyI K) := by subst hK; exact cr_anyI hc
theorem call_isiK' (hK : X.K = K := by rfl) : CallR X (.builtin "isinstance") (rIsi K) := by subst hK; exact call_isi
theorem call_isiTK (hK : X.K = K := by rfl) : CallR X (.builtin "isinstance") (rIsiT K) := by subst hK; exact call_isiT
theorem pe_revK {e : Expr} {te : TE} {k : Nat} {p1 p2 p3 pos : Pos} (he : PE X e te) (hK : X.K = K := by rfl) : PE X (.Subscript e (.Slice none none (some (.UnaryOp .USub (.Constant (.int 1) k p1) p2)) p3) pos) (tRevL K te) := by subst hK; exact pe_revL he
/-- x + y of two instances with the class's own __add__ -/
def rOwn (C : Addr) (sp : Sp) : R2 := fun x y H Q => ∃ a b dx dy fs gs, x = .ref a ∧ y = .ref b ∧ H a = some (.ins C dx fs) ∧ H b = some (.ins C dy gs) ∧ sp [.ref a, .ref b] H Q E0
structure CalOp (P : Program) (w : World) (K : PySem.W.Frag) (mg : Str → Option Value) (base : Heap) (C : Addr) (m : Str) (k : Nat) (ps : List Str) (sp : Sp) : Prop where
  first : PySem.W.selfFirst K C = true
  ex : ∃ f fd, PySem.W.findIn K (.ref C) m = some (some (.ref f)) ∧ PySem.W.isFn K (.ref f) = true ∧ Binds K fd ps [] ∧ FnOk P w K mg base CX0 k f fd ps sp
theorem op_own {C : Addr} {k : Nat} {ps : List Str} {sp : Sp} {op : Operator} (c : CalOp X.prog X.w X.K X.mg X.base C (PySem.dunder op.info.2) k ps sp) (hr : Room k X.A) : OpR X (binaryOp op) (rOwn C sp) := by
  intro pins s σ H x y u v Q I rx ry ⟨a, b, dx, dy, fs, gs, e1, e2, h1, h2, hq⟩
  subst e1 e2
  cases rx; cases ry
  obtain ⟨f, fd, hs, hf, hb, F⟩ := c.ex
  obtain ⟨mA, J, _⟩ := ins_get I.hok h1
  obtain ⟨mB, J', _⟩ := ins_get I.hok h2
  obtain ⟨od, J, _⟩ := J.look
  obtain ⟨od', J', _⟩ := J'.look
  refine K28q.bin_own I.kIn J J' c.first hs hf (thn (run_fn (us := [.ref a, .ref b]) (vs := [.ref a, .ref b]) F hr hb .nil pass0 I (.cons rfl (.cons rfl .nil)) hq) fun z s' h => ?_)
  obtain ⟨t, H', I', rz, q⟩ := h
  have e : PySem.W.CmpBack (EP X pins σ Q) z s' = EP X pins σ Q z s' := by cases t <;> first | (cases rz; rfl) | (obtain ⟨_, rz⟩ := rz; cases rz; rfl)
  rw [e]
  exact ⟨t, H', I', rz, q⟩
end
end K28
end
section
set_option Elab.async false
set_option linter.all false
set_option maxRecDepth 100000
set_option maxHeartbeats 4000000
set_option autoImplicit false
namespace K28
open PySem L2
section
variable {K : PySem.W.Frag} {ta tb te : TE} {σ : St} {G H G0 H0 : Hp} {tz : TS} {D : Ends} {α β : Type} {r : α → HP} {s : β → HP} {P1 : HP}
theorem cut_to {xs : List α} {i : Nat} (h : i ≤ xs.length) : cutL xs none (some (i : Int)) = xs.take i := by
  unfold cutL
  rw [HT.sIx_none, HT.sIx_nat, List.drop_zero, Nat.sub_zero, Nat.min_eq_left h]
theorem cut_from {xs : List α} {i : Nat} (h : i ≤ xs.length) : cutL xs (some (i : Int)) none = xs.drop i := by
  unfold cutL
  rw [HT.sIx_none, HT.sIx_nat, Nat.min_eq_left h]
  exact List.take_of_length_le (by rw [List.length_drop]; exact Nat.le_refl _)
theorem cut_mid {xs : List α} {i j : Nat} (h : i ≤ xs.length) (h2 : j ≤ xs.length) : cutL xs (some (i : Int)) (some (j : Int)) = (xs.drop i).take (j - i) := by
  unfold cutL
  rw [HT.sIx_nat, HT.sIx_nat, Nat.min_eq_left h, Nat.min_eq_left h2]
theorem ev_to {th : TE} {xs : List α} {i : Nat} {z : Int} [∀ x, Mono (r x)] (ha : Ev ta σ G (rLst r xs)) (h : ∀ G', Same G G' → Ev th σ G' (rInt z)) (e : z = (i : Int)) (hi : i ≤ xs.length) : Ev (tSl (rSlL K) ta tNoPart (tPart th)) σ G (rLst r (xs.take i)) := by
  subst e
  rw [← cut_to hi]
  exact ev_sl ha (fun _ _ => eo_none) fun G' g => eo_some (h G' g)
theorem ev_from {tl : TE} {xs : List α} {i : Nat} {z : Int} [∀ x, Mono (r x)] (ha : Ev ta σ G (rLst r xs)) (h : ∀ G', Same G G' → Ev tl σ G' (rInt z)) (e : z = (i : Int)) (hi : i ≤ xs.length) : Ev (tSl (rSlL K) ta (tPart tl) tNoPart) σ G (rLst r (xs.drop i)) := by
  subst e
  rw [← cut_from hi]
  exact ev_sl ha (fun G' g => eo_some (h G' g)) fun _ _ => eo_none
theorem ev_mid {tl th : TE} {xs : List α} {i j : Nat} {z y : Int} [∀ x, Mono (r x)] (ha : Ev ta σ G (rLst r xs)) (h : ∀ G', Same G G' → Ev tl σ G' (rInt z)) (h' : ∀ G', Same G G' → Ev th σ G' (rInt y)) (e : z = (i : Int)) (e' : y = (j : Int)) (hi : i ≤ xs.length) (hj : j ≤ xs.length) :
    Ev (tSl (rSlL K) ta (tPart tl) (tPart th)) σ G (rLst r ((xs.drop i).take (j - i))) := by
  subst e e'
  rw [← cut_mid hi hj]
  exact ev_sl ha (fun G' g => eo_some (h G' g)) fun G' g => eo_some (h' G' g)
/-- while: Inv with what is left to do -/
theorem s_while {c : TT} {u1 : TS} (st : Stp G0 H0 G H) (Inv : Nat → Hp → Hp → St → Prop) (m0 : Nat) (h0 : Inv m0 G H σ)
    (turn : ∀ m G1 H1 σ1, Stp G0 H0 G1 H1 → Same G G1 → Inv m G1 H1 σ1 → ∃ b, EvT c σ1 G1 b ∧ (b = true → ∀ G2 H2, Stp G1 H1 G2 H2 → ∀ N : St → Hp → Prop, (∀ m' σ' G' H', m' < m → Stp G0 H0 G' H' → Same G1 G' → Inv m' G' H' σ' → N σ' H') → u1 { D with nx := N, ct := N, bk := D.nx } σ1 H2) ∧
      (b = false → ∀ G2 H2, Stp G1 H1 G2 H2 → D.nx σ1 H2)) : tWhile c u1 D σ H := by
  refine ⟨fun m σ2 H2 => ∃ G2, Stp G0 H0 G2 H2 ∧ Same G G2 ∧ Inv m G2 H2 σ2, ⟨m0, G, st, .refl _, h0⟩, ?_⟩
  rintro m σ2 H2 ⟨G2, s2, g2, inv⟩
  obtain ⟨b, hc, h1, h2⟩ := turn m G2 H2 σ2 s2 g2 inv
  refine hc H2 s2.gh _ fun G3 H3 s3 => ?_
  cases b with
  | true => exact iteT ⟨_, fun σ' H' ⟨m', G', hm, a, b, c⟩ => ⟨m', hm, G', a, b, c⟩, h1 rfl G3 H3 s3 (fun σ' H' => ∃ m' G', m' < m ∧ Stp G0 H0 G' H' ∧ Same G G' ∧ Inv m' G' H' σ') fun m' σ' G' H' a b c d => ⟨m', G', a, b, g2.trans c, d⟩⟩
  | false => exact iteF (h2 rfl G3 H3 s3)
theorem q_while {c : TT} {u1 : TS} (st : Stp G0 H0 G H) (Inv : Nat → Hp → Hp → St → Prop) (m0 : Nat) (h0 : Inv m0 G H σ)
    (turn : ∀ m G1 H1 σ1, Stp G0 H0 G1 H1 → Same G G1 → Inv m G1 H1 σ1 → ∃ b, EvT c σ1 G1 b ∧ (b = true → ∀ G2 H2, Stp G1 H1 G2 H2 → ∀ N : St → Hp → Prop, (∀ m' σ' G' H', m' < m → Stp G0 H0 G' H' → Same G1 G' → Inv m' G' H' σ' → N σ' H') → u1 { D with nx := N, ct := N, bk := tz D } σ1 H2) ∧
      (b = false → ∀ G2 H2, Stp G1 H1 G2 H2 → tz D σ1 H2)) : tSeq (tWhile c u1) tz D σ H := s_while (D := { D with nx := tz D }) st Inv m0 h0 turn
/-- what a comprehension's turn asks where the target is a name, or two -/
theorem tg1 {j : Nat} {x : V} {R : St → Prop} (h : R (σ.set j (some x))) : Tgt (gName j) σ G x R := fun H _ Q k => k _ h
theorem tg2 {j l : Nat} {x : V} {z : α} {y : β} {R : St → Prop} (h : rPr r s (z, y) G x) (k : ∀ u w, r z G u → s y G w → R ((σ.set j (some u)).set l (some w))) : Tgt (gTup K 2 (gCons (gName j) (gCons (gName l) gNil))) σ G x R := fun H gh Q q =>
  tg_pair h H gh Q fun σ' ⟨u, w, a, b, e⟩ => by subst e; exact q _ (k u w a b)
/-- [e for x in xs] -/
theorem ev_map {β : Type} {s : β → HP} {j : Nat} {vs : List Nat} (f : α → β) {xs : List α} [∀ x, Mono (r x)] [∀ x, Mono (s x)] (ha : Ev ta σ G (rLst r xs)) (hl : xs.length ≤ 100000) (hw : ∀ x, wipe ((wipe σ vs).set j (some x)) vs = wipe σ vs)
    (hb : ∀ (i : Nat) (x : α) (G1 : Hp) (u : V), xs[i]? = some x → Same G G1 → r x G1 u → Ev te ((wipe σ vs).set j (some u)) G1 (s (f x))) : Ev (tLc (iList K ta) (gName j) tYes te vs) σ G (rLst s (xs.map f)) :=
  ev_lc (r := s) (xs.map f) (src_list ha) (by rw [List.length_map]) hl fun i z G1 x hz g ⟨y, hy, ry⟩ => by
    rw [List.getElem?_map, hy] at hz
    cases hz
    exact tg1 ⟨hw x, hb i y G1 x hy g ry⟩
/-- [e for i in range(n)] -/
theorem ev_mapR {β : Type} {s : β → HP} {j : Nat} {vs : List Nat} (f : Nat → β) {n : Nat} {z : Int} [∀ x, Mono (s x)] (ha : Ev ta σ G (rInt z)) (e : z = (n : Int)) (hl : n ≤ 100000) (hw : ∀ x, wipe ((wipe σ vs).set j (some x)) vs = wipe σ vs)
    (hb : ∀ i G1, i < n → Same G G1 → Ev te ((wipe σ vs).set j (some (.int (i : Int)))) G1 (s (f i))) : Ev (tLc (iRng1 (tCons ta tNil)) (gName j) tYes te vs) σ G (rLst s ((List.range n).map f)) := by
  subst e
  refine ev_lc (r := s) ((List.range n).map f) (src_range (ea1 ha) hl) (by simp) hl fun i z G1 x hz g hx => ?_
  rw [show x = _ from hx]
  have hi : i < n := by
    have := (List.getElem?_eq_some_iff.mp hz).1
    simpa using this
  rw [List.getElem?_map, List.getElem?_range hi] at hz
  cases hz
  exact tg1 ⟨hw _, hb i G1 hi g⟩
/-- [e for x, y in zip(xs, ys)] -/
theorem ev_mapZ {γ : Type} {t : γ → HP} {j l : Nat} {vs : List Nat} (f : α → β → γ) {xs : List α} {ys : List β} [∀ x, Mono (r x)] [∀ x, Mono (s x)] [∀ x, Mono (t x)] (ha : Ev ta σ G (rLst r xs)) (hb' : ∀ G', Same G G' → Ev tb σ G' (rLst s ys)) (hl : xs.length ≤ 100000) (hw : ∀ x y, wipe (((wipe σ vs).set j (some x)).set l (some y)) vs = wipe σ vs)
    (hb : ∀ (i : Nat) (x : α) (y : β) (G1 : Hp) (u v : V), xs[i]? = some x → ys[i]? = some y → Same G G1 → r x G1 u → s y G1 v → Ev te (((wipe σ vs).set j (some u)).set l (some v)) G1 (t (f x y))) :
    Ev (tLc (iZip K (tCons ta (tCons tb tNil))) (gTup K 2 (gCons (gName j) (gCons (gName l) gNil))) tYes te vs) σ G (rLst t (List.zipWith f xs ys)) :=
  ev_lc (r := t) (List.zipWith f xs ys) (src_zip ha hb' rfl) (by rw [List.length_zipWith]) (by omega) fun i z G1 x hz g ⟨y, y', hy, hy', ry⟩ => by
    rw [List.getElem?_zipWith, hy, hy'] at hz
    cases hz
    exact tg2 ry fun u w a b => ⟨hw u w, hb i y y' G1 u w hy hy' g a b⟩
/-- [e for x in xs if t] -/
theorem ev_filt {j : Nat} {vs : List Nat} {tt : TT} (f : α → Bool) {xs : List α} [∀ x, Mono (r x)] (ha : Ev ta σ G (rLst r xs)) (hl : xs.length ≤ 100000) (hw : ∀ x, wipe ((wipe σ vs).set j (some x)) vs = wipe σ vs)
    (hb : ∀ (i : Nat) (x : α) (G1 : Hp) (u : V), xs[i]? = some x → Same G G1 → r x G1 u → EvT tt ((wipe σ vs).set j (some u)) G1 (f x) ∧ Ev te ((wipe σ vs).set j (some u)) G1 (r x)) : Ev (tLc (iList K ta) (gName j) tt te vs) σ G (rLst r (xs.filter f)) :=
  ev_lcF (r := r) xs f (src_list ha) rfl hl fun i z G1 x hz g ⟨y, hy, ry⟩ => by
    rw [hz] at hy
    cases hy
    exact tg1 ⟨hw x, (hb i z G1 x hz g ry).1, (hb i z G1 x hz g ry).2⟩
end
end K28
end
section
set_option Elab.async false
set_option linter.all false
set_option maxRecDepth 100000
set_option maxHeartbeats 4000000
set_option autoImplicit false
namespace K28
open PySem L2
section
variable {K : PySem.W.Frag} {ta tb te : TE} {tt : TT} {σ : St} {G H G0 H0 G' H' : Hp} {tz u1 : TS} {D : Ends} {α β : Type} {r : α → HP} {s : β → HP} {P1 : HP} {b : Bool} {p : Addr} {xs ys : List α} {x : α} {i : Nat}
theorem q_if1 (gh : Same G H) (h : EvT tt σ G b) (k1 : b = true → ∀ G' H', Stp G H G' H' → u1 { D with nx := tz D } σ H') (k2 : b = false → ∀ G' H', Stp G H G' H' → tz D σ H') : tSeq (tIfS tt u1 tNext) tz D σ H := q_if gh h k1 k2
/-- a list of one's own making, at p, still growing -/
def Own (r : α → HP) (xs : List α) (p : Addr) (G H : Hp) : Prop := G p = none ∧ ∃ us, H p = some (.lst us) ∧ Paired (fun x u => r x G u) xs us
theorem Own.step [∀ x, Mono (r x)] (o : Own r xs p G H) (s : Stp G H G' H') : Own r xs p G' H' := by
  obtain ⟨o1, us, o2, o3⟩ := o
  obtain ⟨k1, k2⟩ := s.keep o1 o2
  exact ⟨k1, us, k2, paired_imp (fun _ _ => Mono.mono s.gg) o3⟩
theorem q_new (st : Stp G0 H0 G H) (k : ∀ p H', H0 p = none → Stp G0 H0 G H' → Stp G H G H' → Own r [] p G H' → tz D (σ.set i (some (.ref p))) H') : tSeq (tAsg (tLst tNil) (gName i)) tz D σ H :=
  ⟨Nat.zero_le _, fun p hp => k p _ (st.hh.free hp) (st.trans (Stp.aside st.gh hp)) (Stp.aside st.gh hp) ⟨st.gh.free hp, [], upd_same, .nil⟩⟩
theorem s_grow [∀ x, Mono (r x)] (st : Stp G0 H0 G H) (hp : H0 p = none) (o : Own r xs p G H) (e : σ[i]? = some (some (.ref p))) (h : Ev te σ G (r x)) (hl : xs.length < 100000)
    (k : ∀ G' H', Stp G0 H0 G' H' → Same G G' → Own r (xs ++ [x]) p G' H' → D.nx σ H') : tDrop (tBM K "list" rAppend (tVar i) (tCons te tNil)) D σ H := by
  obtain ⟨o1, us, o2, o3⟩ := o
  refine s_app st.gh o1 o2 e h (by rw [paired_len o3]; exact hl) fun v G1 H1 s1 p1 g1 h1 => ?_
  exact k G1 _ ((st.trans s1).wr hp g1) s1.gg ⟨g1, _, upd_same, paired_app (paired_imp (fun _ _ => Mono.mono s1.gg) o3) (.cons p1 .nil)⟩
theorem q_grow [∀ x, Mono (r x)] (st : Stp G0 H0 G H) (hp : H0 p = none) (o : Own r xs p G H) (e : σ[i]? = some (some (.ref p))) (h : Ev te σ G (r x)) (hl : xs.length < 100000)
    (k : ∀ G' H', Stp G0 H0 G' H' → Same G G' → Own r (xs ++ [x]) p G' H' → tz D σ H') : tSeq (tDrop (tBM K "list" rAppend (tVar i) (tCons te tNil))) tz D σ H := s_grow (D := { D with nx := tz D }) st hp o e h hl k
theorem s_growE [∀ x, Mono (r x)] (st : Stp G0 H0 G H) (hp : H0 p = none) (o : Own r xs p G H) (e : σ[i]? = some (some (.ref p))) (h : Ev te σ G (rLst r ys)) (hl : xs.length + ys.length ≤ 100000)
    (k : ∀ G' H', Stp G0 H0 G' H' → Same G G' → Own r (xs ++ ys) p G' H' → D.nx σ H') : tDrop (tBM K "list" rExtend (tVar i) (tCons te tNil)) D σ H := by
  obtain ⟨o1, us, o2, o3⟩ := o
  refine s_ext (r := r) st.gh o1 o2 e h (by rw [paired_len o3]; exact hl) fun v G1 H1 s1 p1 g1 h1 => ?_
  exact k G1 _ ((st.trans s1).wr hp g1) s1.gg ⟨g1, _, upd_same, paired_app (paired_imp (fun _ _ => Mono.mono s1.gg) o3) p1⟩
/-- it comes to stand for good -/
theorem Own.frz [∀ x, Mono (r x)] (st : Stp G0 H0 G H) (hp : H0 p = none) (o : Own r xs p G H) : ∃ G', Stp G0 H0 G' H ∧ Same G G' ∧ rLst r xs G' (.ref p) := by
  obtain ⟨o1, us, o2, o3⟩ := o
  exact ⟨upd G p (.lst us), st.frz hp o1 o2, same_upd o1, p, us, rfl, upd_same, paired_imp (fun _ _ => Mono.mono (same_upd o1)) o3⟩
theorem q_retO [∀ x, Mono (r x)] (st : Stp G0 H0 G H) (hp : H0 p = none) (o : Own r xs p G H) (e : σ[i]? = some (some (.ref p))) (k : ∀ v G' H', Stp G0 H0 G' H' → rLst r xs G' v → D.rt v H') : tRet (tVar i) D σ H := by
  obtain ⟨G1, s1, _, h1⟩ := o.frz st hp
  exact ⟨_, e, k _ G1 H s1 h1⟩
end
section
variable {K : PySem.W.Frag} {ta tb tc te : TE} {tt : TT} {σ : St} {G H G0 H0 G' H' : Hp} {tz u1 : TS} {D : Ends} {α β : Type} {r : α → HP} {s : β → HP} {P1 : HP} {b : Bool} {p : Addr} {xs ys : List α} {x : α} {i : Nat}
theorem ev_chain2 {f g : Int → Int → Bool} {i j k : Int} (ha : Ev ta σ G (rInt i)) (hb : ∀ G', Same G G' → Ev tb σ G' (rInt j)) (hc : ∀ G', Same G G' → Ev tc σ G' (rInt k)) : Ev (tChain (rI0 fun i j => .bl (f i j)) (rI0 fun i j => .bl (g i j)) ta tb tc) σ G (rBl (f i j && g j k)) := fun H hh Q q =>
  ha H hh _ fun x G1 H1 s1 e1 => hb G1 s1.gg H1 s1.gh _ fun y G2 H2 s2 e2 => ⟨i, j, e1, e2, f i j, rfl, by
    revert q
    generalize f i j = c
    intro q
    cases c with
    | true => exact iteT (hc G2 (s1.gg.trans s2.gg) H2 s2.gh _ fun z G3 H3 s3 e3 => ⟨j, k, e2, e3, q _ G3 H3 ((s1.trans s2).trans s3) (by rw [Bool.true_and]; rfl)⟩)
    | false => exact iteF (q _ G2 H2 (s1.trans s2) rfl)⟩
theorem ev_isN (h : Ev ta σ G P1) (hb : ∀ G' v, P1 G' v → decide (v = V.non) = b) : Ev (tOp (fun x y H Q => y = .non ∧ Q (.bl (decide (x = .non))) H) ta (tC .non)) σ G (rBl b) := fun H hh Q q =>
  h H hh _ fun x G1 H1 s1 p1 => ⟨rfl, q _ G1 H1 s1 (congrArg V.bl (hb G1 x p1))⟩
theorem not_non {xs : List α} {G : Hp} {v : V} (h : rLst r xs G v) : decide (v = V.non) = false := by
  obtain ⟨a, us, rfl, _⟩ := h
  rfl
/-- all([f(x) for x in xs]), all of them True -/
theorem ev_allT {j : Nat} {vs : List Nat} {K : PySem.W.Frag} [∀ x, Mono (r x)] (ha : Ev ta σ G (rLst r xs)) (hl : xs.length ≤ 100000) (hw : ∀ x, wipe ((wipe σ vs).set j (some x)) vs = wipe σ vs)
    (hb : ∀ (i : Nat) (x : α) (G1 : Hp) (u : V), xs[i]? = some x → Same G G1 → r x G1 u → Ev te ((wipe σ vs).set j (some u)) G1 (rBl true)) : Ev (tCB (rAll K) (tCons (tLc (iList K ta) (gName j) tYes te vs) tNil)) σ G (rBl true) := by
  refine (ev_all (ev_map (r := r) (s := rBl) (fun _ => true) ha hl hw hb)).imp fun _ v _ e => ?_
  rw [show v = _ from e]
  show V.bl _ = V.bl _
  congr 1
  rw [List.all_eq_true]
  intro b hb
  obtain ⟨_, _, rfl⟩ := List.mem_map.mp hb
  rfl
/-- any([f(x) for x in xs]), none of them True -/
theorem ev_anyF {j : Nat} {vs : List Nat} {K : PySem.W.Frag} [∀ x, Mono (r x)] (ha : Ev ta σ G (rLst r xs)) (hl : xs.length ≤ 100000) (hw : ∀ x, wipe ((wipe σ vs).set j (some x)) vs = wipe σ vs)
    (hb : ∀ (i : Nat) (x : α) (G1 : Hp) (u : V), xs[i]? = some x → Same G G1 → r x G1 u → Ev te ((wipe σ vs).set j (some u)) G1 (rBl false)) : Ev (tCB (rAny K) (tCons (tLc (iList K ta) (gName j) tYes te vs) tNil)) σ G (rBl false) := by
  refine (ev_any (ev_map (r := r) (s := rBl) (fun _ => false) ha hl hw hb)).imp fun _ v _ e => ?_
  rw [show v = _ from e]
  show V.bl _ = V.bl _
  congr 1
  rw [List.any_eq_false]
  intro b hb
  obtain ⟨_, _, rfl⟩ := List.mem_map.mp hb
  simp
theorem rLst_map {γ : Type} {t : γ → HP} {f : α → γ} {G : Hp} {v : V} {xs : List α} (h : ∀ x G u, r x G u → t (f x) G u) (k : rLst r xs G v) : rLst t (xs.map f) G v := by
  obtain ⟨a, us, e1, e2, e3⟩ := k
  refine ⟨a, us, e1, e2, ?_⟩
  clear e2
  induction e3 with
  | nil => exact .nil
  | cons q t ih => exact .cons (h _ _ _ q) ih
end
section
variable {K : PySem.W.Frag} {ta tb tc te : TE} {tt : TT} {σ : St} {G H G0 H0 G' H' : Hp} {tz u1 : TS} {D : Ends} {α β : Type} {r : α → HP} {s : β → HP} {P1 P2 : HP} {b : Bool} {p : Addr} {xs ys : List α} {x : α} {i j : Nat}
/-- what is written at p leaves the others -/
def Rest (p : Addr) (G H G' H' : Hp) : Prop := Same G G' ∧ ∀ q o, q ≠ p → G q = none → H q = some o → G' q = none ∧ H' q = some o
theorem Own.rest {zs : List β} [∀ x, Mono (s x)] {q : Addr} (o : Own s zs q G H) (h : Rest p G H G' H') (n : q ≠ p) : Own s zs q G' H' := by
  obtain ⟨o1, us, o2, o3⟩ := o
  obtain ⟨k1, k2⟩ := h.2 q _ n o1 o2
  exact ⟨k1, us, k2, paired_imp (fun _ _ => Mono.mono h.1) o3⟩
theorem Own.ne {zs : List β} {q : Addr} (o : Own s zs q G H) (h : H p = none) : q ≠ p := fun e => by
  obtain ⟨_, us, o2, _⟩ := o
  rw [e, h] at o2; cases o2
theorem s_grow2 [∀ x, Mono (r x)] (st : Stp G0 H0 G H) (hp : H0 p = none) (o : Own r xs p G H) (e : σ[i]? = some (some (.ref p))) (h : Ev te σ G (r x)) (hl : xs.length < 100000)
    (k : ∀ G' H', Stp G0 H0 G' H' → Rest p G H G' H' → Own r (xs ++ [x]) p G' H' → D.nx σ H') : tDrop (tBM K "list" rAppend (tVar i) (tCons te tNil)) D σ H := by
  obtain ⟨o1, us, o2, o3⟩ := o
  refine s_app st.gh o1 o2 e h (by rw [paired_len o3]; exact hl) fun v G1 H1 s1 p1 g1 h1 => ?_
  refine k G1 _ ((st.trans s1).wr hp g1) ⟨s1.gg, fun q o nq hg hh => ?_⟩ ⟨g1, _, upd_same, paired_app (paired_imp (fun _ _ => Mono.mono s1.gg) o3) (.cons p1 .nil)⟩
  obtain ⟨z1, z2⟩ := s1.keep hg hh
  exact ⟨z1, by rw [upd_ne nq]; exact z2⟩
theorem q_grow2 [∀ x, Mono (r x)] (st : Stp G0 H0 G H) (hp : H0 p = none) (o : Own r xs p G H) (e : σ[i]? = some (some (.ref p))) (h : Ev te σ G (r x)) (hl : xs.length < 100000)
    (k : ∀ G' H', Stp G0 H0 G' H' → Rest p G H G' H' → Own r (xs ++ [x]) p G' H' → tz D σ H') : tSeq (tDrop (tBM K "list" rAppend (tVar i) (tCons te tNil))) tz D σ H := s_grow2 (D := { D with nx := tz D }) st hp o e h hl k
theorem s_par {l : Nat} [Mono P1] (gh : Same G H) (h : Ev ta σ G P1) (h2 : ∀ G', Same G G' → Ev tb σ G' P2) (k : ∀ u w G' H', Stp G H G' H' → P1 G' u → P2 G' w → D.nx ((σ.set j (some u)).set l (some w)) H') : tPar j l (tCons ta (tCons tb tNil)) D σ H :=
  ea2 h h2 H gh (fun vs H1 => ∃ v w, vs = [v, w] ∧ D.nx ((σ.set j (some v)).set l (some w)) H1) fun vs G1 H1 s1 p => by
    obtain ⟨u, w, e, e1, e2⟩ := p
    exact ⟨u, w, e, k u w G1 H1 s1 e1 e2⟩
theorem ev_neNil (ha : Ev ta σ G (rLst r xs)) : Ev (tOp (rEqB true DLen) ta (tLst tNil)) σ G (rBl (!decide (xs.length = 0))) := fun H hh Q q =>
  ha H hh _ fun v G1 H1 s1 ⟨a, us, e1, e2, e3⟩ => ⟨Nat.zero_le _, fun p hp => ⟨_, ⟨a, p, us, [], e1, rfl, (same_upd hp) _ _ (s1.gh _ _ e2), upd_same, rfl, rfl⟩, fun H' g => q _ G1 H' (s1.trans ((Stp.aside (o := .lst []) s1.gh hp).trans (Stp.same (fun b o e => by have := s1.gh b o e; exact (same_upd hp) b o this) g))) (by
    show V.bl _ = V.bl _
    rw [paired_len e3, Bool.bne_true])⟩⟩
/-- f(xs, e) where xs is a list of lists of one's own making, and the answer a list of whole numbers -/
theorem q_callO {A : List V → Hp → Hp → HP → Prop} {E : XK} {rows : List (List Int)} {res : List Int} (st : Same G H) (o : Own (rLst rInt) rows p G H) (e : σ[i]? = some (some (.ref p))) (h : Ev te σ G P2) (hres : res ≠ [])
    (hA : ∀ G' H' u, Same G G' → Same G' H' → rLst (rLst rInt) rows G' (.ref p) → (∀ G1, Same G1 G' → P2 G1 u → P2 G' u) → (∃ G1, Same G1 G' ∧ P2 G1 u) → A [.ref p, u] G' H' (rLst rInt res))
    (k : ∀ v G' H', Stp G H G' H' → rLst rInt res G' v → tz D (σ.set j (some v)) H') [Mono P2] : tSeq (tAsg (tCall (spP A) [] E (tCons (tVar i) (tCons te tNil))) (gName j)) tz D σ H := by
  refine ⟨_, e, h H st _ fun u G1 H1 s1 p1 => ?_⟩
  obtain ⟨o1, us, o2, o3⟩ := o.step s1
  have gp : Same G1 (upd G1 p (.lst us)) := same_upd o1
  have gh : Same (upd G1 p (.lst us)) H1 := fun b o e => by
    by_cases z : b = p
    · subst z; rw [upd_same] at e; cases e; exact o2
    · rw [upd_ne z] at e; exact s1.gh b o e
  refine ⟨upd G1 p (.lst us), _, gh, hA _ H1 u (s1.gg.trans gp) gh ⟨p, us, rfl, upd_same, paired_imp (fun _ _ => Mono.mono gp) o3⟩ (fun G2 g q => Mono.mono g q) ⟨G1, gp, p1⟩, fun v G2 H2 s2 p2 => ?_⟩
  obtain ⟨a, ws, rfl, e1, e2⟩ := p2
  have hp2 : G2 p = some (.lst us) := s2.gg _ _ upd_same
  have na : a ≠ p := fun z => by
    subst z
    rw [hp2] at e1
    cases e1
    cases e2 with
    | nil => exact hres rfl
    | cons q1 _ =>
      cases o3 with
      | cons q2 _ =>
        obtain ⟨a', _, z, _⟩ := q2
        rw [show _ = _ from q1] at z
        cases z
  have s3 : Stp G1 H1 (fun b => if b = p then none else G2 b) H2 := by
    refine ⟨fun b o e => ?_, fun b o e => ?_, s2.hh, fun b o e e' => ?_⟩
    · show (if b = p then none else G2 b) = some o
      rw [if_neg (ne_of_none e o1)]
      exact s2.gg _ _ (gp _ _ e)
    · have e' : (if b = p then none else G2 b) = some o := e
      split at e'
      · cases e'
      · exact s2.gh _ _ e'
    · have e2' : (if b = p then none else G2 b) = some o := e'
      split at e2'
      · cases e2'
      · rename_i nb
        exact s2.fr b o (by rw [upd_ne nb]; exact e) e2'
  refine k (.ref a) _ H2 (s1.trans s3) ⟨a, ws, rfl, ?_, e2⟩
  show (if a = p then none else G2 a) = some _
  rw [if_neg na]; exact e1
theorem Own.frz2 {zs : List β} [∀ x, Mono (r x)] [∀ x, Mono (s x)] {q : Addr} (st : Stp G0 H0 G H) (hp : H0 p = none) (o : Own r xs p G H) (o' : Own s zs q G H) (n : q ≠ p) : ∃ G', Stp G0 H0 G' H ∧ Same G G' ∧ rLst r xs G' (.ref p) ∧ Own s zs q G' H := by
  obtain ⟨o1, us, o2, o3⟩ := o
  obtain ⟨q1, ws, q2, q3⟩ := o'
  exact ⟨upd G p (.lst us), st.frz hp o1 o2, same_upd o1, ⟨p, us, rfl, upd_same, paired_imp (fun _ _ => Mono.mono (same_upd o1)) o3⟩, by rw [upd_ne n]; exact q1, ws, q2, paired_imp (fun _ _ => Mono.mono (same_upd o1)) q3⟩
/-- a, xs = e, [e2] : xs is going to grow -/
theorem q_parO [Mono P1] [∀ x, Mono (r x)] (st : Stp G0 H0 G H) (h : Ev ta σ G P1) (h2 : ∀ G', Same G G' → Ev tb σ G' (r x)) (k : ∀ u p G' H', H0 p = none → Stp G0 H0 G' H' → Same G G' → P1 G' u → Own r [x] p G' H' → tz D ((σ.set i (some u)).set j (some (.ref p))) H') : tSeq (tPar i j (tCons ta (tCons (tLst (tCons tb tNil)) tNil))) tz D σ H :=
  h H st.gh _ fun u G1 H1 s1 e1 => h2 G1 s1.gg H1 s1.gh _ fun w G2 H2 s2 e2 => ⟨by show 1 ≤ sizeLine; decide, fun p hp => ⟨u, .ref p, rfl,
    k u p G2 _ (((st.trans s1).trans s2).hh.free hp) (((st.trans s1).trans s2).trans (Stp.aside s2.gh hp)) (s1.gg.trans s2.gg) (Mono.mono s2.gg e1) ⟨s2.gh.free hp, [w], upd_same, .cons e2 .nil⟩⟩⟩
end
end K28
end
section
set_option Elab.async false
set_option linter.all false
set_option maxRecDepth 100000
set_option maxHeartbeats 4000000
set_option autoImplicit false
namespace K28
theorem rat_num {a b : Int} (h : 0 < b) : a / ((Nat.gcd a.natAbs b.natAbs : Nat) : Int) = (Rat.divInt a b).num := by
  rw [Rat.num_divInt, Int.sign_eq_one_of_pos h, Int.one_mul, Int.gcd, Nat.gcd_comm]
theorem rat_den {a b : Int} (h : 0 < b) : b / ((Nat.gcd a.natAbs b.natAbs : Nat) : Int) = ((Rat.divInt a b).den : Int) := by
  rw [Rat.den_divInt, if_neg (by omega), Int.gcd, Nat.gcd_comm]
  rw [Int.natCast_ediv, Int.natAbs_of_nonneg (by omega)]
theorem gcd_pos {a b : Int} (h : 0 < b) : 0 < ((Nat.gcd a.natAbs b.natAbs : Nat) : Int) := by
  have : 0 < Nat.gcd a.natAbs b.natAbs := Nat.gcd_pos_of_pos_right _ (by omega)
  omega
theorem gcd_le {a b : Int} {n : Nat} (h : 0 < b) (hb : b.natAbs < n) : ((Nat.gcd a.natAbs b.natAbs : Nat) : Int).natAbs < n := by
  rw [Int.natAbs_natCast]
  exact Nat.lt_of_le_of_lt (Nat.le_of_dvd (by omega) (Nat.gcd_dvd_right _ _)) hb
theorem rat_add (a b : Rat) : Rat.divInt (a.num * (b.den : Int) + b.num * (a.den : Int)) ((a.den : Int) * (b.den : Int)) = a + b := by
  have ha : (a.den : Int) ≠ 0 := by have := a.den_nz; omega
  have hb : (b.den : Int) ≠ 0 := by have := b.den_nz; omega
  rw [← Rat.divInt_add_divInt _ _ ha hb, Rat.num_divInt_den, Rat.num_divInt_den]
theorem rat_int (i : Int) : Rat.divInt i 1 = (i : Rat) := by rw [Rat.divInt_eq_div]; grind
/-- small numbers: both parts below 2 ^ n -/
def Sm (n : Nat) (q : Rat) : Prop := q.num.natAbs < 2 ^ n ∧ q.den < 2 ^ n
theorem Sm.mono {n m : Nat} {q : Rat} (h : Sm n q) (k : n ≤ m) : Sm m q := ⟨Nat.lt_of_lt_of_le h.1 (Nat.pow_le_pow_right (by decide) k), Nat.lt_of_lt_of_le h.2 (Nat.pow_le_pow_right (by decide) k)⟩
/-- a fraction with parts so small is so small -/
theorem sm_div {a b : Int} {n : Nat} (h : 0 < b) (ha : a.natAbs < 2 ^ n) (hb : b.natAbs < 2 ^ n) : Sm n (Rat.divInt a b) := by
  have g := gcd_pos (a := a) h
  have e1 := rat_num (a := a) h
  have e2 := rat_den (a := a) h
  constructor
  · rw [← e1]
    refine Nat.lt_of_le_of_lt ?_ ha
    rw [Int.natAbs_ediv_of_dvd (Int.natAbs_dvd_natAbs.mp (by rw [Int.natAbs_natCast]; exact Nat.gcd_dvd_left _ _))]
    exact Nat.div_le_self _ _
  · have : ((Rat.divInt a b).den : Int) < ((2 ^ n : Nat) : Int) := by
      rw [← e2]
      refine Int.lt_of_le_of_lt (Int.ediv_le_self _ (by omega)) ?_
      omega
    omega
theorem log2_le {i n : Nat} (h : i < 2 ^ n) : i.log2 ≤ n := by
  by_cases h0 : i = 0
  · subst h0; rw [Nat.log2_zero]; exact Nat.zero_le _
  · exact Nat.le_of_lt ((Nat.log2_lt h0).mpr h)
theorem abs_mul_lt {i j : Int} {n m : Nat} (hi : i.natAbs < 2 ^ n) (hj : j.natAbs < 2 ^ m) : (i * j).natAbs < 2 ^ (n + m) := by
  rw [Int.natAbs_mul, Nat.pow_add]
  exact Nat.mul_lt_mul'' hi hj
theorem abs_add_lt {i j : Int} {n : Nat} (hi : i.natAbs < 2 ^ n) (hj : j.natAbs < 2 ^ n) : (i + j).natAbs < 2 ^ (n + 1) := by
  rw [Nat.pow_succ]
  omega
theorem abs_sub_lt {i j : Int} {n : Nat} (hi : i.natAbs < 2 ^ n) (hj : j.natAbs < 2 ^ n) : (i - j).natAbs < 2 ^ (n + 1) := by
  rw [Nat.pow_succ]
  omega
theorem lt_up {i n m : Nat} (h : i < 2 ^ n) (k : n ≤ m) : i < 2 ^ m := Nat.lt_of_lt_of_le h (Nat.pow_le_pow_right (by decide) k)
theorem sm_add {a b : Rat} {n : Nat} (ha : Sm n a) (hb : Sm n b) : Sm (n + n + 1) (a + b) := by
  rw [← rat_add]
  have pa : 0 < (a.den : Int) := by have := a.den_pos; omega
  have pb : 0 < (b.den : Int) := by have := b.den_pos; omega
  refine sm_div (Int.mul_pos pa pb) (abs_add_lt (abs_mul_lt ha.1 (by rw [Int.natAbs_natCast]; exact hb.2)) (by rw [Nat.add_comm]; exact abs_mul_lt hb.1 (by rw [Int.natAbs_natCast]; exact ha.2))) ?_
  exact lt_up (abs_mul_lt (by rw [Int.natAbs_natCast]; exact ha.2) (by rw [Int.natAbs_natCast]; exact hb.2)) (by omega)
end K28
end
section
set_option Elab.async false
set_option linter.all false
set_option maxRecDepth 100000
set_option maxHeartbeats 4000000
set_option autoImplicit false
namespace K28
/-! ### fractions over one bottom -/
def lcmD (qs : List Rat) : Nat := qs.foldl (fun b q => Nat.lcm b q.den) 1
def intsR (qs : List Rat) : List Int := qs.map fun q => q.num * ((lcmD qs : Int) / (q.den : Int))
/-- a bottom D below 2 ^ d that goes for all of them, the tops then below 2 ^ e -/
def Bd (d e : Nat) (qs : List Rat) : Prop := ∃ D : Nat, 0 < D ∧ D < 2 ^ d ∧ ∀ q ∈ qs, q.den ∣ D ∧ q.num.natAbs * (D / q.den) < 2 ^ e
theorem foldl_lcm_dvd (qs : List Rat) (b D : Nat) (hb : b ∣ D) (h : ∀ q ∈ qs, q.den ∣ D) : qs.foldl (fun b q => Nat.lcm b q.den) b ∣ D := by
  induction qs generalizing b with
  | nil => exact hb
  | cons q qs ih => exact ih _ (Nat.lcm_dvd hb (h q (List.mem_cons_self ..))) fun p hp => h p (List.mem_cons_of_mem _ hp)
theorem dvd_foldl_lcm (qs : List Rat) (b : Nat) : b ∣ qs.foldl (fun b q => Nat.lcm b q.den) b := by
  induction qs generalizing b with
  | nil => exact Nat.dvd_refl _
  | cons q qs ih => exact Nat.dvd_trans (Nat.dvd_lcm_left _ _) (ih _)
theorem mem_foldl_lcm (qs : List Rat) (b : Nat) : ∀ q ∈ qs, q.den ∣ qs.foldl (fun b q => Nat.lcm b q.den) b := by
  induction qs generalizing b with
  | nil => intro q hq; cases hq
  | cons p qs ih =>
    intro q hq
    rcases List.mem_cons.mp hq with rfl | hq
    · exact Nat.dvd_trans (Nat.dvd_lcm_right _ _) (dvd_foldl_lcm qs _)
    · exact ih _ q hq
theorem den_dvd {qs : List Rat} {q : Rat} (h : q ∈ qs) : q.den ∣ lcmD qs := mem_foldl_lcm qs 1 q h
theorem lcmD_pos (qs : List Rat) : 0 < lcmD qs := by
  have : ∀ (l : List Rat) (b : Nat), 0 < b → 0 < l.foldl (fun b q => Nat.lcm b q.den) b := by
    intro l
    induction l with
    | nil => intro b h; exact h
    | cons q l ih => intro b h; exact ih _ (Nat.lcm_pos h q.den_pos)
  exact this qs 1 (by decide)
theorem Bd.lcm {d e : Nat} {qs : List Rat} (h : Bd d e qs) : lcmD qs < 2 ^ d := by
  obtain ⟨D, h0, h1, h2⟩ := h
  exact Nat.lt_of_le_of_lt (Nat.le_of_dvd h0 (foldl_lcm_dvd qs 1 D (Nat.one_dvd _) fun q hq => (h2 q hq).1)) h1
theorem Bd.intsR {d e : Nat} {qs : List Rat} (h : Bd d e qs) : ∀ z ∈ intsR qs, z.natAbs < 2 ^ e := by
  obtain ⟨D, h0, h1, h2⟩ := h
  intro z hz
  obtain ⟨q, hq, rfl⟩ := List.mem_map.mp hz
  obtain ⟨h3, h4⟩ := h2 q hq
  refine Nat.lt_of_le_of_lt ?_ h4
  rw [Int.natAbs_mul]
  refine Nat.mul_le_mul_left _ ?_
  rw [← Int.natCast_ediv, Int.natAbs_natCast]
  exact Nat.div_le_div_right (Nat.le_of_dvd h0 (foldl_lcm_dvd qs 1 D (Nat.one_dvd _) fun q hq => (h2 q hq).1))
theorem Bd.num {d e : Nat} {qs : List Rat} (h : Bd d e qs) {q : Rat} (hq : q ∈ qs) : q.num.natAbs < 2 ^ e ∧ q.den < 2 ^ d := by
  obtain ⟨D, h0, h1, h2⟩ := h
  obtain ⟨h3, h4⟩ := h2 q hq
  refine ⟨Nat.lt_of_le_of_lt ?_ h4, Nat.lt_of_le_of_lt (Nat.le_of_dvd h0 h3) h1⟩
  exact Nat.le_mul_of_pos_right _ (Nat.div_pos (Nat.le_of_dvd h0 h3) q.den_pos)
theorem Bd.sub {d e : Nat} {qs ps : List Rat} (h : Bd d e qs) (k : ∀ p ∈ ps, p ∈ qs) : Bd d e ps := by
  obtain ⟨D, h0, h1, h2⟩ := h
  exact ⟨D, h0, h1, fun q hq => h2 q (k q hq)⟩
theorem Bd.mono {d e d' e' : Nat} {qs : List Rat} (h : Bd d e qs) (hd : d ≤ d') (he : e ≤ e') : Bd d' e' qs := by
  obtain ⟨D, h0, h1, h2⟩ := h
  exact ⟨D, h0, lt_up h1 hd, fun q hq => ⟨(h2 q hq).1, lt_up (h2 q hq).2 he⟩⟩
theorem int_of (q : Rat) {D : Nat} (h : q.den ∣ D) : ((q.num * ((D : Int) / (q.den : Int)) : Int) : Rat) = q * (D : Rat) := by
  obtain ⟨k, rfl⟩ := h
  have hd : (q.den : Int) ≠ 0 := by have := q.den_nz; omega
  have e : (((q.den * k : Nat) : Int) / (q.den : Int)) = (k : Int) := by rw [Int.natCast_mul, Int.mul_ediv_cancel_left _ hd]
  rw [e]
  have h1 : q * (q.den : Rat) = (q.num : Rat) := by
    have h2 := Rat.num_divInt_den q
    rw [Rat.divInt_eq_div] at h2
    have h3 : ((q.den : Int) : Rat) ≠ 0 := by exact_mod_cast hd
    have h4 : ((q.den : Int) : Rat) = (q.den : Rat) := rfl
    rw [h4] at h2 h3
    grind
  have h5 : ((q.den * k : Nat) : Rat) = (q.den : Rat) * (k : Rat) := Rat.natCast_mul _ _
  rw [h5, Rat.intCast_mul]
  have h6 : (((k : Nat) : Int) : Rat) = (k : Rat) := rfl
  rw [h6]
  grind
theorem ints_get {qs : List Rat} {i : Nat} : ∀ q, qs[i]? = some q → ∃ z, (intsR qs)[i]? = some z ∧ (z : Rat) = q * (lcmD qs : Rat) := by
  intro q hq
  refine ⟨_, by unfold intsR; rw [List.getElem?_map, hq]; rfl, ?_⟩
  exact int_of q (den_dvd (List.mem_of_getElem? hq))
/-! ### rows of whole numbers -/
def gcdL (row : List Int) : Nat := row.foldl (fun c n => if n ≠ 0 then Nat.gcd c n.natAbs else c) 0
def bare (row : List Int) : List Int := if 1 < gcdL row then row.map (· / (gcdL row : Int)) else row
def at0 (row : List Int) (p : Nat) : Int := row.getD p 0
def clear (row head : List Int) (p : Nat) : List Int := if at0 row p = 0 then row else bare (List.zipWith (fun n f => at0 head p * n - at0 row p * f) row head)
def firstAt (rows : List (List Int)) (p : Nat) : Option Nat := rows.findIdx? fun r => at0 r p != 0
def headed (row : List Int) (p : Nat) : List Int := if 0 < at0 (bare row) p then bare row else (bare row).map (0 - ·)
structure Two where
  left : List (List Int)
  found : List (List Int)
def turn1 (s : Two) (p : Nat) : Two := match firstAt s.left p with
  | none => s
  | some i => ⟨(s.left.take i ++ s.left.drop (i + 1)).map fun r => clear r (headed (s.left.getD i []) p) p, s.found.map (fun r => clear r (headed (s.left.getD i []) p) p) ++ [headed (s.left.getD i []) p]⟩
def stepsTo (rows : List (List Int)) (k : Nat) : Two := (List.range k).foldl turn1 ⟨rows, []⟩
def wideOf (rows : List (List Int)) : Nat := match rows with
  | [] => 0
  | r :: _ => r.length
def intSteps (rows : List (List Int)) : List (List Int) := (stepsTo rows (wideOf rows)).found
def headOf (row : List Int) : Nat := row.findIdx (· != 0)
def told (rows : List (List Int)) : List (List Rat) := rows.map fun row => row.map fun n => Rat.divInt n (at0 row (headOf row))
def stepsOf (rows : List (List Rat)) : List (List Rat) := told (intSteps (rows.map intsR))
/-- all entries below 2 ^ b -/
def Lt (b : Nat) (row : List Int) : Prop := ∀ z ∈ row, z.natAbs < 2 ^ b
theorem Lt.mono {a b : Nat} {row : List Int} (h : Lt a row) (k : a ≤ b) : Lt b row := fun z hz => lt_up (h z hz) k
theorem at0_mem {row : List Int} {p : Nat} (h : at0 row p ≠ 0) : at0 row p ∈ row := by
  unfold at0 at h ⊢
  by_cases hp : p < row.length
  · rw [List.getD_eq_getElem?_getD, List.getElem?_eq_getElem hp]; simp
  · rw [List.getD_eq_getElem?_getD, List.getElem?_eq_none (by omega)] at h; simp at h
theorem Lt.at0 {b : Nat} {row : List Int} (h : Lt b row) (p : Nat) : (at0 row p).natAbs < 2 ^ b := by
  by_cases e : K28.at0 row p = 0
  · rw [e]; exact Nat.two_pow_pos b
  · exact h _ (at0_mem e)
theorem gcd_fold_dvd : ∀ (row : List Int) (c : Nat), (row.foldl (fun c n => if n ≠ 0 then Nat.gcd c n.natAbs else c) c ∣ c) ∧ ∀ z ∈ row, row.foldl (fun c n => if n ≠ 0 then Nat.gcd c n.natAbs else c) c ∣ z.natAbs := by
  intro row
  induction row with
  | nil => intro c; exact ⟨Nat.dvd_refl _, fun z hz => by cases hz⟩
  | cons n row ih =>
    intro c
    rw [List.foldl_cons]
    by_cases h : n = 0
    · rw [if_neg (by simp [h])]
      refine ⟨(ih c).1, fun z hz => ?_⟩
      rcases List.mem_cons.mp hz with rfl | hz
      · rw [h]; exact Nat.dvd_zero _
      · exact (ih c).2 z hz
    · rw [if_pos h]
      refine ⟨Nat.dvd_trans (ih _).1 (Nat.gcd_dvd_left _ _), fun z hz => ?_⟩
      rcases List.mem_cons.mp hz with rfl | hz
      · exact Nat.dvd_trans (ih _).1 (Nat.gcd_dvd_right _ _)
      · exact (ih _).2 z hz
theorem gcdL_dvd {row : List Int} {z : Int} (h : z ∈ row) : gcdL row ∣ z.natAbs := (gcd_fold_dvd row 0).2 z h
theorem gcdL_zero {row : List Int} (h : ∀ z ∈ row, z = 0) : gcdL row = 0 := by
  unfold gcdL
  have : ∀ (l : List Int), (∀ z ∈ l, z = 0) → l.foldl (fun c n => if n ≠ 0 then Nat.gcd c n.natAbs else c) 0 = 0 := by
    intro l
    induction l with
    | nil => intro _; rfl
    | cons n l ih =>
      intro h
      rw [List.foldl_cons, if_neg (by simp [h n (List.mem_cons_self ..)])]
      exact ih fun z hz => h z (List.mem_cons_of_mem _ hz)
  exact this row h
theorem gcdL_lt {row : List Int} {b : Nat} (h : Lt b row) : gcdL row < 2 ^ b := by
  by_cases e : ∀ z ∈ row, z = 0
  · rw [gcdL_zero e]; exact Nat.two_pow_pos b
  · have ⟨z, hz⟩ := Classical.not_forall.mp e
    obtain ⟨h1, h2⟩ := Classical.not_imp.mp hz
    exact Nat.lt_of_le_of_lt (Nat.le_of_dvd (by omega) (gcdL_dvd h1)) (h z h1)
theorem lt_bare {b : Nat} {row : List Int} (h : Lt b row) : Lt b (bare row) := by
  unfold bare
  split
  · intro z hz
    obtain ⟨y, hy, rfl⟩ := List.mem_map.mp hz
    refine Nat.lt_of_le_of_lt ?_ (h y hy)
    rw [Int.natAbs_ediv_of_dvd (Int.natAbs_dvd_natAbs.mp (by rw [Int.natAbs_natCast]; exact gcdL_dvd hy)), Int.natAbs_natCast]
    exact Nat.div_le_self _ _
  · exact h
theorem lt_mix {b p : Nat} {row head : List Int} (h : Lt b row) (k : Lt b head) : Lt (b + b + 1) (List.zipWith (fun n f => at0 head p * n - at0 row p * f) row head) := by
  intro z hz
  rw [List.mem_iff_getElem] at hz
  obtain ⟨i, hi, rfl⟩ := hz
  rw [List.getElem_zipWith]
  exact abs_sub_lt (abs_mul_lt (k.at0 p) (h _ (List.getElem_mem _))) (abs_mul_lt (h.at0 p) (k _ (List.getElem_mem _)))
theorem lt_clear {b p : Nat} {row head : List Int} (h : Lt b row) (k : Lt b head) : Lt (b + b + 1) (clear row head p) := by
  unfold clear
  split
  · exact h.mono (by omega)
  · exact lt_bare (lt_mix h k)
theorem lt_headed {b p : Nat} {row : List Int} (h : Lt b row) : Lt b (headed row p) := by
  unfold headed
  split
  · exact lt_bare h
  · intro z hz
    obtain ⟨y, hy, rfl⟩ := List.mem_map.mp hz
    have := lt_bare h y hy
    omega
theorem len_bare (row : List Int) : (bare row).length = row.length := by unfold bare; split <;> simp
theorem len_clear {row head : List Int} (h : row.length = head.length) (p : Nat) : (clear row head p).length = row.length := by
  unfold clear
  split
  · rfl
  · rw [len_bare, List.length_zipWith, ← h, Nat.min_self]
theorem len_headed (row : List Int) (p : Nat) : (headed row p).length = row.length := by unfold headed; split <;> simp [len_bare]
/-- rows alike long, with entries so small -/
def Okr (n b : Nat) (rows : List (List Int)) : Prop := ∀ r ∈ rows, r.length = n ∧ Lt b r
theorem okr_turn {n b p : Nat} {s : Two} (h1 : Okr n b s.left) (h2 : Okr n b s.found) : Okr n (b + b + 1) (turn1 s p).left ∧ Okr n (b + b + 1) (turn1 s p).found := by
  unfold turn1
  cases e : firstAt s.left p with
  | none => exact ⟨fun r hr => ⟨(h1 r hr).1, (h1 r hr).2.mono (by omega)⟩, fun r hr => ⟨(h2 r hr).1, (h2 r hr).2.mono (by omega)⟩⟩
  | some i =>
    have hi : i < s.left.length := by
      unfold firstAt at e
      exact (List.findIdx?_eq_some_iff_getElem.mp e).1
    have hd : (s.left.getD i []).length = n ∧ Lt b (s.left.getD i []) := by
      rw [List.getD_eq_getElem?_getD, List.getElem?_eq_getElem hi]
      exact h1 _ (List.getElem_mem hi)
    have hh : (headed (s.left.getD i []) p).length = n ∧ Lt b (headed (s.left.getD i []) p) := ⟨by rw [len_headed]; exact hd.1, lt_headed hd.2⟩
    have one : ∀ r, r.length = n ∧ Lt b r → (clear r (headed (s.left.getD i []) p) p).length = n ∧ Lt (b + b + 1) (clear r (headed (s.left.getD i []) p) p) := fun r hr => ⟨by rw [len_clear (by rw [hr.1, hh.1])]; exact hr.1, lt_clear hr.2 hh.2⟩
    constructor
    · intro r hr
      obtain ⟨y, hy, rfl⟩ := List.mem_map.mp hr
      refine one y (h1 y ?_)
      rcases List.mem_append.mp hy with hy | hy
      · exact List.mem_of_mem_take hy
      · exact List.mem_of_mem_drop hy
    · intro r hr
      rcases List.mem_append.mp hr with hr | hr
      · obtain ⟨y, hy, rfl⟩ := List.mem_map.mp hr
        exact one y (h2 y hy)
      · rw [List.mem_singleton.mp hr]
        exact ⟨hh.1, hh.2.mono (by omega)⟩
theorem stepsTo_succ (rows : List (List Int)) (k : Nat) : stepsTo rows (k + 1) = turn1 (stepsTo rows k) k := by
  unfold stepsTo
  rw [List.range_succ, List.foldl_append]; rfl
theorem okr_steps {n b : Nat} {rows : List (List Int)} (h : Okr n b rows) : ∀ k, ∃ c, c + 1 = 2 ^ k * (b + 1) ∧ Okr n c (stepsTo rows k).left ∧ Okr n c (stepsTo rows k).found := by
  intro k
  induction k with
  | zero => exact ⟨b, by simp, h, fun r hr => by cases hr⟩
  | succ k ih =>
    obtain ⟨c, e, h1, h2⟩ := ih
    refine ⟨c + c + 1, by rw [Nat.pow_succ]; grind, ?_⟩
    rw [stepsTo_succ]
    exact okr_turn h1 h2
theorem len_turn (s : Two) (p : Nat) : (turn1 s p).left.length ≤ s.left.length ∧ (turn1 s p).found.length + (turn1 s p).left.length = s.found.length + s.left.length := by
  unfold turn1
  cases e : firstAt s.left p with
  | none => exact ⟨Nat.le_refl _, rfl⟩
  | some i =>
    have hi : i < s.left.length := by
      unfold firstAt at e
      exact (List.findIdx?_eq_some_iff_getElem.mp e).1
    simp
    omega
theorem len_steps (rows : List (List Int)) (k : Nat) : (stepsTo rows k).found.length + (stepsTo rows k).left.length = rows.length := by
  induction k with
  | zero => simp [stepsTo]
  | succ k ih => rw [stepsTo_succ, (len_turn _ _).2, ih]
end K28
end
section
set_option Elab.async false
set_option linter.all false
set_option maxRecDepth 100000
set_option maxHeartbeats 4000000
set_option autoImplicit false
namespace K28
/-! ### the tables' mirror -/
def SqX {α : Type} (n : Nat) (t : List (List α)) : Prop := t.length = n ∧ ∀ r ∈ t, r.length = n
def ent (t : List (List Rat)) (i j : Nat) : Rat := (t.getD i []).getD j 0
def intsD (D : Nat) (qs : List Rat) : List Int := qs.map fun q => q.num * ((D : Int) / (q.den : Int))
def bareT (t : List (List Rat)) : List (List Int) := t.map (intsD (lcmD t.flatten))
def iprod (rows others : List (List Int)) : List (List Int) := rows.map fun row => (List.range (wideOf others)).map fun to => (List.zipWith (fun n line => n * at0 line to) row others).sum
def overB (rows : List (List Int)) (D : Int) : List (List Rat) := rows.map fun row => row.map fun n => Rat.divInt n D
def idleT (n : Nat) : List (List Rat) := (List.range n).map fun i => (List.range n).map fun j => (((if i = j then 1 else 0 : Int)) : Rat)
def prodT (t u : List (List Rat)) : List (List Rat) := overB (iprod (bareT t) (bareT u)) ((lcmD t.flatten : Int) * (lcmD u.flatten : Int))
def sumR (qs : List Rat) : Rat := qs.foldl (· + ·) 0
def trT (t : List (List Rat)) : Rat := sumR ((List.range t.length).map fun i => ent t i i)
def aboT (t : List (List Rat)) : List (List Rat) := (List.range t.length).map fun p => t.map fun row => row.getD p 0
def sgn (n : Nat) (row : List Rat) : Bool := ((row.take n).map fun q => !decide (q.num.sign = 0)).any id
def wideT (t : List (List Rat)) : List (List Rat) := List.zipWith (· ++ ·) t (idleT t.length)
def undF (t : List (List Rat)) : List (List Rat) := (stepsOf (wideT t)).filter (sgn t.length)
def undT (t : List (List Rat)) : List (List Rat) := (undF t).map (·.drop t.length)
theorem flat_cut {α : Type} {w : Nat} : ∀ {t : List (List α)} (i : Nat) {row : List α}, (∀ r ∈ t, r.length = w) → t[i]? = some row → (t.flatten.drop (i * w)).take w = row
  | [], i, row, _, h => by simp at h
  | r :: t, 0, row, hw, h => by
    simp at h
    subst h
    have := hw r (List.mem_cons_self ..)
    simp [this]
  | r :: t, i + 1, row, hw, h => by
    simp at h
    have h1 := hw r (List.mem_cons_self ..)
    rw [List.flatten_cons, show (i + 1) * w = r.length + i * w by rw [h1]; grind, List.drop_append, List.drop_eq_nil_of_le (by omega), List.nil_append, show r.length + i * w - r.length = i * w by omega]
    exact flat_cut i (fun r hr => hw r (List.mem_cons_of_mem _ hr)) h
theorem len_flat {α : Type} {w : Nat} : ∀ {t : List (List α)}, (∀ r ∈ t, r.length = w) → t.flatten.length = t.length * w
  | [], _ => by simp
  | r :: t, hw => by
    rw [List.flatten_cons, List.length_append, len_flat (t := t) fun r hr => hw r (List.mem_cons_of_mem _ hr), hw r (List.mem_cons_self ..), List.length_cons]
    grind
theorem intsR_eq (qs : List Rat) : intsR qs = intsD (lcmD qs) qs := rfl
theorem ints_cut {w : Nat} {t : List (List Rat)} (i : Nat) {row : List Rat} (hw : ∀ r ∈ t, r.length = w) (h : t[i]? = some row) : ((intsR t.flatten).drop (i * w)).take ((i + 1) * w - i * w) = intsD (lcmD t.flatten) row := by
  rw [intsR_eq]
  unfold intsD
  rw [← List.map_drop, ← List.map_take, show (i + 1) * w - i * w = w by grind, flat_cut i hw h]
theorem bd_bare {d e : Nat} {t : List (List Rat)} (h : Bd d e t.flatten) : ∀ r ∈ bareT t, Lt e r := fun r hr z hz => by
  obtain ⟨row, hrow, rfl⟩ := List.mem_map.mp hr
  refine h.intsR z ?_
  rw [intsR_eq]
  obtain ⟨q, hq, rfl⟩ := List.mem_map.mp hz
  exact List.mem_map.mpr ⟨q, List.mem_flatten.mpr ⟨row, hrow, hq⟩, rfl⟩
theorem sq_bare {n : Nat} {t : List (List Rat)} (h : SqX n t) : SqX n (bareT t) := ⟨by unfold bareT; rw [List.length_map]; exact h.1, fun r hr => by
  obtain ⟨row, hrow, rfl⟩ := List.mem_map.mp hr
  unfold intsD
  rw [List.length_map]
  exact h.2 row hrow⟩
theorem sq_idle (n : Nat) : SqX n (idleT n) := ⟨by unfold idleT; simp, fun r hr => by
  unfold idleT at hr
  obtain ⟨i, hi, rfl⟩ := List.mem_map.mp hr
  simp⟩
theorem wideOf_sq {n : Nat} {t : List (List Int)} (h : SqX n t) (hn : 1 ≤ n) : wideOf t = n := by
  cases t with
  | nil => exact absurd h.1 (by simp; omega)
  | cons r t => exact h.2 r (List.mem_cons_self ..)
end K28
end
section
set_option Elab.async false
set_option linter.all false
set_option maxRecDepth 100000
set_option maxHeartbeats 4000000
set_option autoImplicit false
namespace K28
theorem wideOf_prod {n : Nat} {t u : List (List Rat)} (h : SqX n t) (h' : SqX n u) (hn : 1 ≤ n) : SqX n (prodT t u) := by
  unfold prodT overB iprod
  refine ⟨by rw [List.length_map, List.length_map]; exact (sq_bare h).1, fun r hr => ?_⟩
  obtain ⟨q, hq, rfl⟩ := List.mem_map.mp hr
  obtain ⟨p, hp, rfl⟩ := List.mem_map.mp hq
  rw [List.length_map, List.length_map, List.length_range, wideOf_sq (sq_bare h') hn]
/-- the table of a word -/
def wtab (n : Nat) (ls : List (List (List Rat))) (w : List Nat) : List (List Rat) := w.foldl (fun t k => prodT t (ls.getD k [])) (idleT n)
theorem wtab_snoc (n : Nat) (ls : List (List (List Rat))) (w : List Nat) (k : Nat) : wtab n ls (w ++ [k]) = prodT (wtab n ls w) (ls.getD k []) := by
  unfold wtab; rw [List.foldl_append]; rfl
theorem getD_mem {α : Type} {l : List α} {k : Nat} {d : α} (h : k < l.length) : l.getD k d ∈ l ∧ l[k]? = some (l.getD k d) := by
  rw [List.getD_eq_getElem?_getD, List.getElem?_eq_getElem h]
  exact ⟨List.getElem_mem h, rfl⟩
theorem sq_wtab {n : Nat} {ls : List (List (List Rat))} (hn : 1 ≤ n) (h : ∀ t ∈ ls, SqX n t) : ∀ (w : List Nat), (∀ k ∈ w, k < ls.length) → SqX n (wtab n ls w) := by
  intro w
  have : ∀ (l : List Nat) (t : List (List Rat)), SqX n t → (∀ k ∈ l, k < ls.length) → SqX n (l.foldl (fun t k => prodT t (ls.getD k [])) t) := by
    intro l
    induction l with
    | nil => intro t ht _; exact ht
    | cons k l ih => intro t ht hk; exact ih _ (wideOf_prod ht (h _ (getD_mem (hk k (List.mem_cons_self ..))).1) hn) fun j hj => hk j (List.mem_cons_of_mem _ hj)
  exact this w _ (sq_idle n)
/-- the word's tables are small on the way -/
def Wb (d e n : Nat) (ls : List (List (List Rat))) (w : List Nat) : Prop := (∀ t ∈ ls, Bd d e t.flatten) ∧ ∀ i, Bd d e (wtab n ls (w.take i)).flatten
def onT (t u : List (List Rat)) : List (List Rat) := t.map (· ++ List.replicate u.length 0) ++ u.map (List.replicate t.length 0 ++ ·)
def ledT (p q : List (List Rat)) (t : List (List Rat)) : List (List Rat) := prodT (prodT p t) q
end K28
end
section
set_option Elab.async false
set_option linter.all false
set_option maxRecDepth 100000
set_option maxHeartbeats 4000000
set_option autoImplicit false
namespace K28
def leftOf (steps : List (List Int)) (row : List Int) : List Int := steps.foldl (fun l st => clear l st (headOf st)) row
structure Bw where
  rows : List (List Int)
  lon : List (List Nat × List (List Rat))
def lateOf (ls : List (List (List Rat))) (t : List (List Rat)) (k : Nat) : List (List Rat) := prodT t (ls.getD k [])
def rowOf (ls : List (List (List Rat))) (rows : List (List Int)) (t : List (List Rat)) (k : Nat) : List Int := leftOf rows (intsR (lateOf ls t k).flatten)
def bwTry (ls : List (List (List Rat))) (x : List Nat × List (List Rat)) (s : Bw) (k : Nat) : Bw :=
  if (rowOf ls s.rows x.2 k).any (fun i => i != 0) then ⟨s.rows ++ [bare (rowOf ls s.rows x.2 k)], s.lon ++ [(x.1 ++ [k], lateOf ls x.2 k)]⟩ else s
def bwWordK (ls : List (List (List Rat))) (s : Bw) (x : List Nat × List (List Rat)) (k : Nat) : Bw := (List.range k).foldl (bwTry ls x) s
def bwWord (ls : List (List (List Rat))) (s : Bw) (x : List Nat × List (List Rat)) : Bw := bwWordK ls s x ls.length
def bwLayer (ls : List (List (List Rat))) (rows : List (List Int)) (last : List (List Nat × List (List Rat))) : Bw := last.foldl (bwWord ls) ⟨rows, []⟩
/-- what one try asks -/
structure TryOk (n : Nat) (ls : List (List (List Rat))) (rows : List (List Int)) (t : List (List Rat)) (k : Nat) : Prop where
  sq : SqX n t
  bd : ∃ d e, d + d ≤ 8999 ∧ e ≤ 400000 ∧ Bd d e t.flatten ∧ Bd d e (ls.getD k []).flatten ∧ Bd d e (lateOf ls t k).flatten
  st : ∀ r ∈ rows, r.length = n * n ∧ headOf r < r.length ∧ Lt 4499 r
  lt : ∀ i, Lt 4499 (leftOf (rows.take i) (intsR (lateOf ls t k).flatten))
  few : rows.length ≤ 1000
inductive Runs (n : Nat) (ls : List (List (List Rat))) : Nat → List (List Nat × List (List Rat)) → List (List Int) → List (List Nat × List (List Rat)) → List (List Nat × List (List Rat)) → Prop
  | stop {m found rows} : Runs n ls m found rows [] found
  | turn {m found rows last B} : last ≠ [] → last.length ≤ 1000 → (∀ x ∈ last, x.1.length ≤ 1000) →
      (∀ i x, last[i]? = some x → ∀ k, k < ls.length → TryOk n ls (bwWordK ls ((last.take i).foldl (bwWord ls) ⟨rows, []⟩) x k).rows x.2 k) →
      found.length + (bwLayer ls rows last).lon.length ≤ 1000 →
      Runs n ls m (found ++ (bwLayer ls rows last).lon) (bwLayer ls rows last).rows (bwLayer ls rows last).lon B →
      Runs n ls (m + 1) found rows last B
theorem len_left {n : Nat} : ∀ {steps : List (List Int)} {row : List Int}, (∀ s ∈ steps, s.length = n) → row.length = n → (leftOf steps row).length = n
  | [], row, _, h => h
  | s :: steps, row, hs, h => by
    show (leftOf steps (clear row s (headOf s))).length = n
    refine len_left (fun s' hs' => hs s' (List.mem_cons_of_mem _ hs')) ?_
    rw [len_clear (by rw [h, hs s (List.mem_cons_self ..)])]; exact h
theorem bwWordK_succ (ls : List (List (List Rat))) (s : Bw) (x : List Nat × List (List Rat)) (k : Nat) : bwWordK ls s x (k + 1) = bwTry ls x (bwWordK ls s x k) k := by
  unfold bwWordK
  rw [List.range_succ, List.foldl_append]; rfl
theorem bd_idle (n : Nat) : Bd 1 1 (idleT n).flatten := by
  refine ⟨1, by decide, by decide, fun q hq => ?_⟩
  obtain ⟨r, hr, hq⟩ := List.mem_flatten.mp hq
  unfold idleT at hr
  obtain ⟨i, _, rfl⟩ := List.mem_map.mp hr
  obtain ⟨j, _, rfl⟩ := List.mem_map.mp hq
  rw [Rat.den_intCast, Rat.num_intCast]
  refine ⟨Nat.one_dvd _, ?_⟩
  split <;> decide
end K28
end
section
set_option Elab.async false
set_option linter.all false
set_option maxRecDepth 100000
set_option maxHeartbeats 4000000
set_option autoImplicit false
namespace K28
open PySem L2
/-! ### calls by keywords alone -/
structure CalN (P : Program) (w : World) (K : PySem.W.Frag) (mg : Str → Option Value) (base : Heap) (x : Str) (k : Nat) (ps ks : List Str) (gV : List V → List V → List V) (sp : Sp) : Prop where
  ex : ∃ f fd g, mg x = some (.ref f) ∧ PySem.W.keepIn K (.ref f) = true ∧ KBn K fd ps 0 ks g gV ∧ FnOk P w K mg base CX0 k f fd ps sp
theorem pe_caln {X : Cx} {x : Str} {k : Nat} {ps ks : List Str} {gV : List V → List V → List V} {sp : Sp} {kws : List Keyword} {tk : TA} {p pos : Pos} (c : CalN X.prog X.w X.K X.mg X.base x k ps ks gV sp) (hr : Room k X.A) (hg : Gl X x) (hkw : PK X kws tk)
    (hall : (backToKw pos (keywordEach kws X.env)).all (·.1.isSome) = true := by rfl) (hks : (backToKw pos (keywordEach kws X.env)).filterMap (·.1) = ks := by rfl) (hdb : (x == ("__debug__" : Str)) = false := by decide)
    (hpl : ((backTo pos (starEach [] X.env)).any (·.1) || (backToKw pos (keywordEach kws X.env)).any (·.1.isNone)) = false := by rfl) :
    PE X (.Call (.Name x p) [] kws pos) (tCallN 0 ks.length sp gV E0 tNil tk) := by
  refine ⟨fun pins s σ H Q I h => ?_⟩
  obtain ⟨f, fd, g, hm, hk, hb, F⟩ := c.ex
  refine wpAny_Call_Name_kw (ld_glob I hg hm ?_ hdb)
  refine PySem.W.callWith_KW0 (h₀ := X.base) I.ok.mod.kin hk hall ?_ hpl
  refine thn (hkw.run pos pins s σ H _ I h) fun ws s2 ⟨zs, H2, I2, rz, l1, l2, q2⟩ => ⟨I2.kIn, ?_⟩
  rw [hks]
  exact run_fnN (us := []) (vs := []) F hr hb pass0 I2 .nil rz rfl l2 q2
theorem kbn_of {K : PySem.W.Frag} {x qual : Str} {params : Arguments} {body : List Stmt} {scope : Scope} {f : Addr} {fd : FuncData} {ps ks : List Str} (F : FunD K x qual params body scope [] [] f fd) (g : {α : Type} → List α → List α)
    (hrel : ∀ {zs : List V} {ws : List Value}, Vals zs ws → Vals (g zs) (g ws))
    (h : ∀ (kV doc pm : Value) (an : Option Addr) (cdv ct : Value) (ws : List Value), ws.length = ks.length → bindArgs (PySem.W.fnOf x qual params body scope .none kV doc pm an cdv ct) ⟨[], ks.zip ws⟩ = pure (ps.zip (g ws))) : KBn K fd ps 0 ks (fun _ ws => g ws) (fun _ zs => g zs) := by
  obtain ⟨oc, od, dV, kV, doc, pm, an, cdv, ct, osl, rfl, lk, hcd, hD, hK⟩ := F.ex
  rcases hD with ⟨_, rfl⟩ | ⟨e, _⟩
  · refine ⟨fun s us ws X l1 l2 => ?_, fun _ r => hrel r⟩
    have e : us = [] := List.eq_nil_of_length_eq_zero l1
    subst e
    exact .of_eq (h kV doc pm an cdv ct ws l2)
  · exact absurd rfl e
theorem ev_caln {A : List V → Hp → Hp → HP → Prop} {t : TA} {E : XK} {PL : Hp → List V → Prop} {P : HP} {σ : St} {G : Hp} {m : Nat} {gV : List V → List V → List V} (h : EvA t σ G PL) (hm : ∀ G' vs, PL G' vs → vs.length = m) (k : ∀ G' H' vs, Same G G' → Same G' H' → PL G' vs → A (gV [] vs) G' H' P) : Ev (tCallN 0 m (spP A) gV E tNil t) σ G P := fun H hh Q q =>
  h H hh _ fun vs G1 H1 s p => ⟨rfl, hm _ _ p, G1, P, s.gh, k G1 H1 vs s.gg s.gh p, fun v G2 H2 s2 p2 => q v G2 H2 (s.trans s2) p2⟩
/-! ### a pot at p, that changes -/
def Pt (p : Addr) (H : Hp) : Prop := ∃ a b : Int, H p = some (.lst [.int a, .int b]) ∧ 0 ≤ a ∧ 0 ≤ b ∧ b < 2147483564
structure StD (p : Addr) (G H G' H' : Hp) : Prop where
  gg : Same G G'
  gh : Same G' H'
  gp : G' p = none
  pt : Pt p H'
  hh : ∀ b o, b ≠ p → H b = some o → H' b = some o
  fr : ∀ a o, G a = none → G' a = some o → H a = none
section
variable {p q : Addr} {G H G1 H1 G2 H2 G0 H0 G' H' : Hp} {α β : Type} {r : α → HP} {s : β → HP} {xs ys : List α} {x : α}
theorem StD.refl (h : Same G H) (gp : G p = none) (pt : Pt p H) : StD p G H G H := ⟨.refl _, h, gp, pt, fun _ _ _ e => e, fun a o e e' => by rw [e] at e'; cases e'⟩
theorem StD.trans (a : StD p G H G1 H1) (b : StD p G1 H1 G2 H2) : StD p G H G2 H2 := by
  refine ⟨a.gg.trans b.gg, b.gh, b.gp, b.pt, fun x o n e => b.hh x o n (a.hh x o n e), fun x o e e' => ?_⟩
  cases q : G1 x with
  | some u => exact a.fr x u e q
  | none =>
    have h1 := b.fr x o q e'
    cases z : H x with
    | none => rfl
    | some u =>
      by_cases n : x = p
      · subst n; rw [b.gp] at e'; cases e'
      · rw [a.hh x u n z] at h1; cases h1
theorem Stp.toD (st : Stp G H G' H') (gp : G p = none) (pt : Pt p H) : StD p G H G' H' := by
  obtain ⟨a, b, e, h0, h1, h2⟩ := pt
  obtain ⟨k1, k2⟩ := st.keep gp e
  exact ⟨st.gg, st.gh, k1, ⟨a, b, k2, h0, h1, h2⟩, fun b o _ e => st.hh b o e, st.fr⟩
theorem StD.andS (a : StD p G H G1 H1) (b : Stp G1 H1 G2 H2) : StD p G H G2 H2 := a.trans (b.toD a.gp a.pt)
theorem StD.free (a : StD p G H G1 H1) (n : q ≠ p) (h : H1 q = none) : H q = none := by
  cases z : H q with
  | none => rfl
  | some u => rw [a.hh q u n z] at h; cases h
theorem Pt.ne (pt : Pt p H) (h : H q = none) : q ≠ p := fun e => by
  obtain ⟨_, _, z, _⟩ := pt
  rw [← e, h] at z; cases z
theorem StD.wr {o : HO} (a : StD p G H G1 H1) (n : q ≠ p) (hq : H q = none) (gq : G1 q = none) : StD p G H G1 (upd H1 q o) := by
  refine ⟨a.gg, fun b u e => by rw [upd_ne (ne_of_none e gq)]; exact a.gh b u e, a.gp, ?_, fun b u nb e => by rw [upd_ne (ne_of_none e hq)]; exact a.hh b u nb e, a.fr⟩
  obtain ⟨x, y, e, h⟩ := a.pt
  exact ⟨x, y, by rw [upd_ne n.symm]; exact e, h⟩
/-- the pot itself -/
theorem StD.pot {x y : Int} (a : StD p G H G1 H1) (h0 : 0 ≤ x) (h1 : 0 ≤ y) (h2 : y < 2147483564) : StD p G H G1 (upd H1 p (.lst [.int x, .int y])) :=
  ⟨a.gg, fun b u e => by rw [upd_ne (ne_of_none e a.gp)]; exact a.gh b u e, a.gp, ⟨x, y, upd_same, h0, h1, h2⟩, fun b u nb e => by rw [upd_ne nb]; exact a.hh b u nb e, a.fr⟩
theorem StD.keep {o : HO} (a : StD p G H G1 H1) (n : q ≠ p) (gq : G q = none) (e : H q = some o) : G1 q = none ∧ H1 q = some o := by
  refine ⟨?_, a.hh _ _ n e⟩
  cases z : G1 q with
  | none => rfl
  | some u => have := a.fr q u gq z; rw [e] at this; cases this
theorem Own.stepD [∀ x, Mono (r x)] (o : Own r xs q G H) (n : q ≠ p) (a : StD p G H G' H') : Own r xs q G' H' := by
  obtain ⟨o1, us, o2, o3⟩ := o
  obtain ⟨k1, k2⟩ := a.keep n o1 o2
  exact ⟨k1, us, k2, paired_imp (fun _ _ => Mono.mono a.gg) o3⟩
/-- some of one's own things come to stand for good -/
theorem StD.frzL (a : StD p G0 H0 G H) (L : List Addr) (hL : ∀ q ∈ L, q ≠ p ∧ H0 q = none ∧ G q = none) : StD p G0 H0 (fun b => if b ∈ L then H b else G b) H ∧ Same G (fun b => if b ∈ L then H b else G b) := by
  have gg : Same G (fun b => if b ∈ L then H b else G b) := fun b o e => by
    show (if b ∈ L then H b else G b) = some o
    rw [if_neg fun z => by rw [(hL b z).2.2] at e; cases e]; exact e
  refine ⟨⟨a.gg.trans gg, fun b o e => ?_, ?_, a.pt, a.hh, fun b o e e' => ?_⟩, gg⟩
  · have e1 : (if b ∈ L then H b else G b) = some o := e
    split at e1
    · exact e1
    · exact a.gh b o e1
  · show (if p ∈ L then H p else G p) = none
    rw [if_neg fun z => (hL p z).1 rfl]; exact a.gp
  · have e1 : (if b ∈ L then H b else G b) = some o := e'
    split at e1
    · rename_i z; exact (hL b z).2.1
    · exact a.fr b o e e1
theorem Own.frzD [∀ x, Mono (r x)] (a : StD p G0 H0 G H) (n : q ≠ p) (hq : H0 q = none) (o : Own r xs q G H) : ∃ G', StD p G0 H0 G' H ∧ Same G G' ∧ rLst r xs G' (.ref q) ∧ ∀ b, b ≠ q → G' b = G b := by
  obtain ⟨o1, us, o2, o3⟩ := o
  obtain ⟨b1, b2⟩ := a.frzL [q] fun z hz => by rw [List.mem_singleton.mp hz]; exact ⟨n, hq, o1⟩
  refine ⟨_, b1, b2, ⟨q, us, rfl, ?_, paired_imp (fun _ _ => Mono.mono b2) o3⟩, fun b nb => ?_⟩
  · show (if q ∈ [q] then H q else G q) = _
    rw [if_pos (List.mem_singleton.mpr rfl)]; exact o2
  · show (if b ∈ [q] then H b else G b) = _
    rw [if_neg fun z => nb (List.mem_singleton.mp z)]
theorem Own.toG [∀ x, Mono (r x)] (o : Own r xs q G H) (g : Same G G') (e : G' q = none) : Own r xs q G' H := by
  obtain ⟨o1, us, o2, o3⟩ := o
  exact ⟨e, us, o2, paired_imp (fun _ _ => Mono.mono g) o3⟩
end
/-! what a reading gives, where the pot may change -/
def EvD (p : Addr) (te : TE) (σ : St) (G : Hp) (P : HP) : Prop := ∀ H, Same G H → G p = none → Pt p H → ∀ Q : VK, (∀ v G' H', StD p G H G' H' → P G' v → Q v H') → te σ H Q
def EvAD (p : Addr) (ta : TA) (σ : St) (G : Hp) (P : Hp → List V → Prop) : Prop := ∀ H, Same G H → G p = none → Pt p H → ∀ Q : List V → Hp → Prop, (∀ vs G' H', StD p G H G' H' → P G' vs → Q vs H') → ta σ H Q
def spD (A : List V → Addr → Hp → Hp → HP → Prop) : Sp := fun vs H Q _ => ∃ G R p, Same G H ∧ G p = none ∧ Pt p H ∧ A vs p G H R ∧ ∀ v G' H', StD p G H G' H' → R G' v → Q v H'
section
variable {p : Addr} {te ta tb tc : TE} {tt : TT} {σ : St} {G H G0 H0 : Hp} {P P1 P2 P3 : HP} {v : V} {b : Bool} {tz u1 u2 : TS} {D : Ends} {α : Type} {r : α → HP} {K : PySem.W.Frag}
theorem Ev.toD (h : Ev te σ G P) : EvD p te σ G P := fun H hh gp pt Q k => h H hh Q fun v G' H' s => k v G' H' (s.toD gp pt)
theorem EvD.imp (h : EvD p te σ G P) (k : ∀ G' v, Same G G' → P G' v → P1 G' v) : EvD p te σ G P1 := fun H hh gp pt Q q => h H hh gp pt Q fun v G' H' s e => q v G' H' s (k G' v s.gg e)
theorem evD_op {r : R2} [Mono P1] (ha : EvD p ta σ G P1) (hb : ∀ G', Same G G' → EvD p tb σ G' P2) (hr : ∀ G' H' x y Q, Same G G' → Same G' H' → P1 G' x → P2 G' y → (∀ v G2 H2, Stp G' H' G2 H2 → P G2 v → Q v H2) → r x y H' Q) : EvD p (tOp r ta tb) σ G P := fun H hh gp pt Q q =>
  ha H hh gp pt _ fun x G1 H1 s1 p1 => hb G1 s1.gg H1 s1.gh s1.gp s1.pt _ fun y G2 H2 s2 p2 => hr G2 H2 x y Q (s1.gg.trans s2.gg) s2.gh (Mono.mono s2.gg p1) p2 fun v G3 H3 s3 p3 => q v G3 H3 ((s1.trans s2).andS s3) p3
theorem eaD1 (h : EvD p ta σ G P1) : EvAD p (tCons ta tNil) σ G (p1 P1) := fun H hh gp pt Q q => h H hh gp pt _ fun v G1 H1 s p => q [v] G1 H1 s ⟨v, rfl, p⟩
theorem eaD2 [Mono P1] (h : EvD p ta σ G P1) (k : ∀ G', Same G G' → EvD p tb σ G' P2) : EvAD p (tCons ta (tCons tb tNil)) σ G (p2 P1 P2) := fun H hh gp pt Q q => h H hh gp pt _ fun v G1 H1 s p =>
  k G1 s.gg H1 s.gh s.gp s.pt _ fun w G2 H2 s2 p' => q [v, w] G2 H2 (s.trans s2) ⟨v, w, rfl, Mono.mono s2.gg p, p'⟩
theorem eaD3 [Mono P1] [Mono P2] (h : EvD p ta σ G P1) (k : ∀ G', Same G G' → EvD p tb σ G' P2) (k3 : ∀ G', Same G G' → EvD p tc σ G' P3) : EvAD p (tCons ta (tCons tb (tCons tc tNil))) σ G (p3 P1 P2 P3) := fun H hh gp pt Q q => h H hh gp pt _ fun v G1 H1 s p =>
  k G1 s.gg H1 s.gh s.gp s.pt _ fun w G2 H2 s2 p' => k3 G2 (s.gg.trans s2.gg) H2 s2.gh s2.gp s2.pt _ fun z G3 H3 s3 p'' => q [v, w, z] G3 H3 ((s.trans s2).trans s3) ⟨v, w, z, rfl, Mono.mono (s2.gg.trans s3.gg) p, Mono.mono s3.gg p', p''⟩
theorem evD_call {A : List V → Addr → Hp → Hp → HP → Prop} {t : TA} {E : XK} {PL : Hp → List V → Prop} (h : EvAD p t σ G PL) (k : ∀ G' H' vs, Same G G' → Same G' H' → PL G' vs → A vs p G' H' P) : EvD p (tCall (spD A) [] E t) σ G P := fun H hh gp pt Q q =>
  h H hh gp pt _ fun vs G1 H1 s pl => ⟨G1, P, p, s.gh, s.gp, s.pt, by rw [List.append_nil]; exact k G1 H1 vs s.gg s.gh pl, fun v G2 H2 s2 p2 => q v G2 H2 (s.trans s2) p2⟩
/-! statements -/
theorem qD_asg {i : Nat} (st : StD p G0 H0 G H) (h : EvD p te σ G P) (k : ∀ v G' H', StD p G H G' H' → P G' v → tz D (σ.set i (some v)) H') : tSeq (tAsg te (gName i)) tz D σ H := h H st.gh st.gp st.pt _ k
theorem sD_asg {i : Nat} (st : StD p G0 H0 G H) (h : EvD p te σ G P) (k : ∀ v G' H', StD p G H G' H' → P G' v → D.nx (σ.set i (some v)) H') : tAsg te (gName i) D σ H := h H st.gh st.gp st.pt _ k
theorem qD_ret (st : StD p G0 H0 G H) (h : EvD p te σ G P) (k : ∀ v G' H', StD p G H G' H' → P G' v → D.rt v H') : tRet te D σ H := h H st.gh st.gp st.pt _ k
theorem qD_par {i j : Nat} [Mono P1] (st : StD p G0 H0 G H) (h : EvD p ta σ G P1) (h2 : ∀ G', Same G G' → EvD p tb σ G' P2) (k : ∀ u w G' H', StD p G H G' H' → P1 G' u → P2 G' w → tz D ((σ.set i (some u)).set j (some w)) H') : tSeq (tPar i j (tCons ta (tCons tb tNil))) tz D σ H :=
  eaD2 h h2 H st.gh st.gp st.pt (fun vs H1 => ∃ v w, vs = [v, w] ∧ tz D ((σ.set i (some v)).set j (some w)) H1) fun vs G1 H1 s1 p => by
    obtain ⟨u, w, e, e1, e2⟩ := p
    exact ⟨u, w, e, k u w G1 H1 s1 e1 e2⟩
/-- xs, a = [], e -/
theorem qD_newP {i j : Nat} (st : StD p G0 H0 G H) (h : EvD p tb σ G P) (k : ∀ q w G' H', q ≠ p → H0 q = none → StD p G0 H0 G' H' → Same G G' → Own r [] q G' H' → P G' w → tz D ((σ.set i (some (.ref q))).set j (some w)) H') : tSeq (tPar i j (tCons (tLst tNil) (tCons tb tNil))) tz D σ H :=
  ⟨Nat.zero_le _, fun q hq => by
    have n := st.pt.ne hq
    have s1 : StD p G H G (upd H q (.lst [])) := (Stp.aside st.gh hq).toD st.gp st.pt
    refine h _ s1.gh s1.gp s1.pt _ fun w G2 H2 s2 e2 => ⟨_, _, rfl, ?_⟩
    obtain ⟨k1, k2⟩ := s2.keep n (st.gh.free hq) upd_same
    exact k q w G2 H2 n (st.free n hq) ((st.trans s1).trans s2) s2.gg ⟨k1, [], k2, .nil⟩ e2⟩
theorem qD_parN {i j : Nat} (st : StD p G0 H0 G H) (h : EvD p ta σ G P) (k : ∀ w q G' H', q ≠ p → H0 q = none → StD p G0 H0 G' H' → Same G G' → P G' w → Own r [] q G' H' → tz D ((σ.set i (some w)).set j (some (.ref q))) H') [Mono P] : tSeq (tPar i j (tCons ta (tCons (tLst tNil) tNil))) tz D σ H :=
  h H st.gh st.gp st.pt _ fun w G1 H1 s1 e1 => ⟨Nat.zero_le _, fun q hq => by
    have n := s1.pt.ne hq
    exact ⟨_, _, rfl, k w q G1 _ n ((st.trans s1).free n hq) ((st.trans s1).andS (Stp.aside s1.gh hq)) s1.gg e1 ⟨s1.gh.free hq, [], upd_same, .nil⟩⟩⟩
theorem qD_new {i : Nat} (st : StD p G0 H0 G H) (k : ∀ q H', q ≠ p → H q = none → H0 q = none → StD p G0 H0 G H' → StD p G H G H' → Own r [] q G H' → tz D (σ.set i (some (.ref q))) H') : tSeq (tAsg (tLst tNil) (gName i)) tz D σ H :=
  ⟨Nat.zero_le _, fun q hq => by
    have n := st.pt.ne hq
    have s1 : StD p G H G (upd H q (.lst [])) := (Stp.aside st.gh hq).toD st.gp st.pt
    exact k q _ n hq (st.free n hq) (st.trans s1) s1 ⟨st.gh.free hq, [], upd_same, .nil⟩⟩
/-- what is written at q leaves the others -/
def RestD (p q : Addr) (G H G' H' : Hp) : Prop := Same G G' ∧ ∀ a o, a ≠ q → a ≠ p → G a = none → H a = some o → G' a = none ∧ H' a = some o
theorem Own.restD {β : Type} {s : β → HP} {zs : List β} [∀ x, Mono (s x)] {q a : Addr} {G' H' : Hp} (o : Own s zs a G H) (h : RestD p q G H G' H') (n : a ≠ q) (n' : a ≠ p) : Own s zs a G' H' := by
  obtain ⟨o1, us, o2, o3⟩ := o
  obtain ⟨k1, k2⟩ := h.2 a _ n n' o1 o2
  exact ⟨k1, us, k2, paired_imp (fun _ _ => Mono.mono h.1) o3⟩
theorem sD_grow {i : Nat} {q : Addr} {xs : List α} [∀ x, Mono (r x)] (st : StD p G0 H0 G H) (n : q ≠ p) (hq : H0 q = none) (o : Own r xs q G H) (e : σ[i]? = some (some (.ref q))) (h : EvD p te σ G P) (hl : xs.length < 100000)
    (k : ∀ v G' H1, StD p G H G' H1 → P G' v → ∃ x, r x G' v ∧ ∀ H', StD p G0 H0 G' H' → RestD p q G H G' H' → Own r (xs ++ [x]) q G' H' → D.nx σ H') : tDrop (tBM K "list" rAppend (tVar i) (tCons te tNil)) D σ H := by
  obtain ⟨o1, us, o2, o3⟩ := o
  refine ⟨_, e, .inl ⟨rfl, _, .inl (.inl o2)⟩, h H st.gh st.gp st.pt _ fun v G1 H1 s1 p1 => ?_⟩
  obtain ⟨k1, k2⟩ := s1.keep n o1 o2
  obtain ⟨x, hx, kx⟩ := k v G1 H1 s1 p1
  refine ⟨q, us, v, rfl, rfl, k2, sz_lt (by rw [paired_len o3]; exact hl), kx _ ((st.trans s1).wr n hq k1) ⟨s1.gg, fun a o na np ga ha => ?_⟩ ⟨k1, _, upd_same, paired_app (paired_imp (fun _ _ => Mono.mono s1.gg) o3) (.cons hx .nil)⟩⟩
  obtain ⟨z1, z2⟩ := s1.keep np ga ha
  exact ⟨z1, by rw [upd_ne na]; exact z2⟩
/-- for i in range(e) -/
theorem sD_range {g : TG} (st : StD p G0 H0 G H) (h : EvD p te σ G P) (k : ∀ v G' H', StD p G H G' H' → P G' v → tFor (iRng1 (tCons (tC v) tNil)) g u1 D σ H') : tFor (iRng1 (tCons te tNil)) g u1 D σ H := h H st.gh st.gp st.pt _ k
theorem qD_range {g : TG} (st : StD p G0 H0 G H) (h : EvD p te σ G P) (k : ∀ v G' H', StD p G H G' H' → P G' v → tSeq (tFor (iRng1 (tCons (tC v) tNil)) g u1) tz D σ H') : tSeq (tFor (iRng1 (tCons te tNil)) g u1) tz D σ H := h H st.gh st.gp st.pt _ k
theorem sD_for {wi : TI} {g : TG} {n : Nat} {Y : Nat → HP} (st : StD p G0 H0 G H) (hsrc : Src wi σ G n Y) (Inv : Nat → Hp → Hp → St → Prop) (mono : ∀ i G1 H1 G2 H2 σ, StD p G1 H1 G2 H2 → Inv i G1 H1 σ → Inv i G2 H2 σ)
    (h0 : Inv 0 G H σ)
    (turn : ∀ i G1 H1 σ1 x, i < n → StD p G0 H0 G1 H1 → Same G G1 → Inv i G1 H1 σ1 → Y i G1 x → ∀ (N : St → Hp → Prop), (∀ σ' G' H', StD p G0 H0 G' H' → Same G1 G' → Inv (i + 1) G' H' σ' → N σ' H') → g x σ1 H1 fun σ2 H2 => u1 { D with nx := N, ct := N, bk := D.nx } σ2 H2)
    (done : ∀ G1 H1 σ1, StD p G0 H0 G1 H1 → Same G G1 → Inv n G1 H1 σ1 → D.nx σ1 H1) : tFor wi g u1 D σ H := hsrc H st.gh _ fun J G1 H1 s1 hgo hstop => by
  have d1 : StD p G H G1 H1 := s1.toD st.gp st.pt
  refine ⟨fun i m σ2 H2 => m = n - i ∧ i ≤ n ∧ ∃ G2, StD p G0 H0 G2 H2 ∧ Same G1 G2 ∧ Inv i G2 H2 σ2, ⟨n, rfl, Nat.zero_le _, G1, st.trans d1, .refl _, mono 0 G H G1 H1 σ d1 h0⟩, ?_⟩
  rintro i m σ2 H2 ⟨rfl, hi, G2, s2, g2, inv⟩
  by_cases hlt : i < n
  · obtain ⟨hg, hy⟩ := hgo i G2 H2 hlt g2 s2.gh
    refine .inr ⟨hg, fun σ' H' => (i + 1 ≤ n ∧ ∃ G', StD p G0 H0 G' H' ∧ Same G1 G' ∧ Inv (i + 1) G' H' σ'), fun σ' H' h' => ⟨n - (i + 1), by omega, rfl, h'⟩, fun x H3 y => ?_⟩
    obtain ⟨G3, s3, y3⟩ := hy x H3 y
    have d3 : StD p G2 H2 G3 H3 := s3.toD s2.gp s2.pt
    exact turn i G3 H3 σ2 x hlt (s2.trans d3) ((s1.gg.trans g2).trans s3.gg) (mono i G2 H2 G3 H3 σ2 d3 inv) y3 _ fun σ' G' H' a b c => ⟨hlt, G', a, (g2.trans s3.gg).trans b, c⟩
  · have e : i = n := by omega
    subst e
    exact .inl ⟨hstop H2 (g2.trans s2.gh), done G2 H2 σ2 s2 (s1.gg.trans g2) inv⟩
theorem qD_for {wi : TI} {g : TG} {n : Nat} {Y : Nat → HP} (st : StD p G0 H0 G H) (hsrc : Src wi σ G n Y) (Inv : Nat → Hp → Hp → St → Prop) (mono : ∀ i G1 H1 G2 H2 σ, StD p G1 H1 G2 H2 → Inv i G1 H1 σ → Inv i G2 H2 σ)
    (h0 : Inv 0 G H σ)
    (turn : ∀ i G1 H1 σ1 x, i < n → StD p G0 H0 G1 H1 → Same G G1 → Inv i G1 H1 σ1 → Y i G1 x → ∀ (N : St → Hp → Prop), (∀ σ' G' H', StD p G0 H0 G' H' → Same G1 G' → Inv (i + 1) G' H' σ' → N σ' H') → g x σ1 H1 fun σ2 H2 => u1 { D with nx := N, ct := N, bk := tz D } σ2 H2)
    (done : ∀ G1 H1 σ1, StD p G0 H0 G1 H1 → Same G G1 → Inv n G1 H1 σ1 → tz D σ1 H1) : tSeq (tFor wi g u1) tz D σ H := sD_for (D := { D with nx := tz D }) st hsrc Inv mono h0 turn done
theorem src_rangeC {n : Nat} (hn : n ≤ 100000) : Src (iRng1 (tCons (tC (.int (n : Int))) tNil)) σ G n (fun i => rInt (i : Int)) := src_range (ea1 (ev_int)) hn
/-- the list is a new one -/
theorem ev_lcN {α : Type} {r : α → HP} {wi : TI} {g : TG} {vs : List Nat} {n : Nat} {Y : Nat → HP} [∀ x, Mono (r x)] (zs : List α) (hsrc : Src wi σ G n Y) (hz : zs.length = n) (hn : n ≤ 100000)
    (hb : ∀ i z G1 x, zs[i]? = some z → Same G G1 → Y i G1 x → Tgt g (wipe σ vs) G1 x (fun σ2 => wipe σ2 vs = wipe σ vs ∧ Ev te σ2 G1 (r z))) : Ev (tLc wi g tYes te vs) σ G (fun G' v => rLst r zs G' v ∧ ∃ a, v = .ref a ∧ G a = none) := fun H hh Q q =>
  hsrc H hh _ fun J G1 H1 s1 hgo hstop D hD => by
    have gD : G1 D = none := s1.gh.free hD
    refine ⟨fun i m H2 => m = n - i ∧ i ≤ n ∧ ∃ G2 us, Stp G1 H1 G2 H2 ∧ G2 D = none ∧ H2 D = some (.lst us) ∧ Paired (fun x u => r x G2 u) (zs.take i) us, ⟨n, rfl, Nat.zero_le _, G1, [], Stp.aside s1.gh hD, gD, upd_same, .nil⟩, ?_⟩
    rintro i m H2 ⟨rfl, hi, G2, us, s2, d1, d2, hp⟩
    by_cases hlt : i < n
    · obtain ⟨hg, hy⟩ := hgo i G2 H2 hlt s2.gg s2.gh
      have hzi : i < zs.length := by rw [hz]; exact hlt
      refine .inr ⟨hg, fun H' => (i + 1 ≤ n ∧ ∃ G2 us, Stp G1 H1 G2 H' ∧ G2 D = none ∧ H' D = some (.lst us) ∧ Paired (fun x u => r x G2 u) (zs.take (i + 1)) us), fun H' h' => ⟨n - (i + 1), by omega, rfl, h'⟩, fun x H3 y => ?_⟩
      obtain ⟨G3, s3, y3⟩ := hy x H3 y
      refine hb i zs[i] G3 x (List.getElem?_eq_getElem hzi) (s1.gg.trans (s2.gg.trans s3.gg)) y3 H3 s3.gh _ fun σ2 ⟨w1, w2⟩ => ⟨w1, ?_⟩
      show te σ2 H3 _
      refine w2 H3 s3.gh _ fun v G4 H4 s4 p4 => ?_
      obtain ⟨k1, k2⟩ := (s3.trans s4).keep d1 d2
      refine ⟨us, k2, sz_lt (by rw [paired_len hp, List.length_take]; omega), hlt, G4, us ++ [v], Stp.wr ((s2.trans s3).trans s4) hD k1, k1, upd_same, ?_⟩
      rw [List.take_succ_eq_append_getElem hzi]
      exact paired_app (paired_imp (fun _ _ => Mono.mono (s3.gg.trans s4.gg)) hp) (.cons p4 .nil)
    · have e : i = n := by omega
      subst e
      refine .inl ⟨hstop H2 (s2.gg.trans s2.gh), ?_⟩
      have hp' : Paired (fun x u => r x G2 u) zs us := by rw [← List.take_length (l := zs), hz]; exact hp
      have s2' := s2.frz hD d1 d2
      exact q _ _ _ (s1.trans s2') ⟨⟨D, us, rfl, upd_same, paired_imp (fun _ _ => Mono.mono (same_upd d1)) hp'⟩, D, rfl, s1.gg.free gD⟩
end
/-! lists written out -/
theorem evl_nil {σ : St} {G : Hp} : EvA tNil σ G (fun G' vs => Paired (fun (x : Int) u => rInt x G' u) [] vs) := fun H hh Q q => q [] G H (.refl hh) .nil
theorem evl_cons {ta : TE} {t : TA} {σ : St} {G : Hp} {z : Int} {zs : List Int} (h : Ev ta σ G (rInt z)) (k : ∀ G', Same G G' → EvA t σ G' (fun G' vs => Paired (fun (x : Int) u => rInt x G' u) zs vs)) : EvA (tCons ta t) σ G (fun G' vs => Paired (fun (x : Int) u => rInt x G' u) (z :: zs) vs) := fun H hh Q q =>
  h H hh _ fun v G1 H1 s1 e1 => k G1 s1.gg H1 s1.gh _ fun vs G2 H2 s2 e2 => q _ G2 H2 (s1.trans s2) (.cons e1 e2)
theorem evl_lst {t : TA} {σ : St} {G : Hp} {zs : List Int} (h : EvA t σ G (fun G' vs => Paired (fun (x : Int) u => rInt x G' u) zs vs)) (hl : zs.length ≤ 1000) : Ev (tLst t) σ G (rLst rInt zs) := fun H hh Q q =>
  h H hh _ fun vs G1 H1 s1 e1 => ⟨sz_of (by rw [paired_len e1]; omega), fun p hp => q _ _ _ (s1.trans (Stp.new s1.gh hp)) ⟨p, vs, rfl, upd_same, paired_imp (fun _ _ e => e) e1⟩⟩
theorem ev_negI {ta : TE} {σ : St} {G : Hp} {i : Int} (h : Ev ta σ G (rInt i)) : Ev (tUn (rU fun i => .int (-i)) ta) σ G (rInt (-i)) := (ev_un h).imp fun _ _ _ e => e
theorem q_parDep {ta tb : TE} {σ : St} {G H : Hp} {D : Ends} {tz : TS} {i j : Nat} {P1 : HP} {P2 : Hp → HP} (gh : Same G H) (h : Ev ta σ G P1) (h2 : ∀ G1, Same G G1 → Ev tb σ G1 (P2 G1)) (k : ∀ u w G1 H1 G2 H2, Stp G H G1 H1 → P1 G1 u → Stp G1 H1 G2 H2 → P2 G1 G2 w → tz D ((σ.set i (some u)).set j (some w)) H2) : tSeq (tPar i j (tCons ta (tCons tb tNil))) tz D σ H :=
  h H gh _ fun u G1 H1 s1 e1 => h2 G1 s1.gg H1 s1.gh _ fun w G2 H2 s2 e2 => ⟨u, w, rfl, k u w G1 H1 G2 H2 s1 e1 s2 e2⟩
end K28
end
section
set_option Elab.async false
set_option linter.all false
set_option maxRecDepth 100000
set_option maxHeartbeats 4000000
set_option autoImplicit false
namespace K28
open PySem L2
section
variable {P : Program} {w : World} {K : PySem.W.Frag} {mg : Str → Option Value} {base : Heap} {CR CH : Addr} {f : Addr} {fd : FuncData}
/-! ### basics -/
def aInt (CR : Addr) : List V → Hp → Hp → HP → Prop := fun vs G _ R => (∃ i, vs = [.int i] ∧ R = rBl true) ∨ (∃ q v, vs = [v] ∧ rRat CR q G v ∧ R = rBl false)
theorem sc_is_integer : FnScope ["value"] ["value"] (defScope s_is_integer) := ⟨rfl, rfl, rfl, by decide +kernel, rfl, by decide +kernel, by decide +kernel⟩
theorem ok_is_integer (T : Txt K mg CR CH) (F : Fun K "is_integer" "is_integer" s_is_integer f fd) : FnOk P w K mg base CX0 1 f fd ["value"] (spP (aInt CR)) := by
  refine F.ok sc_is_integer (fun vs H Q E h => ?_) (fun cdv A outer s H vs Q E hr h => ?_)
  · obtain ⟨G, R, _, ⟨i, rfl, _⟩ | ⟨q, v, rfl, _⟩, _⟩ := h <;> rfl
  · obtain ⟨G, R, gh, h, k⟩ := h
    refine ⟨_, (pss_one (ps_ret (pe_and (pe_callB (call_isiK' K) (by rfl) T.isinstance (by decide +kernel) (pa_cons (pv 0) (pa_cons (pe_bltn (v := .ty "int") (by rfl) T.int (by decide +kernel) rfl) pa_nil))) (pe_one (pe_not (pe_callB (call_isiK' K) (by rfl) T.isinstance (by decide +kernel) (pa_cons (pv 0) (pa_cons (pe_bltn (v := .ty "bool") (by rfl) T.bool (by decide +kernel) rfl) pa_nil)))))))), ?_⟩
    rcases h with ⟨i, rfl, rfl⟩ | ⟨q, v, rfl, hv, rfl⟩
    · refine q_ret gh (P := rBl true) ?_ k
      have h1 : Ev (tVar 0) (start ["value"] [.int i]) G (rInt i) := ev_var rfl rfl
      refine (ev_andV (b := true) (c := true) (ev_isi (P := rInt i) h1 (fun _ _ => ev_c rfl) (.ty "int") fun G' v e => ⟨_, ty_int e, k_ii⟩) fun _ G' g => ?_)
      exact ev_notV (b := false) (ev_isi (P := rInt i) (h1.mono g) (fun _ _ => ev_c rfl) (.ty "bool") fun G' v e => ⟨_, ty_int e, k_ib⟩)
    · refine q_ret gh (P := rBl false) ?_ k
      have h1 : Ev (tVar 0) (start ["value"] [v]) G (rRat CR q) := ev_var rfl hv
      exact (ev_andV (b := false) (c := true) (ev_isi (P := rRat CR q) h1 (fun _ _ => ev_c rfl) (.ty "int") fun G' v e => ⟨_, ty_ratv T e, T.kRi⟩) fun e => nomatch e)
def aCnt : List V → Hp → Hp → HP → Prop := fun vs _ _ R => ∃ i : Int, vs = [.int i] ∧ 0 ≤ i ∧ R = rBl true
theorem sc_is_count : FnScope ["value"] ["value"] (defScope s_is_count) := ⟨rfl, rfl, rfl, by decide +kernel, rfl, by decide +kernel, by decide +kernel⟩
theorem ok_is_count (T : Txt K mg CR CH) (F : Fun K "is_count" "is_count" s_is_count f fd) (C_is_integer : Cal P w K mg base "is_integer" 1 ["value"] (spP (aInt CR))) : FnOk P w K mg base CX0 2 f fd ["value"] (spP aCnt) := by
  refine F.ok sc_is_count (fun vs H Q E h => ?_) (fun cdv A outer s H vs Q E hr h => ?_)
  · obtain ⟨G, R, _, ⟨i, rfl, _⟩, _⟩ := h
    rfl
  · obtain ⟨G, R, gh, ⟨i, rfl, h0, rfl⟩, k⟩ := h
    refine ⟨_, (pss_one (ps_ret (pe_and (pe_cal C_is_integer (hr.mono (by decide)) (by rfl) (pa_cons (pv 0) pa_nil)) (pe_one (pe_cmpR op_ge (pv 0) pe_int (nomark _)))))), ?_⟩
    refine q_ret gh (P := rBl true) ?_ k
    have h1 : Ev (tVar 0) (start ["value"] [.int i]) G (rInt i) := ev_var rfl rfl
    refine ev_andV (b := true) (c := true) (ev_call (ea1 h1) fun G' H' vs _ _ ⟨u, e, e1⟩ => .inl ⟨i, by rw [e, show u = _ from e1], rfl⟩) fun _ G' g => ?_
    refine (ev_I0 (h1.mono g) ev_int).imp fun _ _ _ e => ?_
    rw [show _ = _ from e]
    exact congrArg V.bl (decide_eq_true h0)
def aLst : List V → Hp → Hp → HP → Prop := fun vs G _ R => ∃ a us, vs = [.ref a] ∧ G a = some (.lst us) ∧ R = rBl true
theorem sc_is_list : FnScope ["value"] ["value"] (defScope s_is_list) := ⟨rfl, rfl, rfl, by decide +kernel, rfl, by decide +kernel, by decide +kernel⟩
theorem ok_is_list (T : Txt K mg CR CH) (F : Fun K "is_list" "is_list" s_is_list f fd) : FnOk P w K mg base CX0 1 f fd ["value"] (spP aLst) := by
  refine F.ok sc_is_list (fun vs H Q E h => ?_) (fun cdv A outer s H vs Q E hr h => ?_)
  · obtain ⟨G, R, _, ⟨a, us, rfl, _⟩, _⟩ := h
    rfl
  · obtain ⟨G, R, gh, ⟨a, us, rfl, ha, rfl⟩, k⟩ := h
    refine ⟨_, (pss_one (ps_ret (pe_callB (call_isiTK K) (by rfl) T.isinstance (by decide +kernel) (pa_cons (pv 0) (pa_cons (pe_tup (pa_cons (pe_bltn (v := .ty "list") (by rfl) T.list (by decide +kernel) rfl) (pa_cons (pe_bltn (v := .ty "tuple") (by rfl) T.tuple (by decide +kernel) rfl) pa_nil))) pa_nil))))), ?_⟩
    refine q_ret gh (P := rBl true) ?_ k
    let r : HP := fun G v => ∃ a us, v = .ref a ∧ G a = some (.lst us)
    haveI : Mono r := ⟨fun g ⟨a, us, e1, e2⟩ => ⟨a, us, e1, g _ _ e2⟩⟩
    exact ev_isiT (P := r) (ev_var rfl ⟨a, us, rfl, ha⟩) (fun _ _ => ev_c rfl) (fun _ _ => ev_c rfl) (.ty "list") (.ty "tuple") fun G' v ⟨a, us, e1, e2⟩ => ⟨.type "list", by rw [e1]; exact .base (.lst e2), k_ll⟩
def aAtMost : List V → Hp → Hp → HP → Prop := fun vs _ _ R => ∃ (u : V) (i j : Int), vs = [u, .int i, .int j] ∧ j ≤ i ∧ R = rVal .non
theorem sc_want_at_most : FnScope ["what", "limit", "number"] ["what", "limit", "number"] (defScope s_want_at_most) := ⟨rfl, rfl, rfl, by decide +kernel, rfl, by decide +kernel, by decide +kernel⟩
theorem ok_want_at_most (T : Txt K mg CR CH) (F : Fun K "want_at_most" "want_at_most" s_want_at_most f fd) : FnOk P w K mg base CX0 1 f fd ["what", "limit", "number"] (spP aAtMost) := by
  refine F.ok sc_want_at_most (fun vs H Q E h => ?_) (fun cdv A outer s H vs Q E hr h => ?_)
  · obtain ⟨G, R, _, ⟨u, i, j, rfl, _⟩, _⟩ := h
    rfl
  · obtain ⟨G, R, gh, ⟨u, i, j, rfl, hij, rfl⟩, k⟩ := h
    refine ⟨_, (pss_one (ps_if (pt_cmpR op_gt (pv 2) (pv 1) (nomark _)) (pss_one ps_never) pss_nil)), ?_⟩
    refine s_if gh (b := false) (et_test ((ev_I0 (i := j) (j := i) (ev_var rfl rfl) (ev_var rfl rfl)).imp fun _ _ _ e => ?_)) (fun e => nomatch e) fun _ G' H' s => k _ _ _ s rfl
    rw [show _ = _ from e]
    exact congrArg V.bl (decide_eq_false (by omega))
def aDiv : List V → Hp → Hp → HP → Prop := fun vs _ _ R => ∃ i j : Int, vs = [.int i, .int j] ∧ R = rInt ((Nat.gcd i.natAbs j.natAbs : Nat) : Int)
theorem sc_divisor_of : FnScope ["one", "other"] ["one", "other"] (defScope s_divisor_of) := ⟨rfl, rfl, rfl, by decide +kernel, rfl, by decide +kernel, by decide +kernel⟩
theorem ok_divisor_of (T : Txt K mg CR CH) (F : Fun K "divisor_of" "divisor_of" s_divisor_of f fd) : FnOk P w K mg base CX0 1 f fd ["one", "other"] (spP aDiv) := by
  refine F.ok sc_divisor_of (fun vs H Q E h => ?_) (fun cdv A outer s H vs Q E hr h => ?_)
  · obtain ⟨G, R, _, ⟨i, j, rfl, _⟩, _⟩ := h
    rfl
  · obtain ⟨G, R, gh, ⟨i, j, rfl, rfl⟩, k⟩ := h
    refine ⟨_, (pss_one (ps_ret (pe_callBfun cr_gcd (by rfl) T.gcd (pa_cons (pv 0) (pa_cons (pv 1) pa_nil))))), ?_⟩
    exact q_ret gh (P := rInt ((Nat.gcd i.natAbs j.natAbs : Nat) : Int)) (ev_gcd (ev_var rfl rfl) (ev_var rfl rfl)) k
end
end K28
end
section
set_option Elab.async false
set_option linter.all false
set_option maxRecDepth 100000
set_option maxHeartbeats 4000000
set_option autoImplicit false
namespace K28
open PySem L2
section
variable {P : Program} {w : World} {K : PySem.W.Frag} {mg : Str → Option Value} {base : Heap} {CR CH : Addr} {f : Addr} {fd : FuncData}
theorem mulok {i j : Int} {n m : Nat} (hi : i.natAbs < 2 ^ n) (hj : j.natAbs < 2 ^ m) (h : n + m < 1000000) : CMulW i j := by
  have a := log2_le hi
  have b := log2_le hj
  show i.natAbs.log2 + j.natAbs.log2 < 1000000
  omega
theorem divok {j : Int} {n : Nat} (i : Int) (h : 0 < j) (hj : j.natAbs < 2 ^ n) (hn : n ≤ 8999) : CDivW i j := ⟨h, by have := log2_le hj; omega⟩
/-! ### Ratio -/
def spInit (CR : Addr) : Sp := fun vs H Q _ => ∃ (x dx : Addr) (i j : Int), vs = [.ref x, .int i, .int j] ∧ H x = some (.ins CR dx []) ∧ 0 < j ∧ j.natAbs < 2 ^ 8999 ∧
  ∀ H', (∀ b o, b ≠ x → H b = some o → H' b = some o) → H' x = some (.ins CR dx (ratF (Rat.divInt i j).num ((Rat.divInt i j).den : Int))) → Q .non H'
theorem sc_Ratio_init : FnScope ["self", "top", "bottom", "common"] ["self", "top", "bottom"] (defScope s_Ratio_init) := ⟨rfl, rfl, rfl, by decide +kernel, rfl, by decide +kernel, by decide +kernel⟩
theorem ok_Ratio_init (T : Txt K mg CR CH) (F : FunD K "__init__" "Ratio.__init__" (defArgs s_Ratio_init) (defBody s_Ratio_init) (defScope s_Ratio_init) [.int 1] [] f fd) (C_is_integer : Cal P w K mg base "is_integer" 1 ["value"] (spP (aInt CR))) (C_divisor_of : Cal P w K mg base "divisor_of" 1 ["one", "other"] (spP aDiv)) :
    FnOk P w K mg base CX0 2 f fd ["self", "top", "bottom"] (spInit CR) := by
  refine F.ok sc_Ratio_init (fun vs H Q E h => ?_) (fun cdv A outer s H vs Q E hr h => ?_)
  · obtain ⟨x, dx, i, j, rfl, _⟩ := h
    rfl
  · obtain ⟨x, dx, i, j, rfl, hx, hj, hb, k⟩ := h
    refine ⟨_, PSs.nox ((pss_cons (ps_if (pt_not (pt_val (pe_cal C_is_integer (hr.mono (by decide)) (by rfl) (pa_cons (pv 1) pa_nil)))) (pss_one ps_never) pss_nil)
      (pss_cons (ps_if (PW.pt (pw_or (pt_not (pt_val (pe_cal C_is_integer (hr.mono (by decide)) (by rfl) (pa_cons (pv 2) pa_nil)))) (pw_or1 (pt_cmpR op_eq (pv 2) pe_int (nomark _))))) (pss_one ps_never) pss_nil)
      (pss_cons (ps_set (i := 3) sc_Ratio_init.nd rfl (by first | exact Or.inl rfl | exact Or.inr rfl) (pe_cal C_divisor_of (hr.mono (by decide)) (by rfl) (pa_cons (pv 1) (pa_cons (pv 2) pa_nil))))
      (pss_cons (ps_if (pt_cmpR op_lt (pv 2) pe_int (nomark _)) (pss_one (ps_set (i := 3) sc_Ratio_init.nd rfl (by first | exact Or.inl rfl | exact Or.inr rfl) (pe_op op_sub pe_int (pv 3)))) pss_nil)
      (pss_cons (ps_fld (pv 0) (pe_op op_fdivW (pv 1) (pv 3)) rfl)
      (pss_one (ps_fld (pv 0) (pe_op op_fdivW (pv 2) (pv 3)) rfl)))))))), ?_⟩
    let G : Hp := fun b => if b = x then none else H b
    have gh : Same G H := fun b o e => by
      have e' : (if b = x then none else H b) = some o := e
      split at e'
      · cases e'
      · exact e'
    have hG : ∀ H1, Same H H1 → Same G H1 := fun H1 g => gh.trans g
    have ci : ∀ (σ : St) (n : Nat) (z : Int) G', σ[n]? = some (some (.int z)) → EvT (tNot (tB (tCall (spP (aInt CR)) [] E0 (tCons (tVar n) tNil)))) σ G' false := fun σ n z G' e =>
      et_not (b := true) (et_B (ev_call (ea1 (P1 := rInt z) (ev_var e rfl)) fun G' H' vs _ _ ⟨u, e, e1⟩ => .inl ⟨z, by rw [e, show u = _ from e1], rfl⟩))
    refine q_no gh (ci _ 1 i G rfl) fun G1 H1 s1 => ?_
    refine q_no s1.gh ((et_or (b := false) (c := false) (ci _ 2 j G1 rfl) fun _ G' g => et_test ((ev_eqI (i := j) (j := 0) (ev_var rfl rfl) ev_int).imp fun _ _ _ e => ?_))) fun G2 H2 s2 => ?_
    · rw [show _ = _ from e]
      exact congrArg V.bl (decide_eq_false (by omega))
    refine q_asg s2.gh (P := rInt ((Nat.gcd i.natAbs j.natAbs : Nat) : Int)) (ev_call (ea2 (P1 := rInt i) (P2 := rInt j) (ev_var rfl rfl) fun _ _ => ev_var rfl rfl) fun G' H' vs _ _ ⟨u, u', e, e1, e2⟩ => ⟨i, j, by rw [e, show u = _ from e1, show u' = _ from e2], rfl⟩) fun v G3 H3 s3 e3 => ?_
    cases (show v = _ from e3)
    refine q_no s3.gh (et_test ((ev_I0 (i := j) (j := 0) (ev_var rfl rfl) ev_int).imp fun _ _ _ e => ?_)) fun G4 H4 s4 => ?_
    · rw [show _ = _ from e]
      exact congrArg V.bl (decide_eq_false (by omega))
    have hs : Same H H4 := ((s1.hh.trans s2.hh).trans s3.hh).trans s4.hh
    have cd : ∀ z, CDivW z ((Nat.gcd i.natAbs j.natAbs : Nat) : Int) := fun z => divok z (gcd_pos hj) (gcd_le hj hb) (Nat.le_refl _)
    refine ⟨_, rfl, _, rfl, _, _, rfl, rfl, cd i, _, rfl, x, CR, dx, [], rfl, hs _ _ hx, T.clR, T.nTop, (by show 0 < 1000; decide), ?_⟩
    refine ⟨_, rfl, _, rfl, _, _, rfl, rfl, cd j, _, rfl, x, CR, dx, _, rfl, upd_same, T.clR, T.nBot, (by show 1 < 1000; decide), ?_⟩
    refine k _ (fun b o nb e => by rw [upd_ne nb, upd_ne nb]; exact hs b o e) ?_
    rw [upd_same]
    show some (HO.ins CR dx (ratF (i / ((Nat.gcd i.natAbs j.natAbs : Nat) : Int)) (j / ((Nat.gcd i.natAbs j.natAbs : Nat) : Int)))) = _
    rw [rat_num hj, rat_den hj]
theorem ev_mk1 {P : HP} {ta : TA} {σ : St} {G : Hp} {dvs : List V} {i j : Int} {PL : Hp → List V → Prop} (h : EvA ta σ G PL) (hv : ∀ G' vs, PL G' vs → vs ++ dvs = [.int i, .int j]) (hj : 0 < j) (hb : j.natAbs < 2 ^ 8999) : Ev (tMake CR (spInit CR) dvs E0 ta) σ G (rRat CR (Rat.divInt i j)) := fun H hh Q k =>
  h H hh _ fun vs G1 H1 s1 pl x dx hx hd ne => by
    refine ⟨x, dx, i, j, by rw [hv _ _ pl], upd_same, hj, hb, fun H' k1 k2 => ⟨rfl, ?_⟩⟩
    have gx : G1 x = none := s1.gh.free hx
    have gd : G1 dx = none := s1.gh.free hd
    have hh1 : Same H1 H' := fun b o e => k1 b o (ne_of_none e hx) (by rw [upd_ne (ne_of_none e hx), upd_ne (ne_of_none e hd)]; exact e)
    have st : Stp G1 H1 (upd G1 x (.ins CR dx (ratF (Rat.divInt i j).num ((Rat.divInt i j).den : Int)))) H' := by
      refine ⟨same_upd gx, fun b o e => ?_, hh1, fun a o e e' => ?_⟩
      · by_cases z : b = x
        · subst z; rw [upd_same] at e; rw [k2]; exact e
        · rw [upd_ne z] at e; exact hh1 _ _ (s1.gh _ _ e)
      · by_cases z : a = x
        · rw [z]; exact hx
        · rw [upd_ne z, e] at e'; cases e'
    exact k _ _ _ (s1.trans st) ⟨x, dx, rfl, upd_same⟩
/-- Ratio(i), Ratio(i, j) -/
theorem ev_ratio1 {ta : TE} {σ : St} {G : Hp} {i : Int} (h : Ev ta σ G (rInt i)) : Ev (tMake CR (spInit CR) [.int 1] E0 (tCons ta tNil)) σ G (rRat CR (i : Rat)) := by
  rw [← rat_int]
  exact ev_mk1 (P := rInt i) (ea1 h) (fun _ vs ⟨u, e, e1⟩ => by rw [e, show u = _ from e1]; rfl) (by decide) (Nat.one_lt_two_pow (by decide))
theorem ev_ratio2 {ta tb : TE} {σ : St} {G : Hp} {i j : Int} (h : Ev ta σ G (rInt i)) (h' : ∀ G', Same G G' → Ev tb σ G' (rInt j)) (hj : 0 < j) (hb : j.natAbs < 2 ^ 8999) : Ev (tMake CR (spInit CR) [] E0 (tCons ta (tCons tb tNil))) σ G (rRat CR (Rat.divInt i j)) :=
  ev_mk1 (P := rInt i) (ea2 h h') (fun _ vs ⟨u, w, e, e1, e2⟩ => by rw [e, show u = _ from e1, show w = _ from e2]; rfl) hj hb
def aSign (CR : Addr) : List V → Hp → Hp → HP → Prop := fun vs G _ R => ∃ q v, vs = [v] ∧ rRat CR q G v ∧ R = rInt (q.num.sign)
theorem sc_Ratio_sign : FnScope ["self"] ["self"] (defScope s_Ratio_sign) := ⟨rfl, rfl, rfl, by decide +kernel, rfl, by decide +kernel, by decide +kernel⟩
theorem ok_Ratio_sign (T : Txt K mg CR CH) (F : Fun K "sign" "Ratio.sign" s_Ratio_sign f fd) : FnOk P w K mg base CX0 1 f fd ["self"] (spP (aSign CR)) := by
  refine F.ok sc_Ratio_sign (fun vs H Q E h => ?_) (fun cdv A outer s H vs Q E hr h => ?_)
  · obtain ⟨G, R, _, ⟨q, v, rfl, _⟩, _⟩ := h
    rfl
  · obtain ⟨G, R, gh, ⟨q, v, rfl, hv, rfl⟩, k⟩ := h
    refine ⟨_, (pss_one (ps_ret (pe_op op_sub (pe_callTy call_int1 (by rfl) T.int (by decide +kernel) (pa_cons (pe_cmpR op_gt (pe_fldK K (pv 0) rfl) pe_int (nomark _)) pa_nil)) (pe_callTy call_int1 (by rfl) T.int (by decide +kernel) (pa_cons (pe_cmpR op_lt (pe_fldK K (pv 0) rfl) pe_int (nomark _)) pa_nil))))), ?_⟩
    have h1 : Ev (tVar 0) (start ["self"] [v]) G (rRat CR q) := ev_var rfl hv
    refine q_ret gh (P := rInt (q.num.sign)) ((ev_I0 (ev_intB (c := decide (0 < q.num)) (ev_I0 (ev_top T h1) ev_int)) (ev_intB (c := decide (q.num < 0)) (ev_I0 (ev_top T h1) ev_int))).imp fun _ u _ e => ?_) k
    rw [show u = _ from e]
    refine congrArg V.int ?_
    rcases Int.lt_trichotomy q.num 0 with h | h | h
    · rw [Int.sign_eq_neg_one_of_neg h]; simp [h]; omega
    · rw [h]; rfl
    · rw [Int.sign_eq_one_of_pos h]; simp [h]; omega
theorem ev_sign {ta : TE} {σ : St} {G : Hp} {q : Rat} (h : Ev ta σ G (rRat CR q)) : Ev (tProp CR (spP (aSign CR)) [] E0 ta) σ G (rInt q.num.sign) := fun H hh Q k => h H hh _ fun v G1 H1 s1 ⟨a, dx, e1, e2⟩ =>
  ⟨a, dx, _, e1, s1.gh _ _ e2, G1, rInt q.num.sign, s1.gh, ⟨q, .ref a, rfl, ⟨a, dx, rfl, e2⟩, rfl⟩, fun v' G2 H2 s2 p2 => k _ _ _ (s1.trans s2) p2⟩
def aPair (CR : Addr) : List V → Hp → Hp → HP → Prop := fun vs G _ R => ∃ q v, vs = [v] ∧ rRat CR q G v ∧ R = rPr rInt rInt (q.num, (q.den : Int))
theorem sc_told_pair : FnScope ["value"] ["value"] (defScope s_told_pair) := ⟨rfl, rfl, rfl, by decide +kernel, rfl, by decide +kernel, by decide +kernel⟩
theorem ok_told_pair (T : Txt K mg CR CH) (F : Fun K "told_pair" "told_pair" s_told_pair f fd) (C_is_integer : Cal P w K mg base "is_integer" 1 ["value"] (spP (aInt CR))) : FnOk P w K mg base CX0 2 f fd ["value"] (spP (aPair CR)) := by
  refine F.ok sc_told_pair (fun vs H Q E h => ?_) (fun cdv A outer s H vs Q E hr h => ?_)
  · obtain ⟨G, R, _, ⟨q, v, rfl, _⟩, _⟩ := h
    rfl
  · obtain ⟨G, R, gh, ⟨q, v, rfl, hv, rfl⟩, k⟩ := h
    refine ⟨_, (pss_cons (ps_if (pt_val (pe_callB (call_isiK' K) (by rfl) T.isinstance (by decide +kernel) (pa_cons (pv 0) (pa_cons (pe_glob (v := .ref CR) rfl T.mgR rfl) pa_nil)))) (pss_one (ps_ret (pe_tup (pa_cons (pe_fldK K (pv 0) rfl) (pa_cons (pe_fldK K (pv 0) rfl) pa_nil))))) pss_nil)
      (pss_cons (ps_if (pt_not (pt_val (pe_cal C_is_integer (hr.mono (by decide)) (by rfl) (pa_cons (pv 0) pa_nil)))) (pss_one ps_never) pss_nil)
      (pss_one (ps_ret (pe_tup (pa_cons (pv 0) (pa_cons pe_int pa_nil))))))), ?_⟩
    have h1 : Ev (tVar 0) (start ["value"] [v]) G (rRat CR q) := ev_var rfl hv
    refine q_if gh (b := true) (et_B (ev_isi (P := rRat CR q) h1 (fun _ _ => ev_c rfl) (.own CR) fun G' v e => ⟨_, ty_ratv T e, T.kRR⟩)) (fun _ G1 H1 s1 => ?_) fun e => nomatch e
    have h2 := h1.mono s1.gg
    exact q_ret s1.gh (P := rPr rInt rInt (q.num, (q.den : Int))) (ev_pair (r := rInt) (s := rInt) (ev_top T h2) fun _ g => ev_bot T (h2.mono g)) fun v G' H' s2 p => k v G' H' (s1.trans s2) p
def aAdd (CR : Addr) : List V → Hp → Hp → HP → Prop := fun vs G _ R => ∃ (q p : Rat) (v u : V) (n : Nat), vs = [v, u] ∧ rRat CR q G v ∧ rRat CR p G u ∧ Sm n q ∧ Sm n p ∧ n ≤ 4000 ∧ R = rRat CR (q + p)
theorem sc_Ratio_add : FnScope ["self", "other", "top", "bottom"] ["self", "other"] (defScope s_Ratio_add) := ⟨rfl, rfl, rfl, by decide +kernel, rfl, by decide +kernel, by decide +kernel⟩
theorem ok_Ratio_add (T : Txt K mg CR CH) (F : Fun K "__add__" "Ratio.__add__" s_Ratio_add f fd) (C_told_pair : Cal P w K mg base "told_pair" 2 ["value"] (spP (aPair CR))) (C_Ratio2 : CalMk P w K mg base "Ratio" CR 2 ["self", "top", "bottom"] [] (spInit CR)) : FnOk P w K mg base CX0 5 f fd ["self", "other"] (spP (aAdd CR)) := by
  refine F.ok sc_Ratio_add (fun vs H Q E h => ?_) (fun cdv A outer s H vs Q E hr h => ?_)
  · obtain ⟨G, R, _, ⟨q, p, v, u, n, rfl, _⟩, _⟩ := h
    rfl
  · obtain ⟨G, R, gh, ⟨q, p, v, u, n, rfl, hv, hu, sq, sp, hn, rfl⟩, k⟩ := h
    refine ⟨_, (pss_cons (ps_asg (pe_cal C_told_pair (hr.mono (by decide)) (by rfl) (pa_cons (pv 1) pa_nil)) (pg_tupK K (by rfl) (pgs_cons (pg_name (i := 2) sc_Ratio_add.nd rfl (by first | exact Or.inl rfl | exact Or.inr rfl)) (pgs_cons (pg_name (i := 3) sc_Ratio_add.nd rfl (by first | exact Or.inl rfl | exact Or.inr rfl)) pgs_nil))))
      (pss_one (ps_ret (pe_mk C_Ratio2 (hr.mono (by decide)) (by rfl) (pa_cons (pe_op op_add (pe_op op_mulW (pe_fldK K (pv 0) rfl) (pv 3)) (pe_op op_mulW (pv 2) (pe_fldK K (pv 0) rfl))) (pa_cons (pe_op op_mulW (pe_fldK K (pv 0) rfl) (pv 3)) pa_nil)))))), ?_⟩
    refine q_pair (r := rInt) (s := rInt) gh (ev_call (P := rPr rInt rInt (p.num, (p.den : Int))) (ea1 (P1 := rRat CR p) (ev_var rfl hu)) fun G' H' vs _ _ ⟨u, e, e1⟩ => ⟨p, u, e, e1, rfl⟩) fun x1 x2 G1 H1 s1 q1 q2 => ?_
    cases (show x1 = _ from q1)
    cases (show x2 = _ from q2)
    have h1 : ∀ {σ : St} {G'}, σ[0]? = some (some v) → Same G1 G' → Ev (tVar 0) σ G' (rRat CR q) := fun e g => ev_var e (Mono.mono (s1.gg.trans g) hv)
    have pd : p.den.log2 ≤ n := log2_le sp.2
    have nd : ((p.den : Int)).natAbs < 2 ^ n := by rw [Int.natAbs_natCast]; exact sp.2
    have nq : ((q.den : Int)).natAbs < 2 ^ n := by rw [Int.natAbs_natCast]; exact sq.2
    have big : n + n < 1000000 := by omega
    have pp : 0 < (p.den : Int) := by have := p.den_pos; omega
    have pq : 0 < (q.den : Int) := by have := q.den_pos; omega
    refine q_ret s1.gh (P := rRat CR (q + p)) ?_ fun z G' H' s2 e2 => k z G' H' (s1.trans s2) e2
    rw [← rat_add q p]
    refine ev_ratio2 (ev_I0 (ev_I (ev_top T (h1 rfl (.refl _))) (ev_var rfl rfl) (mulok sq.1 nd big)) (ev_I (ev_var rfl rfl) (ev_bot T (h1 rfl (.refl _))) (mulok sp.1 nq big))) (fun G' g => ev_I (ev_bot T (h1 rfl g)) (ev_var rfl rfl) (mulok nq nd big)) (Int.mul_pos pq pp) (lt_up (abs_mul_lt nq nd) (by omega))
def aEqR (CR : Addr) : List V → Hp → Hp → HP → Prop := fun vs G _ R => ∃ (q p : Rat) (v u : V), vs = [v, u] ∧ rRat CR q G v ∧ rRat CR p G u ∧ R = rBl (decide (q = p))
theorem sc_Ratio_eq : FnScope ["self", "other"] ["self", "other"] (defScope s_Ratio_eq) := ⟨rfl, rfl, rfl, by decide +kernel, rfl, by decide +kernel, by decide +kernel⟩
theorem ok_Ratio_eq (T : Txt K mg CR CH) (F : Fun K "__eq__" "Ratio.__eq__" s_Ratio_eq f fd) : FnOk P w K mg base CX0 1 f fd ["self", "other"] (spP (aEqR CR)) := by
  refine F.ok sc_Ratio_eq (fun vs H Q E h => ?_) (fun cdv A outer s H vs Q E hr h => ?_)
  · obtain ⟨G, R, _, ⟨q, p, v, u, rfl, _⟩, _⟩ := h
    rfl
  · obtain ⟨G, R, gh, ⟨q, p, v, u, rfl, hv, hu, rfl⟩, k⟩ := h
    refine ⟨_, (pss_cons (ps_if (pt_not (pt_val (pe_callB (call_isiK' K) (by rfl) T.isinstance (by decide +kernel) (pa_cons (pv 1) (pa_cons (pe_glob (v := .ref CR) rfl T.mgR rfl) pa_nil))))) (pss_one (ps_ret pe_bl)) pss_nil)
      (pss_one (ps_ret (pe_and (pe_cmpR op_eq (pe_fldK K (pv 0) rfl) (pe_fldK K (pv 1) rfl) (nomark _)) (pe_one (pe_cmpR op_eq (pe_fldK K (pv 0) rfl) (pe_fldK K (pv 1) rfl) (nomark _))))))), ?_⟩
    have h1 : Ev (tVar 0) (start ["self", "other"] [v, u]) G (rRat CR q) := ev_var rfl hv
    have h2 : Ev (tVar 1) (start ["self", "other"] [v, u]) G (rRat CR p) := ev_var rfl hu
    refine q_no gh (et_not (b := true) (et_B (ev_isi (P := rRat CR p) h2 (fun _ _ => ev_c rfl) (.own CR) fun G' v e => ⟨_, ty_ratv T e, T.kRR⟩))) fun G1 H1 s1 => ?_
    refine q_ret s1.gh (P := rBl (decide (q = p))) ((ev_andV (ev_eqI (ev_top T (h1.mono s1.gg)) (ev_top T (h2.mono s1.gg))) fun _ G' g => ev_eqI (ev_bot T (h1.mono (s1.gg.trans g))) (ev_bot T (h2.mono (s1.gg.trans g)))).imp fun _ x _ e => ?_) fun z G' H' s2 e2 => k z G' H' (s1.trans s2) e2
    rw [show x = _ from e]
    refine congrArg V.bl ?_
    by_cases z : q = p
    · subst z; simp
    · rw [decide_eq_false z]
      by_cases z1 : q.num = p.num
      · have : ¬ (q.den : Int) = (p.den : Int) := fun z2 => z (Rat.ext z1 (by omega))
        rw [decide_eq_false this, Bool.and_false]
      · rw [decide_eq_false z1, Bool.false_and]
theorem eqsp_rat : EqSp (rRat CR) (spP (aEqR CR)) := fun x y p q H Q h1 h2 k => ⟨H, _, .refl _, ⟨p, q, x, y, rfl, h1, h2, rfl⟩, fun v G' H' s e => by rw [show v = _ from e]; exact k H' s.hh⟩
def aNum (CR : Addr) : List V → Hp → Hp → HP → Prop := fun vs G _ R => (∃ i, vs = [.int i] ∧ R = rBl true) ∨ (∃ q v, vs = [v] ∧ rRat CR q G v ∧ R = rBl true)
theorem sc_is_number : FnScope ["value"] ["value"] (defScope s_is_number) := ⟨rfl, rfl, rfl, by decide +kernel, rfl, by decide +kernel, by decide +kernel⟩
theorem ok_is_number (T : Txt K mg CR CH) (F : Fun K "is_number" "is_number" s_is_number f fd) (C_is_integer : Cal P w K mg base "is_integer" 1 ["value"] (spP (aInt CR))) : FnOk P w K mg base CX0 2 f fd ["value"] (spP (aNum CR)) := by
  refine F.ok sc_is_number (fun vs H Q E h => ?_) (fun cdv A outer s H vs Q E hr h => ?_)
  · obtain ⟨G, R, _, ⟨i, rfl, _⟩ | ⟨q, v, rfl, _⟩, _⟩ := h <;> rfl
  · obtain ⟨G, R, gh, h, k⟩ := h
    refine ⟨_, (pss_one (ps_ret (pe_or (pe_cal C_is_integer (hr.mono (by decide)) (by rfl) (pa_cons (pv 0) pa_nil)) (pe_one (pe_callB (call_isiK' K) (by rfl) T.isinstance (by decide +kernel) (pa_cons (pv 0) (pa_cons (pe_glob (v := .ref CR) rfl T.mgR rfl) pa_nil))))))), ?_⟩
    rcases h with ⟨i, rfl, rfl⟩ | ⟨q, v, rfl, hv, rfl⟩
    · refine q_ret gh (P := rBl true) ?_ k
      exact ev_orV (b := true) (c := true) (ev_call (ea1 (P1 := rInt i) (ev_var rfl rfl)) fun G' H' vs _ _ ⟨u, e, e1⟩ => .inl ⟨i, by rw [e, show u = _ from e1], rfl⟩) fun e => nomatch e
    · refine q_ret gh (P := rBl true) ?_ k
      have h1 : Ev (tVar 0) (start ["value"] [v]) G (rRat CR q) := ev_var rfl hv
      exact ev_orV (b := false) (c := true) (ev_call (ea1 (P1 := rRat CR q) h1) fun G' H' vs _ _ ⟨u, e, e1⟩ => .inr ⟨q, u, e, e1, rfl⟩) fun _ G' g => ev_isi (P := rRat CR q) (h1.mono g) (fun _ _ => ev_c rfl) (.own CR) fun G' v e => ⟨_, ty_ratv T e, T.kRR⟩
/-- ints and Ratios as numbers -/
inductive Nm where
  | i (z : Int)
  | q (z : Rat)
def Nm.rat : Nm → Rat
  | .i z => (z : Rat)
  | .q z => z
def rNm (CR : Addr) : Nm → HP
  | .i z => rInt z
  | .q z => rRat CR z
instance {CR : Addr} {x : Nm} : Mono (rNm CR x) := ⟨fun e h => by
  cases x with
  | i z => exact h
  | q z => exact Mono.mono (P := rRat CR z) e h⟩
def aROf (CR : Addr) : List V → Hp → Hp → HP → Prop := fun vs G _ R => ∃ x v, vs = [v] ∧ rNm CR x G v ∧ R = rRat CR x.rat
theorem sc_ratio_of : FnScope ["number"] ["number"] (defScope s_ratio_of) := ⟨rfl, rfl, rfl, by decide +kernel, rfl, by decide +kernel, by decide +kernel⟩
theorem ok_ratio_of (T : Txt K mg CR CH) (F : Fun K "ratio_of" "ratio_of" s_ratio_of f fd) (C_Ratio1 : CalMk P w K mg base "Ratio" CR 2 ["self", "top", "bottom"] [.int 1] (spInit CR)) : FnOk P w K mg base CX0 4 f fd ["number"] (spP (aROf CR)) := by
  refine F.ok sc_ratio_of (fun vs H Q E h => ?_) (fun cdv A outer s H vs Q E hr h => ?_)
  · obtain ⟨G, R, _, ⟨x, v, rfl, _⟩, _⟩ := h
    rfl
  · obtain ⟨G, R, gh, ⟨x, v, rfl, hv, rfl⟩, k⟩ := h
    refine ⟨_, (pss_one (ps_ret (pe_ifExp (pt_val (pe_callB (call_isiK' K) (by rfl) T.isinstance (by decide +kernel) (pa_cons (pv 0) (pa_cons (pe_glob (v := .ref CR) rfl T.mgR rfl) pa_nil)))) (pv 0) (pe_mk C_Ratio1 (hr.mono (by decide)) (by rfl) (pa_cons (pv 0) pa_nil))))), ?_⟩
    cases x with
    | i z =>
      have h1 : Ev (tVar 0) (start ["number"] [v]) G (rInt z) := ev_var rfl hv
      exact q_ret gh (P := rRat CR (z : Rat)) (ev_if (b := false) (et_B (ev_isi (P := rInt z) h1 (fun _ _ => ev_c rfl) (.own CR) fun G' v e => ⟨_, ty_int e, T.kiR⟩)) (fun e => nomatch e) fun _ G' g => ev_ratio1 (h1.mono g)) k
    | q z =>
      have h1 : Ev (tVar 0) (start ["number"] [v]) G (rRat CR z) := ev_var rfl hv
      exact q_ret gh (P := rRat CR z) (ev_if (b := true) (et_B (ev_isi (P := rRat CR z) h1 (fun _ _ => ev_c rfl) (.own CR) fun G' v e => ⟨_, ty_ratv T e, T.kRR⟩)) (fun _ G' g => h1.mono g) fun e => nomatch e) k
end
end K28
end
section
set_option Elab.async false
set_option linter.all false
set_option maxRecDepth 100000
set_option maxHeartbeats 4000000
set_option autoImplicit false
set_option exponentiation.threshold 20000
namespace K28
open PySem L2
section
variable {P : Program} {w : World} {K : PySem.W.Frag} {mg : Str → Option Value} {base : Heap} {CR CH : Addr} {f : Addr} {fd : FuncData}
def aWholes (CR : Addr) : List V → Hp → Hp → HP → Prop := fun vs G _ R => ∃ (qs : List Rat) (v : V) (d e : Nat), vs = [v] ∧ rRow CR qs G v ∧ Bd d e qs ∧ d ≤ 8999 ∧ e ≤ 400000 ∧ qs.length ≤ 1000 ∧ R = rPr rInt rIR ((lcmD qs : Int), intsR qs)
theorem sc_wholes : FnScope ["ratios", "bottom", "ratio"] ["ratios"] (defScope s_wholes) := ⟨rfl, rfl, rfl, by decide +kernel, rfl, by decide +kernel, by decide +kernel⟩
theorem ok_wholes (T : Txt K mg CR CH) (F : Fun K "wholes" "wholes" s_wholes f fd) : FnOk P w K mg base CX0 1 f fd ["ratios"] (spP (aWholes CR)) := by
  refine F.ok sc_wholes (fun vs H Q E h => ?_) (fun cdv A outer s H vs Q E hr h => ?_)
  · obtain ⟨G, R, _, ⟨qs, v, d, e, rfl, _⟩, _⟩ := h
    rfl
  · obtain ⟨G, R, gh, ⟨qs, v, d, e, rfl, hv, bd, hd, he, hl, rfl⟩, k⟩ := h
    refine ⟨_, (pss_cons (ps_set (i := 1) sc_wholes.nd rfl (by first | exact Or.inl rfl | exact Or.inr rfl) pe_int)
      (pss_cons (ps_for PassesOwn.never rfl (pi_listK K (pv 0)) (pg_name (i := 2) sc_wholes.nd rfl (by first | exact Or.inl rfl | exact Or.inr rfl)) (pss_one (ps_set (i := 1) sc_wholes.nd rfl (by first | exact Or.inl rfl | exact Or.inr rfl) (pe_callBfun cr_lcm (by rfl) T.lcm (pa_cons (pv 1) (pa_cons (pe_fldK K (pv 2) rfl) pa_nil))))))
      (pss_one (ps_ret (pe_tup (pa_cons (pv 1) (pa_cons (pe_lc (own := [("ratio", 2)]) rfl sc_wholes.nd (pi_listK K (pv 0)) (blkOk_by (by kernel_rfl)) (fun _ _ _ _ _ => (pg_name (i := 2) sc_wholes.nd rfl (by first | exact Or.inl rfl | exact Or.inr rfl))) (fun _ _ _ _ _ => pts_nil) (fun _ _ _ _ _ => (pe_op op_mulW (pe_fldK K (pv 2) rfl) (pe_op op_fdivW (pv 1) (pe_fldK K (pv 2) rfl))))) pa_nil))))))), ?_⟩
    let lt : Nat → Nat := fun i => (qs.take i).foldl (fun b q => Nat.lcm b q.den) 1
    have dv : ∀ i, lt i ∣ lcmD qs := fun i => by
      show lcmD (qs.take i) ∣ lcmD qs
      exact foldl_lcm_dvd _ 1 _ (Nat.one_dvd _) fun q hq => den_dvd (List.mem_of_mem_take hq)
    have lb : ∀ i, lt i < 2 ^ 9000 := fun i => Nat.lt_of_le_of_lt (Nat.le_of_dvd (lcmD_pos _) (dv i)) (lt_up bd.lcm (by omega))
    refine q_asg gh (P := rInt 1) ev_int fun v1 G1 H1 s1 e1 => ?_
    cases (show v1 = _ from e1)
    refine q_for (G0 := G) (H0 := H) s1 (src_list (r := rRat CR) (xs := qs) (ev_var rfl (Mono.mono s1.gg hv))) (fun i _ _ σ' => ∃ o, σ' = [some v, some (.int (lt i : Int)), o]) (fun _ _ _ _ _ _ _ h => h) (fun _ _ _ => ⟨none, rfl⟩) ?_ ?_
    · rintro i G2 H2 σ2 x hi s2 g2 ⟨o, rfl⟩ ⟨q, hq, rq⟩ N hN
      have hq2 := List.mem_of_getElem? hq
      have hqd : q.den < 2 ^ 9000 := lt_up (bd.num hq2).2 (by omega)
      refine s_asg s2.gh (P1 := rInt ((lt (i + 1) : Nat) : Int)) ((ev_lcm (i := (lt i : Int)) (j := (q.den : Int)) (ev_var rfl rfl) (ev_bot T (q := q) (ev_var rfl rq)) (by rw [Int.natAbs_natCast]; exact lb i) (by rw [Int.natAbs_natCast]; exact hqd)).imp fun _ u _ e => ?_) fun z G3 H3 s3 e3 => ?_
      · rw [show u = _ from e]
        show V.int _ = V.int _
        rw [Int.natAbs_natCast, Int.natAbs_natCast]
        show V.int ((Nat.lcm (lt i) q.den : Nat) : Int) = V.int (((qs.take (i + 1)).foldl (fun b q => Nat.lcm b q.den) 1 : Nat) : Int)
        have hi' := (List.getElem?_eq_some_iff.mp hq)
        rw [List.take_succ_eq_append_getElem hi'.1, List.foldl_append, hi'.2]
        rfl
      · cases (show z = _ from e3)
        exact hN _ G3 H3 (s2.trans s3) s3.gg ⟨some x, rfl⟩
    · rintro G2 H2 σ2 s2 g2 ⟨o, rfl⟩
      have el : lt qs.length = lcmD qs := by show lcmD (qs.take qs.length) = _; rw [List.take_length]
      have gv := s1.gg.trans g2
      refine q_ret s2.gh (P := rPr rInt rIR ((lcmD qs : Int), intsR qs)) ?_ fun z G3 H3 s3 e3 => k z G3 H3 (s2.trans s3) e3
      rw [el]
      refine ev_pair (r := rInt) (s := rIR) (ev_var rfl rfl) fun G3 g3 => ?_
      refine ev_lc (r := rInt) (intsR qs) (src_list (r := rRat CR) (xs := qs) (ev_var rfl (Mono.mono (gv.trans g3) hv))) (by unfold intsR; rw [List.length_map]) (by omega) fun i z G4 x hz g4 ⟨q, hq, rq⟩ => ?_
      have hq2 := List.mem_of_getElem? hq
      obtain ⟨b1, b2⟩ := bd.num hq2
      have e1 : z = q.num * ((lcmD qs : Int) / (q.den : Int)) := by
        unfold intsR at hz
        rw [List.getElem?_map, hq] at hz
        exact (Option.some.inj hz).symm
      subst e1
      intro H4 gh4 Q4 k4
      refine k4 _ ⟨rfl, ?_⟩
      have hx : Ev (tVar 2) [some v, some (.int (lcmD qs : Int)), some x] G4 (rRat CR q) := ev_var rfl rq
      have pd : 0 < (q.den : Int) := by have := q.den_pos; omega
      have dl : ((lcmD qs : Int) / (q.den : Int)).natAbs < 2 ^ 9000 := by
        rw [← Int.natCast_ediv, Int.natAbs_natCast]
        exact Nat.lt_of_le_of_lt (Nat.div_le_self _ _) (lt_up bd.lcm (by omega))
      exact ev_I (ev_top T hx) (ev_I (ev_var rfl rfl) (ev_bot T hx) (divok _ pd (by rw [Int.natAbs_natCast]; exact lt_up b2 hd) (Nat.le_refl _))) (mulok b1 dl (by omega))
/-- the sum, from the left -/
def sumL (qs : List Rat) : Rat := qs.foldl (· + ·) 0
theorem bd_sum {d e : Nat} {qs : List Rat} (h : Bd d e qs) (i : Nat) : (sumL (qs.take i)).den < 2 ^ d ∧ (sumL (qs.take i)).num.natAbs ≤ i * 2 ^ e := by
  obtain ⟨D, h0, h1, h2⟩ := h
  have key : ∃ z : Int, sumL (qs.take i) * (D : Rat) = (z : Rat) ∧ z.natAbs ≤ i * 2 ^ e := by
    induction i with
    | zero => exact ⟨0, by show (0 : Rat) * _ = _; grind, by simp⟩
    | succ i ih =>
      obtain ⟨z, e1, e2⟩ := ih
      by_cases hi : i < qs.length
      · obtain ⟨h3, h4⟩ := h2 qs[i] (List.getElem_mem hi)
        refine ⟨z + qs[i].num * ((D : Int) / (qs[i].den : Int)), ?_, ?_⟩
        · rw [List.take_succ_eq_append_getElem hi]
          show List.foldl _ _ _ * _ = _
          rw [List.foldl_append, Rat.intCast_add, int_of _ h3]
          show (sumL (qs.take i) + qs[i]) * _ = _
          rw [← e1]
          grind
        · have : (qs[i].num * ((D : Int) / (qs[i].den : Int))).natAbs < 2 ^ e := by
            rw [Int.natAbs_mul, ← Int.natCast_ediv, Int.natAbs_natCast]
            exact h4
          rw [Nat.succ_mul]
          omega
      · refine ⟨z, ?_, Nat.le_trans e2 (Nat.mul_le_mul_right _ (Nat.le_succ i))⟩
        rw [List.take_of_length_le (by omega)]
        rw [List.take_of_length_le (by omega)] at e1
        exact e1
  obtain ⟨z, e1, e2⟩ := key
  have hD : ((D : Nat) : Rat) ≠ 0 := by
    intro q
    have : ((D : Int) : Rat) = ((0 : Int) : Rat) := q
    have := Rat.intCast_inj.mp this
    omega
  have e3 : sumL (qs.take i) = Rat.divInt z (D : Int) := by
    rw [Rat.divInt_eq_div]
    show _ = _ / ((D : Nat) : Rat)
    rw [← e1]
    grind
  have p : 0 < (D : Int) := by omega
  rw [e3]
  have g := gcd_pos (a := z) p
  have n1 := rat_num (a := z) p
  have n2 := rat_den (a := z) p
  constructor
  · have : ((Rat.divInt z (D : Int)).den : Int) ≤ (D : Int) := by rw [← n2]; exact Int.ediv_le_self _ (by omega)
    omega
  · rw [← n1, Int.natAbs_ediv_of_dvd (Int.natAbs_dvd_natAbs.mp (by rw [Int.natAbs_natCast]; exact Nat.gcd_dvd_left _ _))]
    exact Nat.le_trans (Nat.div_le_self _ _) e2
theorem ev_addR {ta tb : TE} {σ : St} {G : Hp} {q p : Rat} {n : Nat} (h : Ev ta σ G (rRat CR q)) (h' : ∀ G', Same G G' → Ev tb σ G' (rRat CR p)) (sq : Sm n q) (sp : Sm n p) (hn : n ≤ 4000) : Ev (tOp (rOwn CR (spP (aAdd CR))) ta tb) σ G (rRat CR (q + p)) :=
  ev_op h h' fun G' H' x y Q _ gh ⟨a, dx, e1, e2⟩ ⟨b, dy, e1', e2'⟩ k => by
    subst e1 e1'
    exact ⟨a, b, dx, dy, _, _, rfl, rfl, gh _ _ e2, gh _ _ e2', G', _, gh, ⟨q, p, .ref a, .ref b, n, rfl, ⟨a, dx, rfl, e2⟩, ⟨b, dy, rfl, e2'⟩, sq, sp, hn, rfl⟩, fun v G2 H2 s2 p2 => k v G2 H2 s2 p2⟩
def aTot (CR : Addr) : List V → Hp → Hp → HP → Prop := fun vs G _ R => ∃ (qs : List Rat) (v : V) (d e : Nat), vs = [v] ∧ rRow CR qs G v ∧ Bd d e qs ∧ d ≤ 3000 ∧ e ≤ 3000 ∧ qs.length ≤ 1000 ∧ R = rRat CR (sumL qs)
theorem sc_total_of : FnScope ["ratios", "found", "ratio"] ["ratios"] (defScope s_total_of) := ⟨rfl, rfl, rfl, by decide +kernel, rfl, by decide +kernel, by decide +kernel⟩
theorem ok_total_of (T : Txt K mg CR CH) (F : Fun K "total_of" "total_of" s_total_of f fd) (C_Ratio1 : CalMk P w K mg base "Ratio" CR 2 ["self", "top", "bottom"] [.int 1] (spInit CR)) (C_Ratio_add : CalOp P w K mg base CR (PySem.dunder (Operator.info .Add).2) 5 ["self", "other"] (spP (aAdd CR))) : FnOk P w K mg base CX0 6 f fd ["ratios"] (spP (aTot CR)) := by
  refine F.ok sc_total_of (fun vs H Q E h => ?_) (fun cdv A outer s H vs Q E hr h => ?_)
  · obtain ⟨G, R, _, ⟨qs, v, d, e, rfl, _⟩, _⟩ := h
    rfl
  · obtain ⟨G, R, gh, ⟨qs, v, d, e, rfl, hv, bd, hd, he, hl, rfl⟩, k⟩ := h
    refine ⟨_, (pss_cons (ps_set (i := 1) sc_total_of.nd rfl (by first | exact Or.inl rfl | exact Or.inr rfl) (pe_mk C_Ratio1 (hr.mono (by decide)) (by rfl) (pa_cons pe_int pa_nil)))
      (pss_cons (ps_for PassesOwn.never rfl (pi_listK K (pv 0)) (pg_name (i := 2) sc_total_of.nd rfl (by first | exact Or.inl rfl | exact Or.inr rfl)) (pss_one (ps_set (i := 1) sc_total_of.nd rfl (by first | exact Or.inl rfl | exact Or.inr rfl) (pe_op (op_own C_Ratio_add (hr.mono (by decide))) (pv 1) (pv 2)))))
      (pss_one (ps_ret (pv 1))))), ?_⟩
    refine q_asg gh (P := rRat CR ((0 : Int) : Rat)) (ev_ratio1 ev_int) fun v1 G1 H1 s1 e1 => ?_
    refine q_for (G0 := G) (H0 := H) s1 (src_list (r := rRat CR) (xs := qs) (ev_var rfl (Mono.mono s1.gg hv))) (fun i G' _ σ' => ∃ u o, σ' = [some v, some u, o] ∧ rRat CR (sumL (qs.take i)) G' u) (fun i G1 H1 G2 H2 σ s ⟨u, o, e, h⟩ => ⟨u, o, e, Mono.mono s.gg h⟩) (fun G2 H2 s2 => ⟨v1, none, rfl, Mono.mono s2.gg e1⟩) ?_ ?_
    · rintro i G2 H2 σ2 x hi s2 g2 ⟨u, o, rfl, hu⟩ ⟨q, hq, rq⟩ N hN
      have hi' := List.getElem?_eq_some_iff.mp hq
      obtain ⟨b1, b2⟩ := bd_sum bd i
      obtain ⟨b3, b4⟩ := bd.num (List.mem_of_getElem? hq)
      have b5 : (sumL (qs.take i)).num.natAbs < 2 ^ (e + 10) := by
        refine Nat.lt_of_le_of_lt b2 ?_
        rw [Nat.pow_add, Nat.mul_comm]
        exact Nat.mul_lt_mul_of_pos_left (by omega) (Nat.two_pow_pos e)
      refine s_asg s2.gh (P1 := rRat CR (sumL (qs.take (i + 1)))) ?_ fun z G3 H3 s3 e3 => hN _ G3 H3 (s2.trans s3) s3.gg ⟨z, some x, rfl, e3⟩
      rw [List.take_succ_eq_append_getElem hi'.1, hi'.2]
      show Ev _ _ _ (rRat CR (List.foldl _ _ _))
      rw [List.foldl_append]
      exact ev_addR (n := 4000) (ev_var rfl hu) (fun G' g => ev_var rfl (Mono.mono g rq)) ⟨lt_up b5 (by omega), lt_up b1 (by omega)⟩ ⟨lt_up b3 (by omega), lt_up b4 (by omega)⟩ (Nat.le_refl _)
    · rintro G2 H2 σ2 s2 g2 ⟨u, o, rfl, hu⟩
      rw [List.take_length] at hu
      exact q_ret s2.gh (P := rRat CR (sumL qs)) (ev_var rfl hu) fun z G3 H3 s3 e3 => k z G3 H3 (s2.trans s3) e3
/-! ### rows of whole numbers -/
def aIntsOf (CR : Addr) : List V → Hp → Hp → HP → Prop := fun vs G _ R => ∃ (t : List (List Rat)) (v : V) (d e : Nat), vs = [v] ∧ rTab CR t G v ∧ (∀ r ∈ t, Bd d e r ∧ r.length ≤ 1000) ∧ d ≤ 8999 ∧ e ≤ 400000 ∧ t.length ≤ 1000 ∧ R = rIT (t.map intsR)
theorem sc_ints_of : FnScope ["rows", "row"] ["rows"] (defScope s_ints_of) := ⟨rfl, rfl, rfl, by decide +kernel, rfl, by decide +kernel, by decide +kernel⟩
theorem ok_ints_of (T : Txt K mg CR CH) (F : Fun K "ints_of" "ints_of" s_ints_of f fd) (C_wholes : Cal P w K mg base "wholes" 1 ["ratios"] (spP (aWholes CR))) : FnOk P w K mg base CX0 2 f fd ["rows"] (spP (aIntsOf CR)) := by
  refine F.ok sc_ints_of (fun vs H Q E h => ?_) (fun cdv A outer s H vs Q E hr h => ?_)
  · obtain ⟨G, R, _, ⟨t, v, d, e, rfl, _⟩, _⟩ := h
    rfl
  · obtain ⟨G, R, gh, ⟨t, v, d, e, rfl, hv, bd, hd, he, hl, rfl⟩, k⟩ := h
    refine ⟨_, (pss_one (ps_ret (pe_lc (own := [("row", 1)]) rfl sc_ints_of.nd (pi_listK K (pv 0)) (blkOk_by (by kernel_rfl)) (fun _ _ _ _ _ => (pg_name (i := 1) sc_ints_of.nd rfl (by first | exact Or.inl rfl | exact Or.inr rfl))) (fun _ _ _ _ _ => pts_nil) (fun _ _ _ _ _ => (pe_ix (ix_tupK K) (pe_cal C_wholes (hr.mono (by decide)) (by rfl) (pa_cons (pv 1) pa_nil)) pe_int (fun _ _ => rfl)))))), ?_⟩
    refine q_ret gh (P := rIT (t.map intsR)) (ev_map (r := rRow CR) (s := rIR) intsR (ev_var rfl hv) (by omega) (fun _ => rfl) fun i x G1 u hx g hu => ?_) k
    have b := bd x (List.mem_of_getElem? hx)
    exact ev_ix1 (r := rInt) (s := rIR) (x := (lcmD x : Int)) (ev_call (ea1 (P1 := rRow CR x) (ev_var rfl hu)) fun G' H' vs _ _ ⟨u, e', e1⟩ => ⟨x, u, d, e, e', e1, b.1, hd, he, b.2, rfl⟩)
def aBare : List V → Hp → Hp → HP → Prop := fun vs G _ R => ∃ (row : List Int) (v : V), vs = [v] ∧ rIR row G v ∧ Lt 8999 row ∧ row.length ≤ 1000 ∧ R = rIR (bare row)
theorem sc_bare_row : FnScope ["row", "common", "number"] ["row"] (defScope s_bare_row) := ⟨rfl, rfl, rfl, by decide +kernel, rfl, by decide +kernel, by decide +kernel⟩
theorem ok_bare_row (T : Txt K mg CR CH) (F : Fun K "bare_row" "bare_row" s_bare_row f fd) (C_divisor_of : Cal P w K mg base "divisor_of" 1 ["one", "other"] (spP aDiv)) : FnOk P w K mg base CX0 2 f fd ["row"] (spP aBare) := by
  refine F.ok sc_bare_row (fun vs H Q E h => ?_) (fun cdv A outer s H vs Q E hr h => ?_)
  · obtain ⟨G, R, _, ⟨row, v, rfl, _⟩, _⟩ := h
    rfl
  · obtain ⟨G, R, gh, ⟨row, v, rfl, hv, bd, hl, rfl⟩, k⟩ := h
    refine ⟨_, (pss_cons (ps_set (i := 1) sc_bare_row.nd rfl (by first | exact Or.inl rfl | exact Or.inr rfl) pe_int)
      (pss_cons (ps_for PassesOwn.never rfl (pi_listK K (pv 0)) (pg_name (i := 2) sc_bare_row.nd rfl (by first | exact Or.inl rfl | exact Or.inr rfl)) (pss_one (ps_if (pt_cmpR op_ne (pv 2) pe_int (nomark _)) (pss_one (ps_set (i := 1) sc_bare_row.nd rfl (by first | exact Or.inl rfl | exact Or.inr rfl) (pe_cal C_divisor_of (hr.mono (by decide)) (by rfl) (pa_cons (pv 1) (pa_cons (pv 2) pa_nil))))) pss_nil)))
      (pss_one (ps_ret (pe_ifExp (pt_cmpR op_gt (pv 1) pe_int (nomark _)) (pe_lc (own := [("number", 2)]) rfl sc_bare_row.nd (pi_listK K (pv 0)) (blkOk_by (by kernel_rfl)) (fun _ _ _ _ _ => (pg_name (i := 2) sc_bare_row.nd rfl (by first | exact Or.inl rfl | exact Or.inr rfl))) (fun _ _ _ _ _ => pts_nil) (fun _ _ _ _ _ => (pe_op op_fdivW (pv 2) (pv 1)))) (pv 0)))))), ?_⟩
    let c : Nat → Nat := fun i => gcdL (row.take i)
    refine q_asg gh (P := rInt 0) ev_int fun v1 G1 H1 s1 e1 => ?_
    cases (show v1 = _ from e1)
    refine q_for (G0 := G) (H0 := H) s1 (src_list (r := rInt) (xs := row) (ev_var rfl (Mono.mono s1.gg hv))) (fun i _ _ σ' => ∃ o, σ' = [some v, some (.int (c i : Int)), o]) (fun _ _ _ _ _ _ _ h => h) (fun _ _ _ => ⟨none, rfl⟩) ?_ ?_
    · rintro i G2 H2 σ2 x hi s2 g2 ⟨o, rfl⟩ ⟨z, hz, rz⟩ N hN
      cases (show x = _ from rz)
      have hi' := List.getElem?_eq_some_iff.mp hz
      have hc : c (i + 1) = if z ≠ 0 then Nat.gcd (c i) z.natAbs else c i := by
        show gcdL (row.take (i + 1)) = _
        rw [List.take_succ_eq_append_getElem hi'.1, hi'.2]
        unfold gcdL
        rw [List.foldl_append]
        rfl
      refine s_if s2.gh (et_test (ev_neI (i := z) (j := 0) (ev_var rfl rfl) ev_int)) (fun hb G3 H3 s3 => ?_) fun hb G3 H3 s3 => ?_
      · have h0 : z ≠ 0 := by simpa using hb
        rw [if_pos h0] at hc
        refine s_asg s3.gh (P1 := rInt ((c (i + 1) : Nat) : Int)) (ev_call (ea2 (P1 := rInt (c i : Int)) (P2 := rInt z) (ev_var rfl rfl) fun _ _ => ev_var rfl rfl) fun G' H' vs _ _ ⟨u, u', e, e1, e2⟩ => ⟨(c i : Int), z, by rw [e, show u = _ from e1, show u' = _ from e2], by rw [hc, Int.natAbs_natCast]⟩) fun y G4 H4 s4 e4 => ?_
        cases (show y = _ from e4)
        exact hN _ G4 H4 ((s2.trans s3).trans s4) (s3.gg.trans s4.gg) ⟨_, rfl⟩
      · have h0 : z = 0 := by simpa using hb
        rw [if_neg (by simp [h0])] at hc
        exact hN _ G3 H3 (s2.trans s3) s3.gg ⟨_, by rw [hc]; rfl⟩
    · rintro G2 H2 σ2 s2 g2 ⟨o, rfl⟩
      have ec : c row.length = gcdL row := by show gcdL (row.take row.length) = _; rw [List.take_length]
      rw [ec]
      have gv := s1.gg.trans g2
      have pt : 0 < gcdL row ∨ ¬ 1 < gcdL row := by omega
      refine q_ret s2.gh (P := rIR (bare row)) (ev_if (b := decide (1 < gcdL row)) (et_test ((ev_I0 (i := (gcdL row : Int)) (j := 1) (ev_var rfl rfl) ev_int).imp fun _ u _ e => ?_)) (fun hb G3 g3 => ?_) fun hb G3 g3 => ?_) fun z G3 H3 s3 e3 => k z G3 H3 (s2.trans s3) e3
      · rw [show u = _ from e]
        show V.bl _ = V.bl _
        congr 1
        rw [decide_eq_decide]
        omega
      · have h1 : 1 < gcdL row := of_decide_eq_true hb
        unfold bare
        rw [if_pos h1]
        refine ev_map (r := rInt) (s := rInt) (fun z => z / (gcdL row : Int)) (ev_var rfl (Mono.mono (gv.trans g3) hv)) (by omega) (fun _ => rfl) fun i x G4 u hx g4 hu => ?_
        exact ev_I (ev_var rfl hu) (ev_var rfl rfl) (divok _ (by omega) (by rw [Int.natAbs_natCast]; exact gcdL_lt bd) (Nat.le_refl _))
      · have h1 : ¬ 1 < gcdL row := of_decide_eq_false hb
        unfold bare
        rw [if_neg h1]
        exact ev_var rfl (Mono.mono (gv.trans g3) hv)
end
end K28
end
section
set_option Elab.async false
set_option linter.all false
set_option maxRecDepth 100000
set_option maxHeartbeats 4000000
set_option autoImplicit false
set_option exponentiation.threshold 20000
namespace K28
open PySem L2
section
variable {P : Program} {w : World} {K : PySem.W.Frag} {mg : Str → Option Value} {base : Heap} {CR CH : Addr} {f : Addr} {fd : FuncData}
theorem at0_some {row : List Int} {p : Nat} (h : p < row.length) : row[p]? = some (at0 row p) := by
  unfold at0
  rw [List.getD_eq_getElem?_getD, List.getElem?_eq_getElem h]; rfl
def aClear : List V → Hp → Hp → HP → Prop := fun vs G _ R => ∃ (row head : List Int) (p : Nat) (v u : V) (b : Nat), vs = [v, u, .int (p : Int)] ∧ rIR row G v ∧ rIR head G u ∧ Lt b row ∧ Lt b head ∧ b + b + 1 ≤ 8999 ∧ p < row.length ∧ row.length = head.length ∧ row.length ≤ 1000 ∧ R = rIR (clear row head p)
theorem sc_cleared : FnScope ["row", "head", "place", "near", "far"] ["row", "head", "place"] (defScope s_cleared) := ⟨rfl, rfl, rfl, by decide +kernel, rfl, by decide +kernel, by decide +kernel⟩
theorem ok_cleared (T : Txt K mg CR CH) (F : Fun K "cleared" "cleared" s_cleared f fd) (C_bare_row : Cal P w K mg base "bare_row" 2 ["row"] (spP aBare)) : FnOk P w K mg base CX0 3 f fd ["row", "head", "place"] (spP aClear) := by
  refine F.ok sc_cleared (fun vs H Q E h => ?_) (fun cdv A outer s H vs Q E hr h => ?_)
  · obtain ⟨G, R, _, ⟨row, head, p, v, u, b, rfl, _⟩, _⟩ := h
    rfl
  · obtain ⟨G, R, gh, ⟨row, head, p, v, u, b, rfl, hv, hu, b1, b2, hb, hp, hl, hl2, rfl⟩, k⟩ := h
    refine ⟨_, (pss_cons (ps_if (pt_cmpR op_eq (pe_ix (ix_listK K) (pv 0) (pv 2) (fun _ _ => rfl)) pe_int (nomark _)) (pss_one (ps_ret (pv 0))) pss_nil)
      (pss_one (ps_ret (pe_cal C_bare_row (hr.mono (by decide)) (by rfl) (pa_cons (pe_lc (own := [("near", 3), ("far", 4)]) rfl sc_cleared.nd (pi_zipK K (by rfl) T.zip (pa_cons (pv 0) (pa_cons (pv 1) pa_nil))) (blkOk_by (by kernel_rfl)) (fun _ _ _ _ _ => (pg_tupK (n := 2) K (by rfl) (pgs_cons (pg_name (i := 3) sc_cleared.nd rfl (by first | exact Or.inl rfl | exact Or.inr rfl)) (pgs_cons (pg_name (i := 4) sc_cleared.nd rfl (by first | exact Or.inl rfl | exact Or.inr rfl)) pgs_nil)))) (fun _ _ _ _ _ => pts_nil) (fun _ _ _ _ _ => (pe_op op_sub (pe_op op_mulW (pe_ix (ix_listK K) (pv 1) (pv 2) (fun _ _ => rfl)) (pv 3)) (pe_op op_mulW (pe_ix (ix_listK K) (pv 0) (pv 2) (fun _ _ => rfl)) (pv 4))))) pa_nil))))), ?_⟩
    have ev0 : ∀ {σ : St} {G' : Hp}, σ[0]? = some (some v) → Same G G' → Ev (tVar 0) σ G' (rIR row) := fun e g => ev_var e (Mono.mono g hv)
    have ev1 : ∀ {σ : St} {G' : Hp}, σ[1]? = some (some u) → Same G G' → Ev (tVar 1) σ G' (rIR head) := fun e g => ev_var e (Mono.mono g hu)
    have rp : ∀ {σ : St} {G' : Hp}, σ[0]? = some (some v) → σ[2]? = some (some (.int (p : Int))) → Same G G' → Ev (tOp (rIxL K) (tVar 0) (tVar 2)) σ G' (rInt (at0 row p)) := fun e e2 g => ev_ix (r := rInt) (j := p) (ev0 e g) (fun _ _ => ev_var e2 rfl) rfl (at0_some hp)
    have hp' : ∀ {σ : St} {G' : Hp}, σ[1]? = some (some u) → σ[2]? = some (some (.int (p : Int))) → Same G G' → Ev (tOp (rIxL K) (tVar 1) (tVar 2)) σ G' (rInt (at0 head p)) := fun e e2 g => ev_ix (r := rInt) (j := p) (ev1 e g) (fun _ _ => ev_var e2 rfl) rfl (at0_some (by omega))
    refine q_if1 gh (et_test (ev_eqI (rp rfl rfl (.refl _)) ev_int)) (fun h0 G1 H1 s1 => ?_) fun h0 G1 H1 s1 => ?_
    · have h0 : at0 row p = 0 := of_decide_eq_true h0
      unfold clear at k
      rw [if_pos h0] at k
      exact q_ret s1.gh (P := rIR row) (ev0 rfl s1.gg) fun z G' H' s2 e2 => k z G' H' (s1.trans s2) e2
    · have h0 : ¬ at0 row p = 0 := of_decide_eq_false h0
      unfold clear at k
      rw [if_neg h0] at k
      refine q_ret s1.gh (P := rIR (bare (List.zipWith (fun n f => at0 head p * n - at0 row p * f) row head))) (ev_call (ea1 (P1 := rIR (List.zipWith (fun n f => at0 head p * n - at0 row p * f) row head)) ?_) fun G' H' vs _ _ ⟨u, e, e1⟩ => ⟨_, u, e, e1, (lt_mix b1 b2).mono hb, by rw [List.length_zipWith]; omega, rfl⟩) fun z G' H' s2 e2 => k z G' H' (s1.trans s2) e2
      refine ev_mapZ (r := rInt) (s := rInt) (t := rInt) (fun n f => at0 head p * n - at0 row p * f) (ev0 rfl s1.gg) (fun G' g => ev1 rfl (s1.gg.trans g)) (by omega) (fun _ _ => rfl) fun i x y G2 u2 v2 hx hy g ru rv => ?_
      have g2 := s1.gg.trans g
      exact ev_I0 (ev_I (hp' rfl rfl g2) (ev_var rfl ru) (mulok (b2.at0 p) (b1 x (List.mem_of_getElem? hx)) (by omega))) (ev_I (rp rfl rfl g2) (ev_var rfl rv) (mulok (b1.at0 p) (b2 y (List.mem_of_getElem? hy)) (by omega)))
def atOr (o : Option Nat) : Int := match o with
  | some i => (i : Int)
  | none => -1
def aFirst : List V → Hp → Hp → HP → Prop := fun vs G _ R => ∃ (rows : List (List Int)) (p n : Nat) (v : V), vs = [v, .int (p : Int)] ∧ rIT rows G v ∧ p < n ∧ (∀ r ∈ rows, r.length = n) ∧ rows.length ≤ 1000 ∧ R = rInt (atOr (firstAt rows p))
theorem sc_first_at : FnScope ["rows", "place", "at", "row"] ["rows", "place"] (defScope s_first_at) := ⟨rfl, rfl, rfl, by decide +kernel, rfl, by decide +kernel, by decide +kernel⟩
theorem ok_first_at (T : Txt K mg CR CH) (F : Fun K "first_at" "first_at" s_first_at f fd) : FnOk P w K mg base CX0 1 f fd ["rows", "place"] (spP aFirst) := by
  refine F.ok sc_first_at (fun vs H Q E h => ?_) (fun cdv A outer s H vs Q E hr h => ?_)
  · obtain ⟨G, R, _, ⟨rows, p, n, v, rfl, _⟩, _⟩ := h
    rfl
  · obtain ⟨G, R, gh, ⟨rows, p, n, v, rfl, hv, hp, hn, hl, rfl⟩, k⟩ := h
    refine ⟨_, (pss_cons (ps_for PassesOwn.never rfl (pi_enumK K (by rfl) T.enumerate (pa_cons (pv 0) pa_nil)) (pg_tupK (n := 2) K (by rfl) (pgs_cons (pg_name (i := 2) sc_first_at.nd rfl (by first | exact Or.inl rfl | exact Or.inr rfl)) (pgs_cons (pg_name (i := 3) sc_first_at.nd rfl (by first | exact Or.inl rfl | exact Or.inr rfl)) pgs_nil))) (pss_one (ps_if (pt_cmpR op_ne (pe_ix (ix_listK K) (pv 3) (pv 1) (fun _ _ => rfl)) pe_int (nomark _)) (pss_one (ps_ret (pv 2))) pss_nil)))
      (pss_one (ps_ret (pe_un un_neg pe_int)))), ?_⟩
    refine q_for (G0 := G) (H0 := H) (.refl gh) (src_enum (r := rIR) (xs := rows) (ev_var rfl hv)) (fun i _ _ σ' => ∃ o o', σ' = [some v, some (.int (p : Int)), o, o'] ∧ ∀ j, j < i → at0 (rows.getD j []) p = 0) (fun _ _ _ _ _ _ _ h => h) (fun _ _ _ => ⟨none, none, rfl, fun j hj => absurd hj (Nat.not_lt_zero j)⟩) ?_ ?_
    · rintro i G2 H2 σ2 x hi s2 g2 ⟨o, o', rfl, hz⟩ ⟨row, hrow, rx⟩ N hN
      have hi' := List.getElem?_eq_some_iff.mp hrow
      have hd : rows.getD i [] = row := by rw [List.getD_eq_getElem?_getD, hrow]; rfl
      refine tg2 rx (fun u w ru rw' => ?_) H2 s2.gh _ fun σ' q => q
      cases (show u = _ from ru)
      refine s_if s2.gh (et_test (ev_neI (i := at0 row p) (j := 0) (ev_ix (r := rInt) (j := p) (ev_var rfl rw') (fun _ _ => ev_var rfl rfl) rfl (at0_some (by rw [hn row (List.mem_of_getElem? hrow)]; exact hp))) ev_int)) (fun hb G3 H3 s3 => ?_) fun hb G3 H3 s3 => ?_
      · have h0 : at0 row p ≠ 0 := by simpa using hb
        have ef : firstAt rows p = some i := by
          unfold firstAt
          rw [List.findIdx?_eq_some_iff_getElem]
          refine ⟨hi'.1, by rw [hi'.2]; simpa using h0, fun j hj => ?_⟩
          have := hz j hj
          rw [List.getD_eq_getElem?_getD, List.getElem?_eq_getElem (by omega)] at this
          simpa using this
        rw [ef] at k
        exact q_ret s3.gh (P := rInt (i : Int)) (ev_var rfl rfl) fun z G4 H4 s4 e4 => k z G4 H4 ((s2.trans s3).trans s4) e4
      · have h0 : at0 row p = 0 := by simpa using hb
        refine hN _ G3 H3 (s2.trans s3) s3.gg ⟨_, _, rfl, fun j hj => ?_⟩
        rcases Nat.lt_or_ge j i with q | q
        · exact hz j q
        · rw [show j = i by omega, hd]; exact h0
    · rintro G2 H2 σ2 s2 g2 ⟨o, o', rfl, hz⟩
      have ef : firstAt rows p = none := by
        unfold firstAt
        rw [List.findIdx?_eq_none_iff]
        intro r hr
        obtain ⟨j, hj, rfl⟩ := List.mem_iff_getElem.mp hr
        have := hz j hj
        rw [List.getD_eq_getElem?_getD, List.getElem?_eq_getElem hj] at this
        simpa using this
      rw [ef] at k
      exact q_ret s2.gh (P := rInt (-1)) ((ev_un (i := 1) ev_int).imp fun _ _ _ e => e) fun z G3 H3 s3 e3 => k z G3 H3 (s2.trans s3) e3
def aHeaded : List V → Hp → Hp → HP → Prop := fun vs G _ R => ∃ (row : List Int) (p : Nat) (v : V), vs = [v, .int (p : Int)] ∧ rIR row G v ∧ Lt 8999 row ∧ p < row.length ∧ row.length ≤ 1000 ∧ R = rIR (headed row p)
theorem sc_headed_row : FnScope ["row", "place", "found", "number"] ["row", "place"] (defScope s_headed_row) := ⟨rfl, rfl, rfl, by decide +kernel, rfl, by decide +kernel, by decide +kernel⟩
theorem ok_headed_row (T : Txt K mg CR CH) (F : Fun K "headed_row" "headed_row" s_headed_row f fd) (C_bare_row : Cal P w K mg base "bare_row" 2 ["row"] (spP aBare)) : FnOk P w K mg base CX0 3 f fd ["row", "place"] (spP aHeaded) := by
  refine F.ok sc_headed_row (fun vs H Q E h => ?_) (fun cdv A outer s H vs Q E hr h => ?_)
  · obtain ⟨G, R, _, ⟨row, p, v, rfl, _⟩, _⟩ := h
    rfl
  · obtain ⟨G, R, gh, ⟨row, p, v, rfl, hv, bd, hp, hl, rfl⟩, k⟩ := h
    refine ⟨_, (pss_cons (ps_set (i := 2) sc_headed_row.nd rfl (by first | exact Or.inl rfl | exact Or.inr rfl) (pe_cal C_bare_row (hr.mono (by decide)) (by rfl) (pa_cons (pv 0) pa_nil)))
      (pss_one (ps_ret (pe_ifExp (pt_cmpR op_gt (pe_ix (ix_listK K) (pv 2) (pv 1) (fun _ _ => rfl)) pe_int (nomark _)) (pv 2) (pe_lc (own := [("number", 3)]) rfl sc_headed_row.nd (pi_listK K (pv 2)) (blkOk_by (by kernel_rfl)) (fun _ _ _ _ _ => (pg_name (i := 3) sc_headed_row.nd rfl (by first | exact Or.inl rfl | exact Or.inr rfl))) (fun _ _ _ _ _ => pts_nil) (fun _ _ _ _ _ => (pe_op op_sub pe_int (pv 3)))))))), ?_⟩
    refine q_asg gh (P := rIR (bare row)) (ev_call (ea1 (P1 := rIR row) (ev_var rfl hv)) fun G' H' vs _ _ ⟨u, e, e1⟩ => ⟨row, u, e, e1, bd, hl, rfl⟩) fun u G1 H1 s1 e1 => ?_
    refine q_ret s1.gh (P := rIR (headed row p)) (ev_if (b := decide (0 < at0 (bare row) p)) (et_test ((ev_I0 (ev_ix (r := rInt) (j := p) (ev_var rfl e1) (fun _ _ => ev_var rfl rfl) rfl (at0_some (by rw [len_bare]; exact hp))) ev_int))) (fun hb G2 g2 => ?_) fun hb G2 g2 => ?_) fun z G3 H3 s3 e3 => k z G3 H3 (s1.trans s3) e3
    · unfold headed
      rw [if_pos (of_decide_eq_true hb)]
      exact ev_var rfl (Mono.mono g2 e1)
    · unfold headed
      rw [if_neg (of_decide_eq_false hb)]
      exact ev_map (r := rInt) (s := rInt) (fun z => 0 - z) (ev_var rfl (Mono.mono g2 e1)) (by rw [len_bare]; omega) (fun _ => rfl) fun i x G4 u hx g4 hu => ev_I0 ev_int (ev_var rfl hu)
def aIntSteps : List V → Hp → Hp → HP → Prop := fun vs G _ R => ∃ (rows : List (List Int)) (v : V) (n b : Nat), vs = [v] ∧ rIT rows G v ∧ Okr n b rows ∧ rows ≠ [] ∧ 2 ^ (n + 1) * (b + 1) ≤ 8999 ∧ n ≤ 500 ∧ rows.length ≤ 500 ∧ R = rIT (intSteps rows)
theorem sc_int_steps : FnScope ["rows", "left", "found", "place", "at", "head", "others", "row"] ["rows"] (defScope s_int_steps) := ⟨rfl, rfl, rfl, by decide +kernel, rfl, by decide +kernel, by decide +kernel⟩
theorem ok_int_steps (T : Txt K mg CR CH) (F : Fun K "int_steps" "int_steps" s_int_steps f fd) (C_first_at : Cal P w K mg base "first_at" 1 ["rows", "place"] (spP aFirst)) (C_headed_row : Cal P w K mg base "headed_row" 3 ["row", "place"] (spP aHeaded)) (C_cleared : Cal P w K mg base "cleared" 3 ["row", "head", "place"] (spP aClear)) :
    FnOk P w K mg base CX0 4 f fd ["rows"] (spP aIntSteps) := by
  refine F.ok sc_int_steps (fun vs H Q E h => ?_) (fun cdv A outer s H vs Q E hr h => ?_)
  · obtain ⟨G, R, _, ⟨rows, v, n, b, rfl, _⟩, _⟩ := h
    rfl
  · obtain ⟨G, R, gh, ⟨rows, v, n, b, rfl, hv, okr, hne, hb, hn, hl, rfl⟩, k⟩ := h
    refine ⟨_, (pss_cons (ps_par (i := 1) (j := 2) (by rfl) sc_int_steps.nd rfl rfl (by decide) rfl rfl (pa_cons (pv 0) (pa_cons (pe_lst pa_nil) pa_nil)) (by rfl))
      (pss_cons (ps_for PassesOwn.never rfl (pi_range1 (by rfl) T.range (pa_cons (pe_ifExp (pt_cmpR op_gt (pe_callB (call_lenK K) (by rfl) T.len PySem.boot_len (pa_cons (pv 0) pa_nil)) pe_int (nomark _)) (pe_callB (call_lenK K) (by rfl) T.len PySem.boot_len (pa_cons (pe_ix (ix_listK K) (pv 0) pe_int (fun _ _ => rfl)) pa_nil)) pe_int) pa_nil)) (pg_name (i := 3) sc_int_steps.nd rfl (by first | exact Or.inl rfl | exact Or.inr rfl)) (pss_cons (ps_set (i := 4) sc_int_steps.nd rfl (by first | exact Or.inl rfl | exact Or.inr rfl) (pe_cal C_first_at (hr.mono (by decide)) (by rfl) (pa_cons (pv 1) (pa_cons (pv 3) pa_nil))))
      (pss_one (ps_if (pt_cmpR op_ge (pv 4) pe_int (nomark _)) (pss_cons (ps_set (i := 5) sc_int_steps.nd rfl (by first | exact Or.inl rfl | exact Or.inr rfl) (pe_cal C_headed_row (hr.mono (by decide)) (by rfl) (pa_cons (pe_ix (ix_listK K) (pv 1) (pv 4) (fun _ _ => rfl)) (pa_cons (pv 3) pa_nil))))
      (pss_cons (ps_set (i := 6) sc_int_steps.nd rfl (by first | exact Or.inl rfl | exact Or.inr rfl) (pe_op op_cat (pe_slice (sl_listK K) (pv 1) po_none (po_some (pv 4))) (pe_slice (sl_listK K) (pv 1) (po_some (pe_op op_add (pv 4) pe_int)) po_none)))
      (pss_cons (ps_set (i := 2) sc_int_steps.nd rfl (by first | exact Or.inl rfl | exact Or.inr rfl) (pe_op op_cat (pe_lc (own := [("row", 7)]) rfl sc_int_steps.nd (pi_listK K (pv 2)) (blkOk_by (by kernel_rfl)) (fun _ _ _ _ _ => (pg_name (i := 7) sc_int_steps.nd rfl (by first | exact Or.inl rfl | exact Or.inr rfl))) (fun _ _ _ _ _ => pts_nil) (fun _ _ _ _ _ => (pe_cal C_cleared (hr.mono (by decide)) (by rfl) (pa_cons (pv 7) (pa_cons (pv 5) (pa_cons (pv 3) pa_nil)))))) (pe_lst (pa_cons (pv 5) pa_nil))))
      (pss_one (ps_setLc (i := 1) (own := [("row", 7)]) rfl sc_int_steps.nd rfl rfl (sw_true rfl rfl rfl (by decide +kernel)) (pi_listK K (pv 6)) (blkOk_by (by kernel_rfl)) (fun _ _ _ _ _ => (pg_name (i := 7) sc_int_steps.nd rfl (by first | exact Or.inl rfl | exact Or.inr rfl))) (fun _ _ _ _ _ => pts_nil) (fun _ _ _ _ _ => (pe_cal C_cleared (hr.mono (by decide)) (by rfl) (pa_cons (pv 7) (pa_cons (pv 5) (pa_cons (pv 3) pa_nil)))))))))) pss_nil))))
      (pss_one (ps_ret (pv 2))))), ?_⟩
    obtain ⟨r0, rest, rfl⟩ := List.exists_cons_of_ne_nil hne
    have hw : wideOf (r0 :: rest) = n := (okr r0 (List.mem_cons_self ..)).1
    have small : ∀ i, i ≤ n → ∃ c, c + c + 1 ≤ 8999 ∧ Okr n c (stepsTo (r0 :: rest) i).left ∧ Okr n c (stepsTo (r0 :: rest) i).found := fun i hi => by
      obtain ⟨c, e, h1, h2⟩ := okr_steps okr i
      refine ⟨c, ?_, h1, h2⟩
      have : 2 ^ (i + 1) ≤ 2 ^ (n + 1) := Nat.pow_le_pow_right (by decide) (by omega)
      have := Nat.mul_le_mul_right (b + 1) this
      rw [Nat.pow_succ] at this
      have e2 : 2 ^ i * 2 * (b + 1) = 2 * (c + 1) := by rw [e]; grind
      omega
    have ll : ∀ i, (stepsTo (r0 :: rest) i).left.length ≤ 500 ∧ (stepsTo (r0 :: rest) i).found.length ≤ 500 := fun i => by have := len_steps (r0 :: rest) i; omega
    refine q_par gh (P1 := rIT (r0 :: rest)) (P2 := rIT []) (ev_var rfl hv) (fun _ _ => el_nil) fun u1 u2 G1 H1 s1 e1 e2 => ?_
    have hv1 : rIT (r0 :: rest) G1 v := Mono.mono s1.gg hv
    refine q_for (G0 := G) (H0 := H) s1 (src_range (n := n) (ea1 (P1 := rInt (n : Int)) ?_) (by omega)) (fun i G' _ σ' => ∃ a c o1 o2 o3 o4 o5, σ' = [some v, some a, some c, o1, o2, o3, o4, o5] ∧ rIT (stepsTo (r0 :: rest) i).left G' a ∧ rIT (stepsTo (r0 :: rest) i).found G' c)
      (fun i G1 H1 G2 H2 σ s ⟨a, c, o1, o2, o3, o4, o5, e, h, h'⟩ => ⟨a, c, o1, o2, o3, o4, o5, e, Mono.mono s.gg h, Mono.mono s.gg h'⟩) (fun G2 H2 s2 => ⟨u1, u2, none, none, none, none, none, rfl, Mono.mono s2.gg e1, Mono.mono s2.gg e2⟩) ?_ ?_
    · refine ev_if (b := true) (et_test ((ev_I0 (ev_len (r := rIR) (ev_var rfl hv1)) ev_int).imp fun _ u _ e => ?_)) (fun _ G' g => ?_) fun e => nomatch e
      · rw [show u = _ from e]
        exact congrArg V.bl (decide_eq_true (by simp))
      · refine (ev_len (r := rInt) (ev_ix (r := rIR) (j := 0) (x := r0) (ev_var rfl (Mono.mono g hv1)) (fun _ _ => ev_int) rfl rfl)).imp fun _ u _ e => ?_
        rw [show u = _ from e]
        show V.int _ = V.int _
        rw [(okr r0 (List.mem_cons_self ..)).1]
    · rintro i G2 H2 σ2 x hi s2 g2 ⟨a, c, o1, o2, o3, o4, o5, rfl, ha, hc⟩ hx N hN
      cases (show x = _ from hx)
      obtain ⟨cb, hcb, okl, okf⟩ := small i (by omega)
      obtain ⟨l1, l2⟩ := ll i
      have hnx : stepsTo (r0 :: rest) (i + 1) = turn1 (stepsTo (r0 :: rest) i) i := stepsTo_succ _ _
      generalize hS : stepsTo (r0 :: rest) i = S at *
      refine q_asg s2.gh (P := rInt (atOr (firstAt S.left i))) (ev_call (ea2 (P1 := rIT S.left) (P2 := rInt (i : Int)) (ev_var rfl ha) fun _ _ => ev_var rfl rfl) fun G' H' vs _ _ ⟨u, u', e, e1, e2⟩ => ⟨S.left, i, n, u, by rw [e, show u' = _ from e2], e1, hi, fun r hr => (okl r hr).1, by omega, rfl⟩) fun z G3 H3 s3 e3 => ?_
      cases (show z = _ from e3)
      cases ef : firstAt S.left i with
      | none =>
        have ht : turn1 S i = S := by unfold turn1; rw [ef]
        refine s_if s3.gh (b := false) (et_test ((ev_I0 (i := -1) (j := 0) (ev_var rfl rfl) ev_int).imp fun _ u _ e => ?_)) (fun e => nomatch e) fun _ G4 H4 s4 => ?_
        · rw [show u = _ from e]
          exact congrArg V.bl (by decide)
        · refine hN _ G4 H4 ((s2.trans s3).trans s4) (s3.gg.trans s4.gg) ⟨a, c, _, _, _, _, _, rfl, ?_⟩
          rw [hnx, ht]
          exact ⟨Mono.mono (s3.gg.trans s4.gg) ha, Mono.mono (s3.gg.trans s4.gg) hc⟩
      | some j =>
        have hj : j < S.left.length := by
          unfold firstAt at ef
          exact (List.findIdx?_eq_some_iff_getElem.mp ef).1
        have hgd : S.left[j]? = some (S.left.getD j []) := by rw [List.getD_eq_getElem?_getD, List.getElem?_eq_getElem hj]; rfl
        obtain ⟨d1, d2⟩ := okl _ (List.mem_of_getElem? hgd)
        generalize hD : S.left.getD j [] = dr at *
        have ht : turn1 S i = ⟨(S.left.take j ++ S.left.drop (j + 1)).map fun r => clear r (headed dr i) i, S.found.map (fun r => clear r (headed dr i) i) ++ [headed dr i]⟩ := by unfold turn1; rw [ef]; dsimp only; rw [hD]
        rw [ht] at hnx
        have hh : (headed dr i).length = n ∧ Lt cb (headed dr i) := ⟨by rw [len_headed]; exact d1, lt_headed d2⟩
        refine s_if s3.gh (b := true) (et_test ((ev_I0 (i := (j : Int)) (j := 0) (ev_var rfl rfl) ev_int).imp fun _ u _ e => ?_)) (fun _ G4 H4 s4 => ?_) fun e => nomatch e
        · rw [show u = _ from e]
          exact congrArg V.bl (decide_eq_true (by omega))
        have ha4 : rIT S.left G4 a := Mono.mono (s3.gg.trans s4.gg) ha
        have hc4 : rIT S.found G4 c := Mono.mono (s3.gg.trans s4.gg) hc
        refine q_asg s4.gh (P := rIR (headed dr i)) (ev_call (ea2 (P1 := rIR dr) (P2 := rInt (i : Int)) (ev_ix (r := rIR) (j := j) (ev_var rfl ha4) (fun _ _ => ev_var rfl rfl) rfl hgd) fun _ _ => ev_var rfl rfl) fun G' H' vs _ _ ⟨u, u', e, e1, e2⟩ => ⟨dr, i, u, by rw [e, show u' = _ from e2], e1, d2.mono (by omega), by omega, by omega, rfl⟩) fun hv5 G5 H5 s5 e5 => ?_
        refine q_asg s5.gh (P := rIT (S.left.take j ++ S.left.drop (j + 1))) (ev_cat (ev_to (ev_var rfl (Mono.mono s5.gg ha4)) (fun _ _ => ev_var rfl rfl) rfl (by omega)) (fun G' g => ev_from (ev_var rfl (Mono.mono (s5.gg.trans g) ha4)) (fun _ _ => (ev_I0 (ev_var rfl rfl) ev_int)) (show atOr (some j) + 1 = ((j + 1 : Nat) : Int) from rfl) (by omega)) (by rw [List.length_take, List.length_drop]; omega)) fun ov G6 H6 s6 e6 => ?_
        have cl : ∀ {σ : St} {G' : Hp} {r : List Int} {u : V}, σ[7]? = some (some u) → σ[5]? = some (some hv5) → σ[3]? = some (some (.int (i : Int))) → Same G5 G' → r.length = n ∧ Lt cb r → rIR r G' u → Ev (tCall (spP aClear) [] E0 (tCons (tVar 7) (tCons (tVar 5) (tCons (tVar 3) tNil)))) σ G' (rIR (clear r (headed dr i) i)) := fun {σ G' r u} z7 z5 z3 g hr hu =>
          ev_call (ea3 (P1 := rIR r) (P2 := rIR (headed dr i)) (P3 := rInt (i : Int)) (ev_var z7 hu) (fun G'' g' => ev_var z5 (Mono.mono (g.trans g') e5)) fun _ _ => ev_var z3 rfl) fun G' H' vs _ _ ⟨u, u', u'', e, e1, e2, e3⟩ => ⟨r, headed dr i, i, u, u', cb, by rw [e, show u'' = _ from e3], e1, e2, hr.2, hh.2, hcb, by omega, by omega, by omega, rfl⟩
        refine q_asg s6.gh (P := rIT (S.found.map (fun r => clear r (headed dr i) i) ++ [headed dr i])) (ev_cat (ev_map (r := rIR) (s := rIR) (fun r => clear r (headed dr i) i) (ev_var rfl (Mono.mono (s5.gg.trans s6.gg) hc4)) (by omega) (fun _ => rfl) fun m r G' u hr g hu => cl rfl rfl rfl (s6.gg.trans g) (okf r (List.mem_of_getElem? hr)) hu) (fun G' g => el_one (r := rIR) (ev_var rfl (Mono.mono (s6.gg.trans g) e5))) (by rw [List.length_map]; show S.found.length + 1 ≤ _; omega)) fun fv G7 H7 s7 e7 => ?_
        refine s_asg s7.gh (P1 := rIT ((S.left.take j ++ S.left.drop (j + 1)).map fun r => clear r (headed dr i) i)) (ev_map (r := rIR) (s := rIR) (fun r => clear r (headed dr i) i) (ev_var rfl (Mono.mono s7.gg e6)) (by rw [List.length_append, List.length_take, List.length_drop]; omega) (fun _ => rfl) fun m r G' u hr g hu => cl rfl rfl rfl ((s6.gg.trans s7.gg).trans g) (okl r (by
          rcases List.mem_append.mp (List.mem_of_getElem? hr) with q | q
          · exact List.mem_of_mem_take q
          · exact List.mem_of_mem_drop q)) hu) fun lv G8 H8 s8 e8 => ?_
        refine hN _ G8 H8 ((((((s2.trans s3).trans s4).trans s5).trans s6).trans s7).trans s8) (((((s3.gg.trans s4.gg).trans s5.gg).trans s6.gg).trans s7.gg).trans s8.gg) ⟨lv, fv, _, _, _, _, _, rfl, ?_⟩
        rw [hnx]
        exact ⟨e8, Mono.mono s8.gg e7⟩
    · rintro G2 H2 σ2 s2 g2 ⟨a, c, o1, o2, o3, o4, o5, rfl, ha, hc⟩
      unfold intSteps at k
      rw [hw] at k
      exact q_ret s2.gh (P := rIT (stepsTo (r0 :: rest) n).found) (ev_var rfl hc) fun z G3 H3 s3 e3 => k z G3 H3 (s2.trans s3) e3
end
end K28
end
section
set_option Elab.async false
set_option linter.all false
set_option maxRecDepth 100000
set_option maxHeartbeats 4000000
set_option autoImplicit false
set_option exponentiation.threshold 20000
namespace K28
open PySem L2
section
variable {P : Program} {w : World} {K : PySem.W.Frag} {mg : Str → Option Value} {base : Heap} {CR CH : Addr} {f : Addr} {fd : FuncData}
theorem head_ne {row : List Int} (h : headOf row < row.length) : at0 row (headOf row) ≠ 0 := by
  unfold headOf at h
  have := List.findIdx_getElem (w := h)
  unfold at0 headOf
  rw [List.getD_eq_getElem?_getD, List.getElem?_eq_getElem h]
  simpa using this
theorem head_lt {row : List Int} {q : Nat} (h : q < headOf row) : at0 row q = 0 := by
  unfold at0
  by_cases hq : q < row.length
  · have := List.not_of_lt_findIdx h
    rw [List.getD_eq_getElem?_getD, List.getElem?_eq_getElem hq]
    simpa using this
  · rw [List.getD_eq_getElem?_getD, List.getElem?_eq_none (by omega)]; rfl
def aHead : List V → Hp → Hp → HP → Prop := fun vs G _ R => ∃ (row : List Int) (v : V), vs = [v] ∧ rIR row G v ∧ headOf row < row.length ∧ R = rInt (headOf row : Int)
theorem sc_head_of : FnScope ["row", "place"] ["row"] (defScope s_head_of) := ⟨rfl, rfl, rfl, by decide +kernel, rfl, by decide +kernel, by decide +kernel⟩
theorem ok_head_of (T : Txt K mg CR CH) (F : Fun K "head_of" "head_of" s_head_of f fd) : FnOk P w K mg base CX0 1 f fd ["row"] (spP aHead) := by
  refine F.ok sc_head_of (fun vs H Q E h => ?_) (fun cdv A outer s H vs Q E hr h => ?_)
  · obtain ⟨G, R, _, ⟨row, v, rfl, _⟩, _⟩ := h
    rfl
  · obtain ⟨G, R, gh, ⟨row, v, rfl, hv, hh, rfl⟩, k⟩ := h
    refine ⟨_, (pss_cons (ps_set (i := 1) sc_head_of.nd rfl (by first | exact Or.inl rfl | exact Or.inr rfl) pe_int)
      (pss_cons (ps_while PassesOwn.never (pt_cmpR op_eq (pe_ix (ix_listK K) (pv 0) (pv 1) (fun _ _ => rfl)) pe_int (nomark _)) (pss_one (ps_set (i := 1) sc_head_of.nd rfl (by first | exact Or.inl rfl | exact Or.inr rfl) (pe_op op_add (pv 1) pe_int))))
      (pss_one (ps_ret (pv 1))))), ?_⟩
    refine q_asg gh (P := rInt ((0 : Nat) : Int)) ev_int fun v1 G1 H1 s1 e1 => ?_
    cases (show v1 = _ from e1)
    refine q_while (G0 := G) (H0 := H) s1 (fun m _ _ σ' => ∃ p : Nat, σ' = [some v, some (.int (p : Int))] ∧ p ≤ headOf row ∧ m = headOf row - p) (headOf row) ⟨0, rfl, Nat.zero_le _, rfl⟩ ?_
    rintro m G2 H2 σ2 s2 g2 ⟨p, rfl, hp, rfl⟩
    refine ⟨decide (at0 row p = 0), et_test (ev_eqI (ev_ix (r := rInt) (j := p) (ev_var rfl (Mono.mono (s1.gg.trans g2) hv)) (fun _ _ => ev_var rfl rfl) rfl (at0_some (by omega))) ev_int), fun hb G3 H3 s3 N hN => ?_, fun hb G3 H3 s3 => ?_⟩
    · have h0 : at0 row p = 0 := of_decide_eq_true hb
      have hlt : p < headOf row := by
        rcases Nat.lt_or_ge p (headOf row) with q | q
        · exact q
        · exact absurd (show at0 row (headOf row) = 0 by rw [show headOf row = p by omega]; exact h0) (head_ne hh)
      refine s_asg s3.gh (P1 := rInt ((p + 1 : Nat) : Int)) ((ev_I0 (i := (p : Int)) (j := 1) (ev_var rfl rfl) ev_int).imp fun _ u _ e => ?_) fun z G4 H4 s4 e4 => ?_
      · rw [show u = _ from e]; rfl
      cases (show z = _ from e4)
      exact hN _ _ G4 H4 (by omega) ((s2.trans s3).trans s4) (s3.gg.trans s4.gg) ⟨p + 1, rfl, hlt, rfl⟩
    · have h0 : ¬ at0 row p = 0 := of_decide_eq_false hb
      have e : p = headOf row := by
        rcases Nat.lt_or_ge p (headOf row) with q | q
        · exact absurd (head_lt q) h0
        · omega
      subst e
      exact q_ret s3.gh (P := rInt (headOf row : Int)) (ev_var rfl rfl) fun z G4 H4 s4 e4 => k z G4 H4 ((s2.trans s3).trans s4) e4
/-- a row that told_rows takes: its head is there, positive, and not too great -/
def Hd (row : List Int) : Prop := row.length ≤ 1000 ∧ headOf row < row.length ∧ 0 < at0 row (headOf row) ∧ Lt 8999 row
def aTold (CR : Addr) : List V → Hp → Hp → HP → Prop := fun vs G _ R => ∃ (rows : List (List Int)) (v : V), vs = [v] ∧ rIT rows G v ∧ (∀ r ∈ rows, Hd r) ∧ rows.length ≤ 1000 ∧ R = rTab CR (told rows)
theorem sc_told_rows : FnScope ["steps_now", "found", "row", "head", "number"] ["steps_now"] (defScope s_told_rows) := ⟨rfl, rfl, rfl, by decide +kernel, rfl, by decide +kernel, by decide +kernel⟩
theorem ok_told_rows (T : Txt K mg CR CH) (F : Fun K "told_rows" "told_rows" s_told_rows f fd) (C_head_of : Cal P w K mg base "head_of" 1 ["row"] (spP aHead)) (C_Ratio2 : CalMk P w K mg base "Ratio" CR 2 ["self", "top", "bottom"] [] (spInit CR)) : FnOk P w K mg base CX0 4 f fd ["steps_now"] (spP (aTold CR)) := by
  refine F.ok sc_told_rows (fun vs H Q E h => ?_) (fun cdv A outer s H vs Q E hr h => ?_)
  · obtain ⟨G, R, _, ⟨rows, v, rfl, _⟩, _⟩ := h
    rfl
  · obtain ⟨G, R, gh, ⟨rows, v, rfl, hv, hd, hl, rfl⟩, k⟩ := h
    refine ⟨_, (pss_cons (ps_set (i := 1) sc_told_rows.nd rfl (by first | exact Or.inl rfl | exact Or.inr rfl) (pe_lst pa_nil))
      (pss_cons (ps_for PassesOwn.never rfl (pi_listK K (pv 0)) (pg_name (i := 2) sc_told_rows.nd rfl (by first | exact Or.inl rfl | exact Or.inr rfl)) (pss_cons (ps_set (i := 3) sc_told_rows.nd rfl (by first | exact Or.inl rfl | exact Or.inr rfl) (pe_ix (ix_listK K) (pv 2) (pe_cal C_head_of (hr.mono (by decide)) (by rfl) (pa_cons (pv 2) pa_nil)) (fun _ _ => rfl)))
      (pss_one (ps_expr (pe_bm PySem.F.plainAttrs_list PySem.F.slot_list_append PySem.F.type_list_append mt_append (pv 1) (pa_cons (pe_lc (own := [("number", 4)]) rfl sc_told_rows.nd (pi_listK K (pv 2)) (blkOk_by (by kernel_rfl)) (fun _ _ _ _ _ => (pg_name (i := 4) sc_told_rows.nd rfl (by first | exact Or.inl rfl | exact Or.inr rfl))) (fun _ _ _ _ _ => pts_nil) (fun _ _ _ _ _ => (pe_mk C_Ratio2 (hr.mono (by decide)) (by rfl) (pa_cons (pv 4) (pa_cons (pv 3) pa_nil))))) pa_nil))))))
      (pss_one (ps_ret (pv 1))))), ?_⟩
    refine q_new (r := rRow CR) (Stp.refl gh) fun p H1 hp s1 _ o1 => ?_
    refine q_for (G0 := G) (H0 := H) s1 (src_list (r := rIR) (xs := rows) (ev_var rfl hv)) (fun i G' H' σ' => ∃ a c d, σ' = [some v, some (.ref p), a, c, d] ∧ Own (rRow CR) (told (rows.take i)) p G' H') (fun i G1 H1 G2 H2 σ s ⟨a, c, d, e, o⟩ => ⟨a, c, d, e, o.step s⟩) (fun G2 H2 s2 => ⟨none, none, none, rfl, o1.step s2⟩) ?_ ?_
    · rintro i G2 H2 σ2 x hi s2 g2 ⟨a, c, d, rfl, o⟩ ⟨row, hrow, rx⟩ N hN
      obtain ⟨d1, d2, d3, d4⟩ := hd row (List.mem_of_getElem? hrow)
      have hi' := List.getElem?_eq_some_iff.mp hrow
      refine q_asg s2.gh (P := rInt (at0 row (headOf row))) (ev_ix (r := rInt) (j := headOf row) (ev_var rfl rx) (fun G' g => ev_call (P := rInt (headOf row : Int)) (ea1 (P1 := rIR row) (ev_var rfl (Mono.mono g rx))) fun G' H' vs _ _ ⟨u, e, e1⟩ => ⟨row, u, e, e1, d2, rfl⟩) rfl (at0_some d2)) fun z G3 H3 s3 e3 => ?_
      cases (show z = _ from e3)
      refine s_grow (x := row.map fun n => Rat.divInt n (at0 row (headOf row))) (s2.trans s3) hp (o.step s3) rfl (ev_map (r := rInt) (s := rRat CR) (fun n => Rat.divInt n (at0 row (headOf row))) (ev_var rfl (Mono.mono s3.gg rx)) (by omega) (fun _ => rfl) fun j y G4 u hy g hu => ev_ratio2 (ev_var rfl hu) (fun _ _ => ev_var rfl rfl) d3 (d4.at0 _)) (by unfold told; rw [List.length_map, List.length_take]; omega) fun G4 H4 s4 g4 o4 => ?_
      refine hN _ G4 H4 s4 (s3.gg.trans g4) ⟨_, _, _, rfl, ?_⟩
      rw [List.take_succ_eq_append_getElem hi'.1, hi'.2]
      unfold told at o4 ⊢
      rw [List.map_append]
      exact o4
    · rintro G2 H2 σ2 s2 g2 ⟨a, c, d, rfl, o⟩
      rw [List.take_length] at o
      exact q_retO s2 hp o rfl k
def aSteps (CR : Addr) : List V → Hp → Hp → HP → Prop := fun vs G _ R => ∃ (t : List (List Rat)) (v : V) (n d e : Nat), vs = [v] ∧ rTab CR t G v ∧ t ≠ [] ∧ (∀ r ∈ t, r.length = n ∧ Bd d e r) ∧ d ≤ 8999 ∧ 2 ^ (n + 1) * (e + 1) ≤ 8999 ∧ n ≤ 500 ∧ t.length ≤ 500 ∧ (∀ r ∈ intSteps (t.map intsR), headOf r < r.length ∧ 0 < at0 r (headOf r)) ∧ R = rTab CR (stepsOf t)
theorem okr_ints {t : List (List Rat)} {n d e : Nat} (h : ∀ r ∈ t, r.length = n ∧ Bd d e r) : Okr n e (t.map intsR) := fun r hr => by
  obtain ⟨q, hq, rfl⟩ := List.mem_map.mp hr
  exact ⟨by unfold intsR; rw [List.length_map]; exact (h q hq).1, (h q hq).2.intsR⟩
theorem sc_steps_of : FnScope ["rows"] ["rows"] (defScope s_steps_of) := ⟨rfl, rfl, rfl, by decide +kernel, rfl, by decide +kernel, by decide +kernel⟩
theorem ok_steps_of (T : Txt K mg CR CH) (F : Fun K "steps_of" "steps_of" s_steps_of f fd) (C_ints_of : Cal P w K mg base "ints_of" 2 ["rows"] (spP (aIntsOf CR))) (C_int_steps : Cal P w K mg base "int_steps" 4 ["rows"] (spP aIntSteps)) (C_told_rows : Cal P w K mg base "told_rows" 4 ["steps_now"] (spP (aTold CR))) : FnOk P w K mg base CX0 5 f fd ["rows"] (spP (aSteps CR)) := by
  refine F.ok sc_steps_of (fun vs H Q E h => ?_) (fun cdv A outer s H vs Q E hr h => ?_)
  · obtain ⟨G, R, _, ⟨t, v, n, d, e, rfl, _⟩, _⟩ := h
    rfl
  · obtain ⟨G, R, gh, ⟨t, v, n, d, e, rfl, hv, hne, hb, hd, he, hn, hl, hp, rfl⟩, k⟩ := h
    refine ⟨_, (pss_one (ps_ret (pe_cal C_told_rows (hr.mono (by decide)) (by rfl) (pa_cons (pe_cal C_int_steps (hr.mono (by decide)) (by rfl) (pa_cons (pe_cal C_ints_of (hr.mono (by decide)) (by rfl) (pa_cons (pv 0) pa_nil)) pa_nil)) pa_nil)))), ?_⟩
    have okr := okr_ints hb
    have e8 : e ≤ 8999 := by
      have := Nat.two_pow_pos (n + 1)
      have h1 : 1 * (e + 1) ≤ 2 ^ (n + 1) * (e + 1) := Nat.mul_le_mul_right _ this
      omega
    obtain ⟨r0, rest, hr0⟩ := List.exists_cons_of_ne_nil hne
    have hwide : wideOf (t.map intsR) = n := by
      rw [hr0]
      show (intsR r0).length = n
      unfold intsR
      rw [List.length_map]
      exact (hb r0 (by rw [hr0]; exact List.mem_cons_self ..)).1
    have hall : ∀ r ∈ intSteps (t.map intsR), Hd r := fun r hr => by
      obtain ⟨c, ec, h1, h2⟩ := okr_steps okr n
      unfold intSteps at hr
      rw [hwide] at hr
      obtain ⟨l1, l2⟩ := h2 r hr
      obtain ⟨q1, q2⟩ := hp r (by unfold intSteps; rw [hwide]; exact hr)
      refine ⟨by omega, q1, q2, l2.mono ?_⟩
      rw [Nat.pow_succ] at he
      have : 2 ^ n * 2 * (e + 1) = 2 * (c + 1) := by rw [ec]; grind
      omega
    have hlen : (intSteps (t.map intsR)).length ≤ 1000 := by
      have := len_steps (t.map intsR) (wideOf (t.map intsR))
      unfold intSteps
      rw [List.length_map] at this
      omega
    refine q_ret gh (P := rTab CR (stepsOf t)) (ev_call (ea1 (P1 := rIT (intSteps (t.map intsR))) (ev_call (ea1 (P1 := rIT (t.map intsR)) (ev_call (ea1 (P1 := rTab CR t) (ev_var rfl hv)) fun G' H' vs _ _ ⟨u, e', e1⟩ => ⟨t, u, d, e, e', e1, fun r hr => ⟨(hb r hr).2, by have := (hb r hr).1; omega⟩, hd, by omega, by omega, rfl⟩)) fun G' H' vs _ _ ⟨u, e', e1⟩ => ⟨t.map intsR, u, n, e, e', e1, okr, by simpa using hne, he, hn, by rw [List.length_map]; exact hl, rfl⟩)) fun G' H' vs _ _ ⟨u, e', e1⟩ => ⟨intSteps (t.map intsR), u, e', e1, hall, hlen, rfl⟩) k
end
end K28
end
section
set_option Elab.async false
set_option linter.all false
set_option maxRecDepth 100000
set_option maxHeartbeats 4000000
set_option autoImplicit false
set_option exponentiation.threshold 20000
namespace K28
open PySem L2
section
variable {P : Program} {w : World} {K : PySem.W.Frag} {mg : Str → Option Value} {base : Heap} {CR CH : Addr} {f : Addr} {fd : FuncData}
abbrev rNT (CR : Addr) : List (List Nm) → HP := rLst (rLst (rNm CR))
def ratT (t : List (List Nm)) : List (List Rat) := t.map (·.map Nm.rat)
theorem ev_isl {α : Type} {r : α → HP} {xs : List α} {ta : TE} {σ : St} {G : Hp} (h : Ev ta σ G (rLst r xs)) : Ev (tCall (spP aLst) [] E0 (tCons ta tNil)) σ G (rBl true) :=
  ev_call (ea1 h) fun G' H' vs _ _ ⟨u, e, a, us, e1, e2, _⟩ => ⟨a, us, by rw [e, e1], e2, rfl⟩
def aAre (CR : Addr) : List V → Hp → Hp → HP → Prop := fun vs G _ R => ∃ (xs : List Nm) (v : V), vs = [v, .int (xs.length : Int)] ∧ rLst (rNm CR) xs G v ∧ xs.length ≤ 100000 ∧ R = rBl true
theorem sc_are_numbers : FnScope ["value", "wide", "number"] ["value", "wide"] (defScope s_are_numbers) := ⟨rfl, rfl, rfl, by decide +kernel, rfl, by decide +kernel, by decide +kernel⟩
theorem ok_are_numbers (T : Txt K mg CR CH) (F : Fun K "are_numbers" "are_numbers" s_are_numbers f fd) (C_is_list : Cal P w K mg base "is_list" 1 ["value"] (spP aLst)) (C_is_number : Cal P w K mg base "is_number" 2 ["value"] (spP (aNum CR))) : FnOk P w K mg base CX0 3 f fd ["value", "wide"] (spP (aAre CR)) := by
  refine F.ok sc_are_numbers (fun vs H Q E h => ?_) (fun cdv A outer s H vs Q E hr h => ?_)
  · obtain ⟨G, R, _, ⟨xs, v, rfl, _⟩, _⟩ := h
    rfl
  · obtain ⟨G, R, gh, ⟨xs, v, rfl, hv, hl, rfl⟩, k⟩ := h
    refine ⟨_, (pss_one (ps_ret (pe_and (pe_cal C_is_list (hr.mono (by decide)) (by rfl) (pa_cons (pv 0) pa_nil)) (pe_and (pe_cmpR op_eq (pe_callB (call_lenK K) (by rfl) T.len PySem.boot_len (pa_cons (pv 0) pa_nil)) (pv 1) (nomark _)) (pe_one (pe_callB (cr_allK K rfl) (by rfl) T.all (by decide +kernel) (pa_cons (pe_lc (own := [("number", 2)]) rfl sc_are_numbers.nd (pi_listK K (pv 0)) (blkOk_by (by kernel_rfl)) (fun _ _ _ _ _ => (pg_name (i := 2) sc_are_numbers.nd rfl (by first | exact Or.inl rfl | exact Or.inr rfl))) (fun _ _ _ _ _ => pts_nil) (fun _ _ _ _ _ => (pe_cal C_is_number (hr.mono (by decide)) (by rfl) (pa_cons (pv 2) pa_nil)))) pa_nil))))))), ?_⟩
    have ev0 : ∀ {σ : St} {G' : Hp}, σ[0]? = some (some v) → Same G G' → Ev (tVar 0) σ G' (rLst (rNm CR) xs) := fun e g => ev_var e (Mono.mono g hv)
    refine q_ret gh (P := rBl true) ?_ k
    refine ev_andV (b := true) (c := true) (ev_isl (ev0 rfl (.refl _))) fun _ G1 g1 => ?_
    refine ev_andV (b := true) (c := true) ((ev_eqI (ev_len (ev0 rfl g1)) (ev_var rfl rfl)).imp fun _ u _ e => ?_) fun _ G2 g2 => ?_
    · rw [show u = _ from e]
      exact congrArg V.bl (decide_eq_true rfl)
    refine ev_allT (ev0 rfl (g1.trans g2)) hl (fun _ => rfl) fun i x G3 u hx g hu => ev_call (ea1 (P1 := rNm CR x) (ev_var rfl hu)) fun G' H' vs _ _ ⟨u, e, e1⟩ => ?_
    cases x with
    | i z => exact .inl ⟨z, by rw [e, show u = _ from e1], rfl⟩
    | q z => exact .inr ⟨z, u, e, e1, rfl⟩
def aTin (CR : Addr) : List V → Hp → Hp → HP → Prop := fun vs G _ R => ∃ (t : List (List Nm)) (v : V) (n : Nat), vs = [v] ∧ rNT CR t G v ∧ SqX n t ∧ 1 ≤ n ∧ n ≤ 4 ∧ R = rTab CR (ratT t)
theorem sc_table_in : FnScope ["value", "row", "number"] ["value"] (defScope s_table_in) := ⟨rfl, rfl, rfl, by decide +kernel, rfl, by decide +kernel, by decide +kernel⟩
theorem ok_table_in (T : Txt K mg CR CH) (F : Fun K "table_in" "table_in" s_table_in f fd) (C_is_list : Cal P w K mg base "is_list" 1 ["value"] (spP aLst)) (C_are_numbers : Cal P w K mg base "are_numbers" 3 ["value", "wide"] (spP (aAre CR))) (C_ratio_of : Cal P w K mg base "ratio_of" 4 ["number"] (spP (aROf CR))) : FnOk P w K mg base CX0 5 f fd ["value"] (spP (aTin CR)) := by
  refine F.ok sc_table_in (fun vs H Q E h => ?_) (fun cdv A outer s H vs Q E hr h => ?_)
  · obtain ⟨G, R, _, ⟨t, v, n, rfl, _⟩, _⟩ := h
    rfl
  · obtain ⟨G, R, gh, ⟨t, v, n, rfl, hv, sq, h1, h4, rfl⟩, k⟩ := h
    refine ⟨_, (pss_cons (ps_if (PW.pt (pw_or (pt_not (pt_val (pe_cal C_is_list (hr.mono (by decide)) (by rfl) (pa_cons (pv 0) pa_nil)))) (pw_or1 (pt_not (pt_chain op_le op_le pe_int (pe_callB (call_lenK K) (by rfl) T.len PySem.boot_len (pa_cons (pv 0) pa_nil)) (pe_k4 rfl T.mst)))))) (pss_one (ps_ret pe_non)) pss_nil)
      (pss_cons (ps_if (pt_not (pt_val (pe_callB (cr_allK K rfl) (by rfl) T.all (by decide +kernel) (pa_cons (pe_lc (own := [("row", 1)]) rfl sc_table_in.nd (pi_listK K (pv 0)) (blkOk_by (by kernel_rfl)) (fun _ _ _ _ _ => (pg_name (i := 1) sc_table_in.nd rfl (by first | exact Or.inl rfl | exact Or.inr rfl))) (fun _ _ _ _ _ => pts_nil) (fun _ _ _ _ _ => (pe_cal C_are_numbers (hr.mono (by decide)) (by rfl) (pa_cons (pv 1) (pa_cons (pe_callB (call_lenK K) (by rfl) T.len PySem.boot_len (pa_cons (pv 0) pa_nil)) pa_nil))))) pa_nil)))) (pss_one (ps_ret pe_non)) pss_nil)
      (pss_one (ps_ret (pe_lc (own := [("row", 1)]) rfl sc_table_in.nd (pi_listK K (pv 0)) (blkOk_by (by kernel_rfl)) (fun _ _ _ _ _ => (pg_name (i := 1) sc_table_in.nd rfl (by first | exact Or.inl rfl | exact Or.inr rfl))) (fun _ _ _ _ _ => pts_nil) (fun _ _ _ _ _ => (pe_lc (own := [("number", 2)]) rfl sc_table_in.nd (pi_listK K (pv 1)) (blkOk_by (by kernel_rfl)) (fun _ _ _ _ _ => (pg_name (i := 2) sc_table_in.nd rfl (by first | exact Or.inl rfl | exact Or.inr rfl))) (fun _ _ _ _ _ => pts_nil) (fun _ _ _ _ _ => (pe_cal C_ratio_of (hr.mono (by decide)) (by rfl) (pa_cons (pv 2) pa_nil)))))))))), ?_⟩
    have ev0 : ∀ {σ : St} {G' : Hp}, σ[0]? = some (some v) → Same G G' → Ev (tVar 0) σ G' (rNT CR t) := fun e g => ev_var e (Mono.mono g hv)
    have e4 : (t.length : Int) = (n : Int) := by rw [sq.1]
    refine q_no gh (et_is (et_or (b := !true) (et_not (et_B (ev_isl (ev0 rfl (.refl _))))) fun _ G1 g1 => et_not (b := true) (et_test ((ev_chain2 (i := 1) (j := (t.length : Int)) (k := 4) ev_int (fun _ g => ev_len (ev0 rfl (g1.trans g))) fun _ _ => ev_int).imp fun _ u _ e => ?_))) rfl) fun G1 H1 s1 => ?_
    · rw [show u = _ from e]
      refine congrArg V.bl ?_
      rw [e4, Bool.and_eq_true]
      exact ⟨decide_eq_true (by omega), decide_eq_true (by omega)⟩
    refine q_no s1.gh (et_not (b := true) (et_B (ev_allT (ev0 rfl s1.gg) (by omega) (fun _ => rfl) fun i x G3 u hx g hu => ev_call (ea2 (P1 := rLst (rNm CR) x) (P2 := rInt (t.length : Int)) (ev_var rfl hu) fun G' g' => ev_len (ev0 rfl ((s1.gg.trans g).trans g'))) fun G' H' vs _ _ ⟨u, u', e, e1, e2⟩ => ⟨x, u, ?_, e1, ?_, rfl⟩))) fun G2 H2 s2 => ?_
    · rw [e, show u' = _ from e2, sq.1, sq.2 x (List.mem_of_getElem? hx)]
    · rw [sq.2 x (List.mem_of_getElem? hx)]; omega
    refine q_ret s2.gh (P := rTab CR (ratT t)) (ev_map (r := rLst (rNm CR)) (s := rRow CR) (fun x => x.map Nm.rat) (ev0 rfl (s1.gg.trans s2.gg)) (by omega) (fun _ => rfl) fun i x G3 u hx g hu => ?_) fun z G3 H3 s3 e3 => k z G3 H3 ((s1.trans s2).trans s3) e3
    refine ev_map (r := rNm CR) (s := rRat CR) Nm.rat (ev_var rfl hu) (by rw [sq.2 x (List.mem_of_getElem? hx)]; omega) (fun _ => rfl) fun j y G4 u' hy g' hu' => ev_call (ea1 (P1 := rNm CR y) (ev_var rfl hu')) fun G' H' vs _ _ ⟨u, e, e1⟩ => ⟨y, u, e, e1, rfl⟩
theorem sc_want_table : FnScope ["value", "found"] ["value"] (defScope s_want_table) := ⟨rfl, rfl, rfl, by decide +kernel, rfl, by decide +kernel, by decide +kernel⟩
theorem ok_want_table (T : Txt K mg CR CH) (F : Fun K "want_table" "want_table" s_want_table f fd) (C_table_in : Cal P w K mg base "table_in" 5 ["value"] (spP (aTin CR))) : FnOk P w K mg base CX0 6 f fd ["value"] (spP (aTin CR)) := by
  refine F.ok sc_want_table (fun vs H Q E h => ?_) (fun cdv A outer s H vs Q E hr h => ?_)
  · obtain ⟨G, R, _, ⟨t, v, n, rfl, _⟩, _⟩ := h
    rfl
  · obtain ⟨G, R, gh, ⟨t, v, n, rfl, hv, sq, h1, h4, rfl⟩, k⟩ := h
    refine ⟨_, (pss_cons (ps_set (i := 1) sc_want_table.nd rfl (by first | exact Or.inl rfl | exact Or.inr rfl) (pe_cal C_table_in (hr.mono (by decide)) (by rfl) (pa_cons (pv 0) pa_nil)))
      (pss_cons (ps_if (pt_cmpR op_isN (pv 1) pe_non (nomark _)) (pss_one ps_never) pss_nil)
      (pss_one (ps_ret (pv 1))))), ?_⟩
    refine q_asg gh (P := rTab CR (ratT t)) (ev_call (ea1 (P1 := rNT CR t) (ev_var rfl hv)) fun G' H' vs _ _ ⟨u, e, e1⟩ => ⟨t, u, n, e, e1, sq, h1, h4, rfl⟩) fun u G1 H1 s1 e1 => ?_
    refine q_no s1.gh (et_test (ev_isN (P1 := rTab CR (ratT t)) (ev_var rfl e1) fun _ _ e => not_non e)) fun G2 H2 s2 => ?_
    exact q_ret s2.gh (P := rTab CR (ratT t)) (ev_var rfl (Mono.mono s2.gg e1)) fun z G3 H3 s3 e3 => k z G3 H3 ((s1.trans s2).trans s3) e3
def aSized (CR : Addr) : List V → Hp → Hp → HP → Prop := fun vs G _ R => ∃ (t : List (List Nm)) (v : V) (n : Nat), vs = [v, .int (n : Int)] ∧ rNT CR t G v ∧ SqX n t ∧ 1 ≤ n ∧ n ≤ 4 ∧ R = rTab CR (ratT t)
theorem sc_want_sized : FnScope ["value", "size", "found"] ["value", "size"] (defScope s_want_sized) := ⟨rfl, rfl, rfl, by decide +kernel, rfl, by decide +kernel, by decide +kernel⟩
theorem ok_want_sized (T : Txt K mg CR CH) (F : Fun K "want_sized" "want_sized" s_want_sized f fd) (C_table_in : Cal P w K mg base "table_in" 5 ["value"] (spP (aTin CR))) : FnOk P w K mg base CX0 6 f fd ["value", "size"] (spP (aSized CR)) := by
  refine F.ok sc_want_sized (fun vs H Q E h => ?_) (fun cdv A outer s H vs Q E hr h => ?_)
  · obtain ⟨G, R, _, ⟨t, v, n, rfl, _⟩, _⟩ := h
    rfl
  · obtain ⟨G, R, gh, ⟨t, v, n, rfl, hv, sq, h1, h4, rfl⟩, k⟩ := h
    refine ⟨_, (pss_cons (ps_set (i := 2) sc_want_sized.nd rfl (by first | exact Or.inl rfl | exact Or.inr rfl) (pe_cal C_table_in (hr.mono (by decide)) (by rfl) (pa_cons (pv 0) pa_nil)))
      (pss_cons (ps_if (PW.pt (pw_or (pt_cmpR op_isN (pv 2) pe_non (nomark _)) (pw_or1 (pt_cmpR op_ne (pe_callB (call_lenK K) (by rfl) T.len PySem.boot_len (pa_cons (pv 2) pa_nil)) (pv 1) (nomark _))))) (pss_one ps_never) pss_nil)
      (pss_one (ps_ret (pv 2))))), ?_⟩
    refine q_asg gh (P := rTab CR (ratT t)) (ev_call (ea1 (P1 := rNT CR t) (ev_var rfl hv)) fun G' H' vs _ _ ⟨u, e, e1⟩ => ⟨t, u, n, e, e1, sq, h1, h4, rfl⟩) fun u G1 H1 s1 e1 => ?_
    refine q_no s1.gh (et_is (et_or (b := false) (et_test (ev_isN (P1 := rTab CR (ratT t)) (ev_var rfl e1) fun _ _ e => not_non e)) fun _ G2 g2 => et_test (ev_neI (ev_len (ev_var rfl (Mono.mono g2 e1))) (ev_var rfl rfl))) ?_) fun G2 H2 s2 => ?_
    · rw [Bool.false_or, Bool.not_eq_false']
      refine decide_eq_true ?_
      unfold ratT
      rw [List.length_map, sq.1]
    exact q_ret s2.gh (P := rTab CR (ratT t)) (ev_var rfl (Mono.mono s2.gg e1)) fun z G3 H3 s3 e3 => k z G3 H3 ((s1.trans s2).trans s3) e3
end
end K28
end
section
set_option Elab.async false
set_option linter.all false
set_option maxRecDepth 100000
set_option maxHeartbeats 4000000
set_option autoImplicit false
set_option exponentiation.threshold 20000
namespace K28
open PySem L2
section
variable {P : Program} {w : World} {K : PySem.W.Frag} {mg : Str → Option Value} {base : Heap} {CR CH : Addr} {f : Addr} {fd : FuncData}
def aBareT (CR : Addr) : List V → Hp → Hp → HP → Prop := fun vs G _ R => ∃ (t : List (List Rat)) (v : V) (n d e : Nat), vs = [v] ∧ rTab CR t G v ∧ SqX n t ∧ 1 ≤ n ∧ n ≤ 20 ∧ Bd d e t.flatten ∧ d ≤ 8999 ∧ e ≤ 400000 ∧ R = rPr rInt rIT ((lcmD t.flatten : Int), bareT t)
theorem sc_bare_table : FnScope ["table", "flat", "wide", "row", "bottom", "numbers", "at"] ["table"] (defScope s_bare_table) := ⟨rfl, rfl, rfl, by decide +kernel, rfl, by decide +kernel, by decide +kernel⟩
theorem ok_bare_table (T : Txt K mg CR CH) (F : Fun K "bare_table" "bare_table" s_bare_table f fd) (C_wholes : Cal P w K mg base "wholes" 1 ["ratios"] (spP (aWholes CR))) : FnOk P w K mg base CX0 2 f fd ["table"] (spP (aBareT CR)) := by
  refine F.ok sc_bare_table (fun vs H Q E h => ?_) (fun cdv A outer s H vs Q E hr h => ?_)
  · obtain ⟨G, R, _, ⟨t, v, n, d, e, rfl, _⟩, _⟩ := h
    rfl
  · obtain ⟨G, R, gh, ⟨t, v, n, d, e, rfl, hv, sq, h1, hn, bd, hd, he, rfl⟩, k⟩ := h
    refine ⟨_, (pss_cons (ps_if (pt_cmpR op_eq (pe_callB (call_lenK K) (by rfl) T.len PySem.boot_len (pa_cons (pv 0) pa_nil)) pe_int (nomark _)) (pss_one (ps_ret (pe_tup (pa_cons pe_int (pa_cons (pe_lst pa_nil) pa_nil))))) pss_nil)
      (pss_cons (ps_asg (pe_tup (pa_cons (pe_lst pa_nil) (pa_cons (pe_callB (call_lenK K) (by rfl) T.len PySem.boot_len (pa_cons (pe_ix (ix_listK K) (pv 0) pe_int (fun _ _ => rfl)) pa_nil)) pa_nil))) (pg_tupK (n := 2) K (by rfl) (pgs_cons (pg_name (i := 1) sc_bare_table.nd rfl (by first | exact Or.inl rfl | exact Or.inr rfl)) (pgs_cons (pg_name (i := 2) sc_bare_table.nd rfl (by first | exact Or.inl rfl | exact Or.inr rfl)) pgs_nil))))
      (pss_cons (ps_for PassesOwn.never rfl (pi_listK K (pv 0)) (pg_name (i := 3) sc_bare_table.nd rfl (by first | exact Or.inl rfl | exact Or.inr rfl)) (pss_one (ps_expr (pe_bm PySem.F.plainAttrs_list PySem.F.slot_list_extend PySem.F.type_list_extend mt_extend (pv 1) (pa_cons (pv 3) pa_nil)))))
      (pss_cons (ps_asg (pe_cal C_wholes (hr.mono (by decide)) (by rfl) (pa_cons (pv 1) pa_nil)) (pg_tupK (n := 2) K (by rfl) (pgs_cons (pg_name (i := 4) sc_bare_table.nd rfl (by first | exact Or.inl rfl | exact Or.inr rfl)) (pgs_cons (pg_name (i := 5) sc_bare_table.nd rfl (by first | exact Or.inl rfl | exact Or.inr rfl)) pgs_nil))))
      (pss_one (ps_ret (pe_tup (pa_cons (pv 4) (pa_cons (pe_lc (own := [("at", 6)]) rfl sc_bare_table.nd (pi_range1 (by rfl) T.range (pa_cons (pe_callB (call_lenK K) (by rfl) T.len PySem.boot_len (pa_cons (pv 0) pa_nil)) pa_nil)) (blkOk_by (by kernel_rfl)) (fun _ _ _ _ _ => (pg_name (i := 6) sc_bare_table.nd rfl (by first | exact Or.inl rfl | exact Or.inr rfl))) (fun _ _ _ _ _ => pts_nil) (fun _ _ _ _ _ => (pe_slice (sl_listK K) (pv 5) (po_some (pe_op op_mulW (pv 6) (pv 2))) (po_some (pe_op op_mulW (pe_op op_add (pv 6) pe_int) (pv 2)))))) pa_nil))))))))), ?_⟩
    have ev0 : ∀ {σ : St} {G' : Hp}, σ[0]? = some (some v) → Same G G' → Ev (tVar 0) σ G' (rTab CR t) := fun e g => ev_var e (Mono.mono g hv)
    have hfl : t.flatten.length = n * n := by rw [len_flat sq.2, sq.1]
    have hfl2 : n * n ≤ 400 := Nat.mul_le_mul hn hn
    have h0 : t[0]? = some (t.getD 0 []) := by rw [List.getD_eq_getElem?_getD, List.getElem?_eq_getElem (by rw [sq.1]; omega)]; rfl
    refine q_no gh (et_test ((ev_eqI (ev_len (ev0 rfl (.refl _))) ev_int).imp fun _ u _ e => ?_)) fun G1 H1 s1 => ?_
    · rw [show u = _ from e]
      exact congrArg V.bl (decide_eq_false (by rw [sq.1]; omega))
    -- flat, wide = ([], len(table[0]))
    refine ⟨Nat.zero_le _, fun p hp => ?_⟩
    have s2 : Stp G H G1 (upd H1 p (.lst [])) := s1.trans (Stp.aside s1.gh hp)
    have hp0 : H p = none := s1.hh.free hp
    have o0 : Own (rRat CR) [] p G1 (upd H1 p (.lst [])) := ⟨s1.gh.free hp, [], upd_same, .nil⟩
    refine (ev_len (r := rRat CR) (xs := t.getD 0 []) (ev_ix (r := rRow CR) (j := 0) (ev0 rfl s1.gg) (fun _ _ => ev_int) rfl h0)) _ s2.gh _ fun z G3 H3 s3 e3 => ?_
    have e3' : z = .int (n : Int) := by rw [show z = _ from e3, sq.2 _ (List.mem_of_getElem? h0)]
    cases e3'
    refine ⟨by show 2 ≤ sizeLine; decide, fun q hq => ⟨q, _, rfl, .inl (.inl upd_same), rfl, _, _, rfl, _, _, rfl, rfl, ?_⟩⟩
    replace s3 := s3.trans (Stp.aside (o := .tup [.ref p, .int (n : Int)]) s3.gh hq)
    refine q_for (G0 := G) (H0 := H) (s2.trans s3) (src_list (r := rRow CR) (xs := t) (ev0 rfl (s2.trans s3).gg)) (fun i G' H' σ' => ∃ a b c d, σ' = [some v, some (.ref p), some (.int (n : Int)), a, b, c, d] ∧ Own (rRat CR) (t.take i).flatten p G' H') (fun i G1 H1 G2 H2 σ s ⟨a, b, c, d, e, o⟩ => ⟨a, b, c, d, e, o.step s⟩) (fun G2 H2 s4 => ⟨none, none, none, none, rfl, (o0.step s3).step s4⟩) ?_ ?_
    · rintro i G4 H4 σ4 x hi s4 g4 ⟨a, b, c, d', rfl, o⟩ ⟨row, hrow, rx⟩ N hN
      have hi' := List.getElem?_eq_some_iff.mp hrow
      refine s_growE (r := rRat CR) (ys := row) s4 hp0 o rfl (ev_var rfl rx) ?_ fun G5 H5 s5 g5 o5 => ?_
      · have q1 : (t.take i).flatten.length = i * n := by
          rw [len_flat (w := n) fun r hr => sq.2 r (List.mem_of_mem_take hr), List.length_take, Nat.min_eq_left (by omega)]
        have q2 : i * n ≤ n * n := Nat.mul_le_mul_right _ (by rw [← sq.1]; omega)
        rw [q1, sq.2 row (List.mem_of_getElem? hrow)]
        omega
      · refine hN _ G5 H5 s5 g5 ⟨_, _, _, _, rfl, ?_⟩
        rw [List.take_succ_eq_append_getElem hi'.1, hi'.2, List.flatten_append]
        simpa using o5
    · rintro G4 H4 σ4 s4 g4 ⟨a, b, c, d', rfl, o⟩
      rw [List.take_length] at o
      obtain ⟨G5, s5, g5, hfl5⟩ := o.frz s4 hp0
      refine q_pair (r := rInt) (s := rIR) s5.gh (ev_call (P := rPr rInt rIR ((lcmD t.flatten : Int), intsR t.flatten)) (ea1 (P1 := rRow CR t.flatten) (ev_var rfl hfl5)) fun G' H' vs _ _ ⟨u, e', e1⟩ => ⟨t.flatten, u, d, e, e', e1, bd, hd, he, by omega, rfl⟩) fun x1 x2 G6 H6 s6 e6 e6' => ?_
      cases (show x1 = _ from e6)
      refine q_ret s6.gh (P := rPr rInt rIT ((lcmD t.flatten : Int), bareT t)) (ev_pair (r := rInt) (s := rIT) (ev_var rfl rfl) fun G7 g7 => ?_) fun z G7 H7 s7 e7 => k z G7 H7 ((s5.trans s6).trans s7) e7
      have eb : bareT t = (List.range n).map fun i => intsD (lcmD t.flatten) (t.getD i []) := by
        refine List.ext_getElem? fun i => ?_
        unfold bareT
        rw [List.getElem?_map, List.getElem?_map]
        by_cases hi : i < n
        · rw [List.getElem?_range hi, List.getElem?_eq_getElem (by rw [sq.1]; exact hi)]
          show _ = some (intsD _ (t.getD i []))
          rw [List.getD_eq_getElem?_getD, List.getElem?_eq_getElem (by rw [sq.1]; exact hi)]; rfl
        · rw [List.getElem?_eq_none (by rw [sq.1]; omega), List.getElem?_eq_none (by simp; omega)]; rfl
      rw [eb]
      refine ev_mapR (s := rIR) (fun i => intsD (lcmD t.flatten) (t.getD i [])) (n := n) (ev_len (ev0 rfl ((s5.trans s6).gg.trans g7))) (by rw [sq.1]) (by omega) (fun _ => rfl) fun i G8 hi g8 => ?_
      have hrow : t[i]? = some (t.getD i []) := by rw [List.getD_eq_getElem?_getD, List.getElem?_eq_getElem (by rw [sq.1]; omega)]; rfl
      rw [← ints_cut i sq.2 hrow]
      have hl : (intsR t.flatten).length = n * n := by unfold intsR; rw [List.length_map, hfl]
      have q1 : i * n ≤ n * n := Nat.mul_le_mul_right _ (by omega)
      have q2 : (i + 1) * n ≤ n * n := Nat.mul_le_mul_right _ (by omega)
      have i9 : (i : Int).natAbs < 2 ^ 10 := by rw [Int.natAbs_natCast]; exact Nat.lt_of_lt_of_le (show i < 20 by omega) (by decide)
      have i9' : ((i : Int) + 1).natAbs < 2 ^ 10 := by
        have : ((i : Int) + 1).natAbs = i + 1 := by omega
        rw [this]; exact Nat.lt_of_lt_of_le (show i + 1 < 22 by omega) (by decide)
      have n9 : (n : Int).natAbs < 2 ^ 10 := by rw [Int.natAbs_natCast]; exact Nat.lt_of_lt_of_le (show n < 21 by omega) (by decide)
      exact ev_mid (ev_var rfl (Mono.mono (g7.trans g8) e6')) (fun _ _ => ev_I (i := (i : Int)) (j := (n : Int)) (ev_var rfl rfl) (ev_var rfl rfl) (mulok i9 n9 (by decide))) (fun _ _ => ev_I (j := (n : Int)) (ev_I0 (i := (i : Int)) (j := 1) (ev_var rfl rfl) ev_int) (ev_var rfl rfl) (mulok i9' n9 (by decide))) (by rw [Int.natCast_mul]) (by rw [Int.natCast_mul, Int.natCast_add]; rfl) (by omega) (by omega)
def aIProd : List V → Hp → Hp → HP → Prop := fun vs G _ R => ∃ (t u : List (List Int)) (v x : V) (n a b : Nat), vs = [v, x] ∧ rIT t G v ∧ rIT u G x ∧ SqX n t ∧ SqX n u ∧ 1 ≤ n ∧ n ≤ 20 ∧ (∀ r ∈ t, Lt a r) ∧ (∀ r ∈ u, Lt b r) ∧ a + b < 1000000 ∧ R = rIT (iprod t u)
theorem sc_int_product : FnScope ["rows", "others", "wide", "number", "line", "to", "row"] ["rows", "others"] (defScope s_int_product) := ⟨rfl, rfl, rfl, by decide +kernel, rfl, by decide +kernel, by decide +kernel⟩
theorem ok_int_product (T : Txt K mg CR CH) (F : Fun K "int_product" "int_product" s_int_product f fd) : FnOk P w K mg base CX0 1 f fd ["rows", "others"] (spP aIProd) := by
  refine F.ok sc_int_product (fun vs H Q E h => ?_) (fun cdv A outer s H vs Q E hr h => ?_)
  · obtain ⟨G, R, _, ⟨t, u, v, x, n, a, b, rfl, _⟩, _⟩ := h
    rfl
  · obtain ⟨G, R, gh, ⟨t, u, v, x, n, a, b, rfl, hv, hx, sq, sq', h1, hn, lt, lu, hab, rfl⟩, k⟩ := h
    refine ⟨_, (pss_cons (ps_set (i := 2) sc_int_product.nd rfl (by first | exact Or.inl rfl | exact Or.inr rfl) (pe_ifExp (pt_cmpR op_gt (pe_callB (call_lenK K) (by rfl) T.len PySem.boot_len (pa_cons (pv 1) pa_nil)) pe_int (nomark _)) (pe_callB (call_lenK K) (by rfl) T.len PySem.boot_len (pa_cons (pe_ix (ix_listK K) (pv 1) pe_int (fun _ _ => rfl)) pa_nil)) pe_int))
      (pss_one (ps_ret (pe_lc (own := [("row", 6)]) rfl sc_int_product.nd (pi_listK K (pv 0)) (blkOk_by (by kernel_rfl)) (fun _ _ _ _ _ => (pg_name (i := 6) sc_int_product.nd rfl (by first | exact Or.inl rfl | exact Or.inr rfl))) (fun _ _ _ _ _ => pts_nil) (fun _ _ _ _ _ => (pe_lc (own := [("to", 5)]) rfl sc_int_product.nd (pi_range1 (by rfl) T.range (pa_cons (pv 2) pa_nil)) (blkOk_by (by kernel_rfl)) (fun _ _ _ _ _ => (pg_name (i := 5) sc_int_product.nd rfl (by first | exact Or.inl rfl | exact Or.inr rfl))) (fun _ _ _ _ _ => pts_nil) (fun _ _ _ _ _ => (pe_callB (cr_sumK K rfl) (by rfl) T.sum (by decide +kernel) (pa_cons (pe_lc (own := [("number", 3), ("line", 4)]) rfl sc_int_product.nd (pi_zipK K (by rfl) T.zip (pa_cons (pv 6) (pa_cons (pv 1) pa_nil))) (blkOk_by (by kernel_rfl)) (fun _ _ _ _ _ => (pg_tupK (n := 2) K (by rfl) (pgs_cons (pg_name (i := 3) sc_int_product.nd rfl (by first | exact Or.inl rfl | exact Or.inr rfl)) (pgs_cons (pg_name (i := 4) sc_int_product.nd rfl (by first | exact Or.inl rfl | exact Or.inr rfl)) pgs_nil)))) (fun _ _ _ _ _ => pts_nil) (fun _ _ _ _ _ => (pe_op op_mulW (pv 3) (pe_ix (ix_listK K) (pv 4) (pv 5) (fun _ _ => rfl))))) pa_nil))))))))), ?_⟩
    have ev0 : ∀ {σ : St} {G' : Hp}, σ[0]? = some (some v) → Same G G' → Ev (tVar 0) σ G' (rIT t) := fun e g => ev_var e (Mono.mono g hv)
    have ev1 : ∀ {σ : St} {G' : Hp}, σ[1]? = some (some x) → Same G G' → Ev (tVar 1) σ G' (rIT u) := fun e g => ev_var e (Mono.mono g hx)
    have h0 : u[0]? = some (u.getD 0 []) := by rw [List.getD_eq_getElem?_getD, List.getElem?_eq_getElem (by rw [sq'.1]; omega)]; rfl
    have hw := wideOf_sq sq' h1
    refine q_asg gh (P := rInt (n : Int)) (ev_if (b := true) (et_test ((ev_I0 (ev_len (ev1 rfl (.refl _))) ev_int).imp fun _ z _ e => ?_)) (fun _ G1 g1 => (ev_len (r := rInt) (xs := u.getD 0 []) (ev_ix (r := rIR) (j := 0) (ev1 rfl g1) (fun _ _ => ev_int) rfl h0)).imp fun _ z _ e => ?_) fun e => nomatch e) fun z G1 H1 s1 e1 => ?_
    · rw [show z = _ from e]
      exact congrArg V.bl (decide_eq_true (by rw [sq'.1]; omega))
    · rw [show z = _ from e, sq'.2 _ (List.mem_of_getElem? h0)]; rfl
    cases (show z = _ from e1)
    refine q_ret s1.gh (P := rIT (iprod t u)) ?_ fun z G2 H2 s2 e2 => k z G2 H2 (s1.trans s2) e2
    unfold iprod
    rw [hw]
    refine ev_map (r := rIR) (s := rIR) (fun row => (List.range n).map fun to => (List.zipWith (fun n line => n * at0 line to) row u).sum) (ev0 rfl s1.gg) (by rw [sq.1]; omega) (fun _ => rfl) fun i row G2 y hy g2 ry => ?_
    refine ev_mapR (s := rInt) (fun to => (List.zipWith (fun n line => n * at0 line to) row u).sum) (n := n) (ev_var rfl rfl) rfl (by omega) (fun _ => rfl) fun j G3 hj g3 => ?_
    refine ev_sum (ev_mapZ (r := rInt) (s := rIR) (t := rInt) (fun n line => n * at0 line j) (ev_var rfl (Mono.mono g3 ry)) (fun G' g => ev1 rfl (((s1.gg.trans g2).trans g3).trans g)) (by rw [sq.2 row (List.mem_of_getElem? hy)]; omega) (fun _ _ => rfl) fun m z line G4 z' l' hz hl g4 rz rl => ?_)
    have hu := List.mem_of_getElem? hl
    exact ev_I (ev_var rfl rz) (ev_ix (r := rInt) (j := j) (ev_var rfl rl) (fun _ _ => ev_var rfl rfl) rfl (at0_some (by rw [sq'.2 _ hu]; exact hj))) (mulok (lt row (List.mem_of_getElem? hy) z (List.mem_of_getElem? hz)) ((lu line hu).at0 j) hab)
def aOver (CR : Addr) : List V → Hp → Hp → HP → Prop := fun vs G _ R => ∃ (t : List (List Int)) (D : Int) (v : V), vs = [v, .int D] ∧ rIT t G v ∧ t.length ≤ 1000 ∧ (∀ r ∈ t, r.length ≤ 1000) ∧ 0 < D ∧ D.natAbs < 2 ^ 8999 ∧ R = rTab CR (overB t D)
theorem sc_over_bottom : FnScope ["rows", "bottom", "number", "row"] ["rows", "bottom"] (defScope s_over_bottom) := ⟨rfl, rfl, rfl, by decide +kernel, rfl, by decide +kernel, by decide +kernel⟩
theorem ok_over_bottom (T : Txt K mg CR CH) (F : Fun K "over_bottom" "over_bottom" s_over_bottom f fd) (C_Ratio2 : CalMk P w K mg base "Ratio" CR 2 ["self", "top", "bottom"] [] (spInit CR)) : FnOk P w K mg base CX0 4 f fd ["rows", "bottom"] (spP (aOver CR)) := by
  refine F.ok sc_over_bottom (fun vs H Q E h => ?_) (fun cdv A outer s H vs Q E hr h => ?_)
  · obtain ⟨G, R, _, ⟨t, D, v, rfl, _⟩, _⟩ := h
    rfl
  · obtain ⟨G, R, gh, ⟨t, D, v, rfl, hv, hl, hl2, h0, hD, rfl⟩, k⟩ := h
    refine ⟨_, (pss_one (ps_ret (pe_lc (own := [("row", 3)]) rfl sc_over_bottom.nd (pi_listK K (pv 0)) (blkOk_by (by kernel_rfl)) (fun _ _ _ _ _ => (pg_name (i := 3) sc_over_bottom.nd rfl (by first | exact Or.inl rfl | exact Or.inr rfl))) (fun _ _ _ _ _ => pts_nil) (fun _ _ _ _ _ => (pe_lc (own := [("number", 2)]) rfl sc_over_bottom.nd (pi_listK K (pv 3)) (blkOk_by (by kernel_rfl)) (fun _ _ _ _ _ => (pg_name (i := 2) sc_over_bottom.nd rfl (by first | exact Or.inl rfl | exact Or.inr rfl))) (fun _ _ _ _ _ => pts_nil) (fun _ _ _ _ _ => (pe_mk C_Ratio2 (hr.mono (by decide)) (by rfl) (pa_cons (pv 2) (pa_cons (pv 1) pa_nil))))))))), ?_⟩
    refine q_ret gh (P := rTab CR (overB t D)) (ev_map (r := rIR) (s := rRow CR) (fun row => row.map fun n => Rat.divInt n D) (ev_var rfl hv) (by omega) (fun _ => rfl) fun i row G1 u hu g1 ru => ?_) k
    exact ev_map (r := rInt) (s := rRat CR) (fun n => Rat.divInt n D) (ev_var rfl ru) (by have := hl2 row (List.mem_of_getElem? hu); omega) (fun _ => rfl) fun j z G2 u2 hz g2 rz => ev_ratio2 (ev_var rfl rz) (fun _ _ => ev_var rfl rfl) h0 hD
def aIdle (CR : Addr) : List V → Hp → Hp → HP → Prop := fun vs _ _ R => ∃ n : Nat, vs = [.int (n : Int)] ∧ n ≤ 1000 ∧ R = rTab CR (idleT n)
theorem sc_idle_of : FnScope ["size", "to", "at"] ["size"] (defScope s_idle_of) := ⟨rfl, rfl, rfl, by decide +kernel, rfl, by decide +kernel, by decide +kernel⟩
theorem ok_idle_of (T : Txt K mg CR CH) (F : Fun K "idle_of" "idle_of" s_idle_of f fd) (C_Ratio1 : CalMk P w K mg base "Ratio" CR 2 ["self", "top", "bottom"] [.int 1] (spInit CR)) : FnOk P w K mg base CX0 4 f fd ["size"] (spP (aIdle CR)) := by
  refine F.ok sc_idle_of (fun vs H Q E h => ?_) (fun cdv A outer s H vs Q E hr h => ?_)
  · obtain ⟨G, R, _, ⟨n, rfl, _⟩, _⟩ := h
    rfl
  · obtain ⟨G, R, gh, ⟨n, rfl, hn, rfl⟩, k⟩ := h
    refine ⟨_, (pss_one (ps_ret (pe_lc (own := [("at", 2)]) rfl sc_idle_of.nd (pi_range1 (by rfl) T.range (pa_cons (pv 0) pa_nil)) (blkOk_by (by kernel_rfl)) (fun _ _ _ _ _ => (pg_name (i := 2) sc_idle_of.nd rfl (by first | exact Or.inl rfl | exact Or.inr rfl))) (fun _ _ _ _ _ => pts_nil) (fun _ _ _ _ _ => (pe_lc (own := [("to", 1)]) rfl sc_idle_of.nd (pi_range1 (by rfl) T.range (pa_cons (pv 0) pa_nil)) (blkOk_by (by kernel_rfl)) (fun _ _ _ _ _ => (pg_name (i := 1) sc_idle_of.nd rfl (by first | exact Or.inl rfl | exact Or.inr rfl))) (fun _ _ _ _ _ => pts_nil) (fun _ _ _ _ _ => (pe_mk C_Ratio1 (hr.mono (by decide)) (by rfl) (pa_cons (pe_callTy call_int1 (by rfl) T.int (by decide +kernel) (pa_cons (pe_cmpR op_eq (pv 2) (pv 1) (nomark _)) pa_nil)) pa_nil)))))))), ?_⟩
    refine q_ret gh (P := rTab CR (idleT n)) (ev_mapR (s := rRow CR) (fun i => (List.range n).map fun j => (((if i = j then 1 else 0 : Int)) : Rat)) (n := n) (ev_var rfl rfl) rfl (by omega) (fun _ => rfl) fun i G1 hi g1 => ?_) k
    refine ev_mapR (s := rRat CR) (fun j => (((if i = j then 1 else 0 : Int)) : Rat)) (n := n) (ev_var rfl rfl) rfl (by omega) (fun _ => rfl) fun j G2 hj g2 => ?_
    refine ev_ratio1 ((ev_intB (c := decide ((i : Int) = (j : Int))) (ev_eqI (ev_var rfl rfl) (ev_var rfl rfl))).imp fun _ u _ e => ?_)
    rw [show u = _ from e]
    show V.int _ = V.int _
    congr 1
    by_cases h : i = j
    · subst h; simp
    · rw [if_neg h, if_neg (by simp; omega)]
def aProd (CR : Addr) : List V → Hp → Hp → HP → Prop := fun vs G _ R => ∃ (t u : List (List Rat)) (v x : V) (n d e d' e' : Nat), vs = [v, x] ∧ rTab CR t G v ∧ rTab CR u G x ∧ SqX n t ∧ SqX n u ∧ 1 ≤ n ∧ n ≤ 20 ∧ Bd d e t.flatten ∧ Bd d' e' u.flatten ∧ d + d' ≤ 8999 ∧ e ≤ 400000 ∧ e' ≤ 400000 ∧ R = rTab CR (prodT t u)
theorem sc_product_of : FnScope ["table", "other", "bottom", "rows", "below", "others"] ["table", "other"] (defScope s_product_of) := ⟨rfl, rfl, rfl, by decide +kernel, rfl, by decide +kernel, by decide +kernel⟩
theorem ok_product_of (T : Txt K mg CR CH) (F : Fun K "product_of" "product_of" s_product_of f fd) (C_bare_table : Cal P w K mg base "bare_table" 2 ["table"] (spP (aBareT CR))) (C_int_product : Cal P w K mg base "int_product" 1 ["rows", "others"] (spP aIProd)) (C_over_bottom : Cal P w K mg base "over_bottom" 4 ["rows", "bottom"] (spP (aOver CR))) : FnOk P w K mg base CX0 5 f fd ["table", "other"] (spP (aProd CR)) := by
  refine F.ok sc_product_of (fun vs H Q E h => ?_) (fun cdv A outer s H vs Q E hr h => ?_)
  · obtain ⟨G, R, _, ⟨t, u, v, x, n, d, e, d', e', rfl, _⟩, _⟩ := h
    rfl
  · obtain ⟨G, R, gh, ⟨t, u, v, x, n, d, e, d', e', rfl, hv, hx, sq, sq', h1, hn, bd, bd', hd, he, he', rfl⟩, k⟩ := h
    refine ⟨_, (pss_cons (ps_asg (pe_cal C_bare_table (hr.mono (by decide)) (by rfl) (pa_cons (pv 0) pa_nil)) (pg_tupK (n := 2) K (by rfl) (pgs_cons (pg_name (i := 2) sc_product_of.nd rfl (by first | exact Or.inl rfl | exact Or.inr rfl)) (pgs_cons (pg_name (i := 3) sc_product_of.nd rfl (by first | exact Or.inl rfl | exact Or.inr rfl)) pgs_nil))))
      (pss_cons (ps_asg (pe_cal C_bare_table (hr.mono (by decide)) (by rfl) (pa_cons (pv 1) pa_nil)) (pg_tupK (n := 2) K (by rfl) (pgs_cons (pg_name (i := 4) sc_product_of.nd rfl (by first | exact Or.inl rfl | exact Or.inr rfl)) (pgs_cons (pg_name (i := 5) sc_product_of.nd rfl (by first | exact Or.inl rfl | exact Or.inr rfl)) pgs_nil))))
      (pss_one (ps_ret (pe_cal C_over_bottom (hr.mono (by decide)) (by rfl) (pa_cons (pe_cal C_int_product (hr.mono (by decide)) (by rfl) (pa_cons (pv 3) (pa_cons (pv 5) pa_nil))) (pa_cons (pe_op op_mulW (pv 2) (pv 4)) pa_nil))))))), ?_⟩
    refine q_pair (r := rInt) (s := rIT) gh (ev_call (P := rPr rInt rIT ((lcmD t.flatten : Int), bareT t)) (ea1 (P1 := rTab CR t) (ev_var rfl hv)) fun G' H' vs _ _ ⟨y, e', e1⟩ => ⟨t, y, n, d, e, e', e1, sq, h1, hn, bd, by omega, he, rfl⟩) fun x1 x2 G1 H1 s1 e1 e2 => ?_
    cases (show x1 = _ from e1)
    refine q_pair (r := rInt) (s := rIT) s1.gh (ev_call (P := rPr rInt rIT ((lcmD u.flatten : Int), bareT u)) (ea1 (P1 := rTab CR u) (ev_var rfl (Mono.mono s1.gg hx))) fun G' H' vs _ _ ⟨y, e0, e1⟩ => ⟨u, y, n, d', e', e0, e1, sq', h1, hn, bd', by omega, he', rfl⟩) fun x3 x4 G2 H2 s2 e3 e4 => ?_
    cases (show x3 = _ from e3)
    have l1 : ((lcmD t.flatten : Int)).natAbs < 2 ^ d := by rw [Int.natAbs_natCast]; exact bd.lcm
    have l2 : ((lcmD u.flatten : Int)).natAbs < 2 ^ d' := by rw [Int.natAbs_natCast]; exact bd'.lcm
    have len : (iprod (bareT t) (bareT u)).length ≤ 1000 := by unfold iprod bareT; rw [List.length_map, List.length_map, sq.1]; omega
    have len2 : ∀ r ∈ iprod (bareT t) (bareT u), r.length ≤ 1000 := fun r hr => by
      unfold iprod at hr
      obtain ⟨q, _, rfl⟩ := List.mem_map.mp hr
      rw [List.length_map, List.length_range, wideOf_sq (sq_bare sq') h1]
      omega
    refine q_ret s2.gh (P := rTab CR (prodT t u)) (ev_call (ea2 (P1 := rIT (iprod (bareT t) (bareT u))) (P2 := rInt ((lcmD t.flatten : Int) * (lcmD u.flatten : Int))) (ev_call (ea2 (P1 := rIT (bareT t)) (P2 := rIT (bareT u)) (ev_var rfl (Mono.mono s2.gg e2)) fun G' g => ev_var rfl (Mono.mono g e4)) fun G' H' vs _ _ ⟨y, y', e0, e1, e2⟩ => ⟨bareT t, bareT u, y, y', n, e, e', e0, e1, e2, sq_bare sq, sq_bare sq', h1, hn, bd_bare bd, bd_bare bd', by omega, rfl⟩) fun G' g => ev_I (ev_var rfl rfl) (ev_var rfl rfl) (mulok l1 l2 (by omega))) fun G' H' vs _ _ ⟨y, y', e0, e1, e2⟩ => ⟨_, _, y, by rw [e0, show y' = _ from e2], e1, len, len2, Int.mul_pos (by have := lcmD_pos t.flatten; omega) (by have := lcmD_pos u.flatten; omega), lt_up (abs_mul_lt l1 l2) hd, rfl⟩) fun z G3 H3 s3 e3 => k z G3 H3 ((s1.trans s2).trans s3) e3
def aLine (CR : Addr) : List V → Hp → Hp → HP → Prop := fun vs G _ R => ∃ (t : List (List Rat)) (v : V) (n d e : Nat), vs = [v] ∧ rTab CR t G v ∧ SqX n t ∧ n ≤ 20 ∧ Bd d e t.flatten ∧ d ≤ 3000 ∧ e ≤ 3000 ∧ R = rRat CR (trT t)
theorem sc_line_sum : FnScope ["table", "at", "row"] ["table"] (defScope s_line_sum) := ⟨rfl, rfl, rfl, by decide +kernel, rfl, by decide +kernel, by decide +kernel⟩
theorem ok_line_sum (T : Txt K mg CR CH) (F : Fun K "line_sum" "line_sum" s_line_sum f fd) (C_total_of : Cal P w K mg base "total_of" 6 ["ratios"] (spP (aTot CR))) : FnOk P w K mg base CX0 7 f fd ["table"] (spP (aLine CR)) := by
  refine F.ok sc_line_sum (fun vs H Q E h => ?_) (fun cdv A outer s H vs Q E hr h => ?_)
  · obtain ⟨G, R, _, ⟨t, v, n, d, e, rfl, _⟩, _⟩ := h
    rfl
  · obtain ⟨G, R, gh, ⟨t, v, n, d, e, rfl, hv, sq, hn, bd, hd, he, rfl⟩, k⟩ := h
    refine ⟨_, (pss_one (ps_ret (pe_cal C_total_of (hr.mono (by decide)) (by rfl) (pa_cons (pe_lc (own := [("at", 1), ("row", 2)]) rfl sc_line_sum.nd (pi_enumK K (by rfl) T.enumerate (pa_cons (pv 0) pa_nil)) (blkOk_by (by kernel_rfl)) (fun _ _ _ _ _ => (pg_tupK (n := 2) K (by rfl) (pgs_cons (pg_name (i := 1) sc_line_sum.nd rfl (by first | exact Or.inl rfl | exact Or.inr rfl)) (pgs_cons (pg_name (i := 2) sc_line_sum.nd rfl (by first | exact Or.inl rfl | exact Or.inr rfl)) pgs_nil)))) (fun _ _ _ _ _ => pts_nil) (fun _ _ _ _ _ => (pe_ix (ix_listK K) (pv 2) (pv 1) (fun _ _ => rfl)))) pa_nil)))), ?_⟩
    have hrow : ∀ i, i < n → t[i]? = some (t.getD i []) := fun i hi => by rw [List.getD_eq_getElem?_getD, List.getElem?_eq_getElem (by rw [sq.1]; exact hi)]; rfl
    have hent : ∀ i, i < n → (t.getD i [])[i]? = some (ent t i i) := fun i hi => by
      unfold ent
      generalize hg : t.getD i [] = row
      have hm := sq.2 row (by rw [← hg]; exact List.mem_of_getElem? (hrow i hi))
      rw [List.getD_eq_getElem?_getD, List.getElem?_eq_getElem (by rw [hm]; exact hi)]; rfl
    refine q_ret gh (P := rRat CR (trT t)) (ev_call (ea1 (P1 := rRow CR ((List.range t.length).map fun i => ent t i i)) (ev_lc (r := rRat CR) _ (src_enum (r := rRow CR) (xs := t) (ev_var rfl hv)) (by simp) (by rw [sq.1]; omega) fun i z G1 x hz g1 ⟨row, hr, rx⟩ => tg2 rx fun u u' ru ru' => ⟨rfl, ?_⟩)) fun G' H' vs _ _ ⟨u, e0, e1⟩ => ⟨_, u, d, e, e0, e1, bd.sub fun q hq => ?_, hd, he, by simp [sq.1]; omega, rfl⟩) k
    · have hi : i < n := by rw [← sq.1]; exact (List.getElem?_eq_some_iff.mp hr).1
      rw [List.getElem?_map, List.getElem?_range (by rw [sq.1]; exact hi)] at hz
      have er : row = t.getD i [] := by rw [hrow i hi] at hr; exact (Option.some.inj hr).symm
      subst er
      have ez : z = ent t i i := (Option.some.inj hz).symm
      subst ez
      exact ev_ix (r := rRat CR) (j := i) (ev_var rfl ru') (fun _ _ => ev_var rfl ru) rfl (hent i hi)
    · obtain ⟨i, hi, rfl⟩ := List.mem_map.mp hq
      have hi : i < n := by rw [← sq.1]; exact List.mem_range.mp hi
      exact List.mem_flatten.mpr ⟨_, List.mem_of_getElem? (hrow i hi), List.mem_of_getElem? (hent i hi)⟩
def aAbout (CR : Addr) : List V → Hp → Hp → HP → Prop := fun vs G _ R => ∃ (t : List (List Rat)) (v : V) (n : Nat), vs = [v] ∧ rTab CR t G v ∧ SqX n t ∧ n ≤ 1000 ∧ R = rTab CR (aboT t)
theorem sc_about_of : FnScope ["table", "row", "place"] ["table"] (defScope s_about_of) := ⟨rfl, rfl, rfl, by decide +kernel, rfl, by decide +kernel, by decide +kernel⟩
theorem ok_about_of (T : Txt K mg CR CH) (F : Fun K "about_of" "about_of" s_about_of f fd) : FnOk P w K mg base CX0 1 f fd ["table"] (spP (aAbout CR)) := by
  refine F.ok sc_about_of (fun vs H Q E h => ?_) (fun cdv A outer s H vs Q E hr h => ?_)
  · obtain ⟨G, R, _, ⟨t, v, n, rfl, _⟩, _⟩ := h
    rfl
  · obtain ⟨G, R, gh, ⟨t, v, n, rfl, hv, sq, hn, rfl⟩, k⟩ := h
    refine ⟨_, (pss_one (ps_ret (pe_lc (own := [("place", 2)]) rfl sc_about_of.nd (pi_range1 (by rfl) T.range (pa_cons (pe_callB (call_lenK K) (by rfl) T.len PySem.boot_len (pa_cons (pv 0) pa_nil)) pa_nil)) (blkOk_by (by kernel_rfl)) (fun _ _ _ _ _ => (pg_name (i := 2) sc_about_of.nd rfl (by first | exact Or.inl rfl | exact Or.inr rfl))) (fun _ _ _ _ _ => pts_nil) (fun _ _ _ _ _ => (pe_lc (own := [("row", 1)]) rfl sc_about_of.nd (pi_listK K (pv 0)) (blkOk_by (by kernel_rfl)) (fun _ _ _ _ _ => (pg_name (i := 1) sc_about_of.nd rfl (by first | exact Or.inl rfl | exact Or.inr rfl))) (fun _ _ _ _ _ => pts_nil) (fun _ _ _ _ _ => (pe_ix (ix_listK K) (pv 1) (pv 2) (fun _ _ => rfl)))))))), ?_⟩
    have ev0 : ∀ {σ : St} {G' : Hp}, σ[0]? = some (some v) → Same G G' → Ev (tVar 0) σ G' (rTab CR t) := fun e g => ev_var e (Mono.mono g hv)
    refine q_ret gh (P := rTab CR (aboT t)) (ev_mapR (s := rRow CR) (fun p => t.map fun row => row.getD p 0) (n := t.length) (ev_len (ev0 rfl (.refl _))) rfl (by rw [sq.1]; omega) (fun _ => rfl) fun p G1 hp g1 => ?_) k
    refine ev_map (r := rRow CR) (s := rRat CR) (fun row => row.getD p 0) (ev0 rfl g1) (by rw [sq.1]; omega) (fun _ => rfl) fun j row G2 u hu g2 ru => ?_
    exact ev_ix (r := rRat CR) (j := p) (ev_var rfl ru) (fun _ _ => ev_var rfl rfl) rfl (by rw [List.getD_eq_getElem?_getD, List.getElem?_eq_getElem (by rw [sq.2 row (List.mem_of_getElem? hu), ← sq.1]; exact hp)]; rfl)
end
end K28
end
section
set_option Elab.async false
set_option linter.all false
set_option maxRecDepth 100000
set_option maxHeartbeats 4000000
set_option autoImplicit false
set_option exponentiation.threshold 20000
namespace K28
open PySem L2
section
variable {P : Program} {w : World} {K : PySem.W.Frag} {mg : Str → Option Value} {base : Heap} {CR CH : Addr} {f : Addr} {fd : FuncData}
/-- what undone_of asks of a table -/
structure UndOk (n : Nat) (t : List (List Rat)) : Prop where
  sq : SqX n t
  n1 : 1 ≤ n
  n4 : n ≤ 4
  bd : ∃ d e, d ≤ 8999 ∧ 2 ^ (n + n + 1) * (e + 1) ≤ 8999 ∧ ∀ r ∈ wideT t, Bd d e r
  hd : ∀ r ∈ intSteps ((wideT t).map intsR), headOf r < r.length ∧ 0 < at0 r (headOf r)
  full : (undF t).length = n
theorem len_told (rows : List (List Int)) : (told rows).length = rows.length := by unfold told; rw [List.length_map]
theorem len_stepsOf (t : List (List Rat)) : (stepsOf t).length ≤ t.length := by
  unfold stepsOf
  rw [len_told]
  unfold intSteps
  have := len_steps (t.map intsR) (wideOf (t.map intsR))
  rw [List.length_map] at this
  omega
theorem sq_wide {n : Nat} {t : List (List Rat)} (sq : SqX n t) : (wideT t).length = n ∧ ∀ r ∈ wideT t, r.length = n + n := by
  have s2 := sq_idle t.length
  unfold wideT
  refine ⟨by rw [List.length_zipWith, sq.1, (sq_idle n).1, Nat.min_self], fun r hr => ?_⟩
  rw [List.mem_iff_getElem] at hr
  obtain ⟨i, hi, rfl⟩ := hr
  rw [List.getElem_zipWith, List.length_append, sq.2 _ (List.getElem_mem _), s2.2 _ (List.getElem_mem _), sq.1]
theorem len_intRows {n b : Nat} {rows : List (List Int)} (h : Okr n b rows) : ∀ r ∈ intSteps rows, r.length = n := fun r hr => by
  obtain ⟨c, _, _, h2⟩ := okr_steps h (wideOf rows)
  exact (h2 r hr).1
theorem len_undF {n : Nat} {t : List (List Rat)} (h : UndOk n t) : ∀ r ∈ stepsOf (wideT t), r.length = n + n := fun r hr => by
  obtain ⟨d, e, _, _, hb⟩ := h.bd
  unfold stepsOf told at hr
  obtain ⟨q, hq, rfl⟩ := List.mem_map.mp hr
  rw [List.length_map]
  exact len_intRows (okr_ints (n := n + n) (d := d) (e := e) fun r hr => ⟨(sq_wide h.sq).2 r hr, hb r hr⟩) q hq
def aUnd (CR : Addr) : List V → Hp → Hp → HP → Prop := fun vs G _ R => ∃ (t : List (List Rat)) (v : V) (n : Nat), vs = [v] ∧ rTab CR t G v ∧ UndOk n t ∧ R = rTab CR (undT t)
theorem sc_undone_of : FnScope ["table", "size", "wide", "row", "unit", "found", "number"] ["table"] (defScope s_undone_of) := ⟨rfl, rfl, rfl, by decide +kernel, rfl, by decide +kernel, by decide +kernel⟩
theorem ok_undone_of (T : Txt K mg CR CH) (F : Fun K "undone_of" "undone_of" s_undone_of f fd) (C_idle_of : Cal P w K mg base "idle_of" 4 ["size"] (spP (aIdle CR))) (C_steps_of : Cal P w K mg base "steps_of" 5 ["rows"] (spP (aSteps CR))) (C_Ratio_sign : CalPr P w K mg base CR "sign" 1 ["self"] (spP (aSign CR))) : FnOk P w K mg base CX0 6 f fd ["table"] (spP (aUnd CR)) := by
  refine F.ok sc_undone_of (fun vs H Q E h => ?_) (fun cdv A outer s H vs Q E hr h => ?_)
  · obtain ⟨G, R, _, ⟨t, v, n, rfl, _⟩, _⟩ := h
    rfl
  · obtain ⟨G, R, gh, ⟨t, v, n, rfl, hv, u, rfl⟩, k⟩ := h
    refine ⟨_, (pss_cons (ps_set (i := 1) sc_undone_of.nd rfl (by first | exact Or.inl rfl | exact Or.inr rfl) (pe_callB (call_lenK K) (by rfl) T.len PySem.boot_len (pa_cons (pv 0) pa_nil)))
      (pss_cons (ps_setLc (i := 2) (own := [("row", 3), ("unit", 4)]) rfl sc_undone_of.nd rfl rfl (sw_true rfl rfl rfl (by decide +kernel)) (pi_zipK K (by rfl) T.zip (pa_cons (pv 0) (pa_cons (pe_cal C_idle_of (hr.mono (by decide)) (by rfl) (pa_cons (pv 1) pa_nil)) pa_nil))) (blkOk_by (by kernel_rfl)) (fun _ _ _ _ _ => (pg_tupK (n := 2) K (by rfl) (pgs_cons (pg_name (i := 3) sc_undone_of.nd rfl (by first | exact Or.inl rfl | exact Or.inr rfl)) (pgs_cons (pg_name (i := 4) sc_undone_of.nd rfl (by first | exact Or.inl rfl | exact Or.inr rfl)) pgs_nil)))) (fun _ _ _ _ _ => pts_nil) (fun _ _ _ _ _ => (pe_op op_cat (pv 3) (pv 4))))
      (pss_cons (ps_setLc (i := 5) (own := [("row", 3)]) rfl sc_undone_of.nd rfl rfl (sw_true rfl rfl rfl (by decide +kernel)) (pi_listK K (pe_cal C_steps_of (hr.mono (by decide)) (by rfl) (pa_cons (pv 2) pa_nil))) (blkOk_by (by kernel_rfl)) (fun _ _ _ _ _ => (pg_name (i := 3) sc_undone_of.nd rfl (by first | exact Or.inl rfl | exact Or.inr rfl))) (fun _ _ _ _ _ => (pts_one (pt_val (pe_callB (cr_anyK K rfl) (by rfl) T.any (by decide +kernel) (pa_cons (pe_lc (own := [("number", 6)]) rfl sc_undone_of.nd (pi_listK K (pe_slice (sl_listK K) (pv 3) po_none (po_some (pv 1)))) (blkOk_by (by kernel_rfl)) (fun _ _ _ _ _ => (pg_name (i := 6) sc_undone_of.nd rfl (by first | exact Or.inl rfl | exact Or.inr rfl))) (fun _ _ _ _ _ => pts_nil) (fun _ _ _ _ _ => (pe_cmpR op_ne (pe_pr C_Ratio_sign T.clR (hr.mono (by decide)) (pv 6) rfl) pe_int (nomark _)))) pa_nil))))) (fun _ _ _ _ _ => (pv 3)))
      (pss_one (ps_ret (pe_ifExp (pt_cmpR op_eq (pe_callB (call_lenK K) (by rfl) T.len PySem.boot_len (pa_cons (pv 5) pa_nil)) (pv 1) (nomark _)) (pe_lc (own := [("row", 3)]) rfl sc_undone_of.nd (pi_listK K (pv 5)) (blkOk_by (by kernel_rfl)) (fun _ _ _ _ _ => (pg_name (i := 3) sc_undone_of.nd rfl (by first | exact Or.inl rfl | exact Or.inr rfl))) (fun _ _ _ _ _ => pts_nil) (fun _ _ _ _ _ => (pe_slice (sl_listK K) (pv 3) (po_some (pv 1)) po_none))) pe_non)))))), ?_⟩
    have u1 := u.n1
    have u4 := u.n4
    have sq := u.sq
    obtain ⟨w1, w2⟩ := sq_wide sq
    have ev0 : ∀ {σ : St} {G' : Hp}, σ[0]? = some (some v) → Same G G' → Ev (tVar 0) σ G' (rTab CR t) := fun e g => ev_var e (Mono.mono g hv)
    refine q_asg gh (P := rInt (t.length : Int)) (ev_len (ev0 rfl (.refl _))) fun z G1 H1 s1 e1 => ?_
    cases (show z = _ from e1)
    refine q_asg s1.gh (P := rTab CR (wideT t)) ?_ fun wv G2 H2 s2 e2 => ?_
    · unfold wideT
      refine ev_mapZ (r := rRow CR) (s := rRow CR) (t := rRow CR) (· ++ ·) (ev0 rfl s1.gg) (fun G' g => ev_call (P := rTab CR (idleT t.length)) (ea1 (P1 := rInt (t.length : Int)) (ev_var rfl rfl)) fun G' H' vs _ _ ⟨u', e, e1⟩ => ⟨t.length, by rw [e, show u' = _ from e1], by rw [sq.1]; omega, rfl⟩) (by rw [sq.1]; omega) (fun _ _ => rfl) fun i x y G3 a b hx hy g3 ra rb => ?_
      exact ev_cat (ev_var rfl ra) (fun G' g => ev_var rfl (Mono.mono g rb)) (by rw [sq.2 x (List.mem_of_getElem? hx), (sq_idle t.length).2 y (List.mem_of_getElem? hy), sq.1]; omega)
    have hne : wideT t ≠ [] := fun z => by rw [z] at w1; simp at w1; omega
    obtain ⟨d, e, hd, he, hb⟩ := u.bd
    have hls : (stepsOf (wideT t)).length ≤ 4 := by have := len_stepsOf (wideT t); omega
    refine q_asg s2.gh (P := rTab CR (undF t)) ?_ fun fv G3 H3 s3 e3 => ?_
    · refine ev_filt (r := rRow CR) (sgn t.length) (ev_call (P := rTab CR (stepsOf (wideT t))) (ea1 (P1 := rTab CR (wideT t)) (ev_var rfl e2)) fun G' H' vs _ _ ⟨u', e', e1⟩ => ⟨wideT t, u', n + n, d, e, e', e1, hne, fun r hr => ⟨w2 r hr, hb r hr⟩, hd, he, by omega, by omega, u.hd, rfl⟩) (by omega) (fun _ => rfl) fun i x G4 a hx g4 ra => ⟨et_B ?_, ev_var rfl ra⟩
      have hxl := len_undF u x (List.mem_of_getElem? hx)
      refine ev_any (ev_map (r := rRat CR) (s := rBl) (fun q => !decide (q.num.sign = 0)) (ev_to (i := t.length) (ev_var rfl ra) (fun _ _ => ev_var rfl rfl) rfl (by rw [sq.1, hxl]; omega)) (by rw [List.length_take]; omega) (fun _ => rfl) fun j q G5 b hq g5 rq => ?_)
      exact ev_neI (ev_sign (ev_var rfl rq)) ev_int
    refine q_ret s3.gh (P := rTab CR (undT t)) (ev_if (b := true) (et_test ((ev_eqI (ev_len (ev_var rfl e3)) (ev_var rfl rfl)).imp fun _ u' _ e => ?_)) (fun _ G4 g4 => ?_) fun e => nomatch e) fun z G4 H4 s4 e4 => k z G4 H4 (((s1.trans s2).trans s3).trans s4) e4
    · rw [show u' = _ from e]
      exact congrArg V.bl (decide_eq_true (by rw [u.full, sq.1]))
    · refine ev_map (r := rRow CR) (s := rRow CR) (fun row => row.drop t.length) (ev_var rfl (Mono.mono g4 e3)) (by rw [u.full]; omega) (fun _ => rfl) fun i x G5 a hx g5 ra => ?_
      have hxl := len_undF u x (List.mem_filter.mp (List.mem_of_getElem? hx)).1
      exact ev_from (ev_var rfl ra) (fun _ _ => ev_var rfl rfl) rfl (by rw [sq.1, hxl]; omega)
def aLong (CR : Addr) : List V → Hp → Hp → HP → Prop := fun vs G _ R => ∃ (t : List (List Rat)) (v : V), vs = [v] ∧ rTab CR t G v ∧ (∀ r ∈ t, r.length ≤ 20) ∧ t.length ≤ 20 ∧ R = rRow CR t.flatten
theorem len_flat_le {α : Type} {w : Nat} : ∀ {t : List (List α)}, (∀ r ∈ t, r.length ≤ w) → t.flatten.length ≤ t.length * w
  | [], _ => by simp
  | r :: t, hw => by
    have := len_flat_le (t := t) fun r hr => hw r (List.mem_cons_of_mem _ hr)
    have := hw r (List.mem_cons_self ..)
    rw [List.flatten_cons, List.length_append, List.length_cons, Nat.succ_mul]
    omega
theorem sc_long_of : FnScope ["table", "found", "row"] ["table"] (defScope s_long_of) := ⟨rfl, rfl, rfl, by decide +kernel, rfl, by decide +kernel, by decide +kernel⟩
theorem ok_long_of (T : Txt K mg CR CH) (F : Fun K "long_of" "long_of" s_long_of f fd) : FnOk P w K mg base CX0 1 f fd ["table"] (spP (aLong CR)) := by
  refine F.ok sc_long_of (fun vs H Q E h => ?_) (fun cdv A outer s H vs Q E hr h => ?_)
  · obtain ⟨G, R, _, ⟨t, v, rfl, _⟩, _⟩ := h
    rfl
  · obtain ⟨G, R, gh, ⟨t, v, rfl, hv, hr', hl, rfl⟩, k⟩ := h
    refine ⟨_, (pss_cons (ps_set (i := 1) sc_long_of.nd rfl (by first | exact Or.inl rfl | exact Or.inr rfl) (pe_lst pa_nil))
      (pss_cons (ps_for PassesOwn.never rfl (pi_listK K (pv 0)) (pg_name (i := 2) sc_long_of.nd rfl (by first | exact Or.inl rfl | exact Or.inr rfl)) (pss_one (ps_expr (pe_bm PySem.F.plainAttrs_list PySem.F.slot_list_extend PySem.F.type_list_extend mt_extend (pv 1) (pa_cons (pv 2) pa_nil)))))
      (pss_one (ps_ret (pv 1))))), ?_⟩
    refine q_new (r := rRat CR) (Stp.refl gh) fun p H1 hp s1 _ o1 => ?_
    refine q_for (G0 := G) (H0 := H) s1 (src_list (r := rRow CR) (xs := t) (ev_var rfl hv)) (fun i G' H' σ' => ∃ a, σ' = [some v, some (.ref p), a] ∧ Own (rRat CR) (t.take i).flatten p G' H') (fun i G1 H1 G2 H2 σ s ⟨a, e, o⟩ => ⟨a, e, o.step s⟩) (fun G2 H2 s2 => ⟨none, rfl, o1.step s2⟩) ?_ ?_
    · rintro i G2 H2 σ2 x hi s2 g2 ⟨a, rfl, o⟩ ⟨row, hrow, rx⟩ N hN
      have hi' := List.getElem?_eq_some_iff.mp hrow
      have b1 := len_flat_le (t := t.take i) (w := 20) fun r hr => hr' r (List.mem_of_mem_take hr)
      have b2 := hr' row (List.mem_of_getElem? hrow)
      rw [List.length_take] at b1
      have b3 : min i t.length * 20 ≤ 20 * 20 := Nat.mul_le_mul_right _ (by omega)
      refine s_growE (r := rRat CR) (ys := row) s2 hp o rfl (ev_var rfl rx) (by omega) fun G5 H5 s5 g5 o5 => ?_
      refine hN _ G5 H5 s5 g5 ⟨_, rfl, ?_⟩
      rw [List.take_succ_eq_append_getElem hi'.1, hi'.2, List.flatten_append]
      simpa using o5
    · rintro G2 H2 σ2 s2 g2 ⟨a, rfl, o⟩
      rw [List.take_length] at o
      exact q_retO s2 hp o rfl k
def aTwo (CR : Addr) : List V → Hp → Hp → HP → Prop := fun vs G _ R => ∃ (t u : List (List Nm)) (v x : V) (n m : Nat), vs = [v, x] ∧ rNT CR t G v ∧ rNT CR u G x ∧ SqX n t ∧ 1 ≤ n ∧ n ≤ 4 ∧ SqX m u ∧ 1 ≤ m ∧ m ≤ 4 ∧ R = rPr (rTab CR) (rTab CR) (ratT t, ratT u)
theorem sc_two_tables : FnScope ["table", "other", "near"] ["table", "other"] (defScope s_two_tables) := ⟨rfl, rfl, rfl, by decide +kernel, rfl, by decide +kernel, by decide +kernel⟩
theorem ok_two_tables (T : Txt K mg CR CH) (F : Fun K "two_tables" "two_tables" s_two_tables f fd) (C_want_table : Cal P w K mg base "want_table" 6 ["value"] (spP (aTin CR))) : FnOk P w K mg base CX0 7 f fd ["table", "other"] (spP (aTwo CR)) := by
  refine F.ok sc_two_tables (fun vs H Q E h => ?_) (fun cdv A outer s H vs Q E hr h => ?_)
  · obtain ⟨G, R, _, ⟨t, u, v, x, n, m, rfl, _⟩, _⟩ := h
    rfl
  · obtain ⟨G, R, gh, ⟨t, u, v, x, n, m, rfl, hv, hx, sq, h1, h4, sq', h1', h4', rfl⟩, k⟩ := h
    refine ⟨_, (pss_cons (ps_set (i := 2) sc_two_tables.nd rfl (by first | exact Or.inl rfl | exact Or.inr rfl) (pe_cal C_want_table (hr.mono (by decide)) (by rfl) (pa_cons (pv 0) pa_nil)))
      (pss_one (ps_ret (pe_tup (pa_cons (pv 2) (pa_cons (pe_cal C_want_table (hr.mono (by decide)) (by rfl) (pa_cons (pv 1) pa_nil)) pa_nil)))))), ?_⟩
    refine q_asg gh (P := rTab CR (ratT t)) (ev_call (ea1 (P1 := rNT CR t) (ev_var rfl hv)) fun G' H' vs _ _ ⟨y, e, e1⟩ => ⟨t, y, n, e, e1, sq, h1, h4, rfl⟩) fun z G1 H1 s1 e1 => ?_
    exact q_ret s1.gh (P := rPr (rTab CR) (rTab CR) (ratT t, ratT u)) (ev_pair (r := rTab CR) (s := rTab CR) (ev_var rfl e1) fun G2 g2 => ev_call (ea1 (P1 := rNT CR u) (ev_var rfl (Mono.mono (s1.gg.trans g2) hx))) fun G' H' vs _ _ ⟨y, e, e1⟩ => ⟨u, y, m, e, e1, sq', h1', h4', rfl⟩) fun z G3 H3 s3 e3 => k z G3 H3 (s1.trans s3) e3
def aAlike (CR : Addr) : List V → Hp → Hp → HP → Prop := fun vs G _ R => ∃ (t u : List (List Rat)) (v x : V), vs = [v, x] ∧ rTab CR t G v ∧ rTab CR u G x ∧ t.length = u.length ∧ R = rVal .non
theorem sc_want_alike : FnScope ["near", "far"] ["near", "far"] (defScope s_want_alike) := ⟨rfl, rfl, rfl, by decide +kernel, rfl, by decide +kernel, by decide +kernel⟩
theorem ok_want_alike (T : Txt K mg CR CH) (F : Fun K "want_alike" "want_alike" s_want_alike f fd) : FnOk P w K mg base CX0 1 f fd ["near", "far"] (spP (aAlike CR)) := by
  refine F.ok sc_want_alike (fun vs H Q E h => ?_) (fun cdv A outer s H vs Q E hr h => ?_)
  · obtain ⟨G, R, _, ⟨t, u, v, x, rfl, _⟩, _⟩ := h
    rfl
  · obtain ⟨G, R, gh, ⟨t, u, v, x, rfl, hv, hx, hl, rfl⟩, k⟩ := h
    refine ⟨_, (pss_one (ps_if (pt_cmpR op_ne (pe_callB (call_lenK K) (by rfl) T.len PySem.boot_len (pa_cons (pv 0) pa_nil)) (pe_callB (call_lenK K) (by rfl) T.len PySem.boot_len (pa_cons (pv 1) pa_nil)) (nomark _)) (pss_one ps_never) pss_nil)), ?_⟩
    refine s_if gh (b := false) (et_test ((ev_neI (ev_len (r := rRow CR) (xs := t) (ev_var rfl hv)) (ev_len (r := rRow CR) (xs := u) (ev_var rfl hx))).imp fun _ z _ e => ?_)) (fun e => nomatch e) fun _ G' H' s => k _ _ _ s rfl
    rw [show z = _ from e, hl]
    refine congrArg V.bl ?_
    simp
def aIdl (CR : Addr) : List V → Hp → Hp → HP → Prop := fun vs _ _ R => ∃ n : Nat, vs = [.int (n : Int)] ∧ 1 ≤ n ∧ n ≤ 4 ∧ R = rTab CR (idleT n)
theorem sc_idle : FnScope ["size"] ["size"] (defScope s_idle) := ⟨rfl, rfl, rfl, by decide +kernel, rfl, by decide +kernel, by decide +kernel⟩
theorem ok_idle (T : Txt K mg CR CH) (F : Fun K "idle" "idle" s_idle f fd) (C_is_count : Cal P w K mg base "is_count" 2 ["value"] (spP aCnt)) (C_idle_of : Cal P w K mg base "idle_of" 4 ["size"] (spP (aIdle CR))) : FnOk P w K mg base CX0 5 f fd ["size"] (spP (aIdl CR)) := by
  refine F.ok sc_idle (fun vs H Q E h => ?_) (fun cdv A outer s H vs Q E hr h => ?_)
  · obtain ⟨G, R, _, ⟨n, rfl, _⟩, _⟩ := h
    rfl
  · obtain ⟨G, R, gh, ⟨n, rfl, h1, h4, rfl⟩, k⟩ := h
    refine ⟨_, (pss_cons (ps_if (PW.pt (pw_or (pt_not (pt_val (pe_cal C_is_count (hr.mono (by decide)) (by rfl) (pa_cons (pv 0) pa_nil)))) (pw_or1 (pt_not (pt_chain op_le op_le pe_int (pv 0) (pe_k4 rfl T.mst)))))) (pss_one ps_never) pss_nil)
      (pss_one (ps_ret (pe_cal C_idle_of (hr.mono (by decide)) (by rfl) (pa_cons (pv 0) pa_nil))))), ?_⟩
    refine q_no gh (et_is (et_or (b := !true) (et_not (et_B (ev_call (ea1 (P1 := rInt (n : Int)) (ev_var rfl rfl)) fun G' H' vs _ _ ⟨u, e, e1⟩ => ⟨(n : Int), by rw [e, show u = _ from e1], by omega, rfl⟩))) fun _ G1 g1 => et_not (b := true) (et_test ((ev_chain2 (i := 1) (j := (n : Int)) (k := 4) ev_int (fun _ g => ev_var rfl rfl) fun _ _ => ev_int).imp fun _ u _ e => ?_))) rfl) fun G1 H1 s1 => ?_
    · rw [show u = _ from e]
      refine congrArg V.bl ?_
      rw [Bool.and_eq_true]
      exact ⟨decide_eq_true (by omega), decide_eq_true (by omega)⟩
    exact q_ret s1.gh (P := rTab CR (idleT n)) (ev_call (ea1 (P1 := rInt (n : Int)) (ev_var rfl rfl)) fun G' H' vs _ _ ⟨u, e, e1⟩ => ⟨n, by rw [e, show u = _ from e1], by omega, rfl⟩) fun z G3 H3 s3 e3 => k z G3 H3 (s1.trans s3) e3
theorem sq_rat {n : Nat} {t : List (List Nm)} (h : SqX n t) : SqX n (ratT t) := ⟨by unfold ratT; rw [List.length_map]; exact h.1, fun r hr => by
  obtain ⟨q, hq, rfl⟩ := List.mem_map.mp hr
  rw [List.length_map]
  exact h.2 q hq⟩
def aTimes (CR : Addr) : List V → Hp → Hp → HP → Prop := fun vs G _ R => ∃ (t u : List (List Nm)) (v x : V) (n d e d' e' : Nat), vs = [v, x] ∧ rNT CR t G v ∧ rNT CR u G x ∧ SqX n t ∧ SqX n u ∧ 1 ≤ n ∧ n ≤ 4 ∧ Bd d e (ratT t).flatten ∧ Bd d' e' (ratT u).flatten ∧ d + d' ≤ 8999 ∧ e ≤ 400000 ∧ e' ≤ 400000 ∧ R = rTab CR (prodT (ratT t) (ratT u))
theorem sc_times : FnScope ["table", "other", "near", "far"] ["table", "other"] (defScope s_times) := ⟨rfl, rfl, rfl, by decide +kernel, rfl, by decide +kernel, by decide +kernel⟩
theorem ok_times (T : Txt K mg CR CH) (F : Fun K "times" "times" s_times f fd) (C_two_tables : Cal P w K mg base "two_tables" 7 ["table", "other"] (spP (aTwo CR))) (C_want_alike : Cal P w K mg base "want_alike" 1 ["near", "far"] (spP (aAlike CR))) (C_product_of : Cal P w K mg base "product_of" 5 ["table", "other"] (spP (aProd CR))) : FnOk P w K mg base CX0 8 f fd ["table", "other"] (spP (aTimes CR)) := by
  refine F.ok sc_times (fun vs H Q E h => ?_) (fun cdv A outer s H vs Q E hr h => ?_)
  · obtain ⟨G, R, _, ⟨t, u, v, x, n, d, e, d', e', rfl, _⟩, _⟩ := h
    rfl
  · obtain ⟨G, R, gh, ⟨t, u, v, x, n, d, e, d', e', rfl, hv, hx, sq, sq', h1, h4, bd, bd', hd, he, he', rfl⟩, k⟩ := h
    refine ⟨_, (pss_cons (ps_asg (pe_cal C_two_tables (hr.mono (by decide)) (by rfl) (pa_cons (pv 0) (pa_cons (pv 1) pa_nil))) (pg_tupK (n := 2) K (by rfl) (pgs_cons (pg_name (i := 2) sc_times.nd rfl (by first | exact Or.inl rfl | exact Or.inr rfl)) (pgs_cons (pg_name (i := 3) sc_times.nd rfl (by first | exact Or.inl rfl | exact Or.inr rfl)) pgs_nil))))
      (pss_cons (ps_expr (pe_cal C_want_alike (hr.mono (by decide)) (by rfl) (pa_cons (pv 2) (pa_cons (pv 3) pa_nil))))
      (pss_one (ps_ret (pe_cal C_product_of (hr.mono (by decide)) (by rfl) (pa_cons (pv 2) (pa_cons (pv 3) pa_nil))))))), ?_⟩
    refine q_pair (r := rTab CR) (s := rTab CR) gh (ev_call (P := rPr (rTab CR) (rTab CR) (ratT t, ratT u)) (ea2 (P1 := rNT CR t) (P2 := rNT CR u) (ev_var rfl hv) fun _ g => ev_var rfl (Mono.mono g hx)) fun G' H' vs _ _ ⟨y, y', e, e1, e2⟩ => ⟨t, u, y, y', n, n, e, e1, e2, sq, h1, h4, sq', h1, h4, rfl⟩) fun x1 x2 G1 H1 s1 e1 e2 => ?_
    refine q_drop s1.gh (P := rVal .non) (ev_call (ea2 (P1 := rTab CR (ratT t)) (P2 := rTab CR (ratT u)) (ev_var rfl e1) fun _ g => ev_var rfl (Mono.mono g e2)) fun G' H' vs _ _ ⟨y, y', e, e1, e2⟩ => ⟨ratT t, ratT u, y, y', e, e1, e2, by rw [(sq_rat sq).1, (sq_rat sq').1], rfl⟩) fun z G2 H2 s2 e3 => ?_
    exact q_ret s2.gh (P := rTab CR (prodT (ratT t) (ratT u))) (ev_call (ea2 (P1 := rTab CR (ratT t)) (P2 := rTab CR (ratT u)) (ev_var rfl (Mono.mono s2.gg e1)) fun _ g => ev_var rfl (Mono.mono (s2.gg.trans g) e2)) fun G' H' vs _ _ ⟨y, y', e0, e1, e2⟩ => ⟨ratT t, ratT u, y, y', n, d, e, d', e', e0, e1, e2, sq_rat sq, sq_rat sq', h1, by omega, bd, bd', hd, he, he', rfl⟩) fun z G3 H3 s3 e3 => k z G3 H3 ((s1.trans s2).trans s3) e3
def aAbo (CR : Addr) : List V → Hp → Hp → HP → Prop := fun vs G _ R => ∃ (t : List (List Nm)) (v : V) (n : Nat), vs = [v] ∧ rNT CR t G v ∧ SqX n t ∧ 1 ≤ n ∧ n ≤ 4 ∧ R = rTab CR (aboT (ratT t))
theorem sc_about : FnScope ["table"] ["table"] (defScope s_about) := ⟨rfl, rfl, rfl, by decide +kernel, rfl, by decide +kernel, by decide +kernel⟩
theorem ok_about (T : Txt K mg CR CH) (F : Fun K "about" "about" s_about f fd) (C_want_table : Cal P w K mg base "want_table" 6 ["value"] (spP (aTin CR))) (C_about_of : Cal P w K mg base "about_of" 1 ["table"] (spP (aAbout CR))) : FnOk P w K mg base CX0 7 f fd ["table"] (spP (aAbo CR)) := by
  refine F.ok sc_about (fun vs H Q E h => ?_) (fun cdv A outer s H vs Q E hr h => ?_)
  · obtain ⟨G, R, _, ⟨t, v, n, rfl, _⟩, _⟩ := h
    rfl
  · obtain ⟨G, R, gh, ⟨t, v, n, rfl, hv, sq, h1, h4, rfl⟩, k⟩ := h
    refine ⟨_, (pss_one (ps_ret (pe_cal C_about_of (hr.mono (by decide)) (by rfl) (pa_cons (pe_cal C_want_table (hr.mono (by decide)) (by rfl) (pa_cons (pv 0) pa_nil)) pa_nil)))), ?_⟩
    exact q_ret gh (P := rTab CR (aboT (ratT t))) (ev_call (ea1 (P1 := rTab CR (ratT t)) (ev_call (ea1 (P1 := rNT CR t) (ev_var rfl hv)) fun G' H' vs _ _ ⟨u, e, e1⟩ => ⟨t, u, n, e, e1, sq, h1, h4, rfl⟩)) fun G' H' vs _ _ ⟨u, e, e1⟩ => ⟨ratT t, u, n, e, e1, sq_rat sq, by omega, rfl⟩) k
def aUndo (CR : Addr) : List V → Hp → Hp → HP → Prop := fun vs G _ R => ∃ (t : List (List Nm)) (v : V) (n : Nat), vs = [v] ∧ rNT CR t G v ∧ SqX n t ∧ UndOk n (ratT t) ∧ R = rTab CR (undT (ratT t))
theorem sc_undone : FnScope ["table", "found"] ["table"] (defScope s_undone) := ⟨rfl, rfl, rfl, by decide +kernel, rfl, by decide +kernel, by decide +kernel⟩
theorem ok_undone (T : Txt K mg CR CH) (F : Fun K "undone" "undone" s_undone f fd) (C_want_table : Cal P w K mg base "want_table" 6 ["value"] (spP (aTin CR))) (C_undone_of : Cal P w K mg base "undone_of" 6 ["table"] (spP (aUnd CR))) : FnOk P w K mg base CX0 7 f fd ["table"] (spP (aUndo CR)) := by
  refine F.ok sc_undone (fun vs H Q E h => ?_) (fun cdv A outer s H vs Q E hr h => ?_)
  · obtain ⟨G, R, _, ⟨t, v, n, rfl, _⟩, _⟩ := h
    rfl
  · obtain ⟨G, R, gh, ⟨t, v, n, rfl, hv, sq, u, rfl⟩, k⟩ := h
    refine ⟨_, (pss_cons (ps_set (i := 1) sc_undone.nd rfl (by first | exact Or.inl rfl | exact Or.inr rfl) (pe_cal C_undone_of (hr.mono (by decide)) (by rfl) (pa_cons (pe_cal C_want_table (hr.mono (by decide)) (by rfl) (pa_cons (pv 0) pa_nil)) pa_nil)))
      (pss_cons (ps_if (pt_cmpR op_isN (pv 1) pe_non (nomark _)) (pss_one ps_never) pss_nil)
      (pss_one (ps_ret (pv 1))))), ?_⟩
    refine q_asg gh (P := rTab CR (undT (ratT t))) (ev_call (ea1 (P1 := rTab CR (ratT t)) (ev_call (ea1 (P1 := rNT CR t) (ev_var rfl hv)) fun G' H' vs _ _ ⟨y, e, e1⟩ => ⟨t, y, n, e, e1, sq, u.n1, u.n4, rfl⟩)) fun G' H' vs _ _ ⟨y, e, e1⟩ => ⟨ratT t, y, n, e, e1, u, rfl⟩) fun z G1 H1 s1 e1 => ?_
    refine q_no s1.gh (et_test (ev_isN (P1 := rTab CR (undT (ratT t))) (ev_var rfl e1) fun _ _ e => not_non e)) fun G2 H2 s2 => ?_
    exact q_ret s2.gh (P := rTab CR (undT (ratT t))) (ev_var rfl (Mono.mono s2.gg e1)) fun z G3 H3 s3 e3 => k z G3 H3 ((s1.trans s2).trans s3) e3
end
end K28
end
section
set_option Elab.async false
set_option linter.all false
set_option maxRecDepth 100000
set_option maxHeartbeats 4000000
set_option autoImplicit false
set_option exponentiation.threshold 20000
namespace K28
open PySem L2
section
variable {P : Program} {w : World} {K : PySem.W.Frag} {mg : Str → Option Value} {base : Heap} {CR CH : Addr} {f : Addr} {fd : FuncData}
abbrev rLs (CR : Addr) : List (List (List Rat)) → HP := rLst (rTab CR)
abbrev rLN (CR : Addr) : List (List (List Nm)) → HP := rLst (rNT CR)
structure LsOk {α : Type} (n : Nat) (ls : List (List (List α))) : Prop where
  n1 : 1 ≤ n
  n4 : n ≤ 4
  m1 : 1 ≤ ls.length
  m3 : ls.length ≤ 3
  sq : ∀ t ∈ ls, SqX n t
def HsOk (h : Hs) : Prop := LsOk h.n h.ls
theorem LsOk.rat {n : Nat} {ls : List (List (List Nm))} (h : LsOk n ls) : LsOk n (ls.map ratT) := ⟨h.n1, h.n4, by rw [List.length_map]; exact h.m1, by rw [List.length_map]; exact h.m3, fun t ht => by
  obtain ⟨q, hq, rfl⟩ := List.mem_map.mp ht
  exact sq_rat (h.sq q hq)⟩
theorem LsOk.head {α : Type} {n : Nat} {ls : List (List (List α))} (h : LsOk n ls) : ls[0]? = some (ls.getD 0 []) ∧ (ls.getD 0 []).length = n := by
  have := getD_mem (d := []) (show 0 < ls.length by have := h.m1; omega)
  exact ⟨this.2, (h.sq _ this.1).1⟩
def aLin (CR : Addr) : List V → Hp → Hp → HP → Prop := fun vs G _ R => ∃ (ls : List (List (List Nm))) (v : V) (n : Nat), vs = [v] ∧ rLN CR ls G v ∧ LsOk n ls ∧ R = rLs CR (ls.map ratT)
theorem sc_letters_in : FnScope ["value", "found", "table"] ["value"] (defScope s_letters_in) := ⟨rfl, rfl, rfl, by decide +kernel, rfl, by decide +kernel, by decide +kernel⟩
theorem ok_letters_in (T : Txt K mg CR CH) (F : Fun K "letters_in" "letters_in" s_letters_in f fd) (C_is_list : Cal P w K mg base "is_list" 1 ["value"] (spP aLst)) (C_table_in : Cal P w K mg base "table_in" 5 ["value"] (spP (aTin CR))) : FnOk P w K mg base CX0 6 f fd ["value"] (spP (aLin CR)) := by
  refine F.ok sc_letters_in (fun vs H Q E h => ?_) (fun cdv A outer s H vs Q E hr h => ?_)
  · obtain ⟨G, R, _, ⟨ls, v, n, rfl, _⟩, _⟩ := h
    rfl
  · obtain ⟨G, R, gh, ⟨ls, v, n, rfl, hv, ok, rfl⟩, k⟩ := h
    refine ⟨_, (pss_cons (ps_if (PW.pt (pw_or (pt_not (pt_val (pe_cal C_is_list (hr.mono (by decide)) (by rfl) (pa_cons (pv 0) pa_nil)))) (pw_or1 (pt_not (pt_chain op_le op_le pe_int (pe_callB (call_lenK K) (by rfl) T.len PySem.boot_len (pa_cons (pv 0) pa_nil)) (pe_k4 rfl T.msl)))))) (pss_one (ps_ret pe_non)) pss_nil)
      (pss_cons (ps_set (i := 1) sc_letters_in.nd rfl (by first | exact Or.inl rfl | exact Or.inr rfl) (pe_lc (own := [("table", 2)]) rfl sc_letters_in.nd (pi_listK K (pv 0)) (blkOk_by (by kernel_rfl)) (fun _ _ _ _ _ => (pg_name (i := 2) sc_letters_in.nd rfl (by first | exact Or.inl rfl | exact Or.inr rfl))) (fun _ _ _ _ _ => pts_nil) (fun _ _ _ _ _ => (pe_cal C_table_in (hr.mono (by decide)) (by rfl) (pa_cons (pv 2) pa_nil)))))
      (pss_cons (ps_if (pt_val (pe_callB (cr_anyK K rfl) (by rfl) T.any (by decide +kernel) (pa_cons (pe_lc (own := [("table", 2)]) rfl sc_letters_in.nd (pi_listK K (pv 1)) (blkOk_by (by kernel_rfl)) (fun _ _ _ _ _ => (pg_name (i := 2) sc_letters_in.nd rfl (by first | exact Or.inl rfl | exact Or.inr rfl))) (fun _ _ _ _ _ => pts_nil) (fun _ _ _ _ _ => (pe_cmpR op_isN (pv 2) pe_non (nomark _)))) pa_nil))) (pss_one (ps_ret pe_non)) pss_nil)
      (pss_one (ps_ret (pe_ifExp (pt_val (pe_callB (cr_allK K rfl) (by rfl) T.all (by decide +kernel) (pa_cons (pe_lc (own := [("table", 2)]) rfl sc_letters_in.nd (pi_listK K (pv 1)) (blkOk_by (by kernel_rfl)) (fun _ _ _ _ _ => (pg_name (i := 2) sc_letters_in.nd rfl (by first | exact Or.inl rfl | exact Or.inr rfl))) (fun _ _ _ _ _ => pts_nil) (fun _ _ _ _ _ => (pe_cmpR op_eq (pe_callB (call_lenK K) (by rfl) T.len PySem.boot_len (pa_cons (pv 2) pa_nil)) (pe_callB (call_lenK K) (by rfl) T.len PySem.boot_len (pa_cons (pe_ix (ix_listK K) (pv 1) pe_int (fun _ _ => rfl)) pa_nil)) (nomark _)))) pa_nil))) (pv 1) pe_non)))))), ?_⟩
    have h1 := ok.m1
    have h3 := ok.m3
    have ev0 : ∀ {σ : St} {G' : Hp}, σ[0]? = some (some v) → Same G G' → Ev (tVar 0) σ G' (rLN CR ls) := fun e g => ev_var e (Mono.mono g hv)
    refine q_no gh (et_is (et_or (b := !true) (et_not (et_B (ev_isl (ev0 rfl (.refl _))))) fun _ G1 g1 => et_not (b := true) (et_test ((ev_chain2 (i := 1) (j := (ls.length : Int)) (k := 3) ev_int (fun _ g => ev_len (ev0 rfl (g1.trans g))) fun _ _ => ev_int).imp fun _ u _ e => ?_))) rfl) fun G1 H1 s1 => ?_
    · rw [show u = _ from e]
      refine congrArg V.bl ?_
      rw [Bool.and_eq_true]
      exact ⟨decide_eq_true (by omega), decide_eq_true (by omega)⟩
    refine q_asg s1.gh (P := rLs CR (ls.map ratT)) (ev_map (r := rNT CR) (s := rTab CR) ratT (ev0 rfl s1.gg) (by omega) (fun _ => rfl) fun i x G2 u hx g2 ru => ev_call (ea1 (P1 := rNT CR x) (ev_var rfl ru)) fun G' H' vs _ _ ⟨y, e, e1⟩ => ⟨x, y, n, e, e1, ok.sq x (List.mem_of_getElem? hx), ok.n1, ok.n4, rfl⟩) fun z G2 H2 s2 e2 => ?_
    have ev1 : ∀ {σ : St} {G' : Hp}, σ[1]? = some (some z) → Same G2 G' → Ev (tVar 1) σ G' (rLs CR (ls.map ratT)) := fun e g => ev_var e (Mono.mono g e2)
    have hl : (ls.map ratT).length ≤ 100000 := by rw [List.length_map]; omega
    refine q_no s2.gh (et_B (ev_anyF (ev1 rfl (.refl _)) hl (fun _ => rfl) fun i x G3 u hx g3 ru => ev_isN (P1 := rTab CR x) (ev_var rfl ru) fun _ _ e => not_non e)) fun G3 H3 s3 => ?_
    have okr := ok.rat
    refine q_ret s3.gh (P := rLs CR (ls.map ratT)) (ev_if (b := true) (et_B (ev_allT (ev1 rfl s3.gg) hl (fun _ => rfl) fun i x G4 u hx g4 ru => (ev_eqI (ev_len (ev_var rfl ru)) (ev_len (r := rRow CR) (ev_ix (r := rTab CR) (j := 0) (ev1 rfl (s3.gg.trans g4)) (fun _ _ => ev_int) rfl okr.head.1))).imp fun _ y _ e => ?_)) (fun _ G4 g4 => ev1 rfl (s3.gg.trans g4)) fun e => nomatch e) fun z G4 H4 s4 e4 => k z G4 H4 (((s1.trans s2).trans s3).trans s4) e4
    rw [show y = _ from e]
    exact congrArg V.bl (decide_eq_true (by rw [okr.head.2, (okr.sq x (List.mem_of_getElem? hx)).1]))
theorem s_fldE {ta tv : TE} {fl : Str} {D : Ends} {σ : St} {G H : Hp} {Pz : HP} (gh : Same G H) (h : Ev tv σ G Pz) (k : ∀ v G' H', Stp G H G' H' → Pz G' v → ta σ H' (fun x H2 => ∃ a C dx fs, x = .ref a ∧ H2 a = some (.ins C dx fs) ∧ Cls K C ∧ NoAttr K C fl ∧ fs.length < 1000 ∧ D.nx σ (upd H2 a (.ins C dx (putF fl v fs))))) : sFld K ta tv fl D σ H := h H gh _ k
/-- House.__init__: x is the new thing; G need not know it -/
def spHI (CR CH : Addr) : Sp := fun vs H Q _ => ∃ (x dx : Addr) (v : V) (ls : List (List (List Nm))) (n : Nat) (G : Hp), vs = [.ref x, v] ∧ H x = some (.ins CH dx []) ∧ Same G H ∧ G x = none ∧ rLN CR ls G v ∧ LsOk n ls ∧
  ∀ lv G' H', Same G G' → Same G' H' → (∀ a o, G a = none → G' a = some o → H a = none) → (∀ b o, b ≠ x → H b = some o → H' b = some o) → H' x = some (.ins CH dx (houF lv (n : Int))) → rLs CR (ls.map ratT) G' lv → Q .non H'
theorem sc_House_init : FnScope ["self", "letters", "found"] ["self", "letters"] (defScope s_House_init) := ⟨rfl, rfl, rfl, by decide +kernel, rfl, by decide +kernel, by decide +kernel⟩
theorem ok_House_init (T : Txt K mg CR CH) (F : Fun K "__init__" "House.__init__" s_House_init f fd) (C_letters_in : Cal P w K mg base "letters_in" 6 ["value"] (spP (aLin CR))) : FnOk P w K mg base CX0 7 f fd ["self", "letters"] (spHI CR CH) := by
  refine F.ok sc_House_init (fun vs H Q E h => ?_) (fun cdv A outer s H vs Q E hr h => ?_)
  · obtain ⟨x, dx, v, ls, n, G, rfl, _⟩ := h
    rfl
  · obtain ⟨x, dx, v, ls, n, G, rfl, hx, gh, gx, hv, ok, k⟩ := h
    refine ⟨_, (pss_cons (ps_set (i := 2) sc_House_init.nd rfl (by first | exact Or.inl rfl | exact Or.inr rfl) (pe_cal C_letters_in (hr.mono (by decide)) (by rfl) (pa_cons (pv 1) pa_nil)))
      (pss_cons (ps_if (pt_cmpR op_isN (pv 2) pe_non (nomark _)) (pss_one ps_never) pss_nil)
      (pss_cons (ps_fld (pv 0) (pv 2) rfl)
      (pss_one (ps_fld (pv 0) (pe_callB (call_lenK K) (by rfl) T.len PySem.boot_len (pa_cons (pe_ix (ix_listK K) (pv 2) pe_int (fun _ _ => rfl)) pa_nil)) rfl))))), ?_⟩
    have okr := ok.rat
    refine q_asg gh (P := rLs CR (ls.map ratT)) (ev_call (ea1 (P1 := rLN CR ls) (ev_var rfl hv)) fun G' H' vs _ _ ⟨y, e, e1⟩ => ⟨ls, y, n, e, e1, ok, rfl⟩) fun lv G1 H1 s1 e1 => ?_
    refine q_no s1.gh (et_test (ev_isN (P1 := rLs CR (ls.map ratT)) (ev_var rfl e1) fun _ _ e => not_non e)) fun G2 H2 s2 => ?_
    have s12 := s1.trans s2
    have hx2 := s12.hh _ _ hx
    have gx2 : G2 x = none := (s12.keep gx hx).1
    have e2 : rLs CR (ls.map ratT) G2 lv := Mono.mono s2.gg e1
    refine ⟨_, rfl, _, rfl, x, CH, dx, [], rfl, hx2, T.clH, T.nLet, (by show 0 < 1000; decide), ?_⟩
    have gh2 : Same G2 (upd H2 x (.ins CH dx (putF "own_letters" lv []))) := fun b o e => by rw [upd_ne (ne_of_none e gx2)]; exact s2.gh b o e
    refine s_fldE gh2 (ev_len (r := rRow CR) (xs := (ls.map ratT).getD 0 []) (ev_ix (r := rTab CR) (j := 0) (ev_var rfl e2) (fun _ _ => ev_int) rfl okr.head.1)) fun z G3 H3 s3 e3 => ?_
    have hx3 := s3.hh _ _ (show upd H2 x (.ins CH dx (putF "own_letters" lv [])) x = some (.ins CH dx (putF "own_letters" lv [])) from upd_same)
    have gx3 : G3 x = none := (s3.keep gx2 upd_same).1
    have ez : z = .int (n : Int) := by rw [show z = _ from e3, okr.head.2]
    subst ez
    refine ⟨_, rfl, x, CH, dx, _, rfl, hx3, T.clH, T.nWid, (by show 1 < 1000; decide), ?_⟩
    have hs : ∀ b o, b ≠ x → H b = some o → H3 b = some o := fun b o nb e => s3.hh b o (by rw [upd_ne nb]; exact s12.hh b o e)
    refine k lv G3 _ (s12.gg.trans s3.gg) (fun b o e => by rw [upd_ne (ne_of_none e gx3)]; exact s3.gh b o e) (fun a o e e' => ?_) (fun b o nb e => by rw [upd_ne nb]; exact hs b o nb e) (by rw [upd_same]; rfl) (Mono.mono s3.gg e2)
    cases q : G2 a with
    | some u => exact s12.fr a u e q
    | none =>
      have := s3.fr a o q e'
      have nx : a ≠ x := fun z => by subst z; rw [gx3] at e'; cases e'
      rw [upd_ne nx] at this
      exact s12.hh.free this
theorem ev_house {ta : TE} {σ : St} {G : Hp} {ls : List (List (List Nm))} {n : Nat} (h : Ev ta σ G (rLN CR ls)) (ok : LsOk n ls) : Ev (tMake CH (spHI CR CH) [] E0 (tCons ta tNil)) σ G (rHou CR CH ⟨n, ls.map ratT⟩) := fun H hh Q k =>
  h H hh _ fun v G1 H1 s1 e1 x dx hx hd ne => by
    have gx : G1 x = none := s1.gh.free hx
    have gd : G1 dx = none := s1.gh.free hd
    refine ⟨x, dx, v, ls, n, G1, rfl, upd_same, fun b o e => by rw [upd_ne (ne_of_none e gx), upd_ne (ne_of_none e gd)]; exact s1.gh b o e, gx, e1, ok, fun lv G' H' g1 g2 fr hb hx' hl => ⟨rfl, ?_⟩⟩
    have gx' : G' x = none := by
      cases q : G' x with
      | none => rfl
      | some u => have := fr x u gx q; rw [upd_same] at this; cases this
    have hh1 : Same H1 H' := fun b o e => hb b o (ne_of_none e hx) (by rw [upd_ne (ne_of_none e hx), upd_ne (ne_of_none e hd)]; exact e)
    have st : Stp G1 H1 (upd G' x (.ins CH dx (houF lv (n : Int)))) H' := by
      refine ⟨g1.trans (same_upd gx'), fun b o e => ?_, hh1, fun a o e e' => ?_⟩
      · by_cases z : b = x
        · subst z; rw [upd_same] at e; rw [hx']; exact e
        · rw [upd_ne z] at e; exact g2 _ _ e
      · by_cases z : a = x
        · rw [z]; exact hx
        · rw [upd_ne z] at e'
          have := fr a o e e'
          rw [upd_ne z] at this
          by_cases z' : a = dx
          · rw [z']; exact hd
          · rw [upd_ne z'] at this; exact this
    exact k _ _ _ (s1.trans st) ⟨x, dx, lv, rfl, upd_same, Mono.mono (same_upd gx') hl⟩
theorem nm_rat {G : Hp} {v : V} {ls : List (List (List Rat))} (h : rLs CR ls G v) : rLN CR (ls.map (·.map (·.map Nm.q))) G v := rLst_map (fun x G u h => rLst_map (fun x G u h => rLst_map (t := rNm CR) (f := Nm.q) (fun x G u h => h) h) h) h
theorem nt_rat {G : Hp} {v : V} {t : List (List Rat)} (h : rTab CR t G v) : rNT CR (t.map (·.map Nm.q)) G v := rLst_map (fun x G u h => rLst_map (t := rNm CR) (f := Nm.q) (fun x G u h => h) h) h
theorem nt_int {G : Hp} {v : V} {t : List (List Int)} (h : rIT t G v) : rNT CR (t.map (·.map Nm.i)) G v := rLst_map (fun x G u h => rLst_map (t := rNm CR) (f := Nm.i) (fun x G u h => h) h) h
theorem ratT_q (t : List (List Rat)) : ratT (t.map (·.map Nm.q)) = t := by
  unfold ratT
  rw [List.map_map]
  refine (List.map_congr_left fun r _ => ?_).trans (List.map_id _)
  show (r.map Nm.q).map Nm.rat = r
  rw [List.map_map]
  exact (List.map_congr_left fun q _ => rfl).trans (List.map_id _)
theorem ratT_qs (ls : List (List (List Rat))) : (ls.map (·.map (·.map Nm.q))).map ratT = ls := by
  rw [List.map_map]
  exact (List.map_congr_left fun t _ => ratT_q t).trans (List.map_id _)
theorem sq_map {α β : Type} {f : α → β} {n : Nat} {t : List (List α)} (h : SqX n t) : SqX n (t.map (·.map f)) := ⟨by rw [List.length_map]; exact h.1, fun r hr => by
  obtain ⟨q, hq, rfl⟩ := List.mem_map.mp hr
  rw [List.length_map]
  exact h.2 q hq⟩
theorem ls_map {α β : Type} {f : α → β} {n : Nat} {ls : List (List (List α))} (h : LsOk n ls) : LsOk n (ls.map (·.map (·.map f))) := ⟨h.n1, h.n4, by rw [List.length_map]; exact h.m1, by rw [List.length_map]; exact h.m3, fun t ht => by
  obtain ⟨q, hq, rfl⟩ := List.mem_map.mp ht
  exact sq_map (h.sq q hq)⟩
def aWid (CR CH : Addr) : List V → Hp → Hp → HP → Prop := fun vs G _ R => ∃ (h : Hs) (v : V), vs = [v] ∧ rHou CR CH h G v ∧ R = rInt (h.n : Int)
theorem sc_House_width : FnScope ["self"] ["self"] (defScope s_House_width) := ⟨rfl, rfl, rfl, by decide +kernel, rfl, by decide +kernel, by decide +kernel⟩
theorem ok_House_width (T : Txt K mg CR CH) (F : Fun K "width" "House.width" s_House_width f fd) : FnOk P w K mg base CX0 1 f fd ["self"] (spP (aWid CR CH)) := by
  refine F.ok sc_House_width (fun vs H Q E h => ?_) (fun cdv A outer s H vs Q E hr h => ?_)
  · obtain ⟨G, R, _, ⟨h, v, rfl, _⟩, _⟩ := h
    rfl
  · obtain ⟨G, R, gh, ⟨h, v, rfl, hv, rfl⟩, k⟩ := h
    refine ⟨_, (pss_one (ps_ret (pe_fldK K (pv 0) rfl))), ?_⟩
    exact q_ret gh (P := rInt (h.n : Int)) (ev_wid T (ev_var rfl hv)) k
def aMany (CR CH : Addr) : List V → Hp → Hp → HP → Prop := fun vs G _ R => ∃ (h : Hs) (v : V), vs = [v] ∧ rHou CR CH h G v ∧ R = rInt (h.ls.length : Int)
theorem sc_House_many : FnScope ["self"] ["self"] (defScope s_House_many) := ⟨rfl, rfl, rfl, by decide +kernel, rfl, by decide +kernel, by decide +kernel⟩
theorem ok_House_many (T : Txt K mg CR CH) (F : Fun K "many" "House.many" s_House_many f fd) : FnOk P w K mg base CX0 1 f fd ["self"] (spP (aMany CR CH)) := by
  refine F.ok sc_House_many (fun vs H Q E h => ?_) (fun cdv A outer s H vs Q E hr h => ?_)
  · obtain ⟨G, R, _, ⟨h, v, rfl, _⟩, _⟩ := h
    rfl
  · obtain ⟨G, R, gh, ⟨h, v, rfl, hv, rfl⟩, k⟩ := h
    refine ⟨_, (pss_one (ps_ret (pe_callB (call_lenK K) (by rfl) T.len PySem.boot_len (pa_cons (pe_fldK K (pv 0) rfl) pa_nil)))), ?_⟩
    exact q_ret gh (P := rInt (h.ls.length : Int)) (ev_len (ev_lett T (ev_var rfl hv))) k
theorem ev_cls {te : TE} {σ : St} {G : Hp} {h : Hs} {sp : Sp} {A : List V → Hp → Hp → HP → Prop} {R : HP} (hv : Ev te σ G (rHou CR CH h)) (hA : ∀ G' H' v, rHou CR CH h G' v → A [v] G' H' R) : Ev (tProp CH (spP A) [] E0 te) σ G R := fun H hh Q k => hv H hh _ fun v G1 H1 s1 ⟨a, dx, lv, e1, e2, e3⟩ =>
  ⟨a, dx, _, e1, s1.gh _ _ e2, G1, R, s1.gh, hA G1 H1 (.ref a) ⟨a, dx, lv, rfl, e2, e3⟩, fun v' G2 H2 s2 p2 => k _ _ _ (s1.trans s2) p2⟩
def aLett (CR CH : Addr) : List V → Hp → Hp → HP → Prop := fun vs G _ R => ∃ (h : Hs) (v : V), vs = [v] ∧ rHou CR CH h G v ∧ HsOk h ∧ R = rLs CR h.ls
theorem sc_House_letters : FnScope ["self", "row", "table"] ["self"] (defScope s_House_letters) := ⟨rfl, rfl, rfl, by decide +kernel, rfl, by decide +kernel, by decide +kernel⟩
theorem ok_House_letters (T : Txt K mg CR CH) (F : Fun K "letters" "House.letters" s_House_letters f fd) : FnOk P w K mg base CX0 1 f fd ["self"] (spP (aLett CR CH)) := by
  refine F.ok sc_House_letters (fun vs H Q E h => ?_) (fun cdv A outer s H vs Q E hr h => ?_)
  · obtain ⟨G, R, _, ⟨h, v, rfl, _⟩, _⟩ := h
    rfl
  · obtain ⟨G, R, gh, ⟨h, v, rfl, hv, ok, rfl⟩, k⟩ := h
    refine ⟨_, (pss_one (ps_ret (pe_lc (own := [("table", 2)]) rfl sc_House_letters.nd (pi_listK K (pe_fldK K (pv 0) rfl)) (blkOk_by (by kernel_rfl)) (fun _ _ _ _ _ => (pg_name (i := 2) sc_House_letters.nd rfl (by first | exact Or.inl rfl | exact Or.inr rfl))) (fun _ _ _ _ _ => pts_nil) (fun _ _ _ _ _ => (pe_lc (own := [("row", 1)]) rfl sc_House_letters.nd (pi_listK K (pv 2)) (blkOk_by (by kernel_rfl)) (fun _ _ _ _ _ => (pg_name (i := 1) sc_House_letters.nd rfl (by first | exact Or.inl rfl | exact Or.inr rfl))) (fun _ _ _ _ _ => pts_nil) (fun _ _ _ _ _ => (pe_callTy (call_listK K) (by rfl) T.list (by decide +kernel) (pa_cons (pv 1) pa_nil)))))))), ?_⟩
    have m3 := ok.m3
    have n4 := ok.n4
    refine q_ret gh (P := rLs CR h.ls) ((ev_map (r := rTab CR) (s := rTab CR) (fun t => t) (ev_lett T (ev_var rfl hv)) (by omega) (fun _ => rfl) fun i t G1 u hu g1 ru => (ev_map (r := rRow CR) (s := rRow CR) (fun t => t) (ev_var rfl ru) (by rw [(ok.sq t (List.mem_of_getElem? hu)).1]; omega) (fun _ => rfl) fun j row G2 u2 hu2 g2 ru2 => ev_list (ev_var rfl ru2)).imp fun _ _ _ e => ?_).imp fun _ _ _ e => ?_) k
    · rw [List.map_id'] at e; exact e
    · rw [List.map_id'] at e; exact e
abbrev rWd : List Nat → HP := rLst fun (k : Nat) => rInt (k : Int)
def aWin (CR CH : Addr) : List V → Hp → Hp → HP → Prop := fun vs G _ R => ∃ (h : Hs) (wd : List Nat) (v u : V), vs = [v, u] ∧ rHou CR CH h G v ∧ rWd wd G u ∧ wd.length ≤ 16 ∧ (∀ k ∈ wd, k < h.ls.length) ∧ R = rWd wd
theorem sc_word_in : FnScope ["house", "value", "many", "letter"] ["house", "value"] (defScope s_word_in) := ⟨rfl, rfl, rfl, by decide +kernel, rfl, by decide +kernel, by decide +kernel⟩
theorem ok_word_in (T : Txt K mg CR CH) (F : Fun K "word_in" "word_in" s_word_in f fd) (C_is_list : Cal P w K mg base "is_list" 1 ["value"] (spP aLst)) (C_is_count : Cal P w K mg base "is_count" 2 ["value"] (spP aCnt)) : FnOk P w K mg base CX0 3 f fd ["house", "value"] (spP (aWin CR CH)) := by
  refine F.ok sc_word_in (fun vs H Q E h => ?_) (fun cdv A outer s H vs Q E hr h => ?_)
  · obtain ⟨G, R, _, ⟨h, wd, v, u, rfl, _⟩, _⟩ := h
    rfl
  · obtain ⟨G, R, gh, ⟨h, wd, v, u, rfl, hv, hu, hl, hk, rfl⟩, k⟩ := h
    refine ⟨_, (pss_cons (ps_if (PW.pt (pw_or (pt_not (pt_val (pe_cal C_is_list (hr.mono (by decide)) (by rfl) (pa_cons (pv 1) pa_nil)))) (pw_or1 (pt_cmpR op_gt (pe_callB (call_lenK K) (by rfl) T.len PySem.boot_len (pa_cons (pv 1) pa_nil)) (pe_k4 rfl T.msw) (nomark _))))) (pss_one (ps_ret pe_non)) pss_nil)
      (pss_cons (ps_set (i := 2) sc_word_in.nd rfl (by first | exact Or.inl rfl | exact Or.inr rfl) (pe_callB (call_lenK K) (by rfl) T.len PySem.boot_len (pa_cons (pe_fldK K (pv 0) rfl) pa_nil)))
      (pss_one (ps_ret (pe_ifExp (pt_val (pe_callB (cr_allK K rfl) (by rfl) T.all (by decide +kernel) (pa_cons (pe_lc (own := [("letter", 3)]) rfl sc_word_in.nd (pi_listK K (pv 1)) (blkOk_by (by kernel_rfl)) (fun _ _ _ _ _ => (pg_name (i := 3) sc_word_in.nd rfl (by first | exact Or.inl rfl | exact Or.inr rfl))) (fun _ _ _ _ _ => pts_nil) (fun _ _ _ _ _ => (pe_and (pe_cal C_is_count (hr.mono (by decide)) (by rfl) (pa_cons (pv 3) pa_nil)) (pe_one (pe_cmpR op_lt (pv 3) (pv 2) (nomark _)))))) pa_nil))) (pe_callTy (call_listK K) (by rfl) T.list (by decide +kernel) (pa_cons (pv 1) pa_nil)) pe_non))))), ?_⟩
    have ev1 : ∀ {σ : St} {G' : Hp}, σ[1]? = some (some u) → Same G G' → Ev (tVar 1) σ G' (rWd wd) := fun e g => ev_var e (Mono.mono g hu)
    refine q_no gh (et_is (et_or (b := !true) (et_not (et_B (ev_isl (ev1 rfl (.refl _))))) fun _ G1 g1 => et_test (b := false) ((ev_I0 (ev_len (ev1 rfl g1)) ev_int).imp fun _ z _ e => ?_)) rfl) fun G1 H1 s1 => ?_
    · rw [show z = _ from e]
      exact congrArg V.bl (decide_eq_false (by omega))
    refine q_asg s1.gh (P := rInt (h.ls.length : Int)) (ev_len (ev_lett T (ev_var rfl (Mono.mono s1.gg hv)))) fun z G2 H2 s2 e2 => ?_
    cases (show z = _ from e2)
    refine q_ret s2.gh (P := rWd wd) (ev_if (b := true) (et_B (ev_allT (ev1 rfl (s1.gg.trans s2.gg)) (by omega) (fun _ => rfl) fun i x G3 y hx g3 ry => ?_)) (fun _ G3 g3 => ev_list (ev1 rfl ((s1.gg.trans s2.gg).trans g3))) fun e => nomatch e) fun z G3 H3 s3 e3 => k z G3 H3 ((s1.trans s2).trans s3) e3
    have hkx := hk x (List.mem_of_getElem? hx)
    cases (show y = _ from ry)
    refine ev_andV (b := true) (c := true) (ev_call (ea1 (P1 := rInt (x : Int)) (ev_var rfl rfl)) fun G' H' vs _ _ ⟨y, e, e1⟩ => ⟨(x : Int), by rw [e, show y = _ from e1], by omega, rfl⟩) fun _ G4 g4 => (ev_I0 (i := (x : Int)) (j := (h.ls.length : Int)) (ev_var rfl rfl) (ev_var rfl rfl)).imp fun _ z _ e => ?_
    rw [show z = _ from e]
    exact congrArg V.bl (decide_eq_true (by omega))
theorem sc_want_word : FnScope ["house", "value", "found"] ["house", "value"] (defScope s_want_word) := ⟨rfl, rfl, rfl, by decide +kernel, rfl, by decide +kernel, by decide +kernel⟩
theorem ok_want_word (T : Txt K mg CR CH) (F : Fun K "want_word" "want_word" s_want_word f fd) (C_word_in : Cal P w K mg base "word_in" 3 ["house", "value"] (spP (aWin CR CH))) : FnOk P w K mg base CX0 4 f fd ["house", "value"] (spP (aWin CR CH)) := by
  refine F.ok sc_want_word (fun vs H Q E h => ?_) (fun cdv A outer s H vs Q E hr h => ?_)
  · obtain ⟨G, R, _, ⟨h, wd, v, u, rfl, _⟩, _⟩ := h
    rfl
  · obtain ⟨G, R, gh, ⟨h, wd, v, u, rfl, hv, hu, hl, hk, rfl⟩, k⟩ := h
    refine ⟨_, (pss_cons (ps_set (i := 2) sc_want_word.nd rfl (by first | exact Or.inl rfl | exact Or.inr rfl) (pe_cal C_word_in (hr.mono (by decide)) (by rfl) (pa_cons (pv 0) (pa_cons (pv 1) pa_nil))))
      (pss_cons (ps_if (pt_cmpR op_isN (pv 2) pe_non (nomark _)) (pss_one ps_never) pss_nil)
      (pss_one (ps_ret (pv 2))))), ?_⟩
    refine q_asg gh (P := rWd wd) (ev_call (ea2 (P1 := rHou CR CH h) (P2 := rWd wd) (ev_var rfl hv) fun _ g => ev_var rfl (Mono.mono g hu)) fun G' H' vs _ _ ⟨y, y', e, e1, e2⟩ => ⟨h, wd, y, y', e, e1, e2, hl, hk, rfl⟩) fun z G1 H1 s1 e1 => ?_
    refine q_no s1.gh (et_test (ev_isN (P1 := rWd wd) (ev_var rfl e1) fun _ _ e => not_non e)) fun G2 H2 s2 => ?_
    exact q_ret s2.gh (P := rWd wd) (ev_var rfl (Mono.mono s2.gg e1)) fun z G3 H3 s3 e3 => k z G3 H3 ((s1.trans s2).trans s3) e3
def aWtab (CR CH : Addr) : List V → Hp → Hp → HP → Prop := fun vs G _ R => ∃ (h : Hs) (wd : List Nat) (v u : V) (d e : Nat), vs = [v, u] ∧ rHou CR CH h G v ∧ rWd wd G u ∧ HsOk h ∧ wd.length ≤ 1000 ∧ (∀ k ∈ wd, k < h.ls.length) ∧ Wb d e h.n h.ls wd ∧ d + d ≤ 8999 ∧ e ≤ 400000 ∧ R = rTab CR (wtab h.n h.ls wd)
theorem sc_word_table : FnScope ["house", "word", "found", "letter"] ["house", "word"] (defScope s_word_table) := ⟨rfl, rfl, rfl, by decide +kernel, rfl, by decide +kernel, by decide +kernel⟩
theorem ok_word_table (T : Txt K mg CR CH) (F : Fun K "word_table" "word_table" s_word_table f fd) (C_idle_of : Cal P w K mg base "idle_of" 4 ["size"] (spP (aIdle CR))) (C_product_of : Cal P w K mg base "product_of" 5 ["table", "other"] (spP (aProd CR))) : FnOk P w K mg base CX0 6 f fd ["house", "word"] (spP (aWtab CR CH)) := by
  refine F.ok sc_word_table (fun vs H Q E h => ?_) (fun cdv A outer s H vs Q E hr h => ?_)
  · obtain ⟨G, R, _, ⟨h, wd, v, u, d, e, rfl, _⟩, _⟩ := h
    rfl
  · obtain ⟨G, R, gh, ⟨h, wd, v, u, d, e, rfl, hv, hu, ok, hl, hk, wb, hd, he, rfl⟩, k⟩ := h
    refine ⟨_, (pss_cons (ps_set (i := 2) sc_word_table.nd rfl (by first | exact Or.inl rfl | exact Or.inr rfl) (pe_cal C_idle_of (hr.mono (by decide)) (by rfl) (pa_cons (pe_fldK K (pv 0) rfl) pa_nil)))
      (pss_cons (ps_for PassesOwn.never rfl (pi_listK K (pv 1)) (pg_name (i := 3) sc_word_table.nd rfl (by first | exact Or.inl rfl | exact Or.inr rfl)) (pss_one (ps_set (i := 2) sc_word_table.nd rfl (by first | exact Or.inl rfl | exact Or.inr rfl) (pe_cal C_product_of (hr.mono (by decide)) (by rfl) (pa_cons (pv 2) (pa_cons (pe_ix (ix_listK K) (pe_fldK K (pv 0) rfl) (pv 3) (fun _ _ => rfl)) pa_nil))))))
      (pss_one (ps_ret (pv 2))))), ?_⟩
    have n1 := ok.n1
    have n4 := ok.n4
    refine q_asg gh (P := rTab CR (idleT h.n)) (ev_call (ea1 (P1 := rInt (h.n : Int)) (ev_wid T (ev_var rfl hv))) fun G' H' vs _ _ ⟨y, e, e1⟩ => ⟨h.n, by rw [e, show y = _ from e1], by omega, rfl⟩) fun z G1 H1 s1 e1 => ?_
    refine q_for (G0 := G) (H0 := H) s1 (src_list (r := fun (k : Nat) => rInt (k : Int)) (xs := wd) (ev_var rfl (Mono.mono s1.gg hu))) (fun i G' _ σ' => ∃ y o, σ' = [some v, some u, some y, o] ∧ rTab CR (wtab h.n h.ls (wd.take i)) G' y) (fun i G1 H1 G2 H2 σ s ⟨y, o, e, h⟩ => ⟨y, o, e, Mono.mono s.gg h⟩) (fun G2 H2 s2 => ⟨z, none, rfl, Mono.mono s2.gg e1⟩) ?_ ?_
    · rintro i G2 H2 σ2 x hi s2 g2 ⟨y, o, rfl, hy⟩ ⟨q, hq, rq⟩ N hN
      cases (show x = _ from rq)
      have hqm := List.mem_of_getElem? hq
      have hi' := List.getElem?_eq_some_iff.mp hq
      obtain ⟨m1, m2⟩ := getD_mem (d := []) (hk q hqm)
      refine s_asg s2.gh (P1 := rTab CR (wtab h.n h.ls (wd.take (i + 1)))) ?_ fun z G3 H3 s3 e3 => hN _ G3 H3 (s2.trans s3) s3.gg ⟨z, _, rfl, e3⟩
      rw [List.take_succ_eq_append_getElem hi'.1, hi'.2, wtab_snoc]
      refine ev_call (ea2 (P1 := rTab CR (wtab h.n h.ls (wd.take i))) (P2 := rTab CR (h.ls.getD q [])) (ev_var rfl hy) fun G' g => ev_ix (r := rTab CR) (j := q) (ev_lett T (ev_var rfl (Mono.mono (s2.gg.trans g) hv))) (fun _ _ => ev_var rfl rfl) rfl m2) fun G' H' vs _ _ ⟨y, y', e0, e1, e2⟩ => ⟨_, _, y, y', h.n, d, e, d, e, e0, e1, e2, sq_wtab n1 ok.sq _ fun k hk' => hk k (List.mem_of_mem_take hk'), ok.sq _ m1, n1, by omega, wb.2 i, wb.1 _ m1, hd, he, he, rfl⟩
    · rintro G2 H2 σ2 s2 g2 ⟨y, o, rfl, hy⟩
      rw [List.take_length] at hy
      exact q_ret s2.gh (P := rTab CR (wtab h.n h.ls wd)) (ev_var rfl hy) fun z G3 H3 s3 e3 => k z G3 H3 (s2.trans s3) e3
def aTabl (CR CH : Addr) : List V → Hp → Hp → HP → Prop := fun vs G _ R => ∃ (h : Hs) (wd : List Nat) (v u : V) (d e : Nat), vs = [v, u] ∧ rHou CR CH h G v ∧ rWd wd G u ∧ HsOk h ∧ wd.length ≤ 16 ∧ (∀ k ∈ wd, k < h.ls.length) ∧ Wb d e h.n h.ls wd ∧ d + d ≤ 8999 ∧ e ≤ 400000 ∧ R = rTab CR (wtab h.n h.ls wd)
theorem sc_House_table : FnScope ["self", "word", "row"] ["self", "word"] (defScope s_House_table) := ⟨rfl, rfl, rfl, by decide +kernel, rfl, by decide +kernel, by decide +kernel⟩
theorem ok_House_table (T : Txt K mg CR CH) (F : Fun K "table" "House.table" s_House_table f fd) (C_want_word : Cal P w K mg base "want_word" 4 ["house", "value"] (spP (aWin CR CH))) (C_word_table : Cal P w K mg base "word_table" 6 ["house", "word"] (spP (aWtab CR CH))) : FnOk P w K mg base CX0 7 f fd ["self", "word"] (spP (aTabl CR CH)) := by
  refine F.ok sc_House_table (fun vs H Q E h => ?_) (fun cdv A outer s H vs Q E hr h => ?_)
  · obtain ⟨G, R, _, ⟨h, wd, v, u, d, e, rfl, _⟩, _⟩ := h
    rfl
  · obtain ⟨G, R, gh, ⟨h, wd, v, u, d, e, rfl, hv, hu, ok, hl, hk, wb, hd, he, rfl⟩, k⟩ := h
    refine ⟨_, (pss_one (ps_ret (pe_lc (own := [("row", 2)]) rfl sc_House_table.nd (pi_listK K (pe_cal C_word_table (hr.mono (by decide)) (by rfl) (pa_cons (pv 0) (pa_cons (pe_cal C_want_word (hr.mono (by decide)) (by rfl) (pa_cons (pv 0) (pa_cons (pv 1) pa_nil))) pa_nil)))) (blkOk_by (by kernel_rfl)) (fun _ _ _ _ _ => (pg_name (i := 2) sc_House_table.nd rfl (by first | exact Or.inl rfl | exact Or.inr rfl))) (fun _ _ _ _ _ => pts_nil) (fun _ _ _ _ _ => (pe_callTy (call_listK K) (by rfl) T.list (by decide +kernel) (pa_cons (pv 2) pa_nil)))))), ?_⟩
    have n4 := ok.n4
    refine q_ret gh (P := rTab CR (wtab h.n h.ls wd)) ((ev_map (r := rRow CR) (s := rRow CR) (fun t => t) (ev_call (P := rTab CR (wtab h.n h.ls wd)) (ea2 (P1 := rHou CR CH h) (P2 := rWd wd) (ev_var rfl hv) fun G' g => ev_call (ea2 (P1 := rHou CR CH h) (P2 := rWd wd) (ev_var rfl (Mono.mono g hv)) fun _ g' => ev_var rfl (Mono.mono (g.trans g') hu)) fun G' H' vs _ _ ⟨y, y', e0, e1, e2⟩ => ⟨h, wd, y, y', e0, e1, e2, hl, hk, rfl⟩) fun G' H' vs _ _ ⟨y, y', e0, e1, e2⟩ => ⟨h, wd, y, y', d, e, e0, e1, e2, ok, by omega, hk, wb, hd, he, rfl⟩) (by rw [(sq_wtab ok.n1 ok.sq wd hk).1]; omega) (fun _ => rfl) fun j row G2 u2 hu2 g2 ru2 => ev_list (ev_var rfl ru2)).imp fun _ _ _ e => ?_) k
    rw [List.map_id'] at e; exact e
def aWsum (CR CH : Addr) : List V → Hp → Hp → HP → Prop := fun vs G _ R => ∃ (h : Hs) (wd : List Nat) (v u : V) (d e : Nat), vs = [v, u] ∧ rHou CR CH h G v ∧ rWd wd G u ∧ HsOk h ∧ wd.length ≤ 16 ∧ (∀ k ∈ wd, k < h.ls.length) ∧ Wb d e h.n h.ls wd ∧ d ≤ 3000 ∧ e ≤ 3000 ∧ R = rRat CR (trT (wtab h.n h.ls wd))
theorem sc_House_word_sum : FnScope ["self", "word"] ["self", "word"] (defScope s_House_word_sum) := ⟨rfl, rfl, rfl, by decide +kernel, rfl, by decide +kernel, by decide +kernel⟩
theorem ok_House_word_sum (T : Txt K mg CR CH) (F : Fun K "word_sum" "House.word_sum" s_House_word_sum f fd) (C_want_word : Cal P w K mg base "want_word" 4 ["house", "value"] (spP (aWin CR CH))) (C_word_table : Cal P w K mg base "word_table" 6 ["house", "word"] (spP (aWtab CR CH))) (C_line_sum : Cal P w K mg base "line_sum" 7 ["table"] (spP (aLine CR))) : FnOk P w K mg base CX0 8 f fd ["self", "word"] (spP (aWsum CR CH)) := by
  refine F.ok sc_House_word_sum (fun vs H Q E h => ?_) (fun cdv A outer s H vs Q E hr h => ?_)
  · obtain ⟨G, R, _, ⟨h, wd, v, u, d, e, rfl, _⟩, _⟩ := h
    rfl
  · obtain ⟨G, R, gh, ⟨h, wd, v, u, d, e, rfl, hv, hu, ok, hl, hk, wb, hd, he, rfl⟩, k⟩ := h
    refine ⟨_, (pss_one (ps_ret (pe_cal C_line_sum (hr.mono (by decide)) (by rfl) (pa_cons (pe_cal C_word_table (hr.mono (by decide)) (by rfl) (pa_cons (pv 0) (pa_cons (pe_cal C_want_word (hr.mono (by decide)) (by rfl) (pa_cons (pv 0) (pa_cons (pv 1) pa_nil))) pa_nil))) pa_nil)))), ?_⟩
    have n4 := ok.n4
    have wbl := wb.2 wd.length
    rw [List.take_length] at wbl
    exact q_ret gh (P := rRat CR (trT (wtab h.n h.ls wd))) (ev_call (ea1 (P1 := rTab CR (wtab h.n h.ls wd)) (ev_call (P := rTab CR (wtab h.n h.ls wd)) (ea2 (P1 := rHou CR CH h) (P2 := rWd wd) (ev_var rfl hv) fun G' g => ev_call (ea2 (P1 := rHou CR CH h) (P2 := rWd wd) (ev_var rfl (Mono.mono g hv)) fun _ g' => ev_var rfl (Mono.mono (g.trans g') hu)) fun G' H' vs _ _ ⟨y, y', e0, e1, e2⟩ => ⟨h, wd, y, y', e0, e1, e2, hl, hk, rfl⟩) fun G' H' vs _ _ ⟨y, y', e0, e1, e2⟩ => ⟨h, wd, y, y', d, e, e0, e1, e2, ok, by omega, hk, wb, by omega, by omega, rfl⟩)) fun G' H' vs _ _ ⟨y, e0, e1⟩ => ⟨_, y, h.n, d, e, e0, e1, sq_wtab ok.n1 ok.sq wd hk, by omega, wbl, hd, he, rfl⟩) k
def aEqH (CR CH : Addr) : List V → Hp → Hp → HP → Prop := fun vs G _ R => ∃ (h h' : Hs) (v u : V), vs = [v, u] ∧ rHou CR CH h G v ∧ rHou CR CH h' G u ∧ R = rBl (decide (h.ls = h'.ls))
theorem sc_House_eq : FnScope ["self", "other"] ["self", "other"] (defScope s_House_eq) := ⟨rfl, rfl, rfl, by decide +kernel, rfl, by decide +kernel, by decide +kernel⟩
theorem ok_House_eq (T : Txt K mg CR CH) (F : Fun K "__eq__" "House.__eq__" s_House_eq f fd) (E : ∀ {X : Cx}, X.prog = P → X.w = w → X.K = K → X.mg = mg → X.base = base → RcB X 1 .Eq false (DEq (rRat CR))) : FnOk P w K mg base CX0 5 f fd ["self", "other"] (spP (aEqH CR CH)) := by
  refine F.ok sc_House_eq (fun vs H Q E h => ?_) (fun cdv A outer s H vs Q E' hr h => ?_)
  · obtain ⟨G, R, _, ⟨h, h', v, u, rfl, _⟩, _⟩ := h
    rfl
  · obtain ⟨G, R, gh, ⟨h, h', v, u, rfl, hv, hu, rfl⟩, k⟩ := h
    refine ⟨_, (pss_cons (ps_if (pt_not (pt_val (pe_callB (call_isiK' K) (by rfl) T.isinstance (by decide +kernel) (pa_cons (pv 1) (pa_cons (pe_glob (v := .ref CH) rfl T.mgH rfl) pa_nil))))) (pss_one (ps_ret pe_bl)) pss_nil)
      (pss_one (ps_ret (pe_cmpR (op_eqB (rcB_lst (eqB_lst (eqB_lst (EqB.of (E rfl rfl rfl rfl rfl) ref_rat)))) (hr.mono (by decide))) (pe_fldK K (pv 0) rfl) (pe_fldK K (pv 1) rfl) (nomark _))))), ?_⟩
    refine q_no gh (et_not (b := true) (et_B (ev_isi (P := rHou CR CH h') (ev_var rfl hu) (fun _ _ => ev_c rfl) (.own CH) fun G' v e => ⟨_, ty_houv T e, T.kHH⟩))) fun G1 H1 s1 => ?_
    refine q_ret s1.gh (P := rBl (decide (h.ls = h'.ls))) ((ev_eqD (ev_lett T (ev_var rfl (Mono.mono s1.gg hv))) fun G' g => ev_lett T (ev_var rfl (Mono.mono (s1.gg.trans g) hu))).imp fun _ _ _ e => ?_) fun z G2 H2 s2 e2 => k z G2 H2 (s1.trans s2) e2
    rw [Bool.bne_false] at e
    exact e
end
end K28
end
section
set_option Elab.async false
set_option linter.all false
set_option maxRecDepth 100000
set_option maxHeartbeats 4000000
set_option autoImplicit false
set_option exponentiation.threshold 20000
namespace K28
open PySem L2
section
variable {P : Program} {w : World} {K : PySem.W.Frag} {mg : Str → Option Value} {base : Heap} {CR CH : Addr} {f : Addr} {fd : FuncData}
def aWH (CR CH : Addr) : List V → Hp → Hp → HP → Prop := fun vs G _ R => ∃ (h : Hs) (v : V), vs = [v] ∧ rHou CR CH h G v ∧ R = rHou CR CH h
theorem sc_want_house : FnScope ["value"] ["value"] (defScope s_want_house) := ⟨rfl, rfl, rfl, by decide +kernel, rfl, by decide +kernel, by decide +kernel⟩
theorem ok_want_house (T : Txt K mg CR CH) (F : Fun K "want_house" "want_house" s_want_house f fd) : FnOk P w K mg base CX0 1 f fd ["value"] (spP (aWH CR CH)) := by
  refine F.ok sc_want_house (fun vs H Q E h => ?_) (fun cdv A outer s H vs Q E hr h => ?_)
  · obtain ⟨G, R, _, ⟨h, v, rfl, _⟩, _⟩ := h
    rfl
  · obtain ⟨G, R, gh, ⟨h, v, rfl, hv, rfl⟩, k⟩ := h
    refine ⟨_, (pss_cons (ps_if (pt_not (pt_val (pe_callB (call_isiK' K) (by rfl) T.isinstance (by decide +kernel) (pa_cons (pv 0) (pa_cons (pe_glob (v := .ref CH) rfl T.mgH rfl) pa_nil))))) (pss_one ps_never) pss_nil)
      (pss_one (ps_ret (pv 0)))), ?_⟩
    refine q_no gh (et_not (b := true) (et_B (ev_isi (P := rHou CR CH h) (ev_var rfl hv) (fun _ _ => ev_c rfl) (.own CH) fun G' v e => ⟨_, ty_houv T e, T.kHH⟩))) fun G1 H1 s1 => ?_
    exact q_ret s1.gh (P := rHou CR CH h) (ev_var rfl (Mono.mono s1.gg hv)) fun z G2 H2 s2 e2 => k z G2 H2 (s1.trans s2) e2
def aHof (CR CH : Addr) : List V → Hp → Hp → HP → Prop := fun vs G _ R => ∃ (ls : List (List (List Nm))) (n : Nat) (v : V), vs = [v] ∧ rLN CR ls G v ∧ LsOk n ls ∧ R = rHou CR CH ⟨n, ls.map ratT⟩
theorem sc_house_of : FnScope ["letters"] ["letters"] (defScope s_house_of) := ⟨rfl, rfl, rfl, by decide +kernel, rfl, by decide +kernel, by decide +kernel⟩
theorem ok_house_of (T : Txt K mg CR CH) (F : Fun K "house_of" "house_of" s_house_of f fd) (C_House : CalMk P w K mg base "House" CH 7 ["self", "letters"] [] (spHI CR CH)) : FnOk P w K mg base CX0 9 f fd ["letters"] (spP (aHof CR CH)) := by
  refine F.ok sc_house_of (fun vs H Q E h => ?_) (fun cdv A outer s H vs Q E hr h => ?_)
  · obtain ⟨G, R, _, ⟨ls, n, v, rfl, _⟩, _⟩ := h
    rfl
  · obtain ⟨G, R, gh, ⟨ls, n, v, rfl, hv, ok, rfl⟩, k⟩ := h
    refine ⟨_, (pss_one (ps_ret (pe_mk C_House (hr.mono (by decide)) (by rfl) (pa_cons (pv 0) pa_nil)))), ?_⟩
    exact q_ret gh (P := rHou CR CH ⟨n, ls.map ratT⟩) (ev_house (ev_var rfl hv) ok) k
theorem ev_hof {ta : TE} {σ : St} {G : Hp} {ls : List (List (List Rat))} {n : Nat} (h : Ev ta σ G (rLs CR ls)) (ok : LsOk n ls) : Ev (tCall (spP (aHof CR CH)) [] E0 (tCons ta tNil)) σ G (rHou CR CH ⟨n, ls⟩) :=
  ev_call (ea1 (P1 := rLs CR ls) h) fun G' H' vs _ _ ⟨y, e, e1⟩ => ⟨ls.map (·.map (·.map Nm.q)), n, y, e, nm_rat e1, ls_map ok, by rw [ratT_qs]⟩
def aPairH (CR CH : Addr) : List V → Hp → Hp → HP → Prop := fun vs G _ R => ∃ (h h' : Hs) (v u : V), vs = [v, u] ∧ rHou CR CH h G v ∧ rHou CR CH h' G u ∧ h.ls.length = h'.ls.length ∧ R = rPr (rHou CR CH) (rHou CR CH) (h, h')
theorem sc_want_pair : FnScope ["house", "other", "here", "there"] ["house", "other"] (defScope s_want_pair) := ⟨rfl, rfl, rfl, by decide +kernel, rfl, by decide +kernel, by decide +kernel⟩
theorem ok_want_pair (T : Txt K mg CR CH) (F : Fun K "want_pair" "want_pair" s_want_pair f fd) (C_want_house : Cal P w K mg base "want_house" 1 ["value"] (spP (aWH CR CH))) : FnOk P w K mg base CX0 2 f fd ["house", "other"] (spP (aPairH CR CH)) := by
  refine F.ok sc_want_pair (fun vs H Q E h => ?_) (fun cdv A outer s H vs Q E hr h => ?_)
  · obtain ⟨G, R, _, ⟨h, h', v, u, rfl, _⟩, _⟩ := h
    rfl
  · obtain ⟨G, R, gh, ⟨h, h', v, u, rfl, hv, hu, hl, rfl⟩, k⟩ := h
    refine ⟨_, (pss_cons (ps_set (i := 2) sc_want_pair.nd rfl (by first | exact Or.inl rfl | exact Or.inr rfl) (pe_cal C_want_house (hr.mono (by decide)) (by rfl) (pa_cons (pv 0) pa_nil)))
      (pss_cons (ps_set (i := 3) sc_want_pair.nd rfl (by first | exact Or.inl rfl | exact Or.inr rfl) (pe_cal C_want_house (hr.mono (by decide)) (by rfl) (pa_cons (pv 1) pa_nil)))
      (pss_cons (ps_if (pt_cmpR op_ne (pe_callB (call_lenK K) (by rfl) T.len PySem.boot_len (pa_cons (pe_fldK K (pv 2) rfl) pa_nil)) (pe_callB (call_lenK K) (by rfl) T.len PySem.boot_len (pa_cons (pe_fldK K (pv 3) rfl) pa_nil)) (nomark _)) (pss_one ps_never) pss_nil)
      (pss_one (ps_ret (pe_tup (pa_cons (pv 2) (pa_cons (pv 3) pa_nil)))))))), ?_⟩
    refine q_asg gh (P := rHou CR CH h) (ev_call (ea1 (P1 := rHou CR CH h) (ev_var rfl hv)) fun G' H' vs _ _ ⟨y, e, e1⟩ => ⟨h, y, e, e1, rfl⟩) fun x1 G1 H1 s1 e1 => ?_
    refine q_asg s1.gh (P := rHou CR CH h') (ev_call (ea1 (P1 := rHou CR CH h') (ev_var rfl (Mono.mono s1.gg hu))) fun G' H' vs _ _ ⟨y, e, e1⟩ => ⟨h', y, e, e1, rfl⟩) fun x2 G2 H2 s2 e2 => ?_
    have e1' : rHou CR CH h G2 x1 := Mono.mono s2.gg e1
    refine q_no s2.gh (et_test (b := false) ((ev_neI (ev_len (ev_lett T (ev_var rfl e1'))) (ev_len (ev_lett T (ev_var rfl e2)))).imp fun _ z _ e => ?_)) fun G3 H3 s3 => ?_
    · rw [show z = _ from e, hl]
      refine congrArg V.bl ?_
      simp
    exact q_ret s3.gh (P := rPr (rHou CR CH) (rHou CR CH) (h, h')) (ev_pair (r := rHou CR CH) (s := rHou CR CH) (ev_var rfl (Mono.mono s3.gg e1')) fun _ g => ev_var rfl (Mono.mono (s3.gg.trans g) e2)) fun z G4 H4 s4 e4 => k z G4 H4 (((s1.trans s2).trans s3).trans s4) e4
theorem sq_abo {n : Nat} {t : List (List Rat)} (h : SqX n t) : SqX n (aboT t) := ⟨by unfold aboT; simp [h.1], fun r hr => by
  unfold aboT at hr
  obtain ⟨p, _, rfl⟩ := List.mem_map.mp hr
  rw [List.length_map]; exact h.1⟩
theorem LsOk.of {α β : Type} {n m : Nat} {ls : List (List (List α))} {ls' : List (List (List β))} (h : LsOk n ls) (hl : ls'.length = ls.length) (h1 : 1 ≤ m) (h4 : m ≤ 4) (hs : ∀ t ∈ ls', SqX m t) : LsOk m ls' := ⟨h1, h4, by rw [hl]; exact h.m1, by rw [hl]; exact h.m3, hs⟩
def aAboH (CR CH : Addr) : List V → Hp → Hp → HP → Prop := fun vs G _ R => ∃ (h : Hs) (v : V), vs = [v] ∧ rHou CR CH h G v ∧ HsOk h ∧ R = rHou CR CH ⟨h.n, h.ls.map aboT⟩
theorem sc_about_house : FnScope ["house", "here", "table"] ["house"] (defScope s_about_house) := ⟨rfl, rfl, rfl, by decide +kernel, rfl, by decide +kernel, by decide +kernel⟩
theorem ok_about_house (T : Txt K mg CR CH) (F : Fun K "about_house" "about_house" s_about_house f fd) (C_want_house : Cal P w K mg base "want_house" 1 ["value"] (spP (aWH CR CH))) (C_house_of : Cal P w K mg base "house_of" 9 ["letters"] (spP (aHof CR CH))) (C_about_of : Cal P w K mg base "about_of" 1 ["table"] (spP (aAbout CR))) : FnOk P w K mg base CX0 10 f fd ["house"] (spP (aAboH CR CH)) := by
  refine F.ok sc_about_house (fun vs H Q E h => ?_) (fun cdv A outer s H vs Q E hr h => ?_)
  · obtain ⟨G, R, _, ⟨h, v, rfl, _⟩, _⟩ := h
    rfl
  · obtain ⟨G, R, gh, ⟨h, v, rfl, hv, ok, rfl⟩, k⟩ := h
    refine ⟨_, (pss_cons (ps_set (i := 1) sc_about_house.nd rfl (by first | exact Or.inl rfl | exact Or.inr rfl) (pe_cal C_want_house (hr.mono (by decide)) (by rfl) (pa_cons (pv 0) pa_nil)))
      (pss_one (ps_ret (pe_cal C_house_of (hr.mono (by decide)) (by rfl) (pa_cons (pe_lc (own := [("table", 2)]) rfl sc_about_house.nd (pi_listK K (pe_fldK K (pv 1) rfl)) (blkOk_by (by kernel_rfl)) (fun _ _ _ _ _ => (pg_name (i := 2) sc_about_house.nd rfl (by first | exact Or.inl rfl | exact Or.inr rfl))) (fun _ _ _ _ _ => pts_nil) (fun _ _ _ _ _ => (pe_cal C_about_of (hr.mono (by decide)) (by rfl) (pa_cons (pv 2) pa_nil)))) pa_nil))))), ?_⟩
    have m3 := ok.m3
    have n4 := ok.n4
    refine q_asg gh (P := rHou CR CH h) (ev_call (ea1 (P1 := rHou CR CH h) (ev_var rfl hv)) fun G' H' vs _ _ ⟨y, e, e1⟩ => ⟨h, y, e, e1, rfl⟩) fun x1 G1 H1 s1 e1 => ?_
    refine q_ret s1.gh (P := rHou CR CH ⟨h.n, h.ls.map aboT⟩) (ev_hof (ev_map (r := rTab CR) (s := rTab CR) aboT (ev_lett T (ev_var rfl e1)) (by omega) (fun _ => rfl) fun i t G2 u hu g2 ru => ev_call (ea1 (P1 := rTab CR t) (ev_var rfl ru)) fun G' H' vs _ _ ⟨y, e, e1⟩ => ⟨t, y, h.n, e, e1, ok.sq t (List.mem_of_getElem? hu), by omega, rfl⟩) (ok.of (by rw [List.length_map]) ok.n1 ok.n4 fun t ht => ?_)) fun z G2 H2 s2 e2 => k z G2 H2 (s1.trans s2) e2
    obtain ⟨q, hq, rfl⟩ := List.mem_map.mp ht
    exact sq_abo (ok.sq q hq)
def aOnL (CR : Addr) : List V → Hp → Hp → HP → Prop := fun vs G _ R => ∃ (t u : List (List Rat)) (n m : Nat) (v x : V), vs = [v, x] ∧ rTab CR t G v ∧ rTab CR u G x ∧ SqX n t ∧ SqX m u ∧ n ≤ 100 ∧ m ≤ 100 ∧ R = rTab CR (onT t u)
theorem sc_on_line : FnScope ["table", "other", "found", "row"] ["table", "other"] (defScope s_on_line) := ⟨rfl, rfl, rfl, by decide +kernel, rfl, by decide +kernel, by decide +kernel⟩
theorem ev_nought (C : Nat) {te : TE} {σ : St} {G : Hp} {n : Nat} (h : ∀ G', Same G G' → Ev te σ G' (rInt (n : Int))) (hn : n ≤ 1000) : Ev (tOp rRep (tLst (tCons (tMake CR (spInit CR) [.int 1] E0 (tCons (tC (.int 0)) tNil)) tNil)) te) σ G (rRow CR (List.replicate n 0)) :=
  ev_rep (el_one (r := rRat CR) (x := 0) ((ev_ratio1 (i := 0) ev_int).imp fun _ _ _ e => e)) h (by omega)
theorem ok_on_line (T : Txt K mg CR CH) (F : Fun K "on_line" "on_line" s_on_line f fd) (C_Ratio1 : CalMk P w K mg base "Ratio" CR 2 ["self", "top", "bottom"] [.int 1] (spInit CR)) : FnOk P w K mg base CX0 4 f fd ["table", "other"] (spP (aOnL CR)) := by
  refine F.ok sc_on_line (fun vs H Q E h => ?_) (fun cdv A outer s H vs Q E hr h => ?_)
  · obtain ⟨G, R, _, ⟨t, u, n, m, v, x, rfl, _⟩, _⟩ := h
    rfl
  · obtain ⟨G, R, gh, ⟨t, u, n, m, v, x, rfl, hv, hx, sq, sq', hn, hm, rfl⟩, k⟩ := h
    refine ⟨_, (pss_cons (ps_setLc (i := 2) (own := [("row", 3)]) rfl sc_on_line.nd rfl rfl (sw_true rfl rfl rfl (by decide +kernel)) (pi_listK K (pv 0)) (blkOk_by (by kernel_rfl)) (fun _ _ _ _ _ => (pg_name (i := 3) sc_on_line.nd rfl (by first | exact Or.inl rfl | exact Or.inr rfl))) (fun _ _ _ _ _ => pts_nil) (fun _ _ _ _ _ => (pe_op op_cat (pv 3) (pe_op op_rep (pe_lst (pa_cons (pe_mk C_Ratio1 (hr.mono (by decide)) (by rfl) (pa_cons pe_int pa_nil)) pa_nil)) (pe_callB (call_lenK K) (by rfl) T.len PySem.boot_len (pa_cons (pv 1) pa_nil))))))
      (pss_one (ps_ret (pe_op op_cat (pv 2) (pe_lc (own := [("row", 3)]) rfl sc_on_line.nd (pi_listK K (pv 1)) (blkOk_by (by kernel_rfl)) (fun _ _ _ _ _ => (pg_name (i := 3) sc_on_line.nd rfl (by first | exact Or.inl rfl | exact Or.inr rfl))) (fun _ _ _ _ _ => pts_nil) (fun _ _ _ _ _ => (pe_op op_cat (pe_op op_rep (pe_lst (pa_cons (pe_mk C_Ratio1 (hr.mono (by decide)) (by rfl) (pa_cons pe_int pa_nil)) pa_nil)) (pe_callB (call_lenK K) (by rfl) T.len PySem.boot_len (pa_cons (pv 0) pa_nil))) (pv 3)))))))), ?_⟩
    have l1 := sq.1
    have l2 := sq'.1
    have ev0 : ∀ {σ : St} {G' : Hp}, σ[0]? = some (some v) → Same G G' → Ev (tVar 0) σ G' (rTab CR t) := fun e g => ev_var e (Mono.mono g hv)
    have ev1 : ∀ {σ : St} {G' : Hp}, σ[1]? = some (some x) → Same G G' → Ev (tVar 1) σ G' (rTab CR u) := fun e g => ev_var e (Mono.mono g hx)
    refine q_asg gh (P := rTab CR (t.map (· ++ List.replicate u.length 0))) (ev_map (r := rRow CR) (s := rRow CR) (· ++ List.replicate u.length 0) (ev0 rfl (.refl _)) (by omega) (fun _ => rfl) fun i row G1 y hy g1 ry => ?_) fun z G1 H1 s1 e1 => ?_
    · exact ev_cat (ev_var rfl ry) (fun G' g => ev_nought 0 (fun _ g' => ev_len (ev1 rfl ((g1.trans g).trans g'))) (by omega)) (by rw [sq.2 row (List.mem_of_getElem? hy), List.length_replicate]; omega)
    refine q_ret s1.gh (P := rTab CR (onT t u)) (ev_cat (ev_var rfl e1) (fun G2 g2 => ev_map (r := rRow CR) (s := rRow CR) (List.replicate t.length 0 ++ ·) (ev1 rfl (s1.gg.trans g2)) (by omega) (fun _ => rfl) fun i row G3 y hy g3 ry => ?_) (by rw [List.length_map, List.length_map]; omega)) fun z G2 H2 s2 e2 => k z G2 H2 (s1.trans s2) e2
    exact ev_cat (ev_nought 0 (fun _ g' => ev_len (ev0 rfl (((s1.gg.trans g2).trans g3).trans g'))) (by omega)) (fun G' g => ev_var rfl (Mono.mono g ry)) (by rw [sq'.2 row (List.mem_of_getElem? hy), List.length_replicate]; omega)
theorem sq_on {n m : Nat} {t u : List (List Rat)} (h : SqX n t) (h' : SqX m u) : SqX (n + m) (onT t u) := by
  unfold onT
  refine ⟨by rw [List.length_append, List.length_map, List.length_map, h.1, h'.1], fun r hr => ?_⟩
  rcases List.mem_append.mp hr with hr | hr
  · obtain ⟨q, hq, rfl⟩ := List.mem_map.mp hr
    rw [List.length_append, h.2 q hq, List.length_replicate, h'.1]
  · obtain ⟨q, hq, rfl⟩ := List.mem_map.mp hr
    rw [List.length_append, h'.2 q hq, List.length_replicate, h.1]
def aSide (CR CH : Addr) : List V → Hp → Hp → HP → Prop := fun vs G _ R => ∃ (h h' : Hs) (v u : V), vs = [v, u] ∧ rHou CR CH h G v ∧ rHou CR CH h' G u ∧ HsOk h ∧ HsOk h' ∧ h.ls.length = h'.ls.length ∧ h.n + h'.n ≤ 4 ∧ R = rHou CR CH ⟨h.n + h'.n, List.zipWith onT h.ls h'.ls⟩
theorem sc_side : FnScope ["house", "other", "here", "there", "table", "late"] ["house", "other"] (defScope s_side) := ⟨rfl, rfl, rfl, by decide +kernel, rfl, by decide +kernel, by decide +kernel⟩
theorem ok_side (T : Txt K mg CR CH) (F : Fun K "side" "side" s_side f fd) (C_want_pair : Cal P w K mg base "want_pair" 2 ["house", "other"] (spP (aPairH CR CH))) (C_want_at_most : Cal P w K mg base "want_at_most" 1 ["what", "limit", "number"] (spP aAtMost)) (C_house_of : Cal P w K mg base "house_of" 9 ["letters"] (spP (aHof CR CH))) (C_on_line : Cal P w K mg base "on_line" 4 ["table", "other"] (spP (aOnL CR))) : FnOk P w K mg base CX0 10 f fd ["house", "other"] (spP (aSide CR CH)) := by
  refine F.ok sc_side (fun vs H Q E h => ?_) (fun cdv A outer s H vs Q E hr h => ?_)
  · obtain ⟨G, R, _, ⟨h, h', v, u, rfl, _⟩, _⟩ := h
    rfl
  · obtain ⟨G, R, gh, ⟨h, h', v, u, rfl, hv, hu, ok, ok', hl, h4, rfl⟩, k⟩ := h
    refine ⟨_, (pss_cons (ps_asg (pe_cal C_want_pair (hr.mono (by decide)) (by rfl) (pa_cons (pv 0) (pa_cons (pv 1) pa_nil))) (pg_tupK (n := 2) K (by rfl) (pgs_cons (pg_name (i := 2) sc_side.nd rfl (by first | exact Or.inl rfl | exact Or.inr rfl)) (pgs_cons (pg_name (i := 3) sc_side.nd rfl (by first | exact Or.inl rfl | exact Or.inr rfl)) pgs_nil))))
      (pss_cons (ps_expr (pe_cal C_want_at_most (hr.mono (by decide)) (by rfl) (pa_cons pe_str (pa_cons (pe_k4 rfl T.msh) (pa_cons (pe_op op_add (pe_fldK K (pv 2) rfl) (pe_fldK K (pv 3) rfl)) pa_nil)))))
      (pss_one (ps_ret (pe_cal C_house_of (hr.mono (by decide)) (by rfl) (pa_cons (pe_lc (own := [("table", 4), ("late", 5)]) rfl sc_side.nd (pi_zipK K (by rfl) T.zip (pa_cons (pe_fldK K (pv 2) rfl) (pa_cons (pe_fldK K (pv 3) rfl) pa_nil))) (blkOk_by (by kernel_rfl)) (fun _ _ _ _ _ => (pg_tupK (n := 2) K (by rfl) (pgs_cons (pg_name (i := 4) sc_side.nd rfl (by first | exact Or.inl rfl | exact Or.inr rfl)) (pgs_cons (pg_name (i := 5) sc_side.nd rfl (by first | exact Or.inl rfl | exact Or.inr rfl)) pgs_nil)))) (fun _ _ _ _ _ => pts_nil) (fun _ _ _ _ _ => (pe_cal C_on_line (hr.mono (by decide)) (by rfl) (pa_cons (pv 4) (pa_cons (pv 5) pa_nil))))) pa_nil)))))), ?_⟩
    have m3 := ok.m3
    refine q_pair (r := rHou CR CH) (s := rHou CR CH) gh (ev_call (P := rPr (rHou CR CH) (rHou CR CH) (h, h')) (ea2 (P1 := rHou CR CH h) (P2 := rHou CR CH h') (ev_var rfl hv) fun _ g => ev_var rfl (Mono.mono g hu)) fun G' H' vs _ _ ⟨y, y', e, e1, e2⟩ => ⟨h, h', y, y', e, e1, e2, hl, rfl⟩) fun x1 x2 G1 H1 s1 e1 e2 => ?_
    refine q_drop s1.gh (P := rVal .non) (ev_call (ea3 (P1 := rVal (.str "size")) (P2 := rInt 4) (P3 := rInt ((h.n : Int) + (h'.n : Int))) (ev_c rfl) (fun _ _ => ev_int) fun G' g => ev_I0 (ev_wid T (ev_var rfl (Mono.mono g e1))) (ev_wid T (ev_var rfl (Mono.mono g e2)))) fun G' H' vs _ _ ⟨y, y', y'', e, q1, q2, q3⟩ => ⟨y, 4, (h.n : Int) + (h'.n : Int), by rw [e, show y' = _ from q2, show y'' = _ from q3], by omega, rfl⟩) fun z G2 H2 s2 e3 => ?_
    refine q_ret s2.gh (P := rHou CR CH ⟨h.n + h'.n, List.zipWith onT h.ls h'.ls⟩) (ev_hof (ev_mapZ (r := rTab CR) (s := rTab CR) (t := rTab CR) onT (ev_lett T (ev_var rfl (Mono.mono s2.gg e1))) (fun G' g => ev_lett T (ev_var rfl (Mono.mono (s2.gg.trans g) e2))) (by omega) (fun _ _ => rfl) fun i x y G3 a b hx hy g3 ra rb => ev_call (ea2 (P1 := rTab CR x) (P2 := rTab CR y) (ev_var rfl ra) fun _ g => ev_var rfl (Mono.mono g rb)) fun G' H' vs _ _ ⟨z, z', e, e1, e2⟩ => ⟨x, y, h.n, h'.n, z, z', e, e1, e2, ok.sq x (List.mem_of_getElem? hx), ok'.sq y (List.mem_of_getElem? hy), by omega, by omega, rfl⟩) (ok.of (by rw [List.length_zipWith]; omega) (by have := ok.n1; omega) h4 fun t ht => ?_)) fun z G3 H3 s3 e3 => k z G3 H3 ((s1.trans s2).trans s3) e3
    rw [List.mem_iff_getElem] at ht
    obtain ⟨i, hi, rfl⟩ := ht
    rw [List.getElem_zipWith]
    exact sq_on (ok.sq _ (List.getElem_mem _)) (ok'.sq _ (List.getElem_mem _))
theorem sq_und {n : Nat} {t : List (List Rat)} (h : UndOk n t) : SqX n (undT t) := ⟨by unfold undT; rw [List.length_map]; exact h.full, fun r hr => by
  unfold undT at hr
  obtain ⟨q, hq, rfl⟩ := List.mem_map.mp hr
  rw [List.length_drop, len_undF h q (List.mem_filter.mp hq).1, h.sq.1]
  omega⟩
/-- the numbers met when a house is led by p -/
structure LedB (d e : Nat) (p : List (List Rat)) (ls : List (List (List Rat))) : Prop where
  d2 : d + d ≤ 8999
  e4 : e ≤ 400000
  bl : ∀ t ∈ ls, Bd d e t.flatten
  bp : Bd d e p.flatten
  bq : Bd d e (undT p).flatten
  pt : ∀ t ∈ ls, Bd d e (prodT p t).flatten
def aLed (CR CH : Addr) : List V → Hp → Hp → HP → Prop := fun vs G _ R => ∃ (h : Hs) (p : List (List Nm)) (v u : V) (d e : Nat), vs = [v, u] ∧ rHou CR CH h G v ∧ rNT CR p G u ∧ HsOk h ∧ SqX h.n p ∧ UndOk h.n (ratT p) ∧ LedB d e (ratT p) h.ls ∧ R = rHou CR CH ⟨h.n, h.ls.map (ledT (ratT p) (undT (ratT p)))⟩
theorem sc_led_house : FnScope ["house", "table", "here", "lead", "back", "letter"] ["house", "table"] (defScope s_led_house) := ⟨rfl, rfl, rfl, by decide +kernel, rfl, by decide +kernel, by decide +kernel⟩
theorem ok_led_house (T : Txt K mg CR CH) (F : Fun K "led_house" "led_house" s_led_house f fd) (C_want_house : Cal P w K mg base "want_house" 1 ["value"] (spP (aWH CR CH))) (C_want_sized : Cal P w K mg base "want_sized" 6 ["value", "size"] (spP (aSized CR))) (C_undone_of : Cal P w K mg base "undone_of" 6 ["table"] (spP (aUnd CR))) (C_house_of : Cal P w K mg base "house_of" 9 ["letters"] (spP (aHof CR CH))) (C_product_of : Cal P w K mg base "product_of" 5 ["table", "other"] (spP (aProd CR))) : FnOk P w K mg base CX0 10 f fd ["house", "table"] (spP (aLed CR CH)) := by
  refine F.ok sc_led_house (fun vs H Q E h => ?_) (fun cdv A outer s H vs Q E hr h => ?_)
  · obtain ⟨G, R, _, ⟨h, p, v, u, d, e, rfl, _⟩, _⟩ := h
    rfl
  · obtain ⟨G, R, gh, ⟨h, p, v, u, d, e, rfl, hv, hu, ok, sq, uo, lb, rfl⟩, k⟩ := h
    refine ⟨_, (pss_cons (ps_set (i := 2) sc_led_house.nd rfl (by first | exact Or.inl rfl | exact Or.inr rfl) (pe_cal C_want_house (hr.mono (by decide)) (by rfl) (pa_cons (pv 0) pa_nil)))
      (pss_cons (ps_set (i := 3) sc_led_house.nd rfl (by first | exact Or.inl rfl | exact Or.inr rfl) (pe_cal C_want_sized (hr.mono (by decide)) (by rfl) (pa_cons (pv 1) (pa_cons (pe_fldK K (pv 2) rfl) pa_nil))))
      (pss_cons (ps_set (i := 4) sc_led_house.nd rfl (by first | exact Or.inl rfl | exact Or.inr rfl) (pe_cal C_undone_of (hr.mono (by decide)) (by rfl) (pa_cons (pv 3) pa_nil)))
      (pss_cons (ps_if (pt_cmpR op_isN (pv 4) pe_non (nomark _)) (pss_one ps_never) pss_nil)
      (pss_one (ps_ret (pe_cal C_house_of (hr.mono (by decide)) (by rfl) (pa_cons (pe_lc (own := [("letter", 5)]) rfl sc_led_house.nd (pi_listK K (pe_fldK K (pv 2) rfl)) (blkOk_by (by kernel_rfl)) (fun _ _ _ _ _ => (pg_name (i := 5) sc_led_house.nd rfl (by first | exact Or.inl rfl | exact Or.inr rfl))) (fun _ _ _ _ _ => pts_nil) (fun _ _ _ _ _ => (pe_cal C_product_of (hr.mono (by decide)) (by rfl) (pa_cons (pe_cal C_product_of (hr.mono (by decide)) (by rfl) (pa_cons (pv 3) (pa_cons (pv 5) pa_nil))) (pa_cons (pv 4) pa_nil))))) pa_nil)))))))), ?_⟩
    have m3 := ok.m3
    have n1 := ok.n1
    have n4 := ok.n4
    refine q_asg gh (P := rHou CR CH h) (ev_call (ea1 (P1 := rHou CR CH h) (ev_var rfl hv)) fun G' H' vs _ _ ⟨y, e, e1⟩ => ⟨h, y, e, e1, rfl⟩) fun x1 G1 H1 s1 e1 => ?_
    refine q_asg s1.gh (P := rTab CR (ratT p)) (ev_call (ea2 (P1 := rNT CR p) (P2 := rInt (h.n : Int)) (ev_var rfl (Mono.mono s1.gg hu)) fun _ g => ev_wid T (ev_var rfl (Mono.mono g e1))) fun G' H' vs _ _ ⟨y, y', e, e1, e2⟩ => ⟨p, y, h.n, by rw [e, show y' = _ from e2], e1, sq, n1, n4, rfl⟩) fun x2 G2 H2 s2 e2 => ?_
    refine q_asg s2.gh (P := rTab CR (undT (ratT p))) (ev_call (ea1 (P1 := rTab CR (ratT p)) (ev_var rfl e2)) fun G' H' vs _ _ ⟨y, e, e1⟩ => ⟨_, y, h.n, e, e1, uo, rfl⟩) fun x3 G3 H3 s3 e3 => ?_
    refine q_no s3.gh (et_test (ev_isN (P1 := rTab CR (undT (ratT p))) (ev_var rfl e3) fun _ _ e => not_non e)) fun G4 H4 s4 => ?_
    refine q_ret s4.gh (P := rHou CR CH ⟨h.n, h.ls.map (ledT (ratT p) (undT (ratT p)))⟩) (ev_hof (ev_map (r := rTab CR) (s := rTab CR) (ledT (ratT p) (undT (ratT p))) (ev_lett T (ev_var rfl (Mono.mono ((s2.gg.trans s3.gg).trans s4.gg) e1))) (by omega) (fun _ => rfl) fun i t G5 y hy g5 ry => ?_) (ok.of (by rw [List.length_map]) n1 n4 fun t ht => ?_)) fun z G5 H5 s5 e5 => k z G5 H5 ((((s1.trans s2).trans s3).trans s4).trans s5) e5
    · have ht := List.mem_of_getElem? hy
      exact ev_call (ea2 (P1 := rTab CR (prodT (ratT p) t)) (P2 := rTab CR (undT (ratT p))) (ev_call (ea2 (P1 := rTab CR (ratT p)) (P2 := rTab CR t) (ev_var rfl (Mono.mono ((s3.gg.trans s4.gg).trans g5) e2)) fun _ g => ev_var rfl (Mono.mono g ry)) fun G' H' vs _ _ ⟨z, z', e0, e1, e2⟩ => ⟨_, _, z, z', h.n, d, e, d, e, e0, e1, e2, sq_rat sq, ok.sq t ht, n1, by omega, lb.bp, lb.bl t ht, lb.d2, lb.e4, lb.e4, rfl⟩) fun G' g => ev_var rfl (Mono.mono ((s4.gg.trans g5).trans g) e3)) fun G' H' vs _ _ ⟨z, z', e0, e1, e2⟩ => ⟨_, _, z, z', h.n, d, e, d, e, e0, e1, e2, wideOf_prod (sq_rat sq) (ok.sq t ht) n1, sq_und uo, n1, by omega, lb.pt t ht, lb.bq, lb.d2, lb.e4, lb.e4, rfl⟩
    · obtain ⟨q, hq, rfl⟩ := List.mem_map.mp ht
      exact wideOf_prod (wideOf_prod (sq_rat sq) (ok.sq q hq) n1) (sq_und uo) n1
end
end K28
end
section
set_option Elab.async false
set_option linter.all false
set_option maxRecDepth 100000
set_option maxHeartbeats 4000000
set_option autoImplicit false
set_option exponentiation.threshold 20000
namespace K28
open PySem L2
section
variable {P : Program} {w : World} {K : PySem.W.Frag} {mg : Str → Option Value} {base : Heap} {CR CH : Addr} {f : Addr} {fd : FuncData}
def aLeft : List V → Hp → Hp → HP → Prop := fun vs G _ R => ∃ (steps : List (List Int)) (row : List Int) (n : Nat) (v u : V), vs = [v, u] ∧ rIT steps G v ∧ rIR row G u ∧ steps.length ≤ 1000 ∧ row.length = n ∧ n ≤ 1000 ∧ (∀ r ∈ steps, r.length = n ∧ headOf r < r.length ∧ Lt 4499 r) ∧ (∀ i, Lt 4499 (leftOf (steps.take i) row)) ∧ R = rIR (leftOf steps row)
theorem sc_left_of : FnScope ["steps", "row", "left", "step"] ["steps", "row"] (defScope s_left_of) := ⟨rfl, rfl, rfl, by decide +kernel, rfl, by decide +kernel, by decide +kernel⟩
theorem ok_left_of (T : Txt K mg CR CH) (F : Fun K "left_of" "left_of" s_left_of f fd) (C_cleared : Cal P w K mg base "cleared" 3 ["row", "head", "place"] (spP aClear)) (C_head_of : Cal P w K mg base "head_of" 1 ["row"] (spP aHead)) : FnOk P w K mg base CX0 4 f fd ["steps", "row"] (spP aLeft) := by
  refine F.ok sc_left_of (fun vs H Q E h => ?_) (fun cdv A outer s H vs Q E hr h => ?_)
  · obtain ⟨G, R, _, ⟨steps, row, n, v, u, rfl, _⟩, _⟩ := h
    rfl
  · obtain ⟨G, R, gh, ⟨steps, row, n, v, u, rfl, hv, hu, hl, hrl, hn, hs, lt, rfl⟩, k⟩ := h
    refine ⟨_, (pss_cons (ps_set (i := 2) sc_left_of.nd rfl (by first | exact Or.inl rfl | exact Or.inr rfl) (pv 1))
      (pss_cons (ps_for PassesOwn.never rfl (pi_listK K (pv 0)) (pg_name (i := 3) sc_left_of.nd rfl (by first | exact Or.inl rfl | exact Or.inr rfl)) (pss_one (ps_set (i := 2) sc_left_of.nd rfl (by first | exact Or.inl rfl | exact Or.inr rfl) (pe_cal C_cleared (hr.mono (by decide)) (by rfl) (pa_cons (pv 2) (pa_cons (pv 3) (pa_cons (pe_cal C_head_of (hr.mono (by decide)) (by rfl) (pa_cons (pv 3) pa_nil)) pa_nil)))))))
      (pss_one (ps_ret (pv 2))))), ?_⟩
    refine q_asg gh (P := rIR row) (ev_var rfl hu) fun z G1 H1 s1 e1 => ?_
    refine q_for (G0 := G) (H0 := H) s1 (src_list (r := rIR) (xs := steps) (ev_var rfl (Mono.mono s1.gg hv))) (fun i G' _ σ' => ∃ y o, σ' = [some v, some u, some y, o] ∧ rIR (leftOf (steps.take i) row) G' y) (fun i G1 H1 G2 H2 σ s ⟨y, o, e, h⟩ => ⟨y, o, e, Mono.mono s.gg h⟩) (fun G2 H2 s2 => ⟨z, none, rfl, Mono.mono s2.gg e1⟩) ?_ ?_
    · rintro i G2 H2 σ2 x hi s2 g2 ⟨y, o, rfl, hy⟩ ⟨st, hst, rst⟩ N hN
      obtain ⟨h1, h2, h3⟩ := hs st (List.mem_of_getElem? hst)
      have hi' := List.getElem?_eq_some_iff.mp hst
      have hll : (leftOf (steps.take i) row).length = n := len_left (fun s hs' => (hs s (List.mem_of_mem_take hs')).1) hrl
      refine s_asg s2.gh (P1 := rIR (leftOf (steps.take (i + 1)) row)) ?_ fun z G3 H3 s3 e3 => hN _ G3 H3 (s2.trans s3) s3.gg ⟨z, _, rfl, e3⟩
      rw [List.take_succ_eq_append_getElem hi'.1, hi'.2]
      show Ev _ _ _ (rIR (List.foldl _ _ _))
      rw [List.foldl_append]
      exact ev_call (ea3 (P1 := rIR (leftOf (steps.take i) row)) (P2 := rIR st) (P3 := rInt (headOf st : Int)) (ev_var rfl hy) (fun _ g => ev_var rfl (Mono.mono g rst)) fun G' g => ev_call (ea1 (P1 := rIR st) (ev_var rfl (Mono.mono g rst))) fun G' H' vs _ _ ⟨a, e, e1⟩ => ⟨st, a, e, e1, h2, rfl⟩) fun G' H' vs _ _ ⟨a, a', a'', e, e1, e2, e3⟩ => ⟨_, st, headOf st, a, a', 4499, by rw [e, show a'' = _ from e3], e1, e2, lt i, h3, by decide, by rw [hll, ← h1]; exact h2, by rw [hll, h1], by omega, rfl⟩
    · rintro G2 H2 σ2 s2 g2 ⟨y, o, rfl, hy⟩
      rw [List.take_length] at hy
      exact q_ret s2.gh (P := rIR (leftOf steps row)) (ev_var rfl hy) fun z G3 H3 s3 e3 => k z G3 H3 (s2.trans s3) e3
def aLW (CR : Addr) : List V → Hp → Hp → HP → Prop := fun vs G _ R => ∃ (t : List (List Rat)) (v : V) (n d e : Nat), vs = [v] ∧ rLs CR [t] G v ∧ SqX n t ∧ n ≤ 20 ∧ Bd d e t.flatten ∧ d ≤ 8999 ∧ e ≤ 400000 ∧ R = rIR (intsR t.flatten)
theorem sc_long_with : FnScope ["tables", "found", "table"] ["tables"] (defScope s_long_with) := ⟨rfl, rfl, rfl, by decide +kernel, rfl, by decide +kernel, by decide +kernel⟩
theorem ok_long_with (T : Txt K mg CR CH) (F : Fun K "long_with" "long_with" s_long_with f fd) (C_long_of : Cal P w K mg base "long_of" 1 ["table"] (spP (aLong CR))) (C_wholes : Cal P w K mg base "wholes" 1 ["ratios"] (spP (aWholes CR))) : FnOk P w K mg base CX0 2 f fd ["tables"] (spP (aLW CR)) := by
  refine F.ok sc_long_with (fun vs H Q E h => ?_) (fun cdv A outer s H vs Q E hr h => ?_)
  · obtain ⟨G, R, _, ⟨t, v, n, d, e, rfl, _⟩, _⟩ := h
    rfl
  · obtain ⟨G, R, gh, ⟨t, v, n, d, e, rfl, hv, sq, hn, bd, hd, he, rfl⟩, k⟩ := h
    refine ⟨_, (pss_cons (ps_set (i := 1) sc_long_with.nd rfl (by first | exact Or.inl rfl | exact Or.inr rfl) (pe_lst pa_nil))
      (pss_cons (ps_for PassesOwn.never rfl (pi_listK K (pv 0)) (pg_name (i := 2) sc_long_with.nd rfl (by first | exact Or.inl rfl | exact Or.inr rfl)) (pss_one (ps_expr (pe_bm PySem.F.plainAttrs_list PySem.F.slot_list_extend PySem.F.type_list_extend mt_extend (pv 1) (pa_cons (pe_cal C_long_of (hr.mono (by decide)) (by rfl) (pa_cons (pv 2) pa_nil)) pa_nil)))))
      (pss_one (ps_ret (pe_ix (ix_tupK K) (pe_cal C_wholes (hr.mono (by decide)) (by rfl) (pa_cons (pv 1) pa_nil)) pe_int (fun _ _ => rfl)))))), ?_⟩
    have fl : t.flatten.length = n * n := by rw [len_flat sq.2, sq.1]
    have n400 : n * n ≤ 20 * 20 := Nat.mul_le_mul hn hn
    refine q_new (r := rRat CR) (Stp.refl gh) fun p H1 hp s1 _ o1 => ?_
    refine q_for (G0 := G) (H0 := H) s1 (src_list (r := rTab CR) (xs := [t]) (ev_var rfl hv)) (fun i G' H' σ' => ∃ a, σ' = [some v, some (.ref p), a] ∧ Own (rRat CR) (([t].take i).map List.flatten).flatten p G' H') (fun i G1 H1 G2 H2 σ s ⟨a, e, o⟩ => ⟨a, e, o.step s⟩) (fun G2 H2 s2 => ⟨none, rfl, o1.step s2⟩) ?_ ?_
    · rintro i G2 H2 σ2 x hi s2 g2 ⟨a, rfl, o⟩ ⟨row, hrow, rx⟩ N hN
      have i0 : i = 0 := by simpa using hi
      subst i0
      cases hrow
      refine s_growE (r := rRat CR) (ys := t.flatten) s2 hp o rfl (ev_call (ea1 (P1 := rTab CR t) (ev_var rfl rx)) fun G' H' vs _ _ ⟨u, e, e1⟩ => ⟨t, u, e, e1, fun r hr => by rw [sq.2 r hr]; exact hn, by rw [sq.1]; exact hn, rfl⟩) (by show 0 + t.flatten.length ≤ _; omega) fun G5 H5 s5 g5 o5 => ?_
      refine hN _ G5 H5 s5 g5 ⟨_, rfl, ?_⟩
      simpa using o5
    · rintro G2 H2 σ2 s2 g2 ⟨a, rfl, o⟩
      obtain ⟨G3, s3, g3, h3⟩ := o.frz s2 hp
      have e3 : (([t].take [t].length).map List.flatten).flatten = t.flatten := by simp
      rw [e3] at h3
      exact q_ret s3.gh (P := rIR (intsR t.flatten)) (ev_ix1 (r := rInt) (s := rIR) (x := (lcmD t.flatten : Int)) (ev_call (ea1 (P1 := rRow CR t.flatten) (ev_var rfl h3)) fun G' H' vs _ _ ⟨u, e', e1⟩ => ⟨t.flatten, u, d, e, e', e1, bd, hd, he, by omega, rfl⟩)) fun z G4 H4 s4 e4 => k z G4 H4 (s3.trans s4) e4
end
end K28
end
section
set_option Elab.async false
set_option linter.all false
set_option maxRecDepth 100000
set_option maxHeartbeats 4000000
set_option autoImplicit false
set_option exponentiation.threshold 20000
namespace K28
open PySem L2
section
variable {P : Program} {w : World} {K : PySem.W.Frag} {mg : Str → Option Value} {base : Heap} {CR CH : Addr} {f : Addr} {fd : FuncData}
abbrev WT := List Nat × List (List Rat)
def rWT (CR : Addr) (x : WT) : HP := rPr rWd (rLs CR) (x.1, [x.2])
instance {CR : Addr} {x : WT} : Mono (rWT CR x) := ⟨fun e h => Mono.mono (P := rPr rWd (rLs CR) (x.1, [x.2])) e h⟩
def startB (n : Nat) : List WT := [([], idleT n)]
def startR (n : Nat) : List (List Int) := [intsR (idleT n).flatten]
def BaseIs (h : Hs) (B : List WT) : Prop := ∃ m, Runs h.n h.ls m (startB h.n) (startR h.n) (startB h.n) B
def aBW (CR CH : Addr) : List V → Hp → Hp → HP → Prop := fun vs G _ R => ∃ (h : Hs) (B : List WT) (v : V), vs = [v] ∧ rLst (rHou CR CH) [h] G v ∧ HsOk h ∧ BaseIs h B ∧ R = rLst (rWT CR) B
theorem any_ne {row : List Int} (h : row.any (fun i => i != 0) = true) : row ≠ [] := fun e => by rw [e] at h; cases h
theorem lon_le (ls : List (List (List Rat))) (x : WT) (s : Bw) (k : Nat) (c : Nat) (h : s.lon.length + c ≤ s.rows.length) : (bwTry ls x s k).lon.length + c ≤ (bwTry ls x s k).rows.length := by
  unfold bwTry
  split
  · rw [List.length_append, List.length_append]; show _ + 1 + c ≤ _ + 1; omega
  · exact h
theorem lon_leK (ls : List (List (List Rat))) (x : WT) (s : Bw) (c : Nat) (h : s.lon.length + c ≤ s.rows.length) : ∀ k, (bwWordK ls s x k).lon.length + c ≤ (bwWordK ls s x k).rows.length := by
  intro k
  induction k with
  | zero => exact h
  | succ k ih => rw [bwWordK_succ]; exact lon_le ls x _ k c ih
theorem lon_leF (ls : List (List (List Rat))) (c : Nat) : ∀ (last : List WT) (s : Bw), s.lon.length + c ≤ s.rows.length → (last.foldl (bwWord ls) s).lon.length + c ≤ (last.foldl (bwWord ls) s).rows.length
  | [], s, h => h
  | x :: last, s, h => lon_leF ls c last _ (lon_leK ls x s c h _)
theorem sc_base_with : FnScope ["houses", "last", "house", "found", "rows", "longer", "word", "tables", "letter", "late", "table", "row"] ["houses"] (defScope s_base_with) := ⟨rfl, rfl, rfl, by decide +kernel, rfl, by decide +kernel, by decide +kernel⟩
theorem ok_base_with (T : Txt K mg CR CH) (F : Fun K "base_with" "base_with" s_base_with f fd) (C_idle_of : Cal P w K mg base "idle_of" 4 ["size"] (spP (aIdle CR))) (C_long_with : Cal P w K mg base "long_with" 2 ["tables"] (spP (aLW CR))) (C_product_of : Cal P w K mg base "product_of" 5 ["table", "other"] (spP (aProd CR))) (C_left_of : Cal P w K mg base "left_of" 4 ["steps", "row"] (spP aLeft)) (C_bare_row : Cal P w K mg base "bare_row" 2 ["row"] (spP aBare)) : FnOk P w K mg base CX0 6 f fd ["houses"] (spP (aBW CR CH)) := by
  refine F.ok sc_base_with (fun vs H Q E h => ?_) (fun cdv A outer s H vs Q E hr h => ?_)
  · obtain ⟨G, R, _, ⟨h, B, v, rfl, _⟩, _⟩ := h
    rfl
  · obtain ⟨G, R, gh, ⟨h, B, v, rfl, hv, ok, ⟨m0, runs⟩, rfl⟩, k⟩ := h
    refine ⟨_, (pss_cons (ps_set (i := 1) sc_base_with.nd rfl (by first | exact Or.inl rfl | exact Or.inr rfl) (pe_lst (pa_cons (pe_tup (pa_cons (pe_lst pa_nil) (pa_cons (pe_lc (own := [("house", 2)]) rfl sc_base_with.nd (pi_listK K (pv 0)) (blkOk_by (by kernel_rfl)) (fun _ _ _ _ _ => (pg_name (i := 2) sc_base_with.nd rfl (by first | exact Or.inl rfl | exact Or.inr rfl))) (fun _ _ _ _ _ => pts_nil) (fun _ _ _ _ _ => (pe_cal C_idle_of (hr.mono (by decide)) (by rfl) (pa_cons (pe_fldK K (pv 2) rfl) pa_nil)))) pa_nil))) pa_nil)))
      (pss_cons (ps_par (i := 3) (j := 4) (by rfl) sc_base_with.nd rfl rfl (by decide) rfl rfl (pa_cons (pe_callTy (call_listK K) (by rfl) T.list (by decide +kernel) (pa_cons (pv 1) pa_nil)) (pa_cons (pe_lst (pa_cons (pe_cal C_long_with (hr.mono (by decide)) (by rfl) (pa_cons (pe_ix (ix_tupK K) (pe_ix (ix_listK K) (pv 1) pe_int (fun _ _ => rfl)) pe_int (fun _ _ => rfl)) pa_nil)) pa_nil)) pa_nil)) (by rfl))
      (pss_cons (ps_while PassesOwn.never (pt_cmpR (op_eqB rnB_len (hr.mono (by decide))) (pv 1) (pe_lst pa_nil) (nomark _)) (pss_cons (ps_set (i := 5) sc_base_with.nd rfl (by first | exact Or.inl rfl | exact Or.inr rfl) (pe_lst pa_nil))
      (pss_cons (ps_for PassesOwn.never rfl (pi_listK K (pv 1)) (pg_tupK (n := 2) K (by rfl) (pgs_cons (pg_name (i := 6) sc_base_with.nd rfl (by first | exact Or.inl rfl | exact Or.inr rfl)) (pgs_cons (pg_name (i := 7) sc_base_with.nd rfl (by first | exact Or.inl rfl | exact Or.inr rfl)) pgs_nil))) (pss_one (ps_for PassesOwn.never rfl (pi_range1 (by rfl) T.range (pa_cons (pe_callB (call_lenK K) (by rfl) T.len PySem.boot_len (pa_cons (pe_fldK K (pe_ix (ix_listK K) (pv 0) pe_int (fun _ _ => rfl)) rfl) pa_nil)) pa_nil)) (pg_name (i := 8) sc_base_with.nd rfl (by first | exact Or.inl rfl | exact Or.inr rfl)) (pss_cons (ps_setLc (i := 9) (own := [("table", 10), ("house", 2)]) rfl sc_base_with.nd rfl rfl (sw_true rfl rfl rfl (by decide +kernel)) (pi_zipK K (by rfl) T.zip (pa_cons (pv 7) (pa_cons (pv 0) pa_nil))) (blkOk_by (by kernel_rfl)) (fun _ _ _ _ _ => (pg_tupK (n := 2) K (by rfl) (pgs_cons (pg_name (i := 10) sc_base_with.nd rfl (by first | exact Or.inl rfl | exact Or.inr rfl)) (pgs_cons (pg_name (i := 2) sc_base_with.nd rfl (by first | exact Or.inl rfl | exact Or.inr rfl)) pgs_nil)))) (fun _ _ _ _ _ => pts_nil) (fun _ _ _ _ _ => (pe_cal C_product_of (hr.mono (by decide)) (by rfl) (pa_cons (pv 10) (pa_cons (pe_ix (ix_listK K) (pe_fldK K (pv 2) rfl) (pv 8) (fun _ _ => rfl)) pa_nil)))))
      (pss_cons (ps_set (i := 11) sc_base_with.nd rfl (by first | exact Or.inl rfl | exact Or.inr rfl) (pe_cal C_left_of (hr.mono (by decide)) (by rfl) (pa_cons (pv 4) (pa_cons (pe_cal C_long_with (hr.mono (by decide)) (by rfl) (pa_cons (pv 9) pa_nil)) pa_nil))))
      (pss_one (ps_if (pt_val (pe_callB (cr_anyIK K rfl) (by rfl) T.any (by decide +kernel) (pa_cons (pv 11) pa_nil))) (pss_cons (ps_expr (pe_bm PySem.F.plainAttrs_list PySem.F.slot_list_append PySem.F.type_list_append mt_append (pv 4) (pa_cons (pe_cal C_bare_row (hr.mono (by decide)) (by rfl) (pa_cons (pv 11) pa_nil)) pa_nil)))
      (pss_one (ps_expr (pe_bm PySem.F.plainAttrs_list PySem.F.slot_list_append PySem.F.type_list_append mt_append (pv 5) (pa_cons (pe_tup (pa_cons (pe_op op_cat (pv 6) (pe_lst (pa_cons (pv 8) pa_nil))) (pa_cons (pv 9) pa_nil))) pa_nil))))) pss_nil)))))))
      (pss_one (ps_par (i := 3) (j := 1) (by rfl) sc_base_with.nd rfl rfl (by decide) rfl rfl (pa_cons (pe_op op_cat (pv 3) (pv 5)) (pa_cons (pv 5) pa_nil)) (by rfl))))))
      (pss_one (ps_ret (pv 3)))))), ?_⟩
    have n1 := ok.n1
    have n4 := ok.n4
    have m3 := ok.m3
    have nn : h.n * h.n ≤ 16 := by have := Nat.mul_le_mul n4 n4; omega
    have ev0 : ∀ {σ : St} {G' : Hp}, σ[0]? = some (some v) → Same G G' → Ev (tVar 0) σ G' (rLst (rHou CR CH) [h]) := fun e g => ev_var e (Mono.mono g hv)
    refine q_asg gh (P := rLst (rWT CR) (startB h.n)) (el_one (r := rWT CR) (ev_pair (r := rWd) (s := rLs CR) (x := []) (y := [idleT h.n]) el_nil fun G1 g1 => ev_map (r := rHou CR CH) (s := rTab CR) (fun h' => idleT h'.n) (xs := [h]) (ev0 rfl g1) (by show 1 ≤ _; decide) (fun _ => rfl) fun i x G2 u hx g2 ru => ?_)) fun lv G1 H1 s1 e1 => ?_
    · have hxn : x.n ≤ 1000 := by
        have := List.mem_of_getElem? hx
        rw [List.mem_singleton.mp this]; omega
      exact ev_call (ea1 (P1 := rInt (x.n : Int)) (ev_wid T (ev_var rfl ru))) fun G' H' vs _ _ ⟨y, e, e1⟩ => ⟨x.n, by rw [e, show y = _ from e1], hxn, rfl⟩
    have ev1 : ∀ {σ : St} {G' : Hp}, σ[1]? = some (some lv) → Same G1 G' → Ev (tVar 1) σ G' (rLst (rWT CR) (startB h.n)) := fun e g => ev_var e (Mono.mono g e1)
    -- found, rows
    refine q_parO (r := rIR) (x := intsR (idleT h.n).flatten) (P1 := rLst (rWT CR) (startB h.n)) s1 (ev_list (ev1 rfl (.refl _))) (fun G2 g2 => ev_call (P := rIR (intsR (idleT h.n).flatten)) (ea1 (P1 := rLs CR [idleT h.n]) (ev_ix1 (r := rWd) (s := rLs CR) (x := []) (y := [idleT h.n]) ((ev_ix (r := rWT CR) (j := 0) (x := ([], idleT h.n)) (ev1 rfl g2) (fun _ _ => ev_int) rfl rfl).imp fun _ _ _ e => e))) fun G' H' vs _ _ ⟨y, e, e1⟩ => ⟨idleT h.n, y, h.n, 1, 1, e, e1, sq_idle _, by omega, bd_idle _, by decide, by decide, rfl⟩) fun fv p G3 H3 hp0 st0 g13 e2 o0 => ?_
    have ev0' : ∀ {σ : St} {G' : Hp}, σ[0]? = some (some v) → Same G3 G' → Ev (tVar 0) σ G' (rLst (rHou CR CH) [h]) := fun e g => ev0 e (st0.gg.trans g)
    refine q_while (G0 := G) (H0 := H) st0 (fun m G' H' σ' => ∃ found rows last a b o2 o5 o6 o7 o8 o9 o10 o11, σ' = [some v, some a, o2, some b, some (.ref p), o5, o6, o7, o8, o9, o10, o11] ∧ rLst (rWT CR) last G' a ∧ rLst (rWT CR) found G' b ∧ Own rIR rows p G' H' ∧ Runs h.n h.ls m found rows last B) m0
      ⟨_, _, _, lv, fv, _, _, _, _, _, _, _, _, rfl, Mono.mono g13 e1, e2, o0, runs⟩ ?_
    rintro m G4 H4 σ4 s4 g4 ⟨found, rows, last, a, b, o2, o5, o6, o7, o8, o9, o10, o11, rfl, ha, hb, ow, rn⟩
    refine ⟨!decide (last.length = 0), et_test (ev_neNil (ev_var rfl ha)), fun hne G5 H5 s5 N hN => ?_, fun he G5 H5 s5 => ?_⟩
    rotate_left
    · have l0 : last = [] := by simpa using he
      subst l0
      cases rn with
      | stop => exact q_ret s5.gh (P := rLst (rWT CR) B) (ev_var rfl (Mono.mono s5.gg hb)) fun z G6 H6 s6 e6 => k z G6 H6 ((s4.trans s5).trans s6) e6
      | turn h1 => exact absurd rfl h1
    cases rn with
    | stop => simp at hne
    | @turn m found rows last _ hl0 hll hwl try_ hfl rn' =>
      refine ⟨Nat.zero_le _, fun p2 hp2 => ?_⟩
      have st5 := s4.trans s5
      have np : p ≠ p2 := (ow.step s5).ne hp2
      have hp20 : H p2 = none := st5.hh.free hp2
      have a6 : Stp G5 H5 G5 (upd H5 p2 (.lst [])) := Stp.aside s5.gh hp2
      have o60 : Own (rWT CR) [] p2 G5 (upd H5 p2 (.lst [])) := ⟨s5.gh.free hp2, [], upd_same, .nil⟩
      have ow6 : Own rIR rows p G5 (upd H5 p2 (.lst [])) := (ow.step s5).step a6
      have ha5 : rLst (rWT CR) last G5 a := Mono.mono s5.gg ha
      have hb5 : rLst (rWT CR) found G5 b := Mono.mono s5.gg hb
      let S : Nat → Bw := fun i => (last.take i).foldl (bwWord h.ls) ⟨rows, []⟩
      have hS : ∀ i, (S i).lon.length + 0 ≤ (S i).rows.length := fun i => lon_leF h.ls 0 _ _ (Nat.zero_le _)
      refine q_for (G0 := G) (H0 := H) (st5.trans a6) (src_list (r := rWT CR) (xs := last) (ev_var rfl ha5)) (fun i G' H' σ' => ∃ o2 o6 o7 o8 o9 o10 o11, σ' = [some v, some a, o2, some b, some (.ref p), some (.ref p2), o6, o7, o8, o9, o10, o11] ∧ Own rIR (S i).rows p G' H' ∧ Own (rWT CR) (S i).lon p2 G' H')
        (fun i G1 H1 G2 H2 σ s ⟨o2, o6, o7, o8, o9, o10, o11, e, w1, w2⟩ => ⟨o2, o6, o7, o8, o9, o10, o11, e, w1.step s, w2.step s⟩) (fun G2 H2 s2 => ⟨_, _, _, _, _, _, _, rfl, ow6.step s2, o60.step s2⟩) ?_ ?_
      · rintro i G7 H7 σ7 x hi s7 g7 ⟨o2, o6, o7, o8, o9, o10, o11, rfl, w1, w2⟩ ⟨y, hy, rx⟩ N2 hN2
        have hyl := hwl y (List.mem_of_getElem? hy)
        refine tg2 (r := rWd) (s := rLs CR) (z := y.1) (y := [y.2]) rx (fun u w' ru rw' => ?_) H7 s7.gh _ fun σ' q => q
        have g57 : Same G3 G7 := (g4.trans s5.gg).trans g7
        refine s_for (G0 := G) (H0 := H) s7 (src_range (n := h.ls.length) (ea1 (P1 := rInt (h.ls.length : Int)) (ev_len (ev_lett T (ev_ix (r := rHou CR CH) (j := 0) (x := h) (ev0' rfl g57) (fun _ _ => ev_int) rfl rfl)))) (by omega)) (fun k G' H' σ' => ∃ o2 o8 o9 o10 o11, σ' = [some v, some a, o2, some b, some (.ref p), some (.ref p2), some u, some w', o8, o9, o10, o11] ∧ Own rIR (bwWordK h.ls (S i) y k).rows p G' H' ∧ Own (rWT CR) (bwWordK h.ls (S i) y k).lon p2 G' H')
          (fun i G1 H1 G2 H2 σ s ⟨o2, o8, o9, o10, o11, e, w1, w2⟩ => ⟨o2, o8, o9, o10, o11, e, w1.step s, w2.step s⟩) (fun G2 H2 s2 => ⟨_, _, _, _, _, rfl, w1.step s2, w2.step s2⟩) ?_ ?_
        · rintro j G8 H8 σ8 x8 hj s8 g8 ⟨o2, o8, o9, o10, o11, rfl, w1, w2⟩ hx8 N3 hN3
          cases (show x8 = _ from hx8)
          have tk := try_ i y hy j hj
          rw [bwWordK_succ] at hN3
          have hlon := lon_leK h.ls y (S i) 0 (hS i) j
          show _
          change TryOk h.n h.ls (bwWordK h.ls (S i) y j).rows y.2 j at tk
          generalize hs : bwWordK h.ls (S i) y j = s at *
          have few := tk.few
          obtain ⟨d, e, hd, he, b1, b2, b3⟩ := tk.bd
          obtain ⟨km1, km2⟩ := getD_mem (d := []) hj
          have sqk := ok.sq _ km1
          have sql : SqX h.n (lateOf h.ls y.2 j) := wideOf_prod tk.sq sqk n1
          have rlen : (intsR (lateOf h.ls y.2 j).flatten).length = h.n * h.n := by unfold intsR; rw [List.length_map, len_flat sql.2, sql.1]
          have g38 : Same G3 G8 := g57.trans g8
          -- late
          refine q_asg s8.gh (P := rLs CR [lateOf h.ls y.2 j]) (ev_mapZ (r := rTab CR) (s := rHou CR CH) (t := rTab CR) (fun t h' => prodT t (h'.ls.getD j [])) (xs := [y.2]) (ys := [h]) (ev_var rfl (Mono.mono g8 rw')) (fun G' g => ev0' rfl (g38.trans g)) (by show 1 ≤ _; decide) (fun _ _ => rfl) fun i2 t h' G9 c c' ht hh g9 rc rc' => ?_) fun lt9 G9 H9 s9 e9 => ?_
          · have e1 := List.mem_singleton.mp (List.mem_of_getElem? ht)
            have e2 := List.mem_singleton.mp (List.mem_of_getElem? hh)
            subst e1 e2
            exact ev_call (ea2 (P1 := rTab CR y.2) (P2 := rTab CR (h'.ls.getD j [])) (ev_var rfl rc) fun _ g => ev_ix (r := rTab CR) (j := j) (ev_lett T (ev_var rfl (Mono.mono g rc'))) (fun _ _ => ev_var rfl rfl) rfl km2) fun G' H' vs _ _ ⟨z, z', e0, e1, e2⟩ => ⟨_, _, z, z', h'.n, d, e, d, e, e0, e1, e2, tk.sq, sqk, n1, by omega, b1, b2, hd, he, he, rfl⟩
          -- row
          have ltA := tk.lt s.rows.length
          rw [List.take_length] at ltA
          have rowlen : (rowOf h.ls s.rows y.2 j).length = h.n * h.n := len_left (fun r hr => (tk.st r hr).1) rlen
          have rne : rowOf h.ls s.rows y.2 j ≠ [] := fun z => by
            rw [z] at rowlen
            have := Nat.mul_le_mul n1 n1
            simp at rowlen; omega
          refine q_callO (P2 := rIR (intsR (lateOf h.ls y.2 j).flatten)) s9.gh (w1.step s9) rfl (ev_call (ea1 (P1 := rLs CR [lateOf h.ls y.2 j]) (ev_var rfl e9)) fun G' H' vs _ _ ⟨z, e0, e1⟩ => ⟨_, z, h.n, d, e, e0, e1, sql, by omega, b3, by omega, he, rfl⟩) rne (fun G' H' u' _ _ hr _ ⟨G1, g1, q1⟩ => ⟨s.rows, _, h.n * h.n, .ref p, u', rfl, hr, Mono.mono g1 q1, few, rlen, by omega, tk.st, tk.lt, rfl⟩) fun rv' G10 H10 s10 e10 => ?_
          change rIR (rowOf h.ls s.rows y.2 j) G10 rv' at e10
          have st10 := (s8.trans s9).trans s10
          have v1 := (w1.step s9).step s10
          have v2 := (w2.step s9).step s10
          refine s_if s10.gh (et_B (ev_anyI (ns := rowOf h.ls s.rows y.2 j) (ev_var rfl e10))) (fun hb' G11 H11 s11 => ?_) fun hb' G11 H11 s11 => ?_
          · have et : bwTry h.ls y s j = ⟨s.rows ++ [bare (rowOf h.ls s.rows y.2 j)], s.lon ++ [(y.1 ++ [j], lateOf h.ls y.2 j)]⟩ := by unfold bwTry; rw [if_pos hb']
            rw [et] at hN3
            refine q_grow2 (r := rIR) (x := bare (rowOf h.ls s.rows y.2 j)) (st10.trans s11) hp0 (v1.step s11) rfl (ev_call (ea1 (P1 := rIR (rowOf h.ls s.rows y.2 j)) (ev_var rfl (Mono.mono s11.gg e10))) fun G' H' vs _ _ ⟨z, e0, e1⟩ => ⟨_, z, e0, e1, ltA.mono (by decide), by omega, rfl⟩) (by omega) fun G12 H12 s12 rest o12 => ?_
            have g912 : Same G9 G12 := (s10.gg.trans s11.gg).trans rest.1
            refine s_grow2 (r := rWT CR) (x := (y.1 ++ [j], lateOf h.ls y.2 j)) s12 hp20 ((v2.step s11).rest rest np.symm) rfl ((ev_pair (r := rWd) (s := rLs CR) (x := y.1 ++ [j]) (y := [lateOf h.ls y.2 j]) (ev_cat (ev_var rfl (Mono.mono ((g8.trans s9.gg).trans g912) ru)) (fun G' g => el_one (r := fun (k : Nat) => rInt (k : Int)) (ev_var rfl rfl)) (by show _ + 1 ≤ _; omega)) fun G' g => ev_var rfl (Mono.mono (g912.trans g) e9)).imp fun _ _ _ e => e) (by omega) fun G13 H13 s13 rest2 o13 => ?_
            exact hN3 _ G13 H13 s13 ((s9.gg.trans g912).trans rest2.1) ⟨_, _, _, _, _, rfl, o12.rest rest2 np, o13⟩
          · have et : bwTry h.ls y s j = s := by unfold bwTry; rw [if_neg (by rw [show (List.any (rowOf h.ls s.rows y.2 j) fun i => i != 0) = false from hb']; decide)]
            rw [et] at hN3
            exact hN3 _ G11 H11 (st10.trans s11) ((s9.gg.trans s10.gg).trans s11.gg) ⟨_, _, _, _, _, rfl, v1.step s11, v2.step s11⟩
        · rintro G8 H8 σ8 s8 g8 ⟨o2, o8, o9, o10, o11, rfl, w1, w2⟩
          have hi' := List.getElem?_eq_some_iff.mp hy
          have eS : S (i + 1) = bwWordK h.ls (S i) y h.ls.length := by
            show (last.take (i + 1)).foldl _ _ = _
            rw [List.take_succ_eq_append_getElem hi'.1, List.foldl_append, hi'.2]; rfl
          refine hN2 _ G8 H8 s8 g8 ⟨_, _, _, _, _, _, _, rfl, ?_⟩
          rw [eS]
          exact ⟨w1, w2⟩
      · rintro G7 H7 σ7 s7 g7 ⟨o2, o6, o7, o8, o9, o10, o11, rfl, w1, w2⟩
        have eS : S last.length = bwLayer h.ls rows last := by show (last.take last.length).foldl _ _ = _; rw [List.take_length]; rfl
        rw [eS] at w1 w2
        obtain ⟨G8, s8, g8, hlon, w1'⟩ := w2.frz2 s7 hp20 w1 np
        refine s_par s8.gh (P1 := rLst (rWT CR) (found ++ (bwLayer h.ls rows last).lon)) (P2 := rLst (rWT CR) (bwLayer h.ls rows last).lon) (ev_cat (ev_var rfl (Mono.mono (g7.trans g8) hb5)) (fun G' g => ev_var rfl (Mono.mono g hlon)) (by omega)) (fun G' g => ev_var rfl (Mono.mono g hlon)) fun u1 u2 G9 H9 s9 e9 e9' => ?_
        exact hN _ _ G9 H9 (Nat.lt_succ_self _) (s8.trans s9) (((s5.gg.trans g7).trans g8).trans s9.gg) ⟨_, _, _, _, _, _, _, _, _, _, _, _, _, rfl, e9', e9, w1'.step s9, rn'⟩
end
end K28
end
section
set_option Elab.async false
set_option linter.all false
set_option maxRecDepth 100000
set_option maxHeartbeats 4000000
set_option autoImplicit false
set_option exponentiation.threshold 20000
namespace K28
open PySem L2
section
variable {P : Program} {w : World} {K : PySem.W.Frag} {mg : Str → Option Value} {base : Heap} {CR CH : Addr} {f : Addr} {fd : FuncData}
theorem len_runs {n : Nat} {ls : List (List (List Rat))} : ∀ {m : Nat} {found : List WT} {rows : List (List Int)} {last B : List WT}, Runs n ls m found rows last B → found.length ≤ 1000 → B.length ≤ 1000 := by
  intro m found rows last B r
  induction r with
  | stop => exact id
  | turn _ _ _ _ h _ ih => intro _; exact ih (by rw [List.length_append]; exact h)
theorem len_base {h : Hs} {B : List WT} (b : BaseIs h B) : B.length ≤ 1000 := by
  obtain ⟨m, r⟩ := b
  exact len_runs r (by show 1 ≤ _; decide)
abbrev rBT (CR : Addr) : WT → HP := rPr rWd (rTab CR)
def aBO (CR CH : Addr) : List V → Hp → Hp → HP → Prop := fun vs G _ R => ∃ (h : Hs) (B : List WT) (v : V), vs = [v] ∧ rHou CR CH h G v ∧ HsOk h ∧ BaseIs h B ∧ R = rLst (rBT CR) B
theorem sc_base_of : FnScope ["house", "word", "tables"] ["house"] (defScope s_base_of) := ⟨rfl, rfl, rfl, by decide +kernel, rfl, by decide +kernel, by decide +kernel⟩
theorem ok_base_of (T : Txt K mg CR CH) (F : Fun K "base_of" "base_of" s_base_of f fd) (C_base_with : Cal P w K mg base "base_with" 6 ["houses"] (spP (aBW CR CH))) : FnOk P w K mg base CX0 7 f fd ["house"] (spP (aBO CR CH)) := by
  refine F.ok sc_base_of (fun vs H Q E h => ?_) (fun cdv A outer s H vs Q E hr h => ?_)
  · obtain ⟨G, R, _, ⟨h, B, v, rfl, _⟩, _⟩ := h
    rfl
  · obtain ⟨G, R, gh, ⟨h, B, v, rfl, hv, ok, bi, rfl⟩, k⟩ := h
    refine ⟨_, (pss_one (ps_ret (pe_lc (own := [("word", 1), ("tables", 2)]) rfl sc_base_of.nd (pi_listK K (pe_cal C_base_with (hr.mono (by decide)) (by rfl) (pa_cons (pe_lst (pa_cons (pv 0) pa_nil)) pa_nil))) (blkOk_by (by kernel_rfl)) (fun _ _ _ _ _ => (pg_tupK (n := 2) K (by rfl) (pgs_cons (pg_name (i := 1) sc_base_of.nd rfl (by first | exact Or.inl rfl | exact Or.inr rfl)) (pgs_cons (pg_name (i := 2) sc_base_of.nd rfl (by first | exact Or.inl rfl | exact Or.inr rfl)) pgs_nil)))) (fun _ _ _ _ _ => pts_nil) (fun _ _ _ _ _ => (pe_tup (pa_cons (pv 1) (pa_cons (pe_ix (ix_listK K) (pv 2) pe_int (fun _ _ => rfl)) pa_nil))))))), ?_⟩
    refine q_ret gh (P := rLst (rBT CR) B) (ev_lc (r := rBT CR) B (src_list (r := rWT CR) (xs := B) (ev_call (ea1 (P1 := rLst (rHou CR CH) [h]) (el_one (r := rHou CR CH) (ev_var rfl hv))) fun G' H' vs _ _ ⟨y, e, e1⟩ => ⟨h, B, y, e, e1, ok, bi, rfl⟩)) rfl (by have := len_base bi; omega) fun i z G1 x hz g1 ⟨y, hy, ry⟩ => ?_) k
    rw [hz] at hy
    cases hy
    exact tg2 (r := rWd) (s := rLs CR) (z := z.1) (y := [z.2]) ry fun u u' ru ru' => ⟨rfl, (ev_pair (r := rWd) (s := rTab CR) (x := z.1) (y := z.2) (ev_var rfl ru) fun G' g => ev_ix (r := rTab CR) (j := 0) (ev_var rfl (Mono.mono g ru')) (fun _ _ => ev_int) rfl rfl).imp fun _ _ _ e => e⟩
def aBWo (CR CH : Addr) : List V → Hp → Hp → HP → Prop := fun vs G _ R => ∃ (h : Hs) (B : List WT) (v : V), vs = [v] ∧ rHou CR CH h G v ∧ HsOk h ∧ BaseIs h B ∧ R = rLst rWd (B.map (·.1))
theorem sc_base_words : FnScope ["house", "word", "table"] ["house"] (defScope s_base_words) := ⟨rfl, rfl, rfl, by decide +kernel, rfl, by decide +kernel, by decide +kernel⟩
theorem ok_base_words (T : Txt K mg CR CH) (F : Fun K "base_words" "base_words" s_base_words f fd) (C_want_house : Cal P w K mg base "want_house" 1 ["value"] (spP (aWH CR CH))) (C_base_of : Cal P w K mg base "base_of" 7 ["house"] (spP (aBO CR CH))) : FnOk P w K mg base CX0 8 f fd ["house"] (spP (aBWo CR CH)) := by
  refine F.ok sc_base_words (fun vs H Q E h => ?_) (fun cdv A outer s H vs Q E hr h => ?_)
  · obtain ⟨G, R, _, ⟨h, B, v, rfl, _⟩, _⟩ := h
    rfl
  · obtain ⟨G, R, gh, ⟨h, B, v, rfl, hv, ok, bi, rfl⟩, k⟩ := h
    refine ⟨_, (pss_one (ps_ret (pe_lc (own := [("word", 1), ("table", 2)]) rfl sc_base_words.nd (pi_listK K (pe_cal C_base_of (hr.mono (by decide)) (by rfl) (pa_cons (pe_cal C_want_house (hr.mono (by decide)) (by rfl) (pa_cons (pv 0) pa_nil)) pa_nil))) (blkOk_by (by kernel_rfl)) (fun _ _ _ _ _ => (pg_tupK (n := 2) K (by rfl) (pgs_cons (pg_name (i := 1) sc_base_words.nd rfl (by first | exact Or.inl rfl | exact Or.inr rfl)) (pgs_cons (pg_name (i := 2) sc_base_words.nd rfl (by first | exact Or.inl rfl | exact Or.inr rfl)) pgs_nil)))) (fun _ _ _ _ _ => pts_nil) (fun _ _ _ _ _ => (pv 1))))), ?_⟩
    refine q_ret gh (P := rLst rWd (B.map (·.1))) (ev_lc (r := rWd) (B.map (·.1)) (src_list (r := rBT CR) (xs := B) (ev_call (ea1 (P1 := rHou CR CH h) (ev_call (ea1 (P1 := rHou CR CH h) (ev_var rfl hv)) fun G' H' vs _ _ ⟨y, e, e1⟩ => ⟨h, y, e, e1, rfl⟩)) fun G' H' vs _ _ ⟨y, e, e1⟩ => ⟨h, B, y, e, e1, ok, bi, rfl⟩)) (by rw [List.length_map]) (by have := len_base bi; omega) fun i z G1 x hz g1 ⟨y, hy, ry⟩ => ?_) k
    rw [List.getElem?_map, hy] at hz
    cases hz
    exact tg2 (r := rWd) (s := rTab CR) (z := y.1) (y := y.2) ry fun u u' ru ru' => ⟨rfl, ev_var rfl ru⟩
def aDim (CR CH : Addr) : List V → Hp → Hp → HP → Prop := fun vs G _ R => ∃ (h : Hs) (B : List WT) (v : V), vs = [v] ∧ rHou CR CH h G v ∧ HsOk h ∧ BaseIs h B ∧ R = rInt (B.length : Int)
theorem sc_dimension : FnScope ["house"] ["house"] (defScope s_dimension) := ⟨rfl, rfl, rfl, by decide +kernel, rfl, by decide +kernel, by decide +kernel⟩
theorem ok_dimension (T : Txt K mg CR CH) (F : Fun K "dimension" "dimension" s_dimension f fd) (C_want_house : Cal P w K mg base "want_house" 1 ["value"] (spP (aWH CR CH))) (C_base_of : Cal P w K mg base "base_of" 7 ["house"] (spP (aBO CR CH))) : FnOk P w K mg base CX0 8 f fd ["house"] (spP (aDim CR CH)) := by
  refine F.ok sc_dimension (fun vs H Q E h => ?_) (fun cdv A outer s H vs Q E hr h => ?_)
  · obtain ⟨G, R, _, ⟨h, B, v, rfl, _⟩, _⟩ := h
    rfl
  · obtain ⟨G, R, gh, ⟨h, B, v, rfl, hv, ok, bi, rfl⟩, k⟩ := h
    refine ⟨_, (pss_one (ps_ret (pe_callB (call_lenK K) (by rfl) T.len PySem.boot_len (pa_cons (pe_cal C_base_of (hr.mono (by decide)) (by rfl) (pa_cons (pe_cal C_want_house (hr.mono (by decide)) (by rfl) (pa_cons (pv 0) pa_nil)) pa_nil)) pa_nil)))), ?_⟩
    exact q_ret gh (P := rInt (B.length : Int)) (ev_len (r := rBT CR) (ev_call (ea1 (P1 := rHou CR CH h) (ev_call (ea1 (P1 := rHou CR CH h) (ev_var rfl hv)) fun G' H' vs _ _ ⟨y, e, e1⟩ => ⟨h, y, e, e1, rfl⟩)) fun G' H' vs _ _ ⟨y, e, e1⟩ => ⟨h, B, y, e, e1, ok, bi, rfl⟩)) k
end
end K28
end
section
set_option Elab.async false
set_option linter.all false
set_option maxRecDepth 100000
set_option maxHeartbeats 4000000
set_option autoImplicit false
set_option exponentiation.threshold 20000
namespace K28
open PySem L2
section
variable {P : Program} {w : World} {K : PySem.W.Frag} {mg : Str → Option Value} {base : Heap} {CR CH : Addr} {f : Addr} {fd : FuncData}
/-- the script -/
def rSq (K : PySem.W.Frag) (ns : List Int) : HP := fun G v => ∃ a, v = .ref a ∧ SqL K G a (ns.map V.int)
instance {K : PySem.W.Frag} {ns : List Int} : Mono (rSq K ns) := ⟨fun e ⟨a, h1, h2⟩ => ⟨a, h1, by
  rcases h2 with (h | ⟨o, h⟩) | h
  · exact .inl (.inl (e _ _ h))
  · exact .inl (.inr ⟨o, e _ _ h⟩)
  · exact .inr h⟩⟩
/-- a new pot -/
def spPot (K : PySem.W.Frag) : Sp := fun vs H Q _ => ∃ (G : Hp) (ns : List Int) (v : V), Same G H ∧ vs = [v, .int 0] ∧ rSq K ns G v ∧ ns.length ≤ 1000 ∧ ∀ p G' H', Stp G H G' H' → H p = none → G' p = none → Pt p H' → Q (.ref p) H'
def rNat (C : Nat → Prop) : HP := fun _ v => ∃ n : Nat, v = .int (n : Int) ∧ C n
instance {C : Nat → Prop} : Mono (rNat C) := ⟨fun _ h => h⟩
def rZ (C : Int → Prop) : HP := fun _ v => ∃ z : Int, v = .int z ∧ C z
instance {C : Int → Prop} : Mono (rZ C) := ⟨fun _ h => h⟩
theorem q_retL2 {ta tb : TE} {σ : St} {G H : Hp} {D : Ends} {P1 P2 : HP} [Mono P1] (gh : Same G H) (h : Ev ta σ G P1) (h2 : ∀ G', Same G G' → Ev tb σ G' P2) (k : ∀ p u w G' H1, Stp G H G' H1 → P1 G' u → P2 G' w → H1 p = none → D.rt (.ref p) (upd H1 p (.lst [u, w]))) : tRet (tLst (tCons ta (tCons tb tNil))) D σ H :=
  h H gh _ fun u G1 H1 s1 e1 => h2 G1 s1.gg H1 s1.gh _ fun w G2 H2 s2 e2 => ⟨by show 2 ≤ sizeLine; decide, fun p hp => k p u w G2 H2 (s1.trans s2) (Mono.mono s2.gg e1) e2 hp⟩
theorem sc_law_pot : FnScope ["_law_script", "_law_k", "_law_cell"] ["_law_script", "_law_k"] (defScope s_law_pot) := ⟨rfl, rfl, rfl, by decide +kernel, rfl, by decide +kernel, by decide +kernel⟩
theorem ok_law_pot (T : Txt K mg CR CH) (F : Fun K "_law_pot" "_law_pot" s_law_pot f fd) : FnOk P w K mg base CX0 1 f fd ["_law_script", "_law_k"] (spPot K) := by
  refine F.ok sc_law_pot (fun vs H Q E h => ?_) (fun cdv A outer s H vs Q E hr h => ?_)
  · obtain ⟨G, ns, v, _, rfl, _⟩ := h
    rfl
  · obtain ⟨G, ns, v, gh, rfl, hv, hl, k⟩ := h
    refine ⟨_, (pss_cons (ps_set (i := 2) sc_law_pot.nd rfl (by first | exact Or.inl rfl | exact Or.inr rfl) (pe_ifExp (pt_cmpR op_lt (pv 1) (pe_callB (call_lenK K) (by rfl) T.len PySem.boot_len (pa_cons (pv 0) pa_nil)) (nomark _)) (pe_callB call_abs (by rfl) T.abs (by decide +kernel) (pa_cons (pe_ix (ix_listK K) (pv 0) (pv 1) (fun _ _ => rfl)) pa_nil)) (pe_op op_add (pe_op op_mulW pe_int (pv 1)) pe_int)))
      (pss_one (ps_ret (pe_lst (pa_cons (pe_callB (call_max2 rfl) (by rfl) T.max (by decide +kernel) (pa_cons pe_int (pa_cons (pe_op op_sub (pv 2) (pe_op op_pow pe_int pe_int)) pa_nil))) (pa_cons (pe_op op_add (pe_op op_mod (pe_callTy call_int1 (by rfl) T.int (by decide +kernel) (pa_cons (pe_op op_add (pe_op op_add (pe_op op_mulW (pe_op op_mod (pe_callTy call_int1 (by rfl) T.int (by decide +kernel) (pa_cons (pv 2) pa_nil)) pe_int) pe_int) (pe_op op_mulW pe_int (pv 1))) pe_int) pa_nil)) pe_int) pe_int) pa_nil)))))), ?_⟩
    refine q_asg gh (P := rZ fun z => 0 ≤ z) (ev_if (b := decide (0 < ns.length)) (et_test ((ev_I0 (i := 0) (j := (ns.length : Int)) (ev_var rfl rfl) (ev_cb (P := rInt (ns.length : Int)) (ea1 (P1 := rSq K ns) (ev_var rfl hv)) fun G' H' vs Q _ gh ⟨u, e, a, e1, h1⟩ kk => ⟨a, _, by rw [e, e1], .inl (Mono.mono (P := rSq K ns) gh ⟨a, rfl, h1⟩ |> fun ⟨_, e, h⟩ => by cases e; exact h), kk _ _ _ (.refl gh) (by show V.int _ = V.int _; rw [List.length_map])⟩)).imp fun _ u _ e => ?_)) (fun hb G1 g1 => ?_) fun _ G1 g1 => ?_) fun z G1 H1 s1 ⟨c, hc, h0⟩ => ?_
    · rw [show u = _ from e]
      refine congrArg V.bl ?_
      rw [decide_eq_decide]; omega
    · have h0 : 0 < ns.length := of_decide_eq_true hb
      refine ev_cb (ea1 (P1 := rInt ns[0]) (ev_op (P1 := rSq K ns) (P2 := rInt 0) (ev_var rfl (Mono.mono g1 hv)) (fun _ _ => ev_var rfl rfl) fun G' H' x y Q _ gh ⟨a, e1, h1⟩ e2 kk => ⟨a, _, 0, .int ns[0], e1, e2, (Mono.mono (P := rSq K ns) gh ⟨a, rfl, h1⟩ |> fun ⟨_, e, h⟩ => by cases e; exact h), atI_of (j := 0) rfl (by rw [List.getElem?_map, List.getElem?_eq_getElem h0]; rfl), kk _ _ _ (.refl gh) rfl⟩)) fun G' H' vs Q _ gh ⟨u, e, e1⟩ kk => ⟨ns[0], by rw [e, show u = _ from e1], kk _ _ _ (.refl gh) ⟨_, rfl, ?_⟩⟩
      split <;> omega
    · exact (ev_I0 (j := 389) (ev_I (i := 431) (j := 0) ev_int (ev_var rfl rfl) (mulok (n := 10) (m := 10) (by decide) (by decide) (by decide))) ev_int).imp fun _ u _ e => ⟨_, e, by decide⟩
    subst hc
    have m0 : 0 ≤ c % 2147483549 := Int.emod_nonneg _ (by decide)
    have m1 : c % 2147483549 < 2147483549 := Int.emod_lt_of_pos _ (by decide)
    have cm : CMulW (c % 2147483549) 40751 := mulok (n := 31) (m := 16) (by rw [show (2 : Nat) ^ 31 = 2147483648 by decide]; omega) (by decide) (by decide)
    refine q_retL2 (P1 := rZ fun z => 0 ≤ z) (P2 := rZ fun z => 0 ≤ z ∧ z < 2147483564) s1.gh ?_ (fun G2 g2 => ?_) fun p u u' G2 H2 s2 ⟨a, ha, a0⟩ ⟨b, hb, b0, b1⟩ hp => ?_
    · exact ev_cb (ea2 (P1 := rInt 0) (P2 := rInt (c - 10 ^ 18)) ev_int fun G' g => ev_I0 (ev_var rfl rfl) ((ev_I (i := 10) (j := 18) ev_int ev_int ⟨by decide, by decide, by decide⟩).imp fun _ u _ e => by rw [show u = _ from e]; rfl)) fun G' H' vs Q _ gh ⟨u, u', e, e1, e2⟩ kk => ⟨0, c - 10 ^ 18, by rw [e, show u = _ from e1, show u' = _ from e2], kk _ _ _ (.refl gh) ⟨_, rfl, by split <;> omega⟩⟩
    · refine (ev_I0 (j := 1) (ev_I (j := 2147483563) (ev_intI (ev_I0 (j := 401) (ev_I0 (ev_I (j := 40751) (ev_I (j := 2147483549) (ev_intI (i := c) (ev_var rfl rfl)) ev_int (by decide)) ev_int cm) (ev_I (i := 4021) (j := 0) ev_int (ev_var rfl rfl) (mulok (n := 13) (m := 10) (by decide) (by decide) (by decide)))) ev_int)) ev_int (by decide)) ev_int).imp fun _ u _ e => ⟨_, e, ?_⟩
      have q0 := Int.emod_nonneg (c % 2147483549 * 40751 + 4021 * 0 + 401) (show (2147483563 : Int) ≠ 0 by decide)
      have q1 := Int.emod_lt_of_pos (c % 2147483549 * 40751 + 4021 * 0 + 401) (show (0 : Int) < 2147483563 by decide)
      omega
    subst ha hb
    have s12 := s1.trans s2
    exact k p G2 _ (s12.trans (Stp.aside s2.gh hp)) (s12.hh.free hp) (s2.gh.free hp) ⟨a, b, upd_same, a0, b0, b1⟩
theorem pot0 {σ : St} {H : Hp} {Q : VK} {p : Addr} {a b : Int} (e : σ[0]? = some (some (.ref p))) (hp : H p = some (.lst [.int a, .int b])) (q : Q (.int a) H) : tOp (rIxL K) (tVar 0) (tC (.int 0)) σ H Q := ⟨_, e, p, _, 0, _, rfl, rfl, .inl (.inl hp), rfl, q⟩
theorem pot1 {σ : St} {H : Hp} {Q : VK} {p : Addr} {a b : Int} (e : σ[0]? = some (some (.ref p))) (hp : H p = some (.lst [.int a, .int b])) (q : Q (.int b) H) : tOp (rIxL K) (tVar 0) (tC (.int 1)) σ H Q := ⟨_, e, p, _, 1, _, rfl, rfl, .inl (.inl hp), rfl, q⟩
def aDraw : List V → Addr → Hp → Hp → HP → Prop := fun vs p _ _ R => ∃ m : Nat, vs = [.ref p, .int (m : Int)] ∧ 0 < m ∧ m ≤ 1000 ∧ R = rNat (· < m)
theorem sc_law_draw : FnScope ["_law_pot_here", "_law_many", "_law_digit"] ["_law_pot_here", "_law_many"] (defScope s_law_draw) := ⟨rfl, rfl, rfl, by decide +kernel, rfl, by decide +kernel, by decide +kernel⟩
theorem ok_law_draw (T : Txt K mg CR CH) (F : Fun K "_law_draw" "_law_draw" s_law_draw f fd) : FnOk P w K mg base CX0 1 f fd ["_law_pot_here", "_law_many"] (spD aDraw) := by
  refine F.ok sc_law_draw (fun vs H Q E h => ?_) (fun cdv A outer s H vs Q E hr h => ?_)
  · obtain ⟨G, R, p, _, _, _, ⟨m, rfl, _⟩, _⟩ := h
    rfl
  · obtain ⟨G, R, p, gh, gp, pt, ⟨m, rfl, m0, m1, rfl⟩, k⟩ := h
    refine ⟨_, (pss_cons (ps_if (pt_cmpR op_gt (pe_ix (ix_listK K) (pv 0) pe_int (fun _ _ => rfl)) pe_int (nomark _)) (pss_cons (ps_asg (pe_callB call_divmod (by rfl) T.divmod (by decide +kernel) (pa_cons (pe_ix (ix_listK K) (pv 0) pe_int (fun _ _ => rfl)) (pa_cons (pv 1) pa_nil))) (pg_tupK (n := 2) K (by rfl) (pgs_cons (pg_sub (pv 0) pe_int set_list) (pgs_cons (pg_name (i := 2) sc_law_draw.nd rfl (by first | exact Or.inl rfl | exact Or.inr rfl)) pgs_nil))))
      (pss_one (ps_ret (pv 2)))) pss_nil)
      (pss_cons (ps_asg (pe_op op_mod (pe_callTy call_int1 (by rfl) T.int (by decide +kernel) (pa_cons (pe_op op_add (pe_op op_mulW (pe_ix (ix_listK K) (pv 0) pe_int (fun _ _ => rfl)) pe_int) pe_int) pa_nil)) pe_int) (pg_sub (pv 0) pe_int set_list))
      (pss_one (ps_ret (pe_op op_mod (pe_callTy call_int1 (by rfl) T.int (by decide +kernel) (pa_cons (pe_op op_fdivW (pe_op op_mod (pe_callTy call_int1 (by rfl) T.int (by decide +kernel) (pa_cons (pe_op op_mulW (pe_ix (ix_listK K) (pv 0) pe_int (fun _ _ => rfl)) (pe_ix (ix_listK K) (pv 0) pe_int (fun _ _ => rfl))) pa_nil)) pe_int) pe_int) pa_nil)) (pv 1)))))), ?_⟩
    have s0 : StD p G H G H := .refl gh gp pt
    obtain ⟨a, b, hp, a0, b0, b1⟩ := pt
    have m0' : (0 : Int) < (m : Int) := by omega
    refine pot0 rfl hp ⟨a, 0, rfl, rfl, decide (a > 0), rfl, ?_⟩
    by_cases ha : a > 0
    · rw [decide_eq_true ha]
      refine iteT (pot0 rfl hp ⟨_, rfl, a, (m : Int), rfl, ⟨m0', by omega⟩, fun q hq => ?_⟩)
      have nq : p ≠ q := fun z => by rw [← z, hp] at hq; cases hq
      have s1 : StD p G H G (upd H q (.tup [.int (a / (m : Int)), .int (a % (m : Int))])) := (Stp.aside gh hq).toD gp ⟨a, b, hp, a0, b0, b1⟩
      refine ⟨q, _, rfl, .inl (.inl upd_same), rfl, _, _, rfl, _, rfl, p, _, 0, 0, rfl, rfl, by rw [upd_ne nq]; exact hp, rfl, _, _, rfl, rfl, _, rfl, ?_⟩
      refine k _ _ _ (s1.pot (x := a / (m : Int)) (y := b) (Int.ediv_nonneg a0 (by omega)) b0 b1) ⟨(a % (m : Int)).toNat, ?_, ?_⟩
      · have := Int.emod_nonneg a (show (m : Int) ≠ 0 by omega)
        rw [Int.toNat_of_nonneg this]
      · have := Int.emod_lt_of_pos a m0'
        have := Int.emod_nonneg a (show (m : Int) ≠ 0 by omega)
        omega
    · rw [decide_eq_false ha]
      refine iteF ?_
      have c1 : CMulW b 40014 := mulok (n := 32) (m := 16) (by rw [show (2 : Nat) ^ 32 = 4294967296 by decide]; omega) (by decide) (by decide)
      refine pot1 rfl hp ⟨b, 40014, rfl, rfl, c1, b * 40014, 1109, rfl, rfl, .inl ⟨_, rfl, b * 40014 + 1109, 2147483563, rfl, rfl, (show (0 : Int) < 2147483563 by decide), _, rfl, p, _, 1, 1, rfl, rfl, hp, rfl, ?_⟩⟩
      have q0 := Int.emod_nonneg (b * 40014 + 1109) (show (2147483563 : Int) ≠ 0 by decide)
      have q1 := Int.emod_lt_of_pos (b * 40014 + 1109) (show (0 : Int) < 2147483563 by decide)
      dsimp only
      generalize (b * 40014 + 1109) % 2147483563 = c at q0 q1 ⊢
      have s1 := s0.pot (x := a) (y := c) a0 q0 (by omega)
      have c2 : CMulW c c := mulok (n := 32) (m := 32) (by rw [show (2 : Nat) ^ 32 = 4294967296 by decide]; omega) (by rw [show (2 : Nat) ^ 32 = 4294967296 by decide]; omega) (by decide)
      refine pot1 (a := a) (b := c) rfl upd_same (pot1 (a := a) (b := c) rfl upd_same ⟨c, c, rfl, rfl, c2, .inl ⟨_, rfl, c * c, 2147483587, rfl, rfl, (show (0 : Int) < 2147483587 by decide), c * c % 2147483587, 21, rfl, rfl, divok (n := 5) _ (by decide) (by decide) (by decide), .inl ⟨_, rfl, _, rfl, c * c % 2147483587 / 21, (m : Int), rfl, rfl, m0', ?_⟩⟩⟩)
      dsimp only
      generalize c * c % 2147483587 / 21 = x
      refine k _ _ _ s1 ⟨(x % (m : Int)).toNat, ?_, ?_⟩
      · have := Int.emod_nonneg x (show (m : Int) ≠ 0 by omega)
        rw [Int.toNat_of_nonneg this]
      · have := Int.emod_lt_of_pos x m0'
        have := Int.emod_nonneg x (show (m : Int) ≠ 0 by omega)
        omega
def aPick : List V → Addr → Hp → Hp → HP → Prop := fun vs p G _ R => ∃ (xs : List Int) (v : V), vs = [.ref p, v] ∧ rIR xs G v ∧ 0 < xs.length ∧ xs.length ≤ 1000 ∧ R = rZ (· ∈ xs)
theorem sc_law_pick : FnScope ["_law_pot_here", "_law_some"] ["_law_pot_here", "_law_some"] (defScope s_law_pick) := ⟨rfl, rfl, rfl, by decide +kernel, rfl, by decide +kernel, by decide +kernel⟩
theorem ok_law_pick (T : Txt K mg CR CH) (F : Fun K "_law_pick" "_law_pick" s_law_pick f fd) (C_law_draw : Cal P w K mg base "_law_draw" 1 ["_law_pot_here", "_law_many"] (spD aDraw)) : FnOk P w K mg base CX0 2 f fd ["_law_pot_here", "_law_some"] (spD aPick) := by
  refine F.ok sc_law_pick (fun vs H Q E h => ?_) (fun cdv A outer s H vs Q E hr h => ?_)
  · obtain ⟨G, R, p, _, _, _, ⟨xs, v, rfl, _⟩, _⟩ := h
    rfl
  · obtain ⟨G, R, p, gh, gp, pt, ⟨xs, v, rfl, hv, l0, l1, rfl⟩, k⟩ := h
    refine ⟨_, (pss_one (ps_ret (pe_ix (ix_listK K) (pv 1) (pe_cal C_law_draw (hr.mono (by decide)) (by rfl) (pa_cons (pv 0) (pa_cons (pe_callB (call_lenK K) (by rfl) T.len PySem.boot_len (pa_cons (pv 1) pa_nil)) pa_nil))) (fun _ _ => rfl)))), ?_⟩
    have s0 : StD p G H G H := .refl gh gp pt
    have ev1 : ∀ {σ : St} {G' : Hp}, σ[1]? = some (some v) → Same G G' → Ev (tVar 1) σ G' (rIR xs) := fun e g => ev_var e (Mono.mono g hv)
    refine qD_ret s0 (P := rZ (· ∈ xs)) (evD_op (P1 := rIR xs) (P2 := rNat (· < xs.length)) (ev1 rfl (.refl _)).toD (fun G1 g1 => evD_call (eaD2 (P1 := rVal (.ref p)) (P2 := rInt (xs.length : Int)) (ev_var rfl rfl : Ev (tVar 0) _ _ _).toD fun G2 g2 => (ev_len (ev1 rfl (g1.trans g2))).toD) fun G' H' vs _ _ ⟨u, u', e, e1, e2⟩ => ⟨xs.length, by rw [e, show u = _ from e1, show u' = _ from e2], l0, l1, rfl⟩) fun G' H' x y Q _ gh ⟨a, us, e1, h1, h2⟩ ⟨n, e2, hn⟩ kk => ?_) k
    obtain ⟨u, hu, ru⟩ := paired_at h2 (List.getElem?_eq_getElem hn)
    exact ⟨a, us, (n : Int), u, e1, e2, .inl (.inl (gh _ _ h1)), atI_of rfl hu, kk _ _ _ (.refl gh) ⟨_, ru, List.getElem_mem hn⟩⟩
def lturn (u : List (List Int)) : List (List Int) := (List.range u.length).map fun p => u.map fun row => at0 row p
def ltimes (t u : List (List Int)) : List (List Int) := t.map fun row => (lturn u).map fun col => (List.zipWith (· * ·) row col).sum
def aLT : List V → Hp → Hp → HP → Prop := fun vs G _ R => ∃ (t u : List (List Int)) (v x : V) (n : Nat), vs = [v, x] ∧ rIT t G v ∧ rIT u G x ∧ SqX n t ∧ SqX n u ∧ n ≤ 20 ∧ (∀ r ∈ t, Lt 20 r) ∧ (∀ r ∈ u, Lt 20 r) ∧ R = rIT (ltimes t u)
theorem sc_law_times : FnScope ["_law_one", "_law_other", "_law_turned", "_law_row", "_law_place", "_law_near", "_law_far", "_law_column"] ["_law_one", "_law_other"] (defScope s_law_times) := ⟨rfl, rfl, rfl, by decide +kernel, rfl, by decide +kernel, by decide +kernel⟩
theorem ok_law_times (T : Txt K mg CR CH) (F : Fun K "_law_times" "_law_times" s_law_times f fd) : FnOk P w K mg base CX0 1 f fd ["_law_one", "_law_other"] (spP aLT) := by
  refine F.ok sc_law_times (fun vs H Q E h => ?_) (fun cdv A outer s H vs Q E hr h => ?_)
  · obtain ⟨G, R, _, ⟨t, u, v, x, n, rfl, _⟩, _⟩ := h
    rfl
  · obtain ⟨G, R, gh, ⟨t, u, v, x, n, rfl, hv, hx, sq, sq', hn, lt, lu, rfl⟩, k⟩ := h
    refine ⟨_, (pss_cons (ps_set (i := 2) sc_law_times.nd rfl (by first | exact Or.inl rfl | exact Or.inr rfl) (pe_lc (own := [("_law_place", 4)]) rfl sc_law_times.nd (pi_range1 (by rfl) T.range (pa_cons (pe_callB (call_lenK K) (by rfl) T.len PySem.boot_len (pa_cons (pv 1) pa_nil)) pa_nil)) (blkOk_by (by kernel_rfl)) (fun _ _ _ _ _ => (pg_name (i := 4) sc_law_times.nd rfl (by first | exact Or.inl rfl | exact Or.inr rfl))) (fun _ _ _ _ _ => pts_nil) (fun _ _ _ _ _ => (pe_lc (own := [("_law_row", 3)]) rfl sc_law_times.nd (pi_listK K (pv 1)) (blkOk_by (by kernel_rfl)) (fun _ _ _ _ _ => (pg_name (i := 3) sc_law_times.nd rfl (by first | exact Or.inl rfl | exact Or.inr rfl))) (fun _ _ _ _ _ => pts_nil) (fun _ _ _ _ _ => (pe_ix (ix_listK K) (pv 3) (pv 4) (fun _ _ => rfl)))))))
      (pss_one (ps_ret (pe_lc (own := [("_law_row", 3)]) rfl sc_law_times.nd (pi_listK K (pv 0)) (blkOk_by (by kernel_rfl)) (fun _ _ _ _ _ => (pg_name (i := 3) sc_law_times.nd rfl (by first | exact Or.inl rfl | exact Or.inr rfl))) (fun _ _ _ _ _ => pts_nil) (fun _ _ _ _ _ => (pe_lc (own := [("_law_column", 7)]) rfl sc_law_times.nd (pi_listK K (pv 2)) (blkOk_by (by kernel_rfl)) (fun _ _ _ _ _ => (pg_name (i := 7) sc_law_times.nd rfl (by first | exact Or.inl rfl | exact Or.inr rfl))) (fun _ _ _ _ _ => pts_nil) (fun _ _ _ _ _ => (pe_callB (cr_sumK K rfl) (by rfl) T.sum (by decide +kernel) (pa_cons (pe_lc (own := [("_law_near", 5), ("_law_far", 6)]) rfl sc_law_times.nd (pi_zipK K (by rfl) T.zip (pa_cons (pv 3) (pa_cons (pv 7) pa_nil))) (blkOk_by (by kernel_rfl)) (fun _ _ _ _ _ => (pg_tupK (n := 2) K (by rfl) (pgs_cons (pg_name (i := 5) sc_law_times.nd rfl (by first | exact Or.inl rfl | exact Or.inr rfl)) (pgs_cons (pg_name (i := 6) sc_law_times.nd rfl (by first | exact Or.inl rfl | exact Or.inr rfl)) pgs_nil)))) (fun _ _ _ _ _ => pts_nil) (fun _ _ _ _ _ => (pe_op op_mulW (pv 5) (pv 6)))) pa_nil))))))))), ?_⟩
    have ev0 : ∀ {σ : St} {G' : Hp}, σ[0]? = some (some v) → Same G G' → Ev (tVar 0) σ G' (rIT t) := fun e g => ev_var e (Mono.mono g hv)
    have ev1 : ∀ {σ : St} {G' : Hp}, σ[1]? = some (some x) → Same G G' → Ev (tVar 1) σ G' (rIT u) := fun e g => ev_var e (Mono.mono g hx)
    refine q_asg gh (P := rIT (lturn u)) (ev_mapR (s := rIR) (fun p => u.map fun row => at0 row p) (n := u.length) (ev_len (ev1 rfl (.refl _))) rfl (by rw [sq'.1]; omega) (fun _ => rfl) fun p G1 hp g1 => ?_) fun z G1 H1 s1 e1 => ?_
    · exact ev_map (r := rIR) (s := rInt) (fun row => at0 row p) (ev1 rfl g1) (by rw [sq'.1]; omega) (fun _ => rfl) fun j row G2 y hy g2 ry => ev_ix (r := rInt) (j := p) (ev_var rfl ry) (fun _ _ => ev_var rfl rfl) rfl (at0_some (by rw [sq'.2 row (List.mem_of_getElem? hy), ← sq'.1]; exact hp))
    have lturn1 : ∀ c ∈ lturn u, Lt 20 c ∧ c.length = n := fun c hc => by
      unfold lturn at hc
      obtain ⟨p, _, rfl⟩ := List.mem_map.mp hc
      refine ⟨fun z hz => ?_, by rw [List.length_map]; exact sq'.1⟩
      obtain ⟨row, hr, rfl⟩ := List.mem_map.mp hz
      exact (lu row hr).at0 p
    refine q_ret s1.gh (P := rIT (ltimes t u)) (ev_map (r := rIR) (s := rIR) (fun row => (lturn u).map fun col => (List.zipWith (· * ·) row col).sum) (ev0 rfl s1.gg) (by rw [sq.1]; omega) (fun _ => rfl) fun i row G2 y hy g2 ry => ?_) fun z G2 H2 s2 e2 => k z G2 H2 (s1.trans s2) e2
    have hrow := List.mem_of_getElem? hy
    refine ev_map (r := rIR) (s := rInt) (fun col => (List.zipWith (· * ·) row col).sum) (ev_var rfl (Mono.mono g2 e1)) (by unfold lturn; rw [List.length_map, List.length_range, sq'.1]; omega) (fun _ => rfl) fun j col G3 c hc g3 rc => ?_
    have hcol := List.mem_of_getElem? hc
    exact ev_sum (ev_mapZ (r := rInt) (s := rInt) (t := rInt) (· * ·) (ev_var rfl (Mono.mono g3 ry)) (fun G' g => ev_var rfl (Mono.mono g rc)) (by rw [sq.2 row hrow]; omega) (fun _ _ => rfl) fun m a b G4 a' b' ha hb g4 ra rb => ev_I (ev_var rfl ra) (ev_var rfl rb) (mulok (lt row hrow a (List.mem_of_getElem? ha)) ((lturn1 col hcol).1 b (List.mem_of_getElem? hb)) (by decide)))
end
end K28
end
section
set_option Elab.async false
set_option linter.all false
set_option maxRecDepth 100000
set_option maxHeartbeats 4000000
set_option autoImplicit false
set_option exponentiation.threshold 20000
namespace K28
open PySem L2
section
variable {P : Program} {w : World} {K : PySem.W.Frag} {mg : Str → Option Value} {base : Heap} {CR CH : Addr} {f : Addr} {fd : FuncData}
theorem ev_draw {p : Addr} {te : TE} {σ : St} {G : Hp} {m : Nat} {i : Nat} (e : σ[i]? = some (some (.ref p))) (h : ∀ G', Same G G' → Ev te σ G' (rInt (m : Int))) (m0 : 0 < m) (m1 : m ≤ 1000) : EvD p (tCall (spD aDraw) [] E0 (tCons (tVar i) (tCons te tNil))) σ G (rNat (· < m)) :=
  evD_call (eaD2 (P1 := rVal (.ref p)) (P2 := rInt (m : Int)) (ev_var e rfl : Ev (tVar i) _ _ _).toD fun G2 g2 => (h G2 g2).toD) fun G' H' vs _ _ ⟨u, u', e, e1, e2⟩ => ⟨m, by rw [e, show u = _ from e1, show u' = _ from e2], m0, m1, rfl⟩
theorem ev_pick {p : Addr} {te : TE} {σ : St} {G : Hp} {xs : List Int} {i : Nat} (e : σ[i]? = some (some (.ref p))) (h : ∀ G', Same G G' → Ev te σ G' (rIR xs)) (m0 : 0 < xs.length) (m1 : xs.length ≤ 1000) : EvD p (tCall (spD aPick) [] E0 (tCons (tVar i) (tCons te tNil))) σ G (rZ (· ∈ xs)) :=
  evD_call (eaD2 (P1 := rVal (.ref p)) (P2 := rIR xs) (ev_var e rfl : Ev (tVar i) _ _ _).toD fun G2 g2 => (h G2 g2).toD) fun G' H' vs _ _ ⟨u, u', e, e1, e2⟩ => ⟨xs, u', by rw [e, show u = _ from e1], e2, m0, m1, rfl⟩
/-- a row that G0 does not know -/
def rFr (G0 : Hp) (row : List Int) : HP := fun G v => rIR row G v ∧ ∀ b, v = .ref b → G0 b = none
instance {G0 : Hp} {row : List Int} : Mono (rFr G0 row) := ⟨fun e h => ⟨Mono.mono e h.1, h.2⟩⟩
def lidle (n : Nat) : List (List Int) := (List.range n).map fun i => (List.range n).map fun j => if i = j then 1 else 0
def rFM (G0 : Hp) (n : Nat) : HP := fun G v => rLst (rFr G0) (lidle n) G v ∧ ∃ a, v = .ref a ∧ G0 a = none
instance {G0 : Hp} {n : Nat} : Mono (rFM G0 n) := ⟨fun e h => ⟨Mono.mono e h.1, h.2⟩⟩
def aLI : List V → Hp → Hp → HP → Prop := fun vs G _ R => ∃ (n : Nat) (G0 : Hp), vs = [.int (n : Int)] ∧ n ≤ 1000 ∧ Same G0 G ∧ R = rFM G0 n
theorem sc_law_idle : FnScope ["_law_size", "_law_place", "_law_line"] ["_law_size"] (defScope s_law_idle) := ⟨rfl, rfl, rfl, by decide +kernel, rfl, by decide +kernel, by decide +kernel⟩
theorem ok_law_idle (T : Txt K mg CR CH) (F : Fun K "_law_idle" "_law_idle" s_law_idle f fd) : FnOk P w K mg base CX0 1 f fd ["_law_size"] (spP aLI) := by
  refine F.ok sc_law_idle (fun vs H Q E h => ?_) (fun cdv A outer s H vs Q E hr h => ?_)
  · obtain ⟨G, R, _, ⟨n, G0, rfl, _⟩, _⟩ := h
    rfl
  · obtain ⟨G, R, gh, ⟨n, G0, rfl, hn, g0, rfl⟩, k⟩ := h
    refine ⟨_, (pss_one (ps_ret (pe_lc (own := [("_law_line", 2)]) rfl sc_law_idle.nd (pi_range1 (by rfl) T.range (pa_cons (pv 0) pa_nil)) (blkOk_by (by kernel_rfl)) (fun _ _ _ _ _ => (pg_name (i := 2) sc_law_idle.nd rfl (by first | exact Or.inl rfl | exact Or.inr rfl))) (fun _ _ _ _ _ => pts_nil) (fun _ _ _ _ _ => (pe_lc (own := [("_law_place", 1)]) rfl sc_law_idle.nd (pi_range1 (by rfl) T.range (pa_cons (pv 0) pa_nil)) (blkOk_by (by kernel_rfl)) (fun _ _ _ _ _ => (pg_name (i := 1) sc_law_idle.nd rfl (by first | exact Or.inl rfl | exact Or.inr rfl))) (fun _ _ _ _ _ => pts_nil) (fun _ _ _ _ _ => (pe_callTy call_int1 (by rfl) T.int (by decide +kernel) (pa_cons (pe_cmpR op_eq (pv 2) (pv 1) (nomark _)) pa_nil)))))))), ?_⟩
    refine q_ret gh (P := rFM G0 n) ((ev_lcN (r := rFr G0) (lidle n) (src_range (n := n) (ea1 (P1 := rInt (n : Int)) (ev_var rfl rfl)) (by omega)) (by unfold lidle; simp) (by omega) fun i z G1 x hz g1 hx => ?_).imp fun G' v _ ⟨h1, a, h2, h3⟩ => ⟨h1, a, h2, g0.free h3⟩) k
    cases (show x = _ from hx)
    have hi : i < n := by
      have := (List.getElem?_eq_some_iff.mp hz).1
      unfold lidle at this
      simpa using this
    unfold lidle at hz
    rw [List.getElem?_map, List.getElem?_range hi] at hz
    cases hz
    refine tg1 ⟨rfl, (ev_lcN (r := rInt) ((List.range n).map fun j => if i = j then 1 else 0) (src_range (n := n) (ea1 (P1 := rInt (n : Int)) (ev_var rfl rfl)) (by omega)) (by simp) (by omega) fun j z G2 x hz g2 hx => ?_).imp fun G' v g ⟨h1, a, h2, h3⟩ => ⟨h1, fun b e => by rw [h2] at e; cases e; exact g0.free (g1.free h3)⟩⟩
    cases (show x = _ from hx)
    have hj : j < n := by
      have := (List.getElem?_eq_some_iff.mp hz).1
      simpa using this
    rw [List.getElem?_map, List.getElem?_range hj] at hz
    cases hz
    refine tg1 ⟨rfl, (ev_intB (c := decide ((i : Int) = (j : Int))) (ev_eqI (ev_var rfl rfl) (ev_var rfl rfl))).imp fun _ u _ e => ?_⟩
    rw [show u = _ from e]
    show V.int _ = V.int (if i = j then 1 else 0)
    congr 1
    by_cases h : i = j
    · subst h; simp
    · rw [if_neg h, if_neg (by simp; omega)]
/-- the tables that are drawn: whole numbers, at most 2 -/
def Sq2 (n : Nat) (t : List (List Int)) : Prop := SqX n t ∧ ∀ r ∈ t, ∀ z ∈ r, z.natAbs ≤ 2
def rDrawn (n m : Nat) : HP := fun G v => ∃ ls : List (List (List Int)), rLst rIT ls G v ∧ 1 ≤ ls.length ∧ ls.length ≤ m ∧ ∀ t ∈ ls, Sq2 n t
instance {n m : Nat} : Mono (rDrawn n m) := ⟨fun e ⟨ls, h, k⟩ => ⟨ls, Mono.mono e h, k⟩⟩
def aLL : List V → Addr → Hp → Hp → HP → Prop := fun vs p _ _ R => ∃ n m : Nat, vs = [.ref p, .int (n : Int), .int (m : Int)] ∧ 1 ≤ n ∧ n ≤ 10 ∧ 1 ≤ m ∧ m ≤ 10 ∧ R = rDrawn n m
theorem sc_law_letters : FnScope ["_law_pot_here", "_law_size", "_law_most", "_law_found", "_law_kind", "_law_turn", "_law_table", "_law_line", "_law_row", "_law_place", "_law_number"] ["_law_pot_here", "_law_size", "_law_most"] (defScope s_law_letters) := ⟨rfl, rfl, rfl, by decide +kernel, rfl, by decide +kernel, by decide +kernel⟩
theorem ok_law_letters (T : Txt K mg CR CH) (F : Fun K "_law_letters" "_law_letters" s_law_letters f fd) (C_law_draw : Cal P w K mg base "_law_draw" 1 ["_law_pot_here", "_law_many"] (spD aDraw)) (C_law_pick : Cal P w K mg base "_law_pick" 2 ["_law_pot_here", "_law_some"] (spD aPick)) : FnOk P w K mg base CX0 3 f fd ["_law_pot_here", "_law_size", "_law_most"] (spD aLL) := by
  refine F.ok sc_law_letters (fun vs H Q E h => ?_) (fun cdv A outer s H vs Q E hr h => ?_)
  · obtain ⟨G, R, p, _, _, _, ⟨n, m, rfl, _⟩, _⟩ := h
    rfl
  · obtain ⟨G, R, p, gh, gp, pt, ⟨n, m, rfl, n1, n10, m1, m10, rfl⟩, k⟩ := h
    refine ⟨_, (pss_cons (ps_par (i := 3) (j := 4) (by rfl) sc_law_letters.nd rfl rfl (by decide) rfl rfl (pa_cons (pe_lst pa_nil) (pa_cons (pe_cal C_law_draw (hr.mono (by decide)) (by rfl) (pa_cons (pv 0) (pa_cons pe_int pa_nil))) pa_nil)) (by rfl))
      (pss_cons (ps_for PassesOwn.never rfl (pi_range1 (by rfl) T.range (pa_cons (pe_op op_add pe_int (pe_cal C_law_draw (hr.mono (by decide)) (by rfl) (pa_cons (pv 0) (pa_cons (pv 2) pa_nil)))) pa_nil)) (pg_name (i := 5) sc_law_letters.nd rfl (by first | exact Or.inl rfl | exact Or.inr rfl)) (pss_cons (ps_set (i := 6) sc_law_letters.nd rfl (by first | exact Or.inl rfl | exact Or.inr rfl) (pe_lst pa_nil))
      (pss_cons (ps_for PassesOwn.never rfl (pi_range1 (by rfl) T.range (pa_cons (pv 1) pa_nil)) (pg_name (i := 7) sc_law_letters.nd rfl (by first | exact Or.inl rfl | exact Or.inr rfl)) (pss_cons (ps_set (i := 8) sc_law_letters.nd rfl (by first | exact Or.inl rfl | exact Or.inr rfl) (pe_lst pa_nil))
      (pss_cons (ps_for PassesOwn.never rfl (pi_range1 (by rfl) T.range (pa_cons (pv 1) pa_nil)) (pg_name (i := 9) sc_law_letters.nd rfl (by first | exact Or.inl rfl | exact Or.inr rfl)) (pss_cons (ps_set (i := 10) sc_law_letters.nd rfl (by first | exact Or.inl rfl | exact Or.inr rfl) (pe_cal C_law_pick (hr.mono (by decide)) (by rfl) (pa_cons (pv 0) (pa_cons (pe_lst (pa_cons pe_int (pa_cons pe_int (pa_cons (pe_un un_neg pe_int) (pa_cons pe_int (pa_cons pe_int (pa_cons pe_int (pa_cons (pe_un un_neg pe_int) pa_nil)))))))) pa_nil))))
      (pss_one (ps_expr (pe_bm PySem.F.plainAttrs_list PySem.F.slot_list_append PySem.F.type_list_append mt_append (pv 8) (pa_cons (pe_ifExp (PW.pt (pw_or (PW.pt (pw_and (pt_cmpR op_eq (pv 4) pe_int (nomark _)) (pw_and1 (pt_cmpR op_lt (pv 9) (pv 7) (nomark _))))) (pw_or1 (PW.pt (pw_and (pt_cmpR op_eq (pv 4) pe_int (nomark _)) (pw_and1 (pt_cmpR op_ne (pv 9) (pv 7) (nomark _)))))))) pe_int (pv 10)) pa_nil))))))
      (pss_one (ps_expr (pe_bm PySem.F.plainAttrs_list PySem.F.slot_list_append PySem.F.type_list_append mt_append (pv 6) (pa_cons (pv 8) pa_nil)))))))
      (pss_one (ps_expr (pe_bm PySem.F.plainAttrs_list PySem.F.slot_list_append PySem.F.type_list_append mt_append (pv 3) (pa_cons (pv 6) pa_nil)))))))
      (pss_one (ps_ret (pv 3))))), ?_⟩
    have s0 : StD p G H G H := .refl gh gp pt
    refine qD_newP (r := rIT) (P := rNat (· < 4)) s0 (ev_draw (m := 4) rfl (fun _ _ => ev_int) (by decide) (by decide)) fun q z G1 H1 nq hq s1 g1 o1 ⟨kd, ez, _⟩ => ?_
    subst ez
    refine qD_range s1 (P := rNat fun x => 1 ≤ x ∧ x ≤ m) (evD_op (P1 := rInt 1) (P2 := rNat (· < m)) ev_int.toD (fun _ _ => ev_draw rfl (fun _ _ => ev_var rfl rfl) (by omega) (by omega)) fun G' H' x y Q _ gh e1 ⟨d, e2, hd⟩ kk => ⟨1, (d : Int), e1, e2, kk _ _ _ (.refl gh) ⟨1 + d, by show V.int _ = V.int _; rw [Int.natCast_add]; rfl, by omega, by omega⟩⟩) fun z G2 H2 s2 ⟨c, ez, c1, c2⟩ => ?_
    subst ez
    have st2 := s1.trans s2
    refine qD_for (G0 := G) (H0 := H) st2 (src_rangeC (n := c) (by omega)) (fun i G' H' σ' => ∃ o5 o6 o7 o8 o9 o10 ls, σ' = [some (.ref p), some (.int (n : Int)), some (.int (m : Int)), some (.ref q), some (.int (kd : Int)), o5, o6, o7, o8, o9, o10] ∧ Own rIT ls q G' H' ∧ ls.length = i ∧ ∀ t ∈ ls, Sq2 n t)
      (fun i G1 H1 G2 H2 σ s ⟨o5, o6, o7, o8, o9, o10, ls, e, o, h⟩ => ⟨o5, o6, o7, o8, o9, o10, ls, e, o.stepD nq s, h⟩) ⟨_, _, _, _, _, _, [], rfl, o1.stepD nq s2, rfl, fun t ht => by cases ht⟩ ?_ ?_
    · rintro i G3 H3 σ3 x hi s3 g3 ⟨o5, o6, o7, o8, o9, o10, ls, rfl, o, hl, hls⟩ hx N hN
      cases (show x = _ from hx)
      refine qD_new (r := rIR) s3 fun q2 H4 nq2 fq2 hq2 s4 s34 o4 => ?_
      have nqq2 : q ≠ q2 := o.ne fq2
      have o' := o.stepD nq s34
      refine qD_for (G0 := G) (H0 := H) s4 (src_range (n := n) (ea1 (P1 := rInt (n : Int)) (ev_var rfl rfl)) (by omega)) (fun j G' H' σ' => ∃ o7 o8 o9 o10 rows, σ' = [some (.ref p), some (.int (n : Int)), some (.int (m : Int)), some (.ref q), some (.int (kd : Int)), some (.int (i : Int)), some (.ref q2), o7, o8, o9, o10] ∧ Own rIT ls q G' H' ∧ Own rIR rows q2 G' H' ∧ rows.length = j ∧ ∀ r ∈ rows, r.length = n ∧ ∀ z ∈ r, z.natAbs ≤ 2)
        (fun i G1 H1 G2 H2 σ s ⟨o7, o8, o9, o10, rows, e, o, o2, h⟩ => ⟨o7, o8, o9, o10, rows, e, o.stepD nq s, o2.stepD nq2 s, h⟩) ⟨_, _, _, _, [], rfl, o', o4, rfl, fun t ht => by cases ht⟩ ?_ ?_
      · rintro j G5 H5 σ5 x hj s5 g5 ⟨o7, o8, o9, o10, rows, rfl, w1, w2, hrl, hrows⟩ hx N2 hN2
        cases (show x = _ from hx)
        refine qD_new (r := rInt) s5 fun q3 H6 nq3 fq3 hq3 s6 s56 o6' => ?_
        have n13 : q ≠ q3 := w1.ne fq3
        have n23 : q2 ≠ q3 := w2.ne fq3
        refine qD_for (G0 := G) (H0 := H) s6 (src_range (n := n) (ea1 (P1 := rInt (n : Int)) (ev_var rfl rfl)) (by omega)) (fun l G' H' σ' => ∃ o9 o10 zs, σ' = [some (.ref p), some (.int (n : Int)), some (.int (m : Int)), some (.ref q), some (.int (kd : Int)), some (.int (i : Int)), some (.ref q2), some (.int (j : Int)), some (.ref q3), o9, o10] ∧ Own rIT ls q G' H' ∧ Own rIR rows q2 G' H' ∧ Own rInt zs q3 G' H' ∧ zs.length = l ∧ ∀ z ∈ zs, z.natAbs ≤ 2)
          (fun i G1 H1 G2 H2 σ s ⟨o9, o10, zs, e, o, o2, o3, h⟩ => ⟨o9, o10, zs, e, o.stepD nq s, o2.stepD nq2 s, o3.stepD nq3 s, h⟩) ⟨_, _, [], rfl, w1.stepD nq s56, w2.stepD nq2 s56, o6', rfl, fun t ht => by cases ht⟩ ?_ ?_
        · rintro l G7 H7 σ7 x hll s7 g7 ⟨o9, o10, zs, rfl, v1, v2, v3, hzl, hzs⟩ hx N3 hN3
          cases (show x = _ from hx)
          refine qD_asg s7 (P := rZ (· ∈ [0, 1, -1, 2, 0, 1, -2])) (ev_pick rfl (fun _ _ => evl_lst (evl_cons ev_int fun _ _ => evl_cons ev_int fun _ _ => evl_cons (ev_negI ev_int) fun _ _ => evl_cons ev_int fun _ _ => evl_cons ev_int fun _ _ => evl_cons ev_int fun _ _ => evl_cons (ev_negI ev_int) fun _ _ => evl_nil) (by decide)) (by decide) (by decide)) fun z G8 H8 s8 ⟨y, ez, hy⟩ => ?_
          subst ez
          have hy2 : y.natAbs ≤ 2 := by
            simp at hy
            omega
          refine sD_grow (r := rInt) (P := rZ fun z => z.natAbs ≤ 2) (s7.trans s8) nq3 hq3 (v3.stepD nq3 s8) rfl (Ev.toD ?_) (by omega) fun v G9 H9 s9 ⟨z, ez, hz⟩ => ⟨z, ez, fun H10 s10 rest o10' => ?_⟩
          · refine ev_if (P := rZ fun z => z.natAbs ≤ 2) (et_or (b := decide ((kd : Int) = 0) && decide ((l : Int) < (j : Int))) (c := decide ((kd : Int) = 1) && !decide ((l : Int) = (j : Int))) (et_and (et_test (ev_eqI (ev_var rfl rfl) ev_int)) fun _ _ _ => et_test (ev_I0 (ev_var rfl rfl) (ev_var rfl rfl))) fun _ _ _ => et_and (et_test (ev_eqI (ev_var rfl rfl) ev_int)) fun _ _ _ => et_test (ev_neI (ev_var rfl rfl) (ev_var rfl rfl))) (fun _ _ _ => ev_int.imp fun _ _ _ e => ⟨0, e, by decide⟩) fun _ _ _ => ev_var rfl ⟨y, rfl, hy2⟩
          · refine hN3 _ G9 H10 s10 (s8.gg.trans rest.1) ⟨_, _, zs ++ [z], rfl, ((v1.stepD nq s8)).restD rest n13 nq, (v2.stepD nq2 s8).restD rest n23 nq2, o10', by rw [List.length_append, hzl]; rfl, fun z' hz' => ?_⟩
            rcases List.mem_append.mp hz' with h | h
            · exact hzs z' h
            · rw [List.mem_singleton.mp h]; exact hz
        · rintro G7 H7 σ7 s7 g7 ⟨o9, o10, zs, rfl, v1, v2, v3, hzl, hzs⟩
          obtain ⟨G8, s8, g8, hrow, same⟩ := v3.frzD s7 nq3 hq3
          have v1' : Own rIT ls q G8 H7 := v1.toG g8 (by rw [same q n13]; exact v1.1)
          have v2' : Own rIR rows q2 G8 H7 := v2.toG g8 (by rw [same q2 n23]; exact v2.1)
          refine sD_grow (r := rIR) (P := rIR zs) s8 nq2 hq2 v2' rfl (Ev.toD (ev_var rfl hrow)) (by omega) fun v G9 H9 s9 hz => ⟨zs, hz, fun H10 s10 rest o10' => ?_⟩
          refine hN2 _ G9 H10 s10 ((g7.trans g8).trans rest.1) ⟨_, _, _, _, rows ++ [zs], rfl, v1'.restD rest nqq2 nq, o10', by rw [List.length_append, hrl]; rfl, fun r hr => ?_⟩
          rcases List.mem_append.mp hr with h | h
          · exact hrows r h
          · rw [List.mem_singleton.mp h]; exact ⟨hzl, hzs⟩
      · rintro G5 H5 σ5 s5 g5 ⟨o7, o8, o9, o10, rows, rfl, w1, w2, hrl, hrows⟩
        obtain ⟨G6, s6, g6, htab, same⟩ := w2.frzD s5 nq2 hq2
        have w1' : Own rIT ls q G6 H5 := w1.toG g6 (by rw [same q nqq2]; exact w1.1)
        refine sD_grow (r := rIT) (P := rIT rows) s6 nq hq w1' rfl (Ev.toD (ev_var rfl htab)) (by omega) fun v G9 H9 s9 hz => ⟨rows, hz, fun H10 s10 rest o10' => ?_⟩
        refine hN _ G9 H10 s10 ((g5.trans g6).trans rest.1) ⟨_, _, _, _, _, _, ls ++ [rows], rfl, o10', by rw [List.length_append, hl]; rfl, fun t ht => ?_⟩
        rcases List.mem_append.mp ht with h | h
        · exact hls t h
        · rw [List.mem_singleton.mp h]; exact ⟨⟨hrl, fun r hr => (hrows r hr).1⟩, fun r hr => (hrows r hr).2⟩
    · rintro G3 H3 σ3 s3 g3 ⟨o5, o6, o7, o8, o9, o10, ls, rfl, o, hl, hls⟩
      obtain ⟨G4, s4, g4, hfound, _⟩ := o.frzD s3 nq hq
      exact ⟨_, rfl, k _ G4 H3 s4 ⟨ls, hfound, by omega, by omega, hls⟩⟩
def rWord (n m : Nat) : HP := fun G v => ∃ wd : List Nat, rWd wd G v ∧ wd.length ≤ n ∧ ∀ k ∈ wd, k < m
instance {n m : Nat} : Mono (rWord n m) := ⟨fun e ⟨wd, h, k⟩ => ⟨wd, Mono.mono e h, k⟩⟩
def aLW' : List V → Addr → Hp → Hp → HP → Prop := fun vs p _ _ R => ∃ m : Nat, vs = [.ref p, .int (m : Int)] ∧ 1 ≤ m ∧ m ≤ 10 ∧ R = rWord 5 m
theorem sc_law_word : FnScope ["_law_pot_here", "_law_many", "_law_found", "_law_turn"] ["_law_pot_here", "_law_many"] (defScope s_law_word) := ⟨rfl, rfl, rfl, by decide +kernel, rfl, by decide +kernel, by decide +kernel⟩
theorem ok_law_word (T : Txt K mg CR CH) (F : Fun K "_law_word" "_law_word" s_law_word f fd) (C_law_draw : Cal P w K mg base "_law_draw" 1 ["_law_pot_here", "_law_many"] (spD aDraw)) : FnOk P w K mg base CX0 2 f fd ["_law_pot_here", "_law_many"] (spD aLW') := by
  refine F.ok sc_law_word (fun vs H Q E h => ?_) (fun cdv A outer s H vs Q E hr h => ?_)
  · obtain ⟨G, R, p, _, _, _, ⟨m, rfl, _⟩, _⟩ := h
    rfl
  · obtain ⟨G, R, p, gh, gp, pt, ⟨m, rfl, m1, m10, rfl⟩, k⟩ := h
    refine ⟨_, (pss_cons (ps_set (i := 2) sc_law_word.nd rfl (by first | exact Or.inl rfl | exact Or.inr rfl) (pe_lst pa_nil))
      (pss_cons (ps_for PassesOwn.never rfl (pi_range1 (by rfl) T.range (pa_cons (pe_cal C_law_draw (hr.mono (by decide)) (by rfl) (pa_cons (pv 0) (pa_cons pe_int pa_nil))) pa_nil)) (pg_name (i := 3) sc_law_word.nd rfl (by first | exact Or.inl rfl | exact Or.inr rfl)) (pss_one (ps_expr (pe_bm PySem.F.plainAttrs_list PySem.F.slot_list_append PySem.F.type_list_append mt_append (pv 2) (pa_cons (pe_cal C_law_draw (hr.mono (by decide)) (by rfl) (pa_cons (pv 0) (pa_cons (pv 1) pa_nil))) pa_nil)))))
      (pss_one (ps_ret (pv 2))))), ?_⟩
    have s0 : StD p G H G H := .refl gh gp pt
    refine qD_new (r := fun (k : Nat) => rInt (k : Int)) s0 fun q H1 nq _ hq s1 _ o1 => ?_
    refine qD_range s1 (P := rNat (· < 6)) (ev_draw (m := 6) rfl (fun _ _ => ev_int) (by decide) (by decide)) fun z G2 H2 s2 ⟨c, ez, c2⟩ => ?_
    subst ez
    refine qD_for (G0 := G) (H0 := H) (s1.trans s2) (src_rangeC (n := c) (by omega)) (fun i G' H' σ' => ∃ o3 wd, σ' = [some (.ref p), some (.int (m : Int)), some (.ref q), o3] ∧ Own (fun (k : Nat) => rInt (k : Int)) wd q G' H' ∧ wd.length = i ∧ ∀ k ∈ wd, k < m)
      (fun i G1 H1 G2 H2 σ s ⟨o3, wd, e, o, h⟩ => ⟨o3, wd, e, o.stepD nq s, h⟩) ⟨_, [], rfl, o1.stepD nq s2, rfl, fun t ht => by cases ht⟩ ?_ ?_
    · rintro i G3 H3 σ3 x hi s3 g3 ⟨o3, wd, rfl, o, hl, hw⟩ hx N hN
      refine sD_grow (r := fun (k : Nat) => rInt (k : Int)) (P := rNat (· < m)) s3 nq hq o rfl (ev_draw rfl (fun _ _ => ev_var rfl rfl) (by omega) (by omega)) (by omega) fun v G9 H9 s9 ⟨d, ed, hd⟩ => ⟨d, ed, fun H10 s10 rest o10' => ?_⟩
      refine hN _ G9 H10 s10 rest.1 ⟨_, wd ++ [d], rfl, o10', by rw [List.length_append, hl]; rfl, fun t ht => ?_⟩
      rcases List.mem_append.mp ht with h | h
      · exact hw t h
      · rw [List.mem_singleton.mp h]; exact hd
    · rintro G3 H3 σ3 s3 g3 ⟨o3, wd, rfl, o, hl, hw⟩
      obtain ⟨G4, s4, g4, hfound, _⟩ := o.frzD s3 nq hq
      exact ⟨_, rfl, k _ G4 H3 s4 ⟨wd, hfound, by omega, hw⟩⟩
end
end K28
end
section
set_option Elab.async false
set_option linter.all false
set_option maxRecDepth 100000
set_option maxHeartbeats 4000000
set_option autoImplicit false
set_option exponentiation.threshold 20000
namespace K28
open PySem L2
section
variable {P : Program} {w : World} {K : PySem.W.Frag} {mg : Str → Option Value} {base : Heap} {CR CH : Addr} {f : Addr} {fd : FuncData}
theorem ixN_at {n j : Nat} (hj : j < n) : ixN n (j : Int) = some j := by
  unfold ixN
  rw [if_pos (by omega), if_pos (by omega)]
  simp
theorem refs_inj : ∀ {xs ys : List Addr}, xs.map V.ref = ys.map V.ref → xs = ys
  | [], [], _ => rfl
  | [], _ :: _, h => by cases h
  | _ :: _, [], h => by cases h
  | x :: xs, y :: ys, h => by
    rw [List.map_cons, List.map_cons] at h
    injection h with h1 h2
    cases h1
    rw [refs_inj h2]
theorem nodup_at {α : Type} {l : List α} : l.Nodup ↔ ∀ i j : Nat, i < j → j < l.length → l[i]? ≠ l[j]? := by
  unfold List.Nodup
  rw [List.pairwise_iff_getElem]
  constructor
  · intro h i j hij hj e
    rw [List.getElem?_eq_getElem hj, List.getElem?_eq_getElem (by omega)] at e
    exact h i j (by omega) hj hij (Option.some.inj e)
  · intro h i j hi hj hij e
    refine h i j hij hj ?_
    rw [List.getElem?_eq_getElem hj, List.getElem?_eq_getElem hi, e]
/-- a matrix of whole numbers whose rows may still be written -/
def rowV (n : Nat) (A : Nat → Nat → Int) (i : Nat) : List V := (List.range n).map fun j => V.int (A i j)
structure Mx (n : Nat) (A : Nat → Nat → Int) (a : Addr) (bs : List Addr) (H : Hp) : Prop where
  top : H a = some (.lst (bs.map V.ref))
  len : bs.length = n
  row : ∀ i b, bs[i]? = some b → H b = some (.lst (rowV n A i))
def put (A : Nat → Nat → Int) (i j : Nat) (z : Int) : Nat → Nat → Int := fun i' j' => if i' = i ∧ j' = j then z else A i' j'
theorem rowV_put {n : Nat} {A : Nat → Nat → Int} {i j : Nat} {z : Int} (hj : j < n) : (rowV n A i).set j (.int z) = rowV n (put A i j z) i := by
  unfold rowV
  refine List.ext_getElem? fun m => ?_
  rw [List.getElem?_set, List.getElem?_map, List.getElem?_map]
  by_cases h : j = m
  · subst h
    rw [if_pos rfl, if_pos (by simpa using hj), List.getElem?_range hj]
    show some (V.int z) = some (V.int (if i = i ∧ j = j then z else A i j))
    rw [if_pos ⟨rfl, rfl⟩]
  · rw [if_neg h]
    by_cases hm : m < n
    · rw [List.getElem?_range hm]
      show some (V.int (A i m)) = some (V.int (if i = i ∧ m = j then z else A i m))
      rw [if_neg fun q => h q.2.symm]
    · rw [List.getElem?_eq_none (by simp; omega)]; rfl
theorem rowV_ne {n : Nat} {A : Nat → Nat → Int} {i i' j : Nat} {z : Int} (h : i' ≠ i) : rowV n (put A i j z) i' = rowV n A i' := by
  unfold rowV put
  refine List.map_congr_left fun m _ => ?_
  rw [if_neg fun q => h q.1]
theorem Mx.put {n : Nat} {A : Nat → Nat → Int} {a b : Addr} {bs : List Addr} {H : Hp} {i j : Nat} {z : Int} (m : Mx n A a bs H) (nd : (a :: bs).Nodup) (hb : bs[i]? = some b) (hj : j < n) : Mx n (put A i j z) a bs (upd H b (.lst ((rowV n A i).set j (.int z)))) := by
  have hmem := List.mem_of_getElem? hb
  obtain ⟨n1, n2⟩ := List.nodup_cons.mp nd
  refine ⟨by rw [upd_ne fun e => n1 (by rw [e]; exact hmem)]; exact m.top, m.len, fun i' b' h' => ?_⟩
  by_cases e : b' = b
  · subst e
    have ei : i' = i := by
      have x1 := (List.getElem?_eq_some_iff.mp h').1
      have x2 := (List.getElem?_eq_some_iff.mp hb).1
      rw [nodup_at] at n2
      rcases Nat.lt_trichotomy i' i with q | q | q
      · exact absurd (h'.trans hb.symm) (n2 i' i q x2)
      · exact q
      · exact absurd (hb.trans h'.symm) (n2 i i' q x1)
    subst ei
    rw [upd_same, rowV_put hj]
  · rw [upd_ne e]
    have ei : i' ≠ i := fun q => by subst q; rw [hb] at h'; exact e (Option.some.inj h').symm
    rw [rowV_ne ei]
    exact m.row i' b' h'
theorem Mx.other {n : Nat} {A : Nat → Nat → Int} {a b : Addr} {bs : List Addr} {H : Hp} {o : HO} (m : Mx n A a bs H) (nd : b ∉ a :: bs) : Mx n A a bs (upd H b o) := by
  refine ⟨by rw [upd_ne fun e => nd (by rw [← e]; exact List.mem_cons_self ..)]; exact m.top, m.len, fun i' b' h' => ?_⟩
  rw [upd_ne fun e => nd (by rw [← e]; exact List.mem_cons_of_mem _ (List.mem_of_getElem? h'))]
  exact m.row i' b' h'
theorem Mx.step {n : Nat} {A : Nat → Nat → Int} {a p : Addr} {bs : List Addr} {G H G' H' : Hp} (m : Mx n A a bs H) (s : StD p G H G' H') (np : ∀ q ∈ a :: bs, q ≠ p) : Mx n A a bs H' :=
  ⟨s.hh _ _ (np a (List.mem_cons_self ..)) m.top, m.len, fun i b h => s.hh _ _ (np b (List.mem_cons_of_mem _ (List.mem_of_getElem? h))) (m.row i b h)⟩
def matI (n : Nat) (A : Nat → Nat → Int) : List (List Int) := (List.range n).map fun i => (List.range n).map fun j => A i j
theorem sq_mat (n : Nat) (A : Nat → Nat → Int) : SqX n (matI n A) := ⟨by unfold matI; simp, fun r hr => by
  unfold matI at hr
  obtain ⟨i, hi, rfl⟩ := List.mem_map.mp hr
  simp⟩
theorem Mx.rep {n : Nat} {A : Nat → Nat → Int} {a : Addr} {bs : List Addr} {H : Hp} (m : Mx n A a bs H) : rIT (matI n A) H (.ref a) := by
  refine ⟨a, _, rfl, m.top, ?_⟩
  have key : ∀ (k : Nat) (cs : List Addr), cs.length = k → (∀ i b, cs[i]? = some b → H b = some (.lst (rowV n A (n - k + i)))) → k ≤ n → Paired (fun x u => rIR x H u) ((List.range' (n - k) k).map fun i => (List.range n).map fun j => A i j) (cs.map V.ref) := by
    intro k
    induction k with
    | zero => intro cs hl _ _; rw [List.eq_nil_of_length_eq_zero hl]; exact .nil
    | succ k ih =>
      intro cs hl hrow hk
      cases cs with
      | nil => cases hl
      | cons c cs =>
        rw [List.range'_succ]
        refine .cons ⟨c, _, rfl, hrow 0 c rfl, ?_⟩ ?_
        · have e : rowV n A (n - (k + 1) + 0) = ((List.range n).map fun j => A (n - (k + 1)) j).map V.int := by
            unfold rowV; rw [List.map_map]; rfl
          rw [e]
          exact ints_paired H _
        · have := ih cs (by simpa using hl) (fun i b h => by
            have := hrow (i + 1) b h
            rw [show n - (k + 1) + (i + 1) = n - k + i by omega] at this
            exact this) (by omega)
          rw [show n - (k + 1) + 1 = n - k by omega]
          exact this
  have := key n bs m.len (fun i b h => by rw [show n - n + i = i by omega]; exact m.row i b h) (Nat.le_refl _)
  rw [Nat.sub_self, ← List.range_eq_range'] at this
  exact this
/-- what _law_idle gives is such a matrix -/
def idA : Nat → Nat → Int := fun i j => if i = j then 1 else 0
theorem pair_refs {G0 G : Hp} : ∀ {rows : List (List Int)} {us : List V}, Paired (fun x u => rFr G0 x G u) rows us → ∃ bs : List Addr, us = bs.map V.ref ∧ (∀ b ∈ bs, G0 b = none) ∧ ∀ (i : Nat) (b : Addr), bs[i]? = some b → ∃ row : List Int, rows[i]? = some row ∧ G b = some (.lst (row.map V.int))
  | _, _, .nil => ⟨[], rfl, fun b hb => (by cases hb), fun i b h => (by simp at h)⟩
  | _, _, .cons q t => by
    obtain ⟨bs, e, h1, h2⟩ := pair_refs t
    obtain ⟨⟨c, ws, e1, e2, e3⟩, hf⟩ := q
    refine ⟨c :: bs, by rw [e1, e]; rfl, fun b hb => ?_, fun i b h => ?_⟩
    · rcases List.mem_cons.mp hb with rfl | hb
      · exact hf _ e1
      · exact h1 b hb
    · cases i with
      | zero => cases h; exact ⟨_, rfl, by rw [e2, paired_ints e3]⟩
      | succ i => exact h2 i b h
theorem rFM_mx {G0 G H : Hp} {n : Nat} {v : V} (h : rFM G0 n G v) (gh : Same G H) (n1 : 1 ≤ n) : ∃ a bs, v = .ref a ∧ Mx n idA a bs H ∧ (a :: bs).Nodup ∧ (∀ q ∈ a :: bs, G0 q = none) ∧ ∀ q ∈ a :: bs, ∃ o, G q = some o := by
  obtain ⟨⟨a, us, e1, e2, e3⟩, a', e1', ha⟩ := h
  rw [e1] at e1'
  cases e1'
  obtain ⟨bs, rfl, hb, hrow⟩ := pair_refs e3
  have hl : bs.length = n := by
    have := paired_len e3
    rw [List.length_map] at this
    rw [this]; unfold lidle; simp
  have hrow' : ∀ i b, bs[i]? = some b → G b = some (.lst (rowV n idA i)) := fun i b h => by
    obtain ⟨row, h1, h2⟩ := hrow i b h
    have hi : i < n := by rw [← hl]; exact (List.getElem?_eq_some_iff.mp h).1
    unfold lidle at h1
    rw [List.getElem?_map, List.getElem?_range hi] at h1
    cases h1
    rw [h2]
    unfold rowV idA
    rw [List.map_map]
    rfl
  refine ⟨a, bs, e1, ⟨gh _ _ e2, hl, fun i b h => gh _ _ (hrow' i b h)⟩, List.nodup_cons.mpr ⟨fun hm => ?_, ?_⟩, fun q hq => ?_, fun q hq => ?_⟩
  · obtain ⟨i, hi, he⟩ := List.mem_iff_getElem.mp hm
    have := hrow' i a (by rw [List.getElem?_eq_getElem hi, he])
    rw [e2] at this
    have e0 := Option.some.inj this
    injection e0 with e0
    have := congrArg (fun l => l[0]?) e0
    unfold rowV at this
    simp only [List.getElem?_map] at this
    rw [List.getElem?_range (by omega), List.getElem?_eq_getElem (by omega)] at this
    cases this
  · rw [nodup_at]
    intro i j hij hj he
    have hj' : j < n := by omega
    have h1 := hrow' i bs[i] (by rw [List.getElem?_eq_getElem (by omega)])
    have h2 := hrow' j bs[i] (by rw [← he, List.getElem?_eq_getElem (by omega)])
    rw [h1] at h2
    have e0 := Option.some.inj h2
    injection e0 with e0
    have := congrArg (fun l => l[j]?) e0
    unfold rowV at this
    simp only [List.getElem?_map] at this
    rw [List.getElem?_range hj'] at this
    have := Option.some.inj this
    injection this with this
    unfold idA at this
    rw [if_neg (by omega), if_pos rfl] at this
    cases this
  · rcases List.mem_cons.mp hq with rfl | hq
    · exact ha
    · exact hb q hq
  · rcases List.mem_cons.mp hq with rfl | hq
    · exact ⟨_, e2⟩
    · obtain ⟨i, hi, he⟩ := List.mem_iff_getElem.mp hq
      exact ⟨_, hrow' i q (by rw [List.getElem?_eq_getElem hi, he])⟩
/-- the upper, the lower table of a lead -/
structure ShU (n : Nat) (A : Nat → Nat → Int) : Prop where
  lo : ∀ i j, j < i → A i j = 0
  up : ∀ i j, i < j → (A i j).natAbs ≤ 1
  di : ∀ i, A i i = 1 ∨ A i i = -1 ∨ A i i = 2
structure ShL (n : Nat) (A : Nat → Nat → Int) : Prop where
  up : ∀ i j, i < j → A i j = 0
  lo : ∀ i j, j < i → (A i j).natAbs ≤ 1
  di : ∀ i, A i i = 1
theorem shU_id (n : Nat) : ShU n idA := ⟨fun i j h => by unfold idA; rw [if_neg (by omega)], fun i j h => by unfold idA; rw [if_neg (by omega)]; decide, fun i => by unfold idA; rw [if_pos rfl]; exact .inl rfl⟩
theorem shL_id (n : Nat) : ShL n idA := ⟨fun i j h => by unfold idA; rw [if_neg (by omega)], fun i j h => by unfold idA; rw [if_neg (by omega)]; decide, fun i => by unfold idA; rw [if_pos rfl]⟩
theorem ShU.put1 {n : Nat} {A : Nat → Nat → Int} {i j : Nat} {z : Int} (h : ShU n A) (hij : i < j) (hz : z.natAbs ≤ 1) : ShU n (put A i j z) := by
  refine ⟨fun a b hab => ?_, fun a b hab => ?_, fun a => ?_⟩ <;> unfold put
  · rw [if_neg (by omega)]; exact h.lo a b hab
  · split
    · exact hz
    · exact h.up a b hab
  · rw [if_neg (by omega)]; exact h.di a
theorem ShU.put2 {n : Nat} {A : Nat → Nat → Int} {i : Nat} {z : Int} (h : ShU n A) (hz : z = 1 ∨ z = -1 ∨ z = 2) : ShU n (put A i i z) := by
  refine ⟨fun a b hab => ?_, fun a b hab => ?_, fun a => ?_⟩ <;> unfold put
  · rw [if_neg (by omega)]; exact h.lo a b hab
  · rw [if_neg (by omega)]; exact h.up a b hab
  · split
    · exact hz
    · exact h.di a
theorem ShL.put1 {n : Nat} {A : Nat → Nat → Int} {i j : Nat} {z : Int} (h : ShL n A) (hij : j < i) (hz : z.natAbs ≤ 1) : ShL n (put A i j z) := by
  refine ⟨fun a b hab => ?_, fun a b hab => ?_, fun a => ?_⟩ <;> unfold put
  · rw [if_neg (by omega)]; exact h.up a b hab
  · split
    · exact hz
    · exact h.lo a b hab
  · rw [if_neg (by omega)]; exact h.di a
theorem ShU.lt {n : Nat} {A : Nat → Nat → Int} (h : ShU n A) : ∀ r ∈ matI n A, Lt 20 r := fun r hr z hz => by
  unfold matI at hr
  obtain ⟨i, _, rfl⟩ := List.mem_map.mp hr
  obtain ⟨j, _, rfl⟩ := List.mem_map.mp hz
  have : (A i j).natAbs ≤ 2 := by
    rcases Nat.lt_trichotomy i j with q | q | q
    · have := h.up i j q; omega
    · subst q; rcases h.di i with e | e | e <;> rw [e] <;> decide
    · rw [h.lo i j q]; decide
  exact Nat.lt_of_le_of_lt this (by decide)
theorem ShL.lt {n : Nat} {A : Nat → Nat → Int} (h : ShL n A) : ∀ r ∈ matI n A, Lt 20 r := fun r hr z hz => by
  unfold matI at hr
  obtain ⟨i, _, rfl⟩ := List.mem_map.mp hr
  obtain ⟨j, _, rfl⟩ := List.mem_map.mp hz
  have : (A i j).natAbs ≤ 2 := by
    rcases Nat.lt_trichotomy i j with q | q | q
    · rw [h.up i j q]; decide
    · subst q; rw [h.di i]; decide
    · have := h.lo i j q; omega
  exact Nat.lt_of_le_of_lt this (by decide)
def leadI (n : Nat) (A B : Nat → Nat → Int) : List (List Int) := ltimes (matI n A) (matI n B)
def rLead (n : Nat) : HP := fun G v => ∃ A B, ShU n A ∧ ShL n B ∧ rIT (leadI n A B) G v
instance {n : Nat} : Mono (rLead n) := ⟨fun e ⟨A, B, h1, h2, h⟩ => ⟨A, B, h1, h2, Mono.mono e h⟩⟩
theorem s_put {te : TE} {p : Addr} {G0 H0 G H : Hp} {σ : St} {D : Ends} {s l m n i j : Nat} {A : Nat → Nat → Int} {a b : Addr} {bs : List Addr} {P : HP} (st : StD p G0 H0 G H) (h : EvD p te σ G P) (ea : σ[s]? = some (some (.ref a))) (el : σ[l]? = some (some (.int (i : Int)))) (em : σ[m]? = some (some (.int (j : Int)))) (hj : j < n) (hb : bs[i]? = some b)
    (mx : Mx n A a bs H) (nd : (a :: bs).Nodup) (np : ∀ q ∈ a :: bs, q ≠ p ∧ H0 q = none ∧ G q = none)
    (k : ∀ v G' H1, StD p G H G' H1 → P G' v → ∃ z, v = .int z ∧ ∀ H', StD p G0 H0 G' H' → Mx n (put A i j z) a bs H' → (∀ n' A' a' bs', Mx n' A' a' bs' H → (∀ q ∈ a' :: bs', q ≠ p) → b ∉ a' :: bs' → Mx n' A' a' bs' H') → D.nx σ H') : tAsg te (gSub (tOp (rIxL K) (tVar s) (tVar l)) (tVar m) rSetL) D σ H := by
  refine h H st.gh st.gp st.pt _ fun v G1 H1 s1 p1 => ?_
  have m1 := mx.step s1 fun q hq => (np q hq).1
  obtain ⟨z, rfl, kz⟩ := k v G1 H1 s1 p1
  have hbm : b ∈ a :: bs := List.mem_cons_of_mem _ (List.mem_of_getElem? hb)
  have hrow := m1.row i b hb
  refine ⟨_, ea, _, el, a, _, (i : Int), .ref b, rfl, rfl, .inl (.inl m1.top), atI_nat (by rw [List.getElem?_map, hb]; rfl), _, em, b, _, (j : Int), j, rfl, rfl, hrow, ixN_at (by unfold rowV; simpa using hj), ?_⟩
  obtain ⟨q1, q2, q3⟩ := np b hbm
  refine kz _ ((st.trans s1).wr q1 q2 (s1.keep q1 q3 (mx.row i b hb)).1) (m1.put nd hb hj) fun n' A' a' bs' m' np' nb => ?_
  exact (m'.step s1 np').other nb
structure LdS (n : Nat) (a a' : Addr) (bs bs' : List Addr) (A B : Nat → Nat → Int) (G H : Hp) : Prop where
  hU : ShU n A
  hL : ShL n B
  x1 : Mx n A a bs H
  x2 : Mx n B a' bs' H
  y1 : ∀ q ∈ a :: bs, G q = none
  y2 : ∀ q ∈ a' :: bs', G q = none
theorem Mx.at {n : Nat} {A : Nat → Nat → Int} {a : Addr} {bs : List Addr} {H : Hp} (m : Mx n A a bs H) {q : Addr} (hq : q ∈ a :: bs) : ∃ o, H q = some o := by
  rcases List.mem_cons.mp hq with rfl | hq
  · exact ⟨_, m.top⟩
  · obtain ⟨i, hi, he⟩ := List.mem_iff_getElem.mp hq
    exact ⟨_, m.row i q (by rw [List.getElem?_eq_getElem hi, he])⟩
theorem LdS.step {n : Nat} {a a' p : Addr} {bs bs' : List Addr} {A B : Nat → Nat → Int} {G H G' H' : Hp} (h : LdS n a a' bs bs' A B G H) (s : StD p G H G' H') (n1 : ∀ q ∈ a :: bs, q ≠ p) (n2 : ∀ q ∈ a' :: bs', q ≠ p) : LdS n a a' bs bs' A B G' H' :=
  ⟨h.hU, h.hL, h.x1.step s n1, h.x2.step s n2, fun q hq => by
    obtain ⟨o, ho⟩ := h.x1.at hq
    exact (s.keep (n1 q hq) (h.y1 q hq) ho).1, fun q hq => by
    obtain ⟨o, ho⟩ := h.x2.at hq
    exact (s.keep (n2 q hq) (h.y2 q hq) ho).1⟩
theorem sc_law_lead : FnScope ["_law_pot_here", "_law_size", "_law_above", "_law_below", "_law_line", "_law_place"] ["_law_pot_here", "_law_size"] (defScope s_law_lead) := ⟨rfl, rfl, rfl, by decide +kernel, rfl, by decide +kernel, by decide +kernel⟩
theorem ok_law_lead (T : Txt K mg CR CH) (F : Fun K "_law_lead" "_law_lead" s_law_lead f fd) (C_law_idle : Cal P w K mg base "_law_idle" 1 ["_law_size"] (spP aLI)) (C_law_draw : Cal P w K mg base "_law_draw" 1 ["_law_pot_here", "_law_many"] (spD aDraw)) (C_law_pick : Cal P w K mg base "_law_pick" 2 ["_law_pot_here", "_law_some"] (spD aPick)) (C_law_times : Cal P w K mg base "_law_times" 1 ["_law_one", "_law_other"] (spP aLT)) : FnOk P w K mg base CX0 3 f fd ["_law_pot_here", "_law_size"] (spD fun vs p _ _ R => ∃ n : Nat, vs = [.ref p, .int (n : Int)] ∧ 1 ≤ n ∧ n ≤ 10 ∧ R = rLead n) := by
  refine F.ok sc_law_lead (fun vs H Q E h => ?_) (fun cdv A outer s H vs Q E hr h => ?_)
  · obtain ⟨G, R, p, _, _, _, ⟨n, rfl, _⟩, _⟩ := h
    rfl
  · obtain ⟨G, R, p, gh, gp, pt, ⟨n, rfl, n1, n10, rfl⟩, k⟩ := h
    refine ⟨_, (pss_cons (ps_par (i := 2) (j := 3) (by rfl) sc_law_lead.nd rfl rfl (by decide) rfl rfl (pa_cons (pe_cal C_law_idle (hr.mono (by decide)) (by rfl) (pa_cons (pv 1) pa_nil)) (pa_cons (pe_cal C_law_idle (hr.mono (by decide)) (by rfl) (pa_cons (pv 1) pa_nil)) pa_nil)) (by rfl))
      (pss_cons (ps_for PassesOwn.never rfl (pi_range1 (by rfl) T.range (pa_cons (pv 1) pa_nil)) (pg_name (i := 4) sc_law_lead.nd rfl (by first | exact Or.inl rfl | exact Or.inr rfl)) (pss_cons (ps_for PassesOwn.never rfl (pi_range1 (by rfl) T.range (pa_cons (pv 1) pa_nil)) (pg_name (i := 5) sc_law_lead.nd rfl (by first | exact Or.inl rfl | exact Or.inr rfl)) (pss_cons (ps_if (pt_cmpR op_gt (pv 5) (pv 4) (nomark _)) (pss_one (ps_asg (pe_op op_sub (pe_cal C_law_draw (hr.mono (by decide)) (by rfl) (pa_cons (pv 0) (pa_cons pe_int pa_nil))) pe_int) (pg_sub (pe_ix (ix_listK K) (pv 2) (pv 4) (fun _ _ => rfl)) (pv 5) set_list))) pss_nil)
      (pss_one (ps_if (pt_cmpR op_lt (pv 5) (pv 4) (nomark _)) (pss_one (ps_asg (pe_op op_sub (pe_cal C_law_draw (hr.mono (by decide)) (by rfl) (pa_cons (pv 0) (pa_cons pe_int pa_nil))) pe_int) (pg_sub (pe_ix (ix_listK K) (pv 3) (pv 4) (fun _ _ => rfl)) (pv 5) set_list))) pss_nil))))
      (pss_one (ps_asg (pe_cal C_law_pick (hr.mono (by decide)) (by rfl) (pa_cons (pv 0) (pa_cons (pe_lst (pa_cons pe_int (pa_cons (pe_un un_neg pe_int) (pa_cons pe_int pa_nil)))) pa_nil))) (pg_sub (pe_ix (ix_listK K) (pv 2) (pv 4) (fun _ _ => rfl)) (pv 4) set_list)))))
      (pss_one (ps_ret (pe_cal C_law_times (hr.mono (by decide)) (by rfl) (pa_cons (pv 2) (pa_cons (pv 3) pa_nil))))))), ?_⟩
    have s0 : StD p G H G H := .refl gh gp pt
    have idl : ∀ {σ : St} {G0 : Hp}, σ[1]? = some (some (.int (n : Int))) → Ev (tCall (spP aLI) [] E0 (tCons (tVar 1) tNil)) σ G0 (rFM G0 n) := fun {σ G0} e => ev_call (ea1 (P1 := rInt (n : Int)) (ev_var e rfl)) fun G' H' vs g _ ⟨u, e, e1⟩ => ⟨n, G0, by rw [e, show u = _ from e1], by omega, g, rfl⟩
    refine q_parDep gh (idl rfl) (fun G1 g1 => idl rfl) fun u u' G1 H1 G2 H2 s1 e1 s2 e2 => ?_
    have s12 := s1.trans s2
    obtain ⟨a, bs, rfl, m1, nd1, f1, k1⟩ := rFM_mx (Mono.mono s2.gg e1) s2.gh n1
    obtain ⟨a', bs', rfl, m2, nd2, f2, k2⟩ := rFM_mx e2 s2.gh n1
    have k1' : ∀ q ∈ a :: bs, ∃ o, G1 q = some o := by
      obtain ⟨a0, bs0, e0, m0, _, _, k0⟩ := rFM_mx e1 s1.gh n1
      cases e0
      have : bs0.map V.ref = bs.map V.ref := by
        have := s2.hh _ _ m0.top
        rw [m1.top] at this
        exact (HO.lst.inj (Option.some.inj this)).symm
      have eb : bs0 = bs := refs_inj this
      rw [← eb]; exact k0
    have dis : ∀ q ∈ a :: bs, q ∉ a' :: bs' := fun q hq hq' => by
      obtain ⟨o, ho⟩ := k1' q hq
      rw [f2 q hq'] at ho; cases ho
    have h01 : ∀ q ∈ a :: bs, H q = none := fun q hq => by
      obtain ⟨o, ho⟩ := k1 q hq
      exact s12.fr q o (f1 q hq) ho
    have g02 : ∀ q ∈ a' :: bs', G q = none := fun q hq => by
      cases z : G q with
      | none => rfl
      | some o => have := s1.gg _ _ z; rw [f2 q hq] at this; cases this
    have h02 : ∀ q ∈ a' :: bs', H q = none := fun q hq => by
      obtain ⟨o, ho⟩ := k2 q hq
      exact s12.fr q o (g02 q hq) ho
    have st : StD p G H G H2 := (show Stp G H G H2 from ⟨.refl _, s12.gg.trans s12.gh, s12.hh, fun a o e e' => by rw [e] at e'; cases e'⟩).toD gp pt
    have np1 : ∀ q ∈ a :: bs, q ≠ p ∧ H q = none := fun q hq => ⟨pt.ne (h01 q hq), h01 q hq⟩
    have np2 : ∀ q ∈ a' :: bs', q ≠ p ∧ H q = none := fun q hq => ⟨pt.ne (h02 q hq), h02 q hq⟩
    have nq1 : ∀ q ∈ a :: bs, q ≠ p := fun q hq => (np1 q hq).1
    have nq2 : ∀ q ∈ a' :: bs', q ≠ p := fun q hq => (np2 q hq).1
    have bsl := m1.len
    have bsl' := m2.len
    have at1 : ∀ i, i < n → ∃ b, bs[i]? = some b := fun i hi => ⟨_, List.getElem?_eq_getElem (by omega)⟩
    have at2 : ∀ i, i < n → ∃ b, bs'[i]? = some b := fun i hi => ⟨_, List.getElem?_eq_getElem (by omega)⟩
    have df3 : ∀ {σ : St} {G' : Hp}, σ[0]? = some (some (.ref p)) → EvD p (tOp (rI0 fun i j => .int (i - j)) (tCall (spD aDraw) [] E0 (tCons (tVar 0) (tCons (tC (.int 3)) tNil))) (tC (.int 1))) σ G' (rZ fun z => z.natAbs ≤ 1) := fun e =>
      evD_op (P1 := rNat (· < 3)) (P2 := rInt 1) (ev_draw (m := 3) e (fun _ _ => ev_int) (by decide) (by decide)) (fun _ _ => ev_int.toD) fun G' H' x y Q _ gh ⟨d, e1, hd⟩ e2 kk => ⟨(d : Int), 1, e1, e2, kk _ _ _ (.refl gh) ⟨_, rfl, by omega⟩⟩
    refine qD_for (G0 := G) (H0 := H) st (src_range (n := n) (ea1 (P1 := rInt (n : Int)) (ev_var rfl rfl)) (by omega)) (fun i G' H' σ' => ∃ o4 o5 A B, σ' = [some (.ref p), some (.int (n : Int)), some (.ref a), some (.ref a'), o4, o5] ∧ LdS n a a' bs bs' A B G' H')
      (fun i G1 H1 G2 H2 σ s ⟨o4, o5, A, B, e, ls⟩ => ⟨o4, o5, A, B, e, ls.step s nq1 nq2⟩) ⟨_, _, idA, idA, rfl, ⟨shU_id n, shL_id n, m1, m2, f1, g02⟩⟩ ?_ ?_
    · rintro i G3 H3 σ3 x hi s3 g3 ⟨o4, o5, A, B, rfl, ls⟩ hx N hN
      cases (show x = _ from hx)
      refine qD_for (G0 := G) (H0 := H) s3 (src_range (n := n) (ea1 (P1 := rInt (n : Int)) (ev_var rfl rfl)) (by omega)) (fun j G' H' σ' => ∃ o5 A B, σ' = [some (.ref p), some (.int (n : Int)), some (.ref a), some (.ref a'), some (.int (i : Int)), o5] ∧ LdS n a a' bs bs' A B G' H')
        (fun i G1 H1 G2 H2 σ s ⟨o5, A, B, e, ls⟩ => ⟨o5, A, B, e, ls.step s nq1 nq2⟩) ⟨_, A, B, rfl, ls⟩ ?_ ?_
      · rintro j G4 H4 σ4 x hj s4 g4 ⟨o5, A, B, rfl, ls⟩ hx N2 hN2
        cases (show x = _ from hx)
        refine q_if1 s4.gh (et_test (ev_I0 (i := (j : Int)) (j := (i : Int)) (ev_var rfl rfl) (ev_var rfl rfl))) (fun hb G5 H5 s5 => ?_) fun hb G5 H5 s5 => ?_
        · have hij : i < j := by have := of_decide_eq_true hb; omega
          have d5 := s5.toD s4.gp s4.pt
          have ls5 := ls.step d5 nq1 nq2
          obtain ⟨b, hb'⟩ := at1 i hi
          refine s_put (s4.trans d5) (df3 rfl) rfl rfl rfl hj hb' ls5.x1 nd1 (fun q hq => ⟨(np1 q hq).1, (np1 q hq).2, ls5.y1 q hq⟩) fun v G6 H6 s6 ⟨z, ez, hz⟩ => ⟨z, ez, fun H7 s7 mx7 rest => ?_⟩
          have x2' := rest n B a' bs' ls5.x2 nq2 (dis b (List.mem_cons_of_mem _ (List.mem_of_getElem? hb')))
          have ls6 := ls5.step s6 nq1 nq2
          have ls7 : LdS n a a' bs bs' (put A i j z) B G6 H7 := ⟨ls5.hU.put1 hij hz, ls5.hL, mx7, x2', ls6.y1, ls6.y2⟩
          refine s_if (b := false) s7.gh (et_test ((ev_I0 (i := (j : Int)) (j := (i : Int)) (ev_var rfl rfl) (ev_var rfl rfl)).imp fun _ u _ e => ?_)) (fun e => nomatch e) fun _ G8 H8 s8 => ?_
          · rw [show u = _ from e]; exact congrArg V.bl (decide_eq_false (by omega))
          · have d8 := s8.toD s7.gp s7.pt
            exact hN2 _ G8 H8 (s7.trans d8) ((s5.gg.trans s6.gg).trans s8.gg) ⟨_, _, B, rfl, ls7.step d8 nq1 nq2⟩
        · have hij : ¬ i < j := by have := of_decide_eq_false hb; omega
          have d5 := s5.toD s4.gp s4.pt
          have ls5 := ls.step d5 nq1 nq2
          refine s_if (b := decide ((j : Int) < (i : Int))) s5.gh (et_test (ev_I0 (i := (j : Int)) (j := (i : Int)) (ev_var rfl rfl) (ev_var rfl rfl))) (fun hb G6 H6 s6 => ?_) fun hb G6 H6 s6 => ?_
          · have hji : j < i := by have := of_decide_eq_true hb; omega
            have d6 := s6.toD d5.gp d5.pt
            have ls6 := ls5.step d6 nq1 nq2
            obtain ⟨b, hb'⟩ := at2 i hi
            refine s_put ((s4.trans d5).trans d6) (df3 rfl) rfl rfl rfl hj hb' ls6.x2 nd2 (fun q hq => ⟨(np2 q hq).1, (np2 q hq).2, ls6.y2 q hq⟩) fun v G7 H7 s7 ⟨z, ez, hz⟩ => ⟨z, ez, fun H8 s8 mx8 rest => ?_⟩
            have x1' := rest n A a bs ls6.x1 nq1 (fun h => dis b h (List.mem_cons_of_mem _ (List.mem_of_getElem? hb')))
            have ls7 := ls6.step s7 nq1 nq2
            exact hN2 _ G7 H8 s8 ((s5.gg.trans s6.gg).trans s7.gg) ⟨_, A, put B i j z, rfl, ⟨ls6.hU, ls6.hL.put1 hji hz, x1', mx8, ls7.y1, ls7.y2⟩⟩
          · have d6 := s6.toD d5.gp d5.pt
            exact hN2 _ G6 H6 ((s4.trans d5).trans d6) (s5.gg.trans s6.gg) ⟨_, A, B, rfl, ls5.step d6 nq1 nq2⟩
      · rintro G4 H4 σ4 s4 g4 ⟨o5, A, B, rfl, ls⟩
        obtain ⟨b, hb'⟩ := at1 i hi
        refine s_put (P := rZ (· ∈ [1, -1, 2])) s4 (ev_pick rfl (fun _ _ => evl_lst (evl_cons ev_int fun _ _ => evl_cons (ev_negI ev_int) fun _ _ => evl_cons ev_int fun _ _ => evl_nil) (by decide)) (by decide) (by decide)) rfl rfl rfl hi hb' ls.x1 nd1 (fun q hq => ⟨(np1 q hq).1, (np1 q hq).2, ls.y1 q hq⟩) fun v G6 H6 s6 ⟨z, ez, hz⟩ => ⟨z, ez, fun H7 s7 mx7 rest => ?_⟩
        have x2' := rest n B a' bs' ls.x2 nq2 (dis b (List.mem_cons_of_mem _ (List.mem_of_getElem? hb')))
        have ls6 := ls.step s6 nq1 nq2
        exact hN _ G6 H7 s7 (g4.trans s6.gg) ⟨_, _, put A i i z, B, rfl, ⟨ls.hU.put2 (by simp at hz; omega), ls.hL, mx7, x2', ls6.y1, ls6.y2⟩⟩
    · rintro G3 H3 σ3 s3 g3 ⟨o4, o5, A, B, rfl, ls⟩
      obtain ⟨d4, g4⟩ := s3.frzL ((a :: bs) ++ (a' :: bs')) fun q hq => by
        rcases List.mem_append.mp hq with h | h
        · exact ⟨(np1 q h).1, (np1 q h).2, ls.y1 q h⟩
        · exact ⟨(np2 q h).1, (np2 q h).2, ls.y2 q h⟩
      have look : ∀ q ∈ (a :: bs) ++ (a' :: bs'), (fun b => if b ∈ (a :: bs) ++ (a' :: bs') then H3 b else G3 b) q = H3 q := fun q hq => if_pos hq
      generalize (fun b => if b ∈ (a :: bs) ++ (a' :: bs') then H3 b else G3 b) = G4 at d4 g4 look
      have r1 : rIT (matI n A) G4 (.ref a) := (show Mx n A a bs G4 from ⟨by rw [look a (List.mem_append_left _ (List.mem_cons_self ..))]; exact ls.x1.top, ls.x1.len, fun i b h => by rw [look b (List.mem_append_left _ (List.mem_cons_of_mem _ (List.mem_of_getElem? h)))]; exact ls.x1.row i b h⟩).rep
      have r2 : rIT (matI n B) G4 (.ref a') := (show Mx n B a' bs' G4 from ⟨by rw [look a' (List.mem_append_right _ (List.mem_cons_self ..))]; exact ls.x2.top, ls.x2.len, fun i b h => by rw [look b (List.mem_append_right _ (List.mem_cons_of_mem _ (List.mem_of_getElem? h)))]; exact ls.x2.row i b h⟩).rep
      refine qD_ret d4 (P := rIT (leadI n A B)) (ev_call (ea2 (P1 := rIT (matI n A)) (P2 := rIT (matI n B)) (ev_var rfl r1) fun _ g => ev_var rfl (Mono.mono g r2)) fun G' H' vs _ _ ⟨u, u', e, e1, e2⟩ => ⟨_, _, u, u', n, e, e1, e2, sq_mat n A, sq_mat n B, by omega, ls.hU.lt, ls.hL.lt, rfl⟩ : Ev _ _ _ _).toD fun z G5 H5 s5 e5 => k z G5 H5 (d4.trans s5) ⟨A, B, ls.hU, ls.hL, e5⟩
end
end K28
end
section
set_option Elab.async false
set_option linter.all false
set_option maxRecDepth 100000
set_option maxHeartbeats 4000000
set_option autoImplicit false
set_option exponentiation.threshold 20000
namespace K28
open PySem L2
section
variable {P : Program} {w : World} {K : PySem.W.Frag} {mg : Str → Option Value} {base : Heap} {CR CH : Addr} {f : Addr} {fd : FuncData}
def EqH (P : Program) (w : World) (K : PySem.W.Frag) (mg : Str → Option Value) (base : Heap) (n : Nat) (op : CmpOp) (neg : Bool) (D : DB) : Prop := ∀ {X : Cx}, X.prog = P → X.w = w → X.K = K → X.mg = mg → X.base = base → RcB X n op neg D
/-- a house by its letters alone -/
def rHL (CR CH : Addr) (ls : List (List (List Rat))) : HP := fun G v => ∃ n, rHou CR CH ⟨n, ls⟩ G v
instance {CR CH : Addr} {ls : List (List (List Rat))} : Mono (rHL CR CH ls) := ⟨fun e ⟨n, h⟩ => ⟨n, Mono.mono e h⟩⟩
theorem hl_of {te : TE} {σ : St} {G : Hp} {h : Hs} (hv : Ev te σ G (rHou CR CH h)) : Ev te σ G (rHL CR CH h.ls) := hv.imp fun _ _ _ e => ⟨h.n, e⟩
theorem hou_no {m : Str} (h1 : ¬ (("own_width" : Str) = m)) (h2 : ¬ (("own_letters" : Str) = m)) (lv : V) (n : Int) : (houF lv n).lookup m = none := by
  unfold houF
  rw [lookup_putF, if_neg (fun e => h1 e.symm), lookup_putF, if_neg (fun e => h2 e.symm)]; rfl
theorem ev_meth {A : List V → Hp → Hp → HP → Prop} {te : TE} {t : TA} {σ : St} {G : Hp} {m : Str} {h : Hs} {P : HP} {PL : Hp → List V → Prop} (hm : ∀ lv n, (houF lv n).lookup m = none) (hv : Ev te σ G (rHou CR CH h)) (ht : ∀ G', Same G G' → EvA t σ G' PL) (k : ∀ G' H' v vs, rHou CR CH h G' v → PL G' vs → A (v :: vs) G' H' P) : Ev (tMeth CH m (spP A) [] E0 te t) σ G P := fun H hh Q q =>
  hv H hh _ fun v G1 H1 s1 ⟨a, dx, lv, e1, e2, e3⟩ => ⟨a, dx, _, e1, s1.gh _ _ e2, hm _ _, ht G1 s1.gg H1 s1.gh _ fun vs G2 H2 s2 pl => by
    refine ⟨G2, P, s2.gh, ?_, fun v' G3 H3 s3 p3 => q v' G3 H3 ((s1.trans s2).trans s3) p3⟩
    rw [List.append_nil]
    exact k G2 H2 v vs ⟨a, dx, lv, e1, s2.gg _ _ e2, Mono.mono s2.gg e3⟩ pl⟩
theorem no_table (lv : V) (n : Int) : (houF lv n).lookup ("table" : Str) = none := hou_no (by decide +kernel) (by decide +kernel) lv n
theorem no_letters (lv : V) (n : Int) : (houF lv n).lookup ("letters" : Str) = none := hou_no (by decide +kernel) (by decide +kernel) lv n
theorem no_word_sum (lv : V) (n : Int) : (houF lv n).lookup ("word_sum" : Str) = none := hou_no (by decide +kernel) (by decide +kernel) lv n
theorem ev_table {te tw : TE} {σ : St} {G : Hp} {h : Hs} {wd : List Nat} {d e : Nat} (ok : HsOk h) (hl : wd.length ≤ 16) (hk : ∀ k ∈ wd, k < h.ls.length) (wb : Wb d e h.n h.ls wd) (hd : d ≤ 3000) (he : e ≤ 3000) (hv : Ev te σ G (rHou CR CH h)) (hw : ∀ G', Same G G' → Ev tw σ G' (rWd wd)) :
    Ev (tMeth CH "table" (spP (aTabl CR CH)) [] E0 te (tCons tw tNil)) σ G (rTab CR (wtab h.n h.ls wd)) :=
  ev_meth no_table hv (fun G' g => ea1 (hw G' g)) fun G' H' v vs hv' ⟨u, e1, e2⟩ => ⟨h, wd, v, u, d, e, by rw [e1], hv', e2, ok, hl, hk, wb, by omega, by omega, rfl⟩
theorem ev_wsum {te tw : TE} {σ : St} {G : Hp} {h : Hs} {wd : List Nat} {d e : Nat} (ok : HsOk h) (hl : wd.length ≤ 16) (hk : ∀ k ∈ wd, k < h.ls.length) (wb : Wb d e h.n h.ls wd) (hd : d ≤ 3000) (he : e ≤ 3000) (hv : Ev te σ G (rHou CR CH h)) (hw : ∀ G', Same G G' → Ev tw σ G' (rWd wd)) :
    Ev (tMeth CH "word_sum" (spP (aWsum CR CH)) [] E0 te (tCons tw tNil)) σ G (rRat CR (trT (wtab h.n h.ls wd))) :=
  ev_meth no_word_sum hv (fun G' g => ea1 (hw G' g)) fun G' H' v vs hv' ⟨u, e1, e2⟩ => ⟨h, wd, v, u, d, e, by rw [e1], hv', e2, ok, hl, hk, wb, hd, he, rfl⟩
theorem ev_letters {te : TE} {σ : St} {G : Hp} {h : Hs} (ok : HsOk h) (hv : Ev te σ G (rHou CR CH h)) : Ev (tMeth CH "letters" (spP (aLett CR CH)) [] E0 te tNil) σ G (rLs CR h.ls) :=
  ev_meth no_letters hv (fun G' g => ea0) fun G' H' v vs hv' e1 => ⟨h, v, by rw [show vs = [] from e1], hv', ok, rfl⟩
theorem ev_width {te : TE} {σ : St} {G : Hp} {h : Hs} (hv : Ev te σ G (rHou CR CH h)) : Ev (tProp CH (spP (aWid CR CH)) [] E0 te) σ G (rInt (h.n : Int)) := ev_cls (sp := fun _ _ _ _ => True) hv fun G' H' v hv' => ⟨h, v, rfl, hv', rfl⟩
theorem ev_many {te : TE} {σ : St} {G : Hp} {h : Hs} (hv : Ev te σ G (rHou CR CH h)) : Ev (tProp CH (spP (aMany CR CH)) [] E0 te) σ G (rInt (h.ls.length : Int)) := ev_cls (sp := fun _ _ _ _ => True) hv fun G' H' v hv' => ⟨h, v, rfl, hv', rfl⟩
theorem ev_dim {te : TE} {σ : St} {G : Hp} {h : Hs} {B : List WT} (ok : HsOk h) (bi : BaseIs h B) (hv : Ev te σ G (rHou CR CH h)) : Ev (tCall (spP (aDim CR CH)) [] E0 (tCons te tNil)) σ G (rInt (B.length : Int)) :=
  ev_call (ea1 hv) fun G' H' vs _ _ ⟨y, e, e1⟩ => ⟨h, B, y, e, e1, ok, bi, rfl⟩
theorem ne_same {α : Type} [DecidableEq α] (x : α) : (decide (x = x) != true) = false := by rw [decide_eq_true rfl]; rfl
/-! ### the house turned about -/
def aboH (h : Hs) : Hs := ⟨h.n, h.ls.map aboT⟩
theorem ok_abo {h : Hs} (ok : HsOk h) : HsOk (aboH h) := ok.of (by unfold aboH; rw [List.length_map]) ok.n1 ok.n4 fun t ht => by
  unfold aboH at ht
  obtain ⟨q, hq, rfl⟩ := List.mem_map.mp ht
  exact sq_abo (ok.sq q hq)
structure AbF (h : Hs) (wd : List Nat) : Prop where
  ok : HsOk h
  wl : wd.length ≤ 16
  wk : ∀ k ∈ wd, k < h.ls.length
  wb : ∃ d e, d ≤ 3000 ∧ e ≤ 3000 ∧ Wb d e h.n h.ls wd.reverse ∧ Wb d e h.n (aboH h).ls wd
  inv : (aboH (aboH h)).ls = h.ls
  tab : wtab h.n (aboH h).ls wd = aboT (wtab h.n h.ls wd.reverse)
  tr : trT (wtab h.n (aboH h).ls wd) = trT (wtab h.n h.ls wd.reverse)
  dim : h.n = 3 ∨ ∃ B B', BaseIs h B ∧ BaseIs (aboH h) B' ∧ B'.length = B.length
def aAR (CR CH : Addr) : List V → Hp → Hp → HP → Prop := fun vs G _ R => ∃ (h : Hs) (wd : List Nat) (v u : V), vs = [v, u] ∧ rHou CR CH h G v ∧ rWd wd G u ∧ AbF h wd ∧ R = rBl true
theorem sc_law_about_right : FnScope ["_law_house", "_law_word_here", "_law_turned", "_law_letter"] ["_law_house", "_law_word_here"] (defScope s_law_about_right) := ⟨rfl, rfl, rfl, by decide +kernel, rfl, by decide +kernel, by decide +kernel⟩
theorem ok_law_about_right (T : Txt K mg CR CH) (F : Fun K "_law_about_right" "_law_about_right" s_law_about_right f fd) (C_about_house : Cal P w K mg base "about_house" 10 ["house"] (spP (aAboH CR CH))) (CN_about_house : CalN P w K mg base "about_house" 10 ["house"] ["house"] (fun _ zs => zs) (spP (aAboH CR CH))) (C_House_letters : CalMeth P w K mg base CH "letters" 1 ["self"] (spP (aLett CR CH))) (C_about : Cal P w K mg base "about" 7 ["table"] (spP (aAbo CR)))
    (C_House_table : CalMeth P w K mg base CH "table" 7 ["self", "word"] (spP (aTabl CR CH))) (C_House_word_sum : CalMeth P w K mg base CH "word_sum" 8 ["self", "word"] (spP (aWsum CR CH))) (C_House_width : CalPr P w K mg base CH "width" 1 ["self"] (spP (aWid CR CH))) (C_dimension : Cal P w K mg base "dimension" 8 ["house"] (spP (aDim CR CH)))
    (E1 : EqH P w K mg base 1 .Eq false (DEq (rRat CR))) (E2 : EqH P w K mg base 2 .NotEq true (DEq (rRat CR))) (EH : EqH P w K mg base 6 .NotEq true (DEq (rHL CR CH))) : FnOk P w K mg base CX0 11 f fd ["_law_house", "_law_word_here"] (spP (aAR CR CH)) := by
  refine F.ok sc_law_about_right (fun vs H Q E h => ?_) (fun cdv A outer s H vs Q E hr h => ?_)
  · obtain ⟨G, R, _, ⟨h, wd, v, u, rfl, _⟩, _⟩ := h
    rfl
  · obtain ⟨G, R, gh, ⟨h, wd, v, u, rfl, hv, hu, a, rfl⟩, k⟩ := h
    refine ⟨_, (pss_cons (ps_set (i := 2) sc_law_about_right.nd rfl (by first | exact Or.inl rfl | exact Or.inr rfl) (pe_cal C_about_house (hr.mono (by decide)) (by rfl) (pa_cons (pv 0) pa_nil)))
      (pss_cons (ps_if (PW.pt (pw_or (pt_cmpR (op_eqB (rnB_lst (eqB_lst (eqB_lst (EqB.of (E1 rfl rfl rfl rfl rfl) ref_rat)))) (hr.mono (by decide))) (pe_cm0 C_House_letters T.clH (hr.mono (by decide)) (pv 2)) (pe_lc (own := [("_law_letter", 3)]) rfl sc_law_about_right.nd (pi_listK K (pe_cm0 C_House_letters T.clH (hr.mono (by decide)) (pv 0))) (blkOk_by (by kernel_rfl)) (fun _ _ _ _ _ => (pg_name (i := 3) sc_law_about_right.nd rfl (by first | exact Or.inl rfl | exact Or.inr rfl))) (fun _ _ _ _ _ => pts_nil) (fun _ _ _ _ _ => (pe_cal C_about (hr.mono (by decide)) (by rfl) (pa_cons (pv 3) pa_nil)))) (nomark _)) (pw_or1 (pt_cmpR (op_eqB (EH rfl rfl rfl rfl rfl) (hr.mono (by decide))) (pe_caln CN_about_house (hr.mono (by decide)) (by rfl) (pk_cons (pv 2) pk_nil)) (pv 0) (nomark _))))) (pss_one (ps_ret pe_bl)) pss_nil)
      (pss_cons (ps_if (PW.pt (pw_or (pt_cmpR (op_eqB (rnB_lst (eqB_lst (EqB.of (E1 rfl rfl rfl rfl rfl) ref_rat))) (hr.mono (by decide))) (pe_cm C_House_table T.clH (hr.mono (by decide)) (pv 2) (pa_cons (pv 1) pa_nil)) (pe_cal C_about (hr.mono (by decide)) (by rfl) (pa_cons (pe_cm C_House_table T.clH (hr.mono (by decide)) (pv 0) (pa_cons (pe_revK K (pv 1)) pa_nil)) pa_nil)) (nomark _)) (pw_or1 (pt_cmpR (op_eqB (E2 rfl rfl rfl rfl rfl) (hr.mono (by decide))) (pe_cm C_House_word_sum T.clH (hr.mono (by decide)) (pv 2) (pa_cons (pv 1) pa_nil)) (pe_cm C_House_word_sum T.clH (hr.mono (by decide)) (pv 0) (pa_cons (pe_revK K (pv 1)) pa_nil)) (nomark _))))) (pss_one (ps_ret pe_bl)) pss_nil)
      (pss_one (ps_ret (pe_or (pe_cmpR op_eq (pe_pr C_House_width T.clH (hr.mono (by decide)) (pv 0) rfl) pe_int (nomark _)) (pe_one (pe_cmpR op_eq (pe_cal C_dimension (hr.mono (by decide)) (by rfl) (pa_cons (pv 2) pa_nil)) (pe_cal C_dimension (hr.mono (by decide)) (by rfl) (pa_cons (pv 0) pa_nil)) (nomark _))))))))), ?_⟩
    obtain ⟨d, e, hd, he, wb, wb'⟩ := a.wb
    have ok := a.ok
    have ok' := ok_abo ok
    have ev0 : ∀ {σ : St} {G' : Hp}, σ[0]? = some (some v) → Same G G' → Ev (tVar 0) σ G' (rHou CR CH h) := fun e g => ev_var e (Mono.mono g hv)
    have ev1 : ∀ {σ : St} {G' : Hp}, σ[1]? = some (some u) → Same G G' → Ev (tVar 1) σ G' (rWd wd) := fun e g => ev_var e (Mono.mono g hu)
    refine q_asg gh (P := rHou CR CH (aboH h)) (ev_call (ea1 (P1 := rHou CR CH h) (ev0 rfl (.refl _))) fun G' H' vs _ _ ⟨y, e, e1⟩ => ⟨h, y, e, e1, ok, rfl⟩) fun tv G1 H1 s1 e1 => ?_
    have ev2 : ∀ {σ : St} {G' : Hp}, σ[2]? = some (some tv) → Same G1 G' → Ev (tVar 2) σ G' (rHou CR CH (aboH h)) := fun e g => ev_var e (Mono.mono g e1)
    refine q_no s1.gh (et_is (et_or (b := decide ((aboH h).ls = (aboH h).ls) != true) (c := decide ((aboH (aboH h)).ls = h.ls) != true) (et_test (ev_eqD (r := rLs CR) (ev_letters ok' (ev2 rfl (.refl _))) fun G2 g2 => ev_map (r := rTab CR) (s := rTab CR) aboT (ev_letters ok (ev0 rfl (s1.gg.trans g2))) (by have := ok.m3; omega) (fun _ => rfl) fun i t G3 y hy g3 ry => ev_call (ea1 (P1 := rTab CR t) (ev_var rfl ry)) fun G' H' vs _ _ ⟨z, e, e1⟩ => ⟨t.map (·.map Nm.q), z, h.n, e, nt_rat e1, sq_map (ok.sq t (List.mem_of_getElem? hy)), ok.n1, ok.n4, by rw [ratT_q]⟩)) fun _ G2 g2 => et_test (ev_eqD (r := rHL CR CH) (hl_of (h := aboH (aboH h)) (ev_caln (ea1 (P1 := rHou CR CH (aboH h)) (ev2 rfl g2)) (fun _ _ ⟨_, e, _⟩ => by rw [e]; rfl) fun G' H' vs _ _ ⟨z, e, e1⟩ => ⟨aboH h, z, e, e1, ok', rfl⟩)) fun G3 g3 => hl_of (ev0 rfl (s1.gg.trans (g2.trans g3))))) ?_) fun G2 H2 s2 => ?_
    · rw [a.inv, ne_same, ne_same]; rfl
    have hrl : wd.reverse.length ≤ 16 := by rw [List.length_reverse]; exact a.wl
    have hrk : ∀ k ∈ wd.reverse, k < h.ls.length := fun k hk => a.wk k (List.mem_reverse.mp hk)
    have hk' : ∀ k ∈ wd, k < (aboH h).ls.length := fun k hk => by unfold aboH; rw [List.length_map]; exact a.wk k hk
    refine q_no s2.gh (et_is (et_or (b := decide (wtab h.n (aboH h).ls wd = aboT (wtab h.n h.ls wd.reverse)) != true) (c := decide (trT (wtab h.n (aboH h).ls wd) = trT (wtab h.n h.ls wd.reverse)) != true) (et_test (ev_eqD (r := rTab CR) (ev_table ok' a.wl hk' wb' hd he (ev2 rfl s2.gg) fun _ g => ev1 rfl ((s1.gg.trans s2.gg).trans g)) fun G3 g3 => ev_call (ea1 (P1 := rTab CR (wtab h.n h.ls wd.reverse)) (ev_table ok hrl hrk wb hd he (ev0 rfl ((s1.gg.trans s2.gg).trans g3)) fun _ g => ev_rev (ev1 rfl (((s1.gg.trans s2.gg).trans g3).trans g)))) fun G' H' vs _ _ ⟨z, e, e1⟩ => ⟨_, z, h.n, e, nt_rat e1, sq_map (sq_wtab ok.n1 ok.sq _ hrk), ok.n1, ok.n4, by rw [ratT_q]⟩)) fun _ G3 g3 => et_test (ev_eqD (r := rRat CR) (ev_wsum ok' a.wl hk' wb' hd he (ev2 rfl (s2.gg.trans g3)) fun _ g => ev1 rfl (((s1.gg.trans s2.gg).trans g3).trans g)) fun G4 g4 => ev_wsum ok hrl hrk wb hd he (ev0 rfl (((s1.gg.trans s2.gg).trans g3).trans g4)) fun _ g => ev_rev (ev1 rfl ((((s1.gg.trans s2.gg).trans g3).trans g4).trans g)))) ?_) fun G3 H3 s3 => ?_
    · rw [a.tr, a.tab, ne_same, ne_same]; rfl
    have g3 := (s1.gg.trans s2.gg).trans s3.gg
    refine q_ret s3.gh (P := rBl true) ?_ fun z G4 H4 s4 e4 => k z G4 H4 (((s1.trans s2).trans s3).trans s4) e4
    rcases a.dim with h3 | ⟨B, B', b1, b2, hl⟩
    · refine (ev_orV (b := decide ((h.n : Int) = 3)) (c := true) (ev_eqI (ev_width (ev0 rfl g3)) ev_int) fun hb => absurd (of_decide_eq_false hb) (by simp; omega)).imp fun _ _ _ e => ?_
      rw [show _ = _ from e, Bool.or_true]; rfl
    · refine (ev_orV (b := decide ((h.n : Int) = 3)) (c := true) (ev_eqI (ev_width (ev0 rfl g3)) ev_int) fun _ G4 g4 => (ev_eqI (ev_dim ok' b2 (ev2 rfl ((s2.gg.trans s3.gg).trans g4))) (ev_dim ok b1 (ev0 rfl (g3.trans g4)))).imp fun _ _ _ e => ?_).imp fun _ _ _ e => ?_
      · rw [show _ = _ from e]; exact congrArg V.bl (decide_eq_true (by rw [hl]))
      · rw [show _ = _ from e, Bool.or_true]; rfl
end
end K28
end
section
set_option Elab.async false
set_option linter.all false
set_option maxRecDepth 100000
set_option maxHeartbeats 4000000
set_option autoImplicit false
set_option exponentiation.threshold 20000
namespace K28
open PySem L2
section
variable {P : Program} {w : World} {K : PySem.W.Frag} {mg : Str → Option Value} {base : Heap} {CR CH : Addr} {f : Addr} {fd : FuncData}
theorem q_par3 {ta tb tc : TE} {σ : St} {G H : Hp} {D : Ends} {tz : TS} {i j l : Nat} {P1 P2 P3 : HP} [Mono P1] [Mono P2] (gh : Same G H) (h : Ev ta σ G P1) (h2 : ∀ G', Same G G' → Ev tb σ G' P2) (h3 : ∀ G', Same G G' → Ev tc σ G' P3) (k : ∀ u w z G' H', Stp G H G' H' → P1 G' u → P2 G' w → P3 G' z → tz D (((σ.set i (some u)).set j (some w)).set l (some z)) H') : tSeq (tPar3 i j l (tCons ta (tCons tb (tCons tc tNil)))) tz D σ H :=
  ea3 h h2 h3 H gh (fun vs H1 => ∃ u v w, vs = [u, v, w] ∧ tz D (((σ.set i (some u)).set j (some v)).set l (some w)) H1) fun vs G1 H1 s1 p => by
    obtain ⟨u, w, z, e, e1, e2, e3⟩ := p
    exact ⟨u, w, z, e, k u w z G1 H1 s1 e1 e2 e3⟩
def sidH (h h' : Hs) : Hs := ⟨h.n + h'.n, List.zipWith onT h.ls h'.ls⟩
theorem ok_sid {h h' : Hs} (ok : HsOk h) (ok' : HsOk h') (hl : h.ls.length = h'.ls.length) (h4 : h.n + h'.n ≤ 4) : HsOk (sidH h h') := ok.of (by unfold sidH; rw [List.length_zipWith]; omega) (by have := ok.n1; show 1 ≤ h.n + h'.n; omega) h4 fun t ht => by
  unfold sidH at ht
  rw [List.mem_iff_getElem] at ht
  obtain ⟨i, hi, rfl⟩ := ht
  rw [List.getElem_zipWith]
  exact sq_on (ok.sq _ (List.getElem_mem _)) (ok'.sq _ (List.getElem_mem _))
structure SdF (h h' : Hs) (wd : List Nat) : Prop where
  ok : HsOk h
  ok' : HsOk h'
  n4 : h.n + h'.n ≤ 4
  len : h.ls.length = h'.ls.length
  wl : wd.length ≤ 16
  wk : ∀ k ∈ wd, k < h.ls.length
  wb : ∃ d e, d ≤ 3000 ∧ e ≤ 3000 ∧ Wb d e h.n h.ls wd ∧ Wb d e h'.n h'.ls wd ∧ Wb d e (sidH h h').n (sidH h h').ls wd
  sm : ∃ m, m ≤ 4000 ∧ Sm m (trT (wtab h.n h.ls wd)) ∧ Sm m (trT (wtab h'.n h'.ls wd))
  tr : trT (wtab (sidH h h').n (sidH h h').ls wd) = trT (wtab h.n h.ls wd) + trT (wtab h'.n h'.ls wd)
  up : (wtab (sidH h h').n (sidH h h').ls wd).take h.n = (wtab h.n h.ls wd).map (· ++ List.replicate h'.n 0)
  dn : (wtab (sidH h h').n (sidH h h').ls wd).drop h.n = (wtab h'.n h'.ls wd).map (List.replicate h.n 0 ++ ·)
  dim : 3 < h.n + h'.n ∨ ∃ B B' B'', BaseIs h B ∧ BaseIs h' B' ∧ BaseIs (sidH h h') B'' ∧ B.length ≤ B''.length ∧ B'.length ≤ B''.length ∧ B''.length ≤ B.length + B'.length ∧ (h.ls = h'.ls → B''.length = B.length)
def aSR (CR CH : Addr) : List V → Hp → Hp → HP → Prop := fun vs G _ R => ∃ (h h' : Hs) (wd : List Nat) (v v' u : V), vs = [v, v', u] ∧ rHou CR CH h G v ∧ rHou CR CH h' G v' ∧ rWd wd G u ∧ SdF h h' wd ∧ R = rBl true
theorem sc_law_side_right : FnScope ["_law_house", "_law_other", "_law_word_here", "_law_both", "_law_size", "_law_told", "_law_here", "_law_there", "_law_nought", "_law_row", "_law_near", "_law_beyond", "_law_whole"] ["_law_house", "_law_other", "_law_word_here"] (defScope s_law_side_right) := ⟨rfl, rfl, rfl, by decide +kernel, rfl, by decide +kernel, by decide +kernel⟩
theorem ok_law_side_right (T : Txt K mg CR CH) (F : Fun K "_law_side_right" "_law_side_right" s_law_side_right f fd) (C_side : Cal P w K mg base "side" 10 ["house", "other"] (spP (aSide CR CH))) (C_Ratio1 : CalMk P w K mg base "Ratio" CR 2 ["self", "top", "bottom"] [.int 1] (spInit CR)) (C_Ratio_add : CalOp P w K mg base CR (PySem.dunder (Operator.info .Add).2) 5 ["self", "other"] (spP (aAdd CR)))
    (C_House_table : CalMeth P w K mg base CH "table" 7 ["self", "word"] (spP (aTabl CR CH))) (C_House_word_sum : CalMeth P w K mg base CH "word_sum" 8 ["self", "word"] (spP (aWsum CR CH))) (C_House_width : CalPr P w K mg base CH "width" 1 ["self"] (spP (aWid CR CH))) (C_House_many : CalPr P w K mg base CH "many" 1 ["self"] (spP (aMany CR CH))) (C_dimension : Cal P w K mg base "dimension" 8 ["house"] (spP (aDim CR CH)))
    (E1 : EqH P w K mg base 1 .Eq false (DEq (rRat CR))) (E2 : EqH P w K mg base 2 .NotEq true (DEq (rRat CR))) (EH : EqH P w K mg base 6 .NotEq true (DEq (rHL CR CH))) : FnOk P w K mg base CX0 11 f fd ["_law_house", "_law_other", "_law_word_here"] (spP (aSR CR CH)) := by
  refine F.ok sc_law_side_right (fun vs H Q E h => ?_) (fun cdv A outer s H vs Q E hr h => ?_)
  · obtain ⟨G, R, _, ⟨h, h', wd, v, v', u, rfl, _⟩, _⟩ := h
    rfl
  · obtain ⟨G, R, gh, ⟨h, h', wd, v, v', u, rfl, hv, hv', hu, a, rfl⟩, k⟩ := h
    refine ⟨_, (pss_cons (ps_par (i := 3) (j := 4) (by rfl) sc_law_side_right.nd rfl rfl (by decide) rfl rfl (pa_cons (pe_cal C_side (hr.mono (by decide)) (by rfl) (pa_cons (pv 0) (pa_cons (pv 1) pa_nil))) (pa_cons (pe_pr C_House_width T.clH (hr.mono (by decide)) (pv 0) rfl) pa_nil)) (by rfl))
      (pss_cons (ps_par3 (i := 5) (j := 6) (l := 7) (by rfl) sc_law_side_right.nd rfl rfl rfl (by decide) (by decide) (by decide) rfl rfl rfl (pa_cons (pe_cm C_House_table T.clH (hr.mono (by decide)) (pv 3) (pa_cons (pv 2) pa_nil)) (pa_cons (pe_cm C_House_table T.clH (hr.mono (by decide)) (pv 0) (pa_cons (pv 2) pa_nil)) (pa_cons (pe_cm C_House_table T.clH (hr.mono (by decide)) (pv 1) (pa_cons (pv 2) pa_nil)) pa_nil))) (by rfl))
      (pss_cons (ps_if (PW.pt (pw_or (pt_cmpR op_ne (pe_pr C_House_width T.clH (hr.mono (by decide)) (pv 3) rfl) (pe_op op_add (pv 4) (pe_pr C_House_width T.clH (hr.mono (by decide)) (pv 1) rfl)) (nomark _)) (pw_or (pt_cmpR op_ne (pe_pr C_House_many T.clH (hr.mono (by decide)) (pv 3) rfl) (pe_pr C_House_many T.clH (hr.mono (by decide)) (pv 0) rfl) (nomark _)) (pw_or1 (pt_cmpR (op_eqB (E2 rfl rfl rfl rfl rfl) (hr.mono (by decide))) (pe_cm C_House_word_sum T.clH (hr.mono (by decide)) (pv 3) (pa_cons (pv 2) pa_nil)) (pe_op (op_own C_Ratio_add (hr.mono (by decide))) (pe_cm C_House_word_sum T.clH (hr.mono (by decide)) (pv 0) (pa_cons (pv 2) pa_nil)) (pe_cm C_House_word_sum T.clH (hr.mono (by decide)) (pv 1) (pa_cons (pv 2) pa_nil))) (nomark _)))))) (pss_one (ps_ret pe_bl)) pss_nil)
      (pss_cons (ps_set (i := 8) sc_law_side_right.nd rfl (by first | exact Or.inl rfl | exact Or.inr rfl) (pe_op op_rep (pe_lst (pa_cons (pe_mk C_Ratio1 (hr.mono (by decide)) (by rfl) (pa_cons pe_int pa_nil)) pa_nil)) (pv 4)))
      (pss_cons (ps_if (PW.pt (pw_or (pt_cmpR (op_eqB (rnB_lst (eqB_lst (EqB.of (E1 rfl rfl rfl rfl rfl) ref_rat))) (hr.mono (by decide))) (pe_slice (sl_listK K) (pv 5) po_none (po_some (pv 4))) (pe_lc (own := [("_law_row", 9)]) rfl sc_law_side_right.nd (pi_listK K (pv 6)) (blkOk_by (by kernel_rfl)) (fun _ _ _ _ _ => (pg_name (i := 9) sc_law_side_right.nd rfl (by first | exact Or.inl rfl | exact Or.inr rfl))) (fun _ _ _ _ _ => pts_nil) (fun _ _ _ _ _ => (pe_op op_cat (pv 9) (pe_op op_rep (pe_lst (pa_cons (pe_mk C_Ratio1 (hr.mono (by decide)) (by rfl) (pa_cons pe_int pa_nil)) pa_nil)) (pe_pr C_House_width T.clH (hr.mono (by decide)) (pv 1) rfl))))) (nomark _)) (pw_or1 (pt_cmpR (op_eqB (rnB_lst (eqB_lst (EqB.of (E1 rfl rfl rfl rfl rfl) ref_rat))) (hr.mono (by decide))) (pe_slice (sl_listK K) (pv 5) (po_some (pv 4)) po_none) (pe_lc (own := [("_law_row", 9)]) rfl sc_law_side_right.nd (pi_listK K (pv 7)) (blkOk_by (by kernel_rfl)) (fun _ _ _ _ _ => (pg_name (i := 9) sc_law_side_right.nd rfl (by first | exact Or.inl rfl | exact Or.inr rfl))) (fun _ _ _ _ _ => pts_nil) (fun _ _ _ _ _ => (pe_op op_cat (pv 8) (pv 9)))) (nomark _))))) (pss_one (ps_ret pe_bl)) pss_nil)
      (pss_cons (ps_if (pt_cmpR op_gt (pe_pr C_House_width T.clH (hr.mono (by decide)) (pv 3) rfl) pe_int (nomark _)) (pss_one (ps_ret pe_bl)) pss_nil)
      (pss_cons (ps_par3 (i := 10) (j := 11) (l := 12) (by rfl) sc_law_side_right.nd rfl rfl rfl (by decide) (by decide) (by decide) rfl rfl rfl (pa_cons (pe_cal C_dimension (hr.mono (by decide)) (by rfl) (pa_cons (pv 0) pa_nil)) (pa_cons (pe_cal C_dimension (hr.mono (by decide)) (by rfl) (pa_cons (pv 1) pa_nil)) (pa_cons (pe_cal C_dimension (hr.mono (by decide)) (by rfl) (pa_cons (pv 3) pa_nil)) pa_nil))) (by rfl))
      (pss_one (ps_ret (pe_and (pe_chain op_le op_le (pe_callB (call_max2 rfl) (by rfl) T.max (by decide +kernel) (pa_cons (pv 10) (pa_cons (pv 11) pa_nil))) (pv 12) (pe_op op_add (pv 10) (pv 11))) (pe_one (pe_or (pe_cmpR (op_eqB (EH rfl rfl rfl rfl rfl) (hr.mono (by decide))) (pv 0) (pv 1) (nomark _)) (pe_one (pe_cmpR op_eq (pv 12) (pv 10) (nomark _))))))))))))))), ?_⟩
    obtain ⟨d, e, hd, he, wb1, wb2, wb3⟩ := a.wb
    obtain ⟨m, hm, sm1, sm2⟩ := a.sm
    have ok := a.ok
    have ok' := a.ok'
    have ok2 := ok_sid ok ok' a.len a.n4
    have n4 := a.n4
    have hk' : ∀ k ∈ wd, k < h'.ls.length := fun k hk => by rw [← a.len]; exact a.wk k hk
    have l2 : (sidH h h').ls.length = h.ls.length := by unfold sidH; rw [List.length_zipWith, ← a.len, Nat.min_self]
    have hk2 : ∀ k ∈ wd, k < (sidH h h').ls.length := fun k hk => by rw [l2]; exact a.wk k hk
    have ev0 : ∀ {σ : St} {G' : Hp}, σ[0]? = some (some v) → Same G G' → Ev (tVar 0) σ G' (rHou CR CH h) := fun e g => ev_var e (Mono.mono g hv)
    have ev1 : ∀ {σ : St} {G' : Hp}, σ[1]? = some (some v') → Same G G' → Ev (tVar 1) σ G' (rHou CR CH h') := fun e g => ev_var e (Mono.mono g hv')
    have ev2 : ∀ {σ : St} {G' : Hp}, σ[2]? = some (some u) → Same G G' → Ev (tVar 2) σ G' (rWd wd) := fun e g => ev_var e (Mono.mono g hu)
    refine q_par gh (P1 := rHou CR CH (sidH h h')) (P2 := rInt (h.n : Int)) (ev_call (ea2 (P1 := rHou CR CH h) (P2 := rHou CR CH h') (ev0 rfl (.refl _)) fun _ g => ev1 rfl g) fun G' H' vs _ _ ⟨y, y', e, e1, e2⟩ => ⟨h, h', y, y', e, e1, e2, ok, ok', a.len, n4, rfl⟩) (fun _ g => ev_width (ev0 rfl g)) fun b3 b4 G1 H1 s1 e3 e4 => ?_
    cases (show b4 = _ from e4)
    have ev3 : ∀ {σ : St} {G' : Hp}, σ[3]? = some (some b3) → Same G1 G' → Ev (tVar 3) σ G' (rHou CR CH (sidH h h')) := fun e g => ev_var e (Mono.mono g e3)
    refine q_par3 s1.gh (P1 := rTab CR (wtab (sidH h h').n (sidH h h').ls wd)) (P2 := rTab CR (wtab h.n h.ls wd)) (P3 := rTab CR (wtab h'.n h'.ls wd)) (ev_table ok2 a.wl hk2 wb3 hd he (ev3 rfl (.refl _)) fun _ g => ev2 rfl (s1.gg.trans g)) (fun G2 g2 => ev_table ok a.wl a.wk wb1 hd he (ev0 rfl (s1.gg.trans g2)) fun _ g => ev2 rfl ((s1.gg.trans g2).trans g)) (fun G2 g2 => ev_table ok' a.wl hk' wb2 hd he (ev1 rfl (s1.gg.trans g2)) fun _ g => ev2 rfl ((s1.gg.trans g2).trans g)) fun b5 b6 b7 G2 H2 s2 e5 e6 e7 => ?_
    have t12 := s1.trans s2
    refine q_no s2.gh (et_is (et_or (b := !decide (((h.n + h'.n : Nat) : Int) = (h.n : Int) + (h'.n : Int))) (et_test (ev_neI (ev_width (ev3 rfl s2.gg)) (ev_I0 (ev_var rfl rfl) (ev_width (ev1 rfl t12.gg))))) fun _ G3 g3 => et_or (b := !decide (((sidH h h').ls.length : Int) = (h.ls.length : Int))) (c := decide (trT (wtab (sidH h h').n (sidH h h').ls wd) = trT (wtab h.n h.ls wd) + trT (wtab h'.n h'.ls wd)) != true) (et_test (ev_neI (ev_many (ev3 rfl (s2.gg.trans g3))) (ev_many (ev0 rfl (t12.gg.trans g3))))) fun _ G4 g4 => et_test (ev_eqD (r := rRat CR) (ev_wsum ok2 a.wl hk2 wb3 hd he (ev3 rfl ((s2.gg.trans g3).trans g4)) fun _ g => ev2 rfl (((t12.gg.trans g3).trans g4).trans g)) fun G5 g5 => ev_addR (n := m) (ev_wsum ok a.wl a.wk wb1 hd he (ev0 rfl (((t12.gg.trans g3).trans g4).trans g5)) fun _ g => ev2 rfl ((((t12.gg.trans g3).trans g4).trans g5).trans g)) (fun G6 g6 => ev_wsum ok' a.wl hk' wb2 hd he (ev1 rfl ((((t12.gg.trans g3).trans g4).trans g5).trans g6)) fun _ g => ev2 rfl (((((t12.gg.trans g3).trans g4).trans g5).trans g6).trans g)) sm1 sm2 hm)) ?_) fun G3 H3 s3 => ?_
    · rw [a.tr, ne_same, l2, decide_eq_true (by rw [Int.natCast_add]), decide_eq_true rfl]; rfl
    have t13 := t12.trans s3
    refine q_asg s3.gh (P := rRow CR (List.replicate h.n 0)) (ev_nought 0 (fun _ _ => ev_var rfl rfl) (by have := ok.n4; omega)) fun b8 G4 H4 s4 e8 => ?_
    have t14 := t13.trans s4
    have g24 := s3.gg.trans s4.gg
    have wl2 : (wtab (sidH h h').n (sidH h h').ls wd).length = h.n + h'.n := (sq_wtab ok2.n1 ok2.sq wd hk2).1
    have wlh := sq_wtab ok.n1 ok.sq wd a.wk
    have wlh' := sq_wtab ok'.n1 ok'.sq wd hk'
    refine q_no s4.gh (et_is (et_or (b := decide ((wtab (sidH h h').n (sidH h h').ls wd).take h.n = (wtab h.n h.ls wd).map (· ++ List.replicate h'.n 0)) != true) (c := decide ((wtab (sidH h h').n (sidH h h').ls wd).drop h.n = (wtab h'.n h'.ls wd).map (List.replicate h.n 0 ++ ·)) != true)
      (et_test (ev_eqD (r := rTab CR) (ev_to (i := h.n) (ev_var rfl (Mono.mono g24 e5)) (fun _ _ => ev_var rfl rfl) rfl (by omega)) fun G5 g5 => ev_map (r := rRow CR) (s := rRow CR) (· ++ List.replicate h'.n 0) (ev_var rfl (Mono.mono (g24.trans g5) e6)) (by rw [wlh.1]; omega) (fun _ => rfl) fun i row G6 y hy g6 ry => ev_cat (ev_var rfl ry) (fun G7 g7 => ev_nought 0 (fun _ g => ev_width (ev1 rfl ((((t14.gg.trans g5).trans g6).trans g7).trans g))) (by omega)) (by rw [wlh.2 row (List.mem_of_getElem? hy), List.length_replicate]; omega)))
      fun _ G5 g5 => et_test (ev_eqD (r := rTab CR) (ev_from (i := h.n) (ev_var rfl (Mono.mono (g24.trans g5) e5)) (fun _ _ => ev_var rfl rfl) rfl (by omega)) fun G6 g6 => ev_map (r := rRow CR) (s := rRow CR) (List.replicate h.n 0 ++ ·) (ev_var rfl (Mono.mono ((g24.trans g5).trans g6) e7)) (by rw [wlh'.1]; omega) (fun _ => rfl) fun i row G7 y hy g7 ry => ev_cat (ev_var rfl (Mono.mono ((g5.trans g6).trans g7) e8)) (fun G8 g8 => ev_var rfl (Mono.mono g8 ry)) (by rw [wlh'.2 row (List.mem_of_getElem? hy), List.length_replicate]; omega))) ?_) fun G5 H5 s5 => ?_
    · rw [a.up, a.dn, ne_same, ne_same]; rfl
    have t15 := t14.trans s5
    have g15 : Same G1 G5 := ((s2.gg.trans s3.gg).trans s4.gg).trans s5.gg
    refine q_if1 s5.gh (b := decide (3 < h.n + h'.n)) (et_test ((ev_I0 (i := ((h.n + h'.n : Nat) : Int)) (j := 3) (ev_width (ev3 rfl g15)) ev_int).imp fun _ z _ e => ?_)) (fun hb G6 H6 s6 => ?_) fun hb G6 H6 s6 => ?_
    · rw [show z = _ from e]
      refine congrArg V.bl ?_
      rw [decide_eq_decide]; omega
    · exact q_ret s6.gh (P := rBl true) ev_bl fun z G7 H7 s7 e7 => k z G7 H7 ((t15.trans s6).trans s7) e7
    · have hb' : ¬ 3 < h.n + h'.n := of_decide_eq_false hb
      obtain ⟨B, B', B'', q1, q2, q3, d1, d2, d3, d4⟩ := a.dim.resolve_left hb'
      have t16 := t15.trans s6
      have g16 := g15.trans s6.gg
      refine q_par3 s6.gh (P1 := rInt (B.length : Int)) (P2 := rInt (B'.length : Int)) (P3 := rInt (B''.length : Int)) (ev_dim ok q1 (ev0 rfl t16.gg)) (fun _ g => ev_dim ok' q2 (ev1 rfl (t16.gg.trans g))) (fun _ g => ev_dim ok2 q3 (ev3 rfl (g16.trans g))) fun b10 b11 b12 G7 H7 s7 e10 e11 e12 => ?_
      cases (show b10 = _ from e10)
      cases (show b11 = _ from e11)
      cases (show b12 = _ from e12)
      have t17 := t16.trans s7
      refine q_ret s7.gh (P := rBl true) ((ev_andV (b := decide ((if (B'.length : Int) > (B.length : Int) then (B'.length : Int) else (B.length : Int)) ≤ (B''.length : Int)) && decide ((B''.length : Int) ≤ (B.length : Int) + (B'.length : Int))) (c := (decide (h.ls = h'.ls) != true) || decide ((B''.length : Int) = (B.length : Int))) (ev_chain2 (f := fun i j => decide (i ≤ j)) (g := fun i j => decide (i ≤ j)) (ev_cb (ea2 (P1 := rInt (B.length : Int)) (P2 := rInt (B'.length : Int)) (ev_var rfl rfl) fun _ _ => ev_var rfl rfl) fun G' H' vs Q _ gh ⟨y, y', e, e1, e2⟩ kk => ⟨(B.length : Int), (B'.length : Int), by rw [e, show y = _ from e1, show y' = _ from e2], kk _ _ _ (.refl gh) rfl⟩) (fun _ _ => ev_var rfl rfl) fun _ _ => ev_I0 (ev_var rfl rfl) (ev_var rfl rfl)) fun _ G8 g8 => ev_orV (ev_eqD (r := rHL CR CH) (hl_of (ev0 rfl (t17.gg.trans g8))) fun _ g => hl_of (ev1 rfl ((t17.gg.trans g8).trans g))) fun _ G9 g9 => ev_eqI (ev_var rfl rfl) (ev_var rfl rfl)).imp fun _ z _ e => ?_) fun z G8 H8 s8 e8 => k z G8 H8 (t17.trans s8) e8
      rw [show z = _ from e]
      refine congrArg V.bl ?_
      rw [decide_eq_true (by split <;> omega), decide_eq_true (by omega)]
      by_cases hh : h.ls = h'.ls
      · rw [decide_eq_true (show (B''.length : Int) = (B.length : Int) by rw [d4 hh]), Bool.or_true]; rfl
      · rw [decide_eq_false hh]; rfl
/-! ### the house led -/
def ratI (t : List (List Int)) : List (List Rat) := t.map (·.map fun (z : Int) => (z : Rat))
theorem ratT_i (t : List (List Int)) : ratT (t.map (·.map Nm.i)) = ratI t := by
  unfold ratT ratI
  rw [List.map_map]
  refine List.map_congr_left fun r _ => ?_
  show (r.map Nm.i).map Nm.rat = _
  rw [List.map_map]; rfl
abbrev nmq (t : List (List Rat)) : List (List Nm) := t.map (·.map Nm.q)
def ledH (h : Hs) (p : List (List Rat)) : Hs := ⟨h.n, h.ls.map (ledT p (undT p))⟩
theorem ok_led {h : Hs} {p : List (List Rat)} (ok : HsOk h) (uo : UndOk h.n p) : HsOk (ledH h p) := ok.of (by unfold ledH; rw [List.length_map]) ok.n1 ok.n4 fun t ht => by
  unfold ledH at ht
  obtain ⟨q, hq, rfl⟩ := List.mem_map.mp ht
  exact wideOf_prod (wideOf_prod uo.sq (ok.sq q hq) ok.n1) (sq_und uo) ok.n1
structure LdF (h : Hs) (wd : List Nat) (p : List (List Rat)) : Prop where
  ok : HsOk h
  wl : wd.length ≤ 16
  wk : ∀ k ∈ wd, k < h.ls.length
  uo : UndOk h.n p
  ub : UndOk h.n (undT p)
  lb : ∃ d e, LedB d e p h.ls
  lb' : ∃ d e, LedB d e (undT p) (ledH h p).ls
  idl : prodT p (undT p) = idleT h.n
  back : (ledH (ledH h p) (undT p)).ls = h.ls
  wb : ∃ d e, d ≤ 3000 ∧ e ≤ 3000 ∧ Wb d e h.n h.ls wd ∧ Wb d e h.n (ledH h p).ls wd ∧ Bd d e p.flatten ∧ Bd d e (undT p).flatten ∧ Bd d e (wtab h.n h.ls wd).flatten ∧ Bd d e (prodT p (wtab h.n h.ls wd)).flatten
  tab : wtab h.n (ledH h p).ls wd = prodT (prodT p (wtab h.n h.ls wd)) (undT p)
  tr : trT (wtab h.n (ledH h p).ls wd) = trT (wtab h.n h.ls wd)
  dim : h.n = 3 ∨ ∃ B B', BaseIs (ledH h p) B ∧ BaseIs h B' ∧ B.map (·.1) = B'.map (·.1)
theorem wds_ints {G : Hp} {v : V} {ws : List (List Nat)} (h : rLst rWd ws G v) : rIT (ws.map (·.map fun (k : Nat) => (k : Int))) G v := rLst_map (fun x G u h => rLst_map (t := rInt) (f := fun (k : Nat) => (k : Int)) (fun x G u h => h) h) h
theorem ev_times {ta tb : TE} {σ : St} {G : Hp} {t u : List (List Nm)} {n d e d' e' : Nat} (sq : SqX n t) (sq' : SqX n u) (n1 : 1 ≤ n) (n4 : n ≤ 4) (bd : Bd d e (ratT t).flatten) (bd' : Bd d' e' (ratT u).flatten) (hd : d + d' ≤ 8999) (he : e ≤ 400000) (he' : e' ≤ 400000) (h : Ev ta σ G (rNT CR t)) (h' : ∀ G', Same G G' → Ev tb σ G' (rNT CR u)) : Ev (tCall (spP (aTimes CR)) [] E0 (tCons ta (tCons tb tNil))) σ G (rTab CR (prodT (ratT t) (ratT u))) :=
  ev_call (ea2 h h') fun G' H' vs _ _ ⟨y, y', e0, e1, e2⟩ => ⟨t, u, y, y', n, d, e, d', e', e0, e1, e2, sq, sq', n1, n4, bd, bd', hd, he, he', rfl⟩
theorem ev_nt {ta : TE} {σ : St} {G : Hp} {t : List (List Rat)} (h : Ev ta σ G (rTab CR t)) : Ev ta σ G (rNT CR (t.map (·.map Nm.q))) := h.imp fun _ _ _ e => nt_rat e
theorem ev_ni {ta : TE} {σ : St} {G : Hp} {t : List (List Int)} (h : Ev ta σ G (rIT t)) : Ev ta σ G (rNT CR (t.map (·.map Nm.i))) := h.imp fun _ _ _ e => nt_int e
def revV (vs zs : List V) : List V := zs.reverse
def aLR (CR CH : Addr) : List V → Addr → Hp → Hp → HP → Prop := fun vs p G _ R => ∃ (h : Hs) (wd : List Nat) (v u : V), vs = [.ref p, v, u] ∧ rHou CR CH h G v ∧ rWd wd G u ∧ 1 ≤ h.n ∧ h.n ≤ 4 ∧ (∀ A B, ShU h.n A → ShL h.n B → LdF h wd (ratI (leadI h.n A B)) ∧ SqX h.n (leadI h.n A B)) ∧ R = rBl true
theorem sc_law_led_right : FnScope ["_law_pot_here", "_law_house", "_law_word_here", "_law_lead_here", "_law_other", "_law_back"] ["_law_pot_here", "_law_house", "_law_word_here"] (defScope s_law_led_right) := ⟨rfl, rfl, rfl, by decide +kernel, rfl, by decide +kernel, by decide +kernel⟩
theorem ok_law_led_right (T : Txt K mg CR CH) (F : Fun K "_law_led_right" "_law_led_right" s_law_led_right f fd) (C_law_lead : Cal P w K mg base "_law_lead" 3 ["_law_pot_here", "_law_size"] (spD fun vs p _ _ R => ∃ n : Nat, vs = [.ref p, .int (n : Int)] ∧ 1 ≤ n ∧ n ≤ 10 ∧ R = rLead n)) (C_led_house : Cal P w K mg base "led_house" 10 ["house", "table"] (spP (aLed CR CH))) (CN_led_house : CalN P w K mg base "led_house" 10 ["house", "table"] ["table", "house"] revV (spP (aLed CR CH))) (C_undone : Cal P w K mg base "undone" 7 ["table"] (spP (aUndo CR))) (C_times : Cal P w K mg base "times" 8 ["table", "other"] (spP (aTimes CR))) (C_idle : Cal P w K mg base "idle" 5 ["size"] (spP (aIdl CR)))
    (C_House_table : CalMeth P w K mg base CH "table" 7 ["self", "word"] (spP (aTabl CR CH))) (C_House_word_sum : CalMeth P w K mg base CH "word_sum" 8 ["self", "word"] (spP (aWsum CR CH))) (C_House_width : CalPr P w K mg base CH "width" 1 ["self"] (spP (aWid CR CH))) (C_base_words : Cal P w K mg base "base_words" 8 ["house"] (spP (aBWo CR CH)))
    (E1 : EqH P w K mg base 1 .Eq false (DEq (rRat CR))) (E2 : EqH P w K mg base 2 .NotEq true (DEq (rRat CR))) (EH : EqH P w K mg base 6 .NotEq true (DEq (rHL CR CH))) : FnOk P w K mg base CX0 11 f fd ["_law_pot_here", "_law_house", "_law_word_here"] (spD (aLR CR CH)) := by
  refine F.ok sc_law_led_right (fun vs H Q E h => ?_) (fun cdv A outer s H vs Q E hr h => ?_)
  · obtain ⟨G, R, p, _, _, _, ⟨h, wd, v, u, rfl, _⟩, _⟩ := h
    rfl
  · obtain ⟨G, R, p, gh, gp, pt, ⟨h, wd, v, u, rfl, hv, hu, n1, n4, law, rfl⟩, k⟩ := h
    refine ⟨_, (pss_cons (ps_set (i := 3) sc_law_led_right.nd rfl (by first | exact Or.inl rfl | exact Or.inr rfl) (pe_cal C_law_lead (hr.mono (by decide)) (by rfl) (pa_cons (pv 0) (pa_cons (pe_pr C_House_width T.clH (hr.mono (by decide)) (pv 1) rfl) pa_nil))))
      (pss_cons (ps_par (i := 4) (j := 5) (by rfl) sc_law_led_right.nd rfl rfl (by decide) rfl rfl (pa_cons (pe_cal C_led_house (hr.mono (by decide)) (by rfl) (pa_cons (pv 1) (pa_cons (pv 3) pa_nil))) (pa_cons (pe_cal C_undone (hr.mono (by decide)) (by rfl) (pa_cons (pv 3) pa_nil)) pa_nil)) (by rfl))
      (pss_cons (ps_if (PW.pt (pw_or (pt_cmpR (op_eqB (rnB_lst (eqB_lst (EqB.of (E1 rfl rfl rfl rfl rfl) ref_rat))) (hr.mono (by decide))) (pe_cal C_times (hr.mono (by decide)) (by rfl) (pa_cons (pv 3) (pa_cons (pv 5) pa_nil))) (pe_cal C_idle (hr.mono (by decide)) (by rfl) (pa_cons (pe_pr C_House_width T.clH (hr.mono (by decide)) (pv 1) rfl) pa_nil)) (nomark _)) (pw_or (pt_cmpR (op_eqB (EH rfl rfl rfl rfl rfl) (hr.mono (by decide))) (pv 4) (pe_caln CN_led_house (hr.mono (by decide)) (by rfl) (pk_cons (pv 3) (pk_cons (pv 1) pk_nil))) (nomark _)) (pw_or1 (pt_cmpR (op_eqB (EH rfl rfl rfl rfl rfl) (hr.mono (by decide))) (pe_cal C_led_house (hr.mono (by decide)) (by rfl) (pa_cons (pv 4) (pa_cons (pv 5) pa_nil))) (pv 1) (nomark _)))))) (pss_one (ps_ret pe_bl)) pss_nil)
      (pss_cons (ps_if (PW.pt (pw_or (pt_cmpR (op_eqB (rnB_lst (eqB_lst (EqB.of (E1 rfl rfl rfl rfl rfl) ref_rat))) (hr.mono (by decide))) (pe_cm C_House_table T.clH (hr.mono (by decide)) (pv 4) (pa_cons (pv 2) pa_nil)) (pe_cal C_times (hr.mono (by decide)) (by rfl) (pa_cons (pe_cal C_times (hr.mono (by decide)) (by rfl) (pa_cons (pv 3) (pa_cons (pe_cm C_House_table T.clH (hr.mono (by decide)) (pv 1) (pa_cons (pv 2) pa_nil)) pa_nil))) (pa_cons (pv 5) pa_nil))) (nomark _)) (pw_or1 (pt_cmpR (op_eqB (E2 rfl rfl rfl rfl rfl) (hr.mono (by decide))) (pe_cm C_House_word_sum T.clH (hr.mono (by decide)) (pv 4) (pa_cons (pv 2) pa_nil)) (pe_cm C_House_word_sum T.clH (hr.mono (by decide)) (pv 1) (pa_cons (pv 2) pa_nil)) (nomark _))))) (pss_one (ps_ret pe_bl)) pss_nil)
      (pss_one (ps_ret (pe_or (pe_cmpR op_eq (pe_pr C_House_width T.clH (hr.mono (by decide)) (pv 1) rfl) pe_int (nomark _)) (pe_one (pe_cmpR (op_eqB (rcB_lst (n := 2) (eqB_lst (n := 1) eqB_int)) (hr.mono (by decide))) (pe_cal C_base_words (hr.mono (by decide)) (by rfl) (pa_cons (pv 4) pa_nil)) (pe_cal C_base_words (hr.mono (by decide)) (by rfl) (pa_cons (pv 1) pa_nil)) (nomark _)))))))))), ?_⟩
    have s0 : StD p G H G H := .refl gh gp pt
    have ev1 : ∀ {σ : St} {G' : Hp}, σ[1]? = some (some v) → Same G G' → Ev (tVar 1) σ G' (rHou CR CH h) := fun e g => ev_var e (Mono.mono g hv)
    have ev2 : ∀ {σ : St} {G' : Hp}, σ[2]? = some (some u) → Same G G' → Ev (tVar 2) σ G' (rWd wd) := fun e g => ev_var e (Mono.mono g hu)
    refine qD_asg s0 (P := rLead h.n) (evD_call (eaD2 (P1 := rVal (.ref p)) (P2 := rInt (h.n : Int)) (ev_var rfl rfl : Ev (tVar 0) _ _ _).toD fun _ g => (ev_width (ev1 rfl g)).toD) fun G' H' vs _ _ ⟨y, y', e, e1, e2⟩ => ⟨h.n, by rw [e, show y = _ from e1, show y' = _ from e2], n1, by omega, rfl⟩) fun b3 G1 H1 d1 ⟨A, B, hA, hB, e3⟩ => ?_
    obtain ⟨a, sqp⟩ := law A B hA hB
    generalize hp : leadI h.n A B = pI at *
    have hpr : ratT (pI.map (·.map Nm.i)) = ratI pI := ratT_i pI
    have ok := a.ok
    have ok2 := ok_led ok a.uo
    have sqn : SqX h.n (pI.map (·.map Nm.i)) := sq_map sqp
    have squ := sq_und a.uo
    have l2 : (ledH h (ratI pI)).ls.length = h.ls.length := by unfold ledH; rw [List.length_map]
    have hk2 : ∀ k ∈ wd, k < (ledH h (ratI pI)).ls.length := fun k hk => by rw [l2]; exact a.wk k hk
    obtain ⟨d, e, hd, he, wb1, wb2, bp, bq, bw, bpw⟩ := a.wb
    obtain ⟨ld, le, lb⟩ := a.lb
    obtain ⟨ld', le', lb'⟩ := a.lb'
    have ev3 : ∀ {σ : St} {G' : Hp}, σ[3]? = some (some b3) → Same G1 G' → Ev (tVar 3) σ G' (rNT CR (pI.map (·.map Nm.i))) := fun e g => ev_ni (ev_var e (Mono.mono g e3))
    have g01 := d1.gg
    refine q_par d1.gh (P1 := rHou CR CH (ledH h (ratI pI))) (P2 := rTab CR (undT (ratI pI))) (ev_call (ea2 (P1 := rHou CR CH h) (P2 := rNT CR (pI.map (·.map Nm.i))) (ev1 rfl g01) fun _ g => ev3 rfl g) fun G' H' vs _ _ ⟨y, y', e, e1, e2⟩ => ⟨h, _, y, y', ld, le, e, e1, e2, ok, sqn, by rw [hpr]; exact a.uo, by rw [hpr]; exact lb, by rw [hpr]; rfl⟩) (fun _ g => ev_call (ea1 (P1 := rNT CR (pI.map (·.map Nm.i))) (ev3 rfl g)) fun G' H' vs _ _ ⟨y, e, e1⟩ => ⟨_, y, h.n, e, e1, sqn, by rw [hpr]; exact a.uo, by rw [hpr]⟩) fun b4 b5 G2 H2 s2 e4 e5 => ?_
    have g02 := g01.trans s2.gg
    have ev4 : ∀ {σ : St} {G' : Hp}, σ[4]? = some (some b4) → Same G2 G' → Ev (tVar 4) σ G' (rHou CR CH (ledH h (ratI pI))) := fun e g => ev_var e (Mono.mono g e4)
    have ev5 : ∀ {σ : St} {G' : Hp}, σ[5]? = some (some b5) → Same G2 G' → Ev (tVar 5) σ G' (rNT CR ((undT (ratI pI)).map (·.map Nm.q))) := fun e g => ev_nt (ev_var e (Mono.mono g e5))
    have hprn : (ratT (pI.map (·.map Nm.i))).flatten = (ratI pI).flatten := by rw [hpr]
    have ti : ∀ {σ : St} {G' : Hp}, σ[3]? = some (some b3) → σ[5]? = some (some b5) → Same G2 G' → Ev (tCall (spP (aTimes CR)) [] E0 (tCons (tVar 3) (tCons (tVar 5) tNil))) σ G' (rTab CR (idleT h.n)) := fun z3 z5 g => by
      rw [← a.idl]
      have := ev_times (CR := CR) (d := d) (e := e) (d' := d) (e' := e) sqn (sq_map squ) n1 n4 (by rw [hpr]; exact bp) (by rw [ratT_q]; exact bq) (by omega) (by omega) (by omega) (ev3 z3 (s2.gg.trans g)) fun _ g' => ev5 z5 (g.trans g')
      rw [hpr, ratT_q] at this
      exact this
    refine q_no s2.gh (et_is (et_or (b := decide (idleT h.n = idleT h.n) != true) (et_test (ev_eqD (r := rTab CR) (ti rfl rfl (.refl _)) fun _ g => ev_call (ea1 (P1 := rInt (h.n : Int)) (ev_width (ev1 rfl (g02.trans g)))) fun G' H' vs _ _ ⟨y, e, e1⟩ => ⟨h.n, by rw [e, show y = _ from e1], n1, n4, rfl⟩)) fun _ G3 g3 => et_or (b := decide ((ledH h (ratI pI)).ls = (ledH h (ratI pI)).ls) != true) (c := decide ((ledH (ledH h (ratI pI)) (undT (ratI pI))).ls = h.ls) != true) (et_test (ev_eqD (r := rHL CR CH) (hl_of (ev4 rfl g3)) fun G4 g4 => hl_of (h := ledH h (ratI pI)) (ev_caln (ea2 (P1 := rNT CR (pI.map (·.map Nm.i))) (P2 := rHou CR CH h) (ev3 rfl (s2.gg.trans (g3.trans g4))) fun _ g => ev1 rfl (g02.trans ((g3.trans g4).trans g))) (fun _ _ ⟨_, _, e, _⟩ => by rw [e]; rfl) fun G' H' vs _ _ ⟨y, y', e, e1, e2⟩ => ⟨h, _, y', y, ld, le, by rw [e]; rfl, e2, e1, ok, sqn, by rw [hpr]; exact a.uo, by rw [hpr]; exact lb, by rw [hpr]; rfl⟩))) fun _ G4 g4 => et_test (ev_eqD (r := rHL CR CH) (hl_of (h := ledH (ledH h (ratI pI)) (undT (ratI pI))) (ev_call (ea2 (P1 := rHou CR CH (ledH h (ratI pI))) (P2 := rNT CR (nmq (undT (ratI pI)))) (ev4 rfl (g3.trans g4)) fun _ g => ev5 rfl ((g3.trans g4).trans g)) fun G' H' vs _ _ ⟨y, y', e, e1, e2⟩ => ⟨ledH h (ratI pI), nmq (undT (ratI pI)), y, y', ld', le', e, e1, e2, ok2, (sq_map squ : SqX h.n (nmq (undT (ratI pI)))), by rw [ratT_q]; exact a.ub, by rw [ratT_q]; exact lb', by rw [ratT_q]; rfl⟩)) fun _ g => hl_of (ev1 rfl (g02.trans ((g3.trans g4).trans g))))) ?_) fun G3 H3 s3 => ?_
    · rw [a.back, ne_same, ne_same, ne_same]; rfl
    have g03 := g02.trans s3.gg
    refine q_no s3.gh (et_is (et_or (b := decide (wtab h.n (ledH h (ratI pI)).ls wd = prodT (prodT (ratI pI) (wtab h.n h.ls wd)) (undT (ratI pI))) != true) (c := decide (trT (wtab h.n (ledH h (ratI pI)).ls wd) = trT (wtab h.n h.ls wd)) != true) (et_test (ev_eqD (r := rTab CR) (ev_table ok2 a.wl hk2 wb2 hd he (ev4 rfl s3.gg) fun _ g => ev2 rfl (g03.trans g)) fun G4 g4 => ?_)) fun _ G4 g4 => et_test (ev_eqD (r := rRat CR) (ev_wsum ok2 a.wl hk2 wb2 hd he (ev4 rfl (s3.gg.trans g4)) fun _ g => ev2 rfl ((g03.trans g4).trans g)) fun G5 g5 => ev_wsum ok a.wl a.wk wb1 hd he (ev1 rfl ((g03.trans g4).trans g5)) fun _ g => ev2 rfl (((g03.trans g4).trans g5).trans g))) ?_) fun G4 H4 s4 => ?_
    · have sqw := sq_wtab n1 ok.sq wd a.wk
      have z1 := fun (G5 : Hp) (g5 : Same G4 G5) => ev_times (CR := CR) (σ := ((((L2.start ["_law_pot_here", "_law_house", "_law_word_here", "_law_lead_here", "_law_other", "_law_back"] [V.ref p, v, u]).set 3 (some b3)).set 4 (some b4)).set 5 (some b5))) (d := d) (e := e) (d' := d) (e' := e) sqn (sq_map sqw) n1 n4 (by rw [hpr]; exact bp) (by rw [ratT_q]; exact bw) (by omega) (by omega) (by omega) (ev3 rfl ((s2.gg.trans s3.gg).trans (g4.trans g5))) fun G6 g6 => ev_nt (ev_table ok a.wl a.wk wb1 hd he (ev1 rfl (g03.trans ((g4.trans g5).trans g6))) fun _ g => ev2 rfl (g03.trans (((g4.trans g5).trans g6).trans g)))
      have z2 := ev_times (CR := CR) (d := d) (e := e) (d' := d) (e' := e) (sq_map (wideOf_prod a.uo.sq sqw n1)) (sq_map squ) n1 n4 (by rw [ratT_q]; exact bpw) (by rw [ratT_q]; exact bq) (by omega) (by omega) (by omega) (ev_nt (by have := z1 G4 (.refl _); rw [hpr, ratT_q] at this; exact this)) fun G6 g6 => ev5 rfl (s3.gg.trans (g4.trans g6))
      rw [ratT_q, ratT_q] at z2
      exact z2
    · rw [a.tr, ← a.tab, ne_same, ne_same]; rfl
    have g04 := g03.trans s4.gg
    have dd : StD p G H G4 H4 := ((((s0.trans d1).andS s2).andS s3).andS s4)
    refine q_ret s4.gh (P := rBl true) ?_ fun z G5 H5 s5 e5 => k z G5 H5 (dd.andS s5) e5
    rcases a.dim with h3 | ⟨B, B', b1, b2, hl⟩
    · refine (ev_orV (b := decide ((h.n : Int) = 3)) (c := true) (ev_eqI (ev_width (ev1 rfl g04)) ev_int) fun hb => absurd (of_decide_eq_false hb) (by simp; omega)).imp fun _ _ _ e => ?_
      rw [show _ = _ from e, Bool.or_true]; rfl
    · refine (ev_orV (b := decide ((h.n : Int) = 3)) (c := true) (ev_eqI (ev_width (ev1 rfl g04)) ev_int) fun _ G5 g5 => (ev_eqD (r := rIT) (neg := false) ((ev_call (P := rLst rWd (B.map (·.1))) (ea1 (P1 := rHou CR CH (ledH h (ratI pI))) (ev4 rfl ((s3.gg.trans s4.gg).trans g5))) fun G' H' vs _ _ ⟨y, e, e1⟩ => ⟨_, B, y, e, e1, ok2, b1, rfl⟩).imp fun _ _ _ e => wds_ints e) fun G6 g6 => (ev_call (P := rLst rWd (B'.map (·.1))) (ea1 (P1 := rHou CR CH h) (ev1 rfl ((g04.trans g5).trans g6))) fun G' H' vs _ _ ⟨y, e, e1⟩ => ⟨_, B', y, e, e1, ok, b2, rfl⟩).imp fun _ _ _ e => wds_ints e).imp fun _ _ _ e => ?_).imp fun _ _ _ e => ?_
      · rw [show _ = _ from e, hl, decide_eq_true rfl]; rfl
      · rw [show _ = _ from e, Bool.or_true]; rfl
end
end K28
end
section
set_option Elab.async false
set_option linter.all false
set_option maxRecDepth 100000
set_option maxHeartbeats 4000000
set_option autoImplicit false
set_option exponentiation.threshold 20000
namespace K28
open PySem L2
def EvTD (p : Addr) (tt : TT) (σ : St) (G : Hp) (b : Bool) : Prop := ∀ H, Same G H → G p = none → Pt p H → ∀ Q : Bool → Hp → Prop, (∀ G' H', StD p G H G' H' → Q b H') → tt σ H Q
section
variable {p : Addr} {te : TE} {tt tu : TT} {σ : St} {G H G0 H0 : Hp} {b c : Bool} {u1 tz : TS} {D : Ends}
theorem etD_B (h : EvD p te σ G (rBl b)) : EvTD p (tB te) σ G b := fun H hh gp pt Q q => h H hh gp pt _ fun v G1 H1 s e => ⟨b, e, q G1 H1 s⟩
theorem etD_not (h : EvTD p tt σ G b) : EvTD p (tNot tt) σ G (!b) := fun H hh gp pt Q q => h H hh gp pt _ fun G1 H1 s => q G1 H1 s
theorem etD_or (h : EvTD p tt σ G b) (k : b = false → ∀ G', Same G G' → EvTD p tu σ G' c) : EvTD p (tOr tt tu) σ G (b || c) := fun H hh gp pt Q q => h H hh gp pt _ fun G1 H1 s => by
  cases b with
  | true => exact iteT (q G1 H1 s)
  | false => exact iteF (k rfl G1 s.gg H1 s.gh s.gp s.pt _ fun G2 H2 s2 => q G2 H2 (s.trans s2))
theorem qD_no (st : StD p G0 H0 G H) (h : EvTD p tt σ G b) (hb : b = false) (k : ∀ G' H', StD p G H G' H' → tz D σ H') : tSeq (tIfS tt u1 tNext) tz D σ H := h H st.gh st.gp st.pt _ fun G1 H1 s1 => by
  subst hb
  exact iteF (k G1 H1 s1)
end
section
variable {P : Program} {w : World} {K : PySem.W.Frag} {mg : Str → Option Value} {base : Heap} {CR CH : Addr} {f : Addr} {fd : FuncData}
def nmi (ls : List (List (List Int))) : List (List (List Nm)) := ls.map (·.map (·.map Nm.i))
def hsI (n : Nat) (ls : List (List (List Int))) : Hs := ⟨n, ls.map ratI⟩
theorem nmi_rat (ls : List (List (List Int))) : (nmi ls).map ratT = ls.map ratI := by
  unfold nmi
  rw [List.map_map]
  exact List.map_congr_left fun t _ => ratT_i t
theorem ln_int {G : Hp} {v : V} {ls : List (List (List Int))} (h : rLst rIT ls G v) : rLN CR (nmi ls) G v := rLst_map (fun x G u h => nt_int h) h
structure Drn (n : Nat) (ls : List (List (List Int))) : Prop where
  n1 : 1 ≤ n
  n4 : n ≤ 4
  m1 : 1 ≤ ls.length
  m3 : ls.length ≤ 3
  sq : ∀ t ∈ ls, Sq2 n t
theorem Drn.ok {n : Nat} {ls : List (List (List Int))} (h : Drn n ls) : LsOk n (nmi ls) := ⟨h.n1, h.n4, by unfold nmi; rw [List.length_map]; exact h.m1, by unfold nmi; rw [List.length_map]; exact h.m3, fun t ht => by
  unfold nmi at ht
  obtain ⟨q, hq, rfl⟩ := List.mem_map.mp ht
  exact sq_map (h.sq q hq).1⟩
/-- the plain laws -/
structure Laws : Prop where
  ab : ∀ n ls wd, Drn n ls → n ≤ 3 → wd.length ≤ 5 → (∀ k ∈ wd, k < ls.length) → AbF (hsI n ls) wd
  ld : ∀ n ls wd A B, Drn n ls → n ≤ 3 → wd.length ≤ 5 → (∀ k ∈ wd, k < ls.length) → ShU n A → ShL n B → LdF (hsI n ls) wd (ratI (leadI n A B))
  sd : ∀ n n' ls ls' wd, Drn n ls → Drn n' ls' → n + n' ≤ 4 → ls.length = ls'.length → wd.length ≤ 5 → (∀ k ∈ wd, k < ls.length) → SdF (hsI n ls) (hsI n' ls') wd
def rT2 (n : Nat) : HP := fun G v => ∃ t, rIT t G v ∧ Sq2 n t
instance {n : Nat} : Mono (rT2 n) := ⟨fun e ⟨t, h, k⟩ => ⟨t, Mono.mono e h, k⟩⟩
theorem sq_lead (n : Nat) (A B : Nat → Nat → Int) : SqX n (leadI n A B) := by
  unfold leadI ltimes lturn
  refine ⟨by rw [List.length_map]; exact (sq_mat n A).1, fun r hr => ?_⟩
  obtain ⟨q, _, rfl⟩ := List.mem_map.mp hr
  rw [List.length_map, List.length_map, List.length_range, (sq_mat n B).1]
def aRi : List V → Addr → Hp → Hp → HP → Prop := fun vs p _ _ R => vs = [.ref p] ∧ R = rBl true
theorem sc_law_right : FnScope ["_law_pot_here", "_law_size", "_law_letters_here", "_law_house", "_law_word_here", "_law_small", "_law_others", "_law_letter"] ["_law_pot_here"] (defScope s_law_right) := ⟨rfl, rfl, rfl, by decide +kernel, rfl, by decide +kernel, by decide +kernel⟩
theorem ok_law_right (T : Txt K mg CR CH) (L : Laws) (F : Fun K "_law_right" "_law_right" s_law_right f fd) (C_law_pick : Cal P w K mg base "_law_pick" 2 ["_law_pot_here", "_law_some"] (spD aPick)) (C_law_draw : Cal P w K mg base "_law_draw" 1 ["_law_pot_here", "_law_many"] (spD aDraw)) (C_law_letters : Cal P w K mg base "_law_letters" 3 ["_law_pot_here", "_law_size", "_law_most"] (spD aLL)) (C_law_word : Cal P w K mg base "_law_word" 2 ["_law_pot_here", "_law_many"] (spD aLW'))
    (C_House : CalMk P w K mg base "House" CH 7 ["self", "letters"] [] (spHI CR CH)) (C_law_about_right : Cal P w K mg base "_law_about_right" 11 ["_law_house", "_law_word_here"] (spP (aAR CR CH))) (C_law_led_right : Cal P w K mg base "_law_led_right" 11 ["_law_pot_here", "_law_house", "_law_word_here"] (spD (aLR CR CH))) (C_law_side_right : Cal P w K mg base "_law_side_right" 11 ["_law_house", "_law_other", "_law_word_here"] (spP (aSR CR CH))) :
    FnOk P w K mg base CX0 12 f fd ["_law_pot_here"] (spD aRi) := by
  refine F.ok sc_law_right (fun vs H Q E h => ?_) (fun cdv A outer s H vs Q E hr h => ?_)
  · obtain ⟨G, R, p, _, _, _, ⟨rfl, _⟩, _⟩ := h
    rfl
  · obtain ⟨G, R, p, gh, gp, pt, ⟨rfl, rfl⟩, k⟩ := h
    refine ⟨_, (pss_cons (ps_set (i := 1) sc_law_right.nd rfl (by first | exact Or.inl rfl | exact Or.inr rfl) (pe_cal C_law_pick (hr.mono (by decide)) (by rfl) (pa_cons (pv 0) (pa_cons (pe_lst (pa_cons pe_int (pa_cons pe_int (pa_cons pe_int (pa_cons pe_int (pa_cons pe_int pa_nil)))))) pa_nil))))
      (pss_cons (ps_set (i := 2) sc_law_right.nd rfl (by first | exact Or.inl rfl | exact Or.inr rfl) (pe_cal C_law_letters (hr.mono (by decide)) (by rfl) (pa_cons (pv 0) (pa_cons (pv 1) (pa_cons (pe_ifExp (pt_cmpR op_lt (pv 1) pe_int (nomark _)) pe_int pe_int) pa_nil)))))
      (pss_cons (ps_par (i := 3) (j := 4) (by rfl) sc_law_right.nd rfl rfl (by decide) rfl rfl (pa_cons (pe_mk C_House (hr.mono (by decide)) (by rfl) (pa_cons (pv 2) pa_nil)) (pa_cons (pe_cal C_law_word (hr.mono (by decide)) (by rfl) (pa_cons (pv 0) (pa_cons (pe_callB (call_lenK K) (by rfl) T.len PySem.boot_len (pa_cons (pv 2) pa_nil)) pa_nil))) pa_nil)) (by rfl))
      (pss_cons (ps_par (i := 5) (j := 6) (by rfl) sc_law_right.nd rfl rfl (by decide) rfl rfl (pa_cons (pe_op op_add pe_int (pe_cal C_law_draw (hr.mono (by decide)) (by rfl) (pa_cons (pv 0) (pa_cons (pe_op op_sub pe_int (pv 1)) pa_nil)))) (pa_cons (pe_lst pa_nil) pa_nil)) (by rfl))
      (pss_cons (ps_for PassesOwn.never rfl (pi_listK K (pv 2)) (pg_name (i := 7) sc_law_right.nd rfl (by first | exact Or.inl rfl | exact Or.inr rfl)) (pss_one (ps_expr (pe_bm PySem.F.plainAttrs_list PySem.F.slot_list_append PySem.F.type_list_append mt_append (pv 6) (pa_cons (pe_ix (ix_listK K) (pe_cal C_law_letters (hr.mono (by decide)) (by rfl) (pa_cons (pv 0) (pa_cons (pv 5) (pa_cons pe_int pa_nil)))) pe_int (fun _ _ => rfl)) pa_nil)))))
      (pss_cons (ps_if (PW.pt (pw_or (pt_not (pt_val (pe_cal C_law_about_right (hr.mono (by decide)) (by rfl) (pa_cons (pv 3) (pa_cons (pv 4) pa_nil))))) (pw_or1 (pt_not (pt_val (pe_cal C_law_led_right (hr.mono (by decide)) (by rfl) (pa_cons (pv 0) (pa_cons (pv 3) (pa_cons (pv 4) pa_nil))))))))) (pss_one (ps_ret pe_bl)) pss_nil)
      (pss_one (ps_ret (pe_and (pe_cal C_law_side_right (hr.mono (by decide)) (by rfl) (pa_cons (pv 3) (pa_cons (pe_mk C_House (hr.mono (by decide)) (by rfl) (pa_cons (pv 6) pa_nil)) (pa_cons (pv 4) pa_nil)))) (pe_one (pe_or (pe_cmpR op_gt (pv 1) pe_int (nomark _)) (pe_one (pe_cal C_law_side_right (hr.mono (by decide)) (by rfl) (pa_cons (pv 3) (pa_cons (pv 3) (pa_cons (pv 4) pa_nil)))))))))))))))), ?_⟩
    have s0 : StD p G H G H := .refl gh gp pt
    refine qD_asg s0 (P := rZ (· ∈ [2, 2, 1, 2, 3])) (ev_pick rfl (fun _ _ => evl_lst (evl_cons ev_int fun _ _ => evl_cons ev_int fun _ _ => evl_cons ev_int fun _ _ => evl_cons ev_int fun _ _ => evl_cons ev_int fun _ _ => evl_nil) (by decide)) (by decide) (by decide)) fun z G1 H1 d1 ⟨y, ez, hy⟩ => ?_
    subst ez
    obtain ⟨n, rfl, n1, n3⟩ : ∃ n : Nat, y = (n : Int) ∧ 1 ≤ n ∧ n ≤ 3 := by
      simp at hy
      exact ⟨y.toNat, by omega, by omega, by omega⟩
    -- letters
    let mm : Nat := if n < 3 then 3 else 2
    have mm3 : 1 ≤ mm ∧ mm ≤ 3 := by show 1 ≤ (if n < 3 then 3 else 2) ∧ (if n < 3 then 3 else 2) ≤ 3; split <;> decide
    refine qD_asg d1 (P := rDrawn n mm) (evD_call (eaD3 (P1 := rVal (.ref p)) (P2 := rInt (n : Int)) (P3 := rInt (mm : Int)) (ev_var rfl rfl : Ev (tVar 0) _ _ _).toD (fun _ _ => (ev_var rfl rfl : Ev (tVar 1) _ _ _).toD) fun _ _ => (ev_if (b := decide (n < 3)) (et_test ((ev_I0 (i := (n : Int)) (j := 3) (ev_var rfl rfl) ev_int).imp fun _ u _ e => ?_)) (fun hb _ _ => ev_int.imp fun _ u _ e => ?_) fun hb _ _ => ev_int.imp fun _ u _ e => ?_).toD) fun G' H' vs _ _ ⟨u, u', u'', e, e1, e2, e3⟩ => ⟨n, mm, by rw [e, show u = _ from e1, show u' = _ from e2, show u'' = _ from e3], n1, by omega, mm3.1, by omega, rfl⟩) fun lv G2 H2 d2 ⟨ls, hls, l1, lm, lsq⟩ => ?_
    · rw [show u = _ from e]
      refine congrArg V.bl ?_
      rw [decide_eq_decide]; omega
    · rw [show u = _ from e]
      show V.int 3 = V.int ((if n < 3 then 3 else 2 : Nat) : Int)
      rw [if_pos (of_decide_eq_true hb)]; rfl
    · rw [show u = _ from e]
      show V.int 2 = V.int ((if n < 3 then 3 else 2 : Nat) : Int)
      rw [if_neg (of_decide_eq_false hb)]; rfl
    have dr : Drn n ls := ⟨n1, by omega, l1, by omega, lsq⟩
    have s2 := d1.trans d2
    -- house, word
    have ev2 : ∀ {σ : St} {G' : Hp}, σ[2]? = some (some lv) → Same G2 G' → Ev (tVar 2) σ G' (rLst rIT ls) := fun e g => ev_var e (Mono.mono g hls)
    refine qD_par s2 (P1 := rHou CR CH ⟨n, (nmi ls).map ratT⟩) (P2 := rWord 5 ls.length) (ev_house ((ev2 rfl (.refl _)).imp fun _ _ _ e => ln_int e) dr.ok).toD (fun _ g => evD_call (eaD2 (P1 := rVal (.ref p)) (P2 := rInt (ls.length : Int)) (ev_var rfl rfl : Ev (tVar 0) _ _ _).toD fun _ g' => (ev_len (ev2 rfl (g.trans g'))).toD) fun G' H' vs _ _ ⟨u, u', e, e1, e2⟩ => ⟨ls.length, by rw [e, show u = _ from e1, show u' = _ from e2], l1, by omega, rfl⟩) fun hv wv G3 H3 d3 hh ⟨wd, hw, wl, wk⟩ => ?_
    rw [nmi_rat] at hh
    have s3 := s2.trans d3
    -- small, others
    have k4 : (4 : Int) - (n : Int) = ((4 - n : Nat) : Int) := by omega
    refine qD_parN (r := rIT) s3 (P := rNat fun x => 1 ≤ x ∧ x ≤ 4 - n) (evD_op (P1 := rInt 1) (P2 := rNat (· < 4 - n)) ev_int.toD (fun _ _ => ev_draw rfl (fun _ _ => (ev_I0 (i := 4) (j := (n : Int)) ev_int (ev_var rfl rfl)).imp fun _ u _ e => by rw [show u = _ from e]; exact congrArg V.int k4) (by omega) (by omega)) fun G' H' x y Q _ gh e1 ⟨d, e2, hd⟩ kk => ⟨1, (d : Int), e1, e2, kk _ _ _ (.refl gh) ⟨1 + d, by show V.int _ = V.int _; rw [Int.natCast_add]; rfl, by omega, by omega⟩⟩) fun z q G4 H4 nq hq s4 g34 ⟨n', ez, n1', n4'⟩ o4 => ?_
    subst ez
    have hh4 : rHou CR CH (hsI n ls) G4 hv := Mono.mono g34 hh
    have hw4 : rWd wd G4 wv := Mono.mono g34 hw
    refine qD_for (G0 := G) (H0 := H) s4 (src_list (r := rIT) (xs := ls) (ev2 rfl (d3.gg.trans g34))) (fun i G' H' σ' => ∃ o7 ls', σ' = [some (.ref p), some (.int (n : Int)), some lv, some hv, some wv, some (.int (n' : Int)), some (.ref q), o7] ∧ Own rIT ls' q G' H' ∧ ls'.length = i ∧ ∀ t ∈ ls', Sq2 n' t)
      (fun i G1 H1 G2 H2 σ s ⟨o7, ls', e, o, h⟩ => ⟨o7, ls', e, o.stepD nq s, h⟩) ⟨_, [], rfl, o4, rfl, fun t ht => by cases ht⟩ ?_ ?_
    · rintro i G5 H5 σ5 x hi s5 g5 ⟨o7, ls', rfl, o, hl, hsq⟩ hx N hN
      refine sD_grow (r := rIT) (P := rT2 n') s5 nq hq o rfl (evD_op (P1 := rDrawn n' 1) (P2 := rInt 0) (evD_call (eaD3 (P1 := rVal (.ref p)) (P2 := rInt (n' : Int)) (P3 := rInt 1) (ev_var rfl rfl : Ev (tVar 0) _ _ _).toD (fun _ _ => (ev_var rfl rfl : Ev (tVar 5) _ _ _).toD) fun _ _ => ev_int.toD) fun G' H' vs _ _ ⟨u, u', u'', e, e1, e2, e3⟩ => ⟨n', 1, by rw [e, show u = _ from e1, show u' = _ from e2, show u'' = _ from e3]; rfl, n1', by omega, by decide, by decide, rfl⟩) (fun _ _ => ev_int.toD) fun G' H' x y Q _ gh ⟨ts, ht, t1, _, tsq⟩ e2 kk => ?_) (by omega) fun v G9 H9 s9 ⟨t, ht, h2⟩ => ⟨t, ht, fun H10 s10 rest o10' => ?_⟩
      · obtain ⟨a, us, e1, h1, h2⟩ := ht
        obtain ⟨u, hu, ru⟩ := paired_at h2 (List.getElem?_eq_getElem t1)
        exact ⟨a, us, 0, u, e1, e2, .inl (.inl (gh _ _ h1)), atI_of (j := 0) rfl hu, kk _ _ _ (.refl gh) ⟨_, ru, tsq _ (List.getElem_mem _)⟩⟩
      · refine hN _ G9 H10 s10 rest.1 ⟨_, ls' ++ [t], rfl, o10', by rw [List.length_append, hl]; rfl, fun t' ht' => ?_⟩
        rcases List.mem_append.mp ht' with h | h
        · exact hsq t' h
        · rw [List.mem_singleton.mp h]; exact h2
    · rintro G5 H5 σ5 s5 g5 ⟨o7, ls', rfl, o, hl, hsq⟩
      obtain ⟨G6, s6, g6, hfound, _⟩ := o.frzD s5 nq hq
      have g46 := g5.trans g6
      have dr' : Drn n' ls' := ⟨n1', by omega, by omega, by omega, hsq⟩
      have ev3 : ∀ {σ : St} {G' : Hp}, σ[3]? = some (some hv) → Same G6 G' → Ev (tVar 3) σ G' (rHou CR CH (hsI n ls)) := fun e g => ev_var e (Mono.mono (g46.trans g) hh4)
      have ev4 : ∀ {σ : St} {G' : Hp}, σ[4]? = some (some wv) → Same G6 G' → Ev (tVar 4) σ G' (rWd wd) := fun e g => ev_var e (Mono.mono (g46.trans g) hw4)
      have wk' : ∀ k ∈ wd, k < ls.length := wk
      refine qD_no s6 (b := !true || !true) (etD_or (etD_not (etD_B (ev_call (P := rBl true) (ea2 (P1 := rHou CR CH (hsI n ls)) (P2 := rWd wd) (ev3 rfl (.refl _)) fun _ g => ev4 rfl g) fun G' H' vs _ _ ⟨u, u', e, e1, e2⟩ => ⟨_, wd, u, u', e, e1, e2, L.ab n ls wd dr n3 wl wk', rfl⟩ : Ev _ _ _ _).toD)) fun _ G7 g7 => etD_not (etD_B (evD_call (P := rBl true) (eaD3 (P1 := rVal (.ref p)) (P2 := rHou CR CH (hsI n ls)) (P3 := rWd wd) (ev_var rfl rfl : Ev (tVar 0) _ _ _).toD (fun _ g => (ev3 rfl (g7.trans g)).toD) fun _ g => (ev4 rfl (g7.trans g)).toD) fun G' H' vs _ _ ⟨u, u', u'', e, e1, e2, e3⟩ => ⟨hsI n ls, wd, u', u'', by rw [e, show u = _ from e1], e2, e3, n1, by show n ≤ 4; omega, fun A B hA hB => ⟨L.ld n ls wd A B dr n3 wl wk' hA hB, sq_lead n A B⟩, rfl⟩))) rfl fun G7 H7 d7 => ?_
      have s7 := s6.trans d7
      refine q_ret s7.gh (P := rBl true) (ev_andV (b := true) (c := true) (ev_call (ea3 (P1 := rHou CR CH (hsI n ls)) (P2 := rHou CR CH ⟨n', (nmi ls').map ratT⟩) (P3 := rWd wd) (ev3 rfl d7.gg) (fun _ g => ev_house ((ev_var rfl (Mono.mono (d7.gg.trans g) hfound) : Ev (tVar 6) _ _ (rLst rIT ls')).imp fun _ _ _ e => ln_int e) dr'.ok) fun _ g => ev4 rfl (d7.gg.trans g)) fun G' H' vs _ _ ⟨u, u', u'', e, e1, e2, e3⟩ => ⟨hsI n ls, hsI n' ls', wd, u, u', u'', e, e1, by rw [nmi_rat] at e2; exact e2, e3, L.sd n n' ls ls' wd dr dr' (by omega) hl.symm wl wk', rfl⟩) fun _ G8 g8 => ?_) fun z G8 H8 s8 e8 => k z G8 H8 (s7.andS s8) e8
      by_cases hn : 1 < n
      · refine (ev_orV (b := true) (c := true) ((ev_I0 (i := (n : Int)) (j := 1) (ev_var rfl rfl) ev_int).imp fun _ u _ e => ?_) fun e => nomatch e).imp fun _ _ _ e => e
        rw [show u = _ from e]
        exact congrArg V.bl (decide_eq_true (by omega))
      · refine (ev_orV (b := false) (c := true) ((ev_I0 (i := (n : Int)) (j := 1) (ev_var rfl rfl) ev_int).imp fun _ u _ e => ?_) fun _ G9 g9 => ev_call (ea3 (P1 := rHou CR CH (hsI n ls)) (P2 := rHou CR CH (hsI n ls)) (P3 := rWd wd) (ev3 rfl ((d7.gg.trans g8).trans g9)) (fun _ g => ev3 rfl (((d7.gg.trans g8).trans g9).trans g)) fun _ g => ev4 rfl (((d7.gg.trans g8).trans g9).trans g)) fun G' H' vs _ _ ⟨u, u', u'', e, e1, e2, e3⟩ => ⟨hsI n ls, hsI n ls, wd, u, u', u'', e, e1, e2, e3, L.sd n n ls ls wd dr dr (by omega) rfl wl wk', rfl⟩).imp fun _ _ _ e => e
        rw [show u = _ from e]
        exact congrArg V.bl (decide_eq_false (by omega))
def spLaw (K : PySem.W.Frag) : Sp := fun vs H Q _ => ∃ (a : Addr) (ns : List Int), vs = [.ref a] ∧ SqL K H a (ns.map V.int) ∧ ns.length ≤ 1000 ∧ ∀ H', Q (.bl true) H'
theorem sc_law : FnScope ["_law_script"] ["_law_script"] (defScope s_law) := ⟨rfl, rfl, rfl, by decide +kernel, rfl, by decide +kernel, by decide +kernel⟩
theorem ok_law (T : Txt K mg CR CH) (F : Fun K "law" "law" s_law f fd) (C_law_pot : Cal P w K mg base "_law_pot" 1 ["_law_script", "_law_k"] (spPot K)) (C_law_right : Cal P w K mg base "_law_right" 12 ["_law_pot_here"] (spD aRi)) : FnOk P w K mg base CX0 13 f fd ["_law_script"] (spLaw K) := by
  refine F.ok sc_law (fun vs H Q E h => ?_) (fun cdv A outer s H vs Q E hr h => ?_)
  · obtain ⟨a, ns, rfl, _⟩ := h
    rfl
  · obtain ⟨a, ns, rfl, hS, hl, k⟩ := h
    refine ⟨_, (pss_one (ps_ret (pe_cal C_law_right (hr.mono (by decide)) (by rfl) (pa_cons (pe_cal C_law_pot (hr.mono (by decide)) (by rfl) (pa_cons (pv 0) (pa_cons pe_int pa_nil))) pa_nil)))), ?_⟩
    refine ⟨_, rfl, H, ns, .ref a, .refl _, rfl, ⟨a, rfl, hS⟩, hl, fun p G' H' s hp gp pt => ?_⟩
    exact ⟨G', rBl true, p, s.gh, gp, pt, ⟨rfl, rfl⟩, fun v G2 H2 s2 e2 => by rw [show v = _ from e2]; exact k H2⟩
end
end K28
end
section
set_option Elab.async false
set_option linter.all false
set_option maxRecDepth 100000
set_option maxHeartbeats 4000000
set_option autoImplicit false
namespace K28
open PySem PySem.Spec PyProof.Rows L2
abbrev Says (K : PySem.W.Frag) : Prop := obsK fa fn ex K = (true, fn.map He5.DefA.val)
section
variable {K : PySem.W.Frag} {mg : Str → Option Value} {h : Heap} {P : Program} {w : World} {base : Heap}
theorem ba2 {a b : Bool} (h : (a && b) = true) : a = true ∧ b = true := Bool.and_eq_true_iff.mp h
theorem says1 (c : Says K) : (fa.all fun f => f.ok K) = true ∧ (fn.all fun d => d.ok K) = true ∧ ex K = true := by
  have e := congrArg Prod.fst c
  have e1 : (((fa.all fun f => f.ok K) && fn.all fun d => d.ok K) && ex K) = true := e
  obtain ⟨e2, e3⟩ := ba2 e1
  obtain ⟨e4, e5⟩ := ba2 e2
  exact ⟨e4, e5, e3⟩
theorem fact (c : Says K) (i : Nat) {f : He.Fa} (h : fa[i]? = some f := by rfl) : f.ok K = true := List.all_eq_true.mp (says1 c).1 f (List.mem_of_getElem? h)
theorem defn (c : Says K) (i : Nat) {d : He5.DefA} (h : fn[i]? = some d := by rfl) : ∃ fd, FunD K d.name d.qual d.params d.body d.scope (d.dvs K) (d.kws K) (d.at_ K) fd := by
  refine He5.DefA.funD ?_ (List.all_eq_true.mp (says1 c).2.1 d (List.mem_of_getElem? h))
  have e := congrArg Prod.snd c
  have e1 : (fn.map fun d => He5.fnA K (d.at_ K)) = fn.map He5.DefA.val := e
  have e2 := congrArg (fun l => l[i]?) e1
  simp only [List.getElem?_map, h] at e2
  exact Option.some.inj e2
theorem cal_of {x : Str} {st : Stmt} {fd : FuncData} {k : Nat} {ps : List Str} {sp : Sp} {f : Addr} (hg : mg x = some (.ref f)) (F : FunD K x x (defArgs st) (defBody st) (defScope st) [] [] f fd) (ok : Fun K x x st f fd → FnOk P w K mg base CX0 k f fd ps sp)
    (hb : ∀ (kV doc pm : Value) (an : Option Addr) (cdv ct : Value) (us : List Value), us.length = ps.length → bindArgs (PySem.W.fnOf x x (defArgs st) (defBody st) (defScope st) .none kV doc pm an cdv ct) ⟨us, []⟩ = pure (ps.zip us)) : Cal P w K mg base x k ps sp :=
  ⟨f, fd, hg, F.kp, F.bindsN hb, ok (He5.fun_of F)⟩
theorem pr_of {C : Addr} {m : Str} (h : propB K C m = true) : PropOf K C m (He.ma K C m) (pget K (He.ma K C m)) := by
  unfold propB at h
  obtain ⟨h1, h⟩ := ba2 h
  obtain ⟨h2, h⟩ := ba2 h
  obtain ⟨h3, h4⟩ := ba2 h
  refine ⟨He.eqO_ok h1, He.eqO_ok h2, of_decide_eq_true h3, ?_⟩
  unfold pget
  cases e : PySem.W.recIn K (He.ma K C m) "property" with
  | none => rw [e] at h4; cases h4
  | some l =>
    rw [e] at h4
    cases l with
    | nil => cases h4
    | cons v l =>
      cases v with
      | ref a => exact ⟨l, rfl⟩
      | _ => cases h4

theorem txt_of (X : K.In h) (G : h.Ns mainGlobals mg) (c : Says K) : Txt K mg (He.ga K "Ratio") (He.ga K "House") := by
  have e := (says1 c).2.2
  unfold ex at e
  obtain ⟨e, x_kHH⟩ := ba2 e
  obtain ⟨e, x_klR⟩ := ba2 e
  obtain ⟨e, x_kiR⟩ := ba2 e
  obtain ⟨e, x_kRi⟩ := ba2 e
  obtain ⟨e, x_kRR⟩ := ba2 e
  obtain ⟨e, x_sH⟩ := ba2 e
  obtain ⟨e, x_sR⟩ := ba2 e
  obtain ⟨e, x_nR⟩ := ba2 e
  obtain ⟨e, x_nH⟩ := ba2 e
  obtain ⟨e, x_fH⟩ := ba2 e
  obtain ⟨e, x_fE⟩ := ba2 e
  obtain ⟨e, x_fA⟩ := ba2 e
  obtain ⟨e, x_iH⟩ := ba2 e
  obtain ⟨e, x_iR⟩ := ba2 e
  obtain ⟨e, x_pM⟩ := ba2 e
  obtain ⟨e, x_pW⟩ := ba2 e
  obtain ⟨e, x_pS⟩ := ba2 e
  obtain ⟨e, x_lcm⟩ := ba2 e
  have x_gcd := e
  obtain ⟨aR, x_iR⟩ := ba2 x_iR
  obtain ⟨gC, x_iR⟩ := ba2 x_iR
  obtain ⟨tC, mR⟩ := ba2 x_iR
  obtain ⟨aH, x_iH⟩ := ba2 x_iH
  obtain ⟨_, x_iH⟩ := ba2 x_iH
  obtain ⟨_, mH⟩ := ba2 x_iH
  exact {
    clR := He.cls_ok (fact c 89 (f := .cls "Ratio")),
    clH := He.cls_ok (fact c 90 (f := .cls "House")),
    nTop := He.noat_ok (fact c 91 (f := .noat "Ratio" "own_top")),
    nBot := He.noat_ok (fact c 92 (f := .noat "Ratio" "own_bottom")),
    nLet := He.noat_ok (fact c 93 (f := .noat "House" "own_letters")),
    nWid := He.noat_ok (fact c 94 (f := .noat "House" "own_width")),
    mgR := He.glo_ok X G (fact c 68 (f := .glo "Ratio")),
    mgH := He.glo_ok X G (fact c 69 (f := .glo "House")),
    kRR := of_decide_eq_true x_kRR,
    kRi := of_decide_eq_true x_kRi,
    kiR := of_decide_eq_true x_kiR,
    kHH := of_decide_eq_true x_kHH,
    aR := He.eqO_ok aR,
    aH := He.eqO_ok aH,
    gC := He.eqO_ok gC,
    tC := of_decide_eq_true tC,
    mR := of_decide_eq_true mR,
    mH := of_decide_eq_true mH,
    len := He.free_ok X G (fact c 70 (f := .free "len")),
    range := He.free_ok X G (fact c 71 (f := .free "range")),
    zip := He.free_ok X G (fact c 72 (f := .free "zip")),
    isinstance := He.free_ok X G (fact c 73 (f := .free "isinstance")),
    int := He.free_ok X G (fact c 74 (f := .free "int")),
    bool := He.free_ok X G (fact c 75 (f := .free "bool")),
    tuple := He.free_ok X G (fact c 76 (f := .free "tuple")),
    list := He.free_ok X G (fact c 77 (f := .free "list")),
    sum := He.free_ok X G (fact c 78 (f := .free "sum")),
    any := He.free_ok X G (fact c 79 (f := .free "any")),
    all := He.free_ok X G (fact c 80 (f := .free "all")),
    enumerate := He.free_ok X G (fact c 81 (f := .free "enumerate")),
    abs := He.free_ok X G (fact c 82 (f := .free "abs")),
    max := He.free_ok X G (fact c 83 (f := .free "max")),
    divmod := He.free_ok X G (fact c 84 (f := .free "divmod")),
    gcd := PySem.W.mg_of X G (He.eqO_ok x_gcd),
    lcm := PySem.W.mg_of X G (He.eqO_ok x_lcm),
    mst := He.int_ok X G (fact c 85 (f := .int "MOST_SIZE_tables" 4)),
    msl := He.int_ok X G (fact c 86 (f := .int "MOST_LETTERS" 3)),
    msw := He.int_ok X G (fact c 87 (f := .int "MOST_WORD" 16)),
    msh := He.int_ok X G (fact c 88 (f := .int "MOST_SIZE_houses" 4)) }
theorem ins_hl {CR CH : Addr} : IsIns (rHL CR CH) CH := fun _ _ _ ⟨n, a, dx, lv, h1, h2, _⟩ => ⟨a, dx, _, h1, h2⟩
theorem eqsp_hl {CR CH : Addr} : EqSp (rHL CR CH) (spP (aEqH CR CH)) := fun x y p q H Q ⟨n, h1⟩ ⟨m, h2⟩ k => ⟨H, _, .refl _, ⟨⟨n, p⟩, ⟨m, q⟩, x, y, rfl, h1, h2, rfl⟩, fun v G' H' s e => by rw [show v = _ from e]; exact k H' s.hh⟩
theorem vals_app {xs ys : List V} {us ws : List Value} (h : Vals xs us) (k : Vals ys ws) : Vals (xs ++ ys) (us ++ ws) := h.append k
theorem vals_rev {zs : List V} {ws : List Value} (h : Vals zs ws) : Vals zs.reverse ws.reverse := by
  induction h with
  | nil => exact .nil
  | cons a t ih => rw [List.reverse_cons, List.reverse_cons]; exact vals_app ih (.cons a .nil)

theorem facts {f : Addr} (X : K.In h) (G : h.Ns mainGlobals mg) (hfa : mg ("law" : Str) = some (.ref f)) (c : Says K) (LW : Laws) : ∃ fd : FuncData, (∀ (s : Shared) (v : Value), BindsTo s fd ⟨[v], []⟩ [("_law_script", v)]) ∧ ∀ base : Heap, K.In base → base.Ns mainGlobals mg → FnOk P w K mg base CX0 13 f fd ["_law_script"] (spLaw K) := by
  have T := txt_of X G c
  have e := (says1 c).2.2
  unfold ex at e
  obtain ⟨e, x_kHH⟩ := ba2 e
  obtain ⟨e, x_klR⟩ := ba2 e
  obtain ⟨e, x_kiR⟩ := ba2 e
  obtain ⟨e, x_kRi⟩ := ba2 e
  obtain ⟨e, x_kRR⟩ := ba2 e
  obtain ⟨e, x_sH⟩ := ba2 e
  obtain ⟨e, x_sR⟩ := ba2 e
  obtain ⟨e, x_nR⟩ := ba2 e
  obtain ⟨e, x_nH⟩ := ba2 e
  obtain ⟨e, x_fH⟩ := ba2 e
  obtain ⟨e, x_fE⟩ := ba2 e
  obtain ⟨e, x_fA⟩ := ba2 e
  obtain ⟨e, x_iH⟩ := ba2 e
  obtain ⟨e, x_iR⟩ := ba2 e
  obtain ⟨e, x_pM⟩ := ba2 e
  obtain ⟨e, x_pW⟩ := ba2 e
  obtain ⟨e, x_pS⟩ := ba2 e
  obtain ⟨e, x_lcm⟩ := ba2 e
  obtain ⟨fd_is_integer, (F_is_integer : FunD K "is_integer" "is_integer" (defArgs s_is_integer) (defBody s_is_integer) (defScope s_is_integer) [] [] (He.ga K "is_integer") fd_is_integer)⟩ := defn c 0 (d := d_is_integer) rfl
  obtain ⟨fd_is_count, (F_is_count : FunD K "is_count" "is_count" (defArgs s_is_count) (defBody s_is_count) (defScope s_is_count) [] [] (He.ga K "is_count") fd_is_count)⟩ := defn c 1 (d := d_is_count) rfl
  obtain ⟨fd_is_list, (F_is_list : FunD K "is_list" "is_list" (defArgs s_is_list) (defBody s_is_list) (defScope s_is_list) [] [] (He.ga K "is_list") fd_is_list)⟩ := defn c 2 (d := d_is_list) rfl
  obtain ⟨fd_want_at_most, (F_want_at_most : FunD K "want_at_most" "want_at_most" (defArgs s_want_at_most) (defBody s_want_at_most) (defScope s_want_at_most) [] [] (He.ga K "want_at_most") fd_want_at_most)⟩ := defn c 3 (d := d_want_at_most) rfl
  obtain ⟨fd_divisor_of, (F_divisor_of : FunD K "divisor_of" "divisor_of" (defArgs s_divisor_of) (defBody s_divisor_of) (defScope s_divisor_of) [] [] (He.ga K "divisor_of") fd_divisor_of)⟩ := defn c 4 (d := d_divisor_of) rfl
  obtain ⟨fd_Ratio_init, (F_Ratio_init : FunD K "__init__" "Ratio.__init__" (defArgs s_Ratio_init) (defBody s_Ratio_init) (defScope s_Ratio_init) [.int 1] [] (He.ma K (He.ga K "Ratio") "__init__") fd_Ratio_init)⟩ := defn c 5 (d := d_Ratio_init) rfl
  obtain ⟨fd_Ratio_sign, (F_Ratio_sign : FunD K "sign" "Ratio.sign" (defArgs s_Ratio_sign) (defBody s_Ratio_sign) (defScope s_Ratio_sign) [] [] (pget K (He.ma K (He.ga K "Ratio") "sign")) fd_Ratio_sign)⟩ := defn c 6 (d := d_Ratio_sign) rfl
  obtain ⟨fd_Ratio_add, (F_Ratio_add : FunD K "__add__" "Ratio.__add__" (defArgs s_Ratio_add) (defBody s_Ratio_add) (defScope s_Ratio_add) [] [] (He.ma K (He.ga K "Ratio") "__add__") fd_Ratio_add)⟩ := defn c 7 (d := d_Ratio_add) rfl
  obtain ⟨fd_Ratio_eq, (F_Ratio_eq : FunD K "__eq__" "Ratio.__eq__" (defArgs s_Ratio_eq) (defBody s_Ratio_eq) (defScope s_Ratio_eq) [] [] (He.ma K (He.ga K "Ratio") "__eq__") fd_Ratio_eq)⟩ := defn c 8 (d := d_Ratio_eq) rfl
  obtain ⟨fd_told_pair, (F_told_pair : FunD K "told_pair" "told_pair" (defArgs s_told_pair) (defBody s_told_pair) (defScope s_told_pair) [] [] (He.ga K "told_pair") fd_told_pair)⟩ := defn c 9 (d := d_told_pair) rfl
  obtain ⟨fd_is_number, (F_is_number : FunD K "is_number" "is_number" (defArgs s_is_number) (defBody s_is_number) (defScope s_is_number) [] [] (He.ga K "is_number") fd_is_number)⟩ := defn c 10 (d := d_is_number) rfl
  obtain ⟨fd_ratio_of, (F_ratio_of : FunD K "ratio_of" "ratio_of" (defArgs s_ratio_of) (defBody s_ratio_of) (defScope s_ratio_of) [] [] (He.ga K "ratio_of") fd_ratio_of)⟩ := defn c 11 (d := d_ratio_of) rfl
  obtain ⟨fd_wholes, (F_wholes : FunD K "wholes" "wholes" (defArgs s_wholes) (defBody s_wholes) (defScope s_wholes) [] [] (He.ga K "wholes") fd_wholes)⟩ := defn c 12 (d := d_wholes) rfl
  obtain ⟨fd_total_of, (F_total_of : FunD K "total_of" "total_of" (defArgs s_total_of) (defBody s_total_of) (defScope s_total_of) [] [] (He.ga K "total_of") fd_total_of)⟩ := defn c 13 (d := d_total_of) rfl
  obtain ⟨fd_ints_of, (F_ints_of : FunD K "ints_of" "ints_of" (defArgs s_ints_of) (defBody s_ints_of) (defScope s_ints_of) [] [] (He.ga K "ints_of") fd_ints_of)⟩ := defn c 14 (d := d_ints_of) rfl
  obtain ⟨fd_bare_row, (F_bare_row : FunD K "bare_row" "bare_row" (defArgs s_bare_row) (defBody s_bare_row) (defScope s_bare_row) [] [] (He.ga K "bare_row") fd_bare_row)⟩ := defn c 15 (d := d_bare_row) rfl
  obtain ⟨fd_cleared, (F_cleared : FunD K "cleared" "cleared" (defArgs s_cleared) (defBody s_cleared) (defScope s_cleared) [] [] (He.ga K "cleared") fd_cleared)⟩ := defn c 16 (d := d_cleared) rfl
  obtain ⟨fd_first_at, (F_first_at : FunD K "first_at" "first_at" (defArgs s_first_at) (defBody s_first_at) (defScope s_first_at) [] [] (He.ga K "first_at") fd_first_at)⟩ := defn c 17 (d := d_first_at) rfl
  obtain ⟨fd_headed_row, (F_headed_row : FunD K "headed_row" "headed_row" (defArgs s_headed_row) (defBody s_headed_row) (defScope s_headed_row) [] [] (He.ga K "headed_row") fd_headed_row)⟩ := defn c 18 (d := d_headed_row) rfl
  obtain ⟨fd_int_steps, (F_int_steps : FunD K "int_steps" "int_steps" (defArgs s_int_steps) (defBody s_int_steps) (defScope s_int_steps) [] [] (He.ga K "int_steps") fd_int_steps)⟩ := defn c 19 (d := d_int_steps) rfl
  obtain ⟨fd_head_of, (F_head_of : FunD K "head_of" "head_of" (defArgs s_head_of) (defBody s_head_of) (defScope s_head_of) [] [] (He.ga K "head_of") fd_head_of)⟩ := defn c 20 (d := d_head_of) rfl
  obtain ⟨fd_told_rows, (F_told_rows : FunD K "told_rows" "told_rows" (defArgs s_told_rows) (defBody s_told_rows) (defScope s_told_rows) [] [] (He.ga K "told_rows") fd_told_rows)⟩ := defn c 21 (d := d_told_rows) rfl
  obtain ⟨fd_steps_of, (F_steps_of : FunD K "steps_of" "steps_of" (defArgs s_steps_of) (defBody s_steps_of) (defScope s_steps_of) [] [] (He.ga K "steps_of") fd_steps_of)⟩ := defn c 22 (d := d_steps_of) rfl
  obtain ⟨fd_are_numbers, (F_are_numbers : FunD K "are_numbers" "are_numbers" (defArgs s_are_numbers) (defBody s_are_numbers) (defScope s_are_numbers) [] [] (He.ga K "are_numbers") fd_are_numbers)⟩ := defn c 23 (d := d_are_numbers) rfl
  obtain ⟨fd_table_in, (F_table_in : FunD K "table_in" "table_in" (defArgs s_table_in) (defBody s_table_in) (defScope s_table_in) [] [] (He.ga K "table_in") fd_table_in)⟩ := defn c 24 (d := d_table_in) rfl
  obtain ⟨fd_want_table, (F_want_table : FunD K "want_table" "want_table" (defArgs s_want_table) (defBody s_want_table) (defScope s_want_table) [] [] (He.ga K "want_table") fd_want_table)⟩ := defn c 25 (d := d_want_table) rfl
  obtain ⟨fd_want_sized, (F_want_sized : FunD K "want_sized" "want_sized" (defArgs s_want_sized) (defBody s_want_sized) (defScope s_want_sized) [] [] (He.ga K "want_sized") fd_want_sized)⟩ := defn c 26 (d := d_want_sized) rfl
  obtain ⟨fd_bare_table, (F_bare_table : FunD K "bare_table" "bare_table" (defArgs s_bare_table) (defBody s_bare_table) (defScope s_bare_table) [] [] (He.ga K "bare_table") fd_bare_table)⟩ := defn c 27 (d := d_bare_table) rfl
  obtain ⟨fd_int_product, (F_int_product : FunD K "int_product" "int_product" (defArgs s_int_product) (defBody s_int_product) (defScope s_int_product) [] [] (He.ga K "int_product") fd_int_product)⟩ := defn c 28 (d := d_int_product) rfl
  obtain ⟨fd_over_bottom, (F_over_bottom : FunD K "over_bottom" "over_bottom" (defArgs s_over_bottom) (defBody s_over_bottom) (defScope s_over_bottom) [] [] (He.ga K "over_bottom") fd_over_bottom)⟩ := defn c 29 (d := d_over_bottom) rfl
  obtain ⟨fd_idle_of, (F_idle_of : FunD K "idle_of" "idle_of" (defArgs s_idle_of) (defBody s_idle_of) (defScope s_idle_of) [] [] (He.ga K "idle_of") fd_idle_of)⟩ := defn c 30 (d := d_idle_of) rfl
  obtain ⟨fd_product_of, (F_product_of : FunD K "product_of" "product_of" (defArgs s_product_of) (defBody s_product_of) (defScope s_product_of) [] [] (He.ga K "product_of") fd_product_of)⟩ := defn c 31 (d := d_product_of) rfl
  obtain ⟨fd_line_sum, (F_line_sum : FunD K "line_sum" "line_sum" (defArgs s_line_sum) (defBody s_line_sum) (defScope s_line_sum) [] [] (He.ga K "line_sum") fd_line_sum)⟩ := defn c 32 (d := d_line_sum) rfl
  obtain ⟨fd_about_of, (F_about_of : FunD K "about_of" "about_of" (defArgs s_about_of) (defBody s_about_of) (defScope s_about_of) [] [] (He.ga K "about_of") fd_about_of)⟩ := defn c 33 (d := d_about_of) rfl
  obtain ⟨fd_undone_of, (F_undone_of : FunD K "undone_of" "undone_of" (defArgs s_undone_of) (defBody s_undone_of) (defScope s_undone_of) [] [] (He.ga K "undone_of") fd_undone_of)⟩ := defn c 34 (d := d_undone_of) rfl
  obtain ⟨fd_long_of, (F_long_of : FunD K "long_of" "long_of" (defArgs s_long_of) (defBody s_long_of) (defScope s_long_of) [] [] (He.ga K "long_of") fd_long_of)⟩ := defn c 35 (d := d_long_of) rfl
  obtain ⟨fd_two_tables, (F_two_tables : FunD K "two_tables" "two_tables" (defArgs s_two_tables) (defBody s_two_tables) (defScope s_two_tables) [] [] (He.ga K "two_tables") fd_two_tables)⟩ := defn c 36 (d := d_two_tables) rfl
  obtain ⟨fd_want_alike, (F_want_alike : FunD K "want_alike" "want_alike" (defArgs s_want_alike) (defBody s_want_alike) (defScope s_want_alike) [] [] (He.ga K "want_alike") fd_want_alike)⟩ := defn c 37 (d := d_want_alike) rfl
  obtain ⟨fd_idle, (F_idle : FunD K "idle" "idle" (defArgs s_idle) (defBody s_idle) (defScope s_idle) [] [] (He.ga K "idle") fd_idle)⟩ := defn c 38 (d := d_idle) rfl
  obtain ⟨fd_times, (F_times : FunD K "times" "times" (defArgs s_times) (defBody s_times) (defScope s_times) [] [] (He.ga K "times") fd_times)⟩ := defn c 39 (d := d_times) rfl
  obtain ⟨fd_about, (F_about : FunD K "about" "about" (defArgs s_about) (defBody s_about) (defScope s_about) [] [] (He.ga K "about") fd_about)⟩ := defn c 40 (d := d_about) rfl
  obtain ⟨fd_undone, (F_undone : FunD K "undone" "undone" (defArgs s_undone) (defBody s_undone) (defScope s_undone) [] [] (He.ga K "undone") fd_undone)⟩ := defn c 41 (d := d_undone) rfl
  obtain ⟨fd_letters_in, (F_letters_in : FunD K "letters_in" "letters_in" (defArgs s_letters_in) (defBody s_letters_in) (defScope s_letters_in) [] [] (He.ga K "letters_in") fd_letters_in)⟩ := defn c 42 (d := d_letters_in) rfl
  obtain ⟨fd_House_init, (F_House_init : FunD K "__init__" "House.__init__" (defArgs s_House_init) (defBody s_House_init) (defScope s_House_init) [] [] (He.ma K (He.ga K "House") "__init__") fd_House_init)⟩ := defn c 43 (d := d_House_init) rfl
  obtain ⟨fd_House_width, (F_House_width : FunD K "width" "House.width" (defArgs s_House_width) (defBody s_House_width) (defScope s_House_width) [] [] (pget K (He.ma K (He.ga K "House") "width")) fd_House_width)⟩ := defn c 44 (d := d_House_width) rfl
  obtain ⟨fd_House_many, (F_House_many : FunD K "many" "House.many" (defArgs s_House_many) (defBody s_House_many) (defScope s_House_many) [] [] (pget K (He.ma K (He.ga K "House") "many")) fd_House_many)⟩ := defn c 45 (d := d_House_many) rfl
  obtain ⟨fd_House_letters, (F_House_letters : FunD K "letters" "House.letters" (defArgs s_House_letters) (defBody s_House_letters) (defScope s_House_letters) [] [] (He.ma K (He.ga K "House") "letters") fd_House_letters)⟩ := defn c 46 (d := d_House_letters) rfl
  obtain ⟨fd_House_table, (F_House_table : FunD K "table" "House.table" (defArgs s_House_table) (defBody s_House_table) (defScope s_House_table) [] [] (He.ma K (He.ga K "House") "table") fd_House_table)⟩ := defn c 47 (d := d_House_table) rfl
  obtain ⟨fd_House_word_sum, (F_House_word_sum : FunD K "word_sum" "House.word_sum" (defArgs s_House_word_sum) (defBody s_House_word_sum) (defScope s_House_word_sum) [] [] (He.ma K (He.ga K "House") "word_sum") fd_House_word_sum)⟩ := defn c 48 (d := d_House_word_sum) rfl
  obtain ⟨fd_House_eq, (F_House_eq : FunD K "__eq__" "House.__eq__" (defArgs s_House_eq) (defBody s_House_eq) (defScope s_House_eq) [] [] (He.ma K (He.ga K "House") "__eq__") fd_House_eq)⟩ := defn c 49 (d := d_House_eq) rfl
  obtain ⟨fd_want_house, (F_want_house : FunD K "want_house" "want_house" (defArgs s_want_house) (defBody s_want_house) (defScope s_want_house) [] [] (He.ga K "want_house") fd_want_house)⟩ := defn c 50 (d := d_want_house) rfl
  obtain ⟨fd_house_of, (F_house_of : FunD K "house_of" "house_of" (defArgs s_house_of) (defBody s_house_of) (defScope s_house_of) [] [] (He.ga K "house_of") fd_house_of)⟩ := defn c 51 (d := d_house_of) rfl
  obtain ⟨fd_word_in, (F_word_in : FunD K "word_in" "word_in" (defArgs s_word_in) (defBody s_word_in) (defScope s_word_in) [] [] (He.ga K "word_in") fd_word_in)⟩ := defn c 52 (d := d_word_in) rfl
  obtain ⟨fd_want_word, (F_want_word : FunD K "want_word" "want_word" (defArgs s_want_word) (defBody s_want_word) (defScope s_want_word) [] [] (He.ga K "want_word") fd_want_word)⟩ := defn c 53 (d := d_want_word) rfl
  obtain ⟨fd_word_table, (F_word_table : FunD K "word_table" "word_table" (defArgs s_word_table) (defBody s_word_table) (defScope s_word_table) [] [] (He.ga K "word_table") fd_word_table)⟩ := defn c 54 (d := d_word_table) rfl
  obtain ⟨fd_want_pair, (F_want_pair : FunD K "want_pair" "want_pair" (defArgs s_want_pair) (defBody s_want_pair) (defScope s_want_pair) [] [] (He.ga K "want_pair") fd_want_pair)⟩ := defn c 55 (d := d_want_pair) rfl
  obtain ⟨fd_about_house, (F_about_house : FunD K "about_house" "about_house" (defArgs s_about_house) (defBody s_about_house) (defScope s_about_house) [] [] (He.ga K "about_house") fd_about_house)⟩ := defn c 56 (d := d_about_house) rfl
  obtain ⟨fd_on_line, (F_on_line : FunD K "on_line" "on_line" (defArgs s_on_line) (defBody s_on_line) (defScope s_on_line) [] [] (He.ga K "on_line") fd_on_line)⟩ := defn c 57 (d := d_on_line) rfl
  obtain ⟨fd_side, (F_side : FunD K "side" "side" (defArgs s_side) (defBody s_side) (defScope s_side) [] [] (He.ga K "side") fd_side)⟩ := defn c 58 (d := d_side) rfl
  obtain ⟨fd_led_house, (F_led_house : FunD K "led_house" "led_house" (defArgs s_led_house) (defBody s_led_house) (defScope s_led_house) [] [] (He.ga K "led_house") fd_led_house)⟩ := defn c 59 (d := d_led_house) rfl
  obtain ⟨fd_left_of, (F_left_of : FunD K "left_of" "left_of" (defArgs s_left_of) (defBody s_left_of) (defScope s_left_of) [] [] (He.ga K "left_of") fd_left_of)⟩ := defn c 60 (d := d_left_of) rfl
  obtain ⟨fd_long_with, (F_long_with : FunD K "long_with" "long_with" (defArgs s_long_with) (defBody s_long_with) (defScope s_long_with) [] [] (He.ga K "long_with") fd_long_with)⟩ := defn c 61 (d := d_long_with) rfl
  obtain ⟨fd_base_with, (F_base_with : FunD K "base_with" "base_with" (defArgs s_base_with) (defBody s_base_with) (defScope s_base_with) [] [] (He.ga K "base_with") fd_base_with)⟩ := defn c 62 (d := d_base_with) rfl
  obtain ⟨fd_base_of, (F_base_of : FunD K "base_of" "base_of" (defArgs s_base_of) (defBody s_base_of) (defScope s_base_of) [] [] (He.ga K "base_of") fd_base_of)⟩ := defn c 63 (d := d_base_of) rfl
  obtain ⟨fd_base_words, (F_base_words : FunD K "base_words" "base_words" (defArgs s_base_words) (defBody s_base_words) (defScope s_base_words) [] [] (He.ga K "base_words") fd_base_words)⟩ := defn c 64 (d := d_base_words) rfl
  obtain ⟨fd_dimension, (F_dimension : FunD K "dimension" "dimension" (defArgs s_dimension) (defBody s_dimension) (defScope s_dimension) [] [] (He.ga K "dimension") fd_dimension)⟩ := defn c 65 (d := d_dimension) rfl
  obtain ⟨fd_law_pot, (F_law_pot : FunD K "_law_pot" "_law_pot" (defArgs s_law_pot) (defBody s_law_pot) (defScope s_law_pot) [] [] (He.ga K "_law_pot") fd_law_pot)⟩ := defn c 66 (d := d_law_pot) rfl
  obtain ⟨fd_law_draw, (F_law_draw : FunD K "_law_draw" "_law_draw" (defArgs s_law_draw) (defBody s_law_draw) (defScope s_law_draw) [] [] (He.ga K "_law_draw") fd_law_draw)⟩ := defn c 67 (d := d_law_draw) rfl
  obtain ⟨fd_law_pick, (F_law_pick : FunD K "_law_pick" "_law_pick" (defArgs s_law_pick) (defBody s_law_pick) (defScope s_law_pick) [] [] (He.ga K "_law_pick") fd_law_pick)⟩ := defn c 68 (d := d_law_pick) rfl
  obtain ⟨fd_law_times, (F_law_times : FunD K "_law_times" "_law_times" (defArgs s_law_times) (defBody s_law_times) (defScope s_law_times) [] [] (He.ga K "_law_times") fd_law_times)⟩ := defn c 69 (d := d_law_times) rfl
  obtain ⟨fd_law_idle, (F_law_idle : FunD K "_law_idle" "_law_idle" (defArgs s_law_idle) (defBody s_law_idle) (defScope s_law_idle) [] [] (He.ga K "_law_idle") fd_law_idle)⟩ := defn c 70 (d := d_law_idle) rfl
  obtain ⟨fd_law_letters, (F_law_letters : FunD K "_law_letters" "_law_letters" (defArgs s_law_letters) (defBody s_law_letters) (defScope s_law_letters) [] [] (He.ga K "_law_letters") fd_law_letters)⟩ := defn c 71 (d := d_law_letters) rfl
  obtain ⟨fd_law_lead, (F_law_lead : FunD K "_law_lead" "_law_lead" (defArgs s_law_lead) (defBody s_law_lead) (defScope s_law_lead) [] [] (He.ga K "_law_lead") fd_law_lead)⟩ := defn c 72 (d := d_law_lead) rfl
  obtain ⟨fd_law_word, (F_law_word : FunD K "_law_word" "_law_word" (defArgs s_law_word) (defBody s_law_word) (defScope s_law_word) [] [] (He.ga K "_law_word") fd_law_word)⟩ := defn c 73 (d := d_law_word) rfl
  obtain ⟨fd_law_about_right, (F_law_about_right : FunD K "_law_about_right" "_law_about_right" (defArgs s_law_about_right) (defBody s_law_about_right) (defScope s_law_about_right) [] [] (He.ga K "_law_about_right") fd_law_about_right)⟩ := defn c 74 (d := d_law_about_right) rfl
  obtain ⟨fd_law_side_right, (F_law_side_right : FunD K "_law_side_right" "_law_side_right" (defArgs s_law_side_right) (defBody s_law_side_right) (defScope s_law_side_right) [] [] (He.ga K "_law_side_right") fd_law_side_right)⟩ := defn c 75 (d := d_law_side_right) rfl
  obtain ⟨fd_law_led_right, (F_law_led_right : FunD K "_law_led_right" "_law_led_right" (defArgs s_law_led_right) (defBody s_law_led_right) (defScope s_law_led_right) [] [] (He.ga K "_law_led_right") fd_law_led_right)⟩ := defn c 76 (d := d_law_led_right) rfl
  obtain ⟨fd_law_right, (F_law_right : FunD K "_law_right" "_law_right" (defArgs s_law_right) (defBody s_law_right) (defScope s_law_right) [] [] (He.ga K "_law_right") fd_law_right)⟩ := defn c 77 (d := d_law_right) rfl
  obtain ⟨fd_law, (F_law : FunD K "law" "law" (defArgs s_law) (defBody s_law) (defScope s_law) [] [] (He.ga K "law") fd_law)⟩ := defn c 78 (d := d_law) rfl
  have e0 := hfa.symm.trans (He.glo_ok X G (fact c 67 (f := .glo "law")))
  cases e0
  have bl := FunD.bindsA (ps := ["_law_script"]) F_law fun _ _ _ _ _ _ us hl => match us, hl with | [_], _ => rfl
  refine ⟨fd_law, fun s v => bl s [v] rfl, fun base hb1 hb2 => ?_⟩
  have C_is_integer : Cal P w K mg base "is_integer" 1 ["value"] (spP (aInt (He.ga K "Ratio"))) := cal_of (He.glo_ok X G (fact c 0 (f := .glo "is_integer"))) F_is_integer (fun F => (ok_is_integer T F)) (fun _ _ _ _ _ _ us hl => match us, hl with | [_], _ => rfl)
  have C_is_count : Cal P w K mg base "is_count" 2 ["value"] (spP aCnt) := cal_of (He.glo_ok X G (fact c 1 (f := .glo "is_count"))) F_is_count (fun F => (ok_is_count T F C_is_integer)) (fun _ _ _ _ _ _ us hl => match us, hl with | [_], _ => rfl)
  have C_is_list : Cal P w K mg base "is_list" 1 ["value"] (spP aLst) := cal_of (He.glo_ok X G (fact c 2 (f := .glo "is_list"))) F_is_list (fun F => (ok_is_list T F)) (fun _ _ _ _ _ _ us hl => match us, hl with | [_], _ => rfl)
  have C_want_at_most : Cal P w K mg base "want_at_most" 1 ["what", "limit", "number"] (spP aAtMost) := cal_of (He.glo_ok X G (fact c 3 (f := .glo "want_at_most"))) F_want_at_most (fun F => (ok_want_at_most T F)) (fun _ _ _ _ _ _ us hl => match us, hl with | [_, _, _], _ => rfl)
  have C_divisor_of : Cal P w K mg base "divisor_of" 1 ["one", "other"] (spP aDiv) := cal_of (He.glo_ok X G (fact c 4 (f := .glo "divisor_of"))) F_divisor_of (fun F => (ok_divisor_of T F)) (fun _ _ _ _ _ _ us hl => match us, hl with | [_, _], _ => rfl)
  have O_Ratio_init : FnOk P w K mg base CX0 2 (He.ma K (He.ga K "Ratio") "__init__") fd_Ratio_init ["self", "top", "bottom"] (spInit (He.ga K "Ratio")) := (ok_Ratio_init T F_Ratio_init C_is_integer C_divisor_of)
  have C_Ratio1 : CalMk P w K mg base "Ratio" (He.ga K "Ratio") 2 ["self", "top", "bottom"] [.int 1] (spInit (He.ga K "Ratio")) := by
    obtain ⟨ds, v1, b1⟩ := FunD.binds1 (ps := ["self", "top", "bottom"]) F_Ratio_init 2 0 (fun e => by cases e) rfl (fun _ _ _ _ _ _ _ us its h1 h2 => match us, its, h1, h2 with | [_, _], [_], _, _ => ⟨_, rfl, rfl⟩)
    exact ⟨_, fd_Ratio_init, ds, T.mgR, He.mkr_ok (fact c 95 (f := .mkr "Ratio")), v1, b1, O_Ratio_init⟩
  have C_Ratio2 : CalMk P w K mg base "Ratio" (He.ga K "Ratio") 2 ["self", "top", "bottom"] [] (spInit (He.ga K "Ratio")) := by
    obtain ⟨ds, v1, b1⟩ := FunD.binds1 (ps := ["self", "top", "bottom"]) F_Ratio_init 3 1 (fun e => by cases e) rfl (fun _ _ _ _ _ _ _ us its h1 h2 => match us, its, h1, h2 with | [_, _, _], [_], _, _ => ⟨_, rfl, rfl⟩)
    exact ⟨_, fd_Ratio_init, ds, T.mgR, He.mkr_ok (fact c 95 (f := .mkr "Ratio")), v1, b1, O_Ratio_init⟩
  have C_Ratio_sign : CalPr P w K mg base (He.ga K "Ratio") "sign" 1 ["self"] (spP (aSign (He.ga K "Ratio"))) := ⟨_, _, fd_Ratio_sign, pr_of x_pS, F_Ratio_sign.bindsN (fun _ _ _ _ _ _ us hl => match us, hl with | [_], _ => rfl), (ok_Ratio_sign T (He5.fun_of F_Ratio_sign))⟩
  have C_told_pair : Cal P w K mg base "told_pair" 2 ["value"] (spP (aPair (He.ga K "Ratio"))) := cal_of (He.glo_ok X G (fact c 5 (f := .glo "told_pair"))) F_told_pair (fun F => (ok_told_pair T F C_is_integer)) (fun _ _ _ _ _ _ us hl => match us, hl with | [_], _ => rfl)
  obtain ⟨fa1, fa2⟩ := ba2 x_fA
  have C_Ratio_add : CalOp P w K mg base (He.ga K "Ratio") (PySem.dunder (Operator.info .Add).2) 5 ["self", "other"] (spP (aAdd (He.ga K "Ratio"))) := ⟨x_sR, _, fd_Ratio_add, He.eqO_ok fa1, fa2, F_Ratio_add.bindsN (fun _ _ _ _ _ _ us hl => match us, hl with | [_, _], _ => rfl), (ok_Ratio_add T (He5.fun_of F_Ratio_add) C_told_pair C_Ratio2)⟩
  obtain ⟨fe1, fe2⟩ := ba2 x_fE
  have O_Ratio_eq : FnOk P w K mg base CX0 1 (He.ma K (He.ga K "Ratio") "__eq__") fd_Ratio_eq ["self", "other"] (spP (aEqR (He.ga K "Ratio"))) := (ok_Ratio_eq T (He5.fun_of F_Ratio_eq))
  have B_Ratio_eq : Binds K fd_Ratio_eq ["self", "other"] [] := F_Ratio_eq.bindsN (fun _ _ _ _ _ _ us hl => match us, hl with | [_, _], _ => rfl)
  have E1 : EqH P w K mg base 1 .Eq false (DEq (rRat (He.ga K "Ratio"))) := fun {X} h1 h2 h3 h4 h5 => by
    subst h1 h2 h3 h4 h5
    exact rcB_ins ins_rat O_Ratio_eq B_Ratio_eq eqsp_rat (He.eqO_ok fe1) fe2
  have E2 : EqH P w K mg base 2 .NotEq true (DEq (rRat (He.ga K "Ratio"))) := fun {X} h1 h2 h3 h4 h5 => by
    subst h1 h2 h3 h4 h5
    exact rnB_ins ins_rat O_Ratio_eq B_Ratio_eq eqsp_rat (He.eqO_ok fe1) fe2 (He.eqO_ok x_nR) T.mR
  have C_is_number : Cal P w K mg base "is_number" 2 ["value"] (spP (aNum (He.ga K "Ratio"))) := cal_of (He.glo_ok X G (fact c 6 (f := .glo "is_number"))) F_is_number (fun F => (ok_is_number T F C_is_integer)) (fun _ _ _ _ _ _ us hl => match us, hl with | [_], _ => rfl)
  have C_ratio_of : Cal P w K mg base "ratio_of" 4 ["number"] (spP (aROf (He.ga K "Ratio"))) := cal_of (He.glo_ok X G (fact c 7 (f := .glo "ratio_of"))) F_ratio_of (fun F => (ok_ratio_of T F C_Ratio1)) (fun _ _ _ _ _ _ us hl => match us, hl with | [_], _ => rfl)
  have C_wholes : Cal P w K mg base "wholes" 1 ["ratios"] (spP (aWholes (He.ga K "Ratio"))) := cal_of (He.glo_ok X G (fact c 8 (f := .glo "wholes"))) F_wholes (fun F => (ok_wholes T F)) (fun _ _ _ _ _ _ us hl => match us, hl with | [_], _ => rfl)
  have C_total_of : Cal P w K mg base "total_of" 6 ["ratios"] (spP (aTot (He.ga K "Ratio"))) := cal_of (He.glo_ok X G (fact c 9 (f := .glo "total_of"))) F_total_of (fun F => (ok_total_of T F C_Ratio1 C_Ratio_add)) (fun _ _ _ _ _ _ us hl => match us, hl with | [_], _ => rfl)
  have C_ints_of : Cal P w K mg base "ints_of" 2 ["rows"] (spP (aIntsOf (He.ga K "Ratio"))) := cal_of (He.glo_ok X G (fact c 10 (f := .glo "ints_of"))) F_ints_of (fun F => (ok_ints_of T F C_wholes)) (fun _ _ _ _ _ _ us hl => match us, hl with | [_], _ => rfl)
  have C_bare_row : Cal P w K mg base "bare_row" 2 ["row"] (spP aBare) := cal_of (He.glo_ok X G (fact c 11 (f := .glo "bare_row"))) F_bare_row (fun F => (ok_bare_row T F C_divisor_of)) (fun _ _ _ _ _ _ us hl => match us, hl with | [_], _ => rfl)
  have C_cleared : Cal P w K mg base "cleared" 3 ["row", "head", "place"] (spP aClear) := cal_of (He.glo_ok X G (fact c 12 (f := .glo "cleared"))) F_cleared (fun F => (ok_cleared T F C_bare_row)) (fun _ _ _ _ _ _ us hl => match us, hl with | [_, _, _], _ => rfl)
  have C_first_at : Cal P w K mg base "first_at" 1 ["rows", "place"] (spP aFirst) := cal_of (He.glo_ok X G (fact c 13 (f := .glo "first_at"))) F_first_at (fun F => (ok_first_at T F)) (fun _ _ _ _ _ _ us hl => match us, hl with | [_, _], _ => rfl)
  have C_headed_row : Cal P w K mg base "headed_row" 3 ["row", "place"] (spP aHeaded) := cal_of (He.glo_ok X G (fact c 14 (f := .glo "headed_row"))) F_headed_row (fun F => (ok_headed_row T F C_bare_row)) (fun _ _ _ _ _ _ us hl => match us, hl with | [_, _], _ => rfl)
  have C_int_steps : Cal P w K mg base "int_steps" 4 ["rows"] (spP aIntSteps) := cal_of (He.glo_ok X G (fact c 15 (f := .glo "int_steps"))) F_int_steps (fun F => (ok_int_steps T F C_first_at C_headed_row C_cleared)) (fun _ _ _ _ _ _ us hl => match us, hl with | [_], _ => rfl)
  have C_head_of : Cal P w K mg base "head_of" 1 ["row"] (spP aHead) := cal_of (He.glo_ok X G (fact c 16 (f := .glo "head_of"))) F_head_of (fun F => (ok_head_of T F)) (fun _ _ _ _ _ _ us hl => match us, hl with | [_], _ => rfl)
  have C_told_rows : Cal P w K mg base "told_rows" 4 ["steps_now"] (spP (aTold (He.ga K "Ratio"))) := cal_of (He.glo_ok X G (fact c 17 (f := .glo "told_rows"))) F_told_rows (fun F => (ok_told_rows T F C_head_of C_Ratio2)) (fun _ _ _ _ _ _ us hl => match us, hl with | [_], _ => rfl)
  have C_steps_of : Cal P w K mg base "steps_of" 5 ["rows"] (spP (aSteps (He.ga K "Ratio"))) := cal_of (He.glo_ok X G (fact c 18 (f := .glo "steps_of"))) F_steps_of (fun F => (ok_steps_of T F C_ints_of C_int_steps C_told_rows)) (fun _ _ _ _ _ _ us hl => match us, hl with | [_], _ => rfl)
  have C_are_numbers : Cal P w K mg base "are_numbers" 3 ["value", "wide"] (spP (aAre (He.ga K "Ratio"))) := cal_of (He.glo_ok X G (fact c 19 (f := .glo "are_numbers"))) F_are_numbers (fun F => (ok_are_numbers T F C_is_list C_is_number)) (fun _ _ _ _ _ _ us hl => match us, hl with | [_, _], _ => rfl)
  have C_table_in : Cal P w K mg base "table_in" 5 ["value"] (spP (aTin (He.ga K "Ratio"))) := cal_of (He.glo_ok X G (fact c 20 (f := .glo "table_in"))) F_table_in (fun F => (ok_table_in T F C_is_list C_are_numbers C_ratio_of)) (fun _ _ _ _ _ _ us hl => match us, hl with | [_], _ => rfl)
  have C_want_table : Cal P w K mg base "want_table" 6 ["value"] (spP (aTin (He.ga K "Ratio"))) := cal_of (He.glo_ok X G (fact c 21 (f := .glo "want_table"))) F_want_table (fun F => (ok_want_table T F C_table_in)) (fun _ _ _ _ _ _ us hl => match us, hl with | [_], _ => rfl)
  have C_want_sized : Cal P w K mg base "want_sized" 6 ["value", "size"] (spP (aSized (He.ga K "Ratio"))) := cal_of (He.glo_ok X G (fact c 22 (f := .glo "want_sized"))) F_want_sized (fun F => (ok_want_sized T F C_table_in)) (fun _ _ _ _ _ _ us hl => match us, hl with | [_, _], _ => rfl)
  have C_bare_table : Cal P w K mg base "bare_table" 2 ["table"] (spP (aBareT (He.ga K "Ratio"))) := cal_of (He.glo_ok X G (fact c 23 (f := .glo "bare_table"))) F_bare_table (fun F => (ok_bare_table T F C_wholes)) (fun _ _ _ _ _ _ us hl => match us, hl with | [_], _ => rfl)
  have C_int_product : Cal P w K mg base "int_product" 1 ["rows", "others"] (spP aIProd) := cal_of (He.glo_ok X G (fact c 24 (f := .glo "int_product"))) F_int_product (fun F => (ok_int_product T F)) (fun _ _ _ _ _ _ us hl => match us, hl with | [_, _], _ => rfl)
  have C_over_bottom : Cal P w K mg base "over_bottom" 4 ["rows", "bottom"] (spP (aOver (He.ga K "Ratio"))) := cal_of (He.glo_ok X G (fact c 25 (f := .glo "over_bottom"))) F_over_bottom (fun F => (ok_over_bottom T F C_Ratio2)) (fun _ _ _ _ _ _ us hl => match us, hl with | [_, _], _ => rfl)
  have C_idle_of : Cal P w K mg base "idle_of" 4 ["size"] (spP (aIdle (He.ga K "Ratio"))) := cal_of (He.glo_ok X G (fact c 26 (f := .glo "idle_of"))) F_idle_of (fun F => (ok_idle_of T F C_Ratio1)) (fun _ _ _ _ _ _ us hl => match us, hl with | [_], _ => rfl)
  have C_product_of : Cal P w K mg base "product_of" 5 ["table", "other"] (spP (aProd (He.ga K "Ratio"))) := cal_of (He.glo_ok X G (fact c 27 (f := .glo "product_of"))) F_product_of (fun F => (ok_product_of T F C_bare_table C_int_product C_over_bottom)) (fun _ _ _ _ _ _ us hl => match us, hl with | [_, _], _ => rfl)
  have C_line_sum : Cal P w K mg base "line_sum" 7 ["table"] (spP (aLine (He.ga K "Ratio"))) := cal_of (He.glo_ok X G (fact c 28 (f := .glo "line_sum"))) F_line_sum (fun F => (ok_line_sum T F C_total_of)) (fun _ _ _ _ _ _ us hl => match us, hl with | [_], _ => rfl)
  have C_about_of : Cal P w K mg base "about_of" 1 ["table"] (spP (aAbout (He.ga K "Ratio"))) := cal_of (He.glo_ok X G (fact c 29 (f := .glo "about_of"))) F_about_of (fun F => (ok_about_of T F)) (fun _ _ _ _ _ _ us hl => match us, hl with | [_], _ => rfl)
  have C_undone_of : Cal P w K mg base "undone_of" 6 ["table"] (spP (aUnd (He.ga K "Ratio"))) := cal_of (He.glo_ok X G (fact c 30 (f := .glo "undone_of"))) F_undone_of (fun F => (ok_undone_of T F C_idle_of C_steps_of C_Ratio_sign)) (fun _ _ _ _ _ _ us hl => match us, hl with | [_], _ => rfl)
  have C_long_of : Cal P w K mg base "long_of" 1 ["table"] (spP (aLong (He.ga K "Ratio"))) := cal_of (He.glo_ok X G (fact c 31 (f := .glo "long_of"))) F_long_of (fun F => (ok_long_of T F)) (fun _ _ _ _ _ _ us hl => match us, hl with | [_], _ => rfl)
  have C_two_tables : Cal P w K mg base "two_tables" 7 ["table", "other"] (spP (aTwo (He.ga K "Ratio"))) := cal_of (He.glo_ok X G (fact c 32 (f := .glo "two_tables"))) F_two_tables (fun F => (ok_two_tables T F C_want_table)) (fun _ _ _ _ _ _ us hl => match us, hl with | [_, _], _ => rfl)
  have C_want_alike : Cal P w K mg base "want_alike" 1 ["near", "far"] (spP (aAlike (He.ga K "Ratio"))) := cal_of (He.glo_ok X G (fact c 33 (f := .glo "want_alike"))) F_want_alike (fun F => (ok_want_alike T F)) (fun _ _ _ _ _ _ us hl => match us, hl with | [_, _], _ => rfl)
  have C_idle : Cal P w K mg base "idle" 5 ["size"] (spP (aIdl (He.ga K "Ratio"))) := cal_of (He.glo_ok X G (fact c 34 (f := .glo "idle"))) F_idle (fun F => (ok_idle T F C_is_count C_idle_of)) (fun _ _ _ _ _ _ us hl => match us, hl with | [_], _ => rfl)
  have C_times : Cal P w K mg base "times" 8 ["table", "other"] (spP (aTimes (He.ga K "Ratio"))) := cal_of (He.glo_ok X G (fact c 35 (f := .glo "times"))) F_times (fun F => (ok_times T F C_two_tables C_want_alike C_product_of)) (fun _ _ _ _ _ _ us hl => match us, hl with | [_, _], _ => rfl)
  have C_about : Cal P w K mg base "about" 7 ["table"] (spP (aAbo (He.ga K "Ratio"))) := cal_of (He.glo_ok X G (fact c 36 (f := .glo "about"))) F_about (fun F => (ok_about T F C_want_table C_about_of)) (fun _ _ _ _ _ _ us hl => match us, hl with | [_], _ => rfl)
  have C_undone : Cal P w K mg base "undone" 7 ["table"] (spP (aUndo (He.ga K "Ratio"))) := cal_of (He.glo_ok X G (fact c 37 (f := .glo "undone"))) F_undone (fun F => (ok_undone T F C_want_table C_undone_of)) (fun _ _ _ _ _ _ us hl => match us, hl with | [_], _ => rfl)
  have C_letters_in : Cal P w K mg base "letters_in" 6 ["value"] (spP (aLin (He.ga K "Ratio"))) := cal_of (He.glo_ok X G (fact c 38 (f := .glo "letters_in"))) F_letters_in (fun F => (ok_letters_in T F C_is_list C_table_in)) (fun _ _ _ _ _ _ us hl => match us, hl with | [_], _ => rfl)
  have C_House : CalMk P w K mg base "House" (He.ga K "House") 7 ["self", "letters"] [] (spHI (He.ga K "Ratio") (He.ga K "House")) := ⟨_, fd_House_init, [], T.mgH, He.mkr_ok (fact c 96 (f := .mkr "House")), .nil, F_House_init.bindsN (fun _ _ _ _ _ _ us hl => match us, hl with | [_, _], _ => rfl), (ok_House_init T (He5.fun_of F_House_init) C_letters_in)⟩
  have C_House_width : CalPr P w K mg base (He.ga K "House") "width" 1 ["self"] (spP (aWid (He.ga K "Ratio") (He.ga K "House"))) := ⟨_, _, fd_House_width, pr_of x_pW, F_House_width.bindsN (fun _ _ _ _ _ _ us hl => match us, hl with | [_], _ => rfl), (ok_House_width T (He5.fun_of F_House_width))⟩
  have C_House_many : CalPr P w K mg base (He.ga K "House") "many" 1 ["self"] (spP (aMany (He.ga K "Ratio") (He.ga K "House"))) := ⟨_, _, fd_House_many, pr_of x_pM, F_House_many.bindsN (fun _ _ _ _ _ _ us hl => match us, hl with | [_], _ => rfl), (ok_House_many T (He5.fun_of F_House_many))⟩
  have C_House_letters : CalMeth P w K mg base (He.ga K "House") "letters" 1 ["self"] (spP (aLett (He.ga K "Ratio") (He.ga K "House"))) := ⟨_, fd_House_letters, He.meth_ok (fact c 97 (f := .meth "House" "letters")), F_House_letters.bindsN (fun _ _ _ _ _ _ us hl => match us, hl with | [_], _ => rfl), (ok_House_letters T (He5.fun_of F_House_letters))⟩
  have C_word_in : Cal P w K mg base "word_in" 3 ["house", "value"] (spP (aWin (He.ga K "Ratio") (He.ga K "House"))) := cal_of (He.glo_ok X G (fact c 41 (f := .glo "word_in"))) F_word_in (fun F => (ok_word_in T F C_is_list C_is_count)) (fun _ _ _ _ _ _ us hl => match us, hl with | [_, _], _ => rfl)
  have C_want_word : Cal P w K mg base "want_word" 4 ["house", "value"] (spP (aWin (He.ga K "Ratio") (He.ga K "House"))) := cal_of (He.glo_ok X G (fact c 42 (f := .glo "want_word"))) F_want_word (fun F => (ok_want_word T F C_word_in)) (fun _ _ _ _ _ _ us hl => match us, hl with | [_, _], _ => rfl)
  have C_word_table : Cal P w K mg base "word_table" 6 ["house", "word"] (spP (aWtab (He.ga K "Ratio") (He.ga K "House"))) := cal_of (He.glo_ok X G (fact c 43 (f := .glo "word_table"))) F_word_table (fun F => (ok_word_table T F C_idle_of C_product_of)) (fun _ _ _ _ _ _ us hl => match us, hl with | [_, _], _ => rfl)
  have C_House_table : CalMeth P w K mg base (He.ga K "House") "table" 7 ["self", "word"] (spP (aTabl (He.ga K "Ratio") (He.ga K "House"))) := ⟨_, fd_House_table, He.meth_ok (fact c 98 (f := .meth "House" "table")), F_House_table.bindsN (fun _ _ _ _ _ _ us hl => match us, hl with | [_, _], _ => rfl), (ok_House_table T (He5.fun_of F_House_table) C_want_word C_word_table)⟩
  have C_House_word_sum : CalMeth P w K mg base (He.ga K "House") "word_sum" 8 ["self", "word"] (spP (aWsum (He.ga K "Ratio") (He.ga K "House"))) := ⟨_, fd_House_word_sum, He.meth_ok (fact c 99 (f := .meth "House" "word_sum")), F_House_word_sum.bindsN (fun _ _ _ _ _ _ us hl => match us, hl with | [_, _], _ => rfl), (ok_House_word_sum T (He5.fun_of F_House_word_sum) C_want_word C_word_table C_line_sum)⟩
  obtain ⟨fh1, fh2⟩ := ba2 x_fH
  have O_House_eq : FnOk P w K mg base CX0 5 (He.ma K (He.ga K "House") "__eq__") fd_House_eq ["self", "other"] (spP (aEqH (He.ga K "Ratio") (He.ga K "House"))) := (ok_House_eq T (He5.fun_of F_House_eq) E1)
  have B_House_eq : Binds K fd_House_eq ["self", "other"] [] := F_House_eq.bindsN (fun _ _ _ _ _ _ us hl => match us, hl with | [_, _], _ => rfl)
  have EH : EqH P w K mg base 6 .NotEq true (DEq (rHL (He.ga K "Ratio") (He.ga K "House"))) := fun {X} h1 h2 h3 h4 h5 => by
    subst h1 h2 h3 h4 h5
    exact rnB_ins ins_hl O_House_eq B_House_eq eqsp_hl (He.eqO_ok fh1) fh2 (He.eqO_ok x_nH) T.mH
  have C_want_house : Cal P w K mg base "want_house" 1 ["value"] (spP (aWH (He.ga K "Ratio") (He.ga K "House"))) := cal_of (He.glo_ok X G (fact c 39 (f := .glo "want_house"))) F_want_house (fun F => (ok_want_house T F)) (fun _ _ _ _ _ _ us hl => match us, hl with | [_], _ => rfl)
  have C_house_of : Cal P w K mg base "house_of" 9 ["letters"] (spP (aHof (He.ga K "Ratio") (He.ga K "House"))) := cal_of (He.glo_ok X G (fact c 40 (f := .glo "house_of"))) F_house_of (fun F => (ok_house_of T F C_House)) (fun _ _ _ _ _ _ us hl => match us, hl with | [_], _ => rfl)
  have C_want_pair : Cal P w K mg base "want_pair" 2 ["house", "other"] (spP (aPairH (He.ga K "Ratio") (He.ga K "House"))) := cal_of (He.glo_ok X G (fact c 44 (f := .glo "want_pair"))) F_want_pair (fun F => (ok_want_pair T F C_want_house)) (fun _ _ _ _ _ _ us hl => match us, hl with | [_, _], _ => rfl)
  have C_about_house : Cal P w K mg base "about_house" 10 ["house"] (spP (aAboH (He.ga K "Ratio") (He.ga K "House"))) := cal_of (He.glo_ok X G (fact c 45 (f := .glo "about_house"))) F_about_house (fun F => (ok_about_house T F C_want_house C_house_of C_about_of)) (fun _ _ _ _ _ _ us hl => match us, hl with | [_], _ => rfl)
  have CN_about_house : CalN P w K mg base "about_house" 10 ["house"] ["house"] (fun _ zs => zs) (spP (aAboH (He.ga K "Ratio") (He.ga K "House"))) := ⟨_, fd_about_house, _, He.glo_ok X G (fact c 45 (f := .glo "about_house")), F_about_house.kp, kbn_of F_about_house (fun l => l) (fun r => r) (fun _ _ _ _ _ _ ws hl => match ws, hl with | [_], _ => rfl), (ok_about_house T (He5.fun_of F_about_house) C_want_house C_house_of C_about_of)⟩
  have C_on_line : Cal P w K mg base "on_line" 4 ["table", "other"] (spP (aOnL (He.ga K "Ratio"))) := cal_of (He.glo_ok X G (fact c 46 (f := .glo "on_line"))) F_on_line (fun F => (ok_on_line T F C_Ratio1)) (fun _ _ _ _ _ _ us hl => match us, hl with | [_, _], _ => rfl)
  have C_side : Cal P w K mg base "side" 10 ["house", "other"] (spP (aSide (He.ga K "Ratio") (He.ga K "House"))) := cal_of (He.glo_ok X G (fact c 47 (f := .glo "side"))) F_side (fun F => (ok_side T F C_want_pair C_want_at_most C_house_of C_on_line)) (fun _ _ _ _ _ _ us hl => match us, hl with | [_, _], _ => rfl)
  have C_led_house : Cal P w K mg base "led_house" 10 ["house", "table"] (spP (aLed (He.ga K "Ratio") (He.ga K "House"))) := cal_of (He.glo_ok X G (fact c 48 (f := .glo "led_house"))) F_led_house (fun F => (ok_led_house T F C_want_house C_want_sized C_undone_of C_house_of C_product_of)) (fun _ _ _ _ _ _ us hl => match us, hl with | [_, _], _ => rfl)
  have CN_led_house : CalN P w K mg base "led_house" 10 ["house", "table"] ["table", "house"] revV (spP (aLed (He.ga K "Ratio") (He.ga K "House"))) := ⟨_, fd_led_house, _, He.glo_ok X G (fact c 48 (f := .glo "led_house")), F_led_house.kp, kbn_of F_led_house (fun l => l.reverse) (fun r => vals_rev r) (fun _ _ _ _ _ _ ws hl => match ws, hl with | [_, _], _ => rfl), (ok_led_house T (He5.fun_of F_led_house) C_want_house C_want_sized C_undone_of C_house_of C_product_of)⟩
  have C_left_of : Cal P w K mg base "left_of" 4 ["steps", "row"] (spP aLeft) := cal_of (He.glo_ok X G (fact c 49 (f := .glo "left_of"))) F_left_of (fun F => (ok_left_of T F C_cleared C_head_of)) (fun _ _ _ _ _ _ us hl => match us, hl with | [_, _], _ => rfl)
  have C_long_with : Cal P w K mg base "long_with" 2 ["tables"] (spP (aLW (He.ga K "Ratio"))) := cal_of (He.glo_ok X G (fact c 50 (f := .glo "long_with"))) F_long_with (fun F => (ok_long_with T F C_long_of C_wholes)) (fun _ _ _ _ _ _ us hl => match us, hl with | [_], _ => rfl)
  have C_base_with : Cal P w K mg base "base_with" 6 ["houses"] (spP (aBW (He.ga K "Ratio") (He.ga K "House"))) := cal_of (He.glo_ok X G (fact c 51 (f := .glo "base_with"))) F_base_with (fun F => (ok_base_with T F C_idle_of C_long_with C_product_of C_left_of C_bare_row)) (fun _ _ _ _ _ _ us hl => match us, hl with | [_], _ => rfl)
  have C_base_of : Cal P w K mg base "base_of" 7 ["house"] (spP (aBO (He.ga K "Ratio") (He.ga K "House"))) := cal_of (He.glo_ok X G (fact c 52 (f := .glo "base_of"))) F_base_of (fun F => (ok_base_of T F C_base_with)) (fun _ _ _ _ _ _ us hl => match us, hl with | [_], _ => rfl)
  have C_base_words : Cal P w K mg base "base_words" 8 ["house"] (spP (aBWo (He.ga K "Ratio") (He.ga K "House"))) := cal_of (He.glo_ok X G (fact c 53 (f := .glo "base_words"))) F_base_words (fun F => (ok_base_words T F C_want_house C_base_of)) (fun _ _ _ _ _ _ us hl => match us, hl with | [_], _ => rfl)
  have C_dimension : Cal P w K mg base "dimension" 8 ["house"] (spP (aDim (He.ga K "Ratio") (He.ga K "House"))) := cal_of (He.glo_ok X G (fact c 54 (f := .glo "dimension"))) F_dimension (fun F => (ok_dimension T F C_want_house C_base_of)) (fun _ _ _ _ _ _ us hl => match us, hl with | [_], _ => rfl)
  have C_law_pot : Cal P w K mg base "_law_pot" 1 ["_law_script", "_law_k"] (spPot K) := cal_of (He.glo_ok X G (fact c 55 (f := .glo "_law_pot"))) F_law_pot (fun F => (ok_law_pot T F)) (fun _ _ _ _ _ _ us hl => match us, hl with | [_, _], _ => rfl)
  have C_law_draw : Cal P w K mg base "_law_draw" 1 ["_law_pot_here", "_law_many"] (spD aDraw) := cal_of (He.glo_ok X G (fact c 56 (f := .glo "_law_draw"))) F_law_draw (fun F => (ok_law_draw T F)) (fun _ _ _ _ _ _ us hl => match us, hl with | [_, _], _ => rfl)
  have C_law_pick : Cal P w K mg base "_law_pick" 2 ["_law_pot_here", "_law_some"] (spD aPick) := cal_of (He.glo_ok X G (fact c 57 (f := .glo "_law_pick"))) F_law_pick (fun F => (ok_law_pick T F C_law_draw)) (fun _ _ _ _ _ _ us hl => match us, hl with | [_, _], _ => rfl)
  have C_law_times : Cal P w K mg base "_law_times" 1 ["_law_one", "_law_other"] (spP aLT) := cal_of (He.glo_ok X G (fact c 58 (f := .glo "_law_times"))) F_law_times (fun F => (ok_law_times T F)) (fun _ _ _ _ _ _ us hl => match us, hl with | [_, _], _ => rfl)
  have C_law_idle : Cal P w K mg base "_law_idle" 1 ["_law_size"] (spP aLI) := cal_of (He.glo_ok X G (fact c 59 (f := .glo "_law_idle"))) F_law_idle (fun F => (ok_law_idle T F)) (fun _ _ _ _ _ _ us hl => match us, hl with | [_], _ => rfl)
  have C_law_letters : Cal P w K mg base "_law_letters" 3 ["_law_pot_here", "_law_size", "_law_most"] (spD aLL) := cal_of (He.glo_ok X G (fact c 60 (f := .glo "_law_letters"))) F_law_letters (fun F => (ok_law_letters T F C_law_draw C_law_pick)) (fun _ _ _ _ _ _ us hl => match us, hl with | [_, _, _], _ => rfl)
  have C_law_lead : Cal P w K mg base "_law_lead" 3 ["_law_pot_here", "_law_size"] (spD fun vs p _ _ R => ∃ n : Nat, vs = [.ref p, .int (n : Int)] ∧ 1 ≤ n ∧ n ≤ 10 ∧ R = rLead n) := cal_of (He.glo_ok X G (fact c 61 (f := .glo "_law_lead"))) F_law_lead (fun F => (ok_law_lead T F C_law_idle C_law_draw C_law_pick C_law_times)) (fun _ _ _ _ _ _ us hl => match us, hl with | [_, _], _ => rfl)
  have C_law_word : Cal P w K mg base "_law_word" 2 ["_law_pot_here", "_law_many"] (spD aLW') := cal_of (He.glo_ok X G (fact c 62 (f := .glo "_law_word"))) F_law_word (fun F => (ok_law_word T F C_law_draw)) (fun _ _ _ _ _ _ us hl => match us, hl with | [_, _], _ => rfl)
  have C_law_about_right : Cal P w K mg base "_law_about_right" 11 ["_law_house", "_law_word_here"] (spP (aAR (He.ga K "Ratio") (He.ga K "House"))) := cal_of (He.glo_ok X G (fact c 63 (f := .glo "_law_about_right"))) F_law_about_right (fun F => (ok_law_about_right T F C_about_house CN_about_house C_House_letters C_about C_House_table C_House_word_sum C_House_width C_dimension E1 E2 EH)) (fun _ _ _ _ _ _ us hl => match us, hl with | [_, _], _ => rfl)
  have C_law_side_right : Cal P w K mg base "_law_side_right" 11 ["_law_house", "_law_other", "_law_word_here"] (spP (aSR (He.ga K "Ratio") (He.ga K "House"))) := cal_of (He.glo_ok X G (fact c 64 (f := .glo "_law_side_right"))) F_law_side_right (fun F => (ok_law_side_right T F C_side C_Ratio1 C_Ratio_add C_House_table C_House_word_sum C_House_width C_House_many C_dimension E1 E2 EH)) (fun _ _ _ _ _ _ us hl => match us, hl with | [_, _, _], _ => rfl)
  have C_law_led_right : Cal P w K mg base "_law_led_right" 11 ["_law_pot_here", "_law_house", "_law_word_here"] (spD (aLR (He.ga K "Ratio") (He.ga K "House"))) := cal_of (He.glo_ok X G (fact c 65 (f := .glo "_law_led_right"))) F_law_led_right (fun F => (ok_law_led_right T F C_law_lead C_led_house CN_led_house C_undone C_times C_idle C_House_table C_House_word_sum C_House_width C_base_words E1 E2 EH)) (fun _ _ _ _ _ _ us hl => match us, hl with | [_, _, _], _ => rfl)
  have C_law_right : Cal P w K mg base "_law_right" 12 ["_law_pot_here"] (spD aRi) := cal_of (He.glo_ok X G (fact c 66 (f := .glo "_law_right"))) F_law_right (fun F => (ok_law_right T LW F C_law_pick C_law_draw C_law_letters C_law_word C_House C_law_about_right C_law_led_right C_law_side_right)) (fun _ _ _ _ _ _ us hl => match us, hl with | [_], _ => rfl)
  exact (ok_law T (He5.fun_of F_law) C_law_pot C_law_right)
end
end K28
end
section
set_option Elab.async false
set_option linter.all false
set_option maxRecDepth 100000
set_option maxHeartbeats 4000000
set_option autoImplicit false
namespace K28
/-! ### spans of functions -/
section
variable {X Y : Type}
def Sp : List (X → Rat) → (X → Rat) → Prop
  | [], v => ∀ x, v x = 0
  | u :: us, v => ∃ c : Rat, Sp us (fun x => v x - c * u x)
/-- each outside the span of those behind it -/
def Fr : List (X → Rat) → Prop
  | [] => True
  | u :: us => ¬ Sp us u ∧ Fr us
theorem sp_ext {us : List (X → Rat)} {v w : X → Rat} (h : Sp us v) (e : ∀ x, v x = w x) : Sp us w := by
  have : v = w := funext e
  rwa [← this]
theorem sp_add : ∀ {us : List (X → Rat)} {v w : X → Rat}, Sp us v → Sp us w → Sp us (fun x => v x + w x)
  | [], v, w, h, k => fun x => by
    show v x + w x = 0
    rw [h x, k x]; grind
  | u :: us, v, w, ⟨c, h⟩, ⟨d, k⟩ => ⟨c + d, sp_ext (sp_add h k) fun x => by grind⟩
theorem sp_smul (a : Rat) : ∀ {us : List (X → Rat)} {v : X → Rat}, Sp us v → Sp us (fun x => a * v x)
  | [], v, h => fun x => by
    show a * v x = 0
    rw [h x]; grind
  | u :: us, v, ⟨c, h⟩ => ⟨a * c, sp_ext (sp_smul a h) fun x => by grind⟩
theorem sp_zero : ∀ {us : List (X → Rat)}, Sp us (fun _ => 0)
  | [] => fun _ => rfl
  | u :: us => ⟨0, sp_ext sp_zero fun x => by grind⟩
theorem sp_cons {us : List (X → Rat)} {u v : X → Rat} (h : Sp us v) : Sp (u :: us) v := ⟨0, sp_ext h fun x => by grind⟩
theorem sp_head {us : List (X → Rat)} {u : X → Rat} : Sp (u :: us) u := ⟨1, sp_ext sp_zero fun x => by grind⟩
theorem sp_mem : ∀ {us : List (X → Rat)} {u : X → Rat}, u ∈ us → Sp us u
  | u' :: us, u, h => by
    rcases List.mem_cons.mp h with rfl | h
    · exact sp_head
    · exact sp_cons (sp_mem h)
theorem sp_trans : ∀ {us vs : List (X → Rat)} {x : X → Rat}, (∀ u ∈ us, Sp vs u) → Sp us x → Sp vs x
  | [], vs, x, _, h => sp_ext sp_zero fun z => (h z).symm
  | u :: us, vs, x, hs, ⟨c, h⟩ => sp_ext (sp_add (sp_trans (fun u' hu => hs u' (List.mem_cons_of_mem _ hu)) h) (sp_smul c (hs u (List.mem_cons_self ..)))) fun z => by grind
theorem sp_sub {us : List (X → Rat)} {v w : X → Rat} (a : Rat) (h : Sp us v) (k : Sp us w) : Sp us (fun x => v x - a * w x) := sp_ext (sp_add h (sp_smul (-a) k)) fun x => by grind
/-- linear -/
structure Lin (L : (X → Rat) → (Y → Rat)) : Prop where
  sub : ∀ (v u : X → Rat) (c : Rat) (y : Y), L (fun x => v x - c * u x) y = L v y - c * L u y
  zero : ∀ v : X → Rat, (∀ x, v x = 0) → ∀ y, L v y = 0
theorem sp_map {L : (X → Rat) → (Y → Rat)} (hL : Lin L) : ∀ {us : List (X → Rat)} {v : X → Rat}, Sp us v → Sp (us.map L) (L v)
  | [], v, h => hL.zero v h
  | u :: us, v, ⟨c, h⟩ => ⟨c, sp_ext (sp_map hL h) fun y => hL.sub v u c y⟩
/-- .. with a way back -/
theorem sp_back {L : (X → Rat) → (Y → Rat)} {M : (Y → Rat) → (X → Rat)} (hM : Lin M) {us : List (X → Rat)} {v : X → Rat} (hu : ∀ u ∈ us, M (L u) = u) (hv : M (L v) = v) (h : Sp (us.map L) (L v)) : Sp us v := by
  have := sp_map hM h
  rw [hv, List.map_map] at this
  have e : us.map (M ∘ L) = us := (List.map_congr_left fun u h => hu u h).trans (List.map_id us)
  rwa [e] at this
/-- one vector of the span of v :: vs is taken out -/
theorem steinitz_step {v : X → Rat} {vs : List (X → Rat)} : ∀ {us : List (X → Rat)}, Fr us → (∀ u ∈ us, Sp (v :: vs) u) →
    (∀ u ∈ us, Sp vs u) ∨ ∃ (t : List (X → Rat)) (p : X → Rat) (c : Rat), us.length = t.length + 1 ∧ Fr t ∧ (∀ u ∈ t, Sp vs u) ∧ c ≠ 0 ∧ Sp vs (fun x => p x - c * v x) ∧ ∀ x, Sp (p :: t) x → Sp us x
  | [], _, _ => .inl fun u h => by cases h
  | u :: us, hf, hs => by
    obtain ⟨d, hd⟩ := hs u (List.mem_cons_self ..)
    rcases steinitz_step hf.2 (fun u' h => hs u' (List.mem_cons_of_mem _ h)) with h | ⟨t, p, c, hl, ht, hts, hc, hp, hx⟩
    · by_cases hu : Sp vs u
      · exact .inl fun u' h' => by
          rcases List.mem_cons.mp h' with rfl | h'
          · exact hu
          · exact h u' h'
      · refine .inr ⟨us, u, d, rfl, hf.2, h, fun e => hu (sp_ext hd fun x => by rw [e]; grind), hd, fun x h => h⟩
    · refine .inr ⟨(fun x => u x - d / c * p x) :: t, p, c, by rw [List.length_cons, List.length_cons, hl], ⟨fun hn => hf.1 (hx u ⟨d / c, hn⟩), ht⟩, fun u' h' => ?_, hc, hp, fun x ⟨a, b, h⟩ => ?_⟩
      · rcases List.mem_cons.mp h' with rfl | h'
        · refine sp_ext (sp_sub (d / c) hd hp) fun x => ?_
          have : d / c * c = d := by grind
          grind
        · exact hts u' h'
      · refine ⟨b, hx _ ⟨a - b * (d / c), sp_ext h fun z => by grind⟩⟩
theorem steinitz : ∀ {vs us : List (X → Rat)}, Fr us → (∀ u ∈ us, Sp vs u) → us.length ≤ vs.length
  | [], us, hf, hs => by
    cases us with
    | nil => exact Nat.le_refl _
    | cons u us => exact absurd (sp_ext sp_zero fun x => (hs u (List.mem_cons_self ..) x).symm) hf.1
  | v :: vs, us, hf, hs => by
    rcases steinitz_step hf hs with h | ⟨t, p, c, hl, ht, hts, _⟩
    · have := steinitz hf h
      rw [List.length_cons]; omega
    · have := steinitz ht hts
      rw [hl, List.length_cons]; omega
end
end K28
end
section
set_option Elab.async false
set_option linter.all false
set_option maxRecDepth 100000
set_option maxHeartbeats 4000000
set_option autoImplicit false
namespace K28
/-! ### finite sums -/
def fs : Nat → (Nat → Rat) → Rat
  | 0, _ => 0
  | n + 1, f => f 0 + fs n (fun k => f (k + 1))
theorem fs_ext : ∀ {n : Nat} {f g : Nat → Rat}, (∀ k, k < n → f k = g k) → fs n f = fs n g
  | 0, _, _, _ => rfl
  | n + 1, f, g, h => by
    show f 0 + _ = g 0 + _
    rw [h 0 (Nat.succ_pos _), fs_ext (n := n) fun k hk => h (k + 1) (by omega)]
theorem fs_zero : ∀ {n : Nat} {f : Nat → Rat}, (∀ k, k < n → f k = 0) → fs n f = 0
  | 0, _, _ => rfl
  | n + 1, f, h => by
    show f 0 + _ = 0
    rw [h 0 (Nat.succ_pos _), fs_zero (n := n) fun k hk => h (k + 1) (by omega)]; grind
theorem fs_add : ∀ (n : Nat) (f g : Nat → Rat), fs n (fun k => f k + g k) = fs n f + fs n g
  | 0, _, _ => by show (0 : Rat) = 0 + 0; grind
  | n + 1, f, g => by
    show f 0 + g 0 + fs n _ = f 0 + fs n _ + (g 0 + fs n _)
    rw [fs_add n (fun k => f (k + 1)) fun k => g (k + 1)]; grind
theorem fs_smul : ∀ (n : Nat) (a : Rat) (f : Nat → Rat), fs n (fun k => a * f k) = a * fs n f
  | 0, _, _ => by show (0 : Rat) = _ * 0; grind
  | n + 1, a, f => by
    show a * f 0 + fs n _ = a * (f 0 + fs n _)
    rw [fs_smul n a fun k => f (k + 1)]; grind
theorem fs_mulr (n : Nat) (a : Rat) (f : Nat → Rat) : fs n (fun k => f k * a) = fs n f * a := by
  rw [fs_ext (g := fun k => a * f k) fun k _ => by grind, fs_smul]; grind
theorem fs_comm : ∀ (n m : Nat) (f : Nat → Nat → Rat), fs n (fun i => fs m (fun j => f i j)) = fs m (fun j => fs n (fun i => f i j))
  | 0, m, f => by
    show (0 : Rat) = _
    exact (fs_zero fun k _ => rfl).symm
  | n + 1, m, f => by
    show fs m (fun j => f 0 j) + fs n (fun i => fs m fun j => f (i + 1) j) = fs m fun j => f 0 j + fs n fun i => f (i + 1) j
    rw [fs_comm n m fun i j => f (i + 1) j, fs_add]
theorem fs_split : ∀ (n m : Nat) (f : Nat → Rat), fs (n + m) f = fs n f + fs m (fun k => f (n + k))
  | 0, m, f => by
    rw [Nat.zero_add]
    show _ = 0 + _
    rw [fs_ext (g := fun k => f (0 + k)) fun k _ => by rw [Nat.zero_add]]; grind
  | n + 1, m, f => by
    rw [show n + 1 + m = (n + m) + 1 by omega]
    show f 0 + fs (n + m) _ = f 0 + fs n _ + _
    rw [fs_split n m fun k => f (k + 1), fs_ext (n := m) (f := fun k => f (n + k + 1)) (g := fun k => f (n + 1 + k)) fun k _ => by rw [show n + k + 1 = n + 1 + k by omega]]
    grind
theorem fs_delta : ∀ (n i : Nat) (f : Nat → Rat), i < n → fs n (fun k => if i = k then f k else 0) = f i
  | n + 1, 0, f, _ => by
    show (if 0 = 0 then f 0 else 0) + fs n (fun k => if 0 = k + 1 then f (k + 1) else 0) = f 0
    rw [if_pos rfl, fs_zero fun k _ => if_neg (by omega)]; grind
  | n + 1, i + 1, f, h => by
    show (if i + 1 = 0 then f 0 else 0) + fs n (fun k => if i + 1 = k + 1 then f (k + 1) else 0) = f (i + 1)
    rw [if_neg (by omega), fs_ext (g := fun k => if i = k then f (k + 1) else 0) fun k _ => by
      by_cases e : i = k
      · rw [if_pos e, if_pos (by omega)]
      · rw [if_neg e, if_neg (by omega)], fs_delta n i (fun k => f (k + 1)) (by omega)]
    grind
theorem fs_delta' (n i : Nat) (f : Nat → Rat) (h : i < n) : fs n (fun k => if k = i then f k else 0) = f i := by
  rw [fs_ext (g := fun k => if i = k then f k else 0) fun k _ => by
    by_cases e : i = k
    · rw [if_pos e, if_pos e.symm]
    · rw [if_neg e, if_neg fun q => e q.symm], fs_delta n i f h]
/-! ### matrices as functions -/
def mm (n : Nat) (A B : Nat → Nat → Rat) : Nat → Nat → Rat := fun i j => fs n fun k => A i k * B k j
def one : Nat → Nat → Rat := fun i j => if i = j then 1 else 0
theorem mm_assoc (n : Nat) (A B C : Nat → Nat → Rat) (i j : Nat) : mm n (mm n A B) C i j = mm n A (mm n B C) i j := by
  unfold mm
  rw [fs_ext (g := fun k => fs n fun l => A i l * B l k * C k j) fun k _ => (fs_mulr n (C k j) _).symm, fs_comm]
  refine fs_ext fun l _ => ?_
  rw [← fs_smul]
  exact fs_ext fun k _ => by grind
theorem mm_one_r (n : Nat) (A : Nat → Nat → Rat) {i j : Nat} (h : j < n) : mm n A one i j = A i j := by
  unfold mm one
  rw [fs_ext (g := fun k => if k = j then A i k else 0) fun k _ => by split <;> grind, fs_delta' n j (fun k => A i k) h]
theorem mm_one_l (n : Nat) (A : Nat → Nat → Rat) {i j : Nat} (h : i < n) : mm n one A i j = A i j := by
  unfold mm one
  rw [fs_ext (g := fun k => if i = k then A k j else 0) fun k _ => by split <;> grind, fs_delta n i (fun k => A k j) h]
theorem mm_ext {n : Nat} {A A' B B' : Nat → Nat → Rat} {i j : Nat} (h : ∀ k, k < n → A i k = A' i k) (h' : ∀ k, k < n → B k j = B' k j) : mm n A B i j = mm n A' B' i j := fs_ext fun k hk => by rw [h k hk, h' k hk]
/-! ### tables by their entries -/
theorem row_at {n : Nat} {t : List (List Rat)} (sq : SqX n t) {i : Nat} (hi : i < n) : t[i]? = some (t.getD i []) ∧ (t.getD i []).length = n := by
  have := getD_mem (d := []) (show i < t.length by rw [sq.1]; exact hi)
  exact ⟨this.2, sq.2 _ this.1⟩
theorem ent_at {n : Nat} {t : List (List Rat)} (sq : SqX n t) {i j : Nat} (hi : i < n) (hj : j < n) : (t.getD i [])[j]? = some (ent t i j) := by
  unfold ent
  exact (getD_mem (by rw [(row_at sq hi).2]; exact hj)).2
theorem tab_ext {n : Nat} {t u : List (List Rat)} (sq : SqX n t) (sq' : SqX n u) (h : ∀ i j, i < n → j < n → ent t i j = ent u i j) : t = u := by
  refine List.ext_getElem? fun i => ?_
  by_cases hi : i < n
  · rw [(row_at sq hi).1, (row_at sq' hi).1]
    congr 1
    refine List.ext_getElem? fun j => ?_
    by_cases hj : j < n
    · rw [ent_at sq hi hj, ent_at sq' hi hj, h i j hi hj]
    · rw [List.getElem?_eq_none (by rw [(row_at sq hi).2]; omega), List.getElem?_eq_none (by rw [(row_at sq' hi).2]; omega)]
  · rw [List.getElem?_eq_none (by rw [sq.1]; omega), List.getElem?_eq_none (by rw [sq'.1]; omega)]
theorem getD_map {α β : Type} {f : α → β} {l : List α} {i : Nat} {a : α} {b : β} (h : i < l.length) : (l.map f).getD i b = f (l.getD i a) := by
  rw [List.getD_eq_getElem?_getD, List.getD_eq_getElem?_getD, List.getElem?_map, List.getElem?_eq_getElem h]; rfl
theorem getD_range {β : Type} {f : Nat → β} {n i : Nat} {b : β} (h : i < n) : ((List.range n).map f).getD i b = f i := by
  rw [List.getD_eq_getElem?_getD, List.getElem?_map, List.getElem?_range h]; rfl
theorem ent_idle {n i j : Nat} (hi : i < n) (hj : j < n) : ent (idleT n) i j = one i j := by
  unfold ent idleT
  rw [getD_range hi, getD_range hj]
  unfold one
  split <;> rfl
theorem ent_abo {n i j : Nat} {t : List (List Rat)} (sq : SqX n t) (hi : i < n) (hj : j < n) : ent (aboT t) i j = ent t j i := by
  unfold ent aboT
  rw [getD_range (by rw [sq.1]; exact hi), getD_map (a := []) (by rw [sq.1]; exact hj)]
theorem zsum : ∀ {row : List Int} {others : List (List Int)} {n j : Nat}, row.length = n → others.length = n → (((List.zipWith (fun a line => a * at0 line j) row others).sum : Int) : Rat) = fs n fun k => (at0 row k : Rat) * (at0 (others.getD k []) j : Rat)
  | [], [], n, j, h, _ => by subst h; rfl
  | [], _ :: _, n, j, h, h' => by subst h; cases h'
  | _ :: _, [], n, j, h, h' => by subst h'; cases h
  | a :: row, l :: others, n, j, h, h' => by
    obtain ⟨m, rfl⟩ : ∃ m, n = m + 1 := ⟨n - 1, by rw [List.length_cons] at h; omega⟩
    rw [List.zipWith_cons_cons, List.sum_cons, Rat.intCast_add, Rat.intCast_mul, zsum (n := m) (by simpa using h) (by simpa using h')]
    rfl
theorem ent_prod {n : Nat} {t u : List (List Rat)} (sq : SqX n t) (sq' : SqX n u) (n1 : 1 ≤ n) {i j : Nat} (hi : i < n) (hj : j < n) : ent (prodT t u) i j = mm n (ent t) (ent u) i j := by
  have s1 := sq_bare sq
  have s2 := sq_bare sq'
  unfold prodT overB iprod
  show ((List.map _ (List.map _ _)).getD i []).getD j 0 = _
  have l1 : i < (bareT t).length := by rw [s1.1]; exact hi
  rw [getD_map (a := []) (by rw [List.length_map]; exact l1), getD_map (a := []) l1, getD_map (a := 0) (by rw [List.length_map, List.length_range, wideOf_sq s2 n1]; exact hj), getD_range (by rw [wideOf_sq s2 n1]; exact hj)]
  have row : (bareT t).getD i [] = intsD (lcmD t.flatten) (t.getD i []) := by unfold bareT; exact getD_map (a := []) (by rw [sq.1]; exact hi)
  have z1 : ∀ k, k < n → (at0 ((bareT t).getD i []) k : Rat) = ent t i k * (lcmD t.flatten : Rat) := fun k hk => by
    rw [row]
    unfold at0 intsD
    rw [getD_map (a := (0 : Rat)) (by rw [(row_at sq hi).2]; exact hk)]
    exact int_of _ (den_dvd (List.mem_flatten.mpr ⟨_, List.mem_of_getElem? (row_at sq hi).1, List.mem_of_getElem? (ent_at sq hi hk)⟩))
  have z2 : ∀ k, k < n → (at0 ((bareT u).getD k []) j : Rat) = ent u k j * (lcmD u.flatten : Rat) := fun k hk => by
    have row2 : (bareT u).getD k [] = intsD (lcmD u.flatten) (u.getD k []) := by unfold bareT; exact getD_map (a := []) (by rw [sq'.1]; exact hk)
    rw [row2]
    unfold at0 intsD
    rw [getD_map (a := (0 : Rat)) (by rw [(row_at sq' hk).2]; exact hj)]
    exact int_of _ (den_dvd (List.mem_flatten.mpr ⟨_, List.mem_of_getElem? (row_at sq' hk).1, List.mem_of_getElem? (ent_at sq' hk hj)⟩))
  rw [Rat.divInt_eq_div, zsum (n := n) (s1.2 _ (getD_mem (by rw [s1.1]; exact hi)).1) s2.1, Rat.intCast_mul]
  rw [fs_ext (g := fun k => ent t i k * ent u k j * ((lcmD t.flatten : Rat) * (lcmD u.flatten : Rat))) fun k hk => by rw [z1 k hk, z2 k hk]; grind, fs_mulr]
  have n1' : (lcmD t.flatten : Rat) ≠ 0 := by
    have := lcmD_pos t.flatten
    intro h
    have : ((lcmD t.flatten : Int) : Rat) = ((0 : Int) : Rat) := h
    have := Rat.intCast_inj.mp this
    omega
  have n2' : (lcmD u.flatten : Rat) ≠ 0 := by
    have := lcmD_pos u.flatten
    intro h
    have : ((lcmD u.flatten : Int) : Rat) = ((0 : Int) : Rat) := h
    have := Rat.intCast_inj.mp this
    omega
  show _ / ((lcmD t.flatten : Rat) * (lcmD u.flatten : Rat)) = fs n _
  grind
end K28
end
section
set_option Elab.async false
set_option linter.all false
set_option maxRecDepth 100000
set_option maxHeartbeats 4000000
set_option autoImplicit false
namespace K28
abbrev sqp {n : Nat} {t u : List (List Rat)} (h : SqX n t) (h' : SqX n u) (n1 : 1 ≤ n) : SqX n (prodT t u) := wideOf_prod h h' n1
theorem sqa {n : Nat} {t : List (List Rat)} (h : SqX n t) : SqX n (aboT t) := ⟨by unfold aboT; simp [h.1], fun r hr => by
  unfold aboT at hr
  obtain ⟨p, _, rfl⟩ := List.mem_map.mp hr
  rw [List.length_map]; exact h.1⟩
theorem prod_assoc {n : Nat} {t u v : List (List Rat)} (h : SqX n t) (h' : SqX n u) (h'' : SqX n v) (n1 : 1 ≤ n) : prodT (prodT t u) v = prodT t (prodT u v) :=
  tab_ext (sqp (sqp h h' n1) h'' n1) (sqp h (sqp h' h'' n1) n1) fun i j hi hj => by
    rw [ent_prod (sqp h h' n1) h'' n1 hi hj, ent_prod h (sqp h' h'' n1) n1 hi hj, mm_ext (A' := mm n (ent t) (ent u)) (B' := ent v) (fun k hk => ent_prod h h' n1 hi hk) fun _ _ => rfl, mm_assoc, mm_ext (A' := ent t) (B := ent (prodT u v)) (B' := mm n (ent u) (ent v)) (fun _ _ => rfl) fun k hk => ent_prod h' h'' n1 hk hj]
theorem prod_idle_r {n : Nat} {t : List (List Rat)} (h : SqX n t) (n1 : 1 ≤ n) : prodT t (idleT n) = t :=
  tab_ext (sqp h (sq_idle n) n1) h fun i j hi hj => by
    rw [ent_prod h (sq_idle n) n1 hi hj, mm_ext (A' := ent t) (B' := one) (fun _ _ => rfl) fun k hk => ent_idle hk hj, mm_one_r n _ hj]
theorem prod_idle_l {n : Nat} {t : List (List Rat)} (h : SqX n t) (n1 : 1 ≤ n) : prodT (idleT n) t = t :=
  tab_ext (sqp (sq_idle n) h n1) h fun i j hi hj => by
    rw [ent_prod (sq_idle n) h n1 hi hj, mm_ext (A' := one) (B' := ent t) (fun k hk => ent_idle hi hk) fun _ _ => rfl, mm_one_l n _ hi]
theorem abo_prod {n : Nat} {t u : List (List Rat)} (h : SqX n t) (h' : SqX n u) (n1 : 1 ≤ n) : aboT (prodT t u) = prodT (aboT u) (aboT t) :=
  tab_ext (sqa (sqp h h' n1)) (sqp (sqa h') (sqa h) n1) fun i j hi hj => by
    rw [ent_abo (sqp h h' n1) hi hj, ent_prod h h' n1 hj hi, ent_prod (sqa h') (sqa h) n1 hi hj]
    refine fs_ext fun k hk => ?_
    rw [ent_abo h' hi hk, ent_abo h hk hj]; grind
theorem abo_abo {n : Nat} {t : List (List Rat)} (h : SqX n t) : aboT (aboT t) = t :=
  tab_ext (sqa (sqa h)) h fun i j hi hj => by rw [ent_abo (sqa h) hi hj, ent_abo h hj hi]
theorem abo_idle (n : Nat) : aboT (idleT n) = idleT n :=
  tab_ext (sqa (sq_idle n)) (sq_idle n) fun i j hi hj => by
    rw [ent_abo (sq_idle n) hi hj, ent_idle hj hi, ent_idle hi hj]
    unfold one
    by_cases e : i = j
    · rw [if_pos e, if_pos e.symm]
    · rw [if_neg e, if_neg fun q => e q.symm]
theorem sum_fs : ∀ (n : Nat) (f : Nat → Rat) (a : Rat) (s : Nat), ((List.range' s n).map f).foldl (· + ·) a = a + fs n (fun k => f (s + k))
  | 0, f, a, s => by show a = a + 0; grind
  | n + 1, f, a, s => by
    rw [List.range'_succ, List.map_cons, List.foldl_cons, sum_fs n f (a + f s) (s + 1)]
    show _ = a + (f (s + 0) + fs n fun k => f (s + (k + 1)))
    rw [fs_ext (n := n) (f := fun k => f (s + 1 + k)) (g := fun k => f (s + (k + 1))) fun k _ => by rw [show s + 1 + k = s + (k + 1) by omega]]
    grind
theorem tr_fs {n : Nat} {t : List (List Rat)} (h : SqX n t) : trT t = fs n fun i => ent t i i := by
  unfold trT sumR
  rw [h.1, List.range_eq_range', sum_fs]
  rw [fs_ext (n := n) (f := fun k => ent t (0 + k) (0 + k)) (g := fun k => ent t k k) fun k _ => by rw [Nat.zero_add]]
  grind
theorem tr_abo {n : Nat} {t : List (List Rat)} (h : SqX n t) : trT (aboT t) = trT t := by
  rw [tr_fs (sqa h), tr_fs h]
  exact fs_ext fun k hk => ent_abo h hk hk
theorem tr_prod {n : Nat} {t u : List (List Rat)} (h : SqX n t) (h' : SqX n u) (n1 : 1 ≤ n) : trT (prodT t u) = trT (prodT u t) := by
  rw [tr_fs (sqp h h' n1), tr_fs (sqp h' h n1), fs_ext (g := fun i => fs n fun k => ent t i k * ent u k i) fun i hi => ent_prod h h' n1 hi hi, fs_ext (f := fun i => ent (prodT u t) i i) (g := fun i => fs n fun k => ent u i k * ent t k i) fun i hi => ent_prod h' h n1 hi hi, fs_comm]
  exact fs_ext fun i _ => fs_ext fun k _ => by grind
/-! ### words -/
def Vw (ls : List (List (List Rat))) (w : List Nat) : Prop := ∀ k ∈ w, k < ls.length
theorem wtab_app {n : Nat} {ls : List (List (List Rat))} (n1 : 1 ≤ n) (h : ∀ t ∈ ls, SqX n t) (u : List Nat) (hu : Vw ls u) : ∀ w : List Nat, Vw ls w → wtab n ls (u ++ w) = prodT (wtab n ls u) (wtab n ls w) := by
  intro w
  have key : ∀ (m : Nat) (w : List Nat), w.length = m → Vw ls w → wtab n ls (u ++ w) = prodT (wtab n ls u) (wtab n ls w) := by
    intro m
    induction m with
    | zero =>
      intro w hl hw
      rw [List.eq_nil_of_length_eq_zero hl, List.append_nil]
      exact (prod_idle_r (sq_wtab n1 h u hu) n1).symm
    | succ m ih =>
      intro w hl hw
      have hne : w ≠ [] := fun e => by rw [e] at hl; cases hl
      obtain ⟨w', k, rfl⟩ : ∃ w' k, w = w' ++ [k] := ⟨w.dropLast, w.getLast hne, (List.dropLast_concat_getLast hne).symm⟩
      have hk : k < ls.length := hw k (List.mem_append_right _ (List.mem_singleton.mpr rfl))
      have hw' : Vw ls w' := fun j hj => hw j (List.mem_append_left _ hj)
      rw [← List.append_assoc, wtab_snoc, wtab_snoc, ih w' (by simpa using hl) hw', prod_assoc (sq_wtab n1 h u hu) (sq_wtab n1 h w' hw') (h _ (getD_mem hk).1) n1]
  exact key w.length w rfl
theorem wtab_one {n : Nat} {ls : List (List (List Rat))} (n1 : 1 ≤ n) (h : ∀ t ∈ ls, SqX n t) {k : Nat} (hk : k < ls.length) : wtab n ls [k] = ls.getD k [] := prod_idle_l (h _ (getD_mem hk).1) n1
theorem wtab_cons {n : Nat} {ls : List (List (List Rat))} (n1 : 1 ≤ n) (h : ∀ t ∈ ls, SqX n t) {k : Nat} {w : List Nat} (hk : k < ls.length) (hw : Vw ls w) : wtab n ls (k :: w) = prodT (ls.getD k []) (wtab n ls w) := by
  rw [show k :: w = [k] ++ w from rfl, wtab_app n1 h [k] (fun j hj => by rw [List.mem_singleton.mp hj]; exact hk) w hw, wtab_one n1 h hk]
theorem getD_map' {f : List (List Rat) → List (List Rat)} {ls : List (List (List Rat))} {k : Nat} (hk : k < ls.length) : (ls.map f).getD k [] = f (ls.getD k []) := getD_map hk
theorem wtab_abo {n : Nat} {ls : List (List (List Rat))} (n1 : 1 ≤ n) (h : ∀ t ∈ ls, SqX n t) : ∀ w : List Nat, Vw ls w → wtab n (ls.map aboT) w = aboT (wtab n ls w.reverse)
  | [], _ => (abo_idle n).symm
  | k :: w, hw => by
    have hk := hw k (List.mem_cons_self ..)
    have hw' : Vw ls w := fun j hj => hw j (List.mem_cons_of_mem _ hj)
    have hr : Vw ls w.reverse := fun j hj => hw' j (List.mem_reverse.mp hj)
    have h2 : ∀ t ∈ ls.map aboT, SqX n t := fun t ht => by
      obtain ⟨q, hq, rfl⟩ := List.mem_map.mp ht
      exact sqa (h q hq)
    rw [wtab_cons n1 h2 (by rw [List.length_map]; exact hk) (fun j hj => by rw [List.length_map]; exact hw' j hj), getD_map' hk, wtab_abo n1 h w hw', ← abo_prod (sq_wtab n1 h _ hr) (h _ (getD_mem hk).1) n1, ← wtab_snoc, List.reverse_cons]
/-! ### one beside the other -/
def blk (n : Nat) (A B : Nat → Nat → Rat) : Nat → Nat → Rat := fun i j => if i < n then (if j < n then A i j else 0) else (if j < n then 0 else B (i - n) (j - n))
theorem sqo {n m : Nat} {t u : List (List Rat)} (h : SqX n t) (h' : SqX m u) : SqX (n + m) (onT t u) := by
  unfold onT
  refine ⟨by rw [List.length_append, List.length_map, List.length_map, h.1, h'.1], fun r hr => ?_⟩
  rcases List.mem_append.mp hr with hr | hr
  · obtain ⟨q, hq, rfl⟩ := List.mem_map.mp hr
    rw [List.length_append, h.2 q hq, List.length_replicate, h'.1]
  · obtain ⟨q, hq, rfl⟩ := List.mem_map.mp hr
    rw [List.length_append, h'.2 q hq, List.length_replicate, h.1]
theorem getD_app {α : Type} {l l' : List α} {i : Nat} {d : α} : (l ++ l').getD i d = if i < l.length then l.getD i d else l'.getD (i - l.length) d := by
  rw [List.getD_eq_getElem?_getD, List.getElem?_append]
  split
  · rw [List.getD_eq_getElem?_getD]
  · rw [List.getD_eq_getElem?_getD]
theorem getD_rep {n i : Nat} : (List.replicate n (0 : Rat)).getD i 0 = 0 := by
  rw [List.getD_eq_getElem?_getD, List.getElem?_replicate]
  split <;> rfl
theorem ent_on {n m : Nat} {t u : List (List Rat)} (h : SqX n t) (h' : SqX m u) {i j : Nat} (hi : i < n + m) (hj : j < n + m) : ent (onT t u) i j = blk n (ent t) (ent u) i j := by
  unfold ent onT blk
  rw [getD_app, List.length_map, h.1]
  by_cases h1 : i < n
  · rw [if_pos h1, if_pos h1, getD_map (a := []) (by rw [h.1]; exact h1), getD_app, (row_at h h1).2]
    by_cases h2 : j < n
    · rw [if_pos h2, if_pos h2]
    · rw [if_neg h2, if_neg h2, getD_rep]
  · rw [if_neg h1, if_neg h1, getD_map (a := []) (by rw [h'.1]; omega), getD_app, List.length_replicate]
    by_cases h2 : j < n
    · rw [if_pos h2, if_pos h2, getD_rep]
    · rw [if_neg h2, if_neg h2]
theorem on_prod {n m : Nat} {t u t' u' : List (List Rat)} (h : SqX n t) (k : SqX m u) (h' : SqX n t') (k' : SqX m u') (n1 : 1 ≤ n) (m1 : 1 ≤ m) : prodT (onT t u) (onT t' u') = onT (prodT t t') (prodT u u') :=
  tab_ext (sqp (sqo h k) (sqo h' k') (by omega)) (sqo (sqp h h' n1) (sqp k k' m1)) fun i j hi hj => by
    rw [ent_prod (sqo h k) (sqo h' k') (by omega) hi hj, ent_on (sqp h h' n1) (sqp k k' m1) hi hj]
    unfold mm
    rw [fs_ext (g := fun l => blk n (ent t) (ent u) i l * blk n (ent t') (ent u') l j) fun l hl => by rw [ent_on h k hi hl, ent_on h' k' hl hj], fs_split]
    unfold blk
    by_cases h1 : i < n
    · by_cases h2 : j < n
      · rw [if_pos h1, if_pos h2, ent_prod h h' n1 h1 h2, fs_ext (n := n) (g := fun l => ent t i l * ent t' l j) fun l hl => by simp only [if_pos h1, if_pos h2, if_pos hl], fs_zero (n := m) fun l _ => by simp only [if_pos h1, if_neg (show ¬ n + l < n by omega)]; grind]
        show _ + 0 = fs n _
        grind
      · rw [if_pos h1, if_neg h2, fs_zero (n := n) fun l hl => by simp only [if_pos h1, if_neg h2, if_pos hl]; grind, fs_zero (n := m) fun l _ => by simp only [if_pos h1, if_neg (show ¬ n + l < n by omega)]; grind]
        grind
    · by_cases h2 : j < n
      · rw [if_neg h1, if_pos h2, fs_zero (n := n) fun l hl => by simp only [if_neg h1, if_pos hl]; grind, fs_zero (n := m) fun l _ => by simp only [if_neg h1, if_pos h2, if_neg (show ¬ n + l < n by omega)]; grind]
        grind
      · rw [if_neg h1, if_neg h2, ent_prod k k' m1 (by omega) (by omega), fs_zero (n := n) fun l hl => by simp only [if_neg h1, if_pos hl]; grind, fs_ext (n := m) (g := fun l => ent u (i - n) l * ent u' l (j - n)) fun l hl => by simp only [if_neg h1, if_neg h2, if_neg (show ¬ n + l < n by omega), show n + l - n = l by omega]]
        show 0 + _ = fs m _
        grind
theorem on_idle (n m : Nat) : onT (idleT n) (idleT m) = idleT (n + m) :=
  tab_ext (sqo (sq_idle n) (sq_idle m)) (sq_idle (n + m)) fun i j hi hj => by
    rw [ent_on (sq_idle n) (sq_idle m) hi hj, ent_idle hi hj]
    unfold blk
    by_cases h1 : i < n
    · by_cases h2 : j < n
      · rw [if_pos h1, if_pos h2, ent_idle h1 h2]
      · rw [if_pos h1, if_neg h2]; unfold one; rw [if_neg (by omega)]
    · by_cases h2 : j < n
      · rw [if_neg h1, if_pos h2]; unfold one; rw [if_neg (by omega)]
      · rw [if_neg h1, if_neg h2, ent_idle (by omega) (by omega)]
        unfold one
        by_cases e : i = j
        · rw [if_pos e, if_pos (by omega)]
        · rw [if_neg e, if_neg (by omega)]
theorem wtab_on {n m : Nat} {ls ls' : List (List (List Rat))} (n1 : 1 ≤ n) (m1 : 1 ≤ m) (h : ∀ t ∈ ls, SqX n t) (h' : ∀ t ∈ ls', SqX m t) (hl : ls.length = ls'.length) : ∀ w : List Nat, Vw ls w → wtab (n + m) (List.zipWith onT ls ls') w = onT (wtab n ls w) (wtab m ls' w)
  | [], _ => (on_idle n m).symm
  | k :: w, hw => by
    have hk := hw k (List.mem_cons_self ..)
    have hw' : Vw ls w := fun j hj => hw j (List.mem_cons_of_mem _ hj)
    have lz : (List.zipWith onT ls ls').length = ls.length := by rw [List.length_zipWith]; omega
    have h2 : ∀ t ∈ List.zipWith onT ls ls', SqX (n + m) t := fun t ht => by
      rw [List.mem_iff_getElem] at ht
      obtain ⟨i, hi, rfl⟩ := ht
      rw [List.getElem_zipWith]
      exact sqo (h _ (List.getElem_mem _)) (h' _ (List.getElem_mem _))
    have e : (List.zipWith onT ls ls').getD k [] = onT (ls.getD k []) (ls'.getD k []) := by
      rw [List.getD_eq_getElem?_getD, List.getD_eq_getElem?_getD, List.getD_eq_getElem?_getD, List.getElem?_eq_getElem (by rw [lz]; exact hk), List.getElem?_eq_getElem hk, List.getElem?_eq_getElem (by omega)]
      show (List.zipWith onT ls ls')[k] = _
      rw [List.getElem_zipWith]; rfl
    rw [wtab_cons (by omega) h2 (by rw [lz]; exact hk) (fun j hj => by rw [lz]; exact hw' j hj), e, wtab_on n1 m1 h h' hl w hw', wtab_cons n1 h hk hw', wtab_cons m1 h' (by omega) (fun j hj => by rw [← hl]; exact hw' j hj), on_prod (h _ (getD_mem hk).1) (h' _ (getD_mem (by omega)).1) (sq_wtab n1 h w hw') (sq_wtab m1 h' w fun j hj => by rw [← hl]; exact hw' j hj) n1 m1]
theorem on_take {n m : Nat} {t u : List (List Rat)} (h : SqX n t) (h' : SqX m u) : (onT t u).take n = t.map (· ++ List.replicate m 0) ∧ (onT t u).drop n = u.map (List.replicate n 0 ++ ·) := by
  unfold onT
  rw [h.1, h'.1]
  constructor
  · rw [List.take_append_of_le_length (by rw [List.length_map, h.1]; exact Nat.le_refl _), List.take_of_length_le (by rw [List.length_map, h.1]; exact Nat.le_refl _)]
  · rw [List.drop_append, List.length_map, h.1, Nat.sub_self, List.drop_zero, List.drop_eq_nil_of_le (by rw [List.length_map, h.1]; exact Nat.le_refl _), List.nil_append]
theorem tr_on {n m : Nat} {t u : List (List Rat)} (h : SqX n t) (h' : SqX m u) : trT (onT t u) = trT t + trT u := by
  rw [tr_fs (sqo h h'), tr_fs h, tr_fs h', fs_split]
  rw [fs_ext (n := n) (g := fun i => ent t i i) fun i hi => by rw [ent_on h h' (by omega) (by omega)]; unfold blk; rw [if_pos hi, if_pos hi]]
  rw [fs_ext (n := m) (f := fun k => ent (onT t u) (n + k) (n + k)) (g := fun i => ent u i i) fun i hi => by rw [ent_on h h' (by omega) (by omega)]; unfold blk; rw [if_neg (by omega), if_neg (by omega), show n + i - n = i by omega]]
/-! ### led -/
theorem led_prod {n : Nat} {p q t u : List (List Rat)} (hp : SqX n p) (hq : SqX n q) (ht : SqX n t) (hu : SqX n u) (n1 : 1 ≤ n) (qp : prodT q p = idleT n) : prodT (ledT p q t) (ledT p q u) = ledT p q (prodT t u) := by
  have pt := sqp hp ht n1
  have pu := sqp hp hu n1
  show prodT (prodT (prodT p t) q) (prodT (prodT p u) q) = prodT (prodT p (prodT t u)) q
  rw [← prod_assoc (sqp pt hq n1) pu hq n1, ← prod_assoc (sqp pt hq n1) hp hu n1, prod_assoc pt hq hp n1, qp, prod_idle_r pt n1, prod_assoc hp ht hu n1]
theorem led_idle {n : Nat} {p q : List (List Rat)} (hp : SqX n p) (n1 : 1 ≤ n) (pq : prodT p q = idleT n) : ledT p q (idleT n) = idleT n := by
  show prodT (prodT p (idleT n)) q = _
  rw [prod_idle_r hp n1, pq]
theorem sqled {n : Nat} {p q t : List (List Rat)} (hp : SqX n p) (hq : SqX n q) (ht : SqX n t) (n1 : 1 ≤ n) : SqX n (ledT p q t) := sqp (sqp hp ht n1) hq n1
theorem wtab_led {n : Nat} {p q : List (List Rat)} {ls : List (List (List Rat))} (hp : SqX n p) (hq : SqX n q) (n1 : 1 ≤ n) (pq : prodT p q = idleT n) (qp : prodT q p = idleT n) (h : ∀ t ∈ ls, SqX n t) : ∀ w : List Nat, Vw ls w → wtab n (ls.map (ledT p q)) w = ledT p q (wtab n ls w)
  | [], _ => (led_idle hp n1 pq).symm
  | k :: w, hw => by
    have hk := hw k (List.mem_cons_self ..)
    have hw' : Vw ls w := fun j hj => hw j (List.mem_cons_of_mem _ hj)
    have h2 : ∀ t ∈ ls.map (ledT p q), SqX n t := fun t ht => by
      obtain ⟨r, hr, rfl⟩ := List.mem_map.mp ht
      exact sqled hp hq (h r hr) n1
    rw [wtab_cons n1 h2 (by rw [List.length_map]; exact hk) (fun j hj => by rw [List.length_map]; exact hw' j hj), getD_map' hk, wtab_led hp hq n1 pq qp h w hw', led_prod hp hq (h _ (getD_mem hk).1) (sq_wtab n1 h w hw') n1 qp, ← wtab_cons n1 h hk hw']
theorem tr_led {n : Nat} {p q t : List (List Rat)} (hp : SqX n p) (hq : SqX n q) (ht : SqX n t) (n1 : 1 ≤ n) (qp : prodT q p = idleT n) : trT (ledT p q t) = trT t := by
  show trT (prodT (prodT p t) q) = _
  rw [tr_prod (sqp hp ht n1) hq n1, ← prod_assoc hq hp ht n1, qp, prod_idle_l ht n1]
theorem led_back {n : Nat} {p q t : List (List Rat)} (hp : SqX n p) (hq : SqX n q) (ht : SqX n t) (n1 : 1 ≤ n) (qp : prodT q p = idleT n) : ledT q p (ledT p q t) = t := by
  show prodT (prodT q (prodT (prodT p t) q)) p = t
  rw [← prod_assoc hq (sqp hp ht n1) hq n1, ← prod_assoc hq hp ht n1, qp, prod_idle_l ht n1, prod_assoc ht hq hp n1, qp, prod_idle_r ht n1]
end K28
end
section
set_option Elab.async false
set_option linter.all false
set_option maxRecDepth 100000
set_option maxHeartbeats 4000000
set_option autoImplicit false
namespace K28
theorem at0_out {row : List Int} {k : Nat} (h : row.length ≤ k) : at0 row k = 0 := by
  unfold at0; rw [List.getD_eq_getElem?_getD, List.getElem?_eq_none h]; rfl
theorem at0_map {f : Int → Int} {row : List Int} {k : Nat} (h : k < row.length) : at0 (row.map f) k = f (at0 row k) := getD_map h
theorem bare_sc (row : List Int) : ∃ c : Rat, 0 < c ∧ ∀ k, (at0 (bare row) k : Rat) = c * (at0 row k : Rat) := by
  unfold bare
  split
  · rename_i hg
    have hg0 : (gcdL row : Rat) ≠ 0 := by
      intro e
      have e' : ((gcdL row : Int) : Rat) = ((0 : Int) : Rat) := e
      have := Rat.intCast_inj.mp e'
      omega
    have hgp : (0 : Rat) < (gcdL row : Rat) := by
      have : ((0 : Int) : Rat) < ((gcdL row : Int) : Rat) := Rat.intCast_lt_intCast.mpr (by omega)
      exact this
    refine ⟨1 / (gcdL row : Rat), ?_, fun k => ?_⟩
    · have := Rat.inv_pos.mpr hgp
      rw [Rat.div_def]; grind
    · by_cases hk : k < row.length
      · rw [at0_map hk]
        have hd : (gcdL row : Int) ∣ at0 row k := by
          have hm : at0 row k ∈ row := (getD_mem (d := (0 : Int)) hk).1
          exact Int.natAbs_dvd_natAbs.mp (by rw [Int.natAbs_natCast]; exact gcdL_dvd hm)
        obtain ⟨b, hb⟩ := hd
        rw [hb, Int.mul_ediv_cancel_left _ (by omega), Rat.intCast_mul]
        show (b : Rat) = 1 / (gcdL row : Rat) * ((gcdL row : Rat) * (b : Rat))
        grind
      · rw [at0_out (by rw [List.length_map]; omega), at0_out (by omega)]
        show (0 : Rat) = _ * 0
        grind
  · exact ⟨1, by decide, fun k => by grind⟩
theorem headed_sc (row : List Int) (p : Nat) : ∃ c : Rat, c ≠ 0 ∧ (∀ k, (at0 (headed row p) k : Rat) = c * (at0 row k : Rat)) ∧ (at0 row p ≠ 0 → 0 < at0 (headed row p) p) := by
  obtain ⟨c, hc, h⟩ := bare_sc row
  have nz : at0 row p ≠ 0 → at0 (bare row) p ≠ 0 := fun hp e => by
    have := h p
    rw [e] at this
    have h0 : ((at0 row p : Int) : Rat) = ((0 : Int) : Rat) := by
      show _ = (0 : Rat)
      have t : (0 : Rat) = c * (at0 row p : Rat) := this
      grind
    exact hp (Rat.intCast_inj.mp h0)
  unfold headed
  split
  · rename_i hp
    exact ⟨c, by grind, h, fun _ => hp⟩
  · rename_i hp
    refine ⟨-c, by grind, fun k => ?_, fun h0 => ?_⟩
    · by_cases hk : k < (bare row).length
      · rw [at0_map hk, Rat.intCast_sub, h k]
        show (0 : Rat) - _ = _
        grind
      · rw [at0_out (by rw [List.length_map]; omega), at0_out (by rw [← len_bare]; omega)]
        show (0 : Rat) = _ * 0
        grind
    · have hb := nz h0
      have hk : p < (bare row).length := by
        rcases Nat.lt_or_ge p (bare row).length with q | q
        · exact q
        · exact absurd (at0_out q) hb
      rw [at0_map hk]
      omega
theorem at0_zip {f : Int → Int → Int} {a b : List Int} (hl : a.length = b.length) (h0 : f 0 0 = 0) (k : Nat) : at0 (List.zipWith f a b) k = f (at0 a k) (at0 b k) := by
  by_cases hk : k < a.length
  · unfold at0
    rw [List.getD_eq_getElem?_getD, List.getElem?_zipWith, List.getD_eq_getElem?_getD, List.getD_eq_getElem?_getD, List.getElem?_eq_getElem hk, List.getElem?_eq_getElem (by omega)]; rfl
  · rw [at0_out (by rw [List.length_zipWith]; omega), at0_out (by omega), at0_out (by omega), h0]
/-- what clear does: a times the row, and something of the head -/
theorem clear_sc {row head : List Int} {p : Nat} (hl : row.length = head.length) (hp : 0 < at0 head p) : ∃ a b : Rat, 0 < a ∧ (∀ k, (at0 (clear row head p) k : Rat) = a * (at0 row k : Rat) + b * (at0 head k : Rat)) ∧ at0 (clear row head p) p = 0 := by
  unfold clear
  split
  · rename_i h0
    exact ⟨1, 0, by decide, fun k => by grind, h0⟩
  · obtain ⟨c, hc, h⟩ := bare_sc (List.zipWith (fun n f => at0 head p * n - at0 row p * f) row head)
    have hz : ∀ k, (at0 (bare (List.zipWith (fun n f => at0 head p * n - at0 row p * f) row head)) k : Rat) = c * ((at0 head p : Rat) * (at0 row k : Rat) - (at0 row p : Rat) * (at0 head k : Rat)) := fun k => by
      rw [h k, at0_zip hl (by simp), Rat.intCast_sub, Rat.intCast_mul, Rat.intCast_mul]
    have hpq : (0 : Rat) < (at0 head p : Rat) := Rat.intCast_lt_intCast.mpr hp
    refine ⟨c * (at0 head p : Rat), -(c * (at0 row p : Rat)), Rat.mul_pos hc hpq, fun k => by rw [hz k]; grind, ?_⟩
    have := hz p
    have e : ((at0 (bare (List.zipWith (fun n f => at0 head p * n - at0 row p * f) row head)) p : Int) : Rat) = ((0 : Int) : Rat) := by
      rw [this]
      show _ = (0 : Rat)
      grind
    exact Rat.intCast_inj.mp e
/-! ### the steps keep the solutions -/
def dt (N : Nat) (row : List Int) (x : Nat → Rat) : Rat := fs N fun k => (at0 row k : Rat) * x k
theorem dt_lin {N : Nat} {r s t : List Int} {x : Nat → Rat} {a b : Rat} (h : ∀ k, (at0 r k : Rat) = a * (at0 s k : Rat) + b * (at0 t k : Rat)) : dt N r x = a * dt N s x + b * dt N t x := by
  unfold dt
  rw [← fs_smul, ← fs_smul, ← fs_add]
  exact fs_ext fun k _ => by rw [h k]; grind
def Ker (N : Nat) (s : Two) (x : Nat → Rat) : Prop := (∀ r ∈ s.left, dt N r x = 0) ∧ ∀ r ∈ s.found, dt N r x = 0
def Lens (N : Nat) (s : Two) : Prop := (∀ r ∈ s.left, r.length = N) ∧ ∀ r ∈ s.found, r.length = N
theorem firstAt_some {rows : List (List Int)} {p i : Nat} (h : firstAt rows p = some i) : i < rows.length ∧ rows.getD i [] ∈ rows ∧ at0 (rows.getD i []) p ≠ 0 := by
  unfold firstAt at h
  obtain ⟨h1, h2, _⟩ := List.findIdx?_eq_some_iff_getElem.mp h
  refine ⟨h1, (getD_mem h1).1, ?_⟩
  rw [List.getD_eq_getElem?_getD, List.getElem?_eq_getElem h1]
  simpa using h2
theorem firstAt_none {rows : List (List Int)} {p : Nat} (h : firstAt rows p = none) : ∀ r ∈ rows, at0 r p = 0 := fun r hr => by
  unfold firstAt at h
  simpa using List.findIdx?_eq_none_iff.mp h r hr
theorem mem_split {α : Type} {l : List α} {i : Nat} {d : α} (h : i < l.length) : ∀ r, r ∈ l ↔ r = l.getD i d ∨ r ∈ l.take i ++ l.drop (i + 1) := fun r => by
  have e : l = l.take i ++ l.getD i d :: l.drop (i + 1) := by
    rw [List.getD_eq_getElem?_getD, List.getElem?_eq_getElem h]
    show l = l.take i ++ l[i] :: l.drop (i + 1)
    rw [← List.drop_eq_getElem_cons h, List.take_append_drop]
  constructor
  · intro hr
    rw [e] at hr
    rcases List.mem_append.mp hr with q | q
    · exact .inr (List.mem_append_left _ q)
    · rcases List.mem_cons.mp q with q | q
      · exact .inl q
      · exact .inr (List.mem_append_right _ q)
  · intro hr
    rw [e]
    rcases hr with q | q
    · exact List.mem_append_right _ (List.mem_cons.mpr (.inl q))
    · rcases List.mem_append.mp q with q | q
      · exact List.mem_append_left _ q
      · exact List.mem_append_right _ (List.mem_cons_of_mem _ q)
theorem turn_keeps {N p : Nat} {s : Two} (L : Lens N s) : Lens N (turn1 s p) ∧ ∀ x, Ker N (turn1 s p) x ↔ Ker N s x := by
  unfold turn1
  cases e : firstAt s.left p with
  | none => exact ⟨L, fun x => Iff.rfl⟩
  | some i =>
    obtain ⟨hi, hm, hnz⟩ := firstAt_some e
    dsimp only
    generalize hd : s.left.getD i [] = dr at *
    obtain ⟨c, hc, hs, hpos⟩ := headed_sc dr p
    have hp := hpos hnz
    have lh : (headed dr p).length = N := by rw [len_headed]; exact L.1 dr hm
    have mem := mem_split (d := ([] : List Int)) hi
    rw [hd] at mem
    have cl : ∀ r : List Int, r.length = N → (clear r (headed dr p) p).length = N := fun r hr => by rw [len_clear (by rw [hr, lh])]; exact hr
    have hdt : ∀ x, dt N (headed dr p) x = c * dt N dr x := fun x => by
      rw [dt_lin (s := dr) (t := dr) (a := c) (b := 0) fun k => by rw [hs k]; grind]; grind
    have hcl : ∀ (r : List Int), r.length = N → ∀ x, dt N (headed dr p) x = 0 → (dt N (clear r (headed dr p) p) x = 0 ↔ dt N r x = 0) := fun r hr x h0 => by
      obtain ⟨a, b, ha, hab, _⟩ := clear_sc (row := r) (head := headed dr p) (p := p) (by rw [hr, lh]) hp
      rw [dt_lin hab, h0]
      constructor <;> intro h <;> grind
    refine ⟨⟨fun r hr => ?_, fun r hr => ?_⟩, fun x => ⟨fun ⟨h1, h2⟩ => ?_, fun ⟨h1, h2⟩ => ?_⟩⟩
    · obtain ⟨q, hq, rfl⟩ := List.mem_map.mp hr
      exact cl q (L.1 q ((mem q).mpr (.inr hq)))
    · rcases List.mem_append.mp hr with hr | hr
      · obtain ⟨q, hq, rfl⟩ := List.mem_map.mp hr
        exact cl q (L.2 q hq)
      · rw [List.mem_singleton.mp hr]; exact lh
    · have h0 : dt N (headed dr p) x = 0 := h2 _ (List.mem_append_right _ (List.mem_singleton.mpr rfl))
      have hdr : dt N dr x = 0 := by have := hdt x; rw [h0] at this; grind
      refine ⟨fun r hr => ?_, fun r hr => ?_⟩
      · rcases (mem r).mp hr with rfl | hr'
        · exact hdr
        · exact (hcl r (L.1 r hr) x h0).mp (h1 _ (List.mem_map.mpr ⟨r, hr', rfl⟩))
      · exact (hcl r (L.2 r hr) x h0).mp (h2 _ (List.mem_append_left _ (List.mem_map.mpr ⟨r, hr, rfl⟩)))
    · have h0 : dt N (headed dr p) x = 0 := by rw [hdt x, h1 dr hm]; grind
      refine ⟨fun r hr => ?_, fun r hr => ?_⟩
      · obtain ⟨q, hq, rfl⟩ := List.mem_map.mp hr
        have := (mem q).mpr (.inr hq)
        exact (hcl q (L.1 q this) x h0).mpr (h1 q this)
      · rcases List.mem_append.mp hr with hr | hr
        · obtain ⟨q, hq, rfl⟩ := List.mem_map.mp hr
          exact (hcl q (L.2 q hq) x h0).mpr (h2 q hq)
        · rw [List.mem_singleton.mp hr]; exact h0
theorem steps_keep {N : Nat} {rows : List (List Int)} (h : ∀ r ∈ rows, r.length = N) : ∀ k, Lens N (stepsTo rows k) ∧ ∀ x, Ker N (stepsTo rows k) x ↔ ∀ r ∈ rows, dt N r x = 0 := by
  intro k
  induction k with
  | zero => exact ⟨⟨h, fun r hr => by cases hr⟩, fun x => ⟨fun q => q.1, fun q => ⟨q, fun r hr => by cases hr⟩⟩⟩
  | succ k ih =>
    rw [stepsTo_succ]
    obtain ⟨h1, h2⟩ := turn_keeps (p := k) ih.1
    exact ⟨h1, fun x => (h2 x).trans (ih.2 x)⟩
/-- the first k columns are done -/
structure Ech (k : Nat) (s : Two) : Prop where
  len : s.found.length = k
  left : ∀ r ∈ s.left, ∀ q, q < k → at0 r q = 0
  piv : ∀ i, i < k → 0 < at0 (s.found.getD i []) i
  off : ∀ i j, i < k → j < k → i ≠ j → at0 (s.found.getD j []) i = 0
theorem ech_turn {N k : Nat} {s : Two} (L : Lens N s) (E : Ech k s) (hk : k < N) (hx : ¬ ∃ x : Nat → Rat, Ker N s x ∧ x k = 1 ∧ ∀ c, k < c → x c = 0) : Ech (k + 1) (turn1 s k) := by
  unfold turn1
  cases e : firstAt s.left k with
  | none =>
    exfalso
    have hz := firstAt_none e
    refine hx ⟨fun c => if c = k then 1 else if c < k then -(at0 (s.found.getD c []) k : Rat) / (at0 (s.found.getD c []) c : Rat) else 0, ⟨fun r hr => ?_, fun r hr => ?_⟩, if_pos rfl, fun c hc => (if_neg (by omega)).trans (if_neg (by omega))⟩
    · refine fs_zero fun c _ => ?_
      by_cases h1 : c = k
      · rw [h1, hz r hr]
        show (0 : Rat) * _ = 0
        grind
      · by_cases h2 : c < k
        · rw [E.left r hr c h2]
          show (0 : Rat) * _ = 0
          grind
        · dsimp only
          rw [if_neg h1, if_neg h2]; grind
    · obtain ⟨j, hj, rfl⟩ := List.mem_iff_getElem.mp hr
      have hjk : j < k := by rw [← E.len]; exact hj
      have ej : s.found[j] = s.found.getD j [] := by rw [List.getD_eq_getElem?_getD, List.getElem?_eq_getElem hj]; rfl
      rw [ej]
      have pj : ((at0 (s.found.getD j []) j : Int) : Rat) ≠ 0 := by
        have := E.piv j hjk
        intro h
        have h' : ((at0 (s.found.getD j []) j : Int) : Rat) = ((0 : Int) : Rat) := h
        have := Rat.intCast_inj.mp h'
        omega
      unfold dt
      rw [fs_ext (g := fun c => (if c = k then (at0 (s.found.getD j []) c : Rat) else 0) + (if c = j then -(at0 (s.found.getD j []) k : Rat) else 0)) fun c _ => ?_, fs_add, fs_delta' N k (fun c => (at0 (s.found.getD j []) c : Rat)) hk, fs_delta' N j (fun _ => -(at0 (s.found.getD j []) k : Rat)) (by omega)]
      · grind
      · dsimp only
        by_cases h1 : c = k
        · rw [if_pos h1, if_pos h1, if_neg (by omega)]; grind
        · rw [if_neg h1, if_neg h1]
          by_cases h2 : c < k
          · rw [if_pos h2]
            by_cases h3 : c = j
            · rw [if_pos h3, h3]; grind
            · rw [if_neg h3, E.off c j h2 hjk h3]
              show (0 : Rat) * _ = _
              grind
          · rw [if_neg h2, if_neg (by omega)]; grind
  | some i =>
    obtain ⟨hi, hm, hnz⟩ := firstAt_some e
    dsimp only
    generalize hd : s.left.getD i [] = dr at *
    obtain ⟨c, hc, hs, hpos⟩ := headed_sc dr k
    have hp := hpos hnz
    have lh : (headed dr k).length = N := by rw [len_headed]; exact L.1 dr hm
    have mem := mem_split (d := ([] : List Int)) hi
    rw [hd] at mem
    have z0 : ∀ {z : Int}, ((z : Int) : Rat) = 0 → z = 0 := fun {z} h => Rat.intCast_inj.mp (show ((z : Int) : Rat) = ((0 : Int) : Rat) from h)
    have hh : ∀ q, q < k → at0 (headed dr k) q = 0 := fun q hq => z0 (by
      rw [hs q, E.left dr hm q hq]
      show c * 0 = 0
      grind)
    have gf : ∀ j, j < k → (s.found.map (fun r => clear r (headed dr k) k) ++ [headed dr k]).getD j [] = clear (s.found.getD j []) (headed dr k) k := fun j hj => by
      rw [getD_app, List.length_map, E.len, if_pos hj, getD_map (a := []) (by rw [E.len]; exact hj)]
    have gk : (s.found.map (fun r => clear r (headed dr k) k) ++ [headed dr k]).getD k [] = headed dr k := by
      rw [getD_app, List.length_map, E.len, if_neg (Nat.lt_irrefl k), Nat.sub_self]; rfl
    have fl : ∀ j, j < k → (s.found.getD j []).length = N := fun j hj => L.2 _ (getD_mem (by rw [E.len]; exact hj)).1
    refine ⟨by rw [List.length_append, List.length_map, E.len]; rfl, fun r hr q hq => ?_, fun j hj => ?_, fun a b ha hb hab => ?_⟩
    · obtain ⟨r', hr', rfl⟩ := List.mem_map.mp hr
      have hr2 := (mem r').mpr (.inr hr')
      obtain ⟨a, b, _, hab, h0⟩ := clear_sc (row := r') (head := headed dr k) (p := k) (by rw [L.1 r' hr2, lh]) hp
      by_cases hqk : q = k
      · rw [hqk]; exact h0
      · exact z0 (by
          rw [hab q, E.left r' hr2 q (by omega), hh q (by omega)]
          show a * 0 + b * 0 = 0
          grind)
    · show 0 < at0 ((s.found.map (fun r => clear r (headed dr k) k) ++ [headed dr k]).getD j []) j
      by_cases hjk : j = k
      · rw [hjk, gk]; exact hp
      · have hj' : j < k := by omega
        rw [gf j hj']
        obtain ⟨a, b, ha, hab, _⟩ := clear_sc (row := s.found.getD j []) (head := headed dr k) (p := k) (by rw [fl j hj', lh]) hp
        have h1 := hab j
        rw [hh j hj'] at h1
        have h2 : (0 : Rat) < (at0 (s.found.getD j []) j : Rat) := Rat.intCast_lt_intCast.mpr (E.piv j hj')
        have h3 : ((0 : Int) : Rat) < ((at0 (clear (s.found.getD j []) (headed dr k) k) j : Int) : Rat) := by
          rw [h1]
          show (0 : Rat) < a * _ + b * 0
          have := Rat.mul_pos ha h2
          grind
        exact Rat.intCast_lt_intCast.mp h3
    · show at0 ((s.found.map (fun r => clear r (headed dr k) k) ++ [headed dr k]).getD b []) a = 0
      by_cases hbk : b = k
      · rw [hbk, gk]; exact hh a (by omega)
      · have hb' : b < k := by omega
        rw [gf b hb']
        obtain ⟨u, v, _, huv, h0⟩ := clear_sc (row := s.found.getD b []) (head := headed dr k) (p := k) (by rw [fl b hb', lh]) hp
        by_cases hak : a = k
        · rw [hak]; exact h0
        · exact z0 (by
            rw [huv a, E.off a b (by omega) hb' hab, hh a (by omega)]
            show u * 0 + v * 0 = 0
            grind)
end K28
end
section
set_option Elab.async false
set_option linter.all false
set_option maxRecDepth 100000
set_option maxHeartbeats 4000000
set_option autoImplicit false
namespace K28
theorem headOf_is {row : List Int} {j : Nat} (h : at0 row j ≠ 0) (k : ∀ q, q < j → at0 row q = 0) : headOf row = j ∧ j < row.length := by
  have hj : j < row.length := by
    rcases Nat.lt_or_ge j row.length with q | q
    · exact q
    · exact absurd (at0_out q) h
  refine ⟨?_, hj⟩
  unfold headOf
  rw [List.findIdx_eq hj]
  have e : ∀ (i : Nat) (hi : i < row.length), row[i] = at0 row i := fun i hi => by
    unfold at0; rw [List.getD_eq_getElem?_getD, List.getElem?_eq_getElem hi]; rfl
  refine ⟨by rw [e j hj]; simpa using h, fun q hq => ?_⟩
  rw [e q (by omega), k q hq]; rfl
theorem wide_at {n : Nat} {t : List (List Rat)} (sq : SqX n t) {i : Nat} (hi : i < n) : (wideT t)[i]? = some (t.getD i [] ++ (idleT n).getD i []) := by
  unfold wideT
  rw [sq.1, List.getElem?_zipWith, (row_at sq hi).1, (row_at (sq_idle n) hi).1]
theorem wide_len {n : Nat} {t : List (List Rat)} (sq : SqX n t) : (wideT t).length = n ∧ ∀ r ∈ wideT t, r.length = n + n := by
  have l : (wideT t).length = n := by unfold wideT; rw [List.length_zipWith, sq.1, (sq_idle n).1, Nat.min_self]
  refine ⟨l, fun r hr => ?_⟩
  obtain ⟨i, hi, rfl⟩ := List.mem_iff_getElem.mp hr
  have := wide_at sq (i := i) (by omega)
  rw [List.getElem?_eq_getElem hi] at this
  rw [Option.some.inj this, List.length_append, (row_at sq (by omega)).2, (row_at (sq_idle n) (by omega)).2]
theorem lcm_ne (qs : List Rat) : (lcmD qs : Rat) ≠ 0 := by
  have := lcmD_pos qs
  intro h
  have : ((lcmD qs : Int) : Rat) = ((0 : Int) : Rat) := h
  have := Rat.intCast_inj.mp this
  omega
theorem ints_at {qs : List Rat} {k : Nat} (hk : k < qs.length) : (at0 (intsR qs) k : Rat) = qs.getD k 0 * (lcmD qs : Rat) := by
  have e : qs[k]? = some (qs.getD k 0) := (getD_mem hk).2
  obtain ⟨z, hz, hq⟩ := ints_get _ e
  unfold at0
  rw [List.getD_eq_getElem?_getD, hz]
  exact hq
theorem wide_ker {n : Nat} {t : List (List Rat)} (sq : SqX n t) (x : Nat → Rat) : (∀ r ∈ (wideT t).map intsR, dt (n + n) r x = 0) ↔ ∀ i, i < n → fs n (fun k => ent t i k * x k) + x (n + i) = 0 := by
  obtain ⟨w1, w2⟩ := wide_len sq
  have key : ∀ i, i < n → dt (n + n) (intsR (t.getD i [] ++ (idleT n).getD i [])) x = (lcmD (t.getD i [] ++ (idleT n).getD i []) : Rat) * (fs n (fun k => ent t i k * x k) + x (n + i)) := fun i hi => by
    have l1 := (row_at sq hi).2
    have l2 := (row_at (sq_idle n) hi).2
    unfold dt
    rw [fs_split, fs_ext (n := n) (g := fun k => (lcmD (t.getD i [] ++ (idleT n).getD i []) : Rat) * (ent t i k * x k)) fun k hk => ?_, fs_ext (n := n) (f := fun k => (at0 (intsR (t.getD i [] ++ (idleT n).getD i [])) (n + k) : Rat) * x (n + k)) (g := fun k => (lcmD (t.getD i [] ++ (idleT n).getD i []) : Rat) * (if i = k then x (n + k) else 0)) fun k hk => ?_, fs_smul, fs_smul, fs_delta n i (fun k => x (n + k)) hi]
    · grind
    · rw [ints_at (by rw [List.length_append]; omega), getD_app, l1, if_neg (by omega), show n + k - n = k by omega]
      have : ((idleT n).getD i []).getD k 0 = one i k := ent_idle hi hk
      rw [this]
      unfold one
      split <;> grind
    · rw [ints_at (by rw [List.length_append]; omega), getD_app, l1, if_pos hk]
      show ent t i k * _ * _ = _
      grind
  constructor
  · intro h i hi
    have := h _ (List.mem_map.mpr ⟨_, List.mem_of_getElem? (wide_at sq hi), rfl⟩)
    rw [key i hi] at this
    have l := lcm_ne (t.getD i [] ++ (idleT n).getD i [])
    grind
  · intro h r hr
    obtain ⟨q, hq, rfl⟩ := List.mem_map.mp hr
    obtain ⟨i, hi, rfl⟩ := List.mem_iff_getElem.mp hq
    have e := wide_at sq (i := i) (by omega)
    rw [List.getElem?_eq_getElem hi] at e
    rw [Option.some.inj e, key i (by omega), h i (by omega)]; grind
theorem und_main {n : Nat} {t s : List (List Rat)} (n1 : 1 ≤ n) (sq : SqX n t) (sq' : SqX n s) (ts : prodT t s = idleT n) (st : prodT s t = idleT n) :
    undT t = s ∧ (undF t).length = n ∧ ∀ r ∈ intSteps ((wideT t).map intsR), headOf r < r.length ∧ 0 < at0 r (headOf r) := by
  obtain ⟨w1, w2⟩ := wide_len sq
  have hlen : ∀ r ∈ (wideT t).map intsR, r.length = n + n := fun r hr => by
    obtain ⟨q, hq, rfl⟩ := List.mem_map.mp hr
    unfold intsR
    rw [List.length_map]; exact w2 q hq
  have ets : ∀ i j, i < n → j < n → fs n (fun k => ent t i k * ent s k j) = one i j := fun i j hi hj => by rw [← ent_idle hi hj, ← ts, ent_prod sq sq' n1 hi hj]; rfl
  have est : ∀ i j, i < n → j < n → fs n (fun k => ent s i k * ent t k j) = one i j := fun i j hi hj => by rw [← ent_idle hi hj, ← st, ent_prod sq' sq n1 hi hj]; rfl
  generalize hrows : (wideT t).map intsR = rows at *
  have wk : ∀ x, (∀ r ∈ rows, dt (n + n) r x = 0) ↔ ∀ i, i < n → fs n (fun k => ent t i k * x k) + x (n + i) = 0 := fun x => by rw [← hrows]; exact wide_ker sq x
  have lr : rows.length = n := by rw [← hrows, List.length_map]; exact w1
  have ech : ∀ k, k ≤ n → Ech k (stepsTo rows k) := by
    intro k
    induction k with
    | zero => intro _; exact ⟨rfl, fun r _ q hq => absurd hq (Nat.not_lt_zero q), fun i hi => absurd hi (Nat.not_lt_zero i), fun i j hi => absurd hi (Nat.not_lt_zero i)⟩
    | succ k ih =>
      intro hk
      rw [stepsTo_succ]
      obtain ⟨L, K⟩ := steps_keep hlen k
      refine ech_turn L (ih (by omega)) (by omega) ?_
      rintro ⟨x, hx, x1, x0⟩
      have h0 := (wk x).mp ((K x).mp hx)
      have h1 : fs n (fun i => ent s k i * fs n fun c => ent t i c * x c) = 0 := fs_zero fun i hi => by
        have := h0 i hi
        rw [x0 (n + i) (by omega)] at this
        have e : fs n (fun c => ent t i c * x c) = 0 := by grind
        rw [e]; grind
      have h2 : fs n (fun i => ent s k i * fs n fun c => ent t i c * x c) = x k := by
        rw [fs_ext (g := fun i => fs n fun c => ent s k i * ent t i c * x c) fun i _ => by rw [← fs_smul]; exact fs_ext fun c _ => by grind, fs_comm, fs_ext (g := fun c => if k = c then x c else 0) fun c hc => by
          rw [fs_mulr, est k c (by omega) hc]
          unfold one
          split <;> grind, fs_delta n k x (by omega)]
      rw [h1, x1] at h2
      grind
  have En := ech n (Nat.le_refl n)
  have left0 : (stepsTo rows n).left = [] := by
    have := len_steps rows n
    rw [En.len, lr] at this
    exact List.eq_nil_of_length_eq_zero (by omega)
  have stay : ∀ m, stepsTo rows (n + m) = stepsTo rows n := by
    intro m
    induction m with
    | zero => rfl
    | succ m ih =>
      rw [← Nat.add_assoc, stepsTo_succ, ih]
      unfold turn1
      rw [left0]; rfl
  have wid : wideOf rows = n + n := by
    cases hr : rows with
    | nil => rw [hr] at lr; simp at lr; omega
    | cons a b => exact hlen a (by rw [hr]; exact List.mem_cons_self ..)
  have eF : intSteps rows = (stepsTo rows n).found := by unfold intSteps; rw [wid, stay]
  obtain ⟨L, K⟩ := steps_keep hlen n
  generalize hF : (stepsTo rows n).found = F at *
  have lF : F.length = n := by rw [← hF]; exact En.len
  have piv := En.piv
  have off := En.off
  rw [hF] at piv off
  have hd : ∀ j, j < n → headOf (F.getD j []) = j ∧ j < (F.getD j []).length := fun j hj => headOf_is (by have := piv j hj; omega) fun q hq => off q j (by omega) hj (by omega)
  have Fl : ∀ r ∈ F, r.length = n + n := fun r hr => L.2 r (by rw [hF]; exact hr)
  have Fj : ∀ r ∈ F, ∃ j, j < n ∧ r = F.getD j [] := fun r hr => by
    obtain ⟨j, hj, rfl⟩ := List.mem_iff_getElem.mp hr
    exact ⟨j, by omega, by rw [List.getD_eq_getElem?_getD, List.getElem?_eq_getElem hj]; rfl⟩
  have ppos : ∀ j, j < n → ((at0 (F.getD j []) j : Int) : Rat) ≠ 0 := fun j hj h => by
    have := piv j hj
    have h' : ((at0 (F.getD j []) j : Int) : Rat) = ((0 : Int) : Rat) := h
    have := Rat.intCast_inj.mp h'
    omega
  have sol : ∀ j m, j < n → m < n → ((at0 (F.getD j []) (n + m) : Int) : Rat) = (at0 (F.getD j []) j : Rat) * ent s j m := fun j m hj hm => by
    have kx := (K fun c => if c < n then ent s c m else if c = n + m then -1 else 0).mpr ((wk _).mpr fun i hi => by
      rw [fs_ext (g := fun k => ent t i k * ent s k m) fun k hk => by rw [if_pos hk], ets i m hi hm, if_neg (by omega)]
      unfold one
      by_cases e : i = m
      · rw [if_pos e, if_pos (by omega)]; grind
      · rw [if_neg e, if_neg (by omega)]; grind)
    have := kx.2 _ (by rw [hF]; exact (getD_mem (d := ([] : List Int)) (show j < F.length by omega)).1)
    unfold dt at this
    rw [fs_split, fs_ext (n := n) (g := fun k => if j = k then (at0 (F.getD j []) k : Rat) * ent s k m else 0) fun k hk => ?_, fs_delta n j (fun k => (at0 (F.getD j []) k : Rat) * ent s k m) hj, fs_ext (n := n) (f := fun k => (at0 (F.getD j []) (n + k) : Rat) * _) (g := fun k => if m = k then -(at0 (F.getD j []) (n + k) : Rat) else 0) fun k hk => ?_, fs_delta n m (fun k => -(at0 (F.getD j []) (n + k) : Rat)) hm] at this
    · grind
    · dsimp only
      rw [if_neg (by omega)]
      by_cases e : m = k
      · rw [if_pos (by omega), if_pos e]; grind
      · rw [if_neg (by omega), if_neg e]; grind
    · dsimp only
      rw [if_pos hk]
      by_cases e : j = k
      · rw [if_pos e]
      · rw [if_neg e, off k j hk hj fun q => e q.symm]
        show (0 : Rat) * _ = 0
        grind
  have eS : stepsOf (wideT t) = told F := by unfold stepsOf; rw [hrows, eF]
  have sgnT : ∀ r ∈ told F, sgn n r = true := fun r hr => by
    unfold told at hr
    obtain ⟨q, hq, rfl⟩ := List.mem_map.mp hr
    obtain ⟨j, hj, rfl⟩ := Fj q hq
    obtain ⟨h1, h2⟩ := hd j hj
    rw [h1]
    unfold sgn
    rw [List.any_eq_true]
    refine ⟨true, List.mem_map.mpr ⟨(1 : Rat), ?_, by decide⟩, rfl⟩
    rw [List.mem_iff_getElem?]
    refine ⟨j, ?_⟩
    rw [List.getElem?_take, if_pos hj, List.getElem?_map, (getD_mem (d := (0 : Int)) h2).2]
    show some (Rat.divInt (at0 (F.getD j []) j) (at0 (F.getD j []) j)) = some 1
    rw [Rat.divInt_eq_div]
    have := ppos j hj
    congr 1
    grind
  have eU : undF t = told F := by
    unfold undF
    rw [eS, sq.1]
    exact List.filter_eq_self.mpr sgnT
  refine ⟨?_, by rw [eU]; unfold told; rw [List.length_map]; exact lF, fun r hr => ?_⟩
  · have squ : SqX n (undT t) := by
      unfold undT
      rw [eU, sq.1]
      refine ⟨by unfold told; rw [List.length_map, List.length_map]; exact lF, fun r hr => ?_⟩
      obtain ⟨q, hq, rfl⟩ := List.mem_map.mp hr
      unfold told at hq
      obtain ⟨z, hz, rfl⟩ := List.mem_map.mp hq
      rw [List.length_drop, List.length_map, Fl z hz]; omega
    refine tab_ext squ sq' fun j m hj hm => ?_
    unfold ent undT
    rw [eU, sq.1]
    unfold told
    have l2 := (hd j hj).1
    have lj : (F.getD j []).length = n + n := Fl _ (getD_mem (d := ([] : List Int)) (show j < F.length by omega)).1
    rw [getD_map (a := ([] : List Rat)) (by rw [List.length_map, lF]; exact hj), getD_map (a := ([] : List Int)) (by rw [lF]; exact hj), l2]
    rw [List.getD_eq_getElem?_getD, List.getElem?_drop, List.getElem?_map, (getD_mem (d := (0 : Int)) (show n + m < (F.getD j []).length by omega)).2]
    show Rat.divInt (at0 (F.getD j []) (n + m)) (at0 (F.getD j []) j) = _
    rw [Rat.divInt_eq_div, sol j m hj hm]
    have := ppos j hj
    show _ = ent s j m
    grind
  · rw [eF] at hr
    obtain ⟨j, hj, rfl⟩ := Fj r hr
    obtain ⟨h1, h2⟩ := hd j hj
    rw [h1]
    exact ⟨h2, piv j hj⟩
end K28
end
section
set_option Elab.async false
set_option linter.all false
set_option maxRecDepth 100000
set_option maxHeartbeats 4000000
set_option autoImplicit false
set_option exponentiation.threshold 20000
namespace K28
/-! ### how great the numbers are -/
def Zi (D a : Nat) (x : Rat) : Prop := ∃ z : Int, x * (D : Rat) = (z : Rat) ∧ z.natAbs ≤ a
def TB (D a : Nat) (t : List (List Rat)) : Prop := ∀ x ∈ t.flatten, Zi D a x
theorem Zi.bd {D a d e : Nat} {x : Rat} (h : Zi D a x) (h0 : 0 < D) (he : a < 2 ^ e) : x.den ∣ D ∧ x.num.natAbs * (D / x.den) < 2 ^ e := by
  obtain ⟨z, hz, hb⟩ := h
  have hD : (D : Rat) ≠ 0 := by
    intro h
    have : ((D : Int) : Rat) = ((0 : Int) : Rat) := h
    have := Rat.intCast_inj.mp this
    omega
  have ex : x = Rat.divInt z (D : Int) := by
    rw [Rat.divInt_eq_div]
    show x = (z : Rat) / (D : Rat)
    grind
  have hdvd : x.den ∣ D := by
    have e := rat_den (a := z) (b := (D : Int)) (by omega)
    rw [← ex, ← Int.natCast_ediv] at e
    have e' : D / Nat.gcd z.natAbs (D : Int).natAbs = x.den := by exact_mod_cast e
    rw [← e']
    refine Nat.div_dvd_of_dvd ?_
    have := Nat.gcd_dvd_right z.natAbs (D : Int).natAbs
    rwa [Int.natAbs_natCast] at this
  refine ⟨hdvd, ?_⟩
  have e1 := int_of x hdvd
  rw [hz] at e1
  have e2 := Rat.intCast_inj.mp e1
  have e3 : x.num.natAbs * (D / x.den) = z.natAbs := by
    rw [← e2, Int.natAbs_mul, ← Int.natCast_ediv, Int.natAbs_natCast]
  omega
theorem bd_of {D a d e : Nat} {qs : List Rat} (h : ∀ x ∈ qs, Zi D a x) (h0 : 0 < D) (hd : D < 2 ^ d) (he : a < 2 ^ e) : Bd d e qs := ⟨D, h0, hd, fun q hq => (h q hq).bd (d := d) h0 he⟩
theorem TB.bd {D a d e : Nat} {t : List (List Rat)} (h : TB D a t) (h0 : 0 < D) (hd : D < 2 ^ d) (he : a < 2 ^ e) : Bd d e t.flatten := bd_of h h0 hd he
theorem Zi.mono {D a b : Nat} {x : Rat} (h : Zi D a x) (k : a ≤ b) : Zi D b x := by
  obtain ⟨z, h1, h2⟩ := h
  exact ⟨z, h1, by omega⟩
theorem TB.mono {D a b : Nat} {t : List (List Rat)} (h : TB D a t) (k : a ≤ b) : TB D b t := fun x hx => (h x hx).mono k
theorem Zi.add {D a b : Nat} {x y : Rat} (h : Zi D a x) (k : Zi D b y) : Zi D (a + b) (x + y) := by
  obtain ⟨z, h1, h2⟩ := h
  obtain ⟨w, k1, k2⟩ := k
  exact ⟨z + w, by rw [Rat.intCast_add, ← h1, ← k1]; grind, by omega⟩
theorem Zi.mul {D E a b : Nat} {x y : Rat} (h : Zi D a x) (k : Zi E b y) : Zi (D * E) (a * b) (x * y) := by
  obtain ⟨z, h1, h2⟩ := h
  obtain ⟨w, k1, k2⟩ := k
  refine ⟨z * w, ?_, by rw [Int.natAbs_mul]; exact Nat.mul_le_mul h2 k2⟩
  rw [Rat.intCast_mul, ← h1, ← k1, Rat.natCast_mul]; grind
theorem Zi.zero {D : Nat} : Zi D 0 0 := ⟨0, by show (0 : Rat) * _ = (0 : Rat); grind, by decide⟩
theorem Zi.int (z : Int) : Zi 1 z.natAbs (z : Rat) := ⟨z, by show (z : Rat) * (1 : Rat) = _; grind, Nat.le_refl _⟩
theorem Zi.up {D E a : Nat} {x : Rat} (h : Zi D a x) : Zi (D * E) (a * E) x := by
  have := h.mul (Zi.int 1 : Zi 1 1 ((1 : Int) : Rat))
  obtain ⟨z, h1, h2⟩ := h
  refine ⟨z * (E : Int), ?_, by rw [Int.natAbs_mul, Int.natAbs_natCast]; exact Nat.mul_le_mul_right _ h2⟩
  rw [Rat.intCast_mul, ← h1, Rat.natCast_mul]
  show x * ((D : Rat) * (E : Rat)) = x * (D : Rat) * (E : Rat)
  grind
theorem zi_fs {D B : Nat} : ∀ {n : Nat} {f : Nat → Rat}, (∀ k, k < n → Zi D B (f k)) → Zi D (n * B) (fs n f)
  | 0, _, _ => by rw [Nat.zero_mul]; exact Zi.zero
  | n + 1, f, h => by
    have := (h 0 (by omega)).add (zi_fs (n := n) fun k hk => h (k + 1) (by omega))
    exact this.mono (by rw [Nat.succ_mul]; omega)
theorem tb_ent {n D a : Nat} {t : List (List Rat)} (sq : SqX n t) : TB D a t ↔ ∀ i j, i < n → j < n → Zi D a (ent t i j) := by
  constructor
  · intro h i j hi hj
    exact h _ (List.mem_flatten.mpr ⟨_, List.mem_of_getElem? (row_at sq hi).1, List.mem_of_getElem? (ent_at sq hi hj)⟩)
  · intro h x hx
    obtain ⟨r, hr, hx⟩ := List.mem_flatten.mp hx
    obtain ⟨i, hi, rfl⟩ := List.mem_iff_getElem.mp hr
    obtain ⟨j, hj, rfl⟩ := List.mem_iff_getElem.mp hx
    have hi' : i < n := by rw [← sq.1]; exact hi
    have hj' : j < n := by rw [← sq.2 _ hr]; exact hj
    have e1 := (row_at sq hi').1
    rw [List.getElem?_eq_getElem hi] at e1
    have e2 := ent_at sq hi' hj'
    rw [← Option.some.inj e1, List.getElem?_eq_getElem hj] at e2
    rw [Option.some.inj e2]
    exact h i j hi' hj'
theorem tb_prod {n D E a b : Nat} {t u : List (List Rat)} (sq : SqX n t) (sq' : SqX n u) (n1 : 1 ≤ n) (h : TB D a t) (k : TB E b u) : TB (D * E) (n * (a * b)) (prodT t u) :=
  (tb_ent (wideOf_prod sq sq' n1)).mpr fun i j hi hj => by
    rw [ent_prod sq sq' n1 hi hj]
    exact zi_fs fun l hl => ((tb_ent sq).mp h i l hi hl).mul ((tb_ent sq').mp k l j hl hj)
theorem tb_idle (n : Nat) : TB 1 1 (idleT n) := (tb_ent (sq_idle n)).mpr fun i j hi hj => by
  rw [ent_idle hi hj]
  unfold one
  split
  · exact Zi.int 1
  · exact Zi.zero.mono (by decide)
theorem tb_abo {n D a : Nat} {t : List (List Rat)} (sq : SqX n t) (h : TB D a t) : TB D a (aboT t) := (tb_ent (sqa sq)).mpr fun i j hi hj => by
  rw [ent_abo sq hi hj]; exact (tb_ent sq).mp h j i hj hi
theorem tb_on {n m D a : Nat} {t u : List (List Rat)} (sq : SqX n t) (sq' : SqX m u) (h : TB D a t) (k : TB D a u) : TB D a (onT t u) := (tb_ent (sqo sq sq')).mpr fun i j hi hj => by
  rw [ent_on sq sq' hi hj]
  unfold blk
  split
  · split
    · exact (tb_ent sq).mp h i j ‹_› ‹_›
    · exact Zi.zero.mono (by omega)
  · split
    · exact Zi.zero.mono (by omega)
    · exact (tb_ent sq').mp k _ _ (by omega) (by omega)
theorem tb_wtab {n D a A : Nat} {ls : List (List (List Rat))} (n1 : 1 ≤ n) (h : ∀ t ∈ ls, SqX n t) (tb : ∀ t ∈ ls, TB D a t) (hA : n * a ≤ A) : ∀ w : List Nat, Vw ls w → TB (D ^ w.length) (A ^ w.length) (wtab n ls w) := by
  intro w
  have key : ∀ (m : Nat) (w : List Nat), w.length = m → Vw ls w → TB (D ^ m) (A ^ m) (wtab n ls w) := by
    intro m
    induction m with
    | zero =>
      intro w hl _
      rw [List.eq_nil_of_length_eq_zero hl]
      exact tb_idle n
    | succ m ih =>
      intro w hl hw
      have hne : w ≠ [] := fun e => by rw [e] at hl; cases hl
      obtain ⟨w', k, rfl⟩ : ∃ w' k, w = w' ++ [k] := ⟨w.dropLast, w.getLast hne, (List.dropLast_concat_getLast hne).symm⟩
      have hk : k < ls.length := hw k (List.mem_append_right _ (List.mem_singleton.mpr rfl))
      have hw' : Vw ls w' := fun j hj => hw j (List.mem_append_left _ hj)
      rw [wtab_snoc, Nat.pow_succ, Nat.pow_succ]
      refine (tb_prod (sq_wtab n1 h w' hw') (h _ (getD_mem hk).1) n1 (ih w' (by simpa using hl) hw') (tb _ (getD_mem hk).1)).mono ?_
      calc n * (A ^ m * a) = A ^ m * (n * a) := by grind
        _ ≤ A ^ m * A := Nat.mul_le_mul_left _ hA
  exact key _ w rfl
theorem wb_of {n D a A d e : Nat} {ls : List (List (List Rat))} {w : List Nat} {m : Nat} (n1 : 1 ≤ n) (h : ∀ t ∈ ls, SqX n t) (tb : ∀ t ∈ ls, TB D a t) (hA : n * a ≤ A) (hw : Vw ls w) (hl : w.length ≤ m) (D1 : 1 ≤ D) (A1 : 1 ≤ A) (hD : D < 2 ^ d) (ha : a < 2 ^ e) (hDm : D ^ m < 2 ^ d) (hAm : A ^ m < 2 ^ e) : Wb d e n ls w := by
  refine ⟨fun t ht => (tb t ht).bd (by omega) hD ha, fun i => ?_⟩
  have hi : (w.take i).length ≤ m := by rw [List.length_take]; omega
  refine (tb_wtab n1 h tb hA (w.take i) fun k hk => hw k (List.mem_of_mem_take hk)).bd (Nat.pow_pos D1) ?_ ?_
  · exact Nat.lt_of_le_of_lt (Nat.pow_le_pow_right D1 hi) hDm
  · exact Nat.lt_of_le_of_lt (Nat.pow_le_pow_right A1 hi) hAm
end K28
end
section
set_option Elab.async false
set_option linter.all false
set_option maxRecDepth 100000
set_option maxHeartbeats 4000000
set_option autoImplicit false
set_option exponentiation.threshold 20000
namespace K28
/-! ### the lead and its inverse -/
def mk (n : Nat) (f : Nat → Nat → Rat) : List (List Rat) := (List.range n).map fun i => (List.range n).map fun j => f i j
theorem sq_mk (n : Nat) (f : Nat → Nat → Rat) : SqX n (mk n f) := ⟨by unfold mk; simp, fun r hr => by
  unfold mk at hr
  obtain ⟨i, hi, rfl⟩ := List.mem_map.mp hr
  simp⟩
theorem ent_mk {n i j : Nat} {f : Nat → Nat → Rat} (hi : i < n) (hj : j < n) : ent (mk n f) i j = f i j := by
  unfold ent mk
  rw [getD_range hi, getD_range hj]
theorem sq_ratI {n : Nat} {t : List (List Int)} (h : SqX n t) : SqX n (ratI t) := sq_map h
theorem ent_ratI {n i j : Nat} {t : List (List Int)} (h : SqX n t) (hi : i < n) (hj : j < n) : ent (ratI t) i j = (at0 (t.getD i []) j : Rat) := by
  unfold ent ratI
  rw [getD_map (a := ([] : List Int)) (by rw [h.1]; exact hi), getD_map (a := (0 : Int)) (by rw [h.2 _ (getD_mem (by rw [h.1]; exact hi)).1]; exact hj)]
  rfl
theorem at_mat {n i j : Nat} {A : Nat → Nat → Int} (hi : i < n) (hj : j < n) : at0 ((matI n A).getD i []) j = A i j := by
  unfold matI at0
  rw [getD_range hi, getD_range hj]
theorem zsum2 : ∀ {row col : List Int} {n : Nat}, row.length = n → col.length = n → (((List.zipWith (· * ·) row col).sum : Int) : Rat) = fs n fun k => (at0 row k : Rat) * (at0 col k : Rat)
  | [], [], n, h, _ => by subst h; rfl
  | [], _ :: _, n, h, h' => by subst h; cases h'
  | _ :: _, [], n, h, h' => by subst h'; cases h
  | a :: row, l :: others, n, h, h' => by
    obtain ⟨m, rfl⟩ : ∃ m, n = m + 1 := ⟨n - 1, by rw [List.length_cons] at h; omega⟩
    rw [List.zipWith_cons_cons, List.sum_cons, Rat.intCast_add, Rat.intCast_mul, zsum2 (n := m) (by simpa using h) (by simpa using h')]
    rfl
theorem lead_prod (n : Nat) (n1 : 1 ≤ n) (A B : Nat → Nat → Int) : ratI (leadI n A B) = prodT (ratI (matI n A)) (ratI (matI n B)) := by
  have sA := sq_ratI (sq_mat n A)
  have sB := sq_ratI (sq_mat n B)
  refine tab_ext (sq_ratI (sq_lead n A B)) (wideOf_prod sA sB n1) fun i j hi hj => ?_
  rw [ent_ratI (sq_lead n A B) hi hj, ent_prod sA sB n1 hi hj]
  have ma := sq_mat n A
  have mb := sq_mat n B
  have lt : (lturn (matI n B)).length = n := by unfold lturn; rw [List.length_map, List.length_range, mb.1]
  have e : at0 ((leadI n A B).getD i []) j = (List.zipWith (· * ·) ((matI n A).getD i []) ((lturn (matI n B)).getD j [])).sum := by
    unfold leadI ltimes at0
    rw [getD_map (a := ([] : List Int)) (by rw [ma.1]; exact hi), getD_map (a := ([] : List Int)) (by rw [lt]; exact hj)]
  have e2 : (lturn (matI n B)).getD j [] = (matI n B).map fun row => at0 row j := by unfold lturn; rw [getD_range (by rw [mb.1]; exact hj)]
  rw [e, zsum2 (n := n) (ma.2 _ (getD_mem (by rw [ma.1]; exact hi)).1) (by rw [e2, List.length_map]; exact mb.1)]
  refine fs_ext fun k hk => ?_
  rw [ent_ratI ma hi hk, ent_ratI mb hk hj, e2]
  congr 2
  unfold at0
  exact getD_map (a := ([] : List Int)) (by rw [mb.1]; exact hk)
/-- 2 over the numbers on the line -/
theorem half {z : Int} (h : z = 1 ∨ z = -1 ∨ z = 2) : ∃ y : Int, (z : Rat) * (y : Rat) = 2 ∧ y.natAbs ≤ 2 := by
  rcases h with rfl | rfl | rfl
  · exact ⟨2, by rw [← Rat.intCast_mul]; rfl, by decide⟩
  · exact ⟨-2, by rw [← Rat.intCast_mul]; rfl, by decide⟩
  · exact ⟨1, by rw [← Rat.intCast_mul]; rfl, by decide⟩
def iU (A : Nat → Nat → Int) (h : Nat → Int) : Nat → Nat → Rat := fun i j => if i = j then (h i : Rat) / 2 else if j < i then 0 else if j = i + 1 then -((A i j : Rat) * (h i : Rat) * (h j : Rat)) / 4 else
  ((A i (i + 1) : Rat) * (A (i + 1) j : Rat) - (A i j : Rat) * (A (i + 1) (i + 1) : Rat)) * (h i : Rat) * (h (i + 1) : Rat) * (h j : Rat) / 8
def iL (B : Nat → Nat → Int) : Nat → Nat → Rat := fun i j => if i = j then 1 else if i < j then 0 else if i = j + 1 then -(B i j : Rat) else (B i (j + 1) : Rat) * (B (j + 1) j : Rat) - (B i j : Rat)
theorem iU_ok {n : Nat} (n1 : 1 ≤ n) (n3 : n ≤ 3) {A : Nat → Nat → Int} {h : Nat → Int} (hA : ShU n A) (hh : ∀ i, (A i i : Rat) * (h i : Rat) = 2) {i j : Nat} (hi : i < n) (hj : j < n) :
    mm n (fun i j => (A i j : Rat)) (iU A h) i j = one i j ∧ mm n (iU A h) (fun i j => (A i j : Rat)) i j = one i j := by
  have z10 : (A 1 0 : Rat) = 0 := by rw [hA.lo 1 0 (by decide)]; rfl
  have z20 : (A 2 0 : Rat) = 0 := by rw [hA.lo 2 0 (by decide)]; rfl
  have z21 : (A 2 1 : Rat) = 0 := by rw [hA.lo 2 1 (by decide)]; rfl
  have h0 := hh 0
  have h1 := hh 1
  have h2 := hh 2
  have en : n = 1 ∨ n = 2 ∨ n = 3 := by omega
  rcases en with rfl | rfl | rfl
  · obtain rfl : i = 0 := by omega
    obtain rfl : j = 0 := by omega
    simp [mm, fs, iU, one] <;> (try constructor) <;> grind
  · have ei : i = 0 ∨ i = 1 := by omega
    have ej : j = 0 ∨ j = 1 := by omega
    rcases ei with rfl | rfl <;> rcases ej with rfl | rfl <;> simp [mm, fs, iU, one, z10] <;> (try constructor) <;> grind
  · have ei : i = 0 ∨ i = 1 ∨ i = 2 := by omega
    have ej : j = 0 ∨ j = 1 ∨ j = 2 := by omega
    rcases ei with rfl | rfl | rfl <;> rcases ej with rfl | rfl | rfl <;> simp [mm, fs, iU, one, z10, z20, z21] <;> (try constructor) <;> grind
theorem iL_ok {n : Nat} (n1 : 1 ≤ n) (n3 : n ≤ 3) {B : Nat → Nat → Int} (hB : ShL n B) {i j : Nat} (hi : i < n) (hj : j < n) :
    mm n (fun i j => (B i j : Rat)) (iL B) i j = one i j ∧ mm n (iL B) (fun i j => (B i j : Rat)) i j = one i j := by
  have z01 : (B 0 1 : Rat) = 0 := by rw [hB.up 0 1 (by decide)]; rfl
  have z02 : (B 0 2 : Rat) = 0 := by rw [hB.up 0 2 (by decide)]; rfl
  have z12 : (B 1 2 : Rat) = 0 := by rw [hB.up 1 2 (by decide)]; rfl
  have d0 : (B 0 0 : Rat) = 1 := by rw [hB.di 0]; rfl
  have d1 : (B 1 1 : Rat) = 1 := by rw [hB.di 1]; rfl
  have d2 : (B 2 2 : Rat) = 1 := by rw [hB.di 2]; rfl
  have en : n = 1 ∨ n = 2 ∨ n = 3 := by omega
  rcases en with rfl | rfl | rfl
  · obtain rfl : i = 0 := by omega
    obtain rfl : j = 0 := by omega
    simp [mm, fs, iL, one, d0] <;> (try constructor) <;> grind
  · have ei : i = 0 ∨ i = 1 := by omega
    have ej : j = 0 ∨ j = 1 := by omega
    rcases ei with rfl | rfl <;> rcases ej with rfl | rfl <;> simp [mm, fs, iL, one, z01, d0, d1] <;> (try constructor) <;> grind
  · have ei : i = 0 ∨ i = 1 ∨ i = 2 := by omega
    have ej : j = 0 ∨ j = 1 ∨ j = 2 := by omega
    rcases ei with rfl | rfl | rfl <;> rcases ej with rfl | rfl | rfl <;> simp [mm, fs, iL, one, z01, z02, z12, d0, d1, d2] <;> (try constructor) <;> grind
end K28
end
section
set_option Elab.async false
set_option linter.all false
set_option maxRecDepth 100000
set_option maxHeartbeats 4000000
set_option autoImplicit false
set_option exponentiation.threshold 20000
namespace K28
theorem zi_of {D a : Nat} {x : Rat} (z : Int) (h : x * (D : Rat) = (z : Rat)) (k : z.natAbs ≤ a) : Zi D a x := ⟨z, h, k⟩
theorem abs_mul {i j : Int} {a b : Nat} (h : i.natAbs ≤ a) (k : j.natAbs ≤ b) : (i * j).natAbs ≤ a * b := by rw [Int.natAbs_mul]; exact Nat.mul_le_mul h k
theorem r8 : ((8 : Nat) : Rat) = 8 := rfl
theorem r1 : ((1 : Nat) : Rat) = 1 := rfl
theorem zi_iU {n : Nat} {A : Nat → Nat → Int} {h : Nat → Int} (hA : ShU n A) (hb : ∀ i, (h i).natAbs ≤ 2) (i j : Nat) : Zi 8 24 (iU A h i j) := by
  unfold iU
  split
  · refine zi_of (4 * h i) ?_ (by have := hb i; omega)
    rw [r8, Rat.intCast_mul]
    show _ = (4 : Rat) * _
    grind
  · split
    · exact Zi.zero.mono (by decide)
    · split
      · rename_i h1 h2 h3
        refine zi_of (-2 * (A i j * (h i * h j))) ?_ ?_
        · rw [r8, Rat.intCast_mul, Rat.intCast_mul, Rat.intCast_mul]
          show _ = (-2 : Rat) * _
          grind
        · have := abs_mul (hA.up i j (by omega)) (abs_mul (hb i) (hb j))
          omega
      · rename_i h1 h2 h3
        refine zi_of ((A i (i + 1) * A (i + 1) j - A i j * A (i + 1) (i + 1)) * (h i * (h (i + 1) * h j))) ?_ ?_
        · rw [r8, Rat.intCast_mul, Rat.intCast_mul, Rat.intCast_mul, Rat.intCast_sub, Rat.intCast_mul, Rat.intCast_mul]
          grind
        · have d1 : (A (i + 1) (i + 1)).natAbs ≤ 2 := by rcases hA.di (i + 1) with e | e | e <;> rw [e] <;> decide
          have e1 := abs_mul (hA.up i (i + 1) (by omega)) (hA.up (i + 1) j (by omega))
          have e2 := abs_mul (hA.up i j (by omega)) d1
          have e3 : (A i (i + 1) * A (i + 1) j - A i j * A (i + 1) (i + 1)).natAbs ≤ 3 := by omega
          exact abs_mul e3 (abs_mul (hb i) (abs_mul (hb (i + 1)) (hb j)))
theorem zi_iL {n : Nat} {B : Nat → Nat → Int} (hB : ShL n B) (i j : Nat) : Zi 1 2 (iL B i j) := by
  unfold iL
  split
  · exact (Zi.int 1).mono (by decide)
  · split
    · exact Zi.zero.mono (by decide)
    · split
      · refine zi_of (-(B i j)) (by rw [r1, Rat.intCast_neg]; grind) ?_
        have := hB.lo i j (by omega)
        omega
      · rename_i h1 h2 h3
        refine zi_of (B i (j + 1) * B (j + 1) j - B i j) (by rw [r1, Rat.intCast_sub, Rat.intCast_mul]; grind) ?_
        have e1 := abs_mul (hB.lo i (j + 1) (by omega)) (hB.lo (j + 1) j (by omega))
        have e2 := hB.lo i j (by omega)
        omega
theorem inv_mk {n : Nat} {t : List (List Rat)} {f g : Nat → Nat → Rat} (n1 : 1 ≤ n) (sq : SqX n t) (he : ∀ i j, i < n → j < n → ent t i j = g i j) (h : ∀ i j, i < n → j < n → mm n g f i j = one i j ∧ mm n f g i j = one i j) : prodT t (mk n f) = idleT n ∧ prodT (mk n f) t = idleT n := by
  have sm := sq_mk n f
  refine ⟨tab_ext (wideOf_prod sq sm n1) (sq_idle n) fun i j hi hj => ?_, tab_ext (wideOf_prod sm sq n1) (sq_idle n) fun i j hi hj => ?_⟩
  · rw [ent_prod sq sm n1 hi hj, ent_idle hi hj, ← (h i j hi hj).1]
    exact mm_ext (fun k hk => he i k hi hk) fun k hk => ent_mk hk hj
  · rw [ent_prod sm sq n1 hi hj, ent_idle hi hj, ← (h i j hi hj).2]
    exact mm_ext (fun k hk => ent_mk hi hk) fun k hk => he k j hk hj
theorem lead_inv {n : Nat} (n1 : 1 ≤ n) (n3 : n ≤ 3) {A B : Nat → Nat → Int} (hA : ShU n A) (hB : ShL n B) : ∃ q, SqX n q ∧ prodT (ratI (leadI n A B)) q = idleT n ∧ prodT q (ratI (leadI n A B)) = idleT n ∧ TB 1 6 (ratI (leadI n A B)) ∧ TB 8 144 q := by
  rw [lead_prod n n1]
  have sA := sq_ratI (sq_mat n A)
  have sB := sq_ratI (sq_mat n B)
  have eA : ∀ i j, i < n → j < n → ent (ratI (matI n A)) i j = (A i j : Rat) := fun i j hi hj => by rw [ent_ratI (sq_mat n A) hi hj, at_mat hi hj]
  have eB : ∀ i j, i < n → j < n → ent (ratI (matI n B)) i j = (B i j : Rat) := fun i j hi hj => by rw [ent_ratI (sq_mat n B) hi hj, at_mat hi hj]
  let h : Nat → Int := fun i => Classical.choose (half (hA.di i))
  have hh : ∀ i, (A i i : Rat) * (h i : Rat) = 2 := fun i => (Classical.choose_spec (half (hA.di i))).1
  have hb : ∀ i, (h i).natAbs ≤ 2 := fun i => (Classical.choose_spec (half (hA.di i))).2
  obtain ⟨u1, u2⟩ := inv_mk n1 sA eA fun i j hi hj => iU_ok n1 n3 hA hh hi hj
  obtain ⟨l1, l2⟩ := inv_mk n1 sB eB fun i j hi hj => iL_ok n1 n3 hB hi hj
  have mU := sq_mk n (iU A h)
  have mL := sq_mk n (iL B)
  have tA : TB 1 2 (ratI (matI n A)) := (tb_ent sA).mpr fun i j hi hj => by
    rw [eA i j hi hj]
    refine (Zi.int _).mono ?_
    rcases Nat.lt_trichotomy i j with q | q | q
    · have := hA.up i j q; omega
    · subst q; rcases hA.di i with e | e | e <;> rw [e] <;> decide
    · rw [hA.lo i j q]; decide
  have tB : TB 1 1 (ratI (matI n B)) := (tb_ent sB).mpr fun i j hi hj => by
    rw [eB i j hi hj]
    refine (Zi.int _).mono ?_
    rcases Nat.lt_trichotomy i j with q | q | q
    · rw [hB.up i j q]; decide
    · subst q; rw [hB.di i]; decide
    · exact hB.lo i j q
  have tU : TB 8 24 (mk n (iU A h)) := (tb_ent mU).mpr fun i j hi hj => by rw [ent_mk hi hj]; exact zi_iU hA hb i j
  have tL : TB 1 2 (mk n (iL B)) := (tb_ent mL).mpr fun i j hi hj => by rw [ent_mk hi hj]; exact zi_iL hB i j
  have spq := wideOf_prod mL mU n1
  refine ⟨prodT (mk n (iL B)) (mk n (iU A h)), spq, ?_, ?_, (tb_prod sA sB n1 tA tB).mono (by omega), ?_⟩
  · rw [prod_assoc sA sB spq n1, ← prod_assoc sB mL mU n1, l1, prod_idle_l mU n1, u1]
  · rw [prod_assoc mL mU (wideOf_prod sA sB n1) n1, ← prod_assoc mU sA sB n1, u2, prod_idle_l sB n1, l2]
  · have := tb_prod mL mU n1 tL tU
    rw [Nat.one_mul] at this
    exact this.mono (by omega)
theorem und_ok {n D a : Nat} {p q : List (List Rat)} (n1 : 1 ≤ n) (n3 : n ≤ 3) (sp : SqX n p) (sq : SqX n q) (pq : prodT p q = idleT n) (qp : prodT q p = idleT n) (tb : TB D a p) (D0 : 0 < D) (D8 : D ≤ 8) (ha : a ≤ 200) : undT p = q ∧ UndOk n p := by
  obtain ⟨e1, e2, e3⟩ := und_main n1 sp sq pq qp
  refine ⟨e1, sp, n1, by omega, ⟨4, 8, by decide, ?_, fun r hr => ?_⟩, e3, e2⟩
  · have : 2 ^ (n + n + 1) ≤ 2 ^ 7 := Nat.pow_le_pow_right (by decide) (by omega)
    have := Nat.mul_le_mul_right (8 + 1) this
    exact Nat.le_trans this (by decide)
  · refine bd_of (D := D) (a := 200) (fun x hx => ?_) D0 (by omega) (by decide)
    obtain ⟨i, hi, rfl⟩ := List.mem_iff_getElem.mp hr
    have hi' : i < n := by rw [← (wide_len sp).1]; exact hi
    have e := wide_at sp hi'
    rw [List.getElem?_eq_getElem hi] at e
    rw [Option.some.inj e] at hx
    rcases List.mem_append.mp hx with h | h
    · exact (tb x (List.mem_flatten.mpr ⟨_, List.mem_of_getElem? (row_at sp hi').1, h⟩)).mono ha
    · have := (tb_idle n x (List.mem_flatten.mpr ⟨_, List.mem_of_getElem? (row_at (sq_idle n) hi').1, h⟩)).up (E := D)
      rw [Nat.one_mul] at this
      exact this.mono (by omega)
end K28
end
section
set_option Elab.async false
set_option linter.all false
set_option maxRecDepth 100000
set_option maxHeartbeats 4000000
set_option autoImplicit false
set_option exponentiation.threshold 20000
namespace K28
/-! ### the ladder of rows, and what is left of a row -/
def rv (row : List Int) : Nat → Rat := fun k => (at0 row k : Rat)
theorem z_of {z : Int} (h : ((z : Int) : Rat) = 0) : z = 0 := Rat.intCast_inj.mp (show ((z : Int) : Rat) = ((0 : Int) : Rat) from h)
theorem q_of {z : Int} (h : z = 0) : ((z : Int) : Rat) = 0 := by rw [h]; rfl
theorem clear_ne {row head : List Int} {p : Nat} (hl : row.length = head.length) (hp : at0 head p ≠ 0) : ∃ a b : Rat, a ≠ 0 ∧ (∀ k, rv (clear row head p) k = a * rv row k + b * rv head k) ∧ at0 (clear row head p) p = 0 := by
  unfold clear rv
  split
  · rename_i h0
    exact ⟨1, 0, by decide, fun k => by grind, h0⟩
  · obtain ⟨c, hc, h⟩ := bare_sc (List.zipWith (fun n f => at0 head p * n - at0 row p * f) row head)
    have hz : ∀ k, (at0 (bare (List.zipWith (fun n f => at0 head p * n - at0 row p * f) row head)) k : Rat) = c * ((at0 head p : Rat) * (at0 row k : Rat) - (at0 row p : Rat) * (at0 head k : Rat)) := fun k => by
      rw [h k, at0_zip hl (by simp), Rat.intCast_sub, Rat.intCast_mul, Rat.intCast_mul]
    have hpq : (at0 head p : Rat) ≠ 0 := fun e => hp (z_of e)
    refine ⟨c * (at0 head p : Rat), -(c * (at0 row p : Rat)), by grind, fun k => by rw [hz k]; grind, z_of ?_⟩
    rw [hz p]; grind
def Lad : List (List Int) → Prop
  | [] => True
  | r :: rows => at0 r (headOf r) ≠ 0 ∧ (∀ s ∈ rows, at0 s (headOf r) = 0) ∧ Lad rows
theorem sp_vanish {X : Type} {k : X} : ∀ {us : List (X → Rat)} {v : X → Rat}, Sp us v → (∀ u ∈ us, u k = 0) → v k = 0
  | [], v, h, _ => h k
  | u :: us, v, ⟨c, h⟩, hu => by
    have h1 := sp_vanish h fun u' h' => hu u' (List.mem_cons_of_mem _ h')
    have h2 := hu u (List.mem_cons_self ..)
    have h3 : v k - c * u k = 0 := h1
    rw [h2] at h3
    grind
theorem lad_zero : ∀ {rows : List (List Int)} {v : Nat → Rat}, Lad rows → Sp (rows.map rv) v → (∀ r ∈ rows, v (headOf r) = 0) → ∀ k, v k = 0
  | [], v, _, h, _ => h
  | r :: rows, v, ⟨h1, h2, h3⟩, ⟨c, h⟩, hz => by
    have hv := hz r (List.mem_cons_self ..)
    have e : v (headOf r) - c * rv r (headOf r) = 0 := sp_vanish (k := headOf r) (v := fun x => v x - c * rv r x) h fun u hu => by
      obtain ⟨s, hs, rfl⟩ := List.mem_map.mp hu
      exact q_of (h2 s hs)
    have hr : rv r (headOf r) ≠ 0 := fun e => h1 (z_of e)
    have hc : c = 0 := by rw [hv] at e; grind
    refine lad_zero h3 (sp_ext h fun k => by rw [hc]; grind) fun s hs => hz s (List.mem_cons_of_mem _ hs)
theorem left_spec {N : Nat} : ∀ {rows : List (List Int)} {x : List Int}, (∀ r ∈ rows, r.length = N) → x.length = N → Lad rows →
    (∃ c : Rat, c ≠ 0 ∧ Sp (rows.map rv) (fun k => rv (leftOf rows x) k - c * rv x k)) ∧ ∀ r ∈ rows, at0 (leftOf rows x) (headOf r) = 0
  | [], x, _, _, _ => ⟨⟨1, by decide, fun k => by show rv x k - 1 * rv x k = 0; grind⟩, fun r hr => by cases hr⟩
  | r :: rows, x, hl, hx, ⟨h1, h2, h3⟩ => by
    have lr := hl r (List.mem_cons_self ..)
    obtain ⟨a, b, ha, hab, h0⟩ := clear_ne (row := x) (head := r) (p := headOf r) (by rw [hx, lr]) h1
    obtain ⟨⟨c, hc, hs⟩, hz⟩ := left_spec (rows := rows) (x := clear x r (headOf r)) (fun s hs => hl s (List.mem_cons_of_mem _ hs)) (by rw [len_clear (by rw [hx, lr])]; exact hx) h3
    show (∃ c : Rat, c ≠ 0 ∧ Sp (rv r :: rows.map rv) (fun k => rv (leftOf rows (clear x r (headOf r))) k - c * rv x k)) ∧ ∀ s ∈ r :: rows, at0 (leftOf rows (clear x r (headOf r))) (headOf s) = 0
    refine ⟨⟨c * a, by grind, c * b, sp_ext hs fun k => by rw [hab k]; grind⟩, fun s hs' => ?_⟩
    rcases List.mem_cons.mp hs' with rfl | hs'
    · have e : rv (leftOf rows (clear x s (headOf s))) (headOf s) - c * rv (clear x s (headOf s)) (headOf s) = 0 := sp_vanish (k := headOf s) (v := fun k => rv (leftOf rows (clear x s (headOf s))) k - c * rv (clear x s (headOf s)) k) hs fun u hu => by
        obtain ⟨q, hq, rfl⟩ := List.mem_map.mp hu
        exact q_of (h2 q hq)
      have e2 : rv (clear x s (headOf s)) (headOf s) = 0 := q_of h0
      rw [e2] at e
      refine z_of ?_
      show rv _ _ = 0
      grind
    · exact hz s hs'
theorem any_at {row : List Int} : row.any (fun i => i != 0) = true ↔ ∃ k, at0 row k ≠ 0 := by
  rw [List.any_eq_true]
  constructor
  · rintro ⟨z, hz, h⟩
    obtain ⟨k, hk, rfl⟩ := List.mem_iff_getElem.mp hz
    refine ⟨k, ?_⟩
    unfold at0
    rw [List.getD_eq_getElem?_getD, List.getElem?_eq_getElem hk]
    simpa using h
  · rintro ⟨k, hk⟩
    exact ⟨_, at0_mem hk, by simpa using hk⟩
theorem head_any {row : List Int} (h : ∃ k, at0 row k ≠ 0) : headOf row < row.length ∧ at0 row (headOf row) ≠ 0 := by
  have ha := any_at.mpr h
  have hl : headOf row < row.length := by
    unfold headOf
    rw [List.findIdx_lt_length]
    rw [List.any_eq_true] at ha
    obtain ⟨z, hz, hz2⟩ := ha
    exact ⟨z, hz, hz2⟩
  refine ⟨hl, ?_⟩
  have := List.findIdx_getElem (w := hl)
  unfold at0 headOf
  unfold headOf at hl
  rw [List.getD_eq_getElem?_getD, List.getElem?_eq_getElem hl]
  simpa using this
theorem left_iff {N : Nat} {rows : List (List Int)} {x : List Int} (hl : ∀ r ∈ rows, r.length = N) (hx : x.length = N) (hL : Lad rows) : (leftOf rows x).any (fun i => i != 0) = true ↔ ¬ Sp (rows.map rv) (rv x) := by
  obtain ⟨⟨c, hc, hs⟩, hz⟩ := left_spec hl hx hL
  rw [any_at]
  constructor
  · rintro ⟨k, hk⟩ hsp
    have h1 : Sp (rows.map rv) (rv (leftOf rows x)) := sp_ext (sp_add hs (sp_smul c hsp)) fun k => by grind
    exact hk (z_of (lad_zero hL h1 (fun r hr => q_of (hz r hr)) k))
  · intro hn
    by_cases h : ∃ k, at0 (leftOf rows x) k ≠ 0
    · exact h
    · refine absurd (sp_ext (sp_smul (-1 / c) hs) fun k => ?_) hn
      have e : rv (leftOf rows x) k = 0 := q_of (by
        by_cases q : at0 (leftOf rows x) k = 0
        · exact q
        · exact absurd ⟨k, q⟩ h)
      rw [e]; grind
theorem lad_snoc : ∀ {rows : List (List Int)} {b : List Int}, Lad rows → at0 b (headOf b) ≠ 0 → (∀ r ∈ rows, at0 b (headOf r) = 0) → Lad (rows ++ [b])
  | [], b, _, h, _ => ⟨h, fun s hs => (by cases hs), trivial⟩
  | r :: rows, b, ⟨h1, h2, h3⟩, h, hz => ⟨h1, fun s hs => by
    rcases List.mem_append.mp hs with q | q
    · exact h2 s q
    · rw [List.mem_singleton.mp q]; exact hz r (List.mem_cons_self ..), lad_snoc h3 h fun s hs => hz s (List.mem_cons_of_mem _ hs)⟩
/-- the row that is taken in -/
theorem new_row {N : Nat} {rows : List (List Int)} {x : List Int} (hl : ∀ r ∈ rows, r.length = N) (hx : x.length = N) (hL : Lad rows) (hn : (leftOf rows x).any (fun i => i != 0) = true) :
    Lad (rows ++ [bare (leftOf rows x)]) ∧ (bare (leftOf rows x)).length = N ∧ headOf (bare (leftOf rows x)) < N ∧ Sp (rv x :: rows.map rv) (rv (bare (leftOf rows x))) ∧ Sp (rv (bare (leftOf rows x)) :: rows.map rv) (rv x) := by
  obtain ⟨⟨c, hc, hs⟩, hz⟩ := left_spec hl hx hL
  obtain ⟨g, hg, hb⟩ := bare_sc (leftOf rows x)
  obtain ⟨k, hk⟩ := any_at.mp hn
  have lb : (bare (leftOf rows x)).length = N := by rw [len_bare]; exact len_left hl hx
  have hg0 : g ≠ 0 := by grind
  have hne : ∃ k, at0 (bare (leftOf rows x)) k ≠ 0 := ⟨k, fun e => hk (z_of (by
    have := hb k
    rw [e] at this
    have t : (0 : Rat) = g * (at0 (leftOf rows x) k : Rat) := this
    grind))⟩
  obtain ⟨h1, h2⟩ := head_any hne
  refine ⟨lad_snoc hL h2 fun r hr => z_of (by rw [hb, q_of (hz r hr)]; grind), lb, by rw [← lb]; exact h1, ⟨g * c, sp_ext (sp_smul g hs) fun k => ?_⟩, ⟨1 / (g * c), sp_ext (sp_smul (-1 / c) hs) fun k => ?_⟩⟩
  · show g * (rv (leftOf rows x) k - c * rv x k) = rv (bare (leftOf rows x)) k - g * c * rv x k
    rw [show rv (bare (leftOf rows x)) k = g * rv (leftOf rows x) k from hb k]; grind
  · rw [show rv (bare (leftOf rows x)) k = g * rv (leftOf rows x) k from hb k]
    have : g * c ≠ 0 := by grind
    grind
/-! bits -/
theorem lt_clear2 {a b p : Nat} {row head : List Int} (h : Lt a row) (k : Lt b head) : Lt (a + b + 1) (clear row head p) := by
  unfold clear
  split
  · exact h.mono (by omega)
  · refine lt_bare fun z hz => ?_
    rw [List.mem_iff_getElem] at hz
    obtain ⟨i, hi, rfl⟩ := hz
    rw [List.getElem_zipWith]
    have h1 := abs_mul_lt (k.at0 p) (h _ (List.getElem_mem (by rw [List.length_zipWith] at hi; omega : i < row.length)))
    have h2 := abs_mul_lt (h.at0 p) (k _ (List.getElem_mem (by rw [List.length_zipWith] at hi; omega : i < head.length)))
    rw [Nat.add_comm b a] at h1
    exact abs_sub_lt h1 h2
def bR (δ j : Nat) : Nat := 2 ^ j * (δ + 2) - (δ + 1)
def bS (δ : Nat) : Nat → Nat
  | 0 => 0
  | i + 1 => bS δ i + bR δ i + 1
theorem bR_eq (δ j : Nat) : bR δ j + (δ + 1) = 2 ^ j * (δ + 2) := by
  unfold bR
  have : 1 * (δ + 2) ≤ 2 ^ j * (δ + 2) := Nat.mul_le_mul_right _ (Nat.two_pow_pos j)
  omega
theorem bS_eq (δ : Nat) : ∀ i, bS δ i + δ * i + (δ + 2) = 2 ^ i * (δ + 2)
  | 0 => by unfold bS; omega
  | i + 1 => by
    have h1 := bS_eq δ i
    have h2 := bR_eq δ i
    show bS δ i + bR δ i + 1 + δ * (i + 1) + (δ + 2) = _
    rw [Nat.pow_succ, Nat.mul_succ]
    have : 2 ^ i * 2 * (δ + 2) = 2 ^ i * (δ + 2) + 2 ^ i * (δ + 2) := by grind
    omega
theorem left_bits {δ L : Nat} : ∀ (rows : List (List Int)) (i0 : Nat) (x : List Int), (∀ i r, rows[i]? = some r → Lt (bR δ (i0 + i)) r) → Lt (L + bS δ i0) x → Lt (L + bS δ (i0 + rows.length)) (leftOf rows x)
  | [], i0, x, _, h => h
  | r :: rows, i0, x, hr, h => by
    have h1 := lt_clear2 (p := headOf r) h (hr 0 r rfl)
    have := left_bits rows (i0 + 1) (clear x r (headOf r)) (fun i s hs => by
      have := hr (i + 1) s hs
      rwa [show i0 + (i + 1) = i0 + 1 + i by omega] at this) (by
      show Lt (L + (bS δ i0 + bR δ i0 + 1)) _
      rwa [show L + (bS δ i0 + bR δ i0 + 1) = L + bS δ i0 + bR δ i0 + 1 by omega])
    rwa [show i0 + 1 + rows.length = i0 + (r :: rows).length by rw [List.length_cons]; omega] at this
theorem bS_mono (δ : Nat) {i j : Nat} (h : i ≤ j) : bS δ i ≤ bS δ j := by
  induction j with
  | zero => rw [Nat.le_zero.mp h]; exact Nat.le_refl _
  | succ j ih =>
    rcases Nat.lt_or_ge i (j + 1) with q | q
    · have := ih (by omega)
      show _ ≤ bS δ j + bR δ j + 1
      omega
    · rw [show i = j + 1 by omega]; exact Nat.le_refl _
end K28
end
section
set_option Elab.async false
set_option linter.all false
set_option maxRecDepth 100000
set_option maxHeartbeats 4000000
set_option autoImplicit false
set_option exponentiation.threshold 20000
namespace K28
open Classical
abbrev Wo := List Nat
/-- a table as one long row -/
def fl (t : List (List Rat)) : Nat → Rat := fun k => t.flatten.getD k 0
def vec (n : Nat) (ls : List (List (List Rat))) (w : Wo) : Nat → Rat := fl (wtab n ls w)
theorem fl_out {n : Nat} {t : List (List Rat)} (sq : SqX n t) {k : Nat} (h : n * n ≤ k) : fl t k = 0 := by
  unfold fl
  rw [List.getD_eq_getElem?_getD, List.getElem?_eq_none (by rw [len_flat sq.2, sq.1]; exact h)]; rfl
theorem rv_ints {n : Nat} {t : List (List Rat)} (sq : SqX n t) (k : Nat) : rv (intsR t.flatten) k = (lcmD t.flatten : Rat) * fl t k := by
  have hl : t.flatten.length = n * n := by rw [len_flat sq.2, sq.1]
  unfold rv fl
  by_cases hk : k < n * n
  · rw [ints_at (by omega)]; grind
  · rw [q_of (at0_out (by unfold intsR; rw [List.length_map]; omega)), List.getD_eq_getElem?_getD, List.getElem?_eq_none (by omega)]
    show (0 : Rat) = _ * 0
    grind
def un : Nat → List (Nat → Rat)
  | 0 => []
  | N + 1 => (fun k => if k = N then 1 else 0) :: un N
theorem un_len : ∀ N, (un N).length = N
  | 0 => rfl
  | N + 1 => by show (un N).length + 1 = _; rw [un_len N]
theorem sp_un : ∀ {N : Nat} {v : Nat → Rat}, (∀ k, N ≤ k → v k = 0) → Sp (un N) v
  | 0, v, h => fun k => h k (Nat.zero_le k)
  | N + 1, v, h => ⟨v N, sp_un fun k hk => by
    dsimp only
    by_cases e : k = N
    · rw [if_pos e, e]; grind
    · rw [if_neg e, h k (by omega)]; grind⟩
/-! ### the search by words alone -/
def ind (n : Nat) (ls : List (List (List Rat))) (ws : List Wo) (w : Wo) : Prop := (∀ v ∈ ws, Vw ls v) ∧ Vw ls w ∧ ¬ Sp (ws.map (vec n ls)) (vec n ls w)
noncomputable def aTry (I : List Wo → Wo → Prop) (x : Wo) (s : List Wo × List Wo) (k : Nat) : List Wo × List Wo := if I s.1 (x ++ [k]) then (s.1 ++ [x ++ [k]], s.2 ++ [x ++ [k]]) else s
noncomputable def aWordK (I : List Wo → Wo → Prop) (s : List Wo × List Wo) (x : Wo) (k : Nat) : List Wo × List Wo := (List.range k).foldl (aTry I x) s
noncomputable def aFold (I : List Wo → Wo → Prop) (m : Nat) (s : List Wo × List Wo) (last : List Wo) : List Wo × List Wo := last.foldl (fun s x => aWordK I s x m) s
inductive ARuns (I : List Wo → Wo → Prop) (m : Nat) : List Wo → List Wo → List Wo → Prop
  | stop {found} : ARuns I m found [] found
  | turn {found last W} : last ≠ [] → ARuns I m (aFold I m (found, []) last).1 (aFold I m (found, []) last).2 W → ARuns I m found last W
theorem aruns_det {I : List Wo → Wo → Prop} {m : Nat} {f l W W' : List Wo} (h : ARuns I m f l W) (h' : ARuns I m f l W') : W = W' := by
  induction h with
  | stop =>
    cases h' with
    | stop => rfl
    | turn h _ => exact absurd rfl h
  | turn hne _ ih =>
    cases h' with
    | stop => exact absurd rfl hne
    | turn _ h2 => exact ih h2
theorem aWordK_succ (I : List Wo → Wo → Prop) (s : List Wo × List Wo) (x : Wo) (k : Nat) : aWordK I s x (k + 1) = aTry I x (aWordK I s x k) k := by
  unfold aWordK
  rw [List.range_succ, List.foldl_append]; rfl
/-- what a fold keeps -/
structure Kp (s s' : List Wo × List Wo) : Prop where
  sub : ∀ w ∈ s.1, w ∈ s'.1
  app : ∀ f, s.1 = f ++ s.2 → s'.1 = f ++ s'.2
theorem Kp.refl (s : List Wo × List Wo) : Kp s s := ⟨fun _ h => h, fun _ h => h⟩
theorem Kp.trans {a b c : List Wo × List Wo} (h : Kp a b) (k : Kp b c) : Kp a c := ⟨fun w hw => k.sub w (h.sub w hw), fun f hf => k.app f (h.app f hf)⟩
theorem kp_try (I : List Wo → Wo → Prop) (x : Wo) (s : List Wo × List Wo) (k : Nat) : Kp s (aTry I x s k) := by
  unfold aTry
  split
  · exact ⟨fun w hw => List.mem_append_left _ hw, fun f hf => by show s.1 ++ _ = f ++ (s.2 ++ _); rw [hf, List.append_assoc]⟩
  · exact Kp.refl s
theorem kp_word (I : List Wo → Wo → Prop) (x : Wo) (s : List Wo × List Wo) : ∀ k, Kp s (aWordK I s x k)
  | 0 => Kp.refl s
  | k + 1 => by rw [aWordK_succ]; exact (kp_word I x s k).trans (kp_try I x _ k)
theorem kp_fold (I : List Wo → Wo → Prop) (m : Nat) : ∀ (last : List Wo) (s : List Wo × List Wo), Kp s (aFold I m s last)
  | [], s => Kp.refl s
  | x :: last, s => (kp_word I x s m).trans (kp_fold I m last _)
section
variable {n : Nat} {ls : List (List (List Rat))}
theorem sp_sub_list {us vs : List Wo} {v : Nat → Rat} (h : ∀ w ∈ us, w ∈ vs) (k : Sp (us.map (vec n ls)) v) : Sp (vs.map (vec n ls)) v := sp_trans (fun u hu => by
  obtain ⟨w, hw, rfl⟩ := List.mem_map.mp hu
  exact sp_mem (List.mem_map.mpr ⟨w, h w hw, rfl⟩)) k
theorem done_try {x : Wo} {s : List Wo × List Wo} {k : Nat} (hs : ∀ v ∈ s.1, Vw ls v) (hx : Vw ls (x ++ [k])) : Sp ((aTry (ind n ls) x s k).1.map (vec n ls)) (vec n ls (x ++ [k])) ∧ ∀ v ∈ (aTry (ind n ls) x s k).1, Vw ls v := by
  unfold aTry
  split
  · refine ⟨sp_mem (List.mem_map.mpr ⟨x ++ [k], List.mem_append_right _ (List.mem_singleton.mpr rfl), rfl⟩), fun v hv => ?_⟩
    rcases List.mem_append.mp hv with h | h
    · exact hs v h
    · rw [List.mem_singleton.mp h]; exact hx
  · rename_i h
    refine ⟨?_, hs⟩
    by_cases q : Sp (s.1.map (vec n ls)) (vec n ls (x ++ [k]))
    · exact q
    · exact absurd ⟨hs, hx, q⟩ h
theorem vw_snoc {x : Wo} {k : Nat} (h : Vw ls x) (hk : k < ls.length) : Vw ls (x ++ [k]) := fun j hj => by
  rcases List.mem_append.mp hj with q | q
  · exact h j q
  · rw [List.mem_singleton.mp q]; exact hk
theorem done_word {x : Wo} {s : List Wo × List Wo} (hs : ∀ v ∈ s.1, Vw ls v) (hx : Vw ls x) : ∀ m, m ≤ ls.length → (∀ k, k < m → Sp ((aWordK (ind n ls) s x m).1.map (vec n ls)) (vec n ls (x ++ [k]))) ∧ ∀ v ∈ (aWordK (ind n ls) s x m).1, Vw ls v
  | 0, _ => ⟨fun k hk => absurd hk (Nat.not_lt_zero k), hs⟩
  | m + 1, hm => by
    obtain ⟨h1, h2⟩ := done_word hs hx m (by omega)
    rw [aWordK_succ]
    obtain ⟨h3, h4⟩ := done_try (k := m) h2 (vw_snoc hx (by omega))
    refine ⟨fun k hk => ?_, h4⟩
    by_cases e : k = m
    · rw [e]; exact h3
    · exact sp_sub_list (kp_try _ x _ m).sub (h1 k (by omega))
theorem done_fold : ∀ (last : List Wo) (s : List Wo × List Wo), (∀ v ∈ s.1, Vw ls v) → (∀ x ∈ last, Vw ls x) → (∀ x ∈ last, ∀ k, k < ls.length → Sp ((aFold (ind n ls) ls.length s last).1.map (vec n ls)) (vec n ls (x ++ [k]))) ∧ ∀ v ∈ (aFold (ind n ls) ls.length s last).1, Vw ls v
  | [], s, hs, _ => ⟨fun x hx => (by cases hx), hs⟩
  | x :: last, s, hs, hl => by
    obtain ⟨h1, h2⟩ := done_word (x := x) hs (hl x (List.mem_cons_self ..)) ls.length (Nat.le_refl _)
    obtain ⟨h3, h4⟩ := done_fold last (aWordK (ind n ls) s x ls.length) h2 fun y hy => hl y (List.mem_cons_of_mem _ hy)
    refine ⟨fun y hy k hk => ?_, h4⟩
    rcases List.mem_cons.mp hy with rfl | hy
    · exact sp_sub_list (kp_fold _ _ last _).sub (h1 k hk)
    · exact h3 y hy k hk
/-- in the end every next letter is spanned -/
theorem aruns_closed {found last W : List Wo} (h : ARuns (ind n ls) ls.length found last W) : (∀ v ∈ found, Vw ls v) → (∀ v ∈ last, v ∈ found) → (∀ w ∈ found, w ∉ last → ∀ k, k < ls.length → Sp (found.map (vec n ls)) (vec n ls (w ++ [k]))) →
    (∀ w ∈ W, ∀ k, k < ls.length → Sp (W.map (vec n ls)) (vec n ls (w ++ [k]))) ∧ (∀ w ∈ found, w ∈ W) ∧ ∀ w ∈ W, Vw ls w := by
  induction h with
  | stop => exact fun hv _ h => ⟨fun w hw k hk => h w hw (fun q => by cases q) k hk, fun w hw => hw, hv⟩
  | @turn found last W hne _ ih =>
    intro hv hlf hc
    obtain ⟨d1, d2⟩ := done_fold last (found, []) hv fun x hx => hv x (hlf x hx)
    have kp := kp_fold (ind n ls) ls.length last (found, [])
    have app := kp.app found (List.append_nil found).symm
    obtain ⟨h1, h2, h3⟩ := ih d2 (fun v hv' => by rw [app]; exact List.mem_append_right _ hv') fun w hw hnl k hk => by
      have hwf : w ∈ found := by
        rw [app] at hw
        rcases List.mem_append.mp hw with q | q
        · exact q
        · exact absurd q hnl
      by_cases q : w ∈ last
      · exact d1 w q k hk
      · exact sp_sub_list kp.sub (hc w hwf q k hk)
    exact ⟨h1, fun w hw => h2 w (kp.sub w hw), h3⟩
end
end K28
end
section
set_option Elab.async false
set_option linter.all false
set_option maxRecDepth 100000
set_option maxHeartbeats 4000000
set_option autoImplicit false
set_option exponentiation.threshold 20000
namespace K28
structure Pm (n : Nat) (ls : List (List (List Rat))) (D a δ : Nat) : Prop where
  n1 : 1 ≤ n
  n4 : n ≤ 4
  sq : ∀ t ∈ ls, SqX n t
  tb : ∀ t ∈ ls, TB D a t
  D1 : 1 ≤ D
  D8 : D ≤ 8
  hA : n * a ≤ 2 ^ δ
  big : 2 ^ (n * n) * (δ + 2) ≤ 4499
structure Rl (n : Nat) (ls : List (List (List Rat))) (δ : Nat) (rows : List (List Int)) (ws : List Wo) : Prop where
  len : rows.length = ws.length
  lens : ∀ r ∈ rows, r.length = n * n
  lad : Lad rows
  hd : ∀ r ∈ rows, headOf r < n * n
  bits : ∀ i r, rows[i]? = some r → Lt (bR δ i) r
  to : ∀ w ∈ ws, Sp (rows.map rv) (vec n ls w)
  fro : ∀ r ∈ rows, Sp (ws.map (vec n ls)) (rv r)
  fr : Fr ((ws.map (vec n ls)).reverse)
  val : ∀ w ∈ ws, Vw ls w
section
variable {n D a δ : Nat} {ls : List (List (List Rat))}
theorem vec_out (P : Pm n ls D a δ) {w : Wo} (hw : Vw ls w) {k : Nat} (h : n * n ≤ k) : vec n ls w k = 0 := fl_out (sq_wtab P.n1 P.sq w hw) h
theorem Rl.few (P : Pm n ls D a δ) {rows : List (List Int)} {ws : List Wo} (R : Rl n ls δ rows ws) : rows.length ≤ n * n := by
  have := steinitz (vs := un (n * n)) R.fr fun u hu => by
    obtain ⟨w, hw, rfl⟩ := List.mem_map.mp (List.mem_reverse.mp hu)
    exact sp_un fun k hk => vec_out P (R.val w hw) hk
  rw [List.length_reverse, List.length_map, un_len] at this
  rw [R.len]; exact this
theorem nn16 (P : Pm n ls D a δ) : n * n ≤ 16 := Nat.mul_le_mul P.n4 P.n4
theorem big_at (P : Pm n ls D a δ) {i : Nat} (h : i ≤ n * n) : 2 ^ i * (δ + 2) ≤ 4499 := Nat.le_trans (Nat.mul_le_mul_right _ (Nat.pow_le_pow_right (by decide) h)) P.big
theorem wt_tb (P : Pm n ls D a δ) {w : Wo} (hw : Vw ls w) : TB (D ^ w.length) (2 ^ (δ * w.length)) (wtab n ls w) := by
  have := tb_wtab P.n1 P.sq P.tb P.hA w hw
  rwa [← Nat.pow_mul] at this
theorem wt_bits (P : Pm n ls D a δ) {w : Wo} (hw : Vw ls w) : Lt (δ * w.length + 1) (intsR (wtab n ls w).flatten) := fun z hz => by
  have b := (wt_tb P hw).bd (d := D ^ w.length + 1) (e := δ * w.length + 1) (Nat.pow_pos P.D1) (Nat.lt_of_lt_of_le (Nat.lt_succ_self _) (Nat.le_of_lt Nat.lt_two_pow_self)) (Nat.pow_lt_pow_right (by decide) (Nat.lt_succ_self _))
  exact b.intsR z hz
theorem wt_bd (P : Pm n ls D a δ) {w : Wo} (hw : Vw ls w) (hl : w.length ≤ 17) : Bd 60 (δ * 17 + 1) (wtab n ls w).flatten := by
  refine (wt_tb P hw).bd (Nat.pow_pos P.D1) ?_ ?_
  · have h1 : D ^ w.length ≤ 8 ^ w.length := Nat.pow_le_pow_left P.D8 _
    have h2 : 8 ^ w.length ≤ 8 ^ 17 := Nat.pow_le_pow_right (by decide) hl
    exact Nat.lt_of_le_of_lt (Nat.le_trans h1 h2) (by decide)
  · exact Nat.pow_lt_pow_right (by decide) (by have := Nat.mul_le_mul_left δ hl; omega)
theorem dlt (P : Pm n ls D a δ) : δ + 2 ≤ 4499 := by
  have := big_at P (i := 0) (Nat.zero_le _)
  omega
theorem ls_bd (P : Pm n ls D a δ) {t : List (List Rat)} (ht : t ∈ ls) : Bd 60 (δ * 17 + 1) t.flatten := by
  refine (P.tb t ht).bd (by have := P.D1; omega) (Nat.lt_of_le_of_lt P.D8 (by decide)) ?_
  have h1 : 1 * a ≤ n * a := Nat.mul_le_mul_right a P.n1
  have h2 : 2 ^ δ < 2 ^ (δ * 17 + 1) := Nat.pow_lt_pow_right (by decide) (by omega)
  have := P.hA
  omega
theorem lc_ne (t : List (List Rat)) : (lcmD t.flatten : Rat) ≠ 0 := lcm_ne _
theorem left_lt (P : Pm n ls D a δ) {rows : List (List Int)} {ws : List Wo} (R : Rl n ls δ rows ws) {w : Wo} (hw : Vw ls w) (hl : w.length ≤ rows.length) (i : Nat) : Lt (δ * rows.length + 1 + bS δ (rows.take i).length) (leftOf (rows.take i) (intsR (wtab n ls w).flatten)) := by
  have h0 : Lt (δ * rows.length + 1) (intsR (wtab n ls w).flatten) := (wt_bits P hw).mono (by have := Nat.mul_le_mul_left δ hl; omega)
  have := left_bits (δ := δ) (L := δ * rows.length + 1) (rows.take i) 0 _ (fun j r hr => by
    rw [Nat.zero_add]
    refine R.bits j r ?_
    rw [List.getElem?_take] at hr
    split at hr
    · exact hr
    · cases hr) h0
  rwa [Nat.zero_add] at this
theorem sp_iff_rows {rows : List (List Int)} {ws : List Wo} (R : Rl n ls δ rows ws) (v : Nat → Rat) : Sp (rows.map rv) v ↔ Sp (ws.map (vec n ls)) v := ⟨fun h => sp_trans (fun u hu => by
  obtain ⟨r, hr, rfl⟩ := List.mem_map.mp hu
  exact R.fro r hr) h, fun h => sp_trans (fun u hu => by
  obtain ⟨w, hw, rfl⟩ := List.mem_map.mp hu
  exact R.to w hw) h⟩
theorem rv_wt (P : Pm n ls D a δ) {w : Wo} (hw : Vw ls w) (k : Nat) : rv (intsR (wtab n ls w).flatten) k = (lcmD (wtab n ls w).flatten : Rat) * vec n ls w k := rv_ints (sq_wtab P.n1 P.sq w hw) k
theorem len_wt (P : Pm n ls D a δ) {w : Wo} (hw : Vw ls w) : (intsR (wtab n ls w).flatten).length = n * n := by
  have := sq_wtab P.n1 P.sq w hw
  unfold intsR
  rw [List.length_map, len_flat this.2, this.1]
theorem any_iff (P : Pm n ls D a δ) {rows : List (List Int)} {ws : List Wo} (R : Rl n ls δ rows ws) {w : Wo} (hw : Vw ls w) : (leftOf rows (intsR (wtab n ls w).flatten)).any (fun i => i != 0) = true ↔ ind n ls ws w := by
  rw [left_iff R.lens (len_wt P hw) R.lad, sp_iff_rows R]
  have hc := lc_ne (wtab n ls w)
  constructor
  · exact fun h => ⟨R.val, hw, fun q => h (sp_ext (sp_smul _ q) fun k => (rv_wt P hw k).symm)⟩
  · exact fun h q => h.2.2 (sp_ext (sp_smul (1 / (lcmD (wtab n ls w).flatten : Rat)) q) fun k => by rw [rv_wt P hw k]; grind)
theorem rl_snoc (P : Pm n ls D a δ) {rows : List (List Int)} {ws : List Wo} (R : Rl n ls δ rows ws) {w : Wo} (hw : Vw ls w) (hl : w.length ≤ rows.length) (hi : ind n ls ws w) : Rl n ls δ (rows ++ [bare (leftOf rows (intsR (wtab n ls w).flatten))]) (ws ++ [w]) := by
  obtain ⟨h1, h2, h3, h4, h5⟩ := new_row R.lens (len_wt P hw) R.lad ((any_iff P R hw).mpr hi)
  have hc := lc_ne (wtab n ls w)
  refine ⟨by rw [List.length_append, List.length_append, R.len]; rfl, fun r hr => ?_, h1, fun r hr => ?_, fun i r hr => ?_, fun v hv => ?_, fun r hr => ?_, ?_, fun v hv => ?_⟩
  · rcases List.mem_append.mp hr with q | q
    · exact R.lens r q
    · rw [List.mem_singleton.mp q]; exact h2
  · rcases List.mem_append.mp hr with q | q
    · exact R.hd r q
    · rw [List.mem_singleton.mp q]; exact h3
  · rw [List.getElem?_append] at hr
    split at hr
    · exact R.bits i r hr
    · rename_i hi'
      have hi2 : i - rows.length = 0 := by
        have := (List.getElem?_eq_some_iff.mp hr).1
        simpa using this
      have ei : i = rows.length := by omega
      rw [hi2] at hr
      cases hr
      have := left_lt P R hw hl rows.length
      rw [List.take_length] at this
      refine lt_bare (this.mono ?_)
      have e1 := bS_eq δ rows.length
      have e2 := bR_eq δ rows.length
      rw [ei]; omega
  · have ext : ∀ {v : Nat → Rat}, Sp (rows.map rv) v → Sp ((rows ++ [bare (leftOf rows (intsR (wtab n ls w).flatten))]).map rv) v := fun h => sp_trans (fun u hu => sp_mem (by rw [List.map_append]; exact List.mem_append_left _ hu)) h
    rcases List.mem_append.mp hv with q | q
    · exact ext (R.to v q)
    · rw [List.mem_singleton.mp q]
      have := sp_trans (vs := (rows ++ [bare (leftOf rows (intsR (wtab n ls w).flatten))]).map rv) (fun u hu => sp_mem (by
        rw [List.map_append]
        rcases List.mem_cons.mp hu with e | e
        · exact List.mem_append_right _ (List.mem_singleton.mpr e)
        · exact List.mem_append_left _ e)) h5
      exact sp_ext (sp_smul (1 / (lcmD (wtab n ls w).flatten : Rat)) this) fun k => by rw [rv_wt P hw k]; grind
  · have ext : ∀ {v : Nat → Rat}, Sp (ws.map (vec n ls)) v → Sp ((ws ++ [w]).map (vec n ls)) v := fun h => sp_sub_list (fun x hx => List.mem_append_left _ hx) h
    rcases List.mem_append.mp hr with q | q
    · exact ext (R.fro r q)
    · rw [List.mem_singleton.mp q]
      refine sp_trans (fun u hu => ?_) h4
      rcases List.mem_cons.mp hu with e | e
      · rw [e]
        exact sp_ext (sp_smul (lcmD (wtab n ls w).flatten : Rat) (sp_mem (List.mem_map.mpr ⟨w, List.mem_append_right _ (List.mem_singleton.mpr rfl), rfl⟩))) fun k => (rv_wt P hw k).symm
      · obtain ⟨r', hr', rfl⟩ := List.mem_map.mp e
        exact ext (R.fro r' hr')
  · rw [List.map_append, List.reverse_append]
    exact ⟨fun q => hi.2.2 (sp_trans (fun u hu => sp_mem (List.mem_reverse.mp hu)) q), R.fr⟩
  · rcases List.mem_append.mp hv with q | q
    · exact R.val v q
    · rw [List.mem_singleton.mp q]; exact hw
/-- the two searches, side by side -/
structure RS (n : Nat) (ls : List (List (List Rat))) (δ : Nat) (s : Bw) (q : List Wo × List Wo) : Prop where
  rl : Rl n ls δ s.rows q.1
  lon : s.lon.map (·.1) = q.2
  tab : ∀ x ∈ s.lon, x.2 = wtab n ls x.1
theorem one_try (P : Pm n ls D a δ) {s : Bw} {q : List Wo × List Wo} (R : RS n ls δ s q) {x : Wo} (hx : Vw ls x) {k : Nat} (hk : k < ls.length) (hl : x.length + 1 ≤ s.rows.length) :
    TryOk n ls s.rows (wtab n ls x) k ∧ RS n ls δ (bwTry ls (x, wtab n ls x) s k) (aTry (ind n ls) x q k) ∧ s.rows.length ≤ (bwTry ls (x, wtab n ls x) s k).rows.length := by
  have hw := vw_snoc hx hk
  have few := R.rl.few P
  have n16 := nn16 P
  have late : lateOf ls (wtab n ls x) k = wtab n ls (x ++ [k]) := (wtab_snoc n ls x k).symm
  have lw : (x ++ [k]).length ≤ s.rows.length := by rw [List.length_append]; exact hl
  have d4 := dlt P
  refine ⟨⟨sq_wtab P.n1 P.sq x hx, ⟨60, δ * 17 + 1, by decide, by omega, wt_bd P hx (by omega), ls_bd P (getD_mem hk).1, by rw [late]; exact wt_bd P hw (by omega)⟩, fun r hr => ?_, fun i => ?_, by omega⟩, ?_, ?_⟩
  · obtain ⟨i, hi, rfl⟩ := List.mem_iff_getElem.mp hr
    have hb := R.rl.bits i _ (List.getElem?_eq_getElem hi)
    refine ⟨R.rl.lens _ hr, by rw [R.rl.lens _ hr]; exact R.rl.hd _ hr, hb.mono ?_⟩
    have e := bR_eq δ i
    have := big_at P (i := i) (by omega)
    omega
  · rw [late]
    refine (left_lt P R.rl hw lw i).mono ?_
    have h1 : bS δ (s.rows.take i).length ≤ bS δ s.rows.length := bS_mono δ (by rw [List.length_take]; omega)
    have e := bS_eq δ s.rows.length
    have := big_at P few
    omega
  · have ex : rowOf ls s.rows (wtab n ls x) k = leftOf s.rows (intsR (wtab n ls (x ++ [k])).flatten) := by unfold rowOf; rw [late]
    unfold bwTry aTry
    dsimp only
    rw [ex]
    by_cases hi : ind n ls q.1 (x ++ [k])
    · rw [if_pos ((any_iff P R.rl hw).mpr hi), if_pos hi]
      refine ⟨rl_snoc P R.rl hw lw hi, by rw [List.map_append, R.lon]; rfl, fun y hy => ?_⟩
      rcases List.mem_append.mp hy with h | h
      · exact R.tab y h
      · rw [List.mem_singleton.mp h]; exact late
    · rw [if_neg (fun h => hi ((any_iff P R.rl hw).mp h)), if_neg hi]
      exact R
  · unfold bwTry
    split
    · rw [List.length_append]; exact Nat.le_add_right _ _
    · exact Nat.le_refl _
theorem one_word (P : Pm n ls D a δ) {s : Bw} {q : List Wo × List Wo} (R : RS n ls δ s q) {x : Wo} (hx : Vw ls x) (hl : x.length + 1 ≤ s.rows.length) : ∀ m, m ≤ ls.length →
    (∀ k, k < m → TryOk n ls (bwWordK ls s (x, wtab n ls x) k).rows (wtab n ls x) k) ∧ RS n ls δ (bwWordK ls s (x, wtab n ls x) m) (aWordK (ind n ls) q x m) ∧ s.rows.length ≤ (bwWordK ls s (x, wtab n ls x) m).rows.length
  | 0, _ => ⟨fun k hk => absurd hk (Nat.not_lt_zero k), R, Nat.le_refl _⟩
  | m + 1, hm => by
    obtain ⟨h1, h2, h3⟩ := one_word P R hx hl m (by omega)
    obtain ⟨t1, t2, t3⟩ := one_try P h2 hx (k := m) (by omega) (by omega)
    rw [bwWordK_succ, aWordK_succ]
    refine ⟨fun k hk => ?_, t2, by omega⟩
    by_cases e : k = m
    · rw [e]; exact t1
    · exact h1 k (by omega)
theorem all_words (P : Pm n ls D a δ) : ∀ (last : List (Wo × List (List Rat))) {s : Bw} {q : List Wo × List Wo}, RS n ls δ s q → (∀ y ∈ last, y.2 = wtab n ls y.1 ∧ Vw ls y.1 ∧ y.1.length + 1 ≤ s.rows.length) →
    (∀ i x, last[i]? = some x → ∀ k, k < ls.length → TryOk n ls (bwWordK ls ((last.take i).foldl (bwWord ls) s) x k).rows x.2 k) ∧ RS n ls δ (last.foldl (bwWord ls) s) (aFold (ind n ls) ls.length q (last.map (·.1)))
  | [], s, q, R, _ => ⟨fun i x h => by simp at h, R⟩
  | (x, t) :: last, s, q, R, hl => by
    obtain ⟨e, hx, hlen⟩ := hl (x, t) (List.mem_cons_self ..)
    dsimp only at e hx hlen
    subst e
    obtain ⟨w1, w2, w3⟩ := one_word P R hx hlen ls.length (Nat.le_refl _)
    obtain ⟨r1, r2⟩ := all_words P last w2 fun y hy => by
      obtain ⟨a1, a2, a3⟩ := hl y (List.mem_cons_of_mem _ hy)
      exact ⟨a1, a2, by omega⟩
    refine ⟨fun i y hy k hk => ?_, r2⟩
    cases i with
    | zero => cases hy; exact w1 k hk
    | succ i => exact r1 i y hy k hk
end
end K28
end
section
set_option Elab.async false
set_option linter.all false
set_option maxRecDepth 100000
set_option maxHeartbeats 4000000
set_option autoImplicit false
set_option exponentiation.threshold 20000
namespace K28
open Classical
/-! ### places of the long row -/
theorem fl_at {n : Nat} {t : List (List Rat)} (sq : SqX n t) {i j : Nat} (hi : i < n) (hj : j < n) : fl t (i * n + j) = ent t i j := by
  have h := flat_cut i sq.2 (row_at sq hi).1
  unfold fl ent
  rw [← h, List.getD_eq_getElem?_getD, List.getD_eq_getElem?_getD, List.getElem?_take, if_pos hj, List.getElem?_drop]
def op (n : Nat) (f : Nat → Nat → Rat) : Nat → Rat := fun k => if k < n * n then f (k / n) (k % n) else 0
def ev (n : Nat) (v : Nat → Rat) : Nat → Nat → Rat := fun i j => v (i * n + j)
theorem fl_op {n : Nat} {t : List (List Rat)} (sq : SqX n t) : fl t = op n (ent t) := by
  funext k
  unfold op
  by_cases hk : k < n * n
  · have n0 : 0 < n := by
      rcases Nat.eq_zero_or_pos n with q | q
      · rw [q] at hk; simp at hk
      · exact q
    rw [if_pos hk, ← fl_at sq (Nat.div_lt_of_lt_mul hk) (Nat.mod_lt _ n0), Nat.mul_comm, Nat.div_add_mod]
  · rw [if_neg hk, fl_out sq (by omega)]
theorem ev_fl {n : Nat} {t : List (List Rat)} (sq : SqX n t) {i j : Nat} (hi : i < n) (hj : j < n) : ev n (fl t) i j = ent t i j := fl_at sq hi hj
theorem op_ext {n : Nat} {f g : Nat → Nat → Rat} (h : ∀ i j, i < n → j < n → f i j = g i j) : op n f = op n g := by
  funext k
  unfold op
  by_cases hk : k < n * n
  · have n0 : 0 < n := by
      rcases Nat.eq_zero_or_pos n with q | q
      · rw [q] at hk; simp at hk
      · exact q
    rw [if_pos hk, if_pos hk, h _ _ (Nat.div_lt_of_lt_mul hk) (Nat.mod_lt _ n0)]
  · rw [if_neg hk, if_neg hk]
/-- linear, entry by entry -/
structure TL (T : (Nat → Nat → Rat) → (Nat → Nat → Rat)) : Prop where
  sub : ∀ (A B : Nat → Nat → Rat) (c : Rat) (i j : Nat), T (fun i j => A i j - c * B i j) i j = T A i j - c * T B i j
  zero : ∀ i j, T (fun _ _ => 0) i j = 0
def lm (n n' : Nat) (T : (Nat → Nat → Rat) → (Nat → Nat → Rat)) (v : Nat → Rat) : Nat → Rat := op n' (T (ev n v))
theorem lin_lm {n n' : Nat} {T : (Nat → Nat → Rat) → (Nat → Nat → Rat)} (h : TL T) : Lin (lm n n' T) := by
  constructor
  · intro v u c y
    unfold lm op
    by_cases hy : y < n' * n'
    · rw [if_pos hy, if_pos hy, if_pos hy]
      exact h.sub (ev n v) (ev n u) c _ _
    · rw [if_neg hy, if_neg hy, if_neg hy]; grind
  · intro v hv y
    unfold lm op
    by_cases hy : y < n' * n'
    · rw [if_pos hy]
      have : ev n v = fun _ _ => 0 := by funext i j; exact hv _
      rw [this]
      exact h.zero _ _
    · rw [if_neg hy]
theorem lm_fl {n n' : Nat} {T : (Nat → Nat → Rat) → (Nat → Nat → Rat)} {t u : List (List Rat)} (sq' : SqX n' u) (h : ∀ i j, i < n' → j < n' → T (ev n (fl t)) i j = ent u i j) : lm n n' T (fl t) = fl u := by
  unfold lm
  rw [fl_op sq']
  exact op_ext h
theorem tl_rmul (n : Nat) (U : Nat → Nat → Rat) : TL (fun A => mm n A U) := by
  constructor
  · intro A B c i j
    show fs n _ = fs n _ - c * fs n _
    rw [fs_ext (g := fun k => A i k * U k j + (-c) * (B i k * U k j)) fun k _ => by grind, fs_add, fs_smul]; grind
  · intro i j
    exact fs_zero fun k _ => by grind
theorem tl_lmul (n : Nat) (U : Nat → Nat → Rat) : TL (fun A => mm n U A) := by
  constructor
  · intro A B c i j
    show fs n _ = fs n _ - c * fs n _
    rw [fs_ext (g := fun k => U i k * A k j + (-c) * (U i k * B k j)) fun k _ => by grind, fs_add, fs_smul]; grind
  · intro i j
    exact fs_zero fun k _ => by grind
theorem rmul_fl {n : Nat} {t u : List (List Rat)} (sq : SqX n t) (sq' : SqX n u) (n1 : 1 ≤ n) : lm n n (fun A => mm n A (ent u)) (fl t) = fl (prodT t u) :=
  lm_fl (wideOf_prod sq sq' n1) fun i j hi hj => by
    rw [ent_prod sq sq' n1 hi hj]
    exact mm_ext (fun k hk => ev_fl sq hi hk) fun _ _ => rfl
theorem lmul_fl {n : Nat} {t u : List (List Rat)} (sq : SqX n t) (sq' : SqX n u) (n1 : 1 ≤ n) : lm n n (fun A => mm n (ent u) A) (fl t) = fl (prodT u t) :=
  lm_fl (wideOf_prod sq' sq n1) fun i j hi hj => by
    rw [ent_prod sq' sq n1 hi hj]
    exact mm_ext (fun _ _ => rfl) fun k hk => ev_fl sq hk hj
/-! ### the base exists -/
section
variable {n D a δ : Nat} {ls : List (List (List Rat))}
theorem lon_try (ls : List (List (List Rat))) (x : Wo × List (List Rat)) (s : Bw) (k c b : Nat) (hx : x.1.length + 1 ≤ b) (h : s.lon.length + c = s.rows.length ∧ ∀ y ∈ s.lon, y.1.length ≤ b) : (bwTry ls x s k).lon.length + c = (bwTry ls x s k).rows.length ∧ ∀ y ∈ (bwTry ls x s k).lon, y.1.length ≤ b := by
  unfold bwTry
  split
  · refine ⟨by rw [List.length_append, List.length_append]; show _ + 1 + c = _ + 1; omega, fun y hy => ?_⟩
    rcases List.mem_append.mp hy with q | q
    · exact h.2 y q
    · rw [List.mem_singleton.mp q]
      show (x.1 ++ [k]).length ≤ b
      rw [List.length_append]; exact hx
  · exact h
theorem lon_word (ls : List (List (List Rat))) (x : Wo × List (List Rat)) (s : Bw) (c b : Nat) (hx : x.1.length + 1 ≤ b) (h : s.lon.length + c = s.rows.length ∧ ∀ y ∈ s.lon, y.1.length ≤ b) : ∀ k, (bwWordK ls s x k).lon.length + c = (bwWordK ls s x k).rows.length ∧ ∀ y ∈ (bwWordK ls s x k).lon, y.1.length ≤ b
  | 0 => h
  | k + 1 => by rw [bwWordK_succ]; exact lon_try ls x _ k c b hx (lon_word ls x s c b hx h k)
theorem lon_fold (ls : List (List (List Rat))) (c b : Nat) : ∀ (last : List (Wo × List (List Rat))) (s : Bw), (∀ y ∈ last, y.1.length + 1 ≤ b) → (s.lon.length + c = s.rows.length ∧ ∀ y ∈ s.lon, y.1.length ≤ b) → (last.foldl (bwWord ls) s).lon.length + c = (last.foldl (bwWord ls) s).rows.length ∧ ∀ y ∈ (last.foldl (bwWord ls) s).lon, y.1.length ≤ b
  | [], s, _, h => h
  | x :: last, s, hx, h => lon_fold ls c b last _ (fun y hy => hx y (List.mem_cons_of_mem _ hy)) (lon_word ls x s c b (hx x (List.mem_cons_self ..)) h _)
theorem loop (P : Pm n ls D a δ) : ∀ (c : Nat) (found : List (Wo × List (List Rat))) (rows : List (List Int)) (last : List (Wo × List (List Rat))) (ws : List Wo), Rl n ls δ rows ws → found.map (·.1) = ws → (∀ y ∈ last, y.2 = wtab n ls y.1 ∧ Vw ls y.1 ∧ y.1.length + 1 ≤ rows.length) → last.length ≤ rows.length → (last ≠ [] → n * n + 1 - ws.length ≤ c) →
    ∃ m B, Runs n ls m found rows last B ∧ ARuns (ind n ls) ls.length ws (last.map (·.1)) (B.map (·.1)) ∧ Fr (((B.map (·.1)).map (vec n ls)).reverse) := by
  intro c
  induction c with
  | zero =>
    intro found rows last ws R hf hl hll hc
    have few := R.few P
    rw [R.len] at few
    have e : last = [] := by
      by_cases q : last = []
      · exact q
      · have := hc q; omega
    subst e
    exact ⟨0, found, .stop, by rw [hf]; exact .stop, by rw [hf]; exact R.fr⟩
  | succ c ih =>
    intro found rows last ws R hf hl hll hc
    by_cases e : last = []
    · subst e
      exact ⟨0, found, .stop, by rw [hf]; exact .stop, by rw [hf]; exact R.fr⟩
    · have few := R.few P
      have n16 := nn16 P
      obtain ⟨tr, rs⟩ := all_words P last (s := ⟨rows, []⟩) (q := (ws, [])) ⟨R, rfl, fun x hx => by cases hx⟩ hl
      obtain ⟨l1, l2⟩ := lon_fold ls rows.length rows.length last ⟨rows, []⟩ (fun y hy => (hl y hy).2.2) ⟨Nat.zero_add _, fun y hy => by cases hy⟩
      have kp := (kp_fold (ind n ls) ls.length (last.map (·.1)) (ws, [])).app ws (List.append_nil ws).symm
      change RS n ls δ (bwLayer ls rows last) _ at rs
      change (bwLayer ls rows last).lon.length + rows.length = (bwLayer ls rows last).rows.length at l1
      change ∀ y ∈ (bwLayer ls rows last).lon, y.1.length ≤ rows.length at l2
      have few2 := rs.rl.few P
      have lenq := rs.rl.len
      have fl : found.length = rows.length := by rw [R.len, ← hf, List.length_map]
      have hf2 : (found ++ (bwLayer ls rows last).lon).map (·.1) = (aFold (ind n ls) ls.length (ws, []) (last.map (·.1))).1 := by rw [List.map_append, hf, rs.lon, kp]
      obtain ⟨m, B, b1, b2, b3⟩ := ih (found ++ (bwLayer ls rows last).lon) (bwLayer ls rows last).rows (bwLayer ls rows last).lon _ rs.rl hf2 (fun y hy => by
        refine ⟨rs.tab y hy, rs.rl.val _ (by rw [kp]; exact List.mem_append_right _ (by rw [← rs.lon]; exact List.mem_map.mpr ⟨y, hy, rfl⟩)), ?_⟩
        have := l2 y hy
        have : 0 < (bwLayer ls rows last).lon.length := List.length_pos_of_mem hy
        omega) (by omega) (fun hne => by
        have h1 := hc e
        have : 0 < (bwLayer ls rows last).lon.length := List.length_pos_iff.mpr hne
        have : (aFold (ind n ls) ls.length (ws, []) (last.map (·.1))).1.length = (bwLayer ls rows last).rows.length := lenq.symm
        have := R.len
        omega)
      refine ⟨m + 1, B, .turn e (by omega) (fun x hx => by have := (hl x hx).2.2; omega) tr (by omega) b1, .turn (by simpa using e) ?_, b3⟩
      rw [rs.lon] at b2
      exact b2
theorem idle_zero {n : Nat} (n1 : 1 ≤ n) : fl (idleT n) 0 = 1 := by
  have := fl_at (sq_idle n) (i := 0) (j := 0) (by omega) (by omega)
  rw [Nat.zero_mul] at this
  rw [this, ent_idle (by omega) (by omega)]
  rfl
theorem rl_start (P : Pm n ls D a δ) : Rl n ls δ (startR n) [[]] := by
  have hw : Vw ls [] := fun k hk => by cases hk
  have len := len_wt P hw
  have hc := lc_ne (wtab n ls [])
  have e : startR n = [intsR (wtab n ls []).flatten] := rfl
  have v0 : vec n ls [] 0 = 1 := idle_zero P.n1
  have r0 : rv (intsR (wtab n ls []).flatten) 0 ≠ 0 := by rw [rv_wt P hw, v0]; grind
  obtain ⟨h1, h2⟩ := head_any (row := intsR (wtab n ls []).flatten) ⟨0, fun q => r0 (q_of q)⟩
  rw [e]
  refine ⟨rfl, fun r hr => ?_, ⟨h2, fun s hs => (by cases hs), trivial⟩, fun r hr => ?_, fun i r hr => ?_, fun w hw' => ?_, fun r hr => ?_, ⟨fun q => ?_, trivial⟩, fun w hw' => ?_⟩
  · rw [List.mem_singleton.mp hr]; exact len
  · rw [List.mem_singleton.mp hr, ← len]; exact h1
  · cases i with
    | zero =>
      cases hr
      have := wt_bits P hw
      refine this.mono ?_
      have := bR_eq δ 0
      show δ * 0 + 1 ≤ _
      omega
    | succ i => simp at hr
  · rw [List.mem_singleton.mp hw']
    exact ⟨1 / (lcmD (wtab n ls []).flatten : Rat), fun k => by
      show vec n ls [] k - _ * rv (intsR (wtab n ls []).flatten) k = 0
      rw [rv_wt P hw]; grind⟩
  · rw [List.mem_singleton.mp hr]
    exact ⟨(lcmD (wtab n ls []).flatten : Rat), fun k => by
      show rv (intsR (wtab n ls []).flatten) k - _ * vec n ls [] k = 0
      rw [rv_wt P hw]; grind⟩
  · have := q 0
    rw [show vec n ls [] 0 = 1 from v0] at this
    grind
  · rw [List.mem_singleton.mp hw']; exact hw
/-- the base, and what it is -/
structure Bas (n : Nat) (ls : List (List (List Rat))) (W : List Wo) : Prop where
  run : ARuns (ind n ls) ls.length [[]] [[]] W
  fr : Fr ((W.map (vec n ls)).reverse)
  val : ∀ w ∈ W, Vw ls w
  all : ∀ w, Vw ls w → Sp (W.map (vec n ls)) (vec n ls w)
theorem base_ex (P : Pm n ls D a δ) : ∃ B, BaseIs ⟨n, ls⟩ B ∧ Bas n ls (B.map (·.1)) := by
  obtain ⟨m, B, b1, b2, b3⟩ := loop P (n * n + 1) (startB n) (startR n) (startB n) [[]] (rl_start P) rfl (fun y hy => by
    rw [List.mem_singleton.mp hy]
    exact ⟨rfl, fun k hk => (by cases hk), Nat.le_refl _⟩) (Nat.le_refl _) (fun _ => Nat.sub_le _ _)
  refine ⟨B, ⟨m, b1⟩, ?_⟩
  have v0 : Vw ls [] := fun k hk => (by cases hk)
  obtain ⟨c1, c2, c3⟩ := aruns_closed b2 (fun v hv => by rw [List.mem_singleton.mp hv]; exact v0) (fun v hv => hv) (fun w hw hn => absurd hw hn)
  refine ⟨b2, b3, c3, ?_⟩
  have key : ∀ (m : Nat) (w : Wo), w.length = m → Vw ls w → Sp ((B.map (·.1)).map (vec n ls)) (vec n ls w) := by
    intro m
    induction m with
    | zero =>
      intro w hl _
      rw [List.eq_nil_of_length_eq_zero hl]
      exact sp_mem (List.mem_map.mpr ⟨[], c2 [] (List.mem_singleton.mpr rfl), rfl⟩)
    | succ m ih =>
      intro w hl hw
      have hne : w ≠ [] := fun e => by rw [e] at hl; cases hl
      obtain ⟨w', k, rfl⟩ : ∃ w' k, w = w' ++ [k] := ⟨w.dropLast, w.getLast hne, (List.dropLast_concat_getLast hne).symm⟩
      have hk : k < ls.length := hw k (List.mem_append_right _ (List.mem_singleton.mpr rfl))
      have hw' : Vw ls w' := fun j hj => hw j (List.mem_append_left _ hj)
      have step : ∀ v, Vw ls v → lm n n (fun A => mm n A (ent (ls.getD k []))) (vec n ls v) = vec n ls (v ++ [k]) := fun v hv => by
        show lm n n _ (fl _) = fl _
        rw [rmul_fl (sq_wtab P.n1 P.sq v hv) (P.sq _ (getD_mem hk).1) P.n1, ← wtab_snoc]
      have h1 := sp_map (lin_lm (n := n) (n' := n) (tl_rmul n (ent (ls.getD k [])))) (ih w' (by simpa using hl) hw')
      rw [step w' hw'] at h1
      refine sp_trans (fun u hu => ?_) h1
      obtain ⟨u', hu', rfl⟩ := List.mem_map.mp hu
      obtain ⟨v, hv, rfl⟩ := List.mem_map.mp hu'
      rw [step v (c3 v hv)]
      exact c1 v hv k hk
  exact fun w hw => key _ w rfl hw
end
end K28
end
section
set_option Elab.async false
set_option linter.all false
set_option maxRecDepth 100000
set_option maxHeartbeats 4000000
set_option autoImplicit false
set_option exponentiation.threshold 20000
namespace K28
open Classical
theorem dim_le {n n' : Nat} {ls ls' : List (List (List Rat))} {W W' : List Wo} (b : Bas n ls W) (b' : Bas n' ls' W') {L : (Nat → Rat) → (Nat → Rat)} (hL : Lin L) (f : Wo → Wo) (h : ∀ w, Vw ls' w → Vw ls (f w) ∧ L (vec n ls (f w)) = vec n' ls' w) : W'.length ≤ W.length := by
  have := steinitz (vs := (W.map (vec n ls)).map L) b'.fr fun u hu => by
    obtain ⟨w, hw, rfl⟩ := List.mem_map.mp (List.mem_reverse.mp hu)
    obtain ⟨h1, h2⟩ := h w (b'.val w hw)
    rw [← h2]
    exact sp_map hL (b.all _ h1)
  simpa using this
theorem ind_eq {n n' : Nat} {ls ls' : List (List (List Rat))} (hl : ls.length = ls'.length) {L M : (Nat → Rat) → (Nat → Rat)} (hL : Lin L) (hM : Lin M) (h : ∀ w, Vw ls w → L (vec n ls w) = vec n' ls' w ∧ M (vec n' ls' w) = vec n ls w) : ind n ls = ind n' ls' := by
  have vw : ∀ w, Vw ls w ↔ Vw ls' w := fun w => by unfold Vw; rw [hl]
  funext ws w
  refine propext ⟨fun ⟨h1, h2, h3⟩ => ⟨fun v hv => (vw v).mp (h1 v hv), (vw w).mp h2, fun q => h3 ?_⟩, fun ⟨h1, h2, h3⟩ => ⟨fun v hv => (vw v).mpr (h1 v hv), (vw w).mpr h2, fun q => h3 ?_⟩⟩
  · have := sp_map hM q
    rw [(h w h2).2, List.map_map] at this
    have e : ws.map (M ∘ vec n' ls') = ws.map (vec n ls) := List.map_congr_left fun v hv => (h v (h1 v hv)).2
    rwa [e] at this
  · have := sp_map hL q
    rw [(h w ((vw w).mpr h2)).1, List.map_map] at this
    have e : ws.map (L ∘ vec n ls) = ws.map (vec n' ls') := List.map_congr_left fun v hv => (h v ((vw v).mpr (h1 v hv))).1
    rwa [e] at this
theorem bas_eq {n n' : Nat} {ls ls' : List (List (List Rat))} {W W' : List Wo} (b : Bas n ls W) (b' : Bas n' ls' W') (hl : ls.length = ls'.length) (e : ind n ls = ind n' ls') : W = W' := by
  have h := b'.run
  rw [← e, ← hl] at h
  exact aruns_det b.run h
theorem Lin.comp {L M : (Nat → Rat) → (Nat → Rat)} (hL : Lin L) (hM : Lin M) : Lin (fun v => M (L v)) := by
  constructor
  · intro v u c y
    have e : L (fun x => v x - c * u x) = fun x => L v x - c * L u x := funext fun x => hL.sub v u c x
    show M (L _) y = _
    rw [e]
    exact hM.sub _ _ c y
  · intro v hv y
    exact hM.zero _ (hL.zero v hv) y
/-! turned -/
theorem tl_abo : TL (fun A i j => A j i) := ⟨fun A B c i j => rfl, fun i j => rfl⟩
theorem abo_fl {n : Nat} {t : List (List Rat)} (sq : SqX n t) : lm n n (fun A i j => A j i) (fl t) = fl (aboT t) := lm_fl (sqa sq) fun i j hi hj => by rw [ent_abo sq hi hj]; exact ev_fl sq hj hi
theorem dim_abo {n : Nat} {ls : List (List (List Rat))} {W W' : List Wo} (n1 : 1 ≤ n) (h : ∀ t ∈ ls, SqX n t) (b : Bas n ls W) (b' : Bas n (ls.map aboT) W') : W'.length = W.length := by
  have vr : ∀ {w : Wo}, Vw ls w → Vw ls w.reverse := fun hw k hk => hw k (List.mem_reverse.mp hk)
  have vm : ∀ {w : Wo}, Vw (ls.map aboT) w → Vw ls w := fun hw k hk => by have := hw k hk; rwa [List.length_map] at this
  have vm' : ∀ {w : Wo}, Vw ls w → Vw (ls.map aboT) w := fun hw k hk => by rw [List.length_map]; exact hw k hk
  refine Nat.le_antisymm (dim_le b b' (lin_lm (n := n) (n' := n) tl_abo) List.reverse fun w hw => ⟨vr (vm hw), ?_⟩) (dim_le b' b (lin_lm (n := n) (n' := n) tl_abo) List.reverse fun w hw => ⟨vm' (vr hw), ?_⟩)
  · show lm n n _ (fl _) = fl _
    rw [abo_fl (sq_wtab n1 h _ (vr (vm hw))), wtab_abo n1 h w (vm hw)]
  · show lm n n _ (fl _) = fl _
    have e := wtab_abo n1 h w.reverse (vr hw)
    rw [List.reverse_reverse] at e
    rw [e, abo_fl (sqa (sq_wtab n1 h _ hw)), abo_abo (sq_wtab n1 h _ hw)]
/-! led -/
theorem led_fl {n : Nat} {p q t : List (List Rat)} (sp : SqX n p) (sq : SqX n q) (st : SqX n t) (n1 : 1 ≤ n) : lm n n (fun A => mm n A (ent q)) (lm n n (fun A => mm n (ent p) A) (fl t)) = fl (ledT p q t) := by
  rw [lmul_fl st sp n1, rmul_fl (wideOf_prod sp st n1) sq n1]; rfl
theorem ind_led {n : Nat} {p q : List (List Rat)} {ls : List (List (List Rat))} (n1 : 1 ≤ n) (h : ∀ t ∈ ls, SqX n t) (sp : SqX n p) (sq : SqX n q) (pq : prodT p q = idleT n) (qp : prodT q p = idleT n) : ind n ls = ind n (ls.map (ledT p q)) :=
  ind_eq (by rw [List.length_map]) (Lin.comp (lin_lm (n := n) (n' := n) (tl_lmul n (ent p))) (lin_lm (n := n) (n' := n) (tl_rmul n (ent q)))) (Lin.comp (lin_lm (n := n) (n' := n) (tl_lmul n (ent q))) (lin_lm (n := n) (n' := n) (tl_rmul n (ent p)))) fun w hw => by
    have st := sq_wtab n1 h w hw
    have e := wtab_led sp sq n1 pq qp h w hw
    refine ⟨?_, ?_⟩
    · show lm n n _ (lm n n _ (fl _)) = fl _
      rw [led_fl sp sq st n1, e]
    · show lm n n _ (lm n n _ (fl _)) = fl _
      rw [e, led_fl sq sp (sqled sp sq st n1) n1, led_back sp sq st n1 qp]
/-! beside -/
theorem tl_up (n : Nat) : TL (fun A => A) := ⟨fun A B c i j => rfl, fun i j => rfl⟩
theorem tl_dn (n : Nat) : TL (fun A i j => A (n + i) (n + j)) := ⟨fun A B c i j => rfl, fun i j => rfl⟩
theorem tl_in1 (n : Nat) : TL (fun A => blk n A fun _ _ => 0) := by
  constructor
  · intro A B c i j
    unfold blk
    split <;> split <;> grind
  · intro i j
    unfold blk
    split <;> split <;> rfl
theorem tl_in2 (n : Nat) : TL (fun B => blk n (fun _ _ => 0) B) := by
  constructor
  · intro A B c i j
    unfold blk
    split <;> split <;> grind
  · intro i j
    unfold blk
    split <;> split <;> rfl
theorem tl_dia (n : Nat) : TL (fun A => blk n A A) := by
  constructor
  · intro A B c i j
    unfold blk
    split <;> split <;> grind
  · intro i j
    unfold blk
    split <;> split <;> rfl
theorem up_fl {n m : Nat} {t u : List (List Rat)} (h : SqX n t) (h' : SqX m u) : lm (n + m) n (fun A => A) (fl (onT t u)) = fl t := lm_fl h fun i j hi hj => by
  rw [ev_fl (sqo h h') (by omega) (by omega), ent_on h h' (by omega) (by omega)]
  unfold blk
  rw [if_pos hi, if_pos hj]
theorem dn_fl {n m : Nat} {t u : List (List Rat)} (h : SqX n t) (h' : SqX m u) : lm (n + m) m (fun A i j => A (n + i) (n + j)) (fl (onT t u)) = fl u := lm_fl h' fun i j hi hj => by
  rw [ev_fl (sqo h h') (by omega) (by omega), ent_on h h' (by omega) (by omega)]
  unfold blk
  rw [if_neg (by omega), if_neg (by omega), show n + i - n = i by omega, show n + j - n = j by omega]
theorem dia_fl {n : Nat} {t : List (List Rat)} (h : SqX n t) : lm n (n + n) (fun A => blk n A A) (fl t) = fl (onT t t) := lm_fl (sqo h h) fun i j hi hj => by
  rw [ent_on h h hi hj]
  unfold blk
  split
  · split
    · exact ev_fl h ‹_› ‹_›
    · rfl
  · split
    · rfl
    · exact ev_fl h (by omega) (by omega)
theorem in_fl {n m : Nat} {t u : List (List Rat)} (h : SqX n t) (h' : SqX m u) (k : Nat) : fl (onT t u) k = lm n (n + m) (fun A => blk n A fun _ _ => 0) (fl t) k + lm m (n + m) (fun B => blk n (fun _ _ => 0) B) (fl u) k := by
  rw [fl_op (sqo h h')]
  unfold lm op
  by_cases hk : k < (n + m) * (n + m)
  · rw [if_pos hk, if_pos hk, if_pos hk]
    have n0 : 0 < n + m := by
      rcases Nat.eq_zero_or_pos (n + m) with q | q
      · rw [q] at hk; simp at hk
      · exact q
    have hi := Nat.div_lt_of_lt_mul hk
    have hj := Nat.mod_lt k n0
    generalize k / (n + m) = i at hi ⊢
    generalize k % (n + m) = j at hj ⊢
    rw [ent_on h h' hi hj]
    unfold blk
    dsimp only
    by_cases h1 : i < n
    · by_cases h2 : j < n
      · simp only [if_pos h1, if_pos h2]
        rw [ev_fl h h1 h2]; grind
      · simp only [if_pos h1, if_neg h2]; grind
    · by_cases h2 : j < n
      · simp only [if_neg h1, if_pos h2]; grind
      · simp only [if_neg h1, if_neg h2]
        rw [ev_fl h' (by omega) (by omega)]; grind
  · rw [if_neg hk, if_neg hk, if_neg hk]; grind
theorem dim_on {n m : Nat} {ls ls' : List (List (List Rat))} {W W' W'' : List Wo} (n1 : 1 ≤ n) (m1 : 1 ≤ m) (h : ∀ t ∈ ls, SqX n t) (h' : ∀ t ∈ ls', SqX m t) (hl : ls.length = ls'.length) (b : Bas n ls W) (b' : Bas m ls' W') (b'' : Bas (n + m) (List.zipWith onT ls ls') W'') :
    W.length ≤ W''.length ∧ W'.length ≤ W''.length ∧ W''.length ≤ W.length + W'.length := by
  have lz : (List.zipWith onT ls ls').length = ls.length := by rw [List.length_zipWith]; omega
  have v2 : ∀ {w : Wo}, Vw ls w → Vw (List.zipWith onT ls ls') w := fun hw k hk => by rw [lz]; exact hw k hk
  have v3 : ∀ {w : Wo}, Vw (List.zipWith onT ls ls') w → Vw ls w := fun hw k hk => by rw [← lz]; exact hw k hk
  have v4 : ∀ {w : Wo}, Vw ls w → Vw ls' w := fun hw k hk => by rw [← hl]; exact hw k hk
  have v5 : ∀ {w : Wo}, Vw ls' w → Vw ls w := fun hw k hk => by rw [hl]; exact hw k hk
  have e : ∀ {w : Wo}, Vw ls w → vec (n + m) (List.zipWith onT ls ls') w = fl (onT (wtab n ls w) (wtab m ls' w)) := fun hw => by
    show fl _ = fl _
    rw [wtab_on n1 m1 h h' hl _ hw]
  refine ⟨dim_le b'' b (lin_lm (n := n + m) (n' := n) (tl_up n)) id fun w hw => ⟨v2 hw, ?_⟩, dim_le b'' b' (lin_lm (n := n + m) (n' := m) (tl_dn n)) id fun w hw => ⟨v2 (v5 hw), ?_⟩, ?_⟩
  · rw [id, e hw]
    exact up_fl (sq_wtab n1 h w hw) (sq_wtab m1 h' w (v4 hw))
  · rw [id, e (v5 hw)]
    exact dn_fl (sq_wtab n1 h w (v5 hw)) (sq_wtab m1 h' w hw)
  · have := steinitz (vs := (W.map (vec n ls)).map (lm n (n + m) fun A => blk n A fun _ _ => 0) ++ (W'.map (vec m ls')).map (lm m (n + m) fun B => blk n (fun _ _ => 0) B)) b''.fr fun u hu => by
      obtain ⟨w, hw, rfl⟩ := List.mem_map.mp (List.mem_reverse.mp hu)
      have hv := v3 (b''.val w hw)
      have s1 := sp_map (lin_lm (n := n) (n' := n + m) (tl_in1 n)) (b.all w hv)
      have s2 := sp_map (lin_lm (n := m) (n' := n + m) (tl_in2 n)) (b'.all w (v4 hv))
      rw [e hv]
      refine sp_ext (sp_add (sp_trans (fun u hu => sp_mem (List.mem_append_left _ hu)) s1) (sp_trans (fun u hu => sp_mem (List.mem_append_right _ hu)) s2)) fun k => ?_
      exact (in_fl (sq_wtab n1 h w hv) (sq_wtab m1 h' w (v4 hv)) k).symm
    simpa using this
theorem dim_same {n : Nat} {ls : List (List (List Rat))} {W W'' : List Wo} (n1 : 1 ≤ n) (h : ∀ t ∈ ls, SqX n t) (b : Bas n ls W) (b'' : Bas (n + n) (List.zipWith onT ls ls) W'') : W''.length = W.length := by
  have lz : ls.length = (List.zipWith onT ls ls).length := by rw [List.length_zipWith]; omega
  have := bas_eq b b'' lz (ind_eq lz (lin_lm (n := n) (n' := n + n) (tl_dia n)) (lin_lm (n := n + n) (n' := n) (tl_up n)) fun w hw => by
    have e : vec (n + n) (List.zipWith onT ls ls) w = fl (onT (wtab n ls w) (wtab n ls w)) := by
      show fl _ = fl _
      rw [wtab_on n1 n1 h h rfl _ hw]
    have st := sq_wtab n1 h w hw
    rw [e]
    exact ⟨dia_fl st, up_fl st st⟩)
  rw [this]
end K28
end
section
set_option Elab.async false
set_option linter.all false
set_option maxRecDepth 100000
set_option maxHeartbeats 4000000
set_option autoImplicit false
set_option exponentiation.threshold 20000
namespace K28
theorem drn_ok {n : Nat} {ls : List (List (List Int))} (dr : Drn n ls) : HsOk (hsI n ls) := by
  have := dr.ok.rat
  rw [nmi_rat] at this
  exact this
theorem drn_tb {n : Nat} {ls : List (List (List Int))} (dr : Drn n ls) : ∀ t ∈ ls.map ratI, TB 1 2 t := fun t ht => by
  obtain ⟨q, hq, rfl⟩ := List.mem_map.mp ht
  obtain ⟨s1, s2⟩ := dr.sq q hq
  intro x hx
  obtain ⟨r, hr, hx⟩ := List.mem_flatten.mp hx
  unfold ratI at hr
  obtain ⟨r', hr', rfl⟩ := List.mem_map.mp hr
  obtain ⟨z, hz, rfl⟩ := List.mem_map.mp hx
  exact (Zi.int z).mono (s2 r' hr' z hz)
theorem drn_sq {n : Nat} {ls : List (List (List Int))} (dr : Drn n ls) : ∀ t ∈ ls.map ratI, SqX n t := (drn_ok dr).sq
theorem drn_pm {n : Nat} {ls : List (List (List Int))} (dr : Drn n ls) (h : n ≤ 2) : Pm n (ls.map ratI) 1 2 2 := ⟨dr.n1, dr.n4, drn_sq dr, drn_tb dr, Nat.le_refl _, by decide, by omega, by
  have : n = 1 ∨ n = 2 := by have := dr.n1; omega
  rcases this with e | e <;> rw [e] <;> decide⟩
theorem vw_of {n : Nat} {ls : List (List (List Int))} {wd : List Nat} (hk : ∀ k ∈ wd, k < ls.length) : Vw (ls.map ratI) wd := fun k h => by rw [List.length_map]; exact hk k h
theorem tb_map {D a b : Nat} {f : List (List Rat) → List (List Rat)} {L : List (List (List Rat))} (h : ∀ t ∈ L, TB D b (f t)) : ∀ t ∈ L.map f, TB D b t := fun t ht => by
  obtain ⟨q, hq, rfl⟩ := List.mem_map.mp ht
  exact h q hq
theorem law_ab (n : Nat) (ls : List (List (List Int))) (wd : List Nat) (dr : Drn n ls) (n3 : n ≤ 3) (wl : wd.length ≤ 5) (wk : ∀ k ∈ wd, k < ls.length) : AbF (hsI n ls) wd := by
  have ok := drn_ok dr
  have sq := drn_sq dr
  have tb := drn_tb dr
  have n1 := dr.n1
  have vw : Vw (ls.map ratI) wd := vw_of (n := n) wk
  have vr : Vw (ls.map ratI) wd.reverse := fun k hk => vw k (List.mem_reverse.mp hk)
  have sqA : ∀ t ∈ (ls.map ratI).map aboT, SqX n t := fun t ht => by
    obtain ⟨q, hq, rfl⟩ := List.mem_map.mp ht
    exact sqa (sq q hq)
  have tbA : ∀ t ∈ (ls.map ratI).map aboT, TB 1 2 t := fun t ht => by
    obtain ⟨q, hq, rfl⟩ := List.mem_map.mp ht
    exact tb_abo (sq q hq) (tb q hq)
  have vA : Vw ((ls.map ratI).map aboT) wd := fun k hk => by rw [List.length_map]; exact vw k hk
  refine ⟨ok, by omega, vw, ⟨1, 13, by decide, by decide, wb_of (n := n) (D := 1) (a := 2) (A := 6) (m := 5) n1 sq tb (by omega) vr (by rw [List.length_reverse]; exact wl) (by decide) (by decide) (by decide) (by decide) (by decide) (by decide), wb_of (n := n) (D := 1) (a := 2) (A := 6) (m := 5) n1 sqA tbA (by omega) vA wl (by decide) (by decide) (by decide) (by decide) (by decide) (by decide)⟩, ?_, wtab_abo n1 sq wd vw, ?_, ?_⟩
  · show ((ls.map ratI).map aboT).map aboT = ls.map ratI
    rw [List.map_map]
    exact (List.map_congr_left fun t ht => abo_abo (sq t ht)).trans (List.map_id _)
  · show trT (wtab n ((ls.map ratI).map aboT) wd) = trT (wtab n (ls.map ratI) wd.reverse)
    rw [wtab_abo n1 sq wd vw]
    exact tr_abo (sq_wtab n1 sq _ vr)
  · by_cases h3 : n = 3
    · exact .inl h3
    · obtain ⟨B, b1, b2⟩ := base_ex (drn_pm dr (by omega))
      have pm' : Pm n ((ls.map ratI).map aboT) 1 2 2 := ⟨n1, dr.n4, sqA, tbA, by decide, by decide, by omega, (drn_pm dr (by omega)).big⟩
      obtain ⟨B', b1', b2'⟩ := base_ex pm'
      have := dim_abo n1 sq b2 b2'
      rw [List.length_map, List.length_map] at this
      exact .inr ⟨B, B', b1, b1', this⟩
theorem sm_of {D a e d : Nat} {x : Rat} (h : Zi D a x) (h0 : 0 < D) (hd : D < 2 ^ e) (ha : a < 2 ^ e) : Sm e x := by
  have := (bd_of (qs := [x]) (D := D) (a := a) (d := e) (e := e) (fun y hy => by rw [List.mem_singleton.mp hy]; exact h) h0 hd ha).num (List.mem_singleton.mpr rfl)
  exact ⟨this.1, this.2⟩
theorem law_sd (n n' : Nat) (ls ls' : List (List (List Int))) (wd : List Nat) (dr : Drn n ls) (dr' : Drn n' ls') (h4 : n + n' ≤ 4) (hl : ls.length = ls'.length) (wl : wd.length ≤ 5) (wk : ∀ k ∈ wd, k < ls.length) : SdF (hsI n ls) (hsI n' ls') wd := by
  have n1 := dr.n1
  have n1' := dr'.n1
  have sq := drn_sq dr
  have sq' := drn_sq dr'
  have tb := drn_tb dr
  have tb' := drn_tb dr'
  have vw : Vw (ls.map ratI) wd := vw_of (n := n) wk
  have vw' : Vw (ls'.map ratI) wd := vw_of (n := n') fun k hk => by rw [← hl]; exact wk k hk
  have lm : (ls.map ratI).length = (ls'.map ratI).length := by rw [List.length_map, List.length_map, hl]
  have lz : (List.zipWith onT (ls.map ratI) (ls'.map ratI)).length = (ls.map ratI).length := by rw [List.length_zipWith]; omega
  have both : ∀ t ∈ List.zipWith onT (ls.map ratI) (ls'.map ratI), SqX (n + n') t ∧ TB 1 2 t := fun t ht => by
    rw [List.mem_iff_getElem] at ht
    obtain ⟨i, hi, rfl⟩ := ht
    rw [List.getElem_zipWith]
    exact ⟨sqo (sq _ (List.getElem_mem _)) (sq' _ (List.getElem_mem _)), tb_on (sq _ (List.getElem_mem _)) (sq' _ (List.getElem_mem _)) (tb _ (List.getElem_mem _)) (tb' _ (List.getElem_mem _))⟩
  have vz : Vw (List.zipWith onT (ls.map ratI) (ls'.map ratI)) wd := fun k hk => by rw [lz]; exact vw k hk
  have s1 := sq_wtab n1 sq wd vw
  have s2 := sq_wtab n1' sq' wd vw'
  have e : wtab (n + n') (List.zipWith onT (ls.map ratI) (ls'.map ratI)) wd = onT (wtab n (ls.map ratI) wd) (wtab n' (ls'.map ratI) wd) := wtab_on n1 n1' sq sq' lm wd vw
  obtain ⟨t1, t2⟩ := on_take s1 s2
  have trb : ∀ {k : Nat} {L : List (List (List Rat))}, 1 ≤ k → k ≤ 3 → (∀ t ∈ L, SqX k t) → (∀ t ∈ L, TB 1 2 t) → Vw L wd → Sm 20 (trT (wtab k L wd)) := fun {k L} k1 k3 hs ht hv => by
    rw [tr_fs (sq_wtab k1 hs wd hv)]
    have hb := tb_wtab (A := 6) k1 hs ht (by omega) wd hv
    rw [Nat.one_pow] at hb
    have hz := zi_fs (n := k) fun i hi => (tb_ent (sq_wtab k1 hs wd hv)).mp hb i i hi hi
    refine sm_of (d := 0) hz (by decide) (by decide) ?_
    have h1 : 6 ^ wd.length ≤ 6 ^ 5 := Nat.pow_le_pow_right (by decide) wl
    have h2 := Nat.mul_le_mul k3 h1
    exact Nat.lt_of_le_of_lt h2 (by decide)
  refine ⟨drn_ok dr, drn_ok dr', h4, lm, by omega, vw, ⟨1, 16, by decide, by decide, wb_of (n := n) (D := 1) (a := 2) (A := 8) (m := 5) n1 sq tb (by omega) vw wl (by decide) (by decide) (by decide) (by decide) (by decide) (by decide), wb_of (n := n') (D := 1) (a := 2) (A := 8) (m := 5) n1' sq' tb' (by omega) vw' wl (by decide) (by decide) (by decide) (by decide) (by decide) (by decide), wb_of (n := n + n') (D := 1) (a := 2) (A := 8) (m := 5) (by omega : 1 ≤ n + n') (fun t ht => (both t ht).1) (fun t ht => (both t ht).2) (by omega) vz wl (by decide) (by decide) (by decide) (by decide) (by decide) (by decide)⟩,
    ⟨20, by decide, trb (k := n) n1 (by omega) sq tb vw, trb (k := n') n1' (by omega) sq' tb' vw'⟩, ?_, ?_, ?_, ?_⟩
  · show trT (wtab (n + n') (List.zipWith onT (ls.map ratI) (ls'.map ratI)) wd) = _
    rw [e]
    exact tr_on s1 s2
  · show (wtab (n + n') (List.zipWith onT (ls.map ratI) (ls'.map ratI)) wd).take n = _
    rw [e]
    exact t1
  · show (wtab (n + n') (List.zipWith onT (ls.map ratI) (ls'.map ratI)) wd).drop n = _
    rw [e]
    exact t2
  · by_cases h3 : 3 < n + n'
    · exact .inl h3
    · obtain ⟨B, b1, b2⟩ := base_ex (drn_pm dr (by omega))
      obtain ⟨B', b1', b2'⟩ := base_ex (drn_pm dr' (by omega))
      have pm : Pm (n + n') (List.zipWith onT (ls.map ratI) (ls'.map ratI)) 1 2 3 := ⟨by omega, h4, fun t ht => (both t ht).1, fun t ht => (both t ht).2, by decide, by decide, by omega, by
        have : n + n' = 2 ∨ n + n' = 3 := by omega
        rcases this with e | e <;> rw [e] <;> decide⟩
      obtain ⟨B'', b1'', b2''⟩ := base_ex pm
      obtain ⟨d1, d2, d3⟩ := dim_on n1 n1' sq sq' lm b2 b2' b2''
      simp only [List.length_map] at d1 d2 d3
      refine .inr ⟨B, B', B'', b1, b1', b1'', d1, d2, d3, fun heq => ?_⟩
      have heq' : ls.map ratI = ls'.map ratI := heq
      have hn : n = n' := by
        have m1 := dr.m1
        have hm : 0 < (ls.map ratI).length := by rw [List.length_map]; omega
        have q1 := sq _ (List.getElem_mem hm)
        have q2 := sq' (ls.map ratI)[0] (by rw [← heq']; exact List.getElem_mem hm)
        rw [← q1.1, q2.1]
      subst hn
      rw [← heq'] at b2''
      have := dim_same n1 sq b2 b2''
      simpa using this
theorem law_ld (n : Nat) (ls : List (List (List Int))) (wd : List Nat) (A B : Nat → Nat → Int) (dr : Drn n ls) (n3 : n ≤ 3) (wl : wd.length ≤ 5) (wk : ∀ k ∈ wd, k < ls.length) (hA : ShU n A) (hB : ShL n B) : LdF (hsI n ls) wd (ratI (leadI n A B)) := by
  have n1 := dr.n1
  have sq := drn_sq dr
  have tb := drn_tb dr
  have vw : Vw (ls.map ratI) wd := vw_of (n := n) wk
  obtain ⟨q, sqq, pq, qp, tp, tq⟩ := lead_inv n1 n3 hA hB
  have sp := sq_ratI (sq_lead n A B)
  generalize ratI (leadI n A B) = p at *
  obtain ⟨u1, u2⟩ := und_ok n1 n3 sp sqq pq qp tp (by decide) (by decide) (by decide)
  obtain ⟨u3, u4⟩ := und_ok n1 n3 sqq sp qp pq tq (by decide) (by decide) (by decide)
  have sl : ∀ t ∈ (ls.map ratI).map (ledT p q), SqX n t := fun t ht => by
    obtain ⟨r, hr, rfl⟩ := List.mem_map.mp ht
    exact sqled sp sqq (sq r hr) n1
  have tpt : ∀ t ∈ ls.map ratI, TB 1 36 (prodT p t) := fun t ht => (tb_prod sp (sq t ht) n1 tp (tb t ht)).mono (by omega)
  have tl : ∀ t ∈ (ls.map ratI).map (ledT p q), TB 8 15552 t := fun t ht => by
    obtain ⟨r, hr, rfl⟩ := List.mem_map.mp ht
    exact (tb_prod (wideOf_prod sp (sq r hr) n1) sqq n1 (tpt r hr) tq).mono (by omega)
  have vl : Vw ((ls.map ratI).map (ledT p q)) wd := fun k hk => by rw [List.length_map]; exact vw k hk
  have sw := sq_wtab n1 sq wd vw
  have tw : TB 1 7776 (wtab n (ls.map ratI) wd) := by
    have := tb_wtab (A := 6) n1 sq tb (by omega) wd vw
    rw [Nat.one_pow] at this
    exact this.mono (Nat.pow_le_pow_right (by decide) wl : 6 ^ wd.length ≤ 6 ^ 5)
  have el : (ledH (hsI n ls) p).ls = (ls.map ratI).map (ledT p q) := by
    show (ls.map ratI).map (ledT p (undT p)) = _
    rw [u1]
  refine ⟨drn_ok dr, by omega, vw, u2, by rw [u1]; exact u4, ⟨7, 23, by decide, by decide, fun t ht => (tb t ht).bd (by decide) (by decide) (by decide), tp.bd (by decide) (by decide) (by decide), by rw [u1]; exact tq.bd (by decide) (by decide) (by decide), fun t ht => (tpt t ht).bd (by decide) (by decide) (by decide)⟩,
    ⟨7, 23, by decide, by decide, ?_, by rw [u1]; exact tq.bd (by decide) (by decide) (by decide), by rw [u1, u3]; exact tp.bd (by decide) (by decide) (by decide), ?_⟩, by rw [u1]; exact pq, ?_, ⟨16, 81, by decide, by decide, ?_, ?_, tp.bd (by decide) (by decide) (by decide), by rw [u1]; exact tq.bd (by decide) (by decide) (by decide), tw.bd (by decide) (by decide) (by decide), ?_⟩, ?_, ?_, ?_⟩
  · rw [el]
    exact fun t ht => (tl t ht).bd (by decide) (by decide) (by decide)
  · rw [el, u1]
    intro t ht
    have := tb_prod sqq (sl t ht) n1 tq (tl t ht)
    exact (this.mono (b := 6718464) (by omega)).bd (by decide) (by decide) (by decide)
  · show ((ledH (hsI n ls) p).ls).map (ledT (undT p) (undT (undT p))) = ls.map ratI
    rw [el, u1, u3, List.map_map]
    exact (List.map_congr_left fun t ht => led_back sp sqq (sq t ht) n1 qp).trans (List.map_id _)
  · exact wb_of (n := n) (D := 1) (a := 2) (A := 6) (m := 5) n1 sq tb (by omega) vw wl (by decide) (by decide) (by decide) (by decide) (by decide) (by decide)
  · rw [el]
    exact wb_of (n := n) (D := 8) (a := 15552) (A := 46656) (m := 5) n1 sl tl (by omega) vl wl (by decide) (by decide) (by decide) (by decide) (by decide) (by decide)
  · exact ((tb_prod sp sw n1 tp tw).mono (b := 139968) (by omega)).bd (by decide) (by decide) (by decide)
  · rw [el, u1]
    exact wtab_led sp sqq n1 pq qp sq wd vw
  · rw [el]
    show trT (wtab n _ wd) = _
    rw [wtab_led sp sqq n1 pq qp sq wd vw]
    exact tr_led sp sqq sw n1 qp
  · by_cases h3 : n = 3
    · exact .inl h3
    · obtain ⟨C, b1, b2⟩ := base_ex (drn_pm dr (by omega))
      have pm : Pm n ((ls.map ratI).map (ledT p q)) 8 15552 15 := ⟨n1, dr.n4, sl, tl, by decide, by decide, by
        have : n * 15552 ≤ 2 * 15552 := Nat.mul_le_mul_right _ (by omega)
        exact Nat.le_trans this (by decide), by
        have : n = 1 ∨ n = 2 := by omega
        rcases this with e | e <;> rw [e] <;> decide⟩
      obtain ⟨C', b1', b2'⟩ := base_ex pm
      have := bas_eq b2 b2' (List.length_map _).symm (ind_led n1 sq sp sqq pq qp)
      refine .inr ⟨C', C, ?_, b1, this.symm⟩
      have eh : ledH (hsI n ls) p = ⟨n, (ls.map ratI).map (ledT p q)⟩ := by
        show (⟨n, (ls.map ratI).map (ledT p (undT p))⟩ : Hs) = _
        rw [u1]
      rw [eh]
      exact b1'
theorem laws : Laws := ⟨law_ab, law_ld, law_sd⟩
end K28
end
section
set_option Elab.async false
set_option linter.all false
set_option maxRecDepth 100000
set_option maxHeartbeats 0
open PySem PySem.W PySem.Calls PyProof.Rows
theorem K28.holds_of (LW : K28.Laws) : PySem.Challenge.rw_tracewords_k28_whole_houses_of_houses.Holds := by
  w_on; o_law
  refine HandSHeadRun.head_imp (r := OpenLaw.row PySem.Challenge.rw_tracewords_k28_whole_houses_of_houses) (q := view (OpenLaw.row PySem.Challenge.rw_tracewords_k28_whole_houses_of_houses).prog [0, 99]) (H := K28.hk) (ob := K28.ob) (M := 30000) (loose := K28.loose) (d := HandSHeadRun.topDef (OpenLaw.row PySem.Challenge.rw_tracewords_k28_whole_houses_of_houses).prog 99) (kwd := []) K28.ob_eq
    K28.run (by kernel_rfl) (by kernel_rfl) (by kernel_rfl) (by rfl) (by first | assumption | decide +kernel) (by decide +kernel) ⟨rfl, rfl, rfl, rfl, rfl, by decide +kernel⟩ ?hw ?hc
  case hw => w_witness2
  case hc =>
    refine L2.walk_ofE (l := PySem.Challenge.rw_tracewords_k28_whole_houses_of_houses) (n := 63) (k := 13) (x := "_law_script") (CX := L2.CX0) rfl (by decide) (by kernel_rfl) ⟨rfl, by decide, by decide⟩ ?F (fun _ _ _ _ z => z)
    intro w mg fa h Y G hmg0
    obtain ⟨K, KX, c⟩ := Y
    have hmg : mg ("law" : PySem.Str) = some (.ref fa) := by
      have e : (HandSHeadRun.topDef (OpenLaw.row PySem.Challenge.rw_tracewords_k28_whole_houses_of_houses).prog 99).name = ("law" : PySem.Str) := by kernel_rfl
      rw [← e]
      exact hmg0
    obtain ⟨fd, hb, hF⟩ := K28.facts (P := (PySem.Challenge.rw_tracewords_k28_whole_houses_of_houses).prog) (w := w) KX G hmg c LW
    exact ⟨K, fd, K28.spLaw K, KX, hb, fun H a ns hl _ hS => ⟨a, ns, rfl, hS, Nat.le_trans hl (by decide), fun _ => rfl⟩, hF⟩
end
theorem PySem.Challenge.cw_tracewords_k28_whole_houses_of_houses_holds : PySem.Challenge.rw_tracewords_k28_whole_houses_of_houses.Holds := by
  exact K28.holds_of K28.laws
