import PyProof.Rows.All
import Wide.All
import OpenK.AllK
import Wide.FinOn
import KE.KStateDown
import Lean
import HandS.ForMost
import HandS.Defaults
import HandS.Exc
import HandS.IsInst
import HandS.Walk
import HandS.Zip
import HandS.Style
import HandS.Flow
import HandS.Conv
import HandS.Codes
import HandS.More
import HandS.IterVal
import HandS.WideBits
import HandS.Head0
import HandS.Head1
import HandS.Head2
import HandS.HeadEnd
import HandS.HeadHook1
import HandS.HeadHook2
import PySem.Challenge.RW_turnpowers_k88_whole_mending_goes_along
set_option Elab.async false
set_option linter.all false
set_option maxRecDepth 100000
set_option maxHeartbeats 8000000
/-! The text by places, and what its top leaves. Printed by gen_head.py. -/
namespace Tp
open PySem PySem.Spec PyProof.Rows L2
abbrev R : PySem.W.OpenRow := PySem.W.OpenLaw.row PySem.Challenge.rw_turnpowers_k88_whole_mending_goes_along
def top (i : Nat) : Stmt := PySem.Challenge.pw_turnpowers_k88_whole_mending_goes_along.main.body.getD i (.Pass ⟨0, 0, 0, 0⟩)
abbrev s_is_integer : Stmt := top 12
abbrev s_is_count : Stmt := top 13
abbrev s_is_list : Stmt := top 14
abbrev s_want_many : Stmt := top 15
abbrev s_want_at_most : Stmt := top 16
abbrev s_without_end : Stmt := top 21
abbrev s_poly_rest : Stmt := top 22
abbrev s_undone_by : Stmt := top 23
abbrev s_poly_times : Stmt := top 24
abbrev s_poly_less : Stmt := top 25
abbrev s_are_apart : Stmt := top 26
abbrev s_letter_turns : Stmt := top 27
abbrev s_is_single : Stmt := top 28
abbrev s_is_prime : Stmt := top 29
abbrev s_want_prime : Stmt := top 30
abbrev s_is_figures : Stmt := top 31
abbrev s_is_right : Stmt := top 32
abbrev s_told_number : Stmt := top 33
abbrev s_poly_of : Stmt := top 34
abbrev s_powers_by : Stmt := top 35
abbrev s_all_powers : Stmt := top 36
abbrev s_logs_by : Stmt := top 37
abbrev s_sized : Stmt := top 38
abbrev s_want_field : Stmt := top 40
abbrev s_figures_of : Stmt := top 42
abbrev s_by_figures_of : Stmt := top 43
abbrev s_plus_of : Stmt := top 44
abbrev s_minus_of : Stmt := top 45
abbrev s_times_of : Stmt := top 46
abbrev s_over_of : Stmt := top 47
abbrev s_power_of : Stmt := top 48
abbrev s_turned_of : Stmt := top 49
abbrev s_less_row : Stmt := top 50
abbrev s_figure_steps : Stmt := top 51
abbrev s_rows_rank : Stmt := top 52
abbrev s_rank_of : Stmt := top 53
abbrev s_is_in : Stmt := top 54
abbrev s_told_of : Stmt := top 56
abbrev s_sum_turners : Stmt := top 57
abbrev s_less_turners : Stmt := top 58
abbrev s_worth_of : Stmt := top 59
abbrev s_are_some : Stmt := top 61
abbrev s_want_points : Stmt := top 62
abbrev s_want_book : Stmt := top 65
abbrev s_word_in : Stmt := top 66
abbrev s_want_word : Stmt := top 67
abbrev s_word_by : Stmt := top 68
abbrev s_differences : Stmt := top 69
abbrev s_outer_parts : Stmt := top 71
abbrev s_cleared : Stmt := top 73
abbrev s_lone_solution : Stmt := top 74
abbrev s_reach_of : Stmt := top 76
abbrev s_many_rows : Stmt := top 77
abbrev s_pair_row : Stmt := top 78
abbrev s_pair_of : Stmt := top 79
abbrev s_is_within_reach : Stmt := top 80
abbrev s_told_by_pair : Stmt := top 81
abbrev s_mended_by : Stmt := top 82
abbrev s_mended : Stmt := top 83
abbrev s_law_pot : Stmt := top 85
abbrev s_law_draw : Stmt := top 86
abbrev s_law_pick : Stmt := top 87
abbrev s_law_figures : Stmt := top 88
abbrev s_law_number : Stmt := top 89
abbrev s_law_slow : Stmt := top 90
abbrev s_law_powers : Stmt := top 91
abbrev s_law_world : Stmt := top 92
abbrev s_law_times : Stmt := top 93
abbrev s_law_plus : Stmt := top 94
abbrev s_law_turned : Stmt := top 95
abbrev s_law_worth : Stmt := top 96
abbrev s_law_span : Stmt := top 97
abbrev s_law_trimmed : Stmt := top 98
abbrev s_law_kind : Stmt := top 99
abbrev s_law_free : Stmt := top 100
abbrev s_law_some : Stmt := top 101
abbrev s_law_word : Stmt := top 102
abbrev s_law_within : Stmt := top 103
abbrev s_law_spoilt : Stmt := top 104
abbrev s_law_book : Stmt := top 105
abbrev s_law_made : Stmt := top 106
abbrev s_law_led_right : Stmt := top 107
abbrev s_law_moved_right : Stmt := top 108
abbrev s_law_right : Stmt := top 109
abbrev s_law : Stmt := top 110
abbrev s_Field_init : Stmt := inClass (top 39) 0
abbrev s_Book_init : Stmt := inClass (top 64) 0
/-- a def of the text by its name, of no default -/
structure DefAt (K : PySem.W.Frag) (mg : Str → Option Value) (x : Str) (st : Stmt) : Prop where
  ex : ∃ (f : Addr) (fd : FuncData), FunD K x x (defArgs st) (defBody st) (defScope st) [] [] f fd ∧ mg x = some (.ref f)
abbrev CF (K : PySem.W.Frag) : Addr := He.ga K "Field"
abbrev CB (K : PySem.W.Frag) : Addr := He.ga K "Book"
abbrev aP (K : PySem.W.Frag) : Addr := He.ga K "PRIMES"
/-- what the top leaves -/
structure Txt (K : PySem.W.Frag) (mg : Str → Option Value) : Prop where
  d_is_integer : DefAt K mg "is_integer" s_is_integer
  d_is_count : DefAt K mg "is_count" s_is_count
  d_is_list : DefAt K mg "is_list" s_is_list
  d_want_at_most : DefAt K mg "want_at_most" s_want_at_most
  d_without_end : DefAt K mg "without_end" s_without_end
  d_poly_rest : DefAt K mg "poly_rest" s_poly_rest
  d_undone_by : DefAt K mg "undone_by" s_undone_by
  d_poly_times : DefAt K mg "poly_times" s_poly_times
  d_poly_less : DefAt K mg "poly_less" s_poly_less
  d_are_apart : DefAt K mg "are_apart" s_are_apart
  d_letter_turns : DefAt K mg "letter_turns" s_letter_turns
  d_is_single : DefAt K mg "is_single" s_is_single
  d_is_prime : DefAt K mg "is_prime" s_is_prime
  d_want_prime : DefAt K mg "want_prime" s_want_prime
  d_is_figures : DefAt K mg "is_figures" s_is_figures
  d_is_right : DefAt K mg "is_right" s_is_right
  d_told_number : DefAt K mg "told_number" s_told_number
  d_poly_of : DefAt K mg "poly_of" s_poly_of
  d_powers_by : DefAt K mg "powers_by" s_powers_by
  d_all_powers : DefAt K mg "all_powers" s_all_powers
  d_logs_by : DefAt K mg "logs_by" s_logs_by
  d_sized : DefAt K mg "sized" s_sized
  d_want_field : DefAt K mg "want_field" s_want_field
  d_figures_of : DefAt K mg "figures_of" s_figures_of
  d_by_figures_of : DefAt K mg "by_figures_of" s_by_figures_of
  d_plus_of : DefAt K mg "plus_of" s_plus_of
  d_minus_of : DefAt K mg "minus_of" s_minus_of
  d_times_of : DefAt K mg "times_of" s_times_of
  d_over_of : DefAt K mg "over_of" s_over_of
  d_power_of : DefAt K mg "power_of" s_power_of
  d_turned_of : DefAt K mg "turned_of" s_turned_of
  d_less_row : DefAt K mg "less_row" s_less_row
  d_figure_steps : DefAt K mg "figure_steps" s_figure_steps
  d_rows_rank : DefAt K mg "rows_rank" s_rows_rank
  d_rank_of : DefAt K mg "rank_of" s_rank_of
  d_is_in : DefAt K mg "is_in" s_is_in
  d_told_of : DefAt K mg "told_of" s_told_of
  d_sum_turners : DefAt K mg "sum_turners" s_sum_turners
  d_less_turners : DefAt K mg "less_turners" s_less_turners
  d_worth_of : DefAt K mg "worth_of" s_worth_of
  d_are_some : DefAt K mg "are_some" s_are_some
  d_want_points : DefAt K mg "want_points" s_want_points
  d_want_book : DefAt K mg "want_book" s_want_book
  d_word_in : DefAt K mg "word_in" s_word_in
  d_want_word : DefAt K mg "want_word" s_want_word
  d_word_by : DefAt K mg "word_by" s_word_by
  d_differences : DefAt K mg "differences" s_differences
  d_outer_parts : DefAt K mg "outer_parts" s_outer_parts
  d_cleared : DefAt K mg "cleared" s_cleared
  d_lone_solution : DefAt K mg "lone_solution" s_lone_solution
  d_reach_of : DefAt K mg "reach_of" s_reach_of
  d_many_rows : DefAt K mg "many_rows" s_many_rows
  d_pair_row : DefAt K mg "pair_row" s_pair_row
  d_pair_of : DefAt K mg "pair_of" s_pair_of
  d_is_within_reach : DefAt K mg "is_within_reach" s_is_within_reach
  d_told_by_pair : DefAt K mg "told_by_pair" s_told_by_pair
  d_mended_by : DefAt K mg "mended_by" s_mended_by
  d_mended : DefAt K mg "mended" s_mended
  d_law_pot : DefAt K mg "_law_pot" s_law_pot
  d_law_draw : DefAt K mg "_law_draw" s_law_draw
  d_law_pick : DefAt K mg "_law_pick" s_law_pick
  d_law_figures : DefAt K mg "_law_figures" s_law_figures
  d_law_number : DefAt K mg "_law_number" s_law_number
  d_law_slow : DefAt K mg "_law_slow" s_law_slow
  d_law_powers : DefAt K mg "_law_powers" s_law_powers
  d_law_world : DefAt K mg "_law_world" s_law_world
  d_law_times : DefAt K mg "_law_times" s_law_times
  d_law_plus : DefAt K mg "_law_plus" s_law_plus
  d_law_turned : DefAt K mg "_law_turned" s_law_turned
  d_law_worth : DefAt K mg "_law_worth" s_law_worth
  d_law_span : DefAt K mg "_law_span" s_law_span
  d_law_trimmed : DefAt K mg "_law_trimmed" s_law_trimmed
  d_law_kind : DefAt K mg "_law_kind" s_law_kind
  d_law_free : DefAt K mg "_law_free" s_law_free
  d_law_some : DefAt K mg "_law_some" s_law_some
  d_law_word : DefAt K mg "_law_word" s_law_word
  d_law_within : DefAt K mg "_law_within" s_law_within
  d_law_spoilt : DefAt K mg "_law_spoilt" s_law_spoilt
  d_law_book : DefAt K mg "_law_book" s_law_book
  d_law_made : DefAt K mg "_law_made" s_law_made
  d_law_led_right : DefAt K mg "_law_led_right" s_law_led_right
  d_law_moved_right : DefAt K mg "_law_moved_right" s_law_moved_right
  d_law_right : DefAt K mg "_law_right" s_law_right
  d_want_many : ∃ (f : Addr) (fd : FuncData), FunD K "want_many" "want_many" (defArgs s_want_many) (defBody s_want_many) (defScope s_want_many) [.non, .int 0] [] f fd ∧ mg "want_many" = some (.ref f)
  b_len : mg "len" = none
  b_range : mg "range" = none
  b_zip : mg "zip" = none
  b_enumerate : mg "enumerate" = none
  b_isinstance : mg "isinstance" = none
  b_int : mg "int" = none
  b_bool : mg "bool" = none
  b_list : mg "list" = none
  b_tuple : mg "tuple" = none
  b_all : mg "all" = none
  b_max : mg "max" = none
  b_min : mg "min" = none
  b_abs : mg "abs" = none
  b_divmod : mg "divmod" = none
  k_MOST_SIZE : ∃ t, mg "MOST_SIZE" = some (.int 128 t)
  k_MOST_TURNS : ∃ t, mg "MOST_TURNS" = some (.int 12 t)
  k_PRIMES : mg "PRIMES" = some (.ref (aP K))
  l_PRIMES : ∀ H : Hp, SqT K H (aP K) [.int 2, .int 3, .int 5, .int 7]
  g_Field : mg "Field" = some (.ref (CF K))
  g_Book : mg "Book" = some (.ref (CB K))
  i_Field : C8.InsC K (CF K)
  i_Book : C8.InsC K (CB K)
  m_Field : ∃ (f : Addr) (fd : FuncData), Mk K (CF K) f ∧ FunD K "__init__" "Field.__init__" (defArgs s_Field_init) (defBody s_Field_init) (defScope s_Field_init) [] [] f fd
  m_Book : ∃ (f : Addr) (fd : FuncData), Mk K (CB K) f ∧ FunD K "__init__" "Book.__init__" (defArgs s_Book_init) (defBody s_Book_init) (defScope s_Book_init) [] [] f fd
  n_own_prime : NoAttr K (CF K) "own_prime"
  n_own_turns : NoAttr K (CF K) "own_turns"
  n_own_size : NoAttr K (CF K) "own_size"
  n_own_modulus : NoAttr K (CF K) "own_modulus"
  n_own_powers : NoAttr K (CF K) "own_powers"
  n_own_logs : NoAttr K (CF K) "own_logs"
  n_own_field : NoAttr K (CB K) "own_field"
  n_own_points : NoAttr K (CB K) "own_points"
  n_own_many : NoAttr K (CB K) "own_many"
end Tp
/-! The head: the top's run, the facts that it leaves. Printed by gen_head.py. -/
namespace Tp
open PySem PySem.Spec PyProof.Rows L2 He

def fn_0 : List He.DefD := [⟨("is_integer", none), "is_integer", "is_integer", defArgs s_is_integer, defBody s_is_integer, defScope s_is_integer, [], []⟩,
  ⟨("is_count", none), "is_count", "is_count", defArgs s_is_count, defBody s_is_count, defScope s_is_count, [], []⟩,
  ⟨("is_list", none), "is_list", "is_list", defArgs s_is_list, defBody s_is_list, defScope s_is_list, [], []⟩,
  ⟨("want_many", none), "want_many", "want_many", defArgs s_want_many, defBody s_want_many, defScope s_want_many, [.non, .int 0], []⟩,
  ⟨("want_at_most", none), "want_at_most", "want_at_most", defArgs s_want_at_most, defBody s_want_at_most, defScope s_want_at_most, [], []⟩,
  ⟨("without_end", none), "without_end", "without_end", defArgs s_without_end, defBody s_without_end, defScope s_without_end, [], []⟩,
  ⟨("poly_rest", none), "poly_rest", "poly_rest", defArgs s_poly_rest, defBody s_poly_rest, defScope s_poly_rest, [], []⟩,
  ⟨("undone_by", none), "undone_by", "undone_by", defArgs s_undone_by, defBody s_undone_by, defScope s_undone_by, [], []⟩,
  ⟨("poly_times", none), "poly_times", "poly_times", defArgs s_poly_times, defBody s_poly_times, defScope s_poly_times, [], []⟩,
  ⟨("poly_less", none), "poly_less", "poly_less", defArgs s_poly_less, defBody s_poly_less, defScope s_poly_less, [], []⟩,
  ⟨("are_apart", none), "are_apart", "are_apart", defArgs s_are_apart, defBody s_are_apart, defScope s_are_apart, [], []⟩,
  ⟨("letter_turns", none), "letter_turns", "letter_turns", defArgs s_letter_turns, defBody s_letter_turns, defScope s_letter_turns, [], []⟩,
  ⟨("is_single", none), "is_single", "is_single", defArgs s_is_single, defBody s_is_single, defScope s_is_single, [], []⟩,
  ⟨("is_prime", none), "is_prime", "is_prime", defArgs s_is_prime, defBody s_is_prime, defScope s_is_prime, [], []⟩,
  ⟨("want_prime", none), "want_prime", "want_prime", defArgs s_want_prime, defBody s_want_prime, defScope s_want_prime, [], []⟩,
  ⟨("is_figures", none), "is_figures", "is_figures", defArgs s_is_figures, defBody s_is_figures, defScope s_is_figures, [], []⟩,
  ⟨("is_right", none), "is_right", "is_right", defArgs s_is_right, defBody s_is_right, defScope s_is_right, [], []⟩,
  ⟨("told_number", none), "told_number", "told_number", defArgs s_told_number, defBody s_told_number, defScope s_told_number, [], []⟩,
  ⟨("poly_of", none), "poly_of", "poly_of", defArgs s_poly_of, defBody s_poly_of, defScope s_poly_of, [], []⟩,
  ⟨("powers_by", none), "powers_by", "powers_by", defArgs s_powers_by, defBody s_powers_by, defScope s_powers_by, [], []⟩,
  ⟨("all_powers", none), "all_powers", "all_powers", defArgs s_all_powers, defBody s_all_powers, defScope s_all_powers, [], []⟩,
  ⟨("logs_by", none), "logs_by", "logs_by", defArgs s_logs_by, defBody s_logs_by, defScope s_logs_by, [], []⟩,
  ⟨("sized", none), "sized", "sized", defArgs s_sized, defBody s_sized, defScope s_sized, [], []⟩,
  ⟨("want_field", none), "want_field", "want_field", defArgs s_want_field, defBody s_want_field, defScope s_want_field, [], []⟩,
  ⟨("figures_of", none), "figures_of", "figures_of", defArgs s_figures_of, defBody s_figures_of, defScope s_figures_of, [], []⟩,
  ⟨("by_figures_of", none), "by_figures_of", "by_figures_of", defArgs s_by_figures_of, defBody s_by_figures_of, defScope s_by_figures_of, [], []⟩,
  ⟨("plus_of", none), "plus_of", "plus_of", defArgs s_plus_of, defBody s_plus_of, defScope s_plus_of, [], []⟩,
  ⟨("minus_of", none), "minus_of", "minus_of", defArgs s_minus_of, defBody s_minus_of, defScope s_minus_of, [], []⟩,
  ⟨("times_of", none), "times_of", "times_of", defArgs s_times_of, defBody s_times_of, defScope s_times_of, [], []⟩,
  ⟨("over_of", none), "over_of", "over_of", defArgs s_over_of, defBody s_over_of, defScope s_over_of, [], []⟩]
def fn_1 : List He.DefD := [⟨("power_of", none), "power_of", "power_of", defArgs s_power_of, defBody s_power_of, defScope s_power_of, [], []⟩,
  ⟨("turned_of", none), "turned_of", "turned_of", defArgs s_turned_of, defBody s_turned_of, defScope s_turned_of, [], []⟩,
  ⟨("less_row", none), "less_row", "less_row", defArgs s_less_row, defBody s_less_row, defScope s_less_row, [], []⟩,
  ⟨("figure_steps", none), "figure_steps", "figure_steps", defArgs s_figure_steps, defBody s_figure_steps, defScope s_figure_steps, [], []⟩,
  ⟨("rows_rank", none), "rows_rank", "rows_rank", defArgs s_rows_rank, defBody s_rows_rank, defScope s_rows_rank, [], []⟩,
  ⟨("rank_of", none), "rank_of", "rank_of", defArgs s_rank_of, defBody s_rank_of, defScope s_rank_of, [], []⟩,
  ⟨("is_in", none), "is_in", "is_in", defArgs s_is_in, defBody s_is_in, defScope s_is_in, [], []⟩,
  ⟨("told_of", none), "told_of", "told_of", defArgs s_told_of, defBody s_told_of, defScope s_told_of, [], []⟩,
  ⟨("sum_turners", none), "sum_turners", "sum_turners", defArgs s_sum_turners, defBody s_sum_turners, defScope s_sum_turners, [], []⟩,
  ⟨("less_turners", none), "less_turners", "less_turners", defArgs s_less_turners, defBody s_less_turners, defScope s_less_turners, [], []⟩,
  ⟨("worth_of", none), "worth_of", "worth_of", defArgs s_worth_of, defBody s_worth_of, defScope s_worth_of, [], []⟩,
  ⟨("are_some", none), "are_some", "are_some", defArgs s_are_some, defBody s_are_some, defScope s_are_some, [], []⟩,
  ⟨("want_points", none), "want_points", "want_points", defArgs s_want_points, defBody s_want_points, defScope s_want_points, [], []⟩,
  ⟨("want_book", none), "want_book", "want_book", defArgs s_want_book, defBody s_want_book, defScope s_want_book, [], []⟩,
  ⟨("word_in", none), "word_in", "word_in", defArgs s_word_in, defBody s_word_in, defScope s_word_in, [], []⟩,
  ⟨("want_word", none), "want_word", "want_word", defArgs s_want_word, defBody s_want_word, defScope s_want_word, [], []⟩,
  ⟨("word_by", none), "word_by", "word_by", defArgs s_word_by, defBody s_word_by, defScope s_word_by, [], []⟩,
  ⟨("differences", none), "differences", "differences", defArgs s_differences, defBody s_differences, defScope s_differences, [], []⟩,
  ⟨("outer_parts", none), "outer_parts", "outer_parts", defArgs s_outer_parts, defBody s_outer_parts, defScope s_outer_parts, [], []⟩,
  ⟨("cleared", none), "cleared", "cleared", defArgs s_cleared, defBody s_cleared, defScope s_cleared, [], []⟩,
  ⟨("lone_solution", none), "lone_solution", "lone_solution", defArgs s_lone_solution, defBody s_lone_solution, defScope s_lone_solution, [], []⟩,
  ⟨("reach_of", none), "reach_of", "reach_of", defArgs s_reach_of, defBody s_reach_of, defScope s_reach_of, [], []⟩,
  ⟨("many_rows", none), "many_rows", "many_rows", defArgs s_many_rows, defBody s_many_rows, defScope s_many_rows, [], []⟩,
  ⟨("pair_row", none), "pair_row", "pair_row", defArgs s_pair_row, defBody s_pair_row, defScope s_pair_row, [], []⟩,
  ⟨("pair_of", none), "pair_of", "pair_of", defArgs s_pair_of, defBody s_pair_of, defScope s_pair_of, [], []⟩,
  ⟨("is_within_reach", none), "is_within_reach", "is_within_reach", defArgs s_is_within_reach, defBody s_is_within_reach, defScope s_is_within_reach, [], []⟩,
  ⟨("told_by_pair", none), "told_by_pair", "told_by_pair", defArgs s_told_by_pair, defBody s_told_by_pair, defScope s_told_by_pair, [], []⟩,
  ⟨("mended_by", none), "mended_by", "mended_by", defArgs s_mended_by, defBody s_mended_by, defScope s_mended_by, [], []⟩,
  ⟨("mended", none), "mended", "mended", defArgs s_mended, defBody s_mended, defScope s_mended, [], []⟩,
  ⟨("_law_pot", none), "_law_pot", "_law_pot", defArgs s_law_pot, defBody s_law_pot, defScope s_law_pot, [], []⟩]
def fn_2 : List He.DefD := [⟨("_law_draw", none), "_law_draw", "_law_draw", defArgs s_law_draw, defBody s_law_draw, defScope s_law_draw, [], []⟩,
  ⟨("_law_pick", none), "_law_pick", "_law_pick", defArgs s_law_pick, defBody s_law_pick, defScope s_law_pick, [], []⟩,
  ⟨("_law_figures", none), "_law_figures", "_law_figures", defArgs s_law_figures, defBody s_law_figures, defScope s_law_figures, [], []⟩,
  ⟨("_law_number", none), "_law_number", "_law_number", defArgs s_law_number, defBody s_law_number, defScope s_law_number, [], []⟩,
  ⟨("_law_slow", none), "_law_slow", "_law_slow", defArgs s_law_slow, defBody s_law_slow, defScope s_law_slow, [], []⟩,
  ⟨("_law_powers", none), "_law_powers", "_law_powers", defArgs s_law_powers, defBody s_law_powers, defScope s_law_powers, [], []⟩,
  ⟨("_law_world", none), "_law_world", "_law_world", defArgs s_law_world, defBody s_law_world, defScope s_law_world, [], []⟩,
  ⟨("_law_times", none), "_law_times", "_law_times", defArgs s_law_times, defBody s_law_times, defScope s_law_times, [], []⟩,
  ⟨("_law_plus", none), "_law_plus", "_law_plus", defArgs s_law_plus, defBody s_law_plus, defScope s_law_plus, [], []⟩,
  ⟨("_law_turned", none), "_law_turned", "_law_turned", defArgs s_law_turned, defBody s_law_turned, defScope s_law_turned, [], []⟩,
  ⟨("_law_worth", none), "_law_worth", "_law_worth", defArgs s_law_worth, defBody s_law_worth, defScope s_law_worth, [], []⟩,
  ⟨("_law_span", none), "_law_span", "_law_span", defArgs s_law_span, defBody s_law_span, defScope s_law_span, [], []⟩,
  ⟨("_law_trimmed", none), "_law_trimmed", "_law_trimmed", defArgs s_law_trimmed, defBody s_law_trimmed, defScope s_law_trimmed, [], []⟩,
  ⟨("_law_kind", none), "_law_kind", "_law_kind", defArgs s_law_kind, defBody s_law_kind, defScope s_law_kind, [], []⟩,
  ⟨("_law_free", none), "_law_free", "_law_free", defArgs s_law_free, defBody s_law_free, defScope s_law_free, [], []⟩,
  ⟨("_law_some", none), "_law_some", "_law_some", defArgs s_law_some, defBody s_law_some, defScope s_law_some, [], []⟩,
  ⟨("_law_word", none), "_law_word", "_law_word", defArgs s_law_word, defBody s_law_word, defScope s_law_word, [], []⟩,
  ⟨("_law_within", none), "_law_within", "_law_within", defArgs s_law_within, defBody s_law_within, defScope s_law_within, [], []⟩,
  ⟨("_law_spoilt", none), "_law_spoilt", "_law_spoilt", defArgs s_law_spoilt, defBody s_law_spoilt, defScope s_law_spoilt, [], []⟩,
  ⟨("_law_book", none), "_law_book", "_law_book", defArgs s_law_book, defBody s_law_book, defScope s_law_book, [], []⟩,
  ⟨("_law_made", none), "_law_made", "_law_made", defArgs s_law_made, defBody s_law_made, defScope s_law_made, [], []⟩,
  ⟨("_law_led_right", none), "_law_led_right", "_law_led_right", defArgs s_law_led_right, defBody s_law_led_right, defScope s_law_led_right, [], []⟩,
  ⟨("_law_moved_right", none), "_law_moved_right", "_law_moved_right", defArgs s_law_moved_right, defBody s_law_moved_right, defScope s_law_moved_right, [], []⟩,
  ⟨("_law_right", none), "_law_right", "_law_right", defArgs s_law_right, defBody s_law_right, defScope s_law_right, [], []⟩,
  ⟨("Field", some "__init__"), "__init__", "Field.__init__", defArgs s_Field_init, defBody s_Field_init, defScope s_Field_init, [], []⟩,
  ⟨("Book", some "__init__"), "__init__", "Book.__init__", defArgs s_Book_init, defBody s_Book_init, defScope s_Book_init, [], []⟩,
  ⟨("law", none), "law", "law", defArgs s_law, defBody s_law, defScope s_law, [], []⟩]
def fn : List He.DefD := fn_0 ++ fn_1 ++ fn_2
def fa_0 : List He.Fa := [.glo "is_integer",
  .glo "is_count",
  .glo "is_list",
  .glo "want_many",
  .glo "want_at_most",
  .glo "without_end",
  .glo "poly_rest",
  .glo "undone_by",
  .glo "poly_times",
  .glo "poly_less",
  .glo "are_apart",
  .glo "letter_turns",
  .glo "is_single",
  .glo "is_prime",
  .glo "want_prime",
  .glo "is_figures",
  .glo "is_right",
  .glo "told_number",
  .glo "poly_of",
  .glo "powers_by",
  .glo "all_powers",
  .glo "logs_by",
  .glo "sized",
  .glo "want_field",
  .glo "figures_of",
  .glo "by_figures_of",
  .glo "plus_of",
  .glo "minus_of",
  .glo "times_of",
  .glo "over_of"]
def fa_1 : List He.Fa := [.glo "power_of",
  .glo "turned_of",
  .glo "less_row",
  .glo "figure_steps",
  .glo "rows_rank",
  .glo "rank_of",
  .glo "is_in",
  .glo "told_of",
  .glo "sum_turners",
  .glo "less_turners",
  .glo "worth_of",
  .glo "are_some",
  .glo "want_points",
  .glo "want_book",
  .glo "word_in",
  .glo "want_word",
  .glo "word_by",
  .glo "differences",
  .glo "outer_parts",
  .glo "cleared",
  .glo "lone_solution",
  .glo "reach_of",
  .glo "many_rows",
  .glo "pair_row",
  .glo "pair_of",
  .glo "is_within_reach",
  .glo "told_by_pair",
  .glo "mended_by",
  .glo "mended",
  .glo "_law_pot"]
def fa_2 : List He.Fa := [.glo "_law_draw",
  .glo "_law_pick",
  .glo "_law_figures",
  .glo "_law_number",
  .glo "_law_slow",
  .glo "_law_powers",
  .glo "_law_world",
  .glo "_law_times",
  .glo "_law_plus",
  .glo "_law_turned",
  .glo "_law_worth",
  .glo "_law_span",
  .glo "_law_trimmed",
  .glo "_law_kind",
  .glo "_law_free",
  .glo "_law_some",
  .glo "_law_word",
  .glo "_law_within",
  .glo "_law_spoilt",
  .glo "_law_book",
  .glo "_law_made",
  .glo "_law_led_right",
  .glo "_law_moved_right",
  .glo "_law_right",
  .glo "law",
  .free "len",
  .free "range",
  .free "zip",
  .free "enumerate",
  .free "isinstance"]
def fa_3 : List He.Fa := [.free "int",
  .free "bool",
  .free "list",
  .free "tuple",
  .free "all",
  .free "max",
  .free "min",
  .free "abs",
  .free "divmod",
  .int "MOST_SIZE" 128,
  .int "MOST_TURNS" 12,
  .glo "PRIMES",
  .glo "Field",
  .cls "Field",
  .mkr "Field",
  .noat "Field" "own_prime",
  .noat "Field" "own_turns",
  .noat "Field" "own_size",
  .noat "Field" "own_modulus",
  .noat "Field" "own_powers",
  .noat "Field" "own_logs",
  .glo "Book",
  .cls "Book",
  .mkr "Book",
  .noat "Book" "own_field",
  .noat "Book" "own_points",
  .noat "Book" "own_many"]
def fa : List He.Fa := fa_0 ++ fa_1 ++ fa_2 ++ fa_3
def names_0 : List PySem.Str := ["TurnError",
  "LimitError",
  "InvalidBook",
  "InvalidField",
  "InvalidMany",
  "InvalidWord",
  "InvalidModulus",
  "InvalidPoints",
  "InvalidPrime",
  "TooMany",
  "is_integer",
  "is_count",
  "is_list",
  "want_many",
  "want_at_most",
  "PRIMES",
  "MOST_SIZE",
  "MOST_TURNS",
  "without_end",
  "poly_rest",
  "undone_by",
  "poly_times",
  "poly_less",
  "are_apart",
  "letter_turns",
  "is_single",
  "is_prime",
  "want_prime",
  "is_figures",
  "is_right"]
def names_1 : List PySem.Str := ["told_number",
  "poly_of",
  "powers_by",
  "all_powers",
  "logs_by",
  "sized",
  "Field",
  "want_field",
  "figures_of",
  "by_figures_of",
  "plus_of",
  "minus_of",
  "times_of",
  "over_of",
  "power_of",
  "turned_of",
  "less_row",
  "figure_steps",
  "rows_rank",
  "rank_of",
  "is_in",
  "told_of",
  "sum_turners",
  "less_turners",
  "worth_of",
  "are_some",
  "want_points",
  "Book",
  "want_book",
  "word_in"]
def names_2 : List PySem.Str := ["want_word",
  "word_by",
  "differences",
  "outer_parts",
  "cleared",
  "lone_solution",
  "reach_of",
  "many_rows",
  "pair_row",
  "pair_of",
  "is_within_reach",
  "told_by_pair",
  "mended_by",
  "mended",
  "_law_pot",
  "_law_draw",
  "_law_pick",
  "_law_figures",
  "_law_number",
  "_law_slow",
  "_law_powers",
  "_law_world",
  "_law_times",
  "_law_plus",
  "_law_turned",
  "_law_worth",
  "_law_span",
  "_law_trimmed",
  "_law_kind",
  "_law_free"]
def names_3 : List PySem.Str := ["_law_some",
  "_law_word",
  "_law_within",
  "_law_spoilt",
  "_law_book",
  "_law_made",
  "_law_led_right",
  "_law_moved_right",
  "_law_right"]
def names : List PySem.Str := names_0 ++ names_1 ++ names_2 ++ names_3
/-- what isinstance asks of an own class -/
def insB (K : PySem.W.Frag) (C : Addr) : Bool := He.eqO (PySem.W.findIn K (.ref C) "__class__") (some (some (.builtin "object.__class__"))) && (decide (PySem.W.specialIn K (.builtin "object.__class__") "__get__" = some (some (.builtin "getset_descriptor.__get__"))) && (decide (PySem.W.takesIn K (.builtin "object.__class__") = some true) &&
  (decide (PySem.W.mroIn K C (.type "object") = some true) && decide (PySem.W.kitOne K (.ref C) (.ref C) = some true))))
theorem insB_ok {K : PySem.W.Frag} {C : Addr} (cl : Cls K C) (h : insB K C = true) : C8.InsC K C := by
  obtain ⟨h1, h⟩ := ba h
  obtain ⟨h2, h⟩ := ba h
  obtain ⟨h3, h⟩ := ba h
  obtain ⟨h4, h5⟩ := ba h
  exact ⟨cl, He.eqO_ok h1, of_decide_eq_true h2, of_decide_eq_true h3, of_decide_eq_true h4, of_decide_eq_true h5⟩
def more (K : PySem.W.Frag) : Bool := insB K (CF K) && (insB K (CB K) && He.tupB K "PRIMES" [.int 2, .int 3, .int 5, .int 7])
abbrev Alx : Type := Bool × He.AlD
def obsX (K : PySem.W.Frag) : Alx := (more K, He.obsD fa fn K)
def valX : Alx := (true, He.valD fn)
/-- what the module's names reach, frontier by frontier -/
def stepF (g : Addr → Option Obj) (as : List Addr) : List Addr := (as.flatMap fun a => match g a with
  | some o => refsO o
  | none => []).eraseDups
def asF (g : Addr → Option Obj) : List Addr :=
  let a1 := stepF g [mainGlobals]
  let a2 := stepF g a1
  let a3 := stepF g a2
  let a4 := stepF g a3
  mainGlobals :: (a1 ++ a2 ++ a3 ++ a4)
def obsXG (g : Addr → Option Obj) : Alx := obsX (He.frG g (asF g))
def hk : PySem.W.Hook where
  α := Alx
  obs := fun s => obsXG s.heap.get?
  val := fun _ => valX
  says := fun _ h => ∃ K : PySem.W.Frag, K.In h ∧ obsX K = valX
  of := fun _ _ e => ⟨_, He.frG_in, e⟩
  keeps := fun _ _ _ ⟨K, hK, c⟩ k => ⟨K, PySem.W.Frag.In.keeps hK k, c⟩
def ob (s : PySem.W.SharedT) : Alx := obsXG (HandSHeadRun.getT s)
theorem ob_eq (s : PySem.W.SharedT) : ob s = hk.obs s.abs := by
  have e : HandSHeadRun.getT s = s.abs.heap.get? := funext (HandSHeadRun.getT_eq s)
  show obsXG (HandSHeadRun.getT s) = obsXG s.abs.heap.get?
  rw [e]
theorem run (w : World) : HandSHeadRun.RunEq R (PySem.W.view R.prog [110]) hk ob 60000 names w := by
  intro os
  kernel_rfl
end Tp
/-! What the run leaves, said as Txt. Printed by gen_facts.py. -/
namespace Tp
open PySem PySem.Spec PyProof.Rows L2 He
section
variable {K : PySem.W.Frag} {h : Heap} {mg : Str → Option Value}
theorem dat {x : Str} {st : Stmt} {i j : Nat} (X : K.In h) (G : h.Ns mainGlobals mg) (c2 : He.SaysD fa fn K) (hd : fn[i]? = some ⟨(x, none), x, x, defArgs st, defBody st, defScope st, [], []⟩) (hf : fa[j]? = some (.glo x)) : DefAt K mg x st := by
  obtain ⟨fd, F⟩ := c2.def_ i hd
  exact ⟨⟨_, fd, F, He.glo_ok X G (c2.fact j hf)⟩⟩
theorem law_at (X : K.In h) (G : h.Ns mainGlobals mg) (c : obsX K = valX) : DefAt K mg "law" s_law := dat (i := 86) (j := 84) X G (congrArg Prod.snd c) rfl rfl
theorem txt (X : K.In h) (G : h.Ns mainGlobals mg) (c : obsX K = valX) : Txt K mg := by
  have c2 : He.SaysD fa fn K := congrArg Prod.snd c
  have c1 : more K = true := congrArg Prod.fst c
  obtain ⟨m1, c1⟩ := ba c1
  obtain ⟨m2, m3⟩ := ba c1
  exact {
    d_is_integer := dat (i := 0) (j := 0) X G c2 rfl rfl
    d_is_count := dat (i := 1) (j := 1) X G c2 rfl rfl
    d_is_list := dat (i := 2) (j := 2) X G c2 rfl rfl
    d_want_at_most := dat (i := 4) (j := 4) X G c2 rfl rfl
    d_without_end := dat (i := 5) (j := 5) X G c2 rfl rfl
    d_poly_rest := dat (i := 6) (j := 6) X G c2 rfl rfl
    d_undone_by := dat (i := 7) (j := 7) X G c2 rfl rfl
    d_poly_times := dat (i := 8) (j := 8) X G c2 rfl rfl
    d_poly_less := dat (i := 9) (j := 9) X G c2 rfl rfl
    d_are_apart := dat (i := 10) (j := 10) X G c2 rfl rfl
    d_letter_turns := dat (i := 11) (j := 11) X G c2 rfl rfl
    d_is_single := dat (i := 12) (j := 12) X G c2 rfl rfl
    d_is_prime := dat (i := 13) (j := 13) X G c2 rfl rfl
    d_want_prime := dat (i := 14) (j := 14) X G c2 rfl rfl
    d_is_figures := dat (i := 15) (j := 15) X G c2 rfl rfl
    d_is_right := dat (i := 16) (j := 16) X G c2 rfl rfl
    d_told_number := dat (i := 17) (j := 17) X G c2 rfl rfl
    d_poly_of := dat (i := 18) (j := 18) X G c2 rfl rfl
    d_powers_by := dat (i := 19) (j := 19) X G c2 rfl rfl
    d_all_powers := dat (i := 20) (j := 20) X G c2 rfl rfl
    d_logs_by := dat (i := 21) (j := 21) X G c2 rfl rfl
    d_sized := dat (i := 22) (j := 22) X G c2 rfl rfl
    d_want_field := dat (i := 23) (j := 23) X G c2 rfl rfl
    d_figures_of := dat (i := 24) (j := 24) X G c2 rfl rfl
    d_by_figures_of := dat (i := 25) (j := 25) X G c2 rfl rfl
    d_plus_of := dat (i := 26) (j := 26) X G c2 rfl rfl
    d_minus_of := dat (i := 27) (j := 27) X G c2 rfl rfl
    d_times_of := dat (i := 28) (j := 28) X G c2 rfl rfl
    d_over_of := dat (i := 29) (j := 29) X G c2 rfl rfl
    d_power_of := dat (i := 30) (j := 30) X G c2 rfl rfl
    d_turned_of := dat (i := 31) (j := 31) X G c2 rfl rfl
    d_less_row := dat (i := 32) (j := 32) X G c2 rfl rfl
    d_figure_steps := dat (i := 33) (j := 33) X G c2 rfl rfl
    d_rows_rank := dat (i := 34) (j := 34) X G c2 rfl rfl
    d_rank_of := dat (i := 35) (j := 35) X G c2 rfl rfl
    d_is_in := dat (i := 36) (j := 36) X G c2 rfl rfl
    d_told_of := dat (i := 37) (j := 37) X G c2 rfl rfl
    d_sum_turners := dat (i := 38) (j := 38) X G c2 rfl rfl
    d_less_turners := dat (i := 39) (j := 39) X G c2 rfl rfl
    d_worth_of := dat (i := 40) (j := 40) X G c2 rfl rfl
    d_are_some := dat (i := 41) (j := 41) X G c2 rfl rfl
    d_want_points := dat (i := 42) (j := 42) X G c2 rfl rfl
    d_want_book := dat (i := 43) (j := 43) X G c2 rfl rfl
    d_word_in := dat (i := 44) (j := 44) X G c2 rfl rfl
    d_want_word := dat (i := 45) (j := 45) X G c2 rfl rfl
    d_word_by := dat (i := 46) (j := 46) X G c2 rfl rfl
    d_differences := dat (i := 47) (j := 47) X G c2 rfl rfl
    d_outer_parts := dat (i := 48) (j := 48) X G c2 rfl rfl
    d_cleared := dat (i := 49) (j := 49) X G c2 rfl rfl
    d_lone_solution := dat (i := 50) (j := 50) X G c2 rfl rfl
    d_reach_of := dat (i := 51) (j := 51) X G c2 rfl rfl
    d_many_rows := dat (i := 52) (j := 52) X G c2 rfl rfl
    d_pair_row := dat (i := 53) (j := 53) X G c2 rfl rfl
    d_pair_of := dat (i := 54) (j := 54) X G c2 rfl rfl
    d_is_within_reach := dat (i := 55) (j := 55) X G c2 rfl rfl
    d_told_by_pair := dat (i := 56) (j := 56) X G c2 rfl rfl
    d_mended_by := dat (i := 57) (j := 57) X G c2 rfl rfl
    d_mended := dat (i := 58) (j := 58) X G c2 rfl rfl
    d_law_pot := dat (i := 59) (j := 59) X G c2 rfl rfl
    d_law_draw := dat (i := 60) (j := 60) X G c2 rfl rfl
    d_law_pick := dat (i := 61) (j := 61) X G c2 rfl rfl
    d_law_figures := dat (i := 62) (j := 62) X G c2 rfl rfl
    d_law_number := dat (i := 63) (j := 63) X G c2 rfl rfl
    d_law_slow := dat (i := 64) (j := 64) X G c2 rfl rfl
    d_law_powers := dat (i := 65) (j := 65) X G c2 rfl rfl
    d_law_world := dat (i := 66) (j := 66) X G c2 rfl rfl
    d_law_times := dat (i := 67) (j := 67) X G c2 rfl rfl
    d_law_plus := dat (i := 68) (j := 68) X G c2 rfl rfl
    d_law_turned := dat (i := 69) (j := 69) X G c2 rfl rfl
    d_law_worth := dat (i := 70) (j := 70) X G c2 rfl rfl
    d_law_span := dat (i := 71) (j := 71) X G c2 rfl rfl
    d_law_trimmed := dat (i := 72) (j := 72) X G c2 rfl rfl
    d_law_kind := dat (i := 73) (j := 73) X G c2 rfl rfl
    d_law_free := dat (i := 74) (j := 74) X G c2 rfl rfl
    d_law_some := dat (i := 75) (j := 75) X G c2 rfl rfl
    d_law_word := dat (i := 76) (j := 76) X G c2 rfl rfl
    d_law_within := dat (i := 77) (j := 77) X G c2 rfl rfl
    d_law_spoilt := dat (i := 78) (j := 78) X G c2 rfl rfl
    d_law_book := dat (i := 79) (j := 79) X G c2 rfl rfl
    d_law_made := dat (i := 80) (j := 80) X G c2 rfl rfl
    d_law_led_right := dat (i := 81) (j := 81) X G c2 rfl rfl
    d_law_moved_right := dat (i := 82) (j := 82) X G c2 rfl rfl
    d_law_right := dat (i := 83) (j := 83) X G c2 rfl rfl
    d_want_many := by
      obtain ⟨fd, F⟩ := c2.def_ 3 (d := ⟨("want_many", none), "want_many", "want_many", defArgs s_want_many, defBody s_want_many, defScope s_want_many, [.non, .int 0], []⟩) rfl
      exact ⟨_, fd, F, He.glo_ok X G (c2.fact 3 (f := .glo "want_many") rfl)⟩
    b_len := He.free_ok X G (c2.fact 85 (f := .free "len") rfl)
    b_range := He.free_ok X G (c2.fact 86 (f := .free "range") rfl)
    b_zip := He.free_ok X G (c2.fact 87 (f := .free "zip") rfl)
    b_enumerate := He.free_ok X G (c2.fact 88 (f := .free "enumerate") rfl)
    b_isinstance := He.free_ok X G (c2.fact 89 (f := .free "isinstance") rfl)
    b_int := He.free_ok X G (c2.fact 90 (f := .free "int") rfl)
    b_bool := He.free_ok X G (c2.fact 91 (f := .free "bool") rfl)
    b_list := He.free_ok X G (c2.fact 92 (f := .free "list") rfl)
    b_tuple := He.free_ok X G (c2.fact 93 (f := .free "tuple") rfl)
    b_all := He.free_ok X G (c2.fact 94 (f := .free "all") rfl)
    b_max := He.free_ok X G (c2.fact 95 (f := .free "max") rfl)
    b_min := He.free_ok X G (c2.fact 96 (f := .free "min") rfl)
    b_abs := He.free_ok X G (c2.fact 97 (f := .free "abs") rfl)
    b_divmod := He.free_ok X G (c2.fact 98 (f := .free "divmod") rfl)
    k_MOST_SIZE := He.int_ok X G (c2.fact 99 (f := .int "MOST_SIZE" 128) rfl)
    k_MOST_TURNS := He.int_ok X G (c2.fact 100 (f := .int "MOST_TURNS" 12) rfl)
    k_PRIMES := He.glo_ok X G (c2.fact 101 (f := .glo "PRIMES") rfl)
    l_PRIMES := fun H => He.tupB_ok m3 H
    g_Field := He.glo_ok X G (c2.fact 102 (f := .glo "Field") rfl)
    i_Field := insB_ok (He.cls_ok (c2.fact 103 (f := .cls "Field") rfl)) m1
    m_Field := by
      obtain ⟨fd, F⟩ := c2.def_ 84 (d := ⟨("Field", some "__init__"), "__init__", "Field.__init__", defArgs s_Field_init, defBody s_Field_init, defScope s_Field_init, [], []⟩) rfl
      exact ⟨_, fd, He.mkr_ok (c2.fact 104 (f := .mkr "Field") rfl), F⟩
    g_Book := He.glo_ok X G (c2.fact 111 (f := .glo "Book") rfl)
    i_Book := insB_ok (He.cls_ok (c2.fact 112 (f := .cls "Book") rfl)) m2
    m_Book := by
      obtain ⟨fd, F⟩ := c2.def_ 85 (d := ⟨("Book", some "__init__"), "__init__", "Book.__init__", defArgs s_Book_init, defBody s_Book_init, defScope s_Book_init, [], []⟩) rfl
      exact ⟨_, fd, He.mkr_ok (c2.fact 113 (f := .mkr "Book") rfl), F⟩
    n_own_prime := He.noat_ok (c2.fact 105 (f := .noat "Field" "own_prime") rfl)
    n_own_turns := He.noat_ok (c2.fact 106 (f := .noat "Field" "own_turns") rfl)
    n_own_size := He.noat_ok (c2.fact 107 (f := .noat "Field" "own_size") rfl)
    n_own_modulus := He.noat_ok (c2.fact 108 (f := .noat "Field" "own_modulus") rfl)
    n_own_powers := He.noat_ok (c2.fact 109 (f := .noat "Field" "own_powers") rfl)
    n_own_logs := He.noat_ok (c2.fact 110 (f := .noat "Field" "own_logs") rfl)
    n_own_field := He.noat_ok (c2.fact 114 (f := .noat "Book" "own_field") rfl)
    n_own_points := He.noat_ok (c2.fact 115 (f := .noat "Book" "own_points") rfl)
    n_own_many := He.noat_ok (c2.fact 116 (f := .noat "Book" "own_many") rfl)
  }
end
end Tp
/-! Turn sums over a field with a turn: worths, spans, the root lemma. Plain Lean, no program in sight. -/
namespace Gab
open Lean.Grind (CommRing)

/-- a turn of a field: a map that goes along with sums and products, its way back, and how to divide -/
structure Trn (F : Type) [CommRing F] where
  s : F → F
  b : F → F
  inv : F → F
  add : ∀ x y, s (x + y) = s x + s y
  mul : ∀ x y, s (x * y) = s x * s y
  sb : ∀ x, s (b x) = x
  bs : ∀ x, b (s x) = x
  inv_mul : ∀ x, x ≠ 0 → x * inv x = 1
  ne : (0 : F) ≠ 1

section
variable {F : Type} [CommRing F] (T : Trn F)

theorem Trn.s0 : T.s 0 = 0 := by
  have h := T.add 0 0
  have e : (0 : F) + 0 = 0 := by grind
  rw [e] at h
  grind
theorem Trn.s1 : T.s 1 = 1 := by
  have h := T.mul 1 (T.b 1)
  rw [T.sb] at h
  have e : (1 : F) * T.b 1 = T.b 1 := by grind
  rw [e, T.sb] at h
  grind
theorem Trn.sneg (x : F) : T.s (-x) = - T.s x := by
  have h := T.add x (-x)
  have e : x + -x = 0 := by grind
  rw [e, T.s0] at h
  grind
theorem Trn.ssub (x y : F) : T.s (x - y) = T.s x - T.s y := by
  have e : x - y = x + -y := by grind
  rw [e, T.add, T.sneg]
  grind
theorem Trn.sz {x : F} (h : T.s x = 0) : x = 0 := by
  have := T.bs x
  rw [h] at this
  have h2 := T.bs 0
  rw [T.s0] at h2
  grind
theorem Trn.b0 : T.b 0 = 0 := by
  have := T.bs 0
  rwa [T.s0] at this
theorem Trn.badd (x y : F) : T.b (x + y) = T.b x + T.b y := by
  have h : T.s (T.b x + T.b y) = x + y := by rw [T.add, T.sb, T.sb]
  rw [← h, T.bs]
theorem Trn.bmul (x y : F) : T.b (x * y) = T.b x * T.b y := by
  have h : T.s (T.b x * T.b y) = x * y := by rw [T.mul, T.sb, T.sb]
  rw [← h, T.bs]
include T in
theorem Trn.cancel {a x y : F} (ha : a ≠ 0) (h : a * x = a * y) : x = y := by
  have := T.inv_mul a ha
  grind
include T in
theorem Trn.nzd {a x : F} (ha : a ≠ 0) (h : a * x = 0) : x = 0 := by
  have := T.inv_mul a ha
  grind
theorem Trn.sinv {x : F} (h : x ≠ 0) : T.s (T.inv x) * T.s x = 1 := by
  rw [← T.mul]
  have e : T.inv x * x = 1 := by
    have := T.inv_mul x h
    grind
  rw [e, T.s1]
theorem Trn.invne {x : F} (h : x ≠ 0) : T.inv x ≠ 0 := by
  intro e
  have := T.inv_mul x h
  rw [e] at this
  have h2 := T.ne
  grind
theorem Trn.sne {x : F} (h : x ≠ 0) : T.s x ≠ 0 := fun e => h (T.sz e)

/-- the elements that stay -/
def Sc (c : F) : Prop := T.s c = c
variable {T}
theorem Sc.zero : Sc T 0 := T.s0
theorem Sc.one : Sc T 1 := T.s1
theorem Sc.add {c d : F} (h : Sc T c) (k : Sc T d) : Sc T (c + d) := by unfold Sc at *; rw [T.add, h, k]
theorem Sc.mul {c d : F} (h : Sc T c) (k : Sc T d) : Sc T (c * d) := by unfold Sc at *; rw [T.mul, h, k]
theorem Sc.neg {c : F} (h : Sc T c) : Sc T (-c) := by unfold Sc at *; rw [T.sneg, h]
theorem Sc.inv {c : F} (h : Sc T c) (hc : c ≠ 0) : Sc T (T.inv c) := by
  unfold Sc at *
  have h1 := T.sinv hc
  rw [h] at h1
  have h2 := T.inv_mul c hc
  exact T.cancel (a := c) hc (by grind)

variable (T)
/-- the worth of a turn sum at an element -/
def W : List F → F → F
  | [], _ => 0
  | c :: f, x => c * x + W f (T.s x)
theorem W_add (f : List F) : ∀ x y, W T f (x + y) = W T f x + W T f y := by
  induction f with
  | nil => intro x y; simp only [W]; grind
  | cons c f ih => intro x y; simp only [W, T.add, ih]; grind
theorem W_mul (f : List F) {c : F} (hc : Sc T c) : ∀ x, W T f (c * x) = c * W T f x := by
  induction f with
  | nil => intro x; simp only [W]; grind
  | cons d f ih =>
    intro x
    simp only [W, T.mul]
    rw [show T.s c = c from hc, ih]
    grind
theorem W_zero (f : List F) : W T f 0 = 0 := by
  have := W_add T f 0 0
  have e : (0 : F) + 0 = 0 := by grind
  rw [e] at this
  grind
theorem W_neg (f : List F) (x : F) : W T f (-x) = - W T f x := by
  have := W_add T f x (-x)
  have e : x + -x = 0 := by grind
  rw [e, W_zero] at this
  grind
theorem W_sub (f : List F) (x y : F) : W T f (x - y) = W T f x - W T f y := by
  have e : x - y = x + -y := by grind
  rw [e, W_add, W_neg]
  grind
/-- all numbers 0 -/
def Zs (f : List F) : Prop := ∀ c ∈ f, c = 0
theorem Zs.W {f : List F} (h : Zs f) : ∀ x, W T f x = 0 := by
  induction f with
  | nil => intro x; rfl
  | cons c f ih =>
    intro x
    simp only [Gab.W]
    rw [ih (fun d hd => h d (List.mem_cons_of_mem _ hd)), h c List.mem_cons_self]
    grind
theorem W_append (f g : List F) (hg : Zs g) : ∀ x, W T (f ++ g) x = W T f x := by
  induction f with
  | nil => intro x; exact hg.W T x
  | cons c f ih => intro x; simp only [List.cons_append, W, ih]
theorem W_zipAdd : ∀ (f g : List F), f.length = g.length → ∀ x, W T (List.zipWith (· + ·) f g) x = W T f x + W T g x
  | [], [], _, x => by simp only [List.zipWith_nil_left, W]; grind
  | c :: f, d :: g, h, x => by
    simp only [List.zipWith_cons_cons, W, W_zipAdd f g (by simpa using h)]
    grind
theorem W_zipSub : ∀ (f g : List F), f.length = g.length → ∀ x, W T (List.zipWith (· - ·) f g) x = W T f x - W T g x
  | [], [], _, x => by simp only [List.zipWith_nil_left, W]; grind
  | c :: f, d :: g, h, x => by
    simp only [List.zipWith_cons_cons, W, W_zipSub f g (by simpa using h)]
    grind
theorem W_mapMul (u : F) (f : List F) : ∀ x, W T (f.map (u * ·)) x = u * W T f x := by
  induction f with
  | nil => intro x; simp only [List.map_nil, W]; grind
  | cons c f ih => intro x; simp only [List.map_cons, W, ih]; grind
theorem W_mapS (f : List F) : ∀ x, W T (f.map T.s) (T.s x) = T.s (W T f x) := by
  induction f with
  | nil => intro x; simp only [List.map_nil, W]; exact T.s0.symm
  | cons c f ih => intro x; simp only [List.map_cons, W, ih, T.add, T.mul]

/-- the mixtures of some elements -/
def Sp : List F → F → Prop
  | [], x => x = 0
  | v :: vs, x => ∃ c, Sc T c ∧ Sp vs (x - c * v)
variable {T}
theorem Sp.zero : ∀ {vs : List F}, Sp T vs 0
  | [] => rfl
  | v :: vs => ⟨0, Sc.zero, by
      have e : (0 : F) - 0 * v = 0 := by grind
      rw [e]; exact Sp.zero⟩
theorem Sp.add : ∀ {vs : List F} {x y : F}, Sp T vs x → Sp T vs y → Sp T vs (x + y)
  | [], x, y, h, k => by simp only [Sp] at *; grind
  | v :: vs, x, y, ⟨c, hc, h⟩, ⟨d, hd, k⟩ => ⟨c + d, hc.add hd, by
      have e : x + y - (c + d) * v = (x - c * v) + (y - d * v) := by grind
      rw [e]; exact h.add k⟩
theorem Sp.mul : ∀ {vs : List F} {a x : F}, Sc T a → Sp T vs x → Sp T vs (a * x)
  | [], a, x, _, h => by simp only [Sp] at *; rw [h]; grind
  | v :: vs, a, x, ha, ⟨c, hc, h⟩ => ⟨a * c, ha.mul hc, by
      have e : a * x - a * c * v = a * (x - c * v) := by grind
      rw [e]; exact h.mul ha⟩
theorem Sp.neg {vs : List F} {x : F} (h : Sp T vs x) : Sp T vs (-x) := by
  have e : -x = (-1) * x := by grind
  rw [e]; exact h.mul (Sc.one.neg)
theorem Sp.sub {vs : List F} {x y : F} (h : Sp T vs x) (k : Sp T vs y) : Sp T vs (x - y) := by
  have e : x - y = x + -y := by grind
  rw [e]; exact h.add k.neg
theorem Sp.tail {v : F} {vs : List F} {x : F} (h : Sp T vs x) : Sp T (v :: vs) x :=
  ⟨0, Sc.zero, by
    have e : x - 0 * v = x := by grind
    rw [e]; exact h⟩
theorem Sp.head {v : F} {vs : List F} : Sp T (v :: vs) v :=
  ⟨1, Sc.one, by
    have e : v - 1 * v = 0 := by grind
    rw [e]; exact Sp.zero⟩
theorem Sp.mem : ∀ {vs : List F} {v : F}, v ∈ vs → Sp T vs v
  | w :: vs, v, h => by
    rcases List.mem_cons.mp h with rfl | h
    · exact Sp.head
    · exact (Sp.mem h).tail
theorem Sp.trans : ∀ {vs ws : List F} {x : F}, (∀ v ∈ vs, Sp T ws v) → Sp T vs x → Sp T ws x
  | [], ws, x, _, h => by simp only [Sp] at h; rw [h]; exact Sp.zero
  | v :: vs, ws, x, k, ⟨c, hc, h⟩ => by
    have h1 := Sp.trans (fun u hu => k u (List.mem_cons_of_mem _ hu)) h
    have h2 := (k v List.mem_cons_self).mul hc
    have e : x = (x - c * v) + c * v := by grind
    rw [e]; exact h1.add h2
/-- a map that goes along with sums and with multiples by elements that stay -/
structure Lin (T : Trn F) (L : F → F) : Prop where
  add : ∀ x y, L (x + y) = L x + L y
  mul : ∀ c x, Sc T c → L (c * x) = c * L x
theorem Lin.zero {L : F → F} (l : Lin T L) : L 0 = 0 := by
  have h := l.add 0 0
  have e : (0 : F) + 0 = 0 := by grind
  rw [e] at h
  grind
theorem Lin.neg {L : F → F} (l : Lin T L) (x : F) : L (-x) = - L x := by
  have h := l.add x (-x)
  have e : x + -x = 0 := by grind
  rw [e, l.zero] at h
  grind
theorem Lin.sub {L : F → F} (l : Lin T L) (x y : F) : L (x - y) = L x - L y := by
  have e : x - y = x + -y := by grind
  rw [e, l.add, l.neg]
  grind
theorem Lin.W (f : List F) : Lin T (W T f) := ⟨W_add T f, fun _ x hc => W_mul T f hc x⟩
theorem Lin.times (a : F) : Lin T (a * ·) := ⟨fun x y => by grind, fun c x _ => by grind⟩
theorem Lin.s : Lin T T.s := ⟨T.add, fun c x hc => by rw [T.mul, show T.s c = c from hc]⟩
theorem Lin.b : Lin T T.b := ⟨T.badd, fun c x hc => by
  rw [T.bmul]
  have e : T.b c = c := by
    have := T.bs c
    rwa [show T.s c = c from hc] at this
  rw [e]⟩
theorem Sp.map {L : F → F} (l : Lin T L) : ∀ {vs : List F} {x : F}, Sp T vs x → Sp T (vs.map L) (L x)
  | [], x, h => by simp only [Sp] at h; rw [h]; exact l.zero
  | v :: vs, x, ⟨c, hc, h⟩ => ⟨c, hc, by
      have := Sp.map l h
      rw [l.sub, l.mul c v hc] at this
      exact this⟩
theorem Sp.unmap {L : F → F} (l : Lin T L) : ∀ {vs : List F} {z : F}, Sp T (vs.map L) z → ∃ y, Sp T vs y ∧ z = L y
  | [], z, h => ⟨0, rfl, by simp only [List.map_nil, Sp] at h; rw [h, l.zero]⟩
  | v :: vs, z, ⟨c, hc, h⟩ => by
    obtain ⟨y, hy, e⟩ := Sp.unmap l h
    refine ⟨y + c * v, ⟨c, hc, ?_⟩, ?_⟩
    · have e : y + c * v - c * v = y := by grind
      rw [e]; exact hy
    · rw [l.add, l.mul c v hc, ← e]
      grind

variable (T)
/-- each one is no mixture of those behind it -/
def Fr : List F → Prop
  | [] => True
  | a :: as => ¬ Sp T as a ∧ Fr as
/-- some are mixtures of r elements -/
def RankLe (r : Nat) (es : List F) : Prop := ∃ vs : List F, vs.length ≤ r ∧ ∀ e ∈ es, Sp T vs e
/-- no fewer elements hold them all -/
def Indep (as : List F) : Prop := ∀ vs : List F, (∀ b ∈ as, Sp T vs b) → as.length ≤ vs.length
/-- r is the rank -/
def IsRank (es : List F) (r : Nat) : Prop := RankLe T r es ∧ ∀ t, RankLe T t es → r ≤ t
variable {T}
theorem Indep.tail {a : F} {as : List F} (h : Indep T (a :: as)) : Indep T as := fun vs k => by
  have := h (a :: vs) (fun b hb => by
    rcases List.mem_cons.mp hb with rfl | hb
    · exact Sp.head
    · exact (k b hb).tail)
  simpa using this
theorem Indep.fr : ∀ {as : List F}, Indep T as → Fr T as
  | [], _ => trivial
  | a :: as, h => ⟨fun k => by
      have := h as (fun b hb => by
        rcases List.mem_cons.mp hb with rfl | hb
        · exact k
        · exact Sp.mem hb)
      simp at this
      omega, Indep.fr h.tail⟩
theorem Fr.drop : ∀ (n : Nat) {as : List F}, Fr T as → Fr T (as.drop n)
  | 0, _, h => h
  | _ + 1, [], h => h
  | n + 1, _ :: as, h => Fr.drop n h.2

/-! ### the turn sum of the degree 1 that is 0 at w: turned once, less so much of it -/
variable (T)
def u1 (w : F) : F := T.s w * T.inv w
def L1 (w : F) (x : F) : F := T.s x - u1 T w * x
variable {T}
theorem L1.lin {w : F} : Lin T (L1 T w) := ⟨fun x y => by unfold L1; rw [T.add]; grind, fun c x hc => by
  unfold L1; rw [T.mul, show T.s c = c from hc]; grind⟩
theorem L1.self {w : F} (hw : w ≠ 0) : L1 T w w = 0 := by
  unfold L1 u1
  have := T.inv_mul w hw
  grind
/-- its roots are w's multiples by elements that stay -/
theorem L1.root {w x : F} (hw : w ≠ 0) (h : L1 T w x = 0) : ∃ c, Sc T c ∧ x = c * w := by
  refine ⟨T.inv w * x, ?_, ?_⟩
  · unfold Sc
    rw [T.mul]
    unfold L1 u1 at h
    have h1 := T.sinv hw
    have h2 := T.inv_mul w hw
    have e : T.s x = T.s w * T.inv w * x := by grind
    rw [e]
    grind
  · have := T.inv_mul w hw
    grind

/-- divided from the inside by turned once less u times: quotient and rest -/
def rd (T : Trn F) : F → F → List F → List F × F
  | _, d, [] => ([], d)
  | u, d, d1 :: D => ((rd T (T.s u) d1 D).2 :: (rd T (T.s u) d1 D).1, (rd T (T.s u) d1 D).2 * u + d)
theorem rd_len : ∀ (D : List F) (u d : F), (rd T u d D).1.length = D.length
  | [], _, _ => rfl
  | d1 :: D, u, d => by simp only [rd, List.length_cons, rd_len D]
theorem rd_W : ∀ (D : List F) (u d x : F), W T (d :: D) x = W T (rd T u d D).1 (T.s x - u * x) + (rd T u d D).2 * x
  | [], u, d, x => by simp only [rd, W]; grind
  | d1 :: D, u, d, x => by
    have ih := rd_W D (T.s u) d1 (T.s x)
    have e : T.s (T.s x) - T.s u * T.s x = T.s (T.s x - u * x) := by rw [T.ssub, T.mul]
    rw [e] at ih
    simp only [rd, W]
    simp only [W] at ih
    rw [ih]
    grind
theorem rd_zs : ∀ (D : List F) (u d : F), Zs (rd T u d D).1 → (rd T u d D).2 = 0 → Zs (d :: D)
  | [], u, d, _, h => by
    intro c hc
    simp only [rd] at h
    simp at hc
    rw [hc, h]
  | d1 :: D, u, d, hz, h => by
    simp only [rd] at hz h
    have h0 : (rd T (T.s u) d1 D).2 = 0 := hz _ List.mem_cons_self
    have ih := rd_zs D (T.s u) d1 (fun c hc => hz c (List.mem_cons_of_mem _ hc)) h0
    intro c hc
    rcases List.mem_cons.mp hc with rfl | hc
    · rw [h0] at h
      grind
    · exact ih c hc

theorem Fr.map1 {w : F} (hw : w ≠ 0) : ∀ {bs : List F}, ¬ Sp T bs w → Fr T bs → Fr T (bs.map (L1 T w))
  | [], _, _ => trivial
  | b :: bs, hn, h => by
    have hn' : ¬ Sp T bs w := fun k => hn k.tail
    refine ⟨fun k => ?_, Fr.map1 hw hn' h.2⟩
    obtain ⟨y, hy, e⟩ := Sp.unmap L1.lin k
    have e0 : L1 T w (b - y) = 0 := by rw [L1.lin.sub, e]; grind
    obtain ⟨c, hc, e1⟩ := L1.root hw e0
    by_cases h0 : c = 0
    · have : b = y := by rw [h0] at e1; grind
      rw [this] at h
      exact h.1 hy
    · refine hn ⟨T.inv c, hc.inv h0, ?_⟩
      have e2 : w - T.inv c * b = -(T.inv c * y) := by
        have := T.inv_mul c h0
        grind
      rw [e2]
      exact (hy.mul (hc.inv h0)).neg

/-- a turn sum of so many numbers that is 0 at as many free elements is nought -/
theorem root0 : ∀ (D : List F) (as : List F), Fr T as → D.length ≤ as.length → (∀ a ∈ as, W T D a = 0) → Zs D
  | [], _, _, _, _ => fun c hc => by simp at hc
  | d :: D, [], _, hl, _ => by simp at hl
  | d :: D, a :: as, hf, hl, hz => by
    have ha : a ≠ 0 := fun e => hf.1 (by rw [e]; exact Sp.zero)
    have hr := rd_W (T := T) D (u1 T a) d
    have hc : (rd T (u1 T a) d D).2 = 0 := by
      have h1 := hr a
      rw [hz a List.mem_cons_self] at h1
      have h2 : T.s a - u1 T a * a = 0 := L1.self ha
      rw [h2, W_zero] at h1
      refine T.nzd ha ?_
      grind
    refine rd_zs D (u1 T a) d ?_ hc
    refine root0 _ (as.map (L1 T a)) (Fr.map1 ha hf.1 hf.2) (by rw [rd_len]; simpa using hl) fun x hx => ?_
    obtain ⟨y, hy, rfl⟩ := List.mem_map.mp hx
    have h1 := hr y
    rw [hz y (List.mem_cons_of_mem _ hy), hc] at h1
    show W T _ (T.s y - u1 T a * y) = 0
    grind
  termination_by D => D.length
  decreasing_by rw [rd_len]; simp

/-- L1 of a turn sum -/
def pc (T : Trn F) (u : F) (e : F) (D : List F) : List F := List.zipWith (· - ·) (e :: D.map T.s) (D.map (u * ·) ++ [0])
theorem pc_len (u e : F) (D : List F) : (pc T u e D).length = D.length + 1 := by simp [pc]
theorem pc_zs (u : F) : ∀ (D : List F) (e : F), Zs (pc T u e D) → Zs D ∧ e = 0
  | [], e, h => ⟨fun c hc => by simp at hc, by
      have := h (e - 0) (by simp [pc])
      grind⟩
  | d :: D, e, h => by
    have h' : Zs (pc T u (T.s d) D) := fun c hc => h c (by
      simp only [pc, List.map_cons, List.cons_append, List.zipWith_cons_cons]
      exact List.mem_cons_of_mem _ hc)
    obtain ⟨h1, h2⟩ := pc_zs u D (T.s d) h'
    have hd : d = 0 := T.sz h2
    have h3 : e - u * d = 0 := h _ (by
      simp only [pc, List.map_cons, List.cons_append, List.zipWith_cons_cons]
      exact List.mem_cons_self)
    refine ⟨fun c hc => ?_, by rw [hd] at h3; grind⟩
    rcases List.mem_cons.mp hc with rfl | hc
    · exact hd
    · exact h1 c hc
theorem pc_W (u : F) (D : List F) (x : F) : W T (pc T u 0 D) x = T.s (W T D x) - u * W T D x := by
  unfold pc
  rw [W_zipSub T _ _ (by simp), W_append T _ _ (by intro c hc; simpa using hc), W_mapMul]
  have e : W T (0 :: D.map T.s) x = T.s (W T D x) := by
    simp only [W]
    rw [W_mapS]
    grind
  rw [e]

/-- THE ROOT LEMMA: a turn sum of m numbers that leads m + r free elements to mixtures of r elements is nought -/
theorem rootR : ∀ (vs : List F) (D as : List F), Fr T as → D.length + vs.length ≤ as.length → (∀ a ∈ as, Sp T vs (W T D a)) → Zs D
  | [], D, as, hf, hl, h => root0 D as hf (by simpa using hl) h
  | w :: vs, D, as, hf, hl, h => by
    by_cases hw : w = 0
    · refine rootR vs D as hf (by simp at hl; omega) fun a ha => ?_
      obtain ⟨c, _, k⟩ := h a ha
      rw [hw] at k
      have e : W T D a - c * 0 = W T D a := by grind
      rwa [e] at k
    · have hz : Zs (pc T (u1 T w) 0 D) := by
        refine rootR (vs.map (L1 T w)) _ as hf (by rw [pc_len]; simp at hl ⊢; omega) fun a ha => ?_
        obtain ⟨c, hc, k⟩ := h a ha
        have k2 := Sp.map (L1.lin (T := T) (w := w)) k
        rw [L1.lin.sub, L1.lin.mul c w hc, L1.self hw] at k2
        have e : L1 T w (W T D a) - c * 0 = W T (pc T (u1 T w) 0 D) a := by
          rw [pc_W]
          unfold L1
          grind
        rwa [e] at k2
      exact (pc_zs _ _ _ hz).1
  termination_by vs => vs.length
  decreasing_by all_goals simp

theorem Fr.indep {as : List F} (h : Fr T as) : Indep T as := fun vs k => by
  by_cases hl : as.length ≤ vs.length
  · exact hl
  · have := rootR vs [1] as h (by simp; omega) fun a ha => by
      have e : W T [1] a = a := by simp only [W]; grind
      rw [e]; exact k a ha
    exact absurd (this 1 (by simp)).symm T.ne
end
end Gab
/-! Words mended: what the pair's division gives, and how it goes along. -/
namespace Gab
open Lean.Grind (CommRing)
section
variable {F : Type} [CommRing F] (T : Trn F)

/-! ### lists of numbers -/
/-- the number at a position, 0 behind the end -/
def co (f : List F) (i : Nat) : F := f.getD i 0
theorem co_nil (i : Nat) : co ([] : List F) i = 0 := by simp [co]
theorem co_zero (c : F) (f : List F) : co (c :: f) 0 = c := by simp [co]
theorem co_succ (c : F) (f : List F) (i : Nat) : co (c :: f) (i + 1) = co f i := by simp [co]
theorem co_out {f : List F} {i : Nat} (h : f.length ≤ i) : co f i = 0 := by simp [co, List.getElem?_eq_none h]
theorem co_lt {f : List F} {i : Nat} (h : i < f.length) : co f i = f[i] := by simp [co, h]
theorem Zs.co {f : List F} (h : Zs f) (i : Nat) : co f i = 0 := by
  by_cases hi : i < f.length
  · rw [co_lt hi]; exact h _ (List.getElem_mem hi)
  · exact co_out (by omega)
theorem zs_of_co {f : List F} (h : ∀ i, co f i = 0) : Zs f := fun c hc => by
  obtain ⟨i, hi, rfl⟩ := List.mem_iff_getElem.mp hc
  rw [← co_lt hi]; exact h i

/-- the sum, the longer one's rest behind -/
def ladd : List F → List F → List F
  | [], g => g
  | c :: f, [] => c :: f
  | c :: f, d :: g => (c + d) :: ladd f g
theorem ladd_nil (f : List F) : ladd f [] = f := by cases f <;> rfl
theorem ladd_co : ∀ (f g : List F) (i : Nat), co (ladd f g) i = co f i + co g i
  | [], g, i => by simp only [ladd, co_nil]; grind
  | c :: f, [], i => by simp only [ladd, co_nil]; grind
  | c :: f, d :: g, 0 => by simp only [ladd, co_zero]
  | c :: f, d :: g, i + 1 => by simp only [ladd, co_succ, ladd_co f g i]
theorem ladd_len : ∀ (f g : List F), (ladd f g).length = max f.length g.length
  | [], g => by simp [ladd]
  | c :: f, [] => by simp [ladd]
  | c :: f, d :: g => by simp only [ladd, List.length_cons, ladd_len f g]; omega
theorem ladd_comm : ∀ (f g : List F), ladd f g = ladd g f
  | [], g => by rw [ladd_nil]; rfl
  | c :: f, [] => rfl
  | c :: f, d :: g => by simp only [ladd, ladd_comm f g]; congr 1; grind
theorem ladd_W : ∀ (f g : List F) (x : F), W T (ladd f g) x = W T f x + W T g x
  | [], g, x => by simp only [ladd, W]; grind
  | c :: f, [], x => by simp only [ladd, W]; grind
  | c :: f, d :: g, x => by simp only [ladd, W, ladd_W f g]; grind
/-- the sum as the program makes it: the shorter one's sums, then the longer one's rest -/
theorem ladd_zip : ∀ (f g : List F), g.length ≤ f.length → ladd f g = List.zipWith (· + ·) f g ++ f.drop g.length
  | [], [], _ => rfl
  | c :: f, [], _ => by simp [ladd]
  | c :: f, d :: g, h => by
    simp only [ladd, List.zipWith_cons_cons, List.length_cons, List.drop_succ_cons, List.cons_append]
    rw [ladd_zip f g (by simpa using h)]
def lneg (f : List F) : List F := f.map fun c => -c
theorem lneg_W (f : List F) : ∀ x, W T (lneg f) x = - W T f x := by
  induction f with
  | nil => intro x; simp only [lneg, List.map_nil, W]; grind
  | cons c f ih =>
    intro x
    simp only [lneg, List.map_cons, W] at ih ⊢
    rw [ih]; grind
theorem lneg_co (f : List F) (i : Nat) : co (lneg f) i = - co f i := by
  by_cases h : i < f.length
  · rw [co_lt (by simpa [lneg] using h), co_lt h]; simp [lneg]
  · rw [co_out (by simp [lneg]; omega), co_out (by omega)]; grind
theorem lneg_len (f : List F) : (lneg f).length = f.length := by simp [lneg]
def lsub (f g : List F) : List F := ladd f (lneg g)
theorem lsub_W (f g : List F) (x : F) : W T (lsub f g) x = W T f x - W T g x := by
  unfold lsub; rw [ladd_W, lneg_W]; grind
theorem lsub_co (f g : List F) (i : Nat) : co (lsub f g) i = co f i - co g i := by
  unfold lsub; rw [ladd_co, lneg_co]; grind
theorem lsub_len (f g : List F) : (lsub f g).length = max f.length g.length := by
  unfold lsub; rw [ladd_len, lneg_len]

/-! ### told: no 0 at the end -/
def Told (f : List F) : Prop := f.getLast? ≠ some 0
variable [DecidableEq F]
/-- without the noughts at the end -/
def tld : List F → List F
  | [] => []
  | c :: f => match tld f with
    | [] => if c = 0 then [] else [c]
    | d :: g => c :: d :: g
theorem tld_nil_iff : ∀ {f : List F}, tld f = [] ↔ Zs f
  | [] => by simp [tld, Zs]
  | c :: f => by
    unfold tld
    cases h : tld f with
    | nil =>
      have hz := (tld_nil_iff (f := f)).mp h
      by_cases hc : c = 0
      · simp only [hc, if_true]
        exact ⟨fun _ d hd => by
          rcases List.mem_cons.mp hd with rfl | hd
          · rfl
          · exact hz d hd, fun _ => trivial⟩
      · simp only [hc, if_false]
        exact ⟨fun q => (List.cons_ne_nil _ _ q).elim, fun q => absurd (q c List.mem_cons_self) hc⟩
    | cons d g =>
      refine ⟨fun q => (List.cons_ne_nil _ _ q).elim, fun q => ?_⟩
      have := (tld_nil_iff (f := f)).mpr fun e he => q e (List.mem_cons_of_mem _ he)
      rw [h] at this; cases this
theorem tld_co : ∀ (f : List F) (i : Nat), co (tld f) i = co f i
  | [], i => rfl
  | c :: f, i => by
    unfold tld
    have ih := tld_co f
    cases h : tld f with
    | nil =>
      have hz := (tld_nil_iff (f := f)).mp h
      by_cases hc : c = 0
      · simp only [hc, if_true, co_nil]
        cases i with
        | zero => rw [co_zero]
        | succ i => rw [co_succ, hz.co]
      · simp only [hc, if_false]
        cases i with
        | zero => rw [co_zero, co_zero]
        | succ i => rw [co_succ, co_succ, co_nil, hz.co]
    | cons d g =>
      rw [h] at ih
      cases i with
      | zero => simp only [co_zero]
      | succ i => simp only [co_succ c]; exact ih i
theorem tld_told : ∀ (f : List F), Told (tld f)
  | [] => by simp [Told, tld]
  | c :: f => by
    unfold tld
    have ih := tld_told f
    cases h : tld f with
    | nil =>
      by_cases hc : c = 0
      · simp [hc, Told]
      · simp [hc, Told]
    | cons d g =>
      rw [h] at ih
      simpa [Told] using ih
theorem tld_len : ∀ (f : List F), (tld f).length ≤ f.length
  | [] => Nat.le_refl _
  | c :: f => by
    unfold tld
    have ih := tld_len f
    cases h : tld f with
    | nil => by_cases hc : c = 0 <;> simp [hc]
    | cons d g =>
      rw [h] at ih
      simp at ih ⊢; omega
omit [DecidableEq F] in
theorem W_co (f : List F) : ∀ (g : List F), (∀ i, co f i = co g i) → ∀ x, W T f x = W T g x := by
  induction f with
  | nil =>
    intro g h x
    have z : Zs g := zs_of_co fun i => by rw [← h i, co_nil]
    rw [z.W T x]; rfl
  | cons c f ih =>
    intro g h x
    cases g with
    | nil => rw [Zs.W T (zs_of_co fun i => by rw [h i, co_nil]) x]; rfl
    | cons d g =>
      have h0 := h 0
      rw [co_zero, co_zero] at h0
      simp only [W]
      rw [h0, ih g (fun i => by have := h (i + 1); rwa [co_succ, co_succ] at this)]
theorem tld_W (f : List F) (x : F) : W T (tld f) x = W T f x := W_co T _ _ (tld_co f) x
omit [DecidableEq F] in
theorem Told.last {f : List F} (h : Told f) (hn : f ≠ []) : co f (f.length - 1) ≠ 0 := by
  intro e
  have hl : f.length - 1 < f.length := by
    have := List.length_pos_iff.mpr hn
    omega
  rw [co_lt hl] at e
  apply h
  rw [List.getLast?_eq_getElem?, List.getElem?_eq_getElem hl, e]
omit [DecidableEq F] in
theorem told_of_last {f : List F} (h : co f (f.length - 1) ≠ 0) : Told f := by
  intro e
  rw [List.getLast?_eq_getElem?] at e
  apply h
  simp [co, e]
omit [DecidableEq F] in
theorem Told.zs {f : List F} (h : Told f) (z : Zs f) : f = [] := by
  by_cases hn : f = []
  · exact hn
  · exact absurd (z.co _) (h.last hn)
omit [DecidableEq F] in
theorem Told.ext {f g : List F} (hf : Told f) (hg : Told g) (h : ∀ i, co f i = co g i) : f = g := by
  have hl : ∀ {f g : List F}, Told f → (∀ i, co f i = co g i) → f.length ≤ g.length := by
    intro f g hf h
    by_cases hn : f = []
    · rw [hn]; exact Nat.zero_le _
    · have h1 := hf.last hn
      rw [h] at h1
      have := List.length_pos_iff.mpr hn
      by_cases q : f.length - 1 < g.length
      · omega
      · exact absurd (co_out (by omega)) h1
  have e := Nat.le_antisymm (hl hf h) (hl hg fun i => (h i).symm)
  refine List.ext_getElem e fun i h1 h2 => ?_
  rw [← co_lt h1, ← co_lt h2, h i]
theorem tld_id {f : List F} (h : Told f) : tld f = f := (tld_told f).ext h (tld_co f)
theorem tld_eq {f g : List F} (h : ∀ i, co f i = co g i) : tld f = tld g :=
  (tld_told f).ext (tld_told g) fun i => by rw [tld_co, tld_co, h i]
/-- a list that ends with 0 is shorter told -/
theorem tld_lt {f : List F} (hn : f ≠ []) (h : co f (f.length - 1) = 0) : (tld f).length < f.length := by
  have := tld_len f
  have hp := List.length_pos_iff.mpr hn
  by_cases e : (tld f).length = f.length
  · have h1 := tld_co f (f.length - 1)
    rw [h] at h1
    have hn2 : tld f ≠ [] := List.ne_nil_of_length_pos (by omega)
    have h2 := (tld_told f).last hn2
    rw [e] at h2
    exact absurd h1 h2
  · omega

/-! ### turned many times; put in -/
omit [DecidableEq F]
/-- turned so many times -/
def pw : Nat → F → F
  | 0, x => x
  | n + 1, x => pw n (T.s x)
theorem pw_add (m n : Nat) : ∀ x, pw T (m + n) x = pw T n (pw T m x) := by
  induction m with
  | zero => intro x; rw [Nat.zero_add]; rfl
  | succ m ih => intro x; rw [Nat.add_right_comm]; simp only [pw]; exact ih _
theorem pw_out (n : Nat) : ∀ x, pw T (n + 1) x = T.s (pw T n x) := by
  intro x; rw [pw_add]; rfl
theorem pw_zero (n : Nat) : pw T n 0 = 0 := by
  induction n with
  | zero => rfl
  | succ n ih => simp only [pw, T.s0, ih]
theorem pw_mul (n : Nat) : ∀ x y, pw T n (x * y) = pw T n x * pw T n y := by
  induction n with
  | zero => intro x y; rfl
  | succ n ih => intro x y; simp only [pw, T.mul, ih]
theorem pw_addE (n : Nat) : ∀ x y, pw T n (x + y) = pw T n x + pw T n y := by
  induction n with
  | zero => intro x y; rfl
  | succ n ih => intro x y; simp only [pw, T.add, ih]
theorem pw_eq_zero {n : Nat} : ∀ {x : F}, pw T n x = 0 → x = 0 := by
  induction n with
  | zero => intro x h; exact h
  | succ n ih => intro x h; exact T.sz (ih h)
/-- f of y x -/
def tw : List F → F → List F
  | [], _ => []
  | c :: f, y => c * y :: tw f (T.s y)
theorem tw_W (f : List F) : ∀ y x, W T (tw T f y) x = W T f (y * x) := by
  induction f with
  | nil => intro y x; rfl
  | cons c f ih => intro y x; simp only [tw, W, ih, T.mul]; grind
theorem tw_len (f : List F) : ∀ y, (tw T f y).length = f.length := by
  induction f with
  | nil => intro y; rfl
  | cons c f ih => intro y; simp only [tw, List.length_cons, ih]
theorem tw_co (f : List F) : ∀ y i, co (tw T f y) i = co f i * pw T i y := by
  induction f with
  | nil => intro y i; simp only [tw, co_nil]; grind
  | cons c f ih =>
    intro y i
    cases i with
    | zero => simp only [tw, co_zero, pw]
    | succ i => simp only [tw, co_succ, ih, pw]
theorem tw_told {f : List F} {y : F} (hy : y ≠ 0) (h : Told f) : Told (tw T f y) := by
  by_cases hn : f = []
  · rw [hn]; simp [tw, Told]
  · refine told_of_last fun e => ?_
    rw [tw_len, tw_co] at e
    have h1 := h.last hn
    exact hy (pw_eq_zero T (T.nzd h1 e))
/-- V of g -/
def cmp (V : List F) : List F → List F
  | [] => []
  | c :: g => ladd (tw T V c) (0 :: cmp V g)
theorem cmp_W (V : List F) : ∀ (g : List F) x, W T (cmp T V g) x = W T V (W T g x)
  | [], x => by simp only [cmp, W]; rw [W_zero]
  | c :: g, x => by
    simp only [cmp]
    rw [ladd_W, tw_W]
    simp only [W]
    rw [cmp_W V g, W_add]
    grind
theorem cmp_len {V : List F} (hV : V ≠ []) : ∀ g : List F, (cmp T V g).length ≤ V.length + g.length - 1
  | [] => by simp [cmp]
  | c :: g => by
    simp only [cmp]
    rw [ladd_len, tw_len]
    have := cmp_len hV g
    have h2 := List.length_pos_iff.mpr hV
    simp only [List.length_cons]
    omega
theorem cmp_co (V : List F) (c : F) (g : List F) (i : Nat) : co (cmp T V (c :: g)) (i + 1) = co V (i + 1) * pw T (i + 1) c + co (cmp T V g) i := by
  simp only [cmp]; rw [ladd_co, tw_co, co_succ]
theorem cmp_co0 (V : List F) (c : F) (g : List F) : co (cmp T V (c :: g)) 0 = co V 0 * c := by
  simp only [cmp]; rw [ladd_co, tw_co, co_zero]; simp only [pw]; grind
/-- V of g has numbers below V's degree alone only if g is nought -/
theorem cmp_zs {V : List F} (hV : V ≠ []) (ht : Told V) : ∀ (g : List F), (∀ i, V.length - 1 ≤ i → co (cmp T V g) i = 0) → Zs g
  | [], _ => fun c hc => by simp at hc
  | c :: g, h => by
    have hp := List.length_pos_iff.mpr hV
    have hg : Zs g := cmp_zs hV ht g fun i hi => by
      have h1 := h (i + 1) (by omega)
      rw [cmp_co, co_out (f := V) (by omega)] at h1
      grind
    have hc0 : ∀ i, co (cmp T V g) i = 0 := by
      intro i
      have z : Zs (cmp T V g) := by
        clear h
        revert hg
        induction g with
        | nil => intro _ d hd; simp [cmp] at hd
        | cons e g ih =>
          intro hg
          have he : e = 0 := hg e List.mem_cons_self
          refine zs_of_co fun i => ?_
          have ih' := ih fun d hd => hg d (List.mem_cons_of_mem _ hd)
          cases i with
          | zero => rw [cmp_co0, he]; grind
          | succ i => rw [cmp_co, he, pw_zero, ih'.co]; grind
      exact z.co i
    have h1 := h (V.length - 1) (Nat.le_refl _)
    have h2 := ht.last hV
    have hc : c = 0 := by
      cases hl : V.length - 1 with
      | zero =>
        rw [hl] at h1 h2
        rw [cmp_co0] at h1
        exact T.nzd h2 h1
      | succ m =>
        rw [hl] at h1 h2
        rw [cmp_co, hc0] at h1
        refine pw_eq_zero T (n := m + 1) (T.nzd h2 ?_)
        grind
    intro d hd
    rcases List.mem_cons.mp hd with rfl | hd
    · exact hc
    · exact hg d hd

/-! ### words, books -/
/-- the differences of a word and the worths at the points -/
def dif (pts word f : List F) : List F := List.zipWith (fun r a => r - W T f a) word pts
structure Within (pts word : List F) (k t : Nat) (f : List F) : Prop where
  len : f.length ≤ k
  told : Told f
  near : RankLe T t (dif T pts word f)
def Mend (pts word : List F) (k t : Nat) : Option (List F) → Prop
  | some f => Within T pts word k t f
  | none => ∀ f, ¬ Within T pts word k t f
variable {T}
theorem dif_mem {pts word f : List F} {i : Nat} (h1 : i < word.length) (h2 : i < pts.length) : word[i] - W T f pts[i] ∈ dif T pts word f := by
  unfold dif
  refine List.mem_iff_getElem.mpr ⟨i, by simp; omega, by simp⟩
theorem mem_dif {pts word f : List F} {e : F} (h : e ∈ dif T pts word f) : ∃ (i : Nat) (h1 : i < word.length) (h2 : i < pts.length), e = word[i] - W T f pts[i] := by
  unfold dif at h
  obtain ⟨i, hi, rfl⟩ := List.mem_iff_getElem.mp h
  simp at hi
  exact ⟨i, by omega, by omega, by simp⟩
theorem Indep.take {as : List F} (h : Indep T as) (n : Nat) : Indep T (as.take n) := fun vs k => by
  have := h (vs ++ as.drop n) fun b hb => by
    rw [← List.take_append_drop n as] at hb
    rcases List.mem_append.mp hb with hb | hb
    · exact Sp.trans (fun v hv => Sp.mem (List.mem_append_left _ hv)) (k b hb)
    · exact Sp.mem (List.mem_append_right _ hb)
  simp at this ⊢
  omega
/-- at most one is within reach -/
theorem Within.uniq {pts word : List F} {k t : Nat} {f g : List F} (hp : Indep T pts) (hw : word.length = pts.length) (hk : k + 2 * t ≤ pts.length)
    (hf : Within T pts word k t f) (hg : Within T pts word k t g) : f = g := by
  obtain ⟨vs, hv, kv⟩ := hf.near
  obtain ⟨us, hu, ku⟩ := hg.near
  have hl := hf.len
  have hl2 := hg.len
  have hz : Zs (lsub f g) := by
    refine rootR (us ++ vs) _ pts hp.fr (by rw [lsub_len]; simp; omega) fun a ha => ?_
    obtain ⟨i, hi, rfl⟩ := List.mem_iff_getElem.mp ha
    have h1 := kv _ (dif_mem (f := f) (show i < word.length by omega) hi)
    have h2 := ku _ (dif_mem (f := g) (show i < word.length by omega) hi)
    have e : W T (lsub f g) pts[i] = (word[i] - W T g pts[i]) - (word[i] - W T f pts[i]) := by rw [lsub_W]; grind
    rw [e]
    exact (Sp.trans (fun v hv => Sp.mem (List.mem_append_left _ hv)) h2).sub (Sp.trans (fun v hv => Sp.mem (List.mem_append_right _ hv)) h1)
  refine hf.told.ext hg.told fun i => ?_
  have := hz.co i
  rw [lsub_co] at this
  grind

/-- what a division from the outside is to give -/
structure Div (T : Trn F) (N V q rest : List F) : Prop where
  eq : ∀ x, W T N x = W T V (W T q x) + W T rest x
  lt : rest.length < V.length
  tr : Told rest
  tq : Told q
  len : q = [] ∨ q.length + V.length = N.length + 1
/-- a pair of a word -/
structure Pair (T : Trn F) (pts word : List F) (k t : Nat) (V N : List F) : Prop where
  lV : V.length ≤ t + 1
  lN : N.length ≤ k + t
  tV : Told V
  tN : Told N
  anyN : V ≠ [] ∨ N ≠ []
  goes : ∀ (i : Nat) (h1 : i < word.length) (h2 : i < pts.length), i < k + 2 * t → W T V word[i] = W T N pts[i]
section
variable {pts word : List F} {k t : Nat} {V N : List F}
theorem Pair.ne (hp : Indep T pts) (hw : word.length = pts.length) (hk : k + 2 * t ≤ pts.length) (h : Pair T pts word k t V N) : V ≠ [] := by
  intro e
  have hl := h.lN
  have hz : Zs N := by
    refine root0 N (pts.take (k + 2 * t)) (hp.take _).fr (by simp; omega) fun a ha => ?_
    obtain ⟨i, hi, rfl⟩ := List.mem_iff_getElem.mp ha
    simp at hi
    have := h.goes i (by omega) (by omega) (by omega)
    rw [e] at this
    simp only [W] at this
    simp [← this]
  have := h.tN.zs hz
  rcases h.anyN with q | q
  · exact q e
  · exact q this
/-- from any pair comes what is within reach -/
theorem Pair.div (hp : Indep T pts) (hw : word.length = pts.length) (hk : k + 2 * t ≤ pts.length) (h : Pair T pts word k t V N) {q rest : List F} (d : Div T N V q rest)
    {f : List F} (hf : Within T pts word k t f) : q = f ∧ rest = [] := by
  have hV := h.ne hp hw hk
  have hVp := List.length_pos_iff.mpr hV
  have lN := h.lN
  have lV := h.lV
  have lf := hf.len
  obtain ⟨vs, hv, kv⟩ := hf.near
  have hlen := cmp_len T hV f
  have hz : Zs (lsub N (cmp T V f)) := by
    refine rootR (vs.map (W T V)) _ (pts.take (k + 2 * t)) (hp.take _).fr ?_ fun a ha => ?_
    · rw [lsub_len]; simp; omega
    · obtain ⟨i, hi, rfl⟩ := List.mem_iff_getElem.mp ha
      simp at hi
      have h1 := h.goes i (by omega) (by omega) (by omega)
      have h2 := kv _ (dif_mem (f := f) (show i < word.length by omega) (show i < pts.length by omega))
      have e : W T (lsub N (cmp T V f)) (pts.take (k + 2 * t))[i] = W T V (word[i] - W T f pts[i]) := by
        rw [lsub_W, cmp_W, W_sub, h1]
        simp
      rw [e]
      exact Sp.map (Lin.W V) h2
  have hN : ∀ x, W T N x = W T V (W T f x) := fun x => by
    have := hz.W T x
    rw [lsub_W, cmp_W] at this
    grind
  have hq : q.length + V.length ≤ k + t + 1 := by
    rcases d.len with e | e
    · rw [e]; simp; omega
    · omega
  have hcg := cmp_len T hV (lsub f q)
  have hlt := d.lt
  have hgl := lsub_len f q
  have hz2 : Zs (lsub (cmp T V (lsub f q)) rest) := by
    refine root0 _ pts hp.fr ?_ fun a _ => ?_
    · rw [lsub_len]; omega
    · rw [lsub_W, cmp_W, lsub_W, W_sub, ← hN, d.eq]; grind
  have hg : Zs (lsub f q) := cmp_zs T hV h.tV _ fun i hi => by
    have := hz2.co i
    rw [lsub_co, co_out (f := rest) (by omega)] at this
    grind
  have efq : q = f := d.tq.ext hf.told fun i => by
    have := hg.co i
    rw [lsub_co] at this
    grind
  refine ⟨efq, d.tr.zs ?_⟩
  refine root0 _ pts hp.fr (by omega) fun a _ => ?_
  have h1 := d.eq a
  rw [hN, efq] at h1
  grind
/-- THE MENDED: what the division of a pair leads to -/
theorem Pair.mend (hp : Indep T pts) (hw : word.length = pts.length) (hk : k + 2 * t ≤ pts.length) (h : Pair T pts word k t V N) {q rest : List F} (d : Div T N V q rest) :
    (rest = [] → q.length ≤ k → RankLe T t (dif T pts word q) → Mend T pts word k t (some q)) ∧ (¬ (rest = [] ∧ q.length ≤ k ∧ RankLe T t (dif T pts word q)) → Mend T pts word k t none) := by
  refine ⟨fun _ h2 h3 => ⟨h2, d.tq, h3⟩, fun hn f hf => hn ?_⟩
  obtain ⟨e, e2⟩ := h.div hp hw hk d hf
  rw [e]
  exact ⟨e2, hf.len, hf.near⟩
end

/-! ### how it goes along -/
theorem mend_map {pts word pts' word' : List F} {k t : Nat} (φ : List F → List F) (hp : Indep T pts') (hw : word'.length = pts'.length) (hk : k + 2 * t ≤ pts'.length)
    (h1 : ∀ f, Within T pts word k t f → Within T pts' word' k t (φ f)) (h2 : ∀ g, Within T pts' word' k t g → ∃ f, Within T pts word k t f)
    {o o' : Option (List F)} (m : Mend T pts word k t o) (m' : Mend T pts' word' k t o') : o' = o.map φ := by
  cases o with
  | none =>
    cases o' with
    | none => rfl
    | some g =>
      obtain ⟨f, hf⟩ := h2 g m'
      exact (m f hf).elim
  | some f =>
    cases o' with
    | none => exact (m' _ (h1 f m)).elim
    | some g => exact congrArg some (Within.uniq hp hw hk m' (h1 f m))
theorem RankLe.of {r : Nat} {es es' : List F} (h : RankLe T r es) (L : F → F) (l : Lin T L) (k : ∀ e ∈ es', ∃ d ∈ es, e = L d) : RankLe T r es' := by
  obtain ⟨vs, hv, kv⟩ := h
  refine ⟨vs.map L, by simpa using hv, fun e he => ?_⟩
  obtain ⟨d, hd, rfl⟩ := k e he
  exact Sp.map l (kv d hd)
theorem RankLe.sub {r : Nat} {es es' : List F} (h : RankLe T r es) (k : ∀ e ∈ es', e ∈ es) : RankLe T r es' := by
  obtain ⟨vs, hv, kv⟩ := h
  exact ⟨vs, hv, fun e he => kv e (k e he)⟩
theorem Indep.map {as : List F} (h : Indep T as) {L M : F → F} (l : Lin T M) (hM : ∀ x, M (L x) = x) : Indep T (as.map L) := fun vs k => by
  have := h (vs.map M) fun b hb => by
    have := Sp.map l (k (L b) (List.mem_map_of_mem hb))
    rwa [hM] at this
  simpa using this
theorem Indep.sub {as bs : List F} (h : Indep T as) (hl : bs.length = as.length) (k : ∀ vs, (∀ b ∈ bs, Sp T vs b) → ∀ a ∈ as, Sp T vs a) : Indep T bs := fun vs q => by
  rw [hl]; exact h vs (k vs q)
end
end Gab
/-! The seven ways along which mending goes. -/
namespace Gab
open Lean.Grind (CommRing)
section
variable {F : Type} [CommRing F] [DecidableEq F] {T : Trn F} {pts word : List F} {k t : Nat}

/-- a word of the book added -/
theorem mend_plus (other : List F) (ho : other.length ≤ k) (hp : Indep T pts) (hw : word.length = pts.length) (hk : k + 2 * t ≤ pts.length) {o o' : Option (List F)}
    (m : Mend T pts word k t o) (m' : Mend T pts (List.zipWith (· + ·) word (pts.map (W T other))) k t o') : o' = o.map fun f => tld (ladd f other) := by
  have key : ∀ (w : List F) (g : List F), (∀ x, W T g x = W T other x) → dif T pts (List.zipWith (· + ·) w (pts.map (W T g))) (tld (ladd w g)) = dif T pts (List.zipWith (· + ·) w (pts.map (W T g))) (tld (ladd w g)) := fun _ _ _ => rfl
  clear key
  have e1 : ∀ f : List F, ∀ d ∈ dif T pts (List.zipWith (· + ·) word (pts.map (W T other))) (tld (ladd f other)), d ∈ dif T pts word f := by
    intro f d hd
    obtain ⟨i, h1, h2, rfl⟩ := mem_dif hd
    simp at h1
    rw [tld_W, ladd_W]
    have e : (List.zipWith (· + ·) word (pts.map (W T other)))[i]'(by simp; omega) - (W T f pts[i] + W T other pts[i]) = word[i] - W T f pts[i] := by
      simp; grind
    rw [e]
    exact dif_mem (by omega) h2
  have e2 : ∀ g : List F, ∀ d ∈ dif T pts word (tld (lsub g other)), d ∈ dif T pts (List.zipWith (· + ·) word (pts.map (W T other))) g := by
    intro g d hd
    obtain ⟨i, h1, h2, rfl⟩ := mem_dif hd
    rw [tld_W, lsub_W]
    have e : word[i] - (W T g pts[i] - W T other pts[i]) = (List.zipWith (· + ·) word (pts.map (W T other)))[i]'(by simp; omega) - W T g pts[i] := by
      simp; grind
    rw [e]
    exact dif_mem (by simp; omega) h2
  refine mend_map (fun f => tld (ladd f other)) hp (by simp; omega) hk (fun f hf => ⟨?_, tld_told _, hf.near.sub (e1 f)⟩) (fun g hg => ⟨tld (lsub g other), ?_, tld_told _, hg.near.sub (e2 g)⟩) m m'
  · have := tld_len (ladd f other)
    have h2 := hf.len
    rw [ladd_len] at this; omega
  · have := tld_len (lsub g other)
    have h2 := hg.len
    rw [lsub_len] at this; omega
omit [DecidableEq F] in
theorem Told.map {f : List F} (h : Told f) {L : F → F} (hL : ∀ x, L x = 0 → x = 0) : Told (f.map L) := by
  intro e
  rw [List.getLast?_map] at e
  cases q : f.getLast? with
  | none => rw [q] at e; cases e
  | some c =>
    rw [q] at e
    have := hL c (Option.some.inj e)
    exact h (by rw [q, this])
omit [DecidableEq F]
/-- times an element -/
theorem mend_times {a : F} (ha : a ≠ 0) (hp : Indep T pts) (hw : word.length = pts.length) (hk : k + 2 * t ≤ pts.length) {o o' : Option (List F)}
    (m : Mend T pts word k t o) (m' : Mend T pts (word.map (a * ·)) k t o') : o' = o.map fun f => f.map (a * ·) := by
  have hi := T.inv_mul a ha
  refine mend_map (fun f => f.map (a * ·)) hp (by simpa using hw) hk (fun f hf => ⟨by simpa using hf.len, hf.told.map fun x e => T.nzd ha e, hf.near.of (a * ·) (Lin.times a) fun e he => ?_⟩)
    (fun g hg => ⟨g.map (T.inv a * ·), by simpa using hg.len, hg.told.map fun x e => T.nzd (T.invne ha) e, hg.near.of (T.inv a * ·) (Lin.times _) fun e he => ?_⟩) m m'
  · obtain ⟨i, h1, h2, rfl⟩ := mem_dif he
    simp at h1
    refine ⟨_, dif_mem (f := f) h1 h2, ?_⟩
    rw [W_mapMul]; simp; grind
  · obtain ⟨i, h1, h2, rfl⟩ := mem_dif he
    refine ⟨_, dif_mem (f := g) (by simpa using h1) h2, ?_⟩
    rw [W_mapMul]; simp; grind
/-- all turned -/
theorem mend_turn (hp : Indep T pts) (hw : word.length = pts.length) (hk : k + 2 * t ≤ pts.length) {o o' : Option (List F)}
    (m : Mend T pts word k t o) (m' : Mend T (pts.map T.s) (word.map T.s) k t o') : o' = o.map fun f => f.map T.s := by
  refine mend_map (fun f => f.map T.s) (hp.map Lin.b T.bs) (by simpa using hw) (by simpa using hk) (fun f hf => ⟨by simpa using hf.len, hf.told.map fun x e => T.sz e, hf.near.of T.s Lin.s fun e he => ?_⟩)
    (fun g hg => ⟨g.map T.b, by simpa using hg.len, hg.told.map fun x e => ?_, hg.near.of T.b Lin.b fun e he => ?_⟩) m m'
  · obtain ⟨i, h1, h2, rfl⟩ := mem_dif he
    simp at h1 h2
    refine ⟨_, dif_mem (f := f) h1 h2, ?_⟩
    simp only [List.getElem_map]
    rw [W_mapS, T.ssub]
  · have := T.sb x
    rw [e, T.s0] at this
    exact this.symm
  · obtain ⟨i, h1, h2, rfl⟩ := mem_dif he
    refine ⟨_, dif_mem (f := g) (by simpa using h1) (by simpa using h2), ?_⟩
    simp only [List.getElem_map]
    have e : g = (g.map T.b).map T.s := by
      rw [List.map_map]
      have : T.s ∘ T.b = id := funext fun x => T.sb x
      rw [this, List.map_id]
    have e2 : W T g (T.s pts[i]) = T.s (W T (g.map T.b) pts[i]) := by
      conv => lhs; rw [e]
      rw [W_mapS]
    rw [e2, ← T.ssub, T.bs]
theorem indep_turn (hp : Indep T pts) : Indep T (pts.map T.s) := hp.map Lin.b T.bs
/-- points times an element -/
theorem indep_times {a : F} (ha : a ≠ 0) (hp : Indep T pts) : Indep T (pts.map (a * ·)) :=
  hp.map (M := (T.inv a * ·)) (Lin.times _) fun x => by
    have := T.inv_mul a ha
    grind
theorem mend_points {a b : F} (hab : a * b = 1) (hp : Indep T pts) (hw : word.length = pts.length) (hk : k + 2 * t ≤ pts.length) {o o' : Option (List F)}
    (m : Mend T pts word k t o) (m' : Mend T (pts.map (a * ·)) word k t o') : o' = o.map fun f => tw T f b := by
  have ne := T.ne
  have ha : a ≠ 0 := fun e => by rw [e] at hab; grind
  have hb : b ≠ 0 := fun e => by rw [e] at hab; grind
  refine mend_map (fun f => tw T f b) (indep_times ha hp) (by simpa using hw) (by simpa using hk) (fun f hf => ⟨by rw [tw_len]; exact hf.len, tw_told T hb hf.told, hf.near.sub fun e he => ?_⟩)
    (fun g hg => ⟨tw T g a, by rw [tw_len]; exact hg.len, tw_told T ha hg.told, hg.near.sub fun e he => ?_⟩) m m'
  · obtain ⟨i, h1, h2, rfl⟩ := mem_dif he
    simp at h2
    rw [tw_W]
    have e : word[i] - W T f (b * (pts.map (a * ·))[i]'(by simpa using h2)) = word[i] - W T f pts[i] := by
      congr 2; simp; grind
    rw [e]
    exact dif_mem h1 h2
  · obtain ⟨i, h1, h2, rfl⟩ := mem_dif he
    rw [tw_W]
    have e : word[i] - W T g (a * pts[i]) = word[i] - W T g ((pts.map (a * ·))[i]'(by simpa using h2)) := by simp
    rw [e]
    exact dif_mem h1 (by simpa using h2)
/-- in another sequence -/
def along (seq : List Nat) (as : List F) : List F := seq.map (co as)
theorem indep_along {seq : List Nat} (hs : seq.Perm (List.range pts.length)) (hp : Indep T pts) : Indep T (along seq pts) :=
  hp.sub (by simp [along, hs.length_eq]) fun vs k a ha => by
    obtain ⟨i, hi, rfl⟩ := List.mem_iff_getElem.mp ha
    have := k (co pts i) (List.mem_map_of_mem (hs.mem_iff.mpr (List.mem_range.mpr hi)))
    rwa [co_lt hi] at this
theorem mend_along {seq : List Nat} (hs : seq.Perm (List.range pts.length)) (hp : Indep T pts) (hw : word.length = pts.length) (hk : k + 2 * t ≤ pts.length) {o o' : Option (List F)}
    (m : Mend T pts word k t o) (m' : Mend T (along seq pts) (along seq word) k t o') : o' = o := by
  have hl : seq.length = pts.length := by simpa using hs.length_eq
  have h1 : ∀ f : List F, ∀ d ∈ dif T (along seq pts) (along seq word) f, d ∈ dif T pts word f := by
    intro f d hd
    obtain ⟨i, h1, h2, rfl⟩ := mem_dif hd
    simp [along] at h1
    have hb : seq[i] < pts.length := by
      have := hs.mem_iff.mp (List.getElem_mem (l := seq) h1)
      simpa using this
    have e : (along seq word)[i]'(by simpa [along] using h1) - W T f ((along seq pts)[i]'(by simpa [along] using h1)) = word[seq[i]]'(by omega) - W T f pts[seq[i]] := by
      simp only [along, List.getElem_map]
      rw [co_lt (show seq[i] < word.length by omega), co_lt hb]
    rw [e]
    exact dif_mem (by omega) hb
  have h2 : ∀ f : List F, ∀ d ∈ dif T pts word f, d ∈ dif T (along seq pts) (along seq word) f := by
    intro f d hd
    obtain ⟨j, h1, h2, rfl⟩ := mem_dif hd
    obtain ⟨i, hi, e⟩ := List.mem_iff_getElem.mp (hs.mem_iff.mpr (List.mem_range.mpr h2))
    have e : word[j] - W T f pts[j] = (along seq word)[i]'(by simpa [along] using hi) - W T f ((along seq pts)[i]'(by simpa [along] using hi)) := by
      simp only [along, List.getElem_map]
      rw [co_lt (show seq[i] < word.length by omega), co_lt (show seq[i] < pts.length by omega)]
      simp only [e]
    rw [e]
    exact dif_mem (by simpa [along] using hi) (by simpa [along] using hi)
  have := mend_map id (indep_along hs hp) (by simp [along]) (by simp [along]; omega) (fun f hf => ⟨hf.len, hf.told, hf.near.sub (h1 f)⟩) (fun g hg => ⟨g, hg.len, hg.told, hg.near.sub (h2 g)⟩) m m'
  rw [this]; simp
/-- one point added to another one -/
theorem indep_added {i j : Nat} {c : F} (hi : i < pts.length) (hj : j < pts.length) (hij : i ≠ j) (hc : Sc T c) (hp : Indep T pts) : Indep T (pts.set i (co pts i + c * co pts j)) :=
  hp.sub (by simp) fun vs q a ha => by
    have hj' : Sp T vs (co pts j) := by
      refine q _ (List.mem_iff_getElem.mpr ⟨j, by simpa using hj, ?_⟩)
      rw [List.getElem_set_ne hij, co_lt hj]
    obtain ⟨m, hm, rfl⟩ := List.mem_iff_getElem.mp ha
    by_cases e : i = m
    · subst e
      have h1 := q (co pts i + c * co pts j) (List.mem_iff_getElem.mpr ⟨i, by simpa using hi, by simp⟩)
      have h2 := h1.sub (hj'.mul hc)
      rw [← co_lt hi]
      have e : co pts i + c * co pts j - c * co pts j = co pts i := by grind
      rwa [e] at h2
    · refine q _ (List.mem_iff_getElem.mpr ⟨m, by simpa using hm, ?_⟩)
      rw [List.getElem_set_ne e]
theorem mend_added {i j : Nat} {c : F} (hi : i < pts.length) (hj : j < pts.length) (hij : i ≠ j) (hc : Sc T c) (hp : Indep T pts) (hw : word.length = pts.length) (hk : k + 2 * t ≤ pts.length) {o o' : Option (List F)}
    (m : Mend T pts word k t o) (m' : Mend T (pts.set i (co pts i + c * co pts j)) (word.set i (co word i + c * co word j)) k t o') : o' = o := by
  have hiw : i < word.length := by omega
  have hjw : j < word.length := by omega
  have h1 : ∀ f : List F, ∀ vs, (∀ e ∈ dif T pts word f, Sp T vs e) → ∀ d ∈ dif T (pts.set i (co pts i + c * co pts j)) (word.set i (co word i + c * co word j)) f, Sp T vs d := by
    intro f vs q d hd
    obtain ⟨m, h1, h2, rfl⟩ := mem_dif hd
    simp at h1 h2
    have qi := q _ (dif_mem (f := f) hiw hi)
    have qj := q _ (dif_mem (f := f) hjw hj)
    by_cases e : i = m
    · subst e
      simp only [List.getElem_set_self]
      have e : co word i + c * co word j - W T f (co pts i + c * co pts j) = (word[i] - W T f pts[i]) + c * (word[j] - W T f pts[j]) := by
        rw [W_add, W_mul T f hc, co_lt hi, co_lt hj, co_lt hiw, co_lt hjw]; grind
      rw [e]
      exact qi.add (qj.mul hc)
    · simp only [List.getElem_set_ne e]
      exact q _ (dif_mem (by omega) (by omega))
  have h2 : ∀ f : List F, ∀ vs, (∀ e ∈ dif T (pts.set i (co pts i + c * co pts j)) (word.set i (co word i + c * co word j)) f, Sp T vs e) → ∀ d ∈ dif T pts word f, Sp T vs d := by
    intro f vs q d hd
    obtain ⟨m, h1, h2, rfl⟩ := mem_dif hd
    have qj : Sp T vs (word[j] - W T f pts[j]) := by
      have := q _ (dif_mem (f := f) (i := j) (by simpa using hjw) (by simpa using hj))
      simpa only [List.getElem_set_ne hij] using this
    by_cases e : i = m
    · subst e
      have qi := q _ (dif_mem (f := f) (i := i) (by simpa using hiw) (by simpa using hi))
      simp only [List.getElem_set_self] at qi
      have e : word[i] - W T f pts[i] = (co word i + c * co word j - W T f (co pts i + c * co pts j)) - c * (word[j] - W T f pts[j]) := by
        rw [W_add, W_mul T f hc, co_lt hi, co_lt hj, co_lt hiw, co_lt hjw]; grind
      rw [e]
      exact qi.sub (qj.mul hc)
    · have := q _ (dif_mem (f := f) (i := m) (by simpa using h1) (by simpa using h2))
      simpa only [List.getElem_set_ne e] using this
  have lift : ∀ {es es' : List F} {r : Nat}, (∀ vs, (∀ e ∈ es, Sp T vs e) → ∀ d ∈ es', Sp T vs d) → RankLe T r es → RankLe T r es' := fun {es es' r} k ⟨vs, hv, kv⟩ => ⟨vs, hv, k vs kv⟩
  have := mend_map id (indep_added hi hj hij hc hp) (by simpa using hw) (by simpa using hk) (fun f hf => ⟨hf.len, hf.told, lift (h1 f) hf.near⟩) (fun g hg => ⟨g, hg.len, hg.told, lift (h2 g) hg.near⟩) m m'
  rw [this]; simp
end
end Gab
/-! The four fields of the law, by tables. -/
namespace Gab
open Lean.Grind (CommRing)

/-! ### figures -/
def dig (p : Nat) : Nat → Nat → List Nat
  | 0, _ => []
  | n + 1, a => a % p :: dig p n (a / p)
def und (p : Nat) : List Nat → Nat
  | [] => 0
  | d :: ds => d + p * und p ds
theorem dig_len (p : Nat) : ∀ n a, (dig p n a).length = n
  | 0, _ => rfl
  | n + 1, a => by simp [dig, dig_len p n]
theorem dig_lt {p : Nat} (hp : 0 < p) : ∀ n a, ∀ d ∈ dig p n a, d < p
  | 0, _, d, h => by simp [dig] at h
  | n + 1, a, d, h => by
    simp only [dig, List.mem_cons] at h
    rcases h with rfl | h
    · exact Nat.mod_lt _ hp
    · exact dig_lt hp n _ d h
theorem dig_und {p : Nat} : ∀ ds : List Nat, (∀ d ∈ ds, d < p) → dig p ds.length (und p ds) = ds
  | [], _ => rfl
  | d :: ds, h => by
    have hd := h d List.mem_cons_self
    have hp : 0 < p := by omega
    have e1 : (d + p * und p ds) % p = d := by rw [Nat.add_mul_mod_self_left, Nat.mod_eq_of_lt hd]
    have e2 : (d + p * und p ds) / p = und p ds := by
      rw [Nat.add_mul_div_left _ _ hp, Nat.div_eq_of_lt hd, Nat.zero_add]
    simp only [List.length_cons, dig, und, e1, e2]
    rw [dig_und ds fun e he => h e (List.mem_cons_of_mem _ he)]
theorem und_dig {p : Nat} (hp : 0 < p) : ∀ n a, a < p ^ n → und p (dig p n a) = a
  | 0, a, h => by simp at h; simp [dig, und, h]
  | n + 1, a, h => by
    simp only [dig, und]
    rw [und_dig hp n (a / p) (by
      rw [Nat.div_lt_iff_lt_mul hp, ← Nat.pow_succ]; exact h)]
    have := Nat.mod_add_div a p
    omega
theorem und_lt {p : Nat} : ∀ ds : List Nat, (∀ d ∈ ds, d < p) → und p ds < p ^ ds.length
  | [], _ => by simp [und]
  | d :: ds, h => by
    have hd := h d List.mem_cons_self
    have := und_lt ds fun e he => h e (List.mem_cons_of_mem _ he)
    simp only [und, List.length_cons, Nat.pow_succ]
    have h2 : p * (und p ds + 1) ≤ p * p ^ ds.length := Nat.mul_le_mul_left _ this
    rw [Nat.mul_comm (p ^ _) p]
    rw [Nat.mul_add, Nat.mul_one] at h2
    omega

/-! ### the kinds -/
inductive Kd where
  | k8 | k16 | k27 | k32
  deriving DecidableEq
namespace Kd
def p : Kd → Nat | k8 => 2 | k16 => 2 | k27 => 3 | k32 => 2
def n : Kd → Nat | k8 => 3 | k16 => 4 | k27 => 3 | k32 => 5
def q (k : Kd) : Nat := k.p ^ k.n
def md : Kd → List Int
  | k8 => [1, 1, 0, 1] | k16 => [1, 1, 0, 0, 1] | k27 => [1, 2, 0, 1] | k32 => [1, 0, 1, 0, 0, 1]
def pws : Kd → List Nat
  | k8 => [1, 2, 4, 3, 6, 7, 5]
  | k16 => [1, 2, 4, 8, 3, 6, 12, 11, 5, 10, 7, 14, 15, 13, 9]
  | k27 => [1, 3, 9, 5, 15, 23, 13, 17, 20, 4, 12, 14, 11, 2, 6, 18, 7, 21, 16, 26, 22, 10, 8, 24, 25, 19]
  | k32 => [1, 2, 4, 8, 16, 5, 10, 20, 13, 26, 17, 7, 14, 28, 29, 31, 27, 19, 3, 6, 12, 24, 21, 15, 30, 25, 23, 11, 22, 9, 18]
def lgs : Kd → List Nat
  | k8 => [0, 0, 1, 3, 2, 6, 4, 5]
  | k16 => [0, 0, 1, 4, 2, 8, 5, 10, 3, 14, 9, 7, 6, 13, 11, 12]
  | k27 => [0, 0, 13, 1, 9, 3, 14, 16, 22, 2, 21, 12, 10, 6, 11, 4, 18, 7, 15, 25, 8, 17, 20, 5, 23, 24, 19]
  | k32 => [0, 0, 1, 18, 2, 5, 19, 11, 3, 29, 6, 27, 20, 8, 12, 23, 4, 10, 30, 17, 7, 22, 28, 26, 21, 25, 9, 16, 13, 14, 24, 15]
theorem p_pos (k : Kd) : 0 < k.p := by cases k <;> decide
theorem p_two (k : Kd) : 2 ≤ k.p := by cases k <;> decide
theorem p_le (k : Kd) : k.p ≤ 3 := by cases k <;> decide
theorem n_ge (k : Kd) : 3 ≤ k.n := by cases k <;> decide
theorem n_le (k : Kd) : k.n ≤ 5 := by cases k <;> decide
theorem q_ge (k : Kd) : 8 ≤ k.q := by cases k <;> decide
theorem q_le (k : Kd) : k.q ≤ 32 := by cases k <;> decide
theorem pws_len (k : Kd) : k.pws.length = k.q - 1 := by cases k <;> decide
theorem lgs_len (k : Kd) : k.lgs.length = k.q := by cases k <;> decide
def pw (k : Kd) (i : Nat) : Nat := k.pws.getD (i % (k.q - 1)) 0
def lg (k : Kd) (a : Nat) : Nat := k.lgs.getD a 0
theorem pw_lg (k : Kd) : ∀ a, a < k.q → a ≠ 0 → k.pw (k.lg a) = a := by cases k <;> decide +kernel
theorem lg_lt (k : Kd) : ∀ a, a < k.q → k.lg a < k.q - 1 := by cases k <;> decide +kernel
theorem lg_pw (k : Kd) : ∀ i, i < k.q - 1 → k.lg (k.pw i) = i := by cases k <;> decide +kernel
theorem pw_ok (k : Kd) : ∀ i, i < k.q - 1 → k.pw i < k.q ∧ k.pw i ≠ 0 := by cases k <;> decide +kernel
theorem pw_mod (k : Kd) (i : Nat) : k.pw (i % (k.q - 1)) = k.pw i := by unfold pw; rw [Nat.mod_mod]
theorem qm (k : Kd) : 0 < k.q - 1 := by have := k.q_ge; omega
theorem lg_pw' (k : Kd) (i : Nat) : k.lg (k.pw i) = i % (k.q - 1) := by
  rw [← pw_mod, lg_pw _ _ (Nat.mod_lt _ k.qm)]
theorem pw_lt (k : Kd) (i : Nat) : k.pw i < k.q := by rw [← pw_mod]; exact (k.pw_ok _ (Nat.mod_lt _ k.qm)).1
theorem pw_ne (k : Kd) (i : Nat) : k.pw i ≠ 0 := by rw [← pw_mod]; exact (k.pw_ok _ (Nat.mod_lt _ k.qm)).2
/-! reckoned with numbers -/
def addN (k : Kd) (a b : Nat) : Nat := und k.p (List.zipWith (fun x y => (x + y) % k.p) (dig k.p k.n a) (dig k.p k.n b))
def subN (k : Kd) (a b : Nat) : Nat := und k.p (List.zipWith (fun x y => (x + (k.p - y)) % k.p) (dig k.p k.n a) (dig k.p k.n b))
def mulN (k : Kd) (a b : Nat) : Nat := if a = 0 ∨ b = 0 then 0 else k.pw (k.lg a + k.lg b)
def sN (k : Kd) (a : Nat) : Nat := if a = 0 then 0 else k.pw (k.lg a * k.p)
theorem zip_lt (k : Kd) (f : Nat → Nat → Nat) (hf : ∀ x y, f x y < k.p) (a b : Nat) : und k.p (List.zipWith f (dig k.p k.n a) (dig k.p k.n b)) < k.q := by
  have h := und_lt (p := k.p) (List.zipWith f (dig k.p k.n a) (dig k.p k.n b)) fun d hd => by
    obtain ⟨i, hi, rfl⟩ := List.mem_iff_getElem.mp hd
    simp only [List.getElem_zipWith]
    exact hf _ _
  have e : (List.zipWith f (dig k.p k.n a) (dig k.p k.n b)).length = k.n := by simp [dig_len]
  rw [e] at h
  exact h
theorem addN_lt (k : Kd) (a b : Nat) : k.addN a b < k.q := k.zip_lt _ (fun _ _ => Nat.mod_lt _ k.p_pos) a b
theorem subN_lt (k : Kd) (a b : Nat) : k.subN a b < k.q := k.zip_lt _ (fun _ _ => Nat.mod_lt _ k.p_pos) a b
theorem mulN_lt (k : Kd) (a b : Nat) : k.mulN a b < k.q := by
  unfold mulN; split
  · have := k.q_ge; omega
  · exact k.pw_lt _
theorem sN_lt (k : Kd) (a : Nat) : k.sN a < k.q := by
  unfold sN; split
  · have := k.q_ge; omega
  · exact k.pw_lt _
theorem dig_zip (k : Kd) (f : Nat → Nat → Nat) (hf : ∀ x y, f x y < k.p) (a b : Nat) :
    dig k.p k.n (und k.p (List.zipWith f (dig k.p k.n a) (dig k.p k.n b))) = List.zipWith f (dig k.p k.n a) (dig k.p k.n b) := by
  have e : (List.zipWith f (dig k.p k.n a) (dig k.p k.n b)).length = k.n := by simp [dig_len]
  have := dig_und (p := k.p) (List.zipWith f (dig k.p k.n a) (dig k.p k.n b)) fun d hd => by
    obtain ⟨i, hi, rfl⟩ := List.mem_iff_getElem.mp hd
    simp only [List.getElem_zipWith]
    exact hf _ _
  rwa [e] at this
theorem dig_add (k : Kd) (a b : Nat) : dig k.p k.n (k.addN a b) = List.zipWith (fun x y => (x + y) % k.p) (dig k.p k.n a) (dig k.p k.n b) := k.dig_zip _ (fun _ _ => Nat.mod_lt _ k.p_pos) a b
theorem dig_sub (k : Kd) (a b : Nat) : dig k.p k.n (k.subN a b) = List.zipWith (fun x y => (x + (k.p - y)) % k.p) (dig k.p k.n a) (dig k.p k.n b) := k.dig_zip _ (fun _ _ => Nat.mod_lt _ k.p_pos) a b
theorem dig_inj (k : Kd) {a b : Nat} (ha : a < k.q) (hb : b < k.q) (h : dig k.p k.n a = dig k.p k.n b) : a = b := by
  rw [← und_dig k.p_pos k.n a ha, h, und_dig k.p_pos k.n b hb]
theorem addN_comm (k : Kd) (a b : Nat) : k.addN a b = k.addN b a := by
  refine k.dig_inj (k.addN_lt _ _) (k.addN_lt _ _) ?_
  rw [dig_add, dig_add, List.zipWith_comm]
  congr 1; funext x y; rw [Nat.add_comm]
theorem addN_assoc (k : Kd) (a b c : Nat) : k.addN (k.addN a b) c = k.addN a (k.addN b c) := by
  refine k.dig_inj (k.addN_lt _ _) (k.addN_lt _ _) ?_
  simp only [dig_add]
  refine List.ext_getElem (by simp [dig_len]) fun i h1 h2 => ?_
  simp only [List.getElem_zipWith]
  rw [Nat.mod_add_mod, Nat.add_mod_mod, Nat.add_assoc]
theorem addN_zero (k : Kd) : ∀ a, a < k.q → k.addN a 0 = a := by cases k <;> decide +kernel
theorem subN_self (k : Kd) : ∀ a, a < k.q → k.addN (k.subN 0 a) a = 0 := by cases k <;> decide +kernel
theorem subN_eq (k : Kd) (a b : Nat) : k.subN a b = k.addN a (k.subN 0 b) := by
  refine k.dig_inj (k.subN_lt _ _) (k.addN_lt _ _) ?_
  simp only [dig_add, dig_sub]
  refine List.ext_getElem (by simp [dig_len]) fun i h1 h2 => ?_
  simp only [List.getElem_zipWith]
  have e : ∀ m j (h : j < (dig k.p m 0).length), (dig k.p m 0)[j] = 0 := by
    intro m
    induction m with
    | zero => intro j h; simp [dig] at h
    | succ m ih =>
      intro j h
      have z : dig k.p (m + 1) 0 = 0 :: dig k.p m 0 := by simp [dig]
      cases j with
      | zero => simp only [z]; rfl
      | succ j =>
        have h' : j < (dig k.p m 0).length := by rw [z] at h; simpa using h
        have := ih j h'
        simp only [z, List.getElem_cons_succ]; exact this
  rw [e, Nat.zero_add, Nat.add_mod_mod]
theorem mulN_comm (k : Kd) (a b : Nat) : k.mulN a b = k.mulN b a := by
  unfold mulN
  by_cases ha : a = 0
  · simp [ha]
  by_cases hb : b = 0
  · simp [hb]
  rw [if_neg (by omega), if_neg (by omega), Nat.add_comm]
theorem mulN_ne (k : Kd) {a b : Nat} (ha : a ≠ 0) (hb : b ≠ 0) : k.mulN a b = k.pw (k.lg a + k.lg b) := by
  unfold mulN; rw [if_neg (by omega)]
theorem mulN_z (k : Kd) (a : Nat) : k.mulN a 0 = 0 := by unfold mulN; simp
theorem mulN_z' (k : Kd) (a : Nat) : k.mulN 0 a = 0 := by unfold mulN; simp
theorem pw_congr (k : Kd) {i j : Nat} (h : i % (k.q - 1) = j % (k.q - 1)) : k.pw i = k.pw j := by rw [← pw_mod, h, pw_mod]
theorem mulN_assoc (k : Kd) (a b c : Nat) : k.mulN (k.mulN a b) c = k.mulN a (k.mulN b c) := by
  by_cases ha : a = 0
  · subst ha; simp [mulN_z']
  by_cases hb : b = 0
  · subst hb; simp [mulN_z', mulN_z]
  by_cases hc : c = 0
  · subst hc; simp [mulN_z]
  rw [mulN_ne k ha hb, mulN_ne k hb hc, mulN_ne k (k.pw_ne _) hc, mulN_ne k ha (k.pw_ne _), lg_pw', lg_pw']
  refine k.pw_congr ?_
  rw [Nat.mod_add_mod, Nat.add_mod_mod, Nat.add_assoc]
theorem mulN_one (k : Kd) : ∀ a, a < k.q → k.mulN a 1 = a := by cases k <;> decide +kernel
theorem dist_g (k : Kd) : ∀ a, a < k.q → ∀ b, b < k.q → k.mulN (k.pw 1) (k.addN a b) = k.addN (k.mulN (k.pw 1) a) (k.mulN (k.pw 1) b) := by cases k <;> decide +kernel
theorem pw_zero (k : Kd) : k.pw 0 = 1 := by cases k <;> decide
theorem pw_succ (k : Kd) (i : Nat) : k.pw (i + 1) = k.mulN (k.pw 1) (k.pw i) := by
  rw [mulN_ne k (k.pw_ne _) (k.pw_ne _), lg_pw', lg_pw']
  refine k.pw_congr ?_
  rw [Nat.mod_add_mod, Nat.add_mod_mod, Nat.add_comm]
theorem one_lt (k : Kd) : 1 < k.q := by have := k.q_ge; omega
theorem dist_pw (k : Kd) : ∀ i a b, a < k.q → b < k.q → k.mulN (k.pw i) (k.addN a b) = k.addN (k.mulN (k.pw i) a) (k.mulN (k.pw i) b)
  | 0, a, b, ha, hb => by
    rw [pw_zero, mulN_comm k 1, mulN_comm k 1, mulN_comm k 1, mulN_one k _ (k.addN_lt _ _), mulN_one k a ha, mulN_one k b hb]
  | i + 1, a, b, ha, hb => by
    rw [pw_succ, mulN_assoc, mulN_assoc, mulN_assoc, dist_pw k i a b ha hb, dist_g k _ (k.mulN_lt _ _) _ (k.mulN_lt _ _)]
theorem dist (k : Kd) (a b c : Nat) (ha : a < k.q) (hb : b < k.q) (hc : c < k.q) : k.mulN a (k.addN b c) = k.addN (k.mulN a b) (k.mulN a c) := by
  by_cases h : a = 0
  · subst h
    rw [mulN_z', mulN_z', mulN_z', addN_zero k 0 (by omega)]
  · rw [← k.pw_lg a ha h]
    exact dist_pw k _ b c hb hc
def invN (k : Kd) (a : Nat) : Nat := k.pw (k.q - 1 - k.lg a)
theorem inv_ok (k : Kd) : ∀ a, a < k.q → a ≠ 0 → k.mulN a (k.invN a) = 1 := by cases k <;> decide +kernel
theorem s_add (k : Kd) : ∀ a, a < k.q → ∀ b, b < k.q → k.sN (k.addN a b) = k.addN (k.sN a) (k.sN b) := by cases k <;> decide +kernel
theorem s_mul (k : Kd) (a b : Nat) : k.sN (k.mulN a b) = k.mulN (k.sN a) (k.sN b) := by
  by_cases ha : a = 0
  · subst ha; simp [mulN_z', sN]
  by_cases hb : b = 0
  · subst hb; simp [mulN_z, sN]
  have e : ∀ x, x ≠ 0 → k.sN x = k.pw (k.lg x * k.p) := fun x hx => by unfold sN; rw [if_neg hx]
  rw [mulN_ne k ha hb, e _ (k.pw_ne _), e a ha, e b hb, mulN_ne k (k.pw_ne _) (k.pw_ne _), lg_pw', lg_pw', lg_pw']
  refine k.pw_congr ?_
  rw [Nat.mod_add_mod, Nat.add_mod_mod, Nat.mod_mul_mod, Nat.add_mul]
def sI (k : Kd) : Nat → Nat → Nat
  | 0, a => a
  | i + 1, a => sI k i (k.sN a)
theorem s_n (k : Kd) : ∀ a, a < k.q → k.sI k.n a = a := by cases k <;> decide +kernel
theorem s_b (k : Kd) : ∀ a, a < k.q → k.sN (k.sI (k.n - 1) a) = a := by cases k <;> decide +kernel
theorem b_s (k : Kd) : ∀ a, a < k.q → k.sI (k.n - 1) (k.sN a) = a := by cases k <;> decide +kernel
theorem s_fix (k : Kd) : ∀ a, a < k.q → (k.sN a = a ↔ a < k.p) := by cases k <;> decide +kernel
theorem sI_lt (k : Kd) : ∀ i a, a < k.q → k.sI i a < k.q
  | 0, _, h => h
  | i + 1, a, _ => sI_lt k i _ (k.sN_lt a)
theorem dig_smul (k : Kd) : ∀ c, c < k.p → ∀ a, a < k.q → dig k.p k.n (k.mulN c a) = (dig k.p k.n a).map fun x => (c * x) % k.p := by cases k <;> decide +kernel
end Kd
/-- the field's elements -/
structure El (k : Kd) where
  v : Nat
  lt : v < k.q
  deriving DecidableEq
namespace El
variable {k : Kd}
theorem ext' {a b : El k} (h : a.v = b.v) : a = b := by cases a; cases b; cases h; rfl
def z : El k := ⟨0, by have := k.q_ge; omega⟩
def o : El k := ⟨1, k.one_lt⟩
def add (a b : El k) : El k := ⟨k.addN a.v b.v, k.addN_lt _ _⟩
def sub (a b : El k) : El k := ⟨k.subN a.v b.v, k.subN_lt _ _⟩
def mul (a b : El k) : El k := ⟨k.mulN a.v b.v, k.mulN_lt _ _⟩
def s (a : El k) : El k := ⟨k.sN a.v, k.sN_lt _⟩
def b (a : El k) : El k := ⟨k.sI (k.n - 1) a.v, k.sI_lt _ _ a.lt⟩
def inv (a : El k) : El k := ⟨k.invN a.v, k.pw_lt _⟩
def nat : Nat → El k
  | 0 => z
  | 1 => o
  | n + 2 => add (nat (n + 1)) o
def pow (a : El k) : Nat → El k
  | 0 => nat 1
  | n + 1 => mul (pow a n) a
def int : Int → El k
  | .ofNat n => nat n
  | .negSucc n => sub z (nat (n + 1))
theorem add_zero' (a : El k) : add a z = a := ext' (k.addN_zero _ a.lt)
theorem add_comm' (a b : El k) : add a b = add b a := ext' (k.addN_comm _ _)
theorem zero_add' (a : El k) : add z a = a := (add_comm' _ _).trans (add_zero' a)
theorem neg_add' (a : El k) : add (sub z a) a = z := ext' (k.subN_self _ a.lt)
theorem neg_neg' (a : El k) : sub z (sub z a) = a := by
  have h1 := neg_add' (sub z a)
  have h2 := neg_add' a
  calc sub z (sub z a) = add (sub z (sub z a)) z := (add_zero' _).symm
    _ = add (sub z (sub z a)) (add (sub z a) a) := by rw [h2]
    _ = add (add (sub z (sub z a)) (sub z a)) a := (ext' (k.addN_assoc _ _ _)).symm
    _ = add z a := by rw [h1]
    _ = a := zero_add' a
instance ring : CommRing (El k) where
  add := add
  mul := mul
  natCast := ⟨nat⟩
  ofNat := fun n => ⟨nat n⟩
  nsmul := ⟨fun n a => mul (nat n) a⟩
  npow := ⟨fun a n => pow a n⟩
  add_zero := add_zero'
  add_comm := add_comm'
  add_assoc := fun a b c => ext' (k.addN_assoc _ _ _)
  mul_assoc := fun a b c => ext' (k.mulN_assoc _ _ _)
  mul_one := fun a => ext' (k.mulN_one _ a.lt)
  one_mul := fun a => ext' ((k.mulN_comm _ _).trans (k.mulN_one _ a.lt))
  left_distrib := fun a b c => ext' (k.dist _ _ _ a.lt b.lt c.lt)
  right_distrib := fun a b c => ext' (by
    show k.mulN (k.addN a.v b.v) c.v = k.addN (k.mulN a.v c.v) (k.mulN b.v c.v)
    rw [k.mulN_comm, k.dist _ _ _ c.lt a.lt b.lt, k.mulN_comm c.v, k.mulN_comm c.v])
  zero_mul := fun a => ext' (k.mulN_z' a.v)
  mul_zero := fun a => ext' (k.mulN_z a.v)
  pow_zero := fun a => rfl
  pow_succ := fun a n => rfl
  ofNat_succ := fun n => by
    cases n with
    | zero => exact (zero_add' _).symm
    | succ n => rfl
  neg := fun a => sub z a
  sub := sub
  intCast := ⟨int⟩
  zsmul := ⟨fun i a => mul (int i) a⟩
  neg_add_cancel := neg_add'
  sub_eq_add_neg := fun a b => ext' (k.subN_eq _ _)
  neg_zsmul := fun i a => by
    have key : ∀ x y : El k, mul (sub z x) y = sub z (mul x y) := fun x y => by
      have h1 : add (mul (sub z x) y) (mul x y) = z := by
        have := (ext' (by
          show k.mulN (k.addN (sub z x).v x.v) y.v = k.addN (k.mulN (sub z x).v y.v) (k.mulN x.v y.v)
          rw [k.mulN_comm, k.dist _ _ _ y.lt (sub z x).lt x.lt, k.mulN_comm y.v, k.mulN_comm y.v]) : mul (add (sub z x) x) y = add (mul (sub z x) y) (mul x y))
        rw [← this, neg_add']
        exact ext' (k.mulN_z' y.v)
      calc mul (sub z x) y = add (mul (sub z x) y) z := (add_zero' _).symm
        _ = add (mul (sub z x) y) (add (sub z (mul x y)) (mul x y)) := by rw [neg_add']
        _ = add (mul (sub z x) y) (add (mul x y) (sub z (mul x y))) := by rw [add_comm' (mul x y)]
        _ = add (add (mul (sub z x) y) (mul x y)) (sub z (mul x y)) := (ext' (k.addN_assoc _ _ _)).symm
        _ = add z (sub z (mul x y)) := by rw [h1]
        _ = sub z (mul x y) := zero_add' _
    have neg : ∀ i : Int, int (k := k) (-i) = sub z (int i) := fun i => by
      cases i with
      | ofNat n =>
        cases n with
        | zero => exact (add_zero' _).symm.trans (by rw [show (int (k := k) (Int.ofNat 0)) = z from rfl]; have := neg_add' (k := k) z; rw [add_zero'] at this; rw [this, add_zero']; rfl)
        | succ n => rfl
      | negSucc n => exact (neg_neg' _).symm
    show mul (int (-i)) a = sub z (mul (int i) a)
    rw [neg, key]
  intCast_neg := fun i => by
    cases i with
    | ofNat n =>
      cases n with
      | zero => exact (add_zero' _).symm.trans (by have := neg_add' (k := k) z; rw [add_zero'] at this; show add (int (-(Int.ofNat 0))) z = sub z (int (Int.ofNat 0)); rw [show (int (k := k) (Int.ofNat 0)) = z from rfl, this, add_zero']; rfl)
      | succ n => rfl
    | negSucc n => exact (neg_neg' _).symm
  mul_comm := fun a b => ext' (k.mulN_comm _ _)
theorem zero_v : (0 : El k).v = 0 := rfl
theorem one_v : (1 : El k).v = 1 := rfl
theorem add_v (a b : El k) : (a + b).v = k.addN a.v b.v := rfl
theorem sub_v (a b : El k) : (a - b).v = k.subN a.v b.v := rfl
theorem mul_v (a b : El k) : (a * b).v = k.mulN a.v b.v := rfl
theorem eq_zero {a : El k} : a = 0 ↔ a.v = 0 := ⟨fun h => by rw [h]; rfl, fun h => ext' h⟩
def T (k : Kd) : Trn (El k) where
  s := s
  b := b
  inv := inv
  add := fun a c => ext' (k.s_add _ a.lt _ c.lt)
  mul := fun a c => ext' (k.s_mul _ _)
  sb := fun a => ext' (k.s_b _ a.lt)
  bs := fun a => ext' (k.b_s _ a.lt)
  inv_mul := fun a h => ext' (k.inv_ok _ a.lt fun e => h (ext' e))
  ne := fun e => by have := congrArg El.v e; cases this
theorem sc_iff {c : El k} : Sc (T k) c ↔ c.v < k.p := by
  rw [← k.s_fix _ c.lt]
  exact ⟨fun h => congrArg El.v h, fun h => ext' h⟩
end El
end Gab
/-! Rules of our own: a zip object held by a name and walked by a comprehension; words for loops and comprehensions. -/
namespace Tp
open PySem PySem.Spec PyProof.Rows L2

/-! ### several new objects at once; tracked things forgotten -/
section
variable {P : Program} {w : World} {X : Cx} {pins : List (Addr × Obj)} {σ : L2.St} {H H' : Hp} {s : Shared} {h h' : Heap} {fs ex : List Addr}
theorem un_many (ok : HOk P w H h) (k : ∀ b u, h.get? b = some u → h'.get? b = some u) (hf : ∀ b, b < h.objs.size → H' b = H b) : Un fs ex H H' h h' where
  keep := fun b u q _ _ _ => k b u q
  slot := fun b u q _ _ _ => ⟨u.slots, k b u q⟩
  free := fun b u q n _ => by rw [hf b (Heap.lt_size q)]; exact n
  there := fun b u q _ => ⟨u, k b u q⟩
  tups := fun b xs q => by rw [hf b (ok.lt q)]; exact q
  frzs := fun b u xs q => by rw [hf b (ok.lt q)]; exact q
  tbls := fun b ps q => ⟨#[], by rw [hf b (ok.lt q), q]; simp⟩
theorem inv_many (I : Inv X pins σ H s) (k : ∀ b u, s.heap.get? b = some u → h'.get? b = some u) (hf : ∀ b, b < s.heap.objs.size → H' b = H b)
    (new : ∀ b u, s.heap.objs.size ≤ b → H' b = some u → ObjOk X.prog X.w H' h' b u) : Inv X pins σ H' { s with heap := h' } := by
  refine I.un (t' := s.toks) (un_many I.hok k hf) fun b u e => ?_
  by_cases hb : b < s.heap.objs.size
  · rw [hf b hb] at e
    exact (I.hok b u e).stay (fun c v _ q => k c v q) (fun c q => by rw [hf c (I.hok.lt q)]; exact q) fun c xs q => by rw [hf c (I.hok.lt q)]; exact q
  · exact new b u (Nat.le_of_not_lt hb) e
theorem inv_less {H0 : Hp} (I : Inv X pins σ H s) (h0 : ∀ b u, H0 b = some u → H b = some u) (hx : ∀ b u, H b = some u → H0 b = Option.none → ∃ φ, u = .ext φ) : Inv X pins σ H0 s := by
  have other : ∀ b u, H b = some u → (∀ ψ, u ≠ .ext ψ) → H0 b = some u := fun b u e n => by
    cases q : H0 b with
    | none =>
      obtain ⟨φ, z⟩ := hx b u e q
      exact absurd z (n φ)
    | some v =>
      have := h0 b v q
      rw [e] at this
      rw [Option.some.inj this]
  have non : ∀ b, H b = Option.none → H0 b = Option.none := fun b e => by
    cases q : H0 b with
    | none => rfl
    | some v => rw [h0 b v q] at e; cases e
  have hok : HOk X.prog X.w H0 s.heap := fun b u e => (I.hok b u (h0 b u e)).stay (fun _ _ _ z => z) (fun c z => other c _ z fun _ w => (nomatch w)) fun c xs z => other c _ z fun _ w => (nomatch w)
  have u : Un X.fs [] H H0 s.heap s.heap := ⟨fun _ _ e _ _ _ => e, fun _ o e _ _ _ => ⟨o.slots, e⟩, fun b _ _ z _ => non b z, fun _ o e _ => ⟨o, e⟩, fun b xs z => other b _ z fun _ w => (nomatch w),
    fun b o x z => other b _ z fun _ w => (nomatch w), fun b ps z => ⟨#[], by rw [other b _ z fun _ w => (nomatch w)]; simp⟩⟩
  exact I.un (t' := s.toks) u hok
theorem inv_fp {H0 : Hp} {a : Addr} {u : HO} (I : Inv X pins σ H s) (e : H a = some u) (e0 : H0 a = Option.none) (hn : X.s_0.heap.objs.size ≤ a) : FpOk X pins H0 a := by
  refine ⟨e0, fun z => ?_, fun z => ?_, .inr hn, fun x c e' z => ?_, fun p hp z => ?_⟩
  · rw [z, I.free] at e
    cases e
  · obtain ⟨_, o, ho, _⟩ := I.ok.funs.mem z
    exact absurd (Nat.lt_of_lt_of_le (Heap.lt_size ho) hn) (Nat.lt_irrefl _)
  · have q := I.freeC x c e'
    rw [z, e] at q
    cases q
  · have q := (I.pin p hp).2.1
    rw [z, e] at q
    cases q
end

/-! ### zip as a value -/
def zLi (l it : Addr) : HO := .ext fun h => h.IsListIter it l 0
def zPr (T : Addr) (x y : Value) : HO := .ext fun h => IsPair h T x y
def zZp (z TI TO : Addr) : HO := .ext fun h => IsZip h z TI TO .none
/-- the heap with a zip's five objects -/
def zHp (z TI TO i1 i2 a b : Addr) (H0 : Hp) : Hp := upd (upd (upd (upd (upd H0 i1 (zLi a i1)) i2 (zLi b i2)) TI (zPr TI (.ref i1) (.ref i2))) TO (zPr TO .none .none)) z (zZp z TI TO)
/-- behind H0 a zip of the lists at a and b was made at z -/
structure ZipV (n : Nat) (H0 H : Hp) (z a b : Addr) : Prop where
  ex : ∃ TI TO i1 i2, ZipApart z TI TO i1 i2 a b ∧ H = zHp z TI TO i1 i2 a b H0 ∧ ∀ c ∈ [z, TI, TO, i1, i2], H0 c = Option.none ∧ n ≤ c
def rZipV (K : PySem.W.Frag) (n : Nat) : List V → Hp → VK → Prop := fun vs H Q => ∃ a b xs ys, vs = [.ref a, .ref b] ∧ SqL K H a xs ∧ SqL K H b ys ∧ ∀ z H', ZipV n H H' z a b → Q (.ref z) H'
theorem objOk_ext {P : Program} {w : World} {H : Hp} {h : Heap} {a : Addr} {φ : Heap → Prop} (p : φ h) (e : ∃ o, h.get? a = some o) (st : ∀ h1 h2 : Heap, φ h1 → (∀ o, h1.get? a = some o → h2.get? a = some o) → φ h2) : ObjOk P w H h a (.ext φ) := ⟨p, e, st⟩
theorem upd5 {H0 : Hp} {z TI TO i1 i2 a b c : Addr} {u : HO} (e : zHp z TI TO i1 i2 a b H0 c = some u) (n : H0 c = Option.none) : (c = z ∧ u = zZp z TI TO) ∨ (c = TO ∧ u = zPr TO .none .none) ∨ (c = TI ∧ u = zPr TI (.ref i1) (.ref i2)) ∨ (c = i2 ∧ u = zLi b i2) ∨ (c = i1 ∧ u = zLi a i1) := by
  unfold zHp at e
  by_cases h1 : c = z
  · rw [h1, upd_same] at e; exact .inl ⟨h1, (Option.some.inj e).symm⟩
  rw [upd_ne h1] at e
  by_cases h2 : c = TO
  · rw [h2, upd_same] at e; exact .inr (.inl ⟨h2, (Option.some.inj e).symm⟩)
  rw [upd_ne h2] at e
  by_cases h3 : c = TI
  · rw [h3, upd_same] at e; exact .inr (.inr (.inl ⟨h3, (Option.some.inj e).symm⟩))
  rw [upd_ne h3] at e
  by_cases h4 : c = i2
  · rw [h4, upd_same] at e; exact .inr (.inr (.inr (.inl ⟨h4, (Option.some.inj e).symm⟩)))
  rw [upd_ne h4] at e
  by_cases h5 : c = i1
  · rw [h5, upd_same] at e; exact .inr (.inr (.inr (.inr ⟨h5, (Option.some.inj e).symm⟩)))
  rw [upd_ne h5, n] at e
  cases e
theorem upd5_ne {H0 : Hp} {z TI TO i1 i2 a b c : Addr} (h : c ∉ [z, TI, TO, i1, i2]) : zHp z TI TO i1 i2 a b H0 c = H0 c := by
  simp only [List.mem_cons, List.not_mem_nil, or_false, not_or] at h
  unfold zHp
  rw [upd_ne h.1, upd_ne h.2.2.1, upd_ne h.2.1, upd_ne h.2.2.2.2, upd_ne h.2.2.2.1]
theorem call_zipV {X : Cx} : CallR X (.type "zip") (rZipV X.K X.s_0.heap.objs.size) := by
  intro pins s σ H xs us Q I r h
  obtain ⟨a, b, xs, ys, rfl, hqx, hqy, q⟩ := h
  cases r with
  | cons r rr =>
    cases rr with
    | cons r' rr =>
      cases rr
      cases r
      cases r'
      obtain ⟨its, rv, p1, _⟩ := I.list hqx
      obtain ⟨its2, rv2, p2, _⟩ := I.list hqy
      have la : a < s.heap.objs.size := p1.lt
      have lb : b < s.heap.objs.size := p2.lt
      refine call_zip_2 p1.isList p2.isList fun h' hz hTI hTO h1 h2 hsz hk => ?_
      generalize hn : s.heap.objs.size = n at *
      have hmem : ∀ c ∈ [n + 4, n + 2, n + 3, n, n + 1], n ≤ c := by
        intro c hc
        simp only [List.mem_cons, List.not_mem_nil, or_false] at hc
        rcases hc with z | z | z | z | z <;> (rw [z]; first | exact Nat.le_refl _ | exact Nat.le_add_right _ _)
      have ho : ∀ c ∈ [n + 4, n + 2, n + 3, n, n + 1], H c = Option.none ∧ X.s_0.heap.objs.size ≤ c := fun c hc => by
        have z := hmem c hc
        exact ⟨I.hok.fresh (by rw [hn]; exact z), Nat.le_trans I.sz (by rw [hn]; exact z)⟩
      have D := PySem.W.ktu_apart n a b la lb
      have I2 : Inv X pins σ (zHp (n + 4) (n + 2) (n + 3) n (n + 1) a b H) { s with heap := h' } := by
        refine inv_many I hk (fun c hc => upd5_ne fun hm => ?_) fun c u hc e => ?_
        · have := hmem c hm
          rw [hn] at hc
          exact absurd (Nat.lt_of_lt_of_le hc this) (Nat.lt_irrefl _)
        · have hcn : H c = Option.none := I.hok.fresh hc
          rcases upd5 e hcn with ⟨rfl, rfl⟩ | ⟨rfl, rfl⟩ | ⟨rfl, rfl⟩ | ⟨rfl, rfl⟩ | ⟨rfl, rfl⟩
          · exact objOk_ext hz ⟨_, hz⟩ fun h1 h2 q k => k _ q
          · exact objOk_ext hTO ⟨_, hTO⟩ fun h1 h2 q k => k _ q
          · exact objOk_ext hTI ⟨_, hTI⟩ fun h1 h2 q k => k _ q
          · obtain ⟨o, e1, _⟩ := id h2
            exact objOk_ext h2 ⟨o, e1⟩ fun h3 h4 q k => q.at k
          · obtain ⟨o, e1, _⟩ := id h1
            exact objOk_ext h1 ⟨o, e1⟩ fun h3 h4 q k => q.at k
      exact ⟨.ref (n + 4), _, I2, rfl, q _ _ ⟨_, _, _, _, D, rfl, ho⟩⟩
/-- behind the walk the zip is forgotten -/
def iZipV (K : PySem.W.Frag) (n k : Nat) : TI := fun σ H R => ∃ z a b H0, σ[k]? = some (some (.ref z)) ∧ ZipV n H0 H z a b ∧ R (Itz K a b) H0
theorem pi_zipV {X : Cx} {elts : List Expr} {kk : Nat} {tpos p : Pos} {k : Nat} {x : Str} (hN : X.N[k]? = some x) (hv : Vis X.env.scope x) (hd : (x == ("__debug__" : Str)) = false := by decide) (hcd : (x == ("__classdict__" : Str)) = false := by decide) :
    PI X (.Tuple elts kk tpos) (.Name x p) (iZipV X.K X.s_0.heap.objs.size k) := by
  refine ⟨fun pins s σ H R I h => ?_⟩
  obtain ⟨z, a, b, H0, hs, ⟨TI, TO, i1, i2, D, eH, ho⟩, q⟩ := h
  refine thn ((pe_var (pos := p) (i := k) hN hv hd hcd).run pins s σ H (fun v H1 => v = .ref z ∧ H1 = H) I ⟨.ref z, hs, rfl, rfl⟩) fun u s1 ⟨v, H1, I1, r1, ev, eH1⟩ => ?_
  subst ev
  rw [eH1] at I1
  cases r1
  subst eH
  have g1 : zHp z TI TO i1 i2 a b H0 i1 = some (zLi a i1) := by unfold zHp; rw [upd_ne D.i1z, upd_ne D.TOi1.symm, upd_ne D.TIi1.symm, upd_ne D.i12, upd_same]
  have g2 : zHp z TI TO i1 i2 a b H0 i2 = some (zLi b i2) := by unfold zHp; rw [upd_ne D.i2z, upd_ne D.TOi2.symm, upd_ne D.TIi2.symm, upd_same]
  have g3 : zHp z TI TO i1 i2 a b H0 TI = some (zPr TI (.ref i1) (.ref i2)) := by unfold zHp; rw [upd_ne D.TIz, upd_ne D.TITO, upd_same]
  have g4 : zHp z TI TO i1 i2 a b H0 TO = some (zPr TO .none .none) := by unfold zHp; rw [upd_ne D.TOz, upd_same]
  have g5 : zHp z TI TO i1 i2 a b H0 z = some (zZp z TI TO) := by unfold zHp; rw [upd_same]
  have f1 : s1.heap.IsListIter i1 a 0 := (I1.hok _ _ g1).1
  have f2 : s1.heap.IsListIter i2 b 0 := (I1.hok _ _ g2).1
  have f3 : IsPair s1.heap TI (.ref i1) (.ref i2) := (I1.hok _ _ g3).1
  have f4 : IsPair s1.heap TO .none .none := (I1.hok _ _ g4).1
  have f5 : IsZip s1.heap z TI TO .none := (I1.hok _ _ g5).1
  have I0 : Inv X pins σ H0 s1 := by
    refine inv_less I1 (fun c u e => ?_) fun c u e e0 => ?_
    · by_cases hm : c ∈ [z, TI, TO, i1, i2]
      · rw [(ho c hm).1] at e; cases e
      · rw [upd5_ne hm]; exact e
    · rcases upd5 e e0 with ⟨_, rfl⟩ | ⟨_, rfl⟩ | ⟨_, rfl⟩ | ⟨_, rfl⟩ | ⟨_, rfl⟩ <;> exact ⟨_, rfl⟩
  refine (turn_zip (P := X.prog) (w := X.w) (K := X.K) (elts := elts) (kk := kk) (tpos := tpos) D).self X.A 0 s1 _ _ ⟨f5, f3, ⟨_, _, f4⟩, f1, f2⟩ ?_
  refine ⟨z, [z, TI, TO, i1, i2], _, _, H0, rfl, I0, turn_zip D, ⟨f5, f3, ⟨_, _, f4⟩, f1, f2⟩, fun c hc => ?_, q⟩
  have there : ∃ u, zHp z TI TO i1 i2 a b H0 c = some u := by
    simp only [List.mem_cons, List.not_mem_nil, or_false] at hc
    rcases hc with e | e | e | e | e <;> rw [e]
    · exact ⟨_, g5⟩
    · exact ⟨_, g3⟩
    · exact ⟨_, g4⟩
    · exact ⟨_, g1⟩
    · exact ⟨_, g2⟩
  obtain ⟨u, hu⟩ := there
  exact inv_fp I1 hu (ho c hc).1 (ho c hc).2
end Tp
/-! Words for the readings: what a field and a book are in the heap, comprehensions, loops. -/
namespace Tp
open PySem PySem.Spec PyProof.Rows L2

/-! ### operators in short -/
abbrev oAdd : R2 := rI0 fun i j => .int (i + j)
abbrev oSub : R2 := rI0 fun i j => .int (i - j)
abbrev oMul : R2 := rI CMul fun i j => .int (i * j)
abbrev oMod : R2 := rI (fun _ j => 0 < j) fun i j => .int (i % j)
abbrev oDiv : R2 := rI CDiv fun i j => .int (i / j)
abbrev oPow : R2 := rI CPow fun i j => .int (i ^ j.toNat)
abbrev oLt : R2 := rI0 fun i j => .bl (decide (i < j))
abbrev oLe : R2 := rI0 fun i j => .bl (decide (i ≤ j))
abbrev oGt : R2 := rI0 fun i j => .bl (decide (j < i))
abbrev oGe : R2 := rI0 fun i j => .bl (decide (j ≤ i))
abbrev oIsN : R2 := fun x y H Q => y = .non ∧ Q (.bl (decide (x = .non))) H
abbrev oNotN : R2 := fun x y H Q => y = .non ∧ Q (.bl (!decide (x = .non))) H
abbrev uNeg : V → Hp → VK → Prop := rU fun i => .int (-i)
abbrev cLen (K : PySem.W.Frag) : List V → Hp → VK → Prop := fun xs H Q => ∃ p ys, xs = [.ref p] ∧ (SqL K H p ys ∨ SqT K H p ys) ∧ Q (.int ys.length) H
abbrev cMax : List V → Hp → VK → Prop := fun xs H Q => ∃ i j, xs = [.int i, .int j] ∧ Q (.int (if j > i then j else i)) H
abbrev cMin : List V → Hp → VK → Prop := fun xs H Q => ∃ i j, xs = [.int i, .int j] ∧ Q (.int (if j < i then j else i)) H
abbrev cAbs : List V → Hp → VK → Prop := fun xs H Q => ∃ i, xs = [.int i] ∧ Q (.int (if i < 0 then -i else i)) H
abbrev cInt : List V → Hp → VK → Prop := fun xs H Q => (∃ i, xs = [.int i] ∧ Q (.int i) H) ∨ ∃ k, xs = [.bl k] ∧ Q (.int (if k then 1 else 0)) H
abbrev cDm : List V → Hp → VK → Prop := fun xs H Q => ∃ i j, xs = [.int i, .int j] ∧ CDiv i j ∧ ∀ p, H p = none → Q (.ref p) (upd H p (.tup [.int (i / j), .int (i % j)]))
abbrev cList (K : PySem.W.Frag) : List V → Hp → VK → Prop := fun xs H Q => ∃ p ys, xs = [.ref p] ∧ (SqL K H p ys ∨ SqT K H p ys) ∧ ∀ l, H l = none → Q (.ref l) (upd H l (.lst ys))
abbrev gPair (K : PySem.W.Frag) (i j : Nat) : TG := gTup K 2 (gCons (gName i) (gCons (gName j) gNil))

/-! ### a def by its body -/
section
variable {P : Program} {w : World} {K : PySem.W.Frag} {mg : Str → Option Value} {base : Heap}
theorem cal_of {x : Str} {st : Stmt} {N ps : List Str} {k : Nat} {sp : Sp} (D : DefAt K mg x st)
    (hb : ∀ (kV doc pm : Value) (an : Option Addr) (cdv ct : Value) (us : List Value), us.length = ps.length → bindArgs (PySem.W.fnOf x x (defArgs st) (defBody st) (defScope st) .none kV doc pm an cdv ct) ⟨us, []⟩ = pure (ps.zip us))
    (S : FnScope N ps (defScope st)) (len : ∀ vs H Q E, sp vs H Q E → vs.length = ps.length)
    (hbody : ∀ (f : Addr) (cdv : Value) (A : Around) (outer : List Env) (s : Shared) (H : Hp) (vs : List V) (Q : VK) (E : XK), Room k (A.deeper (envOfC x (defScope st) s.heap.objs.size f cdv)) → sp vs H Q E →
      ∃ t, PSs (cxOf CX0 P w K mg base N x (defScope st) f cdv A outer s H E).nox (defBody st) t ∧ t { nx := fun _ H' => Q .non H', rt := Q } (start N vs) H) : C8.Cal P w K mg base (k + 1) x sp [] := by
  obtain ⟨f, fd, F, hm⟩ := D.ex
  refine ⟨f, fd, ps, [], F.ok S len (fun cdv A outer s H vs Q E hr hs => ?_), hm, F.kp, F.bindsN hb, .nil⟩
  obtain ⟨t, h, q⟩ := hbody f cdv A outer s H vs Q E hr hs
  exact ⟨t, h.nox, q⟩
end

/-! ### heaps -/
theorem sm_upd {H : Hp} {p : Addr} {o : HO} (h : H p = none) : Same H (upd H p o) := fun b u e => by rw [upd_ne (ne_of_none e h)]; exact e
theorem sm_upd' {H H' : Hp} {p : Addr} {o : HO} (s : Same H H') (h : H' p = none) : Same H (upd H' p o) := s.trans (sm_upd h)
/-- a new list, built on -/
theorem sm_set {H H' : Hp} {p : Addr} {o : HO} (s : Same H H') (h : H p = none) : Same H (upd H' p o) := fun b u e => by rw [upd_ne (ne_of_none e h)]; exact s b u e
theorem at_get {xs : List V} {j : Nat} {i : Int} {v : V} (e : i = (j : Int)) (h : xs[j]? = some v) : atI xs i = some v := by rw [e]; exact atI_nat h

/-! ### comprehensions whose turns leave what stood as it was -/
/-- behind i turns: H1 stands, the new list at D holds L i -/
def LcP (H1 : Hp) (D : Addr) (L : Nat → List V) (i : Nat) (H : Hp) : Prop := Same H1 H ∧ H D = some (.lst (L i))
section
variable {H1 H H3 : Hp} {D : Addr} {L : Nat → List V} {i : Nat} {y : V}
theorem lcp_start (hD : H1 D = none) (h0 : L 0 = []) : LcP H1 D L 0 (upd H1 D (.lst [])) := ⟨sm_upd hD, by rw [upd_same, h0]⟩
theorem lcp_next (hD : H1 D = none) (p : LcP H1 D L i H) (s : Same H H3) (hL : L (i + 1) = L i ++ [y]) (hl : (L i).length < sizeLine) :
    ∃ acc, H3 D = some (.lst acc) ∧ acc.length < sizeLine ∧ LcP H1 D L (i + 1) (upd H3 D (.lst (acc ++ [y]))) :=
  ⟨_, s _ _ p.2, hl, fun b u q => by rw [upd_ne (ne_of_none q hD)]; exact s _ _ (p.1 _ _ q), by rw [upd_same, hL]⟩
theorem lcp_skip (p : LcP H1 D L i H) (s : Same H H3) (hL : L (i + 1) = L i) : LcP H1 D L (i + 1) H3 := ⟨p.1.trans s, by rw [hL]; exact s _ _ p.2⟩
end
theorem take_map {α β : Type} {f : α → β} {xs : List α} {i : Nat} {x : α} (h : xs[i]? = some x) : (xs.take (i + 1)).map f = (xs.take i).map f ++ [f x] := by
  rw [List.take_succ, h]; simp
theorem take_succ' {α : Type} {xs : List α} {i : Nat} {x : α} (h : xs[i]? = some x) : xs.take (i + 1) = xs.take i ++ [x] := by
  rw [List.take_succ, h]; simp
theorem small {n : Nat} (h : n ≤ 1000) : n < sizeLine := Nat.lt_of_le_of_lt h (by decide)
theorem small' {n : Nat} (h : n ≤ 1000) : n ≤ sizeLine := Nat.le_of_lt (small h)
/-- a pair taken apart into two names -/
theorem pair_tgt {K : PySem.W.Frag} {i j : Nat} {T : Addr} {x y : V} {σ : L2.St} {H : Hp} {Q : L2.St → Hp → Prop} (h : H T = some (.tup [x, y])) (q : Q ((σ.set i (some x)).set j (some y)) H) : gPair K i j (.ref T) σ H Q :=
  ⟨T, _, rfl, SqT.of h, rfl, _, _, rfl, _, _, rfl, rfl, q⟩

/-! ### numbers, elements, lists of them -/
open Gab
abbrev vI : Int → V := V.int
/-- an element as Python has it -/
def vE {k : Kd} (x : El k) : V := .int (x.v : Int)
theorem vE_inj {k : Kd} {a b : El k} (h : vE a = vE b) : a = b := El.ext' (by
  have : (a.v : Int) = (b.v : Int) := V.int.inj h
  exact Int.ofNat.inj this)
def pwL (k : Kd) : List V := k.pws.map fun x : Nat => vI (x : Int)
def lgL (k : Kd) : List V := vI (-1) :: (k.lgs.drop 1).map fun x : Nat => vI (x : Int)
def mdL (k : Kd) : List V := k.md.map vI
/-- the field at f -/
structure FieldAt (K : PySem.W.Frag) (H : Hp) (f : Addr) (k : Kd) : Prop where
  ex : ∃ (dx m pw lg : Addr) (fs : List (Str × V)), H f = some (.ins (CF K) dx fs) ∧ fs.lookup ("own_prime" : Str) = some (.int (k.p : Int)) ∧ fs.lookup ("own_turns" : Str) = some (.int (k.n : Int)) ∧ fs.lookup ("own_size" : Str) = some (.int (k.q : Int)) ∧
    fs.lookup ("own_modulus" : Str) = some (.ref m) ∧ fs.lookup ("own_powers" : Str) = some (.ref pw) ∧ fs.lookup ("own_logs" : Str) = some (.ref lg) ∧
    H m = some (.lst (mdL k)) ∧ H pw = some (.lst (pwL k)) ∧ H lg = some (.lst (lgL k))
theorem FieldAt.same {K : PySem.W.Frag} {H H' : Hp} {f : Addr} {k : Kd} (h : FieldAt K H f k) (s : Same H H') : FieldAt K H' f k := by
  obtain ⟨dx, m, pw, lg, fs, h1, h2, h3, h4, h5, h6, h7, h8, h9, h10⟩ := h
  exact ⟨dx, m, pw, lg, fs, s _ _ h1, h2, h3, h4, h5, h6, h7, s _ _ h8, s _ _ h9, s _ _ h10⟩
section
variable {K : PySem.W.Frag} {mg : Str → Option Value} {H : Hp} {f : Addr} {k : Kd} {R : V → Prop}
/-- an attribute's reading -/
abbrev FldR (K : PySem.W.Frag) (H : Hp) (f : Addr) (x : Str) (R : V → Prop) : Prop := ∃ a C dx fs v, V.ref f = .ref a ∧ H a = some (.ins C dx fs) ∧ Cls K C ∧ NoAttr K C x ∧ fs.lookup x = some v ∧ R v
theorem fld_prime (T : Txt K mg) (h : FieldAt K H f k) (q : R (.int (k.p : Int))) : FldR K H f "own_prime" R := by
  obtain ⟨dx, m, pw, lg, fs, h1, h2, h3, h4, h5, h6, h7, h8, h9, h10⟩ := h
  exact ⟨_, _, _, _, _, rfl, h1, T.i_Field.cl, T.n_own_prime, h2, q⟩
theorem fld_turns (T : Txt K mg) (h : FieldAt K H f k) (q : R (.int (k.n : Int))) : FldR K H f "own_turns" R := by
  obtain ⟨dx, m, pw, lg, fs, h1, h2, h3, h4, h5, h6, h7, h8, h9, h10⟩ := h
  exact ⟨_, _, _, _, _, rfl, h1, T.i_Field.cl, T.n_own_turns, h3, q⟩
theorem fld_size (T : Txt K mg) (h : FieldAt K H f k) (q : R (.int (k.q : Int))) : FldR K H f "own_size" R := by
  obtain ⟨dx, m, pw, lg, fs, h1, h2, h3, h4, h5, h6, h7, h8, h9, h10⟩ := h
  exact ⟨_, _, _, _, _, rfl, h1, T.i_Field.cl, T.n_own_size, h4, q⟩
theorem fld_powers (T : Txt K mg) (h : FieldAt K H f k) (q : ∀ pw, H pw = some (.lst (pwL k)) → R (.ref pw)) : FldR K H f "own_powers" R := by
  obtain ⟨dx, m, pw, lg, fs, h1, h2, h3, h4, h5, h6, h7, h8, h9, h10⟩ := h
  exact ⟨_, _, _, _, _, rfl, h1, T.i_Field.cl, T.n_own_powers, h6, q _ h9⟩
theorem fld_logs (T : Txt K mg) (h : FieldAt K H f k) (q : ∀ lg, H lg = some (.lst (lgL k)) → R (.ref lg)) : FldR K H f "own_logs" R := by
  obtain ⟨dx, m, pw, lg, fs, h1, h2, h3, h4, h5, h6, h7, h8, h9, h10⟩ := h
  exact ⟨_, _, _, _, _, rfl, h1, T.i_Field.cl, T.n_own_logs, h7, q _ h10⟩
end
end Tp
namespace Tp
open PySem PySem.Spec PyProof.Rows L2 Gab
theorem cst {mg : Str → Option Value} {x : Str} {i : Int} (h : ∃ t, mg x = some (.int i t)) : ∃ u, mg x = some u ∧ RelV (.int i) u := by
  obtain ⟨t, e⟩ := h
  exact ⟨_, e, t, rfl⟩
abbrev cIsC (C : Addr) : List V → Hp → VK → Prop := fun xs H Q => ∃ a dx fs, xs = [.ref a, .ref C] ∧ H a = some (.ins C dx fs) ∧ Q (.bl true) H
/-- a comprehension without a test -/
theorem lcY {te : TE} {σ : L2.St} {H : Hp} {N : VK} {M : Hp → Prop} (h : te σ H N) : tYes σ H (fun b H3 => if b = true then te σ H3 N else M H3) := by
  show if true = true then te σ H N else M H
  rw [if_pos rfl]
  exact h
/-- a new list is handed back, all else stands -/
def RetL (H : Hp) (Q : VK) (L : List V) : Prop := ∀ H' p, Same H H' → H p = none → H' p = some (.lst L) → Q (.ref p) H'
/-- a value is handed back, all stands -/
def RetV (H : Hp) (Q : VK) (v : V) : Prop := ∀ H', Same H H' → Q v H'
section
variable {P : Program} {w : World} {K : PySem.W.Frag} {mg : Str → Option Value} {base : Heap}
/-! ### figures -/
def dgV (k : Kd) (a : Nat) : List V := (dig k.p k.n a).map fun x : Nat => vI (x : Int)
theorem dig_succ (p : Nat) : ∀ n a, dig p (n + 1) a = dig p n a ++ [a / p ^ n % p]
  | 0, a => by simp [dig]
  | n + 1, a => by
    show a % p :: dig p (n + 1) (a / p) = _
    rw [dig_succ p n (a / p)]
    simp only [dig, List.cons_append]
    rw [Nat.div_div_eq_div_mul, Nat.pow_succ, Nat.mul_comm p]
def sp_figures_of (K : PySem.W.Frag) : Sp := fun vs H Q _ => ∃ (f : Addr) (k : Kd) (a : El k), vs = [.ref f, vE a] ∧ FieldAt K H f k ∧ RetL H Q (dgV k a.v)
abbrev N_figures_of : List Str := ["field", "one", "found", "left", "place"]
theorem sc_figures_of : FnScope N_figures_of ["field", "one"] (defScope s_figures_of) := ⟨rfl, rfl, rfl, by decide +kernel, rfl, by decide +kernel, by decide +kernel⟩
def t_figures_of (K : PySem.W.Frag) : TS :=
  (tSeq (tPar 2 3 (tCons (tLst tNil) (tCons (tVar 1) tNil)))
  (tSeq (tFor (iRng1 (tCons (tFld K (tVar 0) "own_turns") tNil)) (gName 4) (tSeq (tDrop (tBM K "list" rAppend (tVar 2) (tCons (tOp oMod (tVar 3) (tFld K (tVar 0) "own_prime")) tNil)))
  (tAsg (tOp oDiv (tVar 3) (tFld K (tVar 0) "own_prime")) (gName 3))))
  (tRet (tVar 2))))
theorem ps_figures_of {f : Addr} {cdv : Value} {A : Around} {outer : List Env} {s : Shared} {H : Hp} {E : XK} (T : Txt K mg) (hr : Room 1 (A.deeper (envOfC "figures_of" (defScope s_figures_of) s.heap.objs.size f cdv))) :
    PSs (cxOf CX0 P w K mg base N_figures_of "figures_of" (defScope s_figures_of) f cdv A outer s H E).nox (defBody s_figures_of) (t_figures_of K) := by
  exact (pss_cons (ps_par (i := 2) (j := 3) (by rfl) sc_figures_of.nd rfl rfl (by decide) rfl rfl (pa_cons (pe_lst pa_nil) (pa_cons (pv 1) pa_nil)) (by rfl))
  (pss_cons (ps_for PassesOwn.never rfl (pi_range1 (by rfl) T.b_range (pa_cons (pe_fld (pv 0) rfl) pa_nil)) (pg_name (i := 4) sc_figures_of.nd rfl (Or.inl rfl)) (pss_cons (ps_expr (pe_bm PySem.F.plainAttrs_list PySem.F.slot_list_append PySem.F.type_list_append mt_append (pv 2) (pa_cons (pe_op op_mod (pv 3) (pe_fld (pv 0) rfl)) pa_nil)))
  (pss_one (ps_set (i := 3) sc_figures_of.nd rfl (Or.inl rfl) (pe_op op_fdiv (pv 3) (pe_fld (pv 0) rfl))))))
  (pss_one (ps_ret (pv 2)))))
theorem pure_figures_of (T : Txt K mg) {vs : List V} {H : Hp} {Q : VK} {E : XK} (h : sp_figures_of K vs H Q E) : t_figures_of K { nx := fun _ H' => Q .non H', rt := Q } (L2.start N_figures_of vs) H := by
  obtain ⟨f, k, a, rfl, hf, ret⟩ := h
  have hk := k.n_le
  have hp2 := k.p_two
  refine ⟨Nat.zero_le _, fun p hp => ⟨_, rfl, _, _, rfl, ?_⟩⟩
  refine ⟨_, rfl, fld_turns T (hf.same (sm_upd hp)) ?_⟩
  refine ⟨_, rfl, by omega, by omega, ?_⟩
  refine for_range (lo := 0) (n := ((k.n : Nat) : Int).toNat) (fun i σ H' => ∃ v, σ = [some (.ref f), some (vE a), some (.ref p), some (.int ((a.v / k.p ^ i : Nat) : Int)), v] ∧ Same H H' ∧ H' p = some (.lst ((dig k.p i a.v).map fun x : Nat => vI (x : Int))))
    ⟨none, by simp only [Nat.pow_zero, Nat.div_one]; rfl, sm_upd hp, upd_same⟩ ?_ ?_
  · rintro i σ H' hi ⟨v, rfl, s, hL⟩
    have hf' := hf.same s
    refine ⟨_, rfl, .inl ⟨rfl, _, SqL.of hL⟩, _, rfl, _, rfl, ?_⟩
    refine fld_prime T hf' ?_
    refine ⟨_, _, rfl, rfl, by omega, p, _, _, rfl, rfl, hL, small (by rw [List.length_map, dig_len]; omega), ?_⟩
    have s' : Same H (upd H' p (.lst ((dig k.p i a.v).map (fun x : Nat => vI (x : Int)) ++ [.int (((a.v / k.p ^ i : Nat) : Int) % (k.p : Int))]))) := sm_set s hp
    refine ⟨_, rfl, _, rfl, ?_⟩
    refine fld_prime T (hf.same s') ?_
    refine ⟨_, _, rfl, rfl, ⟨by omega, by have := k.p_le; omega⟩, ?_⟩
    have e : ((a.v / k.p ^ i : Nat) : Int) / (k.p : Int) = ((a.v / k.p ^ (i + 1) : Nat) : Int) := by
      rw [Nat.pow_succ, ← Nat.div_div_eq_div_mul]; rfl
    refine ⟨some (.int (0 + (i : Int))), by rw [← e]; rfl, s', ?_⟩
    rw [upd_same, dig_succ, List.map_append]; rfl
  · rintro σ H' ⟨v, rfl, s, hL⟩
    exact ⟨_, rfl, ret _ _ s hp hL⟩
theorem len_figures_of {vs : List V} {H : Hp} {Q : VK} {E : XK} (h : sp_figures_of K vs H Q E) : vs.length = 2 := by
  obtain ⟨f, k, a, rfl, _⟩ := h; rfl
theorem c_figures_of (T : Txt K mg) : C8.Cal P w K mg base 2 "figures_of" (sp_figures_of K) [] :=
  cal_of (k := 1) (ps := ["field", "one"]) T.d_figures_of (fun _ _ _ _ _ _ us hl => match us, hl with | [_, _], _ => rfl) sc_figures_of (fun vs H Q E h => len_figures_of h) fun f cdv A outer s H vs Q E hr h => ⟨_, ps_figures_of T hr, pure_figures_of T h⟩

/-! ### figures put together -/
def sp_by_figures_of (K : PySem.W.Frag) : Sp := fun vs H Q _ => ∃ (f r : Addr) (k : Kd) (ds : List Nat), vs = [.ref f, .ref r] ∧ FieldAt K H f k ∧ H r = some (.lst (ds.map fun x : Nat => vI (x : Int))) ∧ RetV H Q (.int (und k.p ds : Nat))
abbrev N_by_figures_of : List Str := ["field", "row", "found", "one"]
theorem sc_by_figures_of : FnScope N_by_figures_of ["field", "row"] (defScope s_by_figures_of) := ⟨rfl, rfl, rfl, by decide +kernel, rfl, by decide +kernel, by decide +kernel⟩
def t_by_figures_of (K : PySem.W.Frag) : TS :=
  (tSeq (tAsg (tC (.int 0)) (gName 2))
  (tSeq (tFor (iList K (tRevL K (tVar 1))) (gName 3) (tAsg (tOp oAdd (tOp oMul (tVar 2) (tFld K (tVar 0) "own_prime")) (tVar 3)) (gName 2)))
  (tRet (tVar 2))))
theorem ps_by_figures_of {f : Addr} {cdv : Value} {A : Around} {outer : List Env} {s : Shared} {H : Hp} {E : XK} (T : Txt K mg) (hr : Room 1 (A.deeper (envOfC "by_figures_of" (defScope s_by_figures_of) s.heap.objs.size f cdv))) :
    PSs (cxOf CX0 P w K mg base N_by_figures_of "by_figures_of" (defScope s_by_figures_of) f cdv A outer s H E).nox (defBody s_by_figures_of) (t_by_figures_of K) := by
  exact (pss_cons (ps_set (i := 2) sc_by_figures_of.nd rfl (Or.inl rfl) pe_int)
  (pss_cons (ps_for PassesOwn.never rfl (pi_list (pe_revL (pv 1))) (pg_name (i := 3) sc_by_figures_of.nd rfl (Or.inl rfl)) (pss_one (ps_set (i := 2) sc_by_figures_of.nd rfl (Or.inl rfl) (pe_op op_add (pe_op op_mul (pv 2) (pe_fld (pv 0) rfl)) (pv 3)))))
  (pss_one (ps_ret (pv 2)))))
theorem pure_by_figures_of (T : Txt K mg) {vs : List V} {H : Hp} {Q : VK} {E : XK} (h : sp_by_figures_of K vs H Q E) : t_by_figures_of K { nx := fun _ H' => Q .non H', rt := Q } (L2.start N_by_figures_of vs) H := by
  obtain ⟨f, r, k, ds, rfl, hf, hr, ret⟩ := h
  have hk := k.p_le
  refine ⟨_, rfl, r, _, rfl, SqL.of hr, fun p hp => ?_⟩
  refine ⟨p, rfl, ⟨_, SqL.of upd_same⟩, ?_⟩
  refine for_list (K := K) (a := p) (xs := (ds.map fun x : Nat => vI (x : Int)).reverse) (fun i σ H' => ∃ v, σ = [some (.ref f), some (.ref r), some (.int (und k.p (ds.reverse.take i).reverse : Nat)), v] ∧ Same (upd H p (.lst (ds.map fun x : Nat => vI (x : Int)).reverse)) H')
    ⟨none, rfl, Same.refl _⟩ (fun i σ H' _ ⟨_, _, s⟩ => s.seq (SqL.of upd_same)) ?_ ?_
  · rintro i x σ H' hx ⟨v, rfl, s⟩
    rw [← List.map_reverse, List.getElem?_map] at hx
    cases e : ds.reverse[i]? with
    | none => rw [e] at hx; cases hx
    | some d =>
      rw [e] at hx
      obtain rfl := Option.some.inj hx
      refine ⟨_, rfl, _, rfl, ?_⟩
      refine fld_prime T (hf.same (sm_upd' (Same.refl _) hp |>.trans s)) ?_
      refine ⟨_, _, rfl, rfl, .inr ⟨by omega, by omega⟩, _, rfl, _, _, rfl, rfl, ?_⟩
      refine ⟨some (vI (d : Int)), ?_, s⟩
      have e2 : ((und k.p (ds.reverse.take (i + 1)).reverse : Nat) : Int) = ((und k.p (ds.reverse.take i).reverse : Nat) : Int) * (k.p : Int) + (d : Int) := by
        rw [take_succ' e, List.reverse_append]
        simp only [List.reverse_cons, List.reverse_nil, List.nil_append, List.cons_append, und]
        push_cast
        rw [Int.mul_comm, Int.add_comm]
      rw [e2]; rfl
  · rintro σ H' ⟨v, rfl, s⟩
    refine ⟨_, rfl, ?_⟩
    have e : (ds.reverse.take ((ds.map fun x : Nat => vI (x : Int)).reverse.length)).reverse = ds := by
      rw [List.take_of_length_le (by simp)]; simp
    rw [e]
    exact ret _ ((sm_upd hp).trans s)
theorem len_by_figures_of {vs : List V} {H : Hp} {Q : VK} {E : XK} (h : sp_by_figures_of K vs H Q E) : vs.length = 2 := by
  obtain ⟨f, r, k, ds, rfl, _⟩ := h; rfl
theorem c_by_figures_of (T : Txt K mg) : C8.Cal P w K mg base 2 "by_figures_of" (sp_by_figures_of K) [] :=
  cal_of (k := 1) (ps := ["field", "row"]) T.d_by_figures_of (fun _ _ _ _ _ _ us hl => match us, hl with | [_, _], _ => rfl) sc_by_figures_of (fun vs H Q E h => len_by_figures_of h) fun f cdv A outer s H vs Q E hr h => ⟨_, ps_by_figures_of T hr, pure_by_figures_of T h⟩

/-! ### the sum -/
theorem vE_zero {k : Kd} (a : El k) : decide (vE a = V.int 0) = decide (a = 0) := by
  by_cases h : a = 0
  · rw [h]; rfl
  · rw [decide_eq_false h, decide_eq_false]
    intro e
    have e2 : (a.v : Int) = 0 := V.int.inj e
    exact h (El.eq_zero.mpr (by omega))
def sp_plus_of (K : PySem.W.Frag) : Sp := fun vs H Q _ => ∃ (f : Addr) (k : Kd) (a b : El k), vs = [.ref f, vE a, vE b] ∧ FieldAt K H f k ∧ RetV H Q (vE (a + b))
abbrev N_plus_of : List Str := ["field", "one", "other", "pairs", "near", "far"]
theorem sc_plus_of : FnScope N_plus_of ["field", "one", "other"] (defScope s_plus_of) := ⟨rfl, rfl, rfl, by decide +kernel, rfl, by decide +kernel, by decide +kernel⟩
def t_plus_of (K : PySem.W.Frag) (n : Nat) : TS :=
  (tSeq (tIfS (tOr (tTest (tOp rEq (tVar 1) (tC (.int 0)))) (tTest (tOp rEq (tVar 2) (tC (.int 0))))) (tRet (tOp oAdd (tVar 1) (tVar 2))) tNext)
  (tSeq (tAsg (tCB (rZipV K n) (tCons (tCall (sp_figures_of K) [] E0 (tCons (tVar 0) (tCons (tVar 1) tNil))) (tCons (tCall (sp_figures_of K) [] E0 (tCons (tVar 0) (tCons (tVar 2) tNil))) tNil))) (gName 3))
  (tRet (tCall (sp_by_figures_of K) [] E0 (tCons (tVar 0) (tCons (tLc (iZipV K n 3) (gTup K 2 (gCons (gName 4) (gCons (gName 5) gNil))) tYes (tOp oMod (tOp oAdd (tVar 4) (tVar 5)) (tFld K (tVar 0) "own_prime")) [4, 5]) tNil))))))
theorem ps_plus_of {f : Addr} {cdv : Value} {A : Around} {outer : List Env} {s : Shared} {H : Hp} {E : XK} (T : Txt K mg) (hr : Room 2 (A.deeper (envOfC "plus_of" (defScope s_plus_of) s.heap.objs.size f cdv))) :
    PSs (cxOf CX0 P w K mg base N_plus_of "plus_of" (defScope s_plus_of) f cdv A outer s H E).nox (defBody s_plus_of) (t_plus_of K s.heap.objs.size) := by
  exact (pss_cons (ps_if (PW.pt (pw_or (pt_cmpR op_eq (pv 1) pe_int (nomark _)) (pw_or1 (pt_cmpR op_eq (pv 2) pe_int (nomark _))))) (pss_one (ps_ret (pe_op op_add (pv 1) (pv 2)))) pss_nil)
  (pss_cons (ps_set (i := 3) sc_plus_of.nd rfl (Or.inl rfl) (pe_callTy call_zipV (by rfl) T.b_zip (by decide +kernel) (pa_cons (C8.pe_c (c_figures_of T) hr (by decide) (by rfl) (pa_cons (pv 0) (pa_cons (pv 1) pa_nil))) (pa_cons (C8.pe_c (c_figures_of T) hr (by decide) (by rfl) (pa_cons (pv 0) (pa_cons (pv 2) pa_nil))) pa_nil))))
  (pss_one (ps_ret (C8.pe_c (c_by_figures_of T) hr (by decide) (by rfl) (pa_cons (pv 0) (pa_cons (pe_lc (own := [("near", 4), ("far", 5)]) (g := (gTup K 2 (gCons (gName 4) (gCons (gName 5) gNil)))) (tt := tYes) (te := (tOp oMod (tOp oAdd (tVar 4) (tVar 5)) (tFld K (tVar 0) "own_prime"))) (by rfl) sc_plus_of.nd (pi_zipV (k := 3) rfl (Or.inl rfl)) (blkOk_by (own := [("near", 4), ("far", 5)]) (N := N_plus_of) (sc := defScope s_plus_of) (by decide +kernel)) (fun _ _ _ _ _ => (pg_tup (by rfl) (pgs_cons (pg_name (i := 4) sc_plus_of.nd rfl (Or.inl rfl)) (pgs_cons (pg_name (i := 5) sc_plus_of.nd rfl (Or.inl rfl)) pgs_nil)))) (fun _ _ _ _ _ => pts_nil) (fun _ _ _ _ _ => (pe_op op_mod (pe_op op_add (pv 4) (pv 5)) (pe_fld (pv 0) rfl)))) pa_nil)))))))
theorem zip_of {H : Hp} {i : Nat} {x y : V} {as bs : List Nat} {T : Addr} {H' : Hp} {v : V} (h : YPair (fun i => (as.map fun x : Nat => vI (x : Int))[i]?) (fun i => (bs.map fun x : Nat => vI (x : Int))[i]?) i H v H') :
    ∃ (T : Addr) (a b : Nat), v = .ref T ∧ H T = none ∧ H' = upd H T (.tup [vI (a : Int), vI (b : Int)]) ∧ as[i]? = some a ∧ bs[i]? = some b := by
  obtain ⟨T, x, y, h1, h2, h3, h4, h5⟩ := h
  simp only [List.getElem?_map] at h4 h5
  cases ea : as[i]? with
  | none => rw [ea] at h4; cases h4
  | some a =>
    cases eb : bs[i]? with
    | none => rw [eb] at h5; cases h5
    | some b =>
      rw [ea] at h4; rw [eb] at h5
      obtain rfl := Option.some.inj h4
      obtain rfl := Option.some.inj h5
      exact ⟨T, a, b, h1, h2, h3, rfl, rfl⟩
theorem zipW_take {α β γ : Type} (g : α → β → γ) {as : List α} {bs : List β} {i : Nat} {a : α} {b : β} (ha : as[i]? = some a) (hb : bs[i]? = some b) :
    (List.zipWith g as bs).take (i + 1) = (List.zipWith g as bs).take i ++ [g a b] := take_succ' (by rw [List.getElem?_zipWith, ha, hb])
theorem pure_plus_of (T : Txt K mg) {n : Nat} {vs : List V} {H : Hp} {Q : VK} {E : XK} (h : sp_plus_of K vs H Q E) : t_plus_of K n { nx := fun _ H' => Q .non H', rt := Q } (L2.start N_plus_of vs) H := by
  obtain ⟨f, k, a, b, rfl, hf, ret⟩ := h
  have h0 : ∀ x : El k, x = 0 → (x.v : Int) = 0 := fun x e => by rw [e]; rfl
  refine ⟨_, rfl, rfl, _, rfl, ?_⟩
  refine ite2 (fun hc => iteT ?_) (fun hc => ?_)
  · rw [vE_zero] at hc
    have ea := of_decide_eq_true hc
    refine ⟨_, rfl, _, rfl, _, _, rfl, rfl, ?_⟩
    have e : V.int ((a.v : Int) + (b.v : Int)) = vE (a + b) := by
      have : a + b = b := by rw [ea]; grind
      rw [this, h0 a ea]; unfold vE; rw [Int.zero_add]
    have r := ret H (Same.refl H)
    rw [← e] at r
    exact r
  · refine ⟨_, rfl, rfl, _, rfl, ?_⟩
    refine ite2 (fun hc2 => ?_) (fun hc2 => ?_)
    · rw [vE_zero] at hc2
      have eb := of_decide_eq_true hc2
      refine ⟨_, rfl, _, rfl, _, _, rfl, rfl, ?_⟩
      have e : V.int ((a.v : Int) + (b.v : Int)) = vE (a + b) := by
        have : a + b = a := by rw [eb]; grind
        rw [this, h0 b eb]; unfold vE; rw [Int.add_zero]
      have r := ret H (Same.refl H)
      rw [← e] at r
      exact r
    · -- pairs = zip(..)
      refine ⟨_, rfl, _, rfl, f, k, a, rfl, hf, fun H1 p1 s1 n1 e1 => ?_⟩
      refine ⟨_, rfl, _, rfl, f, k, b, rfl, hf.same s1, fun H2 p2 s2 n2 e2 => ?_⟩
      have s12 := s1.trans s2
      have e1' := s2 _ _ e1
      refine ⟨p1, p2, _, _, rfl, SqL.of e1', SqL.of e2, fun z H3 hz => ?_⟩
      refine ⟨_, rfl, ?_⟩
      refine ⟨z, p1, p2, H2, rfl, hz, fun D hD => ?_⟩
      have len1 : ∀ x : El k, (dgV k x.v).length = k.n := fun x => by simp [dgV, dig_len]
      have hk := k.n_le
      refine lc_it (walk_zip (xs := dgV k a.v) (ys := dgV k b.v) (n := k.n) (by rw [len1, len1, Nat.min_self])) (LcP H2 D fun i => ((List.zipWith (fun x y => (x + y) % k.p) (dig k.p k.n a.v) (dig k.p k.n b.v)).take i).map fun x : Nat => vI (x : Int))
        (lcp_start hD rfl) (fun i H' _ h => ⟨h.1.seq (SqL.of e1'), h.1.seq (SqL.of e2)⟩) ?_ ?_
      · intro i x H' H'' hi hp y
        obtain ⟨t, u, v, rfl, ht, rfl, hu, hv⟩ := zip_of (x := .non) (y := .non) (T := 0) y
        refine pair_tgt upd_same ⟨rfl, lcY ?_⟩
        refine ⟨_, rfl, _, rfl, _, _, rfl, rfl, _, rfl, ?_⟩
        refine fld_prime T (hf.same (s12.trans (hp.1.trans (sm_upd ht)))) ?_
        refine ⟨_, _, rfl, rfl, by have := k.p_pos; omega, ?_⟩
        refine lcp_next hD hp (sm_upd ht) ?_ (small (by simp [dig_len]; omega))
        simp only [zipW_take _ hu hv, List.map_append]
        rfl
      · intro H4 hp
        refine ⟨f, D, k, List.zipWith (fun x y => (x + y) % k.p) (dig k.p k.n a.v) (dig k.p k.n b.v), rfl, hf.same (s12.trans hp.1), ?_, fun H5 s5 => ?_⟩
        · have h2 := hp.2
          dsimp only at h2
          rw [List.take_of_length_le (by simp [dig_len])] at h2
          exact h2
        · exact ret _ (s12.trans (hp.1.trans s5))
theorem len_plus_of {vs : List V} {H : Hp} {Q : VK} {E : XK} (h : sp_plus_of K vs H Q E) : vs.length = 3 := by
  obtain ⟨f, k, a, b, rfl, _⟩ := h; rfl
theorem c_plus_of (T : Txt K mg) : C8.Cal P w K mg base 3 "plus_of" (sp_plus_of K) [] :=
  cal_of (k := 2) (ps := ["field", "one", "other"]) T.d_plus_of (fun _ _ _ _ _ _ us hl => match us, hl with | [_, _, _], _ => rfl) sc_plus_of (fun vs H Q E h => len_plus_of h) fun f cdv A outer s H vs Q E hr h => ⟨_, ps_plus_of T hr, pure_plus_of T (n := s.heap.objs.size) h⟩
end
end Tp
namespace Tp
open PySem PySem.Spec PyProof.Rows L2 Gab
section
variable {P : Program} {w : World} {K : PySem.W.Frag} {mg : Str → Option Value} {base : Heap}
/-! ### the difference -/
def sp_minus_of (K : PySem.W.Frag) : Sp := fun vs H Q _ => ∃ (f : Addr) (k : Kd) (a b : El k), vs = [.ref f, vE a, vE b] ∧ FieldAt K H f k ∧ RetV H Q (vE (a - b))
abbrev N_minus_of : List Str := ["field", "one", "other", "pairs", "near", "far"]
theorem sc_minus_of : FnScope N_minus_of ["field", "one", "other"] (defScope s_minus_of) := ⟨rfl, rfl, rfl, by decide +kernel, rfl, by decide +kernel, by decide +kernel⟩
def t_minus_of (K : PySem.W.Frag) (n : Nat) : TS :=
  (tSeq (tIfS (tTest (tOp rEq (tVar 2) (tC (.int 0)))) (tRet (tVar 1)) tNext)
  (tSeq (tAsg (tCB (rZipV K n) (tCons (tCall (sp_figures_of K) [] E0 (tCons (tVar 0) (tCons (tVar 1) tNil))) (tCons (tCall (sp_figures_of K) [] E0 (tCons (tVar 0) (tCons (tVar 2) tNil))) tNil))) (gName 3))
  (tRet (tCall (sp_by_figures_of K) [] E0 (tCons (tVar 0) (tCons (tLc (iZipV K n 3) (gTup K 2 (gCons (gName 4) (gCons (gName 5) gNil))) tYes (tOp oMod (tOp oSub (tVar 4) (tVar 5)) (tFld K (tVar 0) "own_prime")) [4, 5]) tNil))))))
theorem ps_minus_of {f : Addr} {cdv : Value} {A : Around} {outer : List Env} {s : Shared} {H : Hp} {E : XK} (T : Txt K mg) (hr : Room 2 (A.deeper (envOfC "minus_of" (defScope s_minus_of) s.heap.objs.size f cdv))) :
    PSs (cxOf CX0 P w K mg base N_minus_of "minus_of" (defScope s_minus_of) f cdv A outer s H E).nox (defBody s_minus_of) (t_minus_of K s.heap.objs.size) := by
  exact (pss_cons (ps_if (pt_cmpR op_eq (pv 2) pe_int (nomark _)) (pss_one (ps_ret (pv 1))) pss_nil)
  (pss_cons (ps_set (i := 3) sc_minus_of.nd rfl (Or.inl rfl) (pe_callTy call_zipV (by rfl) T.b_zip (by decide +kernel) (pa_cons (C8.pe_c (c_figures_of T) hr (by decide) (by rfl) (pa_cons (pv 0) (pa_cons (pv 1) pa_nil))) (pa_cons (C8.pe_c (c_figures_of T) hr (by decide) (by rfl) (pa_cons (pv 0) (pa_cons (pv 2) pa_nil))) pa_nil))))
  (pss_one (ps_ret (C8.pe_c (c_by_figures_of T) hr (by decide) (by rfl) (pa_cons (pv 0) (pa_cons (pe_lc (own := [("near", 4), ("far", 5)]) (g := (gTup K 2 (gCons (gName 4) (gCons (gName 5) gNil)))) (tt := tYes) (te := (tOp oMod (tOp oSub (tVar 4) (tVar 5)) (tFld K (tVar 0) "own_prime"))) (by rfl) sc_minus_of.nd (pi_zipV (k := 3) rfl (Or.inl rfl)) (blkOk_by (own := [("near", 4), ("far", 5)]) (N := N_minus_of) (sc := defScope s_minus_of) (by decide +kernel)) (fun _ _ _ _ _ => (pg_tup (by rfl) (pgs_cons (pg_name (i := 4) sc_minus_of.nd rfl (Or.inl rfl)) (pgs_cons (pg_name (i := 5) sc_minus_of.nd rfl (Or.inl rfl)) pgs_nil)))) (fun _ _ _ _ _ => pts_nil) (fun _ _ _ _ _ => (pe_op op_mod (pe_op op_sub (pv 4) (pv 5)) (pe_fld (pv 0) rfl)))) pa_nil)))))))
theorem getD_lt {p n a i v : Nat} (hp : 0 < p) (h : (dig p n a)[i]? = some v) : v < p := by
  exact dig_lt hp n a v (List.mem_of_getElem? h)
theorem pure_minus_of (T : Txt K mg) {n : Nat} {vs : List V} {H : Hp} {Q : VK} {E : XK} (h : sp_minus_of K vs H Q E) : t_minus_of K n { nx := fun _ H' => Q .non H', rt := Q } (L2.start N_minus_of vs) H := by
  obtain ⟨f, k, a, b, rfl, hf, ret⟩ := h
  refine ⟨_, rfl, rfl, _, rfl, ?_⟩
  refine ite2 (fun hc => ?_) (fun hc => ?_)
  · rw [vE_zero] at hc
    have eb := of_decide_eq_true hc
    refine ⟨_, rfl, ?_⟩
    have e : a - b = a := by rw [eb]; grind
    have r := ret H (Same.refl H)
    rw [e] at r
    exact r
  · refine ⟨_, rfl, _, rfl, f, k, a, rfl, hf, fun H1 p1 s1 n1 e1 => ?_⟩
    refine ⟨_, rfl, _, rfl, f, k, b, rfl, hf.same s1, fun H2 p2 s2 n2 e2 => ?_⟩
    have s12 := s1.trans s2
    have e1' := s2 _ _ e1
    refine ⟨p1, p2, _, _, rfl, SqL.of e1', SqL.of e2, fun z H3 hz => ?_⟩
    refine ⟨_, rfl, ?_⟩
    refine ⟨z, p1, p2, H2, rfl, hz, fun D hD => ?_⟩
    have len1 : ∀ x : El k, (dgV k x.v).length = k.n := fun x => by simp [dgV, dig_len]
    have hk := k.n_le
    refine lc_it (walk_zip (xs := dgV k a.v) (ys := dgV k b.v) (n := k.n) (by rw [len1, len1, Nat.min_self])) (LcP H2 D fun i => ((List.zipWith (fun x y => (x + (k.p - y)) % k.p) (dig k.p k.n a.v) (dig k.p k.n b.v)).take i).map fun x : Nat => vI (x : Int))
      (lcp_start hD rfl) (fun i H' _ h => ⟨h.1.seq (SqL.of e1'), h.1.seq (SqL.of e2)⟩) ?_ ?_
    · intro i x H' H'' hi hp y
      obtain ⟨t, u, v, rfl, ht, rfl, hu, hv⟩ := zip_of (x := .non) (y := .non) (T := 0) y
      refine pair_tgt upd_same ⟨rfl, lcY ?_⟩
      refine ⟨_, rfl, _, rfl, _, _, rfl, rfl, _, rfl, ?_⟩
      refine fld_prime T (hf.same (s12.trans (hp.1.trans (sm_upd ht)))) ?_
      refine ⟨_, _, rfl, rfl, by have := k.p_pos; omega, ?_⟩
      refine lcp_next hD hp (sm_upd ht) ?_ (small (by simp [dig_len]; omega))
      simp only [zipW_take _ hu hv, List.map_append]
      have hv' := getD_lt k.p_pos hv
      have e : ((u : Int) - (v : Int)) % (k.p : Int) = (((u + (k.p - v)) % k.p : Nat) : Int) := by
        rw [Int.natCast_emod, Int.natCast_add, Int.ofNat_sub (Nat.le_of_lt hv')]
        have : (u : Int) + ((k.p : Int) - (v : Int)) = ((u : Int) - (v : Int)) + (k.p : Int) := by omega
        rw [this, Int.add_emod_right]
      rw [e]
      rfl
    · intro H4 hp
      refine ⟨f, D, k, List.zipWith (fun x y => (x + (k.p - y)) % k.p) (dig k.p k.n a.v) (dig k.p k.n b.v), rfl, hf.same (s12.trans hp.1), ?_, fun H5 s5 => ?_⟩
      · have h2 := hp.2
        dsimp only at h2
        rw [List.take_of_length_le (by simp [dig_len])] at h2
        exact h2
      · exact ret _ (s12.trans (hp.1.trans s5))
theorem len_minus_of {vs : List V} {H : Hp} {Q : VK} {E : XK} (h : sp_minus_of K vs H Q E) : vs.length = 3 := by
  obtain ⟨f, k, a, b, rfl, _⟩ := h; rfl
theorem c_minus_of (T : Txt K mg) : C8.Cal P w K mg base 3 "minus_of" (sp_minus_of K) [] :=
  cal_of (k := 2) (ps := ["field", "one", "other"]) T.d_minus_of (fun _ _ _ _ _ _ us hl => match us, hl with | [_, _, _], _ => rfl) sc_minus_of (fun vs H Q E h => len_minus_of h) fun f cdv A outer s H vs Q E hr h => ⟨_, ps_minus_of T hr, pure_minus_of T (n := s.heap.objs.size) h⟩

/-! ### products -/
theorem lg_at (k : Kd) (a : El k) (h : a ≠ 0) : atI (lgL k) (a.v : Int) = some (vI (k.lg a.v : Int)) := by
  refine atI_nat ?_
  have hv : a.v ≠ 0 := fun e => h (El.eq_zero.mpr e)
  have hl := a.lt
  unfold lgL
  cases e : a.v with
  | zero => exact absurd e hv
  | succ i =>
    rw [List.getElem?_cons_succ, List.getElem?_map, List.getElem?_drop, Nat.add_comm 1 i, ← e]
    have : a.v < k.lgs.length := by rw [k.lgs_len]; exact hl
    rw [List.getElem?_eq_getElem this]
    show some (vI ((k.lgs[a.v] : Nat) : Int)) = _
    unfold Kd.lg
    rw [List.getD_eq_getElem?_getD, List.getElem?_eq_getElem this]
    rfl
theorem pw_at (k : Kd) (i : Nat) {z : Int} (e : z = ((i % (k.q - 1) : Nat) : Int)) : atI (pwL k) z = some (vI (k.pw i : Int)) := by
  rw [e]
  refine atI_nat ?_
  have hi := Nat.mod_lt i k.qm
  unfold pwL Kd.pw
  have : i % (k.q - 1) < k.pws.length := by rw [k.pws_len]; exact hi
  rw [List.getElem?_map, List.getElem?_eq_getElem this, List.getD_eq_getElem?_getD, List.getElem?_eq_getElem this]
  rfl
theorem vE_mk {k : Kd} {a : El k} {n : Nat} (h : a.v = n) : vE a = V.int (n : Int) := by unfold vE; rw [h]
theorem mul_pw (k : Kd) {a b : El k} (ha : a ≠ 0) (hb : b ≠ 0) : vE (a * b) = vI (k.pw (k.lg a.v + k.lg b.v) : Int) :=
  vE_mk (k.mulN_ne (fun e => ha (El.eq_zero.mpr e)) fun e => hb (El.eq_zero.mpr e))
theorem qm1 (k : Kd) : ((k.q : Nat) : Int) - 1 = ((k.q - 1 : Nat) : Int) := by have := k.q_ge; omega
def sp_times_of (K : PySem.W.Frag) : Sp := fun vs H Q _ => ∃ (f : Addr) (k : Kd) (a b : El k), vs = [.ref f, vE a, vE b] ∧ FieldAt K H f k ∧ RetV H Q (vE (a * b))
abbrev N_times_of : List Str := ["field", "one", "other"]
theorem sc_times_of : FnScope N_times_of ["field", "one", "other"] (defScope s_times_of) := ⟨rfl, rfl, rfl, by decide +kernel, rfl, by decide +kernel, by decide +kernel⟩
def t_times_of (K : PySem.W.Frag) : TS :=
  (tSeq (tIfS (tOr (tTest (tOp rEq (tVar 1) (tC (.int 0)))) (tTest (tOp rEq (tVar 2) (tC (.int 0))))) (tRet (tC (.int 0))) tNext)
  (tRet (tOp (rIxL K) (tFld K (tVar 0) "own_powers") (tOp oMod (tOp oAdd (tOp (rIxL K) (tFld K (tVar 0) "own_logs") (tVar 1)) (tOp (rIxL K) (tFld K (tVar 0) "own_logs") (tVar 2))) (tOp oSub (tFld K (tVar 0) "own_size") (tC (.int 1)))))))
theorem ps_times_of {f : Addr} {cdv : Value} {A : Around} {outer : List Env} {s : Shared} {H : Hp} {E : XK} (T : Txt K mg) (hr : Room 1 (A.deeper (envOfC "times_of" (defScope s_times_of) s.heap.objs.size f cdv))) :
    PSs (cxOf CX0 P w K mg base N_times_of "times_of" (defScope s_times_of) f cdv A outer s H E).nox (defBody s_times_of) (t_times_of K) := by
  exact (pss_cons (ps_if (PW.pt (pw_or (pt_cmpR op_eq (pv 1) pe_int (nomark _)) (pw_or1 (pt_cmpR op_eq (pv 2) pe_int (nomark _))))) (pss_one (ps_ret pe_int)) pss_nil)
  (pss_one (ps_ret (pe_ix ix_list (pe_fld (pv 0) rfl) (pe_op op_mod (pe_op op_add (pe_ix ix_list (pe_fld (pv 0) rfl) (pv 1) (fun _ _ => rfl)) (pe_ix ix_list (pe_fld (pv 0) rfl) (pv 2) (fun _ _ => rfl))) (pe_op op_sub (pe_fld (pv 0) rfl) pe_int)) (fun _ _ => rfl)))))
theorem pure_times_of (T : Txt K mg) {vs : List V} {H : Hp} {Q : VK} {E : XK} (h : sp_times_of K vs H Q E) : t_times_of K { nx := fun _ H' => Q .non H', rt := Q } (L2.start N_times_of vs) H := by
  obtain ⟨f, k, a, b, rfl, hf, ret⟩ := h
  have r := ret H (Same.refl H)
  refine ⟨_, rfl, rfl, _, rfl, ?_⟩
  refine ite2 (fun hc => iteT ?_) (fun hc => ?_)
  · rw [vE_zero] at hc
    have ea := of_decide_eq_true hc
    have e : a * b = 0 := by rw [ea]; grind
    rw [e] at r
    exact r
  · refine ⟨_, rfl, rfl, _, rfl, ?_⟩
    refine ite2 (fun hc2 => ?_) (fun hc2 => ?_)
    · rw [vE_zero] at hc2
      have eb := of_decide_eq_true hc2
      have e : a * b = 0 := by rw [eb]; grind
      rw [e] at r
      exact r
    · rw [vE_zero] at hc hc2
      have ha : a ≠ 0 := fun e => hc (decide_eq_true e)
      have hb : b ≠ 0 := fun e => hc2 (decide_eq_true e)
      refine ⟨_, rfl, ?_⟩
      refine fld_powers T hf fun pw hpw => ?_
      refine ⟨_, rfl, ?_⟩
      refine fld_logs T hf fun lg hlg => ?_
      refine ⟨_, rfl, lg, _, _, _, rfl, rfl, SqL.of hlg, lg_at k a ha, ?_⟩
      refine ⟨_, rfl, ?_⟩
      refine fld_logs T hf fun lg hlg => ?_
      refine ⟨_, rfl, lg, _, _, _, rfl, rfl, SqL.of hlg, lg_at k b hb, _, _, rfl, rfl, ?_⟩
      refine ⟨_, rfl, ?_⟩
      refine fld_size T hf ?_
      refine ⟨_, _, rfl, rfl, _, _, rfl, rfl, by have := k.q_ge; omega, ?_⟩
      refine ⟨pw, _, _, _, rfl, rfl, SqL.of hpw, pw_at k (k.lg a.v + k.lg b.v) ?_, ?_⟩
      · rw [qm1]; rfl
      · rw [← mul_pw k ha hb]; exact r
theorem len_times_of {vs : List V} {H : Hp} {Q : VK} {E : XK} (h : sp_times_of K vs H Q E) : vs.length = 3 := by
  obtain ⟨f, k, a, b, rfl, _⟩ := h; rfl
theorem c_times_of (T : Txt K mg) : C8.Cal P w K mg base 2 "times_of" (sp_times_of K) [] :=
  cal_of (k := 1) (ps := ["field", "one", "other"]) T.d_times_of (fun _ _ _ _ _ _ us hl => match us, hl with | [_, _, _], _ => rfl) sc_times_of (fun vs H Q E h => len_times_of h) fun f cdv A outer s H vs Q E hr h => ⟨_, ps_times_of T hr, pure_times_of T h⟩
theorem div_pw (k : Kd) {a b : El k} (ha : a ≠ 0) (hb : b ≠ 0) : vE (a * (El.T k).inv b) = vI (k.pw (k.lg a.v + (k.q - 1 - k.lg b.v)) : Int) := by
  have hi : (El.T k).inv b ≠ 0 := (El.T k).invne hb
  rw [mul_pw k ha hi]
  congr 1
  have e : k.lg ((El.T k).inv b).v = (k.q - 1 - k.lg b.v) % (k.q - 1) := k.lg_pw' _
  rw [e, k.pw_congr (i := k.lg a.v + (k.q - 1 - k.lg b.v) % (k.q - 1)) (j := k.lg a.v + (k.q - 1 - k.lg b.v)) (by rw [Nat.add_mod_mod])]
def sp_over_of (K : PySem.W.Frag) : Sp := fun vs H Q _ => ∃ (f : Addr) (k : Kd) (a b : El k), vs = [.ref f, vE a, vE b] ∧ FieldAt K H f k ∧ b ≠ 0 ∧ RetV H Q (vE (a * (El.T k).inv b))
abbrev N_over_of : List Str := ["field", "one", "other"]
theorem sc_over_of : FnScope N_over_of ["field", "one", "other"] (defScope s_over_of) := ⟨rfl, rfl, rfl, by decide +kernel, rfl, by decide +kernel, by decide +kernel⟩
def t_over_of (K : PySem.W.Frag) : TS :=
  (tSeq (tIfS (tTest (tOp rEq (tVar 1) (tC (.int 0)))) (tRet (tC (.int 0))) tNext)
  (tRet (tOp (rIxL K) (tFld K (tVar 0) "own_powers") (tOp oMod (tOp oSub (tOp (rIxL K) (tFld K (tVar 0) "own_logs") (tVar 1)) (tOp (rIxL K) (tFld K (tVar 0) "own_logs") (tVar 2))) (tOp oSub (tFld K (tVar 0) "own_size") (tC (.int 1)))))))
theorem ps_over_of {f : Addr} {cdv : Value} {A : Around} {outer : List Env} {s : Shared} {H : Hp} {E : XK} (T : Txt K mg) (hr : Room 1 (A.deeper (envOfC "over_of" (defScope s_over_of) s.heap.objs.size f cdv))) :
    PSs (cxOf CX0 P w K mg base N_over_of "over_of" (defScope s_over_of) f cdv A outer s H E).nox (defBody s_over_of) (t_over_of K) := by
  exact (pss_cons (ps_if (pt_cmpR op_eq (pv 1) pe_int (nomark _)) (pss_one (ps_ret pe_int)) pss_nil)
  (pss_one (ps_ret (pe_ix ix_list (pe_fld (pv 0) rfl) (pe_op op_mod (pe_op op_sub (pe_ix ix_list (pe_fld (pv 0) rfl) (pv 1) (fun _ _ => rfl)) (pe_ix ix_list (pe_fld (pv 0) rfl) (pv 2) (fun _ _ => rfl))) (pe_op op_sub (pe_fld (pv 0) rfl) pe_int)) (fun _ _ => rfl)))))
theorem pure_over_of (T : Txt K mg) {vs : List V} {H : Hp} {Q : VK} {E : XK} (h : sp_over_of K vs H Q E) : t_over_of K { nx := fun _ H' => Q .non H', rt := Q } (L2.start N_over_of vs) H := by
  obtain ⟨f, k, a, b, rfl, hf, hb, ret⟩ := h
  have r := ret H (Same.refl H)
  refine ⟨_, rfl, rfl, _, rfl, ?_⟩
  refine ite2 (fun hc => ?_) (fun hc => ?_)
  · rw [vE_zero] at hc
    have ea := of_decide_eq_true hc
    have e : a * (El.T k).inv b = 0 := by rw [ea]; grind
    rw [e] at r
    exact r
  · rw [vE_zero] at hc
    have ha : a ≠ 0 := fun e => hc (decide_eq_true e)
    refine ⟨_, rfl, ?_⟩
    refine fld_powers T hf fun pw hpw => ?_
    refine ⟨_, rfl, ?_⟩
    refine fld_logs T hf fun lg hlg => ?_
    refine ⟨_, rfl, lg, _, _, _, rfl, rfl, SqL.of hlg, lg_at k a ha, ?_⟩
    refine ⟨_, rfl, ?_⟩
    refine fld_logs T hf fun lg hlg => ?_
    refine ⟨_, rfl, lg, _, _, _, rfl, rfl, SqL.of hlg, lg_at k b hb, _, _, rfl, rfl, ?_⟩
    refine ⟨_, rfl, ?_⟩
    refine fld_size T hf ?_
    refine ⟨_, _, rfl, rfl, _, _, rfl, rfl, by have := k.q_ge; omega, ?_⟩
    refine ⟨pw, _, _, _, rfl, rfl, SqL.of hpw, pw_at k (k.lg a.v + (k.q - 1 - k.lg b.v)) ?_, ?_⟩
    · rw [qm1, Int.natCast_emod, Int.natCast_add, Int.ofNat_sub (Nat.le_of_lt (k.lg_lt _ b.lt))]
      have : (k.lg a.v : Int) + (((k.q - 1 : Nat) : Int) - (k.lg b.v : Int)) = ((k.lg a.v : Int) - (k.lg b.v : Int)) + ((k.q - 1 : Nat) : Int) := by omega
      rw [this, Int.add_emod_right]
    · rw [← div_pw k ha hb]; exact r
theorem len_over_of {vs : List V} {H : Hp} {Q : VK} {E : XK} (h : sp_over_of K vs H Q E) : vs.length = 3 := by
  obtain ⟨f, k, a, b, rfl, _⟩ := h; rfl
theorem c_over_of (T : Txt K mg) : C8.Cal P w K mg base 2 "over_of" (sp_over_of K) [] :=
  cal_of (k := 1) (ps := ["field", "one", "other"]) T.d_over_of (fun _ _ _ _ _ _ us hl => match us, hl with | [_, _, _], _ => rfl) sc_over_of (fun vs H Q E h => len_over_of h) fun f cdv A outer s H vs Q E hr h => ⟨_, ps_over_of T hr, pure_over_of T h⟩
/-! ### turns -/
theorem s_pw (k : Kd) {a : El k} (ha : a ≠ 0) : vE ((El.T k).s a) = vI (k.pw (k.lg a.v * k.p) : Int) := by
  refine vE_mk ?_
  show k.sN a.v = _
  unfold Kd.sN
  rw [if_neg fun e => ha (El.eq_zero.mpr e)]
def sp_power_of (K : PySem.W.Frag) : Sp := fun vs H Q _ => ∃ (f : Addr) (k : Kd) (a : El k), vs = [.ref f, vE a, .int (k.p : Int)] ∧ FieldAt K H f k ∧ RetV H Q (vE ((El.T k).s a))
abbrev N_power_of : List Str := ["field", "one", "many"]
theorem sc_power_of : FnScope N_power_of ["field", "one", "many"] (defScope s_power_of) := ⟨rfl, rfl, rfl, by decide +kernel, rfl, by decide +kernel, by decide +kernel⟩
def t_power_of (K : PySem.W.Frag) : TS :=
  (tSeq (tIfS (tTest (tOp rEq (tVar 2) (tC (.int 0)))) (tRet (tC (.int 1))) tNext)
  (tRet (tIf (tTest (tOp rNe (tVar 1) (tC (.int 0)))) (tOp (rIxL K) (tFld K (tVar 0) "own_powers") (tOp oMod (tOp oMul (tOp (rIxL K) (tFld K (tVar 0) "own_logs") (tVar 1)) (tVar 2)) (tOp oSub (tFld K (tVar 0) "own_size") (tC (.int 1))))) (tC (.int 0)))))
theorem ps_power_of {f : Addr} {cdv : Value} {A : Around} {outer : List Env} {s : Shared} {H : Hp} {E : XK} (T : Txt K mg) (hr : Room 1 (A.deeper (envOfC "power_of" (defScope s_power_of) s.heap.objs.size f cdv))) :
    PSs (cxOf CX0 P w K mg base N_power_of "power_of" (defScope s_power_of) f cdv A outer s H E).nox (defBody s_power_of) (t_power_of K) := by
  exact (pss_cons (ps_if (pt_cmpR op_eq (pv 2) pe_int (nomark _)) (pss_one (ps_ret pe_int)) pss_nil)
  (pss_one (ps_ret (pe_ifExp (pt_cmpR op_ne (pv 1) pe_int (nomark _)) (pe_ix ix_list (pe_fld (pv 0) rfl) (pe_op op_mod (pe_op op_mul (pe_ix ix_list (pe_fld (pv 0) rfl) (pv 1) (fun _ _ => rfl)) (pv 2)) (pe_op op_sub (pe_fld (pv 0) rfl) pe_int)) (fun _ _ => rfl)) pe_int))))
theorem pure_power_of (T : Txt K mg) {vs : List V} {H : Hp} {Q : VK} {E : XK} (h : sp_power_of K vs H Q E) : t_power_of K { nx := fun _ H' => Q .non H', rt := Q } (L2.start N_power_of vs) H := by
  obtain ⟨f, k, a, rfl, hf, ret⟩ := h
  have r := ret H (Same.refl H)
  have hp := k.p_two
  have hp3 := k.p_le
  refine ⟨_, rfl, rfl, _, rfl, ?_⟩
  refine ite2 (fun hc => ?_) (fun _ => ?_)
  · have : (k.p : Int) = 0 := V.int.inj (of_decide_eq_true hc)
    omega
  · refine ⟨_, rfl, rfl, _, rfl, ?_⟩
    rw [vE_zero]
    refine ite2 (fun hc => ?_) (fun hc => ?_)
    · have ha : a ≠ 0 := fun e => by rw [decide_eq_true e] at hc; cases hc
      refine ⟨_, rfl, ?_⟩
      refine fld_powers T hf fun pw hpw => ?_
      refine ⟨_, rfl, ?_⟩
      refine fld_logs T hf fun lg hlg => ?_
      refine ⟨_, rfl, lg, _, _, _, rfl, rfl, SqL.of hlg, lg_at k a ha, _, rfl, _, _, rfl, rfl, .inr ⟨by omega, by omega⟩, ?_⟩
      refine ⟨_, rfl, ?_⟩
      refine fld_size T hf ?_
      refine ⟨_, _, rfl, rfl, _, _, rfl, rfl, by have := k.q_ge; omega, ?_⟩
      refine ⟨pw, _, _, _, rfl, rfl, SqL.of hpw, pw_at k (k.lg a.v * k.p) ?_, ?_⟩
      · rw [qm1]; rfl
      · rw [← s_pw k ha]; exact r
    · have ea : a = 0 := by
        by_cases e : a = 0
        · exact e
        · rw [decide_eq_false e] at hc; exact absurd rfl hc
      rw [ea, (El.T k).s0] at r
      exact r
theorem len_power_of {vs : List V} {H : Hp} {Q : VK} {E : XK} (h : sp_power_of K vs H Q E) : vs.length = 3 := by
  obtain ⟨f, k, a, rfl, _⟩ := h; rfl
theorem c_power_of (T : Txt K mg) : C8.Cal P w K mg base 2 "power_of" (sp_power_of K) [] :=
  cal_of (k := 1) (ps := ["field", "one", "many"]) T.d_power_of (fun _ _ _ _ _ _ us hl => match us, hl with | [_, _, _], _ => rfl) sc_power_of (fun vs H Q E h => len_power_of h) fun f cdv A outer s H vs Q E hr h => ⟨_, ps_power_of T hr, pure_power_of T h⟩
/-- turned so many times, a count or below 0 -/
def tnd (k : Kd) (m : Int) (a : El k) : El k := Gab.pw (El.T k) (m % (k.n : Int)).toNat a
def sp_turned_of (K : PySem.W.Frag) : Sp := fun vs H Q _ => ∃ (f : Addr) (k : Kd) (a : El k) (m : Int), vs = [.ref f, vE a, .int m] ∧ FieldAt K H f k ∧ RetV H Q (vE (tnd k m a))
abbrev N_turned_of : List Str := ["field", "one", "many", "found", "turn"]
theorem sc_turned_of : FnScope N_turned_of ["field", "one", "many"] (defScope s_turned_of) := ⟨rfl, rfl, rfl, by decide +kernel, rfl, by decide +kernel, by decide +kernel⟩
def t_turned_of (K : PySem.W.Frag) : TS :=
  (tSeq (tAsg (tVar 1) (gName 3))
  (tSeq (tFor (iRng1 (tCons (tOp oMod (tVar 2) (tFld K (tVar 0) "own_turns")) tNil)) (gName 4) (tAsg (tCall (sp_power_of K) [] E0 (tCons (tVar 0) (tCons (tVar 3) (tCons (tFld K (tVar 0) "own_prime") tNil)))) (gName 3)))
  (tRet (tVar 3))))
theorem ps_turned_of {f : Addr} {cdv : Value} {A : Around} {outer : List Env} {s : Shared} {H : Hp} {E : XK} (T : Txt K mg) (hr : Room 2 (A.deeper (envOfC "turned_of" (defScope s_turned_of) s.heap.objs.size f cdv))) :
    PSs (cxOf CX0 P w K mg base N_turned_of "turned_of" (defScope s_turned_of) f cdv A outer s H E).nox (defBody s_turned_of) (t_turned_of K) := by
  exact (pss_cons (ps_set (i := 3) sc_turned_of.nd rfl (Or.inl rfl) (pv 1))
  (pss_cons (ps_for PassesOwn.never rfl (pi_range1 (by rfl) T.b_range (pa_cons (pe_op op_mod (pv 2) (pe_fld (pv 0) rfl)) pa_nil)) (pg_name (i := 4) sc_turned_of.nd rfl (Or.inl rfl)) (pss_one (ps_set (i := 3) sc_turned_of.nd rfl (Or.inl rfl) (C8.pe_c (c_power_of T) hr (by decide) (by rfl) (pa_cons (pv 0) (pa_cons (pv 3) (pa_cons (pe_fld (pv 0) rfl) pa_nil)))))))
  (pss_one (ps_ret (pv 3)))))
theorem pure_turned_of (T : Txt K mg) {vs : List V} {H : Hp} {Q : VK} {E : XK} (h : sp_turned_of K vs H Q E) : t_turned_of K { nx := fun _ H' => Q .non H', rt := Q } (L2.start N_turned_of vs) H := by
  obtain ⟨f, k, a, m, rfl, hf, ret⟩ := h
  have hn := k.n_le
  have hn3 := k.n_ge
  have hm1 := Int.emod_nonneg m (b := (k.n : Int)) (by omega)
  have hm2 := Int.emod_lt_of_pos m (b := (k.n : Int)) (by omega)
  refine ⟨_, rfl, _, rfl, _, rfl, ?_⟩
  refine fld_turns T hf ?_
  refine ⟨_, _, rfl, rfl, by omega, _, rfl, by omega, by omega, ?_⟩
  refine for_range (lo := 0) (n := (m % (k.n : Int)).toNat) (fun i σ H' => ∃ v, σ = [some (.ref f), some (vE a), some (.int m), some (vE (Gab.pw (El.T k) i a)), v] ∧ Same H H') ⟨none, rfl, Same.refl H⟩ ?_ ?_
  · rintro i σ H' hi ⟨v, rfl, s⟩
    refine ⟨_, rfl, _, rfl, _, rfl, ?_⟩
    refine fld_prime T (hf.same s) ?_
    refine ⟨f, k, _, rfl, hf.same s, fun H2 s2 => ?_⟩
    exact ⟨some (.int (0 + (i : Int))), by rw [pw_out]; rfl, s.trans s2⟩
  · rintro σ H' ⟨v, rfl, s⟩
    exact ⟨_, rfl, ret _ s⟩
theorem len_turned_of {vs : List V} {H : Hp} {Q : VK} {E : XK} (h : sp_turned_of K vs H Q E) : vs.length = 3 := by
  obtain ⟨f, k, a, m, rfl, _⟩ := h; rfl
theorem c_turned_of (T : Txt K mg) : C8.Cal P w K mg base 3 "turned_of" (sp_turned_of K) [] :=
  cal_of (k := 2) (ps := ["field", "one", "many"]) T.d_turned_of (fun _ _ _ _ _ _ us hl => match us, hl with | [_, _, _], _ => rfl) sc_turned_of (fun vs H Q E h => len_turned_of h) fun f cdv A outer s H vs Q E hr h => ⟨_, ps_turned_of T hr, pure_turned_of T h⟩
end
end Tp
namespace Tp
open PySem PySem.Spec PyProof.Rows L2 Gab
section
variable {P : Program} {w : World} {K : PySem.W.Frag} {mg : Str → Option Value} {base : Heap}
/-! ### looked at -/
def sp_is_integer (K : PySem.W.Frag) : Sp := fun vs H Q _ => ∃ i : Int, vs = [.int i] ∧ RetV H Q (.bl true)
abbrev N_is_integer : List Str := ["value"]
theorem sc_is_integer : FnScope N_is_integer ["value"] (defScope s_is_integer) := ⟨rfl, rfl, rfl, by decide +kernel, rfl, by decide +kernel, by decide +kernel⟩
def t_is_integer (K : PySem.W.Frag) : TS :=
  (tRet (tAndV (tCB (rIsi K) (tCons (tVar 0) (tCons (tC (.ty "int")) tNil))) (tNotV (tCB (rIsi K) (tCons (tVar 0) (tCons (tC (.ty "bool")) tNil))))))
theorem ps_is_integer {f : Addr} {cdv : Value} {A : Around} {outer : List Env} {s : Shared} {H : Hp} {E : XK} (T : Txt K mg) (hr : Room 1 (A.deeper (envOfC "is_integer" (defScope s_is_integer) s.heap.objs.size f cdv))) :
    PSs (cxOf CX0 P w K mg base N_is_integer "is_integer" (defScope s_is_integer) f cdv A outer s H E).nox (defBody s_is_integer) (t_is_integer K) := by
  exact (pss_one (ps_ret (pe_and (pe_callB call_isi (by rfl) T.b_isinstance (by decide +kernel) (pa_cons (pv 0) (pa_cons (pe_bltn (by rfl) T.b_int (by decide +kernel) rfl) pa_nil))) (pe_one (pe_not (pe_callB call_isi (by rfl) T.b_isinstance (by decide +kernel) (pa_cons (pv 0) (pa_cons (pe_bltn (by rfl) T.b_bool (by decide +kernel) rfl) pa_nil))))))))
theorem pure_is_integer (T : Txt K mg) {vs : List V} {H : Hp} {Q : VK} {E : XK} (h : sp_is_integer K vs H Q E) : t_is_integer K { nx := fun _ H' => Q .non H', rt := Q } (L2.start N_is_integer vs) H := by
  obtain ⟨i, rfl, ret⟩ := h
  refine ⟨_, rfl, _, _, _, _, true, rfl, ClsV.ty "int", TyX.base (TyOf.int i), kit_ty (by decide +kernel), true, rfl, iteT ?_⟩
  refine ⟨_, rfl, _, _, _, _, false, rfl, ClsV.ty "bool", TyX.base (TyOf.int i), kit_ty (by decide +kernel), false, rfl, ?_⟩
  exact ret H (Same.refl H)
theorem len_is_integer {vs : List V} {H : Hp} {Q : VK} {E : XK} (h : sp_is_integer K vs H Q E) : vs.length = 1 := by
  obtain ⟨i, rfl, _⟩ := h; rfl
theorem c_is_integer (T : Txt K mg) : C8.Cal P w K mg base 2 "is_integer" (sp_is_integer K) [] :=
  cal_of (k := 1) (ps := ["value"]) T.d_is_integer (fun _ _ _ _ _ _ us hl => match us, hl with | [_], _ => rfl) sc_is_integer (fun vs H Q E h => len_is_integer h) fun f cdv A outer s H vs Q E hr h => ⟨_, ps_is_integer T hr, pure_is_integer T h⟩
def sp_is_count (K : PySem.W.Frag) : Sp := fun vs H Q _ => ∃ i : Int, vs = [.int i] ∧ RetV H Q (.bl (decide (0 ≤ i)))
abbrev N_is_count : List Str := ["value"]
theorem sc_is_count : FnScope N_is_count ["value"] (defScope s_is_count) := ⟨rfl, rfl, rfl, by decide +kernel, rfl, by decide +kernel, by decide +kernel⟩
def t_is_count (K : PySem.W.Frag) : TS :=
  (tRet (tAndV (tCall (sp_is_integer K) [] E0 (tCons (tVar 0) tNil)) (tOp oGe (tVar 0) (tC (.int 0)))))
theorem ps_is_count {f : Addr} {cdv : Value} {A : Around} {outer : List Env} {s : Shared} {H : Hp} {E : XK} (T : Txt K mg) (hr : Room 2 (A.deeper (envOfC "is_count" (defScope s_is_count) s.heap.objs.size f cdv))) :
    PSs (cxOf CX0 P w K mg base N_is_count "is_count" (defScope s_is_count) f cdv A outer s H E).nox (defBody s_is_count) (t_is_count K) := by
  exact (pss_one (ps_ret (pe_and (C8.pe_c (c_is_integer T) hr (by decide) (by rfl) (pa_cons (pv 0) pa_nil)) (pe_one (pe_cmpR op_ge (pv 0) pe_int (nomark _))))))
theorem pure_is_count (T : Txt K mg) {vs : List V} {H : Hp} {Q : VK} {E : XK} (h : sp_is_count K vs H Q E) : t_is_count K { nx := fun _ H' => Q .non H', rt := Q } (L2.start N_is_count vs) H := by
  obtain ⟨i, rfl, ret⟩ := h
  refine ⟨_, rfl, i, rfl, fun H1 s1 => ⟨true, rfl, iteT ?_⟩⟩
  exact ⟨_, rfl, _, _, rfl, rfl, ret H1 s1⟩
theorem len_is_count {vs : List V} {H : Hp} {Q : VK} {E : XK} (h : sp_is_count K vs H Q E) : vs.length = 1 := by
  obtain ⟨i, rfl, _⟩ := h; rfl
theorem c_is_count (T : Txt K mg) : C8.Cal P w K mg base 3 "is_count" (sp_is_count K) [] :=
  cal_of (k := 2) (ps := ["value"]) T.d_is_count (fun _ _ _ _ _ _ us hl => match us, hl with | [_], _ => rfl) sc_is_count (fun vs H Q E h => len_is_count h) fun f cdv A outer s H vs Q E hr h => ⟨_, ps_is_count T hr, pure_is_count T h⟩
def sp_is_in (K : PySem.W.Frag) : Sp := fun vs H Q _ => ∃ (f : Addr) (k : Kd) (a : El k), vs = [.ref f, vE a] ∧ FieldAt K H f k ∧ RetV H Q (.bl true)
abbrev N_is_in : List Str := ["field", "value"]
theorem sc_is_in : FnScope N_is_in ["field", "value"] (defScope s_is_in) := ⟨rfl, rfl, rfl, by decide +kernel, rfl, by decide +kernel, by decide +kernel⟩
def t_is_in (K : PySem.W.Frag) : TS :=
  (tRet (tAndV (tCall (sp_is_count K) [] E0 (tCons (tVar 1) tNil)) (tOp oLt (tVar 1) (tFld K (tVar 0) "own_size"))))
theorem ps_is_in {f : Addr} {cdv : Value} {A : Around} {outer : List Env} {s : Shared} {H : Hp} {E : XK} (T : Txt K mg) (hr : Room 3 (A.deeper (envOfC "is_in" (defScope s_is_in) s.heap.objs.size f cdv))) :
    PSs (cxOf CX0 P w K mg base N_is_in "is_in" (defScope s_is_in) f cdv A outer s H E).nox (defBody s_is_in) (t_is_in K) := by
  exact (pss_one (ps_ret (pe_and (C8.pe_c (c_is_count T) hr (by decide) (by rfl) (pa_cons (pv 1) pa_nil)) (pe_one (pe_cmpR op_lt (pv 1) (pe_fld (pv 0) rfl) (nomark _))))))
theorem pure_is_in (T : Txt K mg) {vs : List V} {H : Hp} {Q : VK} {E : XK} (h : sp_is_in K vs H Q E) : t_is_in K { nx := fun _ H' => Q .non H', rt := Q } (L2.start N_is_in vs) H := by
  obtain ⟨f, k, a, rfl, hf, ret⟩ := h
  have hl := a.lt
  refine ⟨_, rfl, _, rfl, fun H1 s1 => ⟨_, rfl, ?_⟩⟩
  rw [decide_eq_true (by omega : (0 : Int) ≤ (a.v : Int))]
  refine iteT ⟨_, rfl, _, rfl, ?_⟩
  refine fld_size T (hf.same s1) ?_
  refine ⟨_, _, rfl, rfl, ?_⟩
  show Q (V.bl (decide ((a.v : Int) < (k.q : Int)))) H1
  rw [decide_eq_true (by omega : (a.v : Int) < (k.q : Int))]
  exact ret H1 s1
theorem len_is_in {vs : List V} {H : Hp} {Q : VK} {E : XK} (h : sp_is_in K vs H Q E) : vs.length = 2 := by
  obtain ⟨f, k, a, rfl, _⟩ := h; rfl
theorem c_is_in (T : Txt K mg) : C8.Cal P w K mg base 4 "is_in" (sp_is_in K) [] :=
  cal_of (k := 3) (ps := ["field", "value"]) T.d_is_in (fun _ _ _ _ _ _ us hl => match us, hl with | [_, _], _ => rfl) sc_is_in (fun vs H Q E h => len_is_in h) fun f cdv A outer s H vs Q E hr h => ⟨_, ps_is_in T hr, pure_is_in T h⟩

/-! ### the undone figure -/
theorem undone_ex (k : Kd) : ∀ a, a < k.p → a ≠ 0 → ∃ t, t < k.p ∧ t ≠ 0 ∧ t * a % k.p = 1 := by
  intro a ha h0
  cases k with
  | k27 =>
    have : a = 1 ∨ a = 2 := by have : (Kd.k27).p = 3 := rfl; omega
    rcases this with rfl | rfl
    · exact ⟨1, by decide, by decide, by decide⟩
    · exact ⟨2, by decide, by decide, by decide⟩
  | k8 => exact ⟨1, by decide, by decide, by have : a = 1 := by { have : (Kd.k8).p = 2 := rfl; omega }; rw [this]; decide⟩
  | k16 => exact ⟨1, by decide, by decide, by have : a = 1 := by { have : (Kd.k16).p = 2 := rfl; omega }; rw [this]; decide⟩
  | k32 => exact ⟨1, by decide, by decide, by have : a = 1 := by { have : (Kd.k32).p = 2 := rfl; omega }; rw [this]; decide⟩
def sp_undone_by (K : PySem.W.Frag) : Sp := fun vs H Q _ => ∃ (k : Kd) (a : Nat), vs = [.int (k.p : Int), .int (a : Int)] ∧ a < k.p ∧ a ≠ 0 ∧ ∀ t : Nat, t < k.p → t * a % k.p = 1 → RetV H Q (.int (t : Int))
abbrev N_undone_by : List Str := ["prime", "number", "one"]
theorem sc_undone_by : FnScope N_undone_by ["prime", "number"] (defScope s_undone_by) := ⟨rfl, rfl, rfl, by decide +kernel, rfl, by decide +kernel, by decide +kernel⟩
def t_undone_by (K : PySem.W.Frag) : TS :=
  (tRet (tOp (rIxL K) (tLc (iRng2 (tCons (tC (.int 1)) (tCons (tVar 0) tNil))) (gName 2) (tTest (tOp rEq (tOp oMod (tOp oMul (tVar 2) (tVar 1)) (tVar 0)) (tC (.int 1)))) (tVar 2) [2]) (tC (.int 0))))
theorem ps_undone_by {f : Addr} {cdv : Value} {A : Around} {outer : List Env} {s : Shared} {H : Hp} {E : XK} (T : Txt K mg) (hr : Room 1 (A.deeper (envOfC "undone_by" (defScope s_undone_by) s.heap.objs.size f cdv))) :
    PSs (cxOf CX0 P w K mg base N_undone_by "undone_by" (defScope s_undone_by) f cdv A outer s H E).nox (defBody s_undone_by) (t_undone_by K) := by
  exact (pss_one (ps_ret (pe_ix ix_list (pe_lc (own := [("one", 2)]) (g := (gName 2)) (tt := (tTest (tOp rEq (tOp oMod (tOp oMul (tVar 2) (tVar 1)) (tVar 0)) (tC (.int 1))))) (te := (tVar 2)) (by rfl) sc_undone_by.nd (pi_range2 (by rfl) T.b_range (pa_cons pe_int (pa_cons (pv 0) pa_nil))) (blkOk_by (own := [("one", 2)]) (N := N_undone_by) (sc := defScope s_undone_by) (by decide +kernel)) (fun _ _ _ _ _ => (pg_name (i := 2) sc_undone_by.nd rfl (Or.inl rfl))) (fun _ _ _ _ _ => (pts_one (pt_cmpR op_eq (pe_op op_mod (pe_op op_mul (pv 2) (pv 1)) (pv 0)) pe_int (nomark _)))) (fun _ _ _ _ _ => (pv 2))) pe_int (fun _ _ => rfl))))
theorem range_filter_succ (f : Nat → Bool) (i : Nat) : (List.range (i + 1)).filter f = if f i then (List.range i).filter f ++ [i] else (List.range i).filter f := by
  rw [List.range_succ, List.filter_append]
  cases h : f i <;> simp [h]
theorem pure_undone_by (T : Txt K mg) {vs : List V} {H : Hp} {Q : VK} {E : XK} (h : sp_undone_by K vs H Q E) : t_undone_by K { nx := fun _ H' => Q .non H', rt := Q } (L2.start N_undone_by vs) H := by
  obtain ⟨k, a, rfl, ha, h0, ret⟩ := h
  have hp := k.p_two
  have hp3 := k.p_le
  refine ⟨_, rfl, 1, _, rfl, ⟨by omega, by omega, by omega, by omega⟩, fun D hD => ?_⟩
  have en : ((k.p : Int) - 1).toNat = k.p - 1 := by omega
  rw [en]
  refine lc_range (lo := 1) (n := k.p - 1) (LcP H D fun i => ((List.range i).filter fun s => decide ((s + 1) * a % k.p = 1)).map fun s : Nat => vI (1 + (s : Int))) (lcp_start hD rfl) ?_ ?_
  · intro i H' hi hP
    refine ⟨rfl, ?_⟩
    refine ⟨_, rfl, _, rfl, _, _, rfl, rfl, .inl ⟨by omega, by omega⟩, _, rfl, _, _, rfl, rfl, by omega, rfl, _, rfl, ?_⟩
    have e : decide (V.int ((1 + (i : Int)) * (a : Int) % (k.p : Int)) = V.int 1) = decide ((i + 1) * a % k.p = 1) := by
      have : (1 + (i : Int)) * (a : Int) % (k.p : Int) = (((i + 1) * a % k.p : Nat) : Int) := by
        rw [Int.natCast_emod, Int.natCast_mul, Int.natCast_add, Int.add_comm 1]; rfl
      rw [this]
      by_cases q : (i + 1) * a % k.p = 1
      · rw [q]; rfl
      · rw [decide_eq_false q, decide_eq_false]
        intro e
        exact q (by have := V.int.inj e; omega)
    refine ite2 (fun hc => ?_) (fun hc => ?_)
    · rw [e] at hc
      refine ⟨_, rfl, lcp_next hD hP (Same.refl _) ?_ (small ?_)⟩
      · rw [range_filter_succ, if_pos hc, List.map_append]; rfl
      · have := List.length_filter_le (fun s => decide ((s + 1) * a % k.p = 1)) (List.range i)
        simp at this ⊢; omega
    · rw [e] at hc
      exact lcp_skip hP (Same.refl _) (by rw [range_filter_succ, if_neg hc])
  · intro H1 hP
    obtain ⟨t, ht, ht0, hta⟩ := undone_ex k a ha h0
    have hm : t - 1 ∈ (List.range (k.p - 1)).filter fun s => decide ((s + 1) * a % k.p = 1) := by
      rw [List.mem_filter]
      refine ⟨List.mem_range.mpr (by omega), decide_eq_true ?_⟩
      rw [Nat.sub_add_cancel (by omega)]; exact hta
    cases hl : (List.range (k.p - 1)).filter fun s => decide ((s + 1) * a % k.p = 1) with
    | nil => rw [hl] at hm; cases hm
    | cons s r =>
      have hs : s ∈ (List.range (k.p - 1)).filter fun s => decide ((s + 1) * a % k.p = 1) := by rw [hl]; exact List.mem_cons_self
      rw [List.mem_filter] at hs
      have h1 := List.mem_range.mp hs.1
      have h2 := of_decide_eq_true hs.2
      have hL := hP.2
      dsimp only at hL
      rw [hl] at hL
      refine ⟨D, _, _, _, rfl, rfl, SqL.of hL, atI_nat (j := 0) rfl, ?_⟩
      have r := ret (s + 1) (by omega) h2 H1 hP.1
      have e : ((s + 1 : Nat) : Int) = 1 + (s : Int) := by omega
      rw [e] at r
      exact r
theorem len_undone_by {vs : List V} {H : Hp} {Q : VK} {E : XK} (h : sp_undone_by K vs H Q E) : vs.length = 2 := by
  obtain ⟨k, a, rfl, _⟩ := h; rfl
theorem c_undone_by (T : Txt K mg) : C8.Cal P w K mg base 2 "undone_by" (sp_undone_by K) [] :=
  cal_of (k := 1) (ps := ["prime", "number"]) T.d_undone_by (fun _ _ _ _ _ _ us hl => match us, hl with | [_, _], _ => rfl) sc_undone_by (fun vs H Q E h => len_undone_by h) fun f cdv A outer s H vs Q E hr h => ⟨_, ps_undone_by T hr, pure_undone_by T h⟩

/-! ### figures of elements -/
/-- the figure at a place, as an element -/
def fg {k : Kd} (x : El k) (j : Nat) : Nat := (dig k.p k.n x.v).getD j 0
theorem fg_lt {k : Kd} (x : El k) (j : Nat) : fg x j < k.p := by
  unfold fg
  by_cases h : j < (dig k.p k.n x.v).length
  · rw [List.getD_eq_getElem?_getD, List.getElem?_eq_getElem h]
    exact dig_lt k.p_pos _ _ _ (List.getElem_mem h)
  · rw [List.getD_eq_getElem?_getD, List.getElem?_eq_none (by omega)]
    exact k.p_pos
/-- a base figure as an element -/
def fE (k : Kd) (c : Nat) (h : c < k.p) : El k := ⟨c, Nat.lt_of_lt_of_le h (by cases k <;> decide)⟩
theorem fE_sc {k : Kd} {c : Nat} (h : c < k.p) : Sc (El.T k) (fE k c h) := El.sc_iff.mpr h
theorem dig_msub {k : Kd} (x y : El k) {c : Nat} (h : c < k.p) : dig k.p k.n (x - fE k c h * y).v = List.zipWith (fun a b => (a + (k.p - c * b % k.p)) % k.p) (dig k.p k.n x.v) (dig k.p k.n y.v) := by
  have e : (fE k c h).v = c := rfl
  rw [El.sub_v, k.dig_sub, El.mul_v, e, k.dig_smul c h _ y.lt, List.zipWith_map_right]
theorem fg_msub {k : Kd} (x y : El k) {c : Nat} (h : c < k.p) {j : Nat} (hj : j < k.n) : fg (x - fE k c h * y) j = (fg x j + (k.p - c * fg y j % k.p)) % k.p := by
  unfold fg
  have h1 : j < (dig k.p k.n x.v).length := by rw [dig_len]; exact hj
  have h2 : j < (dig k.p k.n y.v).length := by rw [dig_len]; exact hj
  rw [dig_msub]
  simp only [List.getD_eq_getElem?_getD, List.getElem?_zipWith, List.getElem?_eq_getElem h1, List.getElem?_eq_getElem h2, Option.getD_some]
theorem fg_mul {k : Kd} (y : El k) {c : Nat} (h : c < k.p) {j : Nat} (hj : j < k.n) : fg (fE k c h * y) j = c * fg y j % k.p := by
  unfold fg
  have h2 : j < (dig k.p k.n y.v).length := by rw [dig_len]; exact hj
  rw [El.mul_v]
  have : (fE k c h).v = c := rfl
  rw [this, k.dig_smul c h _ y.lt]
  simp only [List.getD_eq_getElem?_getD, List.getElem?_map, List.getElem?_eq_getElem h2, Option.getD_some, Option.map_some]
theorem fg_keep {k : Kd} (x y : El k) {c : Nat} (h : c < k.p) {j : Nat} (hj : j < k.n) (hy : fg y j = 0) : fg (x - fE k c h * y) j = fg x j := by
  rw [fg_msub x y h hj, hy, Nat.mul_zero, Nat.zero_mod, Nat.sub_zero, Nat.add_mod_right, Nat.mod_eq_of_lt (fg_lt x j)]
theorem fg_clear {k : Kd} (x y : El k) {j : Nat} (hj : j < k.n) (hy : fg y j = 1) : fg (x - fE k (fg x j) (fg_lt x j) * y) j = 0 := by
  have := fg_lt x j
  rw [fg_msub x y _ hj, hy, Nat.mul_one, Nat.mod_eq_of_lt this]
  rw [show fg x j + (k.p - fg x j) = k.p by omega, Nat.mod_self]
theorem fg_span {k : Kd} {j : Nat} (hj : j < k.n) : ∀ {vs : List (El k)} {x : El k}, (∀ v ∈ vs, fg v j = 0) → Sp (El.T k) vs x → fg x j = 0
  | [], x, _, h => by
    have h0 : x = 0 := h
    rw [h0]
    have z : ∀ n j, (dig k.p n 0).getD j 0 = 0 := by
      intro n
      induction n with
      | zero => intro j; rfl
      | succ n ih =>
        intro j
        cases j with
        | zero => simp [dig]
        | succ j => simp only [dig, Nat.zero_div, List.getD_cons_succ]; exact ih j
    exact z _ _
  | v :: vs, x, hv, ⟨c, hc, h⟩ => by
    have hcv := El.sc_iff.mp hc
    have e : c = fE k c.v hcv := El.ext' rfl
    have ih := fg_span hj (fun u hu => hv u (List.mem_cons_of_mem _ hu)) h
    rw [e, fg_keep x v hcv hj (hv v List.mem_cons_self)] at ih
    exact ih
theorem fg_zero {k : Kd} {x : El k} (h : ∀ j, j < k.n → fg x j = 0) : x = 0 := by
  have e : dig k.p k.n x.v = dig k.p k.n 0 := by
    refine List.ext_getElem (by simp [dig_len]) fun i h1 h2 => ?_
    have hi : i < k.n := by rw [dig_len] at h1; exact h1
    have z : ∀ n j (h : j < (dig k.p n 0).length), (dig k.p n 0)[j] = 0 := by
      intro n
      induction n with
      | zero => intro j h; simp [dig] at h
      | succ n ih =>
        intro j h
        have z : dig k.p (n + 1) 0 = 0 :: dig k.p n 0 := by simp [dig]
        cases j with
        | zero => simp only [z]; rfl
        | succ j =>
          have h' : j < (dig k.p n 0).length := by rw [z] at h; simpa using h
          have := ih j h'
          simp only [z, List.getElem_cons_succ]; exact this
    rw [z]
    have := h i hi
    unfold fg at this
    rw [List.getD_eq_getElem?_getD, List.getElem?_eq_getElem h1] at this
    exact this
  exact El.ext' (k.dig_inj x.lt (El.lt 0) e)

/-! ### a row less so much of another one -/
def sp_less_row (K : PySem.W.Frag) : Sp := fun vs H Q _ => ∃ (r h : Addr) (k : Kd) (x y : El k) (j : Nat), vs = [.int (k.p : Int), .ref r, .ref h, .int (j : Int)] ∧ H r = some (.lst (dgV k x.v)) ∧ H h = some (.lst (dgV k y.v)) ∧ j < k.n ∧
  RetL H Q (dgV k (x - fE k (fg x j) (fg_lt x j) * y).v)
abbrev N_less_row : List Str := ["prime", "row", "head", "place", "much", "near", "far"]
theorem sc_less_row : FnScope N_less_row ["prime", "row", "head", "place"] (defScope s_less_row) := ⟨rfl, rfl, rfl, by decide +kernel, rfl, by decide +kernel, by decide +kernel⟩
def t_less_row (K : PySem.W.Frag) : TS :=
  (tSeq (tAsg (tOp (rIxL K) (tVar 1) (tVar 3)) (gName 4))
  (tRet (tLc (iZip K (tCons (tVar 1) (tCons (tVar 2) tNil))) (gTup K 2 (gCons (gName 5) (gCons (gName 6) gNil))) tYes (tOp oMod (tOp oSub (tVar 5) (tOp oMul (tVar 4) (tVar 6))) (tVar 0)) [5, 6])))
theorem ps_less_row {f : Addr} {cdv : Value} {A : Around} {outer : List Env} {s : Shared} {H : Hp} {E : XK} (T : Txt K mg) (hr : Room 1 (A.deeper (envOfC "less_row" (defScope s_less_row) s.heap.objs.size f cdv))) :
    PSs (cxOf CX0 P w K mg base N_less_row "less_row" (defScope s_less_row) f cdv A outer s H E).nox (defBody s_less_row) (t_less_row K) := by
  exact (pss_cons (ps_set (i := 4) sc_less_row.nd rfl (Or.inr rfl) (pe_ix ix_list (pv 1) (pv 3) (fun _ _ => rfl)))
  (pss_one (ps_ret (pe_lc (own := [("near", 5), ("far", 6)]) (g := (gTup K 2 (gCons (gName 5) (gCons (gName 6) gNil)))) (tt := tYes) (te := (tOp oMod (tOp oSub (tVar 5) (tOp oMul (tVar 4) (tVar 6))) (tVar 0))) (by rfl) sc_less_row.nd (pi_zip (by rfl) T.b_zip (pa_cons (pv 1) (pa_cons (pv 2) pa_nil))) (blkOk_by (own := [("near", 5), ("far", 6)]) (N := N_less_row) (sc := defScope s_less_row) (by decide +kernel)) (fun _ _ _ _ _ => (pg_tup (by rfl) (pgs_cons (pg_name (i := 5) sc_less_row.nd rfl (Or.inl rfl)) (pgs_cons (pg_name (i := 6) sc_less_row.nd rfl (Or.inl rfl)) pgs_nil)))) (fun _ _ _ _ _ => pts_nil) (fun _ _ _ _ _ => (pe_op op_mod (pe_op op_sub (pv 5) (pe_op op_mul (pv 4) (pv 6))) (pv 0)))))))
theorem fg_at {k : Kd} (x : El k) {j : Nat} (hj : j < k.n) : (dgV k x.v)[j]? = some (vI (fg x j : Int)) := by
  have h1 : j < (dig k.p k.n x.v).length := by rw [dig_len]; exact hj
  unfold dgV fg
  rw [List.getElem?_map, List.getElem?_eq_getElem h1, List.getD_eq_getElem?_getD, List.getElem?_eq_getElem h1]
  rfl
theorem dgV_len (k : Kd) (a : Nat) : (dgV k a).length = k.n := by simp [dgV, dig_len]
theorem pure_less_row (T : Txt K mg) {vs : List V} {H : Hp} {Q : VK} {E : XK} (h : sp_less_row K vs H Q E) : t_less_row K { nx := fun _ H' => Q .non H', rt := Q } (L2.start N_less_row vs) H := by
  obtain ⟨r, h, k, x, y, j, rfl, hr, hh, hj, ret⟩ := h
  have hn := k.n_le
  have hp3 := k.p_le
  have hp2 := k.p_two
  refine ⟨_, rfl, _, rfl, r, _, _, _, rfl, rfl, SqL.of hr, atI_nat (fg_at x hj), ?_⟩
  refine ⟨_, rfl, _, rfl, r, h, _, _, rfl, SqL.of hr, SqL.of hh, fun D hD => ?_⟩
  refine lc_it (walk_zip (xs := dgV k x.v) (ys := dgV k y.v) (n := k.n) (by rw [dgV_len, dgV_len, Nat.min_self])) (LcP H D fun i => ((dig k.p k.n (x - fE k (fg x j) (fg_lt x j) * y).v).take i).map fun x : Nat => vI (x : Int))
    (lcp_start hD rfl) (fun i H' _ h => ⟨h.1.seq (SqL.of hr), h.1.seq (SqL.of hh)⟩) ?_ ?_
  · intro i z H' H'' hi hP yy
    obtain ⟨t, u, v, rfl, ht, rfl, hu, hv⟩ := zip_of (x := .non) (y := .non) (T := 0) yy
    refine pair_tgt upd_same ⟨rfl, lcY ?_⟩
    have hx := fg_lt x j
    refine ⟨_, rfl, _, rfl, _, rfl, _, _, rfl, rfl, .inl ⟨by omega, by omega⟩, _, _, rfl, rfl, _, rfl, _, _, rfl, rfl, by omega, ?_⟩
    refine lcp_next hD hP (sm_upd ht) ?_ (small (by simp [dig_len]; omega))
    rw [dig_msub]
    simp only [zipW_take _ hu hv, List.map_append]
    have e : ((u : Int) - (fg x j : Int) * (v : Int)) % (k.p : Int) = (((u + (k.p - fg x j * v % k.p)) % k.p : Nat) : Int) := by
      have h1 : fg x j * v % k.p < k.p := Nat.mod_lt _ k.p_pos
      rw [Int.natCast_emod, Int.natCast_add, Int.ofNat_sub (Nat.le_of_lt h1), Int.natCast_emod, Int.natCast_mul]
      have : (u : Int) + ((k.p : Int) - (fg x j : Int) * (v : Int) % (k.p : Int)) = ((u : Int) - (fg x j : Int) * (v : Int) % (k.p : Int)) + (k.p : Int) := by omega
      rw [this, Int.add_emod_right]
      conv => rhs; rw [Int.sub_emod, Int.emod_emod_of_dvd _ (Int.dvd_refl _), ← Int.sub_emod]
    rw [e]
    rfl
  · intro H4 hP
    refine ret _ _ hP.1 hD ?_
    have h2 := hP.2
    dsimp only at h2
    rw [List.take_of_length_le (by simp [dig_len])] at h2
    exact h2
theorem len_less_row {vs : List V} {H : Hp} {Q : VK} {E : XK} (h : sp_less_row K vs H Q E) : vs.length = 4 := by
  obtain ⟨r, h, k, x, y, j, rfl, _⟩ := h; rfl
theorem c_less_row (T : Txt K mg) : C8.Cal P w K mg base 2 "less_row" (sp_less_row K) [] :=
  cal_of (k := 1) (ps := ["prime", "row", "head", "place"]) T.d_less_row (fun _ _ _ _ _ _ us hl => match us, hl with | [_, _, _, _], _ => rfl) sc_less_row (fun vs H Q E h => len_less_row h) fun f cdv A outer s H vs Q E hr h => ⟨_, ps_less_row T hr, pure_less_row T h⟩
end
end Tp
namespace Tp
open PySem PySem.Spec PyProof.Rows L2 Gab
/-! ### lists of lists -/
/-- at the addresses rs the lists cs -/
def Rows (H : Hp) (rs : List Addr) (cs : List (List V)) : Prop := rs.length = cs.length ∧ ∀ (i : Nat) (r : Addr) (c : List V), rs[i]? = some r → cs[i]? = some c → H r = some (.lst c)
theorem Rows.same {H H' : Hp} {rs : List Addr} {cs : List (List V)} (h : Rows H rs cs) (s : Same H H') : Rows H' rs cs := ⟨h.1, fun i r c a b => s _ _ (h.2 i r c a b)⟩
theorem Rows.nil {H : Hp} : Rows H [] [] := ⟨rfl, fun i r c a => by simp at a⟩
theorem Rows.snoc {H : Hp} {rs : List Addr} {cs : List (List V)} {r : Addr} {c : List V} (h : Rows H rs cs) (e : H r = some (.lst c)) : Rows H (rs ++ [r]) (cs ++ [c]) := by
  refine ⟨by simp [h.1], fun i r' c' a b => ?_⟩
  by_cases hi : i < rs.length
  · rw [List.getElem?_append_left hi] at a
    rw [List.getElem?_append_left (by rw [← h.1]; exact hi)] at b
    exact h.2 i r' c' a b
  · have hl := h.1
    rw [List.getElem?_append_right (by omega)] at a
    rw [List.getElem?_append_right (by omega)] at b
    have e0 : i - rs.length = 0 := by
      cases q : i - rs.length with
      | zero => rfl
      | succ m => rw [q] at a; simp at a
    rw [e0] at a
    rw [← hl, e0] at b
    simp at a b
    rw [← a, ← b]; exact e
theorem Rows.at {H : Hp} {rs : List Addr} {cs : List (List V)} (h : Rows H rs cs) {i : Nat} (hi : i < cs.length) : ∃ r, rs[i]? = some r ∧ H r = some (.lst cs[i]) := by
  have hl := h.1
  refine ⟨rs[i]'(by omega), List.getElem?_eq_getElem _, h.2 i _ _ (List.getElem?_eq_getElem _) (List.getElem?_eq_getElem _)⟩
theorem Rows.erase {H : Hp} {rs : List Addr} {cs : List (List V)} (h : Rows H rs cs) (s : Nat) : Rows H (rs.eraseIdx s) (cs.eraseIdx s) := by
  refine ⟨by simp only [List.length_eraseIdx, h.1], fun i r c a b => ?_⟩
  rw [List.getElem?_eraseIdx] at a b
  by_cases q : i < s
  · rw [if_pos q] at a b; exact h.2 _ _ _ a b
  · rw [if_neg q] at a b; exact h.2 _ _ _ a b
theorem Rows.upd {H : Hp} {rs : List Addr} {cs : List (List V)} {p : Addr} {o : HO} (h : Rows H rs cs) (hp : p ∉ rs) : Rows (upd H p o) rs cs :=
  ⟨h.1, fun i r c a b => by rw [upd_ne (fun e => hp (by rw [← e]; exact List.mem_of_getElem? a))]; exact h.2 i r c a b⟩
theorem Rows.has {H : Hp} {rs : List Addr} {cs : List (List V)} (h : Rows H rs cs) {r : Addr} (hr : r ∈ rs) : ∃ o, H r = some o := by
  obtain ⟨i, hi, rfl⟩ := List.mem_iff_getElem.mp hr
  have hl := h.1
  exact ⟨_, h.2 i _ _ (List.getElem?_eq_getElem hi) (List.getElem?_eq_getElem (by omega))⟩
theorem Rows.new {H : Hp} {rs : List Addr} {cs : List (List V)} (h : Rows H rs cs) {p : Addr} (hp : H p = none) : p ∉ rs := fun hm => by
  obtain ⟨o, e⟩ := h.has hm
  rw [hp] at e; cases e
/-- a comprehension whose elements are new lists -/
def LcQ (H1 : Hp) (D : Addr) (cs : List (List V)) (i : Nat) (H : Hp) : Prop := Same H1 H ∧ ∃ rs : List Addr, H D = some (.lst (rs.map V.ref)) ∧ Rows H rs (cs.take i) ∧ D ∉ rs ∧ ∀ r ∈ rs, H1 r = none
section
variable {H1 H H3 : Hp} {D r : Addr} {cs : List (List V)} {i : Nat} {c : List V}
theorem lcq_start (hD : H1 D = none) : LcQ H1 D cs 0 (upd H1 D (.lst [])) := ⟨sm_upd hD, [], upd_same, by simpa using Rows.nil, by simp, by simp⟩
theorem lcq_next (hD : H1 D = none) (p : LcQ H1 D cs i H) (s : Same H H3) (hc : cs[i]? = some c) (hr : H3 r = some (.lst c)) (hn : H r = none) (hl : cs.length ≤ 1000) :
    ∃ acc, H3 D = some (.lst acc) ∧ acc.length < sizeLine ∧ LcQ H1 D cs (i + 1) (upd H3 D (.lst (acc ++ [.ref r]))) := by
  obtain ⟨s1, rs, h1, h2, h3, h4⟩ := p
  have hDr : D ≠ r := fun e => by rw [e, hn] at h1; cases h1
  have hlen := h2.1
  refine ⟨_, s _ _ h1, small (by rw [List.length_map, hlen, List.length_take]; omega), fun b u q => by rw [upd_ne (ne_of_none q hD)]; exact s _ _ (s1 _ _ q), rs ++ [r], ?_, ?_, ?_, ?_⟩
  · rw [upd_same, List.map_append]; rfl
  · rw [take_succ' hc]
    exact ((h2.same s).snoc hr).upd (by simp [h3, hDr])
  · simp [h3, hDr]
  · intro x hx
    rcases List.mem_append.mp hx with hx | hx
    · exact h4 x hx
    · simp at hx
      rw [hx]
      cases q : H1 r with
      | none => rfl
      | some o => rw [s1 _ _ q] at hn; cases hn
end
/-- rows of figures of elements -/
abbrev RowsE (k : Kd) (H : Hp) (rs : List Addr) (xs : List (El k)) : Prop := Rows H rs (xs.map fun x => dgV k x.v)

/-! ### the steps of rows: the mathematics -/
section
variable {k : Kd}
def Piv (j : Nat) : List (El k) → List Nat → Prop
  | [], [] => True
  | f :: fs, p :: ps => p < j ∧ fg f p = 1 ∧ (∀ g ∈ fs, fg g p = 0) ∧ Piv j fs ps
  | _, _ => False
structure Stp (xs : List (El k)) (j : Nat) (ls fs : List (El k)) : Prop where
  sp1 : ∀ x ∈ xs, Sp (El.T k) (fs ++ ls) x
  sp2 : ∀ y ∈ fs ++ ls, Sp (El.T k) xs y
  zero : ∀ l ∈ ls, ∀ m, m < j → fg l m = 0
  piv : ∃ ps, Piv j fs ps
  len : ls.length + fs.length ≤ xs.length
theorem Piv.fr {j : Nat} (hj : j ≤ k.n) : ∀ {fs : List (El k)} {ps : List Nat}, Piv j fs ps → Fr (El.T k) fs
  | [], _, _ => trivial
  | f :: fs, p :: ps, ⟨h1, h2, h3, h4⟩ => ⟨fun q => by
      have := fg_span (j := p) (by omega) h3 q
      omega, Piv.fr hj h4⟩
theorem Piv.mono {j : Nat} : ∀ {fs : List (El k)} {ps : List Nat}, Piv j fs ps → Piv (j + 1) fs ps
  | [], [], _ => trivial
  | f :: fs, p :: ps, ⟨h1, h2, h3, h4⟩ => ⟨by omega, h2, h3, h4.mono⟩
theorem Piv.step {j : Nat} (hj : j < k.n) {h : El k} (h0 : ∀ m, m < j → fg h m = 0) (h1 : fg h j = 1) (g : El k → El k) (hg : ∀ f m, m < j → fg (g f) m = fg f m) :
    ∀ {fs : List (El k)} {ps : List Nat}, Piv j fs ps → Piv (j + 1) (fs.map g ++ [h]) (ps ++ [j])
  | [], [], _ => ⟨Nat.lt_succ_self _, h1, by simp, trivial⟩
  | f :: fs, p :: ps, ⟨a, b, c, d⟩ => by
    refine ⟨by omega, by rw [hg f p a]; exact b, fun x hx => ?_, Piv.step hj h0 h1 g hg d⟩
    rcases List.mem_append.mp hx with hx | hx
    · obtain ⟨y, hy, rfl⟩ := List.mem_map.mp hx
      rw [hg y p a]; exact c y hy
    · simp at hx; rw [hx]; exact h0 p a
theorem Stp.start (xs : List (El k)) : Stp xs 0 xs [] := ⟨fun x hx => Sp.mem hx, fun y hy => Sp.mem hy, fun l _ m hm => absurd hm (Nat.not_lt_zero _), ⟨[], trivial⟩, by simp⟩
theorem Stp.skip {xs ls fs : List (El k)} {j : Nat} (h : Stp xs j ls fs) (z : ∀ l ∈ ls, fg l j = 0) : Stp xs (j + 1) ls fs :=
  ⟨h.sp1, h.sp2, fun l hl m hm => by
    by_cases e : m = j
    · rw [e]; exact z l hl
    · exact h.zero l hl m (by omega), by obtain ⟨ps, hp⟩ := h.piv; exact ⟨ps, hp.mono⟩, h.len⟩
/-- a row less so much of another one -/
def lsr (j : Nat) (h l : El k) : El k := l - fE k (fg l j) (fg_lt l j) * h
theorem Stp.step {xs ls fs : List (El k)} {j s t : Nat} (h : Stp xs j ls fs) (hj : j < k.n) (hs : s < ls.length) (ht : t < k.p) (h1 : t * fg ls[s] j % k.p = 1) :
    Stp xs (j + 1) ((ls.eraseIdx s).map (lsr j (fE k t ht * ls[s]))) (fs.map (lsr j (fE k t ht * ls[s])) ++ [fE k t ht * ls[s]]) := by
  have hd := h.zero ls[s] (List.getElem_mem hs)
  have e0 : ∀ m, m < j → fg (fE k t ht * ls[s]) m = 0 := fun m hm => by rw [fg_mul _ ht (by omega), hd m hm, Nat.mul_zero, Nat.zero_mod]
  have e1 : fg (fE k t ht * ls[s]) j = 1 := by rw [fg_mul _ ht hj]; exact h1
  have ne : fE k t ht ≠ 0 := fun e => by
    have : t = 0 := congrArg El.v e
    rw [this] at h1; simp at h1
  have hmem : fE k t ht * ls[s] ∈ (fs.map (lsr j (fE k t ht * ls[s])) ++ [fE k t ht * ls[s]]) ++ (ls.eraseIdx s).map (lsr j (fE k t ht * ls[s])) := by simp
  have back : ∀ l : El k, lsr j (fE k t ht * ls[s]) l ∈ (fs.map (lsr j (fE k t ht * ls[s])) ++ [fE k t ht * ls[s]]) ++ (ls.eraseIdx s).map (lsr j (fE k t ht * ls[s])) →
      Sp (El.T k) ((fs.map (lsr j (fE k t ht * ls[s])) ++ [fE k t ht * ls[s]]) ++ (ls.eraseIdx s).map (lsr j (fE k t ht * ls[s]))) l := fun l hl => by
    have a := Sp.mem (T := El.T k) hl
    have b := (Sp.mem (T := El.T k) hmem).mul (fE_sc (fg_lt l j))
    have e : l = lsr j (fE k t ht * ls[s]) l + fE k (fg l j) (fg_lt l j) * (fE k t ht * ls[s]) := by unfold lsr; grind
    rw [e]; exact a.add b
  have hsp : Sp (El.T k) xs ls[s] := h.sp2 _ (List.mem_append_right _ (List.getElem_mem hs))
  refine ⟨fun x hx => ?_, fun y hy => ?_, fun l hl m hm => ?_, ?_, ?_⟩
  · refine Sp.trans (fun v hv => ?_) (h.sp1 x hx)
    rcases List.mem_append.mp hv with hv | hv
    · exact back v (List.mem_append_left _ (List.mem_append_left _ (List.mem_map_of_mem hv)))
    · by_cases e : v = ls[s]
      · rw [e]
        have a := (Sp.mem (T := El.T k) hmem).mul ((fE_sc ht).inv ne)
        have e : ls[s] = (El.T k).inv (fE k t ht) * (fE k t ht * ls[s]) := by
          have := (El.T k).inv_mul _ ne
          grind
        rw [e]
        rw [← e]; exact a |> fun z => by rw [← e] at z; exact z
      · refine back v (List.mem_append_right _ (List.mem_map_of_mem ?_))
        obtain ⟨m, hm, rfl⟩ := List.mem_iff_getElem.mp hv
        have hms : m ≠ s := fun q => e (by subst q; rfl)
        refine List.mem_iff_getElem?.mpr ?_
        by_cases q : m < s
        · exact ⟨m, by rw [List.getElem?_eraseIdx, if_pos q, List.getElem?_eq_getElem hm]⟩
        · exact ⟨m - 1, by rw [List.getElem?_eraseIdx, if_neg (by omega), show m - 1 + 1 = m by omega, List.getElem?_eq_getElem hm]⟩
  · have red : ∀ l : El k, Sp (El.T k) xs l → Sp (El.T k) xs (lsr j (fE k t ht * ls[s]) l) := fun l hl => hl.sub ((hsp.mul (fE_sc ht)).mul (fE_sc _))
    rcases List.mem_append.mp hy with hy | hy
    · rcases List.mem_append.mp hy with hy | hy
      · obtain ⟨f, hf, rfl⟩ := List.mem_map.mp hy
        exact red f (h.sp2 f (List.mem_append_left _ hf))
      · simp at hy; rw [hy]; exact hsp.mul (fE_sc ht)
    · obtain ⟨l, hl, rfl⟩ := List.mem_map.mp hy
      exact red l (h.sp2 l (List.mem_append_right _ (List.mem_of_mem_eraseIdx hl)))
  · obtain ⟨a, ha, rfl⟩ := List.mem_map.mp hl
    by_cases e : m = j
    · rw [e]; exact fg_clear a _ hj e1
    · unfold lsr
      rw [fg_keep a _ _ (by omega) (e0 m (by omega))]
      exact h.zero a (List.mem_of_mem_eraseIdx ha) m (by omega)
  · obtain ⟨ps, hp⟩ := h.piv
    exact ⟨_, hp.step hj e0 e1 _ fun f m hm => fg_keep f _ _ (by omega) (e0 m hm)⟩
  · have := h.len
    have e := List.length_eraseIdx (l := ls) (i := s)
    rw [if_pos hs] at e
    simp [e]; omega
theorem Stp.rank {xs ls fs : List (El k)} (h : Stp xs k.n ls fs) : IsRank (El.T k) xs fs.length := by
  have z : ∀ l ∈ ls, l = 0 := fun l hl => fg_zero (h.zero l hl)
  obtain ⟨ps, hp⟩ := h.piv
  refine ⟨⟨fs, Nat.le_refl _, fun x hx => Sp.trans (fun v hv => ?_) (h.sp1 x hx)⟩, fun t ⟨vs, hv, kv⟩ => ?_⟩
  · rcases List.mem_append.mp hv with hv | hv
    · exact Sp.mem hv
    · rw [z v hv]; exact Sp.zero
  · have := (hp.fr (Nat.le_refl _)).indep vs fun b hb => Sp.trans kv (h.sp2 b (List.mem_append_left _ hb))
    omega
end
end Tp
namespace Tp
open PySem PySem.Spec PyProof.Rows L2 Gab
section
variable {P : Program} {w : World} {K : PySem.W.Frag} {mg : Str → Option Value} {base : Heap}
def sp_figure_steps (K : PySem.W.Frag) : Sp := fun vs H Q _ => ∃ (r : Addr) (rs : List Addr) (k : Kd) (xs : List (El k)), vs = [.int (k.p : Int), .ref r] ∧ H r = some (.lst (rs.map V.ref)) ∧ RowsE k H rs xs ∧ xs ≠ [] ∧ xs.length ≤ 100 ∧
  ∀ H' p (bs : List Addr), Same H H' → H' p = some (.lst (bs.map V.ref)) → IsRank (El.T k) xs bs.length → Q (.ref p) H'
abbrev N_figure_steps : List Str := ["prime", "rows", "left", "found", "place", "spots", "head", "turn", "row", "spot", "number"]
theorem sc_figure_steps : FnScope N_figure_steps ["prime", "rows"] (defScope s_figure_steps) := ⟨rfl, rfl, rfl, by decide +kernel, rfl, by decide +kernel, by decide +kernel⟩
def t_figure_steps (K : PySem.W.Frag) : TS :=
  (tSeq (tPar 2 3 (tCons (tLc (iList K (tVar 1)) (gName 8) tYes (tCB (cList K) (tCons (tVar 8) tNil)) [8]) (tCons (tLst tNil) tNil)))
  (tSeq (tFor (iRng1 (tCons (tIf (tTest (tOp oGt (tCB (cLen K) (tCons (tVar 1) tNil)) (tC (.int 0)))) (tCB (cLen K) (tCons (tOp (rIxL K) (tVar 1) (tC (.int 0))) tNil)) (tC (.int 0))) tNil)) (gName 4) (tSeq (tAsg (tLc (iEnum K (tCons (tVar 2) tNil)) (gTup K 2 (gCons (gName 9) (gCons (gName 8) gNil))) (tTest (tOp rNe (tOp (rIxL K) (tVar 8) (tVar 4)) (tC (.int 0)))) (tVar 9) [9, 8]) (gName 5))
  (tIfS (tTest (tOp oGt (tCB (cLen K) (tCons (tVar 5) tNil)) (tC (.int 0)))) (tSeq (tAsg (tBM K "list" rPopAt (tVar 2) (tCons (tOp (rIxL K) (tVar 5) (tC (.int 0))) tNil)) (gName 6))
  (tSeq (tAsg (tCall (sp_undone_by K) [] E0 (tCons (tVar 0) (tCons (tOp (rIxL K) (tVar 6) (tVar 4)) tNil))) (gName 7))
  (tSeq (tAsg (tLc (iList K (tVar 6)) (gName 10) tYes (tOp oMod (tOp oMul (tVar 10) (tVar 7)) (tVar 0)) [10]) (gName 6))
  (tSeq (tAsg (tLc (iList K (tVar 2)) (gName 8) tYes (tCall (sp_less_row K) [] E0 (tCons (tVar 0) (tCons (tVar 8) (tCons (tVar 6) (tCons (tVar 4) tNil))))) [8]) (gName 2))
  (tAsg (tOp rCat (tLc (iList K (tVar 3)) (gName 8) tYes (tCall (sp_less_row K) [] E0 (tCons (tVar 0) (tCons (tVar 8) (tCons (tVar 6) (tCons (tVar 4) tNil))))) [8]) (tLst (tCons (tVar 6) tNil))) (gName 3)))))) tNext)))
  (tRet (tVar 3))))
theorem ps_figure_steps {f : Addr} {cdv : Value} {A : Around} {outer : List Env} {s : Shared} {H : Hp} {E : XK} (T : Txt K mg) (hr : Room 2 (A.deeper (envOfC "figure_steps" (defScope s_figure_steps) s.heap.objs.size f cdv))) :
    PSs (cxOf CX0 P w K mg base N_figure_steps "figure_steps" (defScope s_figure_steps) f cdv A outer s H E).nox (defBody s_figure_steps) (t_figure_steps K) := by
  exact (pss_cons (ps_par (i := 2) (j := 3) (by rfl) sc_figure_steps.nd rfl rfl (by decide) rfl rfl (pa_cons (pe_lc (own := [("row", 8)]) (g := (gName 8)) (tt := tYes) (te := (tCB (cList K) (tCons (tVar 8) tNil))) (by rfl) sc_figure_steps.nd (pi_list (pv 1)) (blkOk_by (own := [("row", 8)]) (N := N_figure_steps) (sc := defScope s_figure_steps) (by decide +kernel)) (fun _ _ _ _ _ => (pg_name (i := 8) sc_figure_steps.nd rfl (Or.inl rfl))) (fun _ _ _ _ _ => pts_nil) (fun _ _ _ _ _ => (pe_callTy call_list_of (by rfl) T.b_list (by decide +kernel) (pa_cons (pv 8) pa_nil)))) (pa_cons (pe_lst pa_nil) pa_nil)) (by rfl))
  (pss_cons (ps_for PassesOwn.never rfl (pi_range1 (by rfl) T.b_range (pa_cons (pe_ifExp (pt_cmpR op_gt (pe_callB call_len_seq (by rfl) T.b_len PySem.boot_len (pa_cons (pv 1) pa_nil)) pe_int (nomark _)) (pe_callB call_len_seq (by rfl) T.b_len PySem.boot_len (pa_cons (pe_ix ix_list (pv 1) pe_int (fun _ _ => rfl)) pa_nil)) pe_int) pa_nil)) (pg_name (i := 4) sc_figure_steps.nd rfl (Or.inr rfl)) (pss_cons (ps_setLc (i := 5) (own := [("spot", 9), ("row", 8)]) (g := (gTup K 2 (gCons (gName 9) (gCons (gName 8) gNil)))) (tt := (tTest (tOp rNe (tOp (rIxL K) (tVar 8) (tVar 4)) (tC (.int 0))))) (te := (tVar 9)) (by rfl) sc_figure_steps.nd rfl rfl (sw_true rfl rfl rfl (by decide +kernel)) (pi_enum (by rfl) T.b_enumerate (pa_cons (pv 2) pa_nil)) (blkOk_by (own := [("spot", 9), ("row", 8)]) (N := N_figure_steps) (sc := defScope s_figure_steps) (by decide +kernel)) (fun _ _ _ _ _ => (pg_tup (by rfl) (pgs_cons (pg_name (i := 9) sc_figure_steps.nd rfl (Or.inl rfl)) (pgs_cons (pg_name (i := 8) sc_figure_steps.nd rfl (Or.inl rfl)) pgs_nil)))) (fun _ _ _ _ _ => (pts_one (pt_cmpR op_ne (pe_ix ix_list (pv 8) (pv 4) (fun _ _ => rfl)) pe_int (nomark _)))) (fun _ _ _ _ _ => (pv 9)))
  (pss_one (ps_if (pt_cmpR op_gt (pe_callB call_len_seq (by rfl) T.b_len PySem.boot_len (pa_cons (pv 5) pa_nil)) pe_int (nomark _)) (pss_cons (ps_set (i := 6) sc_figure_steps.nd rfl (Or.inr rfl) (pe_bm PySem.F.plainAttrs_list PySem.F.slot_list_pop PySem.F.type_list_pop mt_popAt (pv 2) (pa_cons (pe_ix ix_list (pv 5) pe_int (fun _ _ => rfl)) pa_nil)))
  (pss_cons (ps_set (i := 7) sc_figure_steps.nd rfl (Or.inr rfl) (C8.pe_c (c_undone_by T) hr (by decide) (by rfl) (pa_cons (pv 0) (pa_cons (pe_ix ix_list (pv 6) (pv 4) (fun _ _ => rfl)) pa_nil))))
  (pss_cons (ps_set (i := 6) sc_figure_steps.nd rfl (Or.inr rfl) (pe_lc (own := [("number", 10)]) (g := (gName 10)) (tt := tYes) (te := (tOp oMod (tOp oMul (tVar 10) (tVar 7)) (tVar 0))) (by rfl) sc_figure_steps.nd (pi_list (pv 6)) (blkOk_by (own := [("number", 10)]) (N := N_figure_steps) (sc := defScope s_figure_steps) (by decide +kernel)) (fun _ _ _ _ _ => (pg_name (i := 10) sc_figure_steps.nd rfl (Or.inl rfl))) (fun _ _ _ _ _ => pts_nil) (fun _ _ _ _ _ => (pe_op op_mod (pe_op op_mul (pv 10) (pv 7)) (pv 0)))))
  (pss_cons (ps_setLc (i := 2) (own := [("row", 8)]) (g := (gName 8)) (tt := tYes) (te := (tCall (sp_less_row K) [] E0 (tCons (tVar 0) (tCons (tVar 8) (tCons (tVar 6) (tCons (tVar 4) tNil)))))) (by rfl) sc_figure_steps.nd rfl rfl (sw_true rfl rfl rfl (by decide +kernel)) (pi_list (pv 2)) (blkOk_by (own := [("row", 8)]) (N := N_figure_steps) (sc := defScope s_figure_steps) (by decide +kernel)) (fun _ _ _ _ _ => (pg_name (i := 8) sc_figure_steps.nd rfl (Or.inl rfl))) (fun _ _ _ _ _ => pts_nil) (fun _ _ _ _ _ => (C8.pe_c (c_less_row T) hr (by decide) (by rfl) (pa_cons (pv 0) (pa_cons (pv 8) (pa_cons (pv 6) (pa_cons (pv 4) pa_nil)))))))
  (pss_one (ps_set (i := 3) sc_figure_steps.nd rfl (Or.inl rfl) (pe_op op_cat (pe_lc (own := [("row", 8)]) (g := (gName 8)) (tt := tYes) (te := (tCall (sp_less_row K) [] E0 (tCons (tVar 0) (tCons (tVar 8) (tCons (tVar 6) (tCons (tVar 4) tNil)))))) (by rfl) sc_figure_steps.nd (pi_list (pv 3)) (blkOk_by (own := [("row", 8)]) (N := N_figure_steps) (sc := defScope s_figure_steps) (by decide +kernel)) (fun _ _ _ _ _ => (pg_name (i := 8) sc_figure_steps.nd rfl (Or.inl rfl))) (fun _ _ _ _ _ => pts_nil) (fun _ _ _ _ _ => (C8.pe_c (c_less_row T) hr (by decide) (by rfl) (pa_cons (pv 0) (pa_cons (pv 8) (pa_cons (pv 6) (pa_cons (pv 4) pa_nil))))))) (pe_lst (pa_cons (pv 6) pa_nil))))))))) pss_nil))))
  (pss_one (ps_ret (pv 3)))))
/-- what stands behind the turns -/
structure FsI (H : Hp) {k : Kd} (r : Addr) (xs : List (El k)) (j : Nat) (σ : L2.St) (H' : Hp) : Prop where
  ex : ∃ (L F : Addr) (lr fr : List Addr) (ls fs : List (El k)) (v4 v5 v6 v7 v8 v9 v10 : Option V), σ = [some (.int (k.p : Int)), some (.ref r), some (.ref L), some (.ref F), v4, v5, v6, v7, v8, v9, v10] ∧ Same H H' ∧ H L = none ∧
    H' L = some (.lst (lr.map V.ref)) ∧ H' F = some (.lst (fr.map V.ref)) ∧ RowsE k H' lr ls ∧ RowsE k H' fr fs ∧ L ≠ F ∧ L ∉ lr ∧ L ∉ fr ∧ Stp xs j ls fs
/-- the spots -/
def spts {k : Kd} (j : Nat) (ls : List (El k)) (i : Nat) : List Nat := (List.range i).filter fun s => decide (fg (ls.getD s 0) j ≠ 0)
theorem eqv0 (n : Nat) : (!decide (V.int (n : Int) = V.int 0)) = decide (n ≠ 0) := by
  by_cases h : n = 0
  · rw [h]; rfl
  · rw [decide_eq_true h, decide_eq_false]
    · rfl
    · intro e; exact h (by have := V.int.inj e; omega)
theorem map_erase {α β : Type} (f : α → β) : ∀ (l : List α) (n : Nat), (l.eraseIdx n).map f = (l.map f).eraseIdx n
  | [], n => by simp
  | a :: l, 0 => by simp
  | a :: l, n + 1 => by simp [map_erase f l n]
theorem pure_figure_steps (T : Txt K mg) {vs : List V} {H : Hp} {Q : VK} {E : XK} (h : sp_figure_steps K vs H Q E) : t_figure_steps K { nx := fun _ H' => Q .non H', rt := Q } (L2.start N_figure_steps vs) H := by
  obtain ⟨r, rs, k, xs, rfl, hr, hrs, hne, hx, ret⟩ := h
  have hn := k.n_le
  have hp2 := k.p_two
  have hp3 := k.p_le
  have hlen : rs.length = xs.length := by rw [hrs.1, List.length_map]
  have hpos := List.length_pos_iff.mpr hne
  refine ⟨_, rfl, r, rfl, ⟨_, SqL.of hr⟩, fun D hD => ?_⟩
  refine lc_it (walk_list (xs := rs.map V.ref)) (LcQ H D (xs.map fun x => dgV k x.v)) (lcq_start hD) (fun i H' _ p => p.1.seq (SqL.of hr)) ?_ ?_
  · rintro i x H' H'' hi p ⟨rfl, hxi⟩
    rw [List.length_map, hlen] at hi
    obtain ⟨q, hq, hqc⟩ := hrs.at (i := i) (by simpa using hi)
    rw [List.getElem?_map, hq] at hxi
    obtain rfl := Option.some.inj hxi
    refine ⟨rfl, lcY ?_⟩
    refine ⟨_, rfl, q, _, rfl, .inl (SqL.of (p.1 _ _ hqc)), fun l hl => ?_⟩
    exact lcq_next hD p (sm_upd hl) (List.getElem?_eq_getElem (by simpa using hi)) upd_same hl (by simp; omega)
  intro H1 ⟨s1, lr, hL, hlr, hDlr, hlrn⟩
  rw [List.length_map, hlen, List.take_of_length_le (by simp)] at hlr
  refine ⟨Nat.zero_le _, fun F hF => ⟨_, _, rfl, ?_⟩⟩
  have s2 : Same H (upd H1 F (.lst [])) := s1.trans (sm_upd hF)
  obtain ⟨r0, hr0, hr0c⟩ := hrs.at (i := 0) (by simpa using hpos)
  refine ⟨_, rfl, r, _, rfl, .inl (SqL.of (s2 _ _ hr)), _, _, rfl, rfl, _, rfl, ?_⟩
  rw [decide_eq_true (by simp only [List.length_map, hlen]; omega)]
  refine iteT ⟨_, rfl, r, _, _, _, rfl, rfl, SqL.of (s2 _ _ hr), atI_nat (j := 0) (by rw [List.getElem?_map, hr0]; rfl), r0, _, rfl, .inl (SqL.of (s2 _ _ hr0c)), ?_⟩
  have el : (((xs.map fun x => dgV k x.v)[0]'(by simpa using hpos)).length : Int) = (k.n : Int) := by simp [dgV_len]
  rw [el]
  refine ⟨_, rfl, by omega, by omega, ?_⟩
  have hDF : D ≠ F := fun e => by rw [e, hF] at hL; cases hL
  refine for_range (lo := 0) (n := ((k.n : Nat) : Int).toNat) (FsI H r xs) ?_ ?_ ?_
  · refine ⟨D, F, lr, [], xs, [], none, none, none, none, none, none, none, rfl, s2, hD, ?_, upd_same, ?_, Rows.nil, hDF, hDlr, by simp, Stp.start xs⟩
    · rw [upd_ne hDF]; exact hL
    · exact hlr.upd (hlr.new hF)
  · rintro i σ H' hi ⟨L, F, lr, fr, ls, fs, v4, v5, v6, v7, v8, v9, v10, rfl, s, hLn, hL, hF, hlr, hfr, hLF, hLlr, hLfr, st⟩
    have hin : i < k.n := by omega
    have e0i : (0 : Int) + (i : Int) = (i : Int) := Int.zero_add _
    rw [e0i]
    have hlrlen : lr.length = ls.length := by rw [hlr.1, List.length_map]
    have hlsx := st.len
    refine ⟨_, rfl, L, _, rfl, SqL.of hL, fun S hS => ?_⟩
    refine lc_it (walk_enum (xs := lr.map V.ref)) (LcP H' S fun i' => (spts i ls i').map fun s : Nat => vI (s : Int)) (lcp_start hS rfl) (fun i' H2 _ p => p.1.seq (SqL.of hL)) ?_ ?_
    · rintro i' x H2 H3 hi' p ⟨t, x1, x2, rfl, ht, rfl, e1, e2⟩
      obtain rfl := Option.some.inj e1
      rw [List.length_map, hlrlen] at hi'
      obtain ⟨q, hq, hqc⟩ := hlr.at (i := i') (by simpa using hi')
      have e2 : (lr.map V.ref)[i']? = some x2 := e2
      rw [List.getElem?_map, hq] at e2
      obtain rfl := Option.some.inj e2
      refine pair_tgt upd_same ⟨rfl, ?_⟩
      have hrow : (upd H2 t (.tup [.int (i' : Nat), .ref q])) q = some (.lst (dgV k ls[i'].v)) := by
        have := p.1 _ _ hqc
        rw [upd_ne (ne_of_none this ht), this]; simp
      refine ⟨_, rfl, _, rfl, q, _, _, _, rfl, rfl, SqL.of hrow, atI_nat (fg_at ls[i'] hin), rfl, _, rfl, ?_⟩
      have eg : ls.getD i' 0 = ls[i'] := by rw [List.getD_eq_getElem?_getD, List.getElem?_eq_getElem hi']; rfl
      refine ite2 (fun hc => ?_) (fun hc => ?_)
      · have hc' := (eqv0 _).symm.trans hc
        refine ⟨_, rfl, lcp_next hS p (sm_upd ht) ?_ (small ?_)⟩
        · unfold spts
          rw [range_filter_succ, if_pos (by rw [eg]; exact hc'), List.map_append]; rfl
        · have := List.length_filter_le (fun s => decide (fg (ls.getD s 0) i ≠ 0)) (List.range i')
          simp [spts] at this ⊢; omega
      · have hc' : ¬ decide (fg ls[i'] i ≠ 0) = true := fun q => hc ((eqv0 _).trans q)
        refine lcp_skip p (sm_upd ht) ?_
        unfold spts
        rw [range_filter_succ, if_neg (by rw [eg]; exact hc')]
    intro H2 p
    have hS2 := p.2
    dsimp only at hS2
    rw [List.length_map, hlrlen] at hS2
    have sH2 := p.1
    refine ⟨_, rfl, S, _, rfl, .inl (SqL.of hS2), _, _, rfl, rfl, _, rfl, ?_⟩
    rw [List.length_map]
    have hfr2 := hfr.same sH2
    have hlr2 := hlr.same sH2
    have hL2 := sH2 _ _ hL
    have hF2 := sH2 _ _ hF
    cases hsp : spts i ls ls.length with
    | nil =>
      refine iteF ?_
      refine ⟨L, F, lr, fr, ls, fs, _, _, _, _, _, _, _, rfl, s.trans sH2, hLn, hL2, hF2, hlr2, hfr2, hLF, hLlr, hLfr, st.skip fun l hl => ?_⟩
      obtain ⟨m, hm, rfl⟩ := List.mem_iff_getElem.mp hl
      by_cases z : fg ls[m] i = 0
      · exact z
      · have : m ∈ spts i ls ls.length := List.mem_filter.mpr ⟨List.mem_range.mpr hm, decide_eq_true (by rw [List.getD_eq_getElem?_getD, List.getElem?_eq_getElem hm]; exact z)⟩
        rw [hsp] at this; cases this
    | cons m more =>
      rw [hsp] at hS2
      have hm : m ∈ spts i ls ls.length := by rw [hsp]; exact List.mem_cons_self
      have hml := List.mem_range.mp (List.mem_filter.mp hm).1
      have hmz : fg ls[m] i ≠ 0 := by
        have := of_decide_eq_true (List.mem_filter.mp hm).2
        rw [List.getD_eq_getElem?_getD, List.getElem?_eq_getElem hml] at this
        exact this
      rw [decide_eq_true (by simp only [List.length_cons]; omega)]
      refine iteT ?_
      obtain ⟨q, hq, hqc⟩ := hlr2.at (i := m) (by simpa using hml)
      refine ⟨_, rfl, .inl ⟨rfl, _, SqL.of hL2⟩, _, rfl, S, _, _, _, rfl, rfl, SqL.of hS2, atI_nat (j := 0) rfl, L, _, (m : Int), m, V.ref q, rfl, rfl, hL2, by omega, by omega, ?_, ?_, ?_⟩
      · unfold seqIndex?
        simp only [List.length_map]
        split
        · rename_i hneg
          omega
        · simp; omega
      · rw [List.getElem?_map, hq]; rfl
      have hqL : q ≠ L := fun e => hLlr (by rw [← e]; exact List.mem_of_getElem? hq)
      have hqc' : (upd H2 L (.lst ((lr.map V.ref).eraseIdx m))) q = some (.lst (dgV k ls[m].v)) := by
        rw [upd_ne hqL, hqc]; simp
      have s3 : Same H (upd H2 L (.lst ((lr.map V.ref).eraseIdx m))) := sm_set (s.trans sH2) hLn
      refine ⟨_, rfl, _, rfl, _, rfl, q, _, _, _, rfl, rfl, SqL.of hqc', atI_nat (fg_at ls[m] hin), k, _, rfl, fg_lt _ _, hmz, fun t ht htm H3 s4 => ?_⟩
      have hq3 := s4 _ _ hqc'
      refine ⟨_, rfl, q, rfl, ⟨_, SqL.of hq3⟩, fun D2 hD2 => ?_⟩
      refine lc_it (walk_list (xs := dgV k ls[m].v)) (LcP H3 D2 fun i' => ((dig k.p k.n (fE k t ht * ls[m]).v).take i').map fun x : Nat => vI (x : Int)) (lcp_start hD2 rfl) (fun i' H4 _ p => p.1.seq (SqL.of hq3)) ?_ ?_
      · rintro i' x H4 H5 hi' p4 ⟨rfl, hxi⟩
        unfold dgV at hxi
        rw [List.getElem?_map] at hxi
        cases eu : (dig k.p k.n ls[m].v)[i']? with
        | none => rw [eu] at hxi; cases hxi
        | some u =>
          rw [eu] at hxi
          obtain rfl := Option.some.inj hxi
          refine ⟨rfl, lcY ?_⟩
          refine ⟨_, rfl, _, rfl, _, _, rfl, rfl, .inr ⟨by omega, by omega⟩, _, rfl, _, _, rfl, rfl, by omega, ?_⟩
          refine lcp_next hD2 p4 (Same.refl _) ?_ (small (by simp [dig_len]; omega))
          have ed : dig k.p k.n (fE k t ht * ls[m]).v = (dig k.p k.n ls[m].v).map fun x => t * x % k.p := by
            rw [El.mul_v, show (fE k t ht).v = t from rfl, k.dig_smul t ht _ (El.lt _)]
          have e6 : (dig k.p k.n (fE k t ht * ls[m]).v)[i']? = some (t * u % k.p) := by rw [ed, List.getElem?_map, eu]; rfl
          rw [take_map e6]
          have e7 : (u : Int) * (t : Int) % (k.p : Int) = ((t * u % k.p : Nat) : Int) := by
            rw [Int.natCast_emod, Int.natCast_mul, Int.mul_comm]
          rw [← e7]
      intro H4 p4
      have hD4 : H4 D2 = some (.lst (dgV k (fE k t ht * ls[m]).v)) := by
        have := p4.2
        dsimp only at this
        rw [dgV_len, List.take_of_length_le (by simp [dig_len])] at this
        exact this
      have s34 := s4.trans p4.1
      have hLx : H4 L = some (.lst ((lr.eraseIdx m).map V.ref)) := by
        have := s34 _ _ (upd_same (H := H2) (a := L) (o := .lst ((lr.map V.ref).eraseIdx m)))
        rw [this, map_erase]
      have hlr4 : RowsE k H4 (lr.eraseIdx m) (ls.eraseIdx m) := by
        have a := ((hlr2.erase m).upd (p := L) (o := .lst ((lr.map V.ref).eraseIdx m)) (fun e => hLlr (List.mem_of_mem_eraseIdx e))).same s34
        rw [← map_erase] at a
        exact a
      have hF4 : H4 F = some (.lst (fr.map V.ref)) := s34 _ _ (by rw [upd_ne hLF.symm]; exact hF2)
      have hfr4 : RowsE k H4 fr fs := (hfr2.upd hLfr).same s34
      have sH4 : Same H H4 := s3.trans s34
      generalize hlr' : lr.eraseIdx m = lr' at hLx hlr4
      generalize hls' : ls.eraseIdx m = ls' at hlr4
      have hlrlen' : lr'.length = ls'.length := by rw [hlr4.1, List.length_map]
      have hls'len : ls'.length ≤ ls.length := by rw [← hls', List.length_eraseIdx]; split <;> omega
      have st' := st.step hin hml ht htm
      rw [hls'] at st'
      generalize hh : fE k t ht * ls[m] = hd at hD4 st'
      refine ⟨_, rfl, L, rfl, ⟨_, SqL.of hLx⟩, fun D5 hD5 => ?_⟩
      refine lc_it (walk_list (xs := lr'.map V.ref)) (LcQ H4 D5 ((ls'.map (lsr i hd)).map fun x => dgV k x.v)) (lcq_start hD5) (fun i' H5 _ p => p.1.seq (SqL.of hLx)) ?_ ?_
      · rintro i' x H5 H6 hi' p5 ⟨rfl, hxi⟩
        rw [List.length_map, hlrlen'] at hi'
        obtain ⟨u, hu, huc⟩ := hlr4.at (i := i') (by simpa using hi')
        rw [List.getElem?_map, hu] at hxi
        obtain rfl := Option.some.inj hxi
        refine ⟨rfl, lcY ?_⟩
        refine ⟨_, rfl, _, rfl, _, rfl, _, rfl, u, D2, k, ls'[i'], hd, i, rfl, ?_, p5.1 _ _ hD4, hin, fun H7 p7 s7 n7 e7 => ?_⟩
        · have := p5.1 _ _ huc
          rw [this]; simp
        · refine lcq_next hD5 p5 s7 (c := dgV k (lsr i hd ls'[i']).v) ?_ e7 n7 (by simp; omega)
          rw [List.getElem?_map, List.getElem?_map, List.getElem?_eq_getElem hi']; rfl
      intro H5 ⟨s5, lr5, hL5, hlr5, hDlr5, hlrn5⟩
      rw [List.length_map, hlrlen', List.take_of_length_le (by simp)] at hlr5
      have hF5 := s5 _ _ hF4
      have hfr5 := hfr4.same s5
      have hD25 := s5 _ _ hD4
      have hfrlen : fr.length = fs.length := by rw [hfr.1, List.length_map]
      refine ⟨_, rfl, F, rfl, ⟨_, SqL.of hF5⟩, fun D6 hD6 => ?_⟩
      refine lc_it (walk_list (xs := fr.map V.ref)) (LcQ H5 D6 ((fs.map (lsr i hd)).map fun x => dgV k x.v)) (lcq_start hD6) (fun i' H6 _ p => p.1.seq (SqL.of hF5)) ?_ ?_
      · rintro i' x H6 H7 hi' p6 ⟨rfl, hxi⟩
        rw [List.length_map, hfrlen] at hi'
        obtain ⟨u, hu, huc⟩ := hfr5.at (i := i') (by simpa using hi')
        rw [List.getElem?_map, hu] at hxi
        obtain rfl := Option.some.inj hxi
        refine ⟨rfl, lcY ?_⟩
        refine ⟨_, rfl, _, rfl, _, rfl, _, rfl, u, D2, k, fs[i'], hd, i, rfl, ?_, p6.1 _ _ hD25, hin, fun H7 p7 s7 n7 e7 => ?_⟩
        · have := p6.1 _ _ huc
          rw [this]; simp
        · refine lcq_next hD6 p6 s7 (c := dgV k (lsr i hd fs[i']).v) ?_ e7 n7 (by simp; omega)
          rw [List.getElem?_map, List.getElem?_map, List.getElem?_eq_getElem hi']; rfl
      intro H6 ⟨s6, fr6, hF6, hfr6, hDfr6, hfrn6⟩
      rw [List.length_map, hfrlen, List.take_of_length_le (by simp)] at hfr6
      refine ⟨_, rfl, Nat.le_trans (Nat.le_refl 1) (by decide), fun D7 hD7 => ?_⟩
      have hD67 : D6 ≠ D7 := fun e => by rw [e, hD7] at hF6; cases hF6
      have hfr6len : fr6.length = fs.length := by rw [hfr6.1]; simp
      refine ⟨D6, D7, _, _, rfl, rfl, by rw [upd_ne hD67]; exact hF6, upd_same, small' (by simp [hfr6len]; omega), fun D8 hD8 => ?_⟩
      have n8 : H6 D8 = none := by
        by_cases e : D8 = D7
        · rw [e]; exact hD7
        · rw [upd_ne e] at hD8; exact hD8
      have s67 : Same H6 (upd H6 D7 (.lst [V.ref D2])) := sm_upd hD7
      have s68 := s67.trans (sm_upd (o := .lst (fr6.map V.ref ++ [V.ref D2])) hD8)
      have hL6 := s6 _ _ hL5
      have hL8 := s68 _ _ hL6
      have hD26 := s6 _ _ hD25
      have n58 : D5 ≠ D8 := fun e => by rw [e, n8] at hL6; cases hL6
      have hD5n : H D5 = none := by
        cases q : H D5 with
        | none => rfl
        | some o => rw [sH4 _ _ q] at hD5; cases hD5
      refine ⟨D5, D8, lr5, fr6 ++ [D2], ls'.map (lsr i hd), fs.map (lsr i hd) ++ [hd], _, _, _, _, _, _, _, rfl, (sH4.trans (s5.trans s6)).trans s68, hD5n, hL8, ?_, (hlr5.same s6).same s68, ?_, n58, hDlr5, ?_, st'⟩
      · rw [upd_same, List.map_append]; rfl
      · have a := (hfr6.same s68).snoc (s68 _ _ hD26)
        have e : ((fs.map (lsr i hd) ++ [hd]).map fun x => dgV k x.v) = ((fs.map (lsr i hd)).map fun x => dgV k x.v) ++ [dgV k hd.v] := by simp
        show Rows _ _ _
        rw [e]; exact a
      · intro hm
        rcases List.mem_append.mp hm with hm | hm
        · have := hfrn6 _ hm
          rw [hL5] at this; cases this
        · simp at hm
          rw [hm, hD4] at hD5; cases hD5
  · rintro σ H' ⟨L, F, lr, fr, ls, fs, v4, v5, v6, v7, v8, v9, v10, rfl, s, hLn, hL, hF, hlr, hfr, hLF, hLlr, hLfr, st⟩
    refine ⟨_, rfl, ret H' F fr s hF ?_⟩
    rw [hfr.1, List.length_map]
    exact st.rank
theorem len_figure_steps {vs : List V} {H : Hp} {Q : VK} {E : XK} (h : sp_figure_steps K vs H Q E) : vs.length = 2 := by
  obtain ⟨r, rs, k, xs, rfl, _⟩ := h; rfl
theorem c_figure_steps (T : Txt K mg) : C8.Cal P w K mg base 3 "figure_steps" (sp_figure_steps K) [] :=
  cal_of (k := 2) (ps := ["prime", "rows"]) T.d_figure_steps (fun _ _ _ _ _ _ us hl => match us, hl with | [_, _], _ => rfl) sc_figure_steps (fun vs H Q E h => len_figure_steps h) fun f cdv A outer s H vs Q E hr h => ⟨_, ps_figure_steps T hr, pure_figure_steps T h⟩
def sp_rows_rank (K : PySem.W.Frag) : Sp := fun vs H Q _ => ∃ (r : Addr) (rs : List Addr) (k : Kd) (xs : List (El k)), vs = [.int (k.p : Int), .ref r] ∧ H r = some (.lst (rs.map V.ref)) ∧ RowsE k H rs xs ∧ xs ≠ [] ∧ xs.length ≤ 100 ∧
  ∀ n : Nat, IsRank (El.T k) xs n → RetV H Q (.int (n : Int))
abbrev N_rows_rank : List Str := ["prime", "rows"]
theorem sc_rows_rank : FnScope N_rows_rank ["prime", "rows"] (defScope s_rows_rank) := ⟨rfl, rfl, rfl, by decide +kernel, rfl, by decide +kernel, by decide +kernel⟩
def t_rows_rank (K : PySem.W.Frag) : TS :=
  (tRet (tCB (cLen K) (tCons (tCall (sp_figure_steps K) [] E0 (tCons (tVar 0) (tCons (tVar 1) tNil))) tNil)))
theorem ps_rows_rank {f : Addr} {cdv : Value} {A : Around} {outer : List Env} {s : Shared} {H : Hp} {E : XK} (T : Txt K mg) (hr : Room 3 (A.deeper (envOfC "rows_rank" (defScope s_rows_rank) s.heap.objs.size f cdv))) :
    PSs (cxOf CX0 P w K mg base N_rows_rank "rows_rank" (defScope s_rows_rank) f cdv A outer s H E).nox (defBody s_rows_rank) (t_rows_rank K) := by
  exact (pss_one (ps_ret (pe_callB call_len_seq (by rfl) T.b_len PySem.boot_len (pa_cons (C8.pe_c (c_figure_steps T) hr (by decide) (by rfl) (pa_cons (pv 0) (pa_cons (pv 1) pa_nil))) pa_nil))))
theorem pure_rows_rank (T : Txt K mg) {vs : List V} {H : Hp} {Q : VK} {E : XK} (h : sp_rows_rank K vs H Q E) : t_rows_rank K { nx := fun _ H' => Q .non H', rt := Q } (L2.start N_rows_rank vs) H := by
  obtain ⟨r, rs, k, xs, rfl, hr, hrs, hne, hx, ret⟩ := h
  refine ⟨_, rfl, _, rfl, r, rs, k, xs, rfl, hr, hrs, hne, hx, fun H' p bs s hp hb => ?_⟩
  refine ⟨p, _, rfl, .inl (SqL.of hp), ?_⟩
  rw [List.length_map]
  exact ret _ hb H' s
theorem len_rows_rank {vs : List V} {H : Hp} {Q : VK} {E : XK} (h : sp_rows_rank K vs H Q E) : vs.length = 2 := by
  obtain ⟨r, rs, k, xs, rfl, _⟩ := h; rfl
theorem c_rows_rank (T : Txt K mg) : C8.Cal P w K mg base 4 "rows_rank" (sp_rows_rank K) [] :=
  cal_of (k := 3) (ps := ["prime", "rows"]) T.d_rows_rank (fun _ _ _ _ _ _ us hl => match us, hl with | [_, _], _ => rfl) sc_rows_rank (fun vs H Q E h => len_rows_rank h) fun f cdv A outer s H vs Q E hr h => ⟨_, ps_rows_rank T hr, pure_rows_rank T h⟩
/-- a list of elements -/
abbrev lE {k : Kd} (xs : List (El k)) : List V := xs.map vE
def sp_rank_of (K : PySem.W.Frag) : Sp := fun vs H Q _ => ∃ (f r : Addr) (k : Kd) (xs : List (El k)), vs = [.ref f, .ref r] ∧ FieldAt K H f k ∧ H r = some (.lst (lE xs)) ∧ xs ≠ [] ∧ xs.length ≤ 100 ∧
  ∀ n : Nat, IsRank (El.T k) xs n → RetV H Q (.int (n : Int))
abbrev N_rank_of : List Str := ["field", "some", "one"]
theorem sc_rank_of : FnScope N_rank_of ["field", "some"] (defScope s_rank_of) := ⟨rfl, rfl, rfl, by decide +kernel, rfl, by decide +kernel, by decide +kernel⟩
def t_rank_of (K : PySem.W.Frag) : TS :=
  (tRet (tCall (sp_rows_rank K) [] E0 (tCons (tFld K (tVar 0) "own_prime") (tCons (tLc (iList K (tVar 1)) (gName 2) tYes (tCall (sp_figures_of K) [] E0 (tCons (tVar 0) (tCons (tVar 2) tNil))) [2]) tNil))))
theorem ps_rank_of {f : Addr} {cdv : Value} {A : Around} {outer : List Env} {s : Shared} {H : Hp} {E : XK} (T : Txt K mg) (hr : Room 4 (A.deeper (envOfC "rank_of" (defScope s_rank_of) s.heap.objs.size f cdv))) :
    PSs (cxOf CX0 P w K mg base N_rank_of "rank_of" (defScope s_rank_of) f cdv A outer s H E).nox (defBody s_rank_of) (t_rank_of K) := by
  exact (pss_one (ps_ret (C8.pe_c (c_rows_rank T) hr (by decide) (by rfl) (pa_cons (pe_fld (pv 0) rfl) (pa_cons (pe_lc (own := [("one", 2)]) (g := (gName 2)) (tt := tYes) (te := (tCall (sp_figures_of K) [] E0 (tCons (tVar 0) (tCons (tVar 2) tNil)))) (by rfl) sc_rank_of.nd (pi_list (pv 1)) (blkOk_by (own := [("one", 2)]) (N := N_rank_of) (sc := defScope s_rank_of) (by decide +kernel)) (fun _ _ _ _ _ => (pg_name (i := 2) sc_rank_of.nd rfl (Or.inl rfl))) (fun _ _ _ _ _ => pts_nil) (fun _ _ _ _ _ => (C8.pe_c (c_figures_of T) hr (by decide) (by rfl) (pa_cons (pv 0) (pa_cons (pv 2) pa_nil))))) pa_nil)))))
theorem lE_at {k : Kd} {xs : List (El k)} {i : Nat} {v : V} (h : (lE xs)[i]? = some v) : ∃ (hi : i < xs.length), v = vE xs[i] := by
  unfold lE at h
  rw [List.getElem?_map] at h
  by_cases hi : i < xs.length
  · rw [List.getElem?_eq_getElem hi] at h
    exact ⟨hi, (Option.some.inj h).symm⟩
  · rw [List.getElem?_eq_none (by omega)] at h; cases h
theorem pure_rank_of (T : Txt K mg) {vs : List V} {H : Hp} {Q : VK} {E : XK} (h : sp_rank_of K vs H Q E) : t_rank_of K { nx := fun _ H' => Q .non H', rt := Q } (L2.start N_rank_of vs) H := by
  obtain ⟨f, r, k, xs, rfl, hf, hr, hne, hx, ret⟩ := h
  refine ⟨_, rfl, ?_⟩
  refine fld_prime T hf ?_
  refine ⟨_, rfl, r, rfl, ⟨_, SqL.of hr⟩, fun D hD => ?_⟩
  refine lc_it (walk_list (xs := lE xs)) (LcQ H D (xs.map fun x => dgV k x.v)) (lcq_start hD) (fun i H' _ p => p.1.seq (SqL.of hr)) ?_ ?_
  · rintro i x H' H'' hi p ⟨rfl, hxi⟩
    obtain ⟨hi', rfl⟩ := lE_at hxi
    refine ⟨rfl, lcY ?_⟩
    refine ⟨_, rfl, _, rfl, f, k, xs[i], rfl, hf.same p.1, fun H3 q s n e => ?_⟩
    exact lcq_next hD p s (by rw [List.getElem?_map, List.getElem?_eq_getElem hi']; rfl) e n (by simp; omega)
  · intro H1 ⟨s1, rs, hL, hrs, hDr, hrn⟩
    rw [List.length_map, List.take_of_length_le (by simp)] at hrs
    exact ⟨D, rs, k, xs, rfl, hL, hrs, hne, hx, fun n hn H2 s2 => ret n hn H2 (s1.trans s2)⟩
theorem len_rank_of {vs : List V} {H : Hp} {Q : VK} {E : XK} (h : sp_rank_of K vs H Q E) : vs.length = 2 := by
  obtain ⟨f, r, k, xs, rfl, _⟩ := h; rfl
theorem c_rank_of (T : Txt K mg) : C8.Cal P w K mg base 5 "rank_of" (sp_rank_of K) [] :=
  cal_of (k := 4) (ps := ["field", "some"]) T.d_rank_of (fun _ _ _ _ _ _ us hl => match us, hl with | [_, _], _ => rfl) sc_rank_of (fun vs H Q E h => len_rank_of h) fun f cdv A outer s H vs Q E hr h => ⟨_, ps_rank_of T hr, pure_rank_of T h⟩
end
end Tp
namespace Tp
open PySem PySem.Spec PyProof.Rows L2 Gab
/-! ### pairs that a walk gives -/
theorem enum_of {k : Kd} {xs : List (El k)} {i : Nat} {H H' : Hp} {v : V} (h : YPair (fun i => some (.int (i : Nat))) (fun i => (lE xs)[i]?) i H v H') :
    ∃ (T : Addr) (hi : i < xs.length), v = .ref T ∧ H T = none ∧ H' = upd H T (.tup [.int (i : Nat), vE xs[i]]) := by
  obtain ⟨T, x, y, h1, h2, h3, h4, h5⟩ := h
  obtain rfl := Option.some.inj h4
  obtain ⟨hi, rfl⟩ := lE_at h5
  exact ⟨T, hi, h1, h2, h3⟩
theorem zipE_of {k : Kd} {xs ys : List (El k)} {i : Nat} {H H' : Hp} {v : V} (h : YPair (fun i => (lE xs)[i]?) (fun i => (lE ys)[i]?) i H v H') :
    ∃ (T : Addr) (hi : i < xs.length) (hj : i < ys.length), v = .ref T ∧ H T = none ∧ H' = upd H T (.tup [vE xs[i], vE ys[i]]) := by
  obtain ⟨T, x, y, h1, h2, h3, h4, h5⟩ := h
  obtain ⟨hi, rfl⟩ := lE_at h4
  obtain ⟨hj, rfl⟩ := lE_at h5
  exact ⟨T, hi, hj, h1, h2, h3⟩
theorem lE_get {k : Kd} {xs : List (El k)} {i : Nat} (h : i < xs.length) : (lE xs)[i]? = some (vE xs[i]) := by simp [lE, h]
theorem lE_len {k : Kd} (xs : List (El k)) : (lE xs).length = xs.length := by simp [lE]
theorem lE_take {k : Kd} {xs : List (El k)} {i : Nat} (h : i < xs.length) : lE (xs.take (i + 1)) = lE (xs.take i) ++ [vE xs[i]] := take_map (List.getElem?_eq_getElem h)
/-! ### without the noughts at the end -/
def trN (xs : List Int) : Nat → Nat
  | 0 => 0
  | m + 1 => if xs.getD m 0 = 0 then trN xs m else m + 1
theorem trN_le (xs : List Int) : ∀ m, trN xs m ≤ m
  | 0 => Nat.le_refl _
  | m + 1 => by
    unfold trN
    split
    · have := trN_le xs m; omega
    · exact Nat.le_refl _
def trim (xs : List Int) : List Int := xs.take (trN xs xs.length)
theorem trim_len (xs : List Int) : (trim xs).length ≤ xs.length := by
  unfold trim; rw [List.length_take]; omega
def elI {k : Kd} (xs : List (El k)) : List Int := xs.map fun x => (x.v : Int)
theorem lE_ints {k : Kd} (xs : List (El k)) : lE xs = (elI xs).map vI := by simp [lE, elI, vE]
theorem trim_ints {k : Kd} (xs : List (El k)) : (trim (elI xs)).map vI = lE (tld xs) := by
  have key : ∀ m, m ≤ xs.length → (∀ i, m ≤ i → co xs i = 0) → ∀ i, trN (elI xs) m ≤ i → co xs i = 0 := by
    intro m
    induction m with
    | zero => intro _ h i _; exact h i (Nat.zero_le _)
    | succ m ih =>
      intro hm h i hi
      unfold trN at hi
      split at hi
      · rename_i e
        refine ih (by omega) (fun j hj => ?_) i hi
        by_cases q : j = m
        · have hml : m < xs.length := by omega
          rw [q, co_lt hml]
          unfold elI at e
          rw [List.getD_eq_getElem?_getD, List.getElem?_map, List.getElem?_eq_getElem hml] at e
          have e2 : ((xs[m].v : Nat) : Int) = 0 := e
          exact El.eq_zero.mpr (by omega)
        · exact h j (by omega)
      · exact h i hi
  have nz : ∀ m, m ≤ xs.length → trN (elI xs) m = 0 ∨ co xs (trN (elI xs) m - 1) ≠ 0 := by
    intro m
    induction m with
    | zero => intro _; exact .inl rfl
    | succ m ih =>
      intro hm
      unfold trN
      split
      · exact ih (by omega)
      · rename_i e
        refine .inr fun z => e ?_
        have hml : m < xs.length := by omega
        rw [Nat.add_sub_cancel, co_lt hml] at z
        unfold elI
        rw [List.getD_eq_getElem?_getD, List.getElem?_map, List.getElem?_eq_getElem hml]
        show ((xs[m].v : Nat) : Int) = 0
        rw [z]; rfl
  have hl : (elI xs).length = xs.length := by simp [elI]
  have hle := trN_le (elI xs) xs.length
  have e : xs.take (trN (elI xs) xs.length) = tld xs := by
    refine Told.ext ?_ (tld_told xs) fun i => ?_
    · rcases nz xs.length (Nat.le_refl _) with z | z
      · rw [z]; simp [Told]
      · refine told_of_last ?_
        rw [List.length_take, Nat.min_eq_left hle]
        have hp : trN (elI xs) xs.length - 1 < trN (elI xs) xs.length := by
          cases q : trN (elI xs) xs.length with
          | zero => rw [q] at z; exact absurd (by
              have := key xs.length (Nat.le_refl _) (fun i hi => co_out hi) 0 (by rw [q]; exact Nat.le_refl _)
              exact this) z
          | succ n => omega
        unfold co at z ⊢
        rw [List.getD_eq_getElem?_getD] at z ⊢
        rw [List.getElem?_take, if_pos hp]
        exact z
    · rw [tld_co]
      by_cases hi : i < trN (elI xs) xs.length
      · unfold co
        rw [List.getD_eq_getElem?_getD, List.getElem?_take, if_pos hi, List.getD_eq_getElem?_getD]
      · rw [key xs.length (Nat.le_refl _) (fun i hi => co_out hi) i (by omega), co_out]
        rw [List.length_take]; omega
  unfold trim
  rw [hl, ← e, List.map_take, ← lE_ints]
  simp [lE, List.map_take]
section
variable {P : Program} {w : World} {K : PySem.W.Frag} {mg : Str → Option Value} {base : Heap}
def sp_told_of (K : PySem.W.Frag) : Sp := fun vs H Q _ => ∃ (a : Addr) (xs : List Int), vs = [.ref a] ∧ H a = some (.lst (xs.map vI)) ∧ xs.length ≤ 900 ∧ RetL H Q ((trim xs).map vI)
def sp_without_end (K : PySem.W.Frag) : Sp := sp_told_of K
abbrev N_told_of : List Str := ["numbers", "many"]
theorem sc_told_of : FnScope N_told_of ["numbers"] (defScope s_told_of) := ⟨rfl, rfl, rfl, by decide +kernel, rfl, by decide +kernel, by decide +kernel⟩
def t_told_of (K : PySem.W.Frag) : TS :=
  (tSeq (tAsg (tCB (cLen K) (tCons (tVar 0) tNil)) (gName 1))
  (tSeq (tWhile (tAnd (tTest (tOp oGt (tVar 1) (tC (.int 0)))) (tTest (tOp rEq (tOp (rIxL K) (tVar 0) (tOp oSub (tVar 1) (tC (.int 1)))) (tC (.int 0))))) (tAsg (tOp oSub (tVar 1) (tC (.int 1))) (gName 1)))
  (tRet (tCB (cList K) (tCons (tSl (rSlL K) (tVar 0) tNoPart (tPart (tVar 1))) tNil)))))
theorem ps_told_of {f : Addr} {cdv : Value} {A : Around} {outer : List Env} {s : Shared} {H : Hp} {E : XK} (T : Txt K mg) (hr : Room 1 (A.deeper (envOfC "told_of" (defScope s_told_of) s.heap.objs.size f cdv))) :
    PSs (cxOf CX0 P w K mg base N_told_of "told_of" (defScope s_told_of) f cdv A outer s H E).nox (defBody s_told_of) (t_told_of K) := by
  exact (pss_cons (ps_set (i := 1) sc_told_of.nd rfl (Or.inl rfl) (pe_callB call_len_seq (by rfl) T.b_len PySem.boot_len (pa_cons (pv 0) pa_nil)))
  (pss_cons (ps_while PassesOwn.never (PW.pt (pw_and (pt_cmpR op_gt (pv 1) pe_int (nomark _)) (pw_and1 (pt_cmpR op_eq (pe_ix ix_list (pv 0) (pe_op op_sub (pv 1) pe_int) (fun _ _ => rfl)) pe_int (nomark _))))) (pss_one (ps_set (i := 1) sc_told_of.nd rfl (Or.inl rfl) (pe_op op_sub (pv 1) pe_int))))
  (pss_one (ps_ret (pe_callTy call_list_of (by rfl) T.b_list (by decide +kernel) (pa_cons (pe_slice sl_list (pv 0) po_none (po_some (pv 1))) pa_nil))))))
abbrev N_without_end : List Str := ["numbers", "many"]
theorem sc_without_end : FnScope N_without_end ["numbers"] (defScope s_without_end) := ⟨rfl, rfl, rfl, by decide +kernel, rfl, by decide +kernel, by decide +kernel⟩
def t_without_end (K : PySem.W.Frag) : TS :=
  (tSeq (tAsg (tCB (cLen K) (tCons (tVar 0) tNil)) (gName 1))
  (tSeq (tWhile (tAnd (tTest (tOp oGt (tVar 1) (tC (.int 0)))) (tTest (tOp rEq (tOp (rIxL K) (tVar 0) (tOp oSub (tVar 1) (tC (.int 1)))) (tC (.int 0))))) (tAsg (tOp oSub (tVar 1) (tC (.int 1))) (gName 1)))
  (tRet (tCB (cList K) (tCons (tSl (rSlL K) (tVar 0) tNoPart (tPart (tVar 1))) tNil)))))
theorem ps_without_end {f : Addr} {cdv : Value} {A : Around} {outer : List Env} {s : Shared} {H : Hp} {E : XK} (T : Txt K mg) (hr : Room 1 (A.deeper (envOfC "without_end" (defScope s_without_end) s.heap.objs.size f cdv))) :
    PSs (cxOf CX0 P w K mg base N_without_end "without_end" (defScope s_without_end) f cdv A outer s H E).nox (defBody s_without_end) (t_without_end K) := by
  exact (pss_cons (ps_set (i := 1) sc_without_end.nd rfl (Or.inl rfl) (pe_callB call_len_seq (by rfl) T.b_len PySem.boot_len (pa_cons (pv 0) pa_nil)))
  (pss_cons (ps_while PassesOwn.never (PW.pt (pw_and (pt_cmpR op_gt (pv 1) pe_int (nomark _)) (pw_and1 (pt_cmpR op_eq (pe_ix ix_list (pv 0) (pe_op op_sub (pv 1) pe_int) (fun _ _ => rfl)) pe_int (nomark _))))) (pss_one (ps_set (i := 1) sc_without_end.nd rfl (Or.inl rfl) (pe_op op_sub (pv 1) pe_int))))
  (pss_one (ps_ret (pe_callTy call_list_of (by rfl) T.b_list (by decide +kernel) (pa_cons (pe_slice sl_list (pv 0) po_none (po_some (pv 1))) pa_nil))))))
theorem cut_to {α : Type} {xs : List Int} {m : Nat} (h : m ≤ xs.length) : cutV (xs.map vI) none (some (m : Int)) = (xs.take m).map vI := by
  unfold cutV
  rw [HT.sIx_none, HT.sIx_nat, List.drop_zero, List.length_map, Nat.min_eq_left h, Nat.sub_zero, List.map_take]
theorem pure_told_of (T : Txt K mg) {vs : List V} {H : Hp} {Q : VK} {E : XK} (h : sp_told_of K vs H Q E) : t_told_of K { nx := fun _ H' => Q .non H', rt := Q } (L2.start N_told_of vs) H := by
  obtain ⟨a, xs, rfl, ha, hx, ret⟩ := h
  refine ⟨_, rfl, a, _, rfl, .inl (SqL.of ha), ?_⟩
  rw [List.length_map]
  refine ⟨fun m σ H' => m ≤ xs.length ∧ trN xs m = trN xs xs.length ∧ σ = [some (.ref a), some (.int (m : Int))] ∧ H' = H, ⟨xs.length, Nat.le_refl _, rfl, rfl, rfl⟩, ?_⟩
  rintro m σ H' ⟨hm, htr, rfl, rfl⟩
  refine ⟨_, rfl, _, _, rfl, rfl, _, rfl, ?_⟩
  have ex : trN xs m = m → (tRet (tCB (cList K) (tCons (tSl (rSlL K) (tVar 0) tNoPart (tPart (tVar 1))) tNil))) { nx := fun _ H' => Q .non H', rt := Q } [some (V.ref a), some (V.int (m : Int))] H' := by
    intro e
    refine ⟨_, rfl, _, rfl, _, rfl, a, _, rfl, SqL.of ha, fun p hp => ?_⟩
    refine ⟨p, _, rfl, .inl (SqL.of upd_same), fun l hl => ?_⟩
    have hl2 : H' l = none := by
      by_cases q : l = p
      · rw [q]; exact hp
      · rw [upd_ne q] at hl; exact hl
    refine ret _ l (sm_upd' (sm_upd hp) hl) hl2 ?_
    rw [upd_same, cut_to (α := Int) hm]
    unfold trim
    rw [← htr, e]
  cases m with
  | zero =>
    rw [decide_eq_false (by decide)]
    refine iteF ?_
    exact iteF (ex rfl)
  | succ m =>
    rw [decide_eq_true (by omega)]
    refine iteT ?_
    have hml : m < xs.length := by omega
    refine ⟨_, rfl, _, rfl, _, _, rfl, rfl, a, _, _, vI xs[m], rfl, rfl, SqL.of ha, at_get (j := m) (by omega) (by simp [hml]), rfl, _, rfl, ?_⟩
    have eg : xs.getD m 0 = xs[m] := by rw [List.getD_eq_getElem?_getD, List.getElem?_eq_getElem hml]; rfl
    refine ite2 (fun hc => ?_) (fun hc => ?_)
    · have e0 : xs[m] = 0 := V.int.inj (of_decide_eq_true hc)
      refine ⟨_, fun σ' H' h => h, _, rfl, _, _, rfl, rfl, m, Nat.lt_succ_self _, by omega, ?_, ?_, rfl⟩
      · rw [← htr]
        show _ = trN xs (m + 1)
        unfold trN
        rw [eg, if_pos e0]
        cases m <;> rfl
      · have : ((m + 1 : Nat) : Int) - 1 = (m : Int) := by omega
        rw [← this]; rfl
    · have e0 : xs[m] ≠ 0 := fun e => hc (by rw [e]; rfl)
      refine ex ?_
      unfold trN
      rw [eg, if_neg e0]
theorem len_told_of {vs : List V} {H : Hp} {Q : VK} {E : XK} (h : sp_told_of K vs H Q E) : vs.length = 1 := by
  obtain ⟨a, xs, rfl, _⟩ := h; rfl
theorem pure_without_end (T : Txt K mg) {vs : List V} {H : Hp} {Q : VK} {E : XK} (h : sp_without_end K vs H Q E) : t_without_end K { nx := fun _ H' => Q .non H', rt := Q } (L2.start N_without_end vs) H := pure_told_of T h
theorem len_without_end {vs : List V} {H : Hp} {Q : VK} {E : XK} (h : sp_without_end K vs H Q E) : vs.length = 1 := len_told_of h
theorem c_told_of (T : Txt K mg) : C8.Cal P w K mg base 2 "told_of" (sp_told_of K) [] :=
  cal_of (k := 1) (ps := ["numbers"]) T.d_told_of (fun _ _ _ _ _ _ us hl => match us, hl with | [_], _ => rfl) sc_told_of (fun vs H Q E h => len_told_of h) fun f cdv A outer s H vs Q E hr h => ⟨_, ps_told_of T hr, pure_told_of T h⟩
theorem c_without_end (T : Txt K mg) : C8.Cal P w K mg base 2 "without_end" (sp_without_end K) [] :=
  cal_of (k := 1) (ps := ["numbers"]) T.d_without_end (fun _ _ _ _ _ _ us hl => match us, hl with | [_], _ => rfl) sc_without_end (fun vs H Q E h => len_without_end h) fun f cdv A outer s H vs Q E hr h => ⟨_, ps_without_end T hr, pure_without_end T h⟩

/-! ### turn sums -/
def sp_sum_turners (K : PySem.W.Frag) : Sp := fun vs H Q _ => ∃ (f a b : Addr) (k : Kd) (x y : List (El k)), vs = [.ref f, .ref a, .ref b] ∧ FieldAt K H f k ∧ H a = some (.lst (lE x)) ∧ H b = some (.lst (lE y)) ∧ x.length ≤ 400 ∧ y.length ≤ 400 ∧ RetL H Q (lE (tld (ladd x y)))
abbrev N_sum_turners : List Str := ["field", "one", "other", "near", "far", "found", "at"]
theorem sc_sum_turners : FnScope N_sum_turners ["field", "one", "other"] (defScope s_sum_turners) := ⟨rfl, rfl, rfl, by decide +kernel, rfl, by decide +kernel, by decide +kernel⟩
def t_sum_turners (K : PySem.W.Frag) : TS :=
  (tSeq (tAsg (tIf (tTest (tOp oGe (tCB (cLen K) (tCons (tVar 1) tNil)) (tCB (cLen K) (tCons (tVar 2) tNil)))) (tTup (tCons (tVar 1) (tCons (tVar 2) tNil))) (tTup (tCons (tVar 2) (tCons (tVar 1) tNil)))) (gTup K 2 (gCons (gName 3) (gCons (gName 4) gNil))))
  (tSeq (tAsg (tLc (iRng1 (tCons (tCB (cLen K) (tCons (tVar 4) tNil)) tNil)) (gName 6) tYes (tCall (sp_plus_of K) [] E0 (tCons (tVar 0) (tCons (tOp (rIxL K) (tVar 3) (tVar 6)) (tCons (tOp (rIxL K) (tVar 4) (tVar 6)) tNil)))) [6]) (gName 5))
  (tRet (tCall (sp_told_of K) [] E0 (tCons (tOp rCat (tVar 5) (tSl (rSlL K) (tVar 3) (tPart (tCB (cLen K) (tCons (tVar 4) tNil))) tNoPart)) tNil)))))
theorem ps_sum_turners {f : Addr} {cdv : Value} {A : Around} {outer : List Env} {s : Shared} {H : Hp} {E : XK} (T : Txt K mg) (hr : Room 3 (A.deeper (envOfC "sum_turners" (defScope s_sum_turners) s.heap.objs.size f cdv))) :
    PSs (cxOf CX0 P w K mg base N_sum_turners "sum_turners" (defScope s_sum_turners) f cdv A outer s H E).nox (defBody s_sum_turners) (t_sum_turners K) := by
  exact (pss_cons (ps_asg (pe_ifExp (pt_cmpR op_ge (pe_callB call_len_seq (by rfl) T.b_len PySem.boot_len (pa_cons (pv 1) pa_nil)) (pe_callB call_len_seq (by rfl) T.b_len PySem.boot_len (pa_cons (pv 2) pa_nil)) (nomark _)) (pe_tup (pa_cons (pv 1) (pa_cons (pv 2) pa_nil))) (pe_tup (pa_cons (pv 2) (pa_cons (pv 1) pa_nil)))) (pg_tup (by rfl) (pgs_cons (pg_name (i := 3) sc_sum_turners.nd rfl (Or.inr rfl)) (pgs_cons (pg_name (i := 4) sc_sum_turners.nd rfl (Or.inr rfl)) pgs_nil))))
  (pss_cons (ps_setLc (i := 5) (own := [("at", 6)]) (g := (gName 6)) (tt := tYes) (te := (tCall (sp_plus_of K) [] E0 (tCons (tVar 0) (tCons (tOp (rIxL K) (tVar 3) (tVar 6)) (tCons (tOp (rIxL K) (tVar 4) (tVar 6)) tNil))))) (by rfl) sc_sum_turners.nd rfl rfl (sw_true rfl rfl rfl (by decide +kernel)) (pi_range1 (by rfl) T.b_range (pa_cons (pe_callB call_len_seq (by rfl) T.b_len PySem.boot_len (pa_cons (pv 4) pa_nil)) pa_nil)) (blkOk_by (own := [("at", 6)]) (N := N_sum_turners) (sc := defScope s_sum_turners) (by decide +kernel)) (fun _ _ _ _ _ => (pg_name (i := 6) sc_sum_turners.nd rfl (Or.inl rfl))) (fun _ _ _ _ _ => pts_nil) (fun _ _ _ _ _ => (C8.pe_c (c_plus_of T) hr (by decide) (by rfl) (pa_cons (pv 0) (pa_cons (pe_ix ix_list (pv 3) (pv 6) (fun _ _ => rfl)) (pa_cons (pe_ix ix_list (pv 4) (pv 6) (fun _ _ => rfl)) pa_nil))))))
  (pss_one (ps_ret (C8.pe_c (c_told_of T) hr (by decide) (by rfl) (pa_cons (pe_op op_cat (pv 5) (pe_slice sl_list (pv 3) (po_some (pe_callB call_len_seq (by rfl) T.b_len PySem.boot_len (pa_cons (pv 4) pa_nil))) po_none)) pa_nil))))))
theorem cut_from {k : Kd} {xs : List (El k)} {m : Nat} (h : m ≤ xs.length) : cutV (lE xs) (some (m : Int)) none = lE (xs.drop m) := by
  unfold cutV
  rw [HT.sIx_none, HT.sIx_nat, lE_len, Nat.min_eq_left h]
  rw [List.take_of_length_le (by simp [lE])]
  simp [lE, List.map_drop]
theorem sum_body (T : Txt K mg) {k : Kd} {H H0 : Hp} {Q : VK} {f a b n m : Addr} {x y : List (El k)} {v1 v2 : Option V} (hf : FieldAt K H f k) (hx : H a = some (.lst (lE x))) (hy : H b = some (.lst (lE y))) (lx : x.length ≤ 400) (hl : y.length ≤ x.length) (s0 : Same H0 H) (ret : RetL H0 Q (lE (tld (ladd x y)))) :
    (tSeq (tAsg (tLc (iRng1 (tCons (tCB (cLen K) (tCons (tVar 4) tNil)) tNil)) (gName 6) tYes (tCall (sp_plus_of K) [] E0 (tCons (tVar 0) (tCons (tOp (rIxL K) (tVar 3) (tVar 6)) (tCons (tOp (rIxL K) (tVar 4) (tVar 6)) tNil)))) [6]) (gName 5))
  (tRet (tCall (sp_told_of K) [] E0 (tCons (tOp rCat (tVar 5) (tSl (rSlL K) (tVar 3) (tPart (tCB (cLen K) (tCons (tVar 4) tNil))) tNoPart)) tNil)))) { nx := fun _ H' => Q .non H', rt := Q } [some (.ref f), v1, v2, some (.ref a), some (.ref b), none, none] H := by
  refine ⟨_, rfl, b, _, rfl, .inl (SqL.of hy), _, rfl, by rw [lE_len]; omega, by rw [lE_len]; omega, fun D hD => ?_⟩
  rw [lE_len]
  have en : ((y.length : Nat) : Int).toNat = y.length := by omega
  rw [en]
  refine lc_range (lo := 0) (n := y.length) (LcP H D fun i => lE ((List.zipWith (· + ·) x y).take i)) (lcp_start hD rfl) ?_ ?_
  · intro i H' hi p
    refine ⟨rfl, lcY ?_⟩
    have hix : i < x.length := by omega
    have e0 : (0 : Int) + (i : Int) = (i : Int) := Int.zero_add _
    rw [e0]
    refine ⟨_, rfl, _, rfl, _, rfl, a, _, _, _, rfl, rfl, SqL.of (p.1 _ _ hx), atI_nat (lE_get hix), _, rfl, _, rfl, b, _, _, _, rfl, rfl, SqL.of (p.1 _ _ hy), atI_nat (lE_get hi), f, k, x[i], y[i], rfl, hf.same p.1, fun H2 s2 => ?_⟩
    refine lcp_next hD p s2 ?_ (small (by rw [lE_len, List.length_take]; omega))
    rw [lE_take (by rw [List.length_zipWith]; omega), List.getElem_zipWith]
  · intro H2 p
    have h2 : H2 D = some (.lst (lE (List.zipWith (· + ·) x y))) := by
      have := p.2
      dsimp only at this
      rw [List.take_of_length_le (by rw [List.length_zipWith]; omega)] at this
      exact this
    refine ⟨_, rfl, _, rfl, _, rfl, b, _, rfl, .inl (SqL.of (p.1 _ _ hy)), _, rfl, a, _, rfl, SqL.of (p.1 _ _ hx), fun r hr => ?_⟩
    rw [lE_len, cut_from hl]
    have hDr : D ≠ r := fun e => by rw [e, hr] at h2; cases h2
    refine ⟨D, r, _, _, rfl, rfl, by rw [upd_ne hDr]; exact h2, upd_same, small' (by rw [lE_len, lE_len, List.length_zipWith, List.length_drop]; omega), fun u hu => ?_⟩
    have hu2 : H2 u = none := by
      by_cases q : u = r
      · rw [q]; exact hr
      · rw [upd_ne q] at hu; exact hu
    have e1 : lE (List.zipWith (· + ·) x y) ++ lE (x.drop y.length) = lE (ladd x y) := by rw [ladd_zip x y hl]; simp [lE]
    rw [e1]
    refine ⟨u, elI (ladd x y), rfl, by rw [upd_same, lE_ints], by simp [elI, ladd_len]; omega, fun H3 q s3 n3 e3 => ?_⟩
    rw [trim_ints] at e3
    have s : Same H H3 := p.1.trans ((sm_upd' (sm_upd hr) hu).trans s3)
    refine ret _ q (s0.trans s) ?_ e3
    cases z : H0 q with
    | none => rfl
    | some o => rw [sm_upd' (sm_upd hr) hu _ _ (p.1 _ _ (s0 _ _ z))] at n3; cases n3
theorem pure_sum_turners (T : Txt K mg) {vs : List V} {H : Hp} {Q : VK} {E : XK} (h : sp_sum_turners K vs H Q E) : t_sum_turners K { nx := fun _ H' => Q .non H', rt := Q } (L2.start N_sum_turners vs) H := by
  obtain ⟨f, a, b, k, x, y, rfl, hf, hx, hy, lx, ly, ret⟩ := h
  refine ⟨_, rfl, a, _, rfl, .inl (SqL.of hx), _, rfl, b, _, rfl, .inl (SqL.of hy), _, _, rfl, rfl, _, rfl, ?_⟩
  rw [lE_len, lE_len]
  refine ite2 (fun hc => ?_) (fun hc => ?_)
  · have hl : y.length ≤ x.length := by have := of_decide_eq_true hc; omega
    refine ⟨_, rfl, _, rfl, by show 2 ≤ sizeLine; decide, fun t ht => ?_⟩
    refine pair_tgt upd_same ?_
    exact sum_body T (n := 0) (m := 0) (hf.same (sm_upd ht)) (sm_upd ht _ _ hx) (sm_upd ht _ _ hy) lx hl (sm_upd ht) ret
  · have hl : x.length ≤ y.length := by
      have : ¬ ((y.length : Int) ≤ (x.length : Int)) := fun e => hc (decide_eq_true e)
      omega
    refine ⟨_, rfl, _, rfl, by show 2 ≤ sizeLine; decide, fun t ht => ?_⟩
    refine pair_tgt upd_same ?_
    exact sum_body T (n := 0) (m := 0) (hf.same (sm_upd ht)) (sm_upd ht _ _ hy) (sm_upd ht _ _ hx) ly hl (sm_upd ht) (by rw [ladd_comm y x]; exact ret)
theorem len_sum_turners {vs : List V} {H : Hp} {Q : VK} {E : XK} (h : sp_sum_turners K vs H Q E) : vs.length = 3 := by
  obtain ⟨f, a, b, k, x, y, rfl, _⟩ := h; rfl
theorem c_sum_turners (T : Txt K mg) : C8.Cal P w K mg base 4 "sum_turners" (sp_sum_turners K) [] :=
  cal_of (k := 3) (ps := ["field", "one", "other"]) T.d_sum_turners (fun _ _ _ _ _ _ us hl => match us, hl with | [_, _, _], _ => rfl) sc_sum_turners (fun vs H Q E h => len_sum_turners h) fun f cdv A outer s H vs Q E hr h => ⟨_, ps_sum_turners T hr, pure_sum_turners T h⟩
def sp_less_turners (K : PySem.W.Frag) : Sp := fun vs H Q _ => ∃ (f a b : Addr) (k : Kd) (x y : List (El k)), vs = [.ref f, .ref a, .ref b] ∧ FieldAt K H f k ∧ H a = some (.lst (lE x)) ∧ H b = some (.lst (lE y)) ∧ x.length ≤ 400 ∧ y.length ≤ 400 ∧ RetL H Q (lE (tld (lsub x y)))
abbrev N_less_turners : List Str := ["field", "one", "other", "element"]
theorem sc_less_turners : FnScope N_less_turners ["field", "one", "other"] (defScope s_less_turners) := ⟨rfl, rfl, rfl, by decide +kernel, rfl, by decide +kernel, by decide +kernel⟩
def t_less_turners (K : PySem.W.Frag) : TS :=
  (tRet (tCall (sp_sum_turners K) [] E0 (tCons (tVar 0) (tCons (tVar 1) (tCons (tLc (iList K (tVar 2)) (gName 3) tYes (tCall (sp_minus_of K) [] E0 (tCons (tVar 0) (tCons (tC (.int 0)) (tCons (tVar 3) tNil)))) [3]) tNil)))))
theorem ps_less_turners {f : Addr} {cdv : Value} {A : Around} {outer : List Env} {s : Shared} {H : Hp} {E : XK} (T : Txt K mg) (hr : Room 4 (A.deeper (envOfC "less_turners" (defScope s_less_turners) s.heap.objs.size f cdv))) :
    PSs (cxOf CX0 P w K mg base N_less_turners "less_turners" (defScope s_less_turners) f cdv A outer s H E).nox (defBody s_less_turners) (t_less_turners K) := by
  exact (pss_one (ps_ret (C8.pe_c (c_sum_turners T) hr (by decide) (by rfl) (pa_cons (pv 0) (pa_cons (pv 1) (pa_cons (pe_lc (own := [("element", 3)]) (g := (gName 3)) (tt := tYes) (te := (tCall (sp_minus_of K) [] E0 (tCons (tVar 0) (tCons (tC (.int 0)) (tCons (tVar 3) tNil))))) (by rfl) sc_less_turners.nd (pi_list (pv 2)) (blkOk_by (own := [("element", 3)]) (N := N_less_turners) (sc := defScope s_less_turners) (by decide +kernel)) (fun _ _ _ _ _ => (pg_name (i := 3) sc_less_turners.nd rfl (Or.inl rfl))) (fun _ _ _ _ _ => pts_nil) (fun _ _ _ _ _ => (C8.pe_c (c_minus_of T) hr (by decide) (by rfl) (pa_cons (pv 0) (pa_cons pe_int (pa_cons (pv 3) pa_nil)))))) pa_nil))))))
theorem pure_less_turners (T : Txt K mg) {vs : List V} {H : Hp} {Q : VK} {E : XK} (h : sp_less_turners K vs H Q E) : t_less_turners K { nx := fun _ H' => Q .non H', rt := Q } (L2.start N_less_turners vs) H := by
  obtain ⟨f, a, b, k, x, y, rfl, hf, hx, hy, lx, ly, ret⟩ := h
  refine ⟨_, rfl, _, rfl, _, rfl, b, rfl, ⟨_, SqL.of hy⟩, fun D hD => ?_⟩
  refine lc_it (walk_list (xs := lE y)) (LcP H D fun i => lE ((lneg y).take i)) (lcp_start hD rfl) (fun i H' _ p => p.1.seq (SqL.of hy)) ?_ ?_
  · rintro i z H' H'' hi p ⟨rfl, hz⟩
    obtain ⟨hi', rfl⟩ := lE_at hz
    refine ⟨rfl, lcY ?_⟩
    refine ⟨_, rfl, _, rfl, f, k, 0, y[i], rfl, hf.same p.1, fun H2 s2 => ?_⟩
    refine lcp_next hD p s2 ?_ (small (by rw [lE_len, List.length_take]; omega))
    rw [lE_take (by rw [lneg_len]; exact hi')]
    have e : (0 : El k) - y[i] = (lneg y)[i]'(by rw [lneg_len]; exact hi') := by simp [lneg]; grind
    rw [e]
  · intro H2 p
    have h2 : H2 D = some (.lst (lE (lneg y))) := by
      have := p.2
      dsimp only at this
      rw [List.take_of_length_le (by rw [lneg_len, lE_len]; exact Nat.le_refl _)] at this
      exact this
    refine ⟨f, a, D, k, x, lneg y, rfl, hf.same p.1, p.1 _ _ hx, h2, lx, by rw [lneg_len]; exact ly, fun H3 q s3 n3 e3 => ?_⟩
    refine ret _ q (p.1.trans s3) ?_ e3
    cases z : H q with
    | none => rfl
    | some o => rw [p.1 _ _ z] at n3; cases n3
theorem len_less_turners {vs : List V} {H : Hp} {Q : VK} {E : XK} (h : sp_less_turners K vs H Q E) : vs.length = 3 := by
  obtain ⟨f, a, b, k, x, y, rfl, _⟩ := h; rfl
theorem c_less_turners (T : Txt K mg) : C8.Cal P w K mg base 5 "less_turners" (sp_less_turners K) [] :=
  cal_of (k := 4) (ps := ["field", "one", "other"]) T.d_less_turners (fun _ _ _ _ _ _ us hl => match us, hl with | [_, _, _], _ => rfl) sc_less_turners (fun vs H Q E h => len_less_turners h) fun f cdv A outer s H vs Q E hr h => ⟨_, ps_less_turners T hr, pure_less_turners T h⟩
/-! ### worths -/
theorem W_snoc {F : Type} [Lean.Grind.CommRing F] (T : Trn F) (c : F) : ∀ (f : List F) (x : F), W T (f ++ [c]) x = W T f x + c * Gab.pw T f.length x
  | [], x => by simp only [List.nil_append, W, List.length_nil, Gab.pw]; grind
  | d :: f, x => by
    simp only [List.cons_append, W, List.length_cons, Gab.pw]
    rw [W_snoc T c f]; grind
theorem pw_v {k : Kd} : ∀ (i : Nat) (a : El k), (Gab.pw (El.T k) i a).v = k.sI i a.v
  | 0, a => rfl
  | i + 1, a => pw_v i ((El.T k).s a)
theorem pw_n {k : Kd} (a : El k) : Gab.pw (El.T k) k.n a = a := El.ext' (by rw [pw_v]; exact k.s_n a.v a.lt)
theorem pw_mul_n {k : Kd} : ∀ (m i : Nat) (a : El k), Gab.pw (El.T k) (i + k.n * m) a = Gab.pw (El.T k) i a
  | 0, i, a => by simp
  | m + 1, i, a => by
    rw [Nat.mul_succ, ← Nat.add_assoc, pw_add, pw_n]
    exact pw_mul_n m i a
theorem tnd_nat {k : Kd} (i : Nat) (a : El k) : tnd k (i : Int) a = Gab.pw (El.T k) i a := by
  unfold tnd
  have e : ((i : Int) % (k.n : Int)).toNat = i % k.n := by rw [← Int.natCast_emod]; rfl
  rw [e]
  have := pw_mul_n (i / k.n) (i % k.n) a
  rw [Nat.mod_add_div] at this
  exact this.symm
def sp_worth_of (K : PySem.W.Frag) : Sp := fun vs H Q _ => ∃ (f a : Addr) (k : Kd) (x : List (El k)) (y : El k), vs = [.ref f, .ref a, vE y] ∧ FieldAt K H f k ∧ H a = some (.lst (lE x)) ∧ RetV H Q (vE (W (El.T k) x y))
abbrev N_worth_of : List Str := ["field", "turner", "one", "found", "at", "element"]
theorem sc_worth_of : FnScope N_worth_of ["field", "turner", "one"] (defScope s_worth_of) := ⟨rfl, rfl, rfl, by decide +kernel, rfl, by decide +kernel, by decide +kernel⟩
def t_worth_of (K : PySem.W.Frag) : TS :=
  (tSeq (tAsg (tC (.int 0)) (gName 3))
  (tSeq (tFor (iEnum K (tCons (tVar 1) tNil)) (gTup K 2 (gCons (gName 4) (gCons (gName 5) gNil))) (tAsg (tCall (sp_plus_of K) [] E0 (tCons (tVar 0) (tCons (tVar 3) (tCons (tCall (sp_times_of K) [] E0 (tCons (tVar 0) (tCons (tVar 5) (tCons (tCall (sp_turned_of K) [] E0 (tCons (tVar 0) (tCons (tVar 2) (tCons (tVar 4) tNil)))) tNil)))) tNil)))) (gName 3)))
  (tRet (tVar 3))))
theorem ps_worth_of {f : Addr} {cdv : Value} {A : Around} {outer : List Env} {s : Shared} {H : Hp} {E : XK} (T : Txt K mg) (hr : Room 3 (A.deeper (envOfC "worth_of" (defScope s_worth_of) s.heap.objs.size f cdv))) :
    PSs (cxOf CX0 P w K mg base N_worth_of "worth_of" (defScope s_worth_of) f cdv A outer s H E).nox (defBody s_worth_of) (t_worth_of K) := by
  exact (pss_cons (ps_set (i := 3) sc_worth_of.nd rfl (Or.inl rfl) pe_int)
  (pss_cons (ps_for PassesOwn.never rfl (pi_enum (by rfl) T.b_enumerate (pa_cons (pv 1) pa_nil)) (pg_tup (by rfl) (pgs_cons (pg_name (i := 4) sc_worth_of.nd rfl (Or.inl rfl)) (pgs_cons (pg_name (i := 5) sc_worth_of.nd rfl (Or.inl rfl)) pgs_nil))) (pss_one (ps_set (i := 3) sc_worth_of.nd rfl (Or.inl rfl) (C8.pe_c (c_plus_of T) hr (by decide) (by rfl) (pa_cons (pv 0) (pa_cons (pv 3) (pa_cons (C8.pe_c (c_times_of T) hr (by decide) (by rfl) (pa_cons (pv 0) (pa_cons (pv 5) (pa_cons (C8.pe_c (c_turned_of T) hr (by decide) (by rfl) (pa_cons (pv 0) (pa_cons (pv 2) (pa_cons (pv 4) pa_nil)))) pa_nil)))) pa_nil)))))))
  (pss_one (ps_ret (pv 3)))))
theorem pure_worth_of (T : Txt K mg) {vs : List V} {H : Hp} {Q : VK} {E : XK} (h : sp_worth_of K vs H Q E) : t_worth_of K { nx := fun _ H' => Q .non H', rt := Q } (L2.start N_worth_of vs) H := by
  obtain ⟨f, a, k, x, y, rfl, hf, ha, ret⟩ := h
  refine ⟨_, rfl, a, _, rfl, SqL.of ha, ?_⟩
  refine for_it (walk_enum (xs := lE x)) (fun i σ H' => ∃ v4 v5, σ = [some (.ref f), some (.ref a), some (vE y), some (vE (W (El.T k) (x.take i) y)), v4, v5] ∧ Same H H') ⟨none, none, rfl, Same.refl H⟩ (fun i σ H' _ ⟨_, _, _, s⟩ => s.seq (SqL.of ha)) ?_ ?_
  · rintro i v σ H' H'' hi ⟨v4, v5, rfl, s⟩ hy
    obtain ⟨t, hi', rfl, ht, rfl⟩ := enum_of hy
    refine pair_tgt upd_same ?_
    have s' := sm_upd' s ht (o := .tup [.int (i : Nat), vE x[i]])
    refine ⟨_, rfl, _, rfl, _, rfl, _, rfl, _, rfl, _, rfl, _, rfl, f, k, y, (i : Int), rfl, hf.same s', fun H2 s2 => ?_⟩
    refine ⟨f, k, x[i], _, rfl, hf.same (s'.trans s2), fun H3 s3 => ?_⟩
    refine ⟨f, k, _, _, rfl, hf.same ((s'.trans s2).trans s3), fun H4 s4 => ?_⟩
    refine ⟨some (.int (i : Nat)), some (vE x[i]), ?_, ((s'.trans s2).trans s3).trans s4⟩
    have e : W (El.T k) (x.take (i + 1)) y = W (El.T k) (x.take i) y + x[i] * tnd k (i : Int) y := by
      rw [take_succ' (List.getElem?_eq_getElem hi'), W_snoc, tnd_nat, List.length_take, Nat.min_eq_left (Nat.le_of_lt hi')]
    rw [e]
    rfl
  · rintro σ H' ⟨v4, v5, rfl, s⟩
    refine ⟨_, rfl, ?_⟩
    rw [List.take_of_length_le (by rw [lE_len]; exact Nat.le_refl _)]
    exact ret _ s
theorem len_worth_of {vs : List V} {H : Hp} {Q : VK} {E : XK} (h : sp_worth_of K vs H Q E) : vs.length = 3 := by
  obtain ⟨f, a, k, x, y, rfl, _⟩ := h; rfl
theorem c_worth_of (T : Txt K mg) : C8.Cal P w K mg base 4 "worth_of" (sp_worth_of K) [] :=
  cal_of (k := 3) (ps := ["field", "turner", "one"]) T.d_worth_of (fun _ _ _ _ _ _ us hl => match us, hl with | [_, _, _], _ => rfl) sc_worth_of (fun vs H Q E h => len_worth_of h) fun f cdv A outer s H vs Q E hr h => ⟨_, ps_worth_of T hr, pure_worth_of T h⟩
end
end Tp
/-! Division from the outside: the plain law of its loop. -/
namespace Gab
open Lean.Grind (CommRing)
section
variable {F : Type} [CommRing F] [DecidableEq F] {T : Trn F}
structure DivI (T : Trn F) (N V q rest : List F) : Prop where
  eq : ∀ x, W T N x = W T V (W T q x) + W T rest x
  tr : Told rest
  ql : q.length = N.length + 1 - V.length
  rl : rest.length ≤ N.length
  low : ∀ i, i + V.length ≤ rest.length → co q i = 0
  tq : rest.length < N.length → Told q
omit [DecidableEq F] in
theorem co_rep (n i : Nat) : co (List.replicate n (0 : F)) i = 0 := by
  unfold co
  rw [List.getD_eq_getElem?_getD, List.getElem?_replicate]
  split <;> rfl
omit [DecidableEq F] in
theorem zs_rep (n : Nat) : Zs (List.replicate n (0 : F)) := fun c hc => (List.mem_replicate.mp hc).2
omit [DecidableEq F] in
theorem W_rep (n : Nat) (g : List F) : ∀ x, W T (List.replicate n 0 ++ g) x = W T g (pw T n x) := by
  induction n with
  | zero => intro x; simp [pw]
  | succ n ih => intro x; simp only [List.replicate_succ, List.cons_append, W, pw, ih]; grind
omit [DecidableEq F] in
theorem co_set (q : List F) (s i : Nat) (y : F) (hs : s < q.length) : co (q.set s y) i = if i = s then y else co q i := by
  unfold co
  rw [List.getD_eq_getElem?_getD, List.getElem?_set]
  by_cases e : s = i
  · subst e; simp [hs]
  · rw [if_neg e, if_neg (fun z => e z.symm), List.getD_eq_getElem?_getD]
omit [DecidableEq F] in
theorem W_set (q : List F) : ∀ (s : Nat) (y x : F), s < q.length → co q s = 0 → W T (q.set s y) x = W T q x + y * pw T s x := by
  induction q with
  | nil => intro s y x h; simp at h
  | cons c q ih =>
    intro s y x h h0
    cases s with
    | zero =>
      rw [co_zero] at h0
      simp only [List.set_cons_zero, W, pw]; rw [h0]; grind
    | succ s =>
      rw [co_succ] at h0
      simp only [List.set_cons_succ, W, pw]
      rw [ih s y (T.s x) (by simpa using h) h0]; grind
omit [DecidableEq F] in
theorem DivI.start (N V : List F) (tN : Told N) : DivI T N V (List.replicate (N.length + 1 - V.length) 0) N where
  eq := fun x => by rw [(zs_rep _).W T x, W_zero]; grind
  tr := tN
  ql := by simp
  rl := Nat.le_refl _
  low := fun i _ => co_rep _ i
  tq := fun h => absurd h (Nat.lt_irrefl _)
theorem DivI.step {N V q rest : List F} (h : DivI T N V q rest) (hV : V ≠ []) (tV : Told V) (hl : V.length ≤ rest.length) {y : F}
    (hy : pw T (V.length - 1) y = co rest (rest.length - 1) * T.inv (co V (V.length - 1))) :
    DivI T N V (q.set (rest.length - V.length) y) (tld (lsub rest (List.replicate (rest.length - V.length) 0 ++ tw T V y))) ∧
      (tld (lsub rest (List.replicate (rest.length - V.length) 0 ++ tw T V y))).length < rest.length ∧ rest.length - V.length < q.length := by
  have hVp := List.length_pos_iff.mpr hV
  have hrn : rest ≠ [] := List.ne_nil_of_length_pos (by omega)
  have hVl := tV.last hV
  have hrl := h.tr.last hrn
  have hu : co rest (rest.length - 1) * T.inv (co V (V.length - 1)) ≠ 0 := fun e => T.invne hVl (T.nzd hrl e)
  have hy0 : y ≠ 0 := fun e => by rw [e, pw_zero] at hy; exact hu hy.symm
  have hql := h.ql
  have hrlen := h.rl
  have hs : rest.length - V.length < q.length := by omega
  have hS : (List.replicate (rest.length - V.length) (0 : F) ++ tw T V y).length = rest.length := by simp [tw_len]; omega
  have hSW : ∀ x, W T (List.replicate (rest.length - V.length) 0 ++ tw T V y) x = W T V (y * pw T (rest.length - V.length) x) := fun x => by rw [W_rep, tw_W]
  have hlow := h.low (rest.length - V.length) (by omega)
  have hlt : (tld (lsub rest (List.replicate (rest.length - V.length) 0 ++ tw T V y))).length < rest.length := by
    have e : (lsub rest (List.replicate (rest.length - V.length) 0 ++ tw T V y)).length = rest.length := by rw [lsub_len, hS, Nat.max_self]
    have := tld_lt (f := lsub rest (List.replicate (rest.length - V.length) 0 ++ tw T V y)) (List.ne_nil_of_length_pos (by omega)) (by
      rw [e, lsub_co]
      have e2 : co (List.replicate (rest.length - V.length) (0 : F) ++ tw T V y) (rest.length - 1) = co (tw T V y) (V.length - 1) := by
        unfold co
        rw [List.getD_eq_getElem?_getD, List.getElem?_append_right (by simp; omega), List.getD_eq_getElem?_getD]
        simp only [List.length_replicate]
        congr 2; omega
      rw [e2, tw_co, hy]
      have := T.inv_mul _ hVl
      grind)
    omega
  refine ⟨⟨fun x => ?_, tld_told _, by simp [hql], by omega, fun i hi => ?_, fun _ => ?_⟩, hlt, hs⟩
  · rw [W_set q _ y x hs hlow, tld_W, lsub_W, hSW, W_add, h.eq x]; grind
  · rw [co_set _ _ _ _ hs, if_neg (by omega)]
    exact h.low i (by omega)
  · refine told_of_last ?_
    rw [co_set _ _ _ _ hs, List.length_set]
    by_cases e : q.length - 1 = rest.length - V.length
    · rw [if_pos e]; exact hy0
    · rw [if_neg e]
      exact (h.tq (by omega)).last (List.ne_nil_of_length_pos (by omega))
omit [DecidableEq F] in
theorem DivI.fin {N V q rest : List F} (h : DivI T N V q rest) (hV : V ≠ []) (hl : rest.length < V.length) : Div T N V q rest where
  eq := h.eq
  lt := hl
  tr := h.tr
  tq := by
    by_cases e : rest.length < N.length
    · exact h.tq e
    · have h1 := h.rl
      have h2 := h.ql
      have : q = [] := List.length_eq_zero_iff.mp (by omega)
      rw [this]; simp [Told]
  len := by
    have h2 := h.ql
    by_cases e : V.length ≤ N.length + 1
    · exact .inr (by omega)
    · exact .inl (List.length_eq_zero_iff.mp (by omega))
end
end Gab
namespace Tp
open PySem PySem.Spec PyProof.Rows L2 Gab
section
variable {P : Program} {w : World} {K : PySem.W.Frag} {mg : Str → Option Value} {base : Heap}
theorem tnd_back {k : Kd} (j : Nat) (u : El k) : Gab.pw (El.T k) j (tnd k (1 - ((j + 1 : Nat) : Int)) u) = u := by
  unfold tnd
  have hn := k.n_ge
  have e1 : (1 - ((j + 1 : Nat) : Int)) = -(j : Int) := by omega
  rw [e1, ← pw_add]
  have h1 := Int.emod_nonneg (-(j : Int)) (b := (k.n : Int)) (by omega)
  have h2 := Int.emod_add_mul_ediv (-(j : Int)) (k.n : Int)
  have h3 : ∃ c : Nat, ((-(j : Int)) % (k.n : Int)).toNat + j = 0 + k.n * c := by
    refine ⟨(-((-(j : Int)) / (k.n : Int))).toNat, ?_⟩
    have h4 : 0 ≤ -((-(j : Int)) / (k.n : Int)) := by
      have : (-(j : Int)) / (k.n : Int) ≤ 0 := Int.ediv_nonpos_of_nonpos_of_neg (by omega) (by omega)
      omega
    have h5 : ((((-(j : Int)) % (k.n : Int)).toNat + j : Nat) : Int) = ((0 + k.n * (-((-(j : Int)) / (k.n : Int))).toNat : Nat) : Int) := by
      push_cast
      rw [Int.toNat_of_nonneg h1, Int.toNat_of_nonneg h4, Int.mul_neg]
      omega
    exact_mod_cast h5
  obtain ⟨c, hc⟩ := h3
  rw [hc, pw_mul_n]
  rfl
theorem atI_last' {α : Type} {xs : List α} {v : α} (h : xs[xs.length - 1]? = some v) : atI xs (-1) = some v := by
  have hp : 0 < xs.length := by
    cases xs with
    | nil => simp at h
    | cons a r => simp
  unfold atI ixN
  rw [if_neg (by decide), if_pos (by omega)]
  have : ((-1 : Int) + (xs.length : Int)).toNat = xs.length - 1 := by omega
  rw [this]
  exact h
theorem rep1 (n : Nat) (v : V) : (List.replicate n [v]).flatten = List.replicate n v := by
  induction n with
  | zero => rfl
  | succ n ih => simp [List.replicate_succ, ih]
theorem lE_rep {k : Kd} (n : Nat) : lE (List.replicate n (0 : El k)) = List.replicate n (V.int 0) := by
  unfold lE
  rw [List.map_replicate]; rfl
theorem lE_last {k : Kd} {xs : List (El k)} (h : xs ≠ []) : (lE xs)[(lE xs).length - 1]? = some (vE (co xs (xs.length - 1))) := by
  have hp := List.length_pos_iff.mpr h
  rw [lE_len, lE_get (by omega), co_lt (by omega)]
theorem lE_set {k : Kd} (xs : List (El k)) (i : Nat) (y : El k) : (lE xs).set i (vE y) = lE (xs.set i y) := by
  unfold lE; rw [List.map_set]
def sp_outer_parts (K : PySem.W.Frag) : Sp := fun vs H Q _ => ∃ (f a b : Addr) (k : Kd) (N M : List (El k)), vs = [.ref f, .ref a, .ref b] ∧ FieldAt K H f k ∧ H a = some (.lst (lE N)) ∧ H b = some (.lst (lE M)) ∧ N.length ≤ 100 ∧ M.length ≤ 100 ∧ M ≠ [] ∧ Told N ∧ Told M ∧
  ∀ H' p q r qs rs, Same H H' → H q = none → H' p = some (.tup [.ref q, .ref r]) → H' q = some (.lst (lE qs)) → H' r = some (.lst (lE rs)) → Div (El.T k) N M qs rs → Q (.ref p) H'
abbrev N_outer_parts : List Str := ["field", "one", "other", "rest", "quotient", "shift", "factor", "taken", "at", "element"]
theorem sc_outer_parts : FnScope N_outer_parts ["field", "one", "other"] (defScope s_outer_parts) := ⟨rfl, rfl, rfl, by decide +kernel, rfl, by decide +kernel, by decide +kernel⟩
def t_outer_parts (K : PySem.W.Frag) : TS :=
  (tSeq (tPar 3 4 (tCons (tVar 1) (tCons (tOp rRep (tLst (tCons (tC (.int 0)) tNil)) (tCB cMax (tCons (tC (.int 0)) (tCons (tOp oAdd (tOp oSub (tCB (cLen K) (tCons (tVar 1) tNil)) (tCB (cLen K) (tCons (tVar 2) tNil))) (tC (.int 1))) tNil)))) tNil)))
  (tSeq (tWhile (tTest (tOp oGe (tCB (cLen K) (tCons (tVar 3) tNil)) (tCB (cLen K) (tCons (tVar 2) tNil)))) (tSeq (tAsg (tOp oSub (tCB (cLen K) (tCons (tVar 3) tNil)) (tCB (cLen K) (tCons (tVar 2) tNil))) (gName 5))
  (tSeq (tAsg (tCall (sp_turned_of K) [] E0 (tCons (tVar 0) (tCons (tCall (sp_over_of K) [] E0 (tCons (tVar 0) (tCons (tOp (rIxL K) (tVar 3) (tUn uNeg (tC (.int 1)))) (tCons (tOp (rIxL K) (tVar 2) (tUn uNeg (tC (.int 1)))) tNil)))) (tCons (tOp oSub (tC (.int 1)) (tCB (cLen K) (tCons (tVar 2) tNil))) tNil)))) (gName 6))
  (tSeq (tAsg (tVar 6) (gSub (tVar 4) (tVar 5) rSetL))
  (tSeq (tAsg (tLc (iEnum K (tCons (tVar 2) tNil)) (gTup K 2 (gCons (gName 8) (gCons (gName 9) gNil))) tYes (tCall (sp_times_of K) [] E0 (tCons (tVar 0) (tCons (tVar 9) (tCons (tCall (sp_turned_of K) [] E0 (tCons (tVar 0) (tCons (tVar 6) (tCons (tVar 8) tNil)))) tNil)))) [8, 9]) (gName 7))
  (tAsg (tCall (sp_less_turners K) [] E0 (tCons (tVar 0) (tCons (tVar 3) (tCons (tOp rCat (tOp rRep (tLst (tCons (tC (.int 0)) tNil)) (tVar 5)) (tVar 7)) tNil)))) (gName 3)))))))
  (tRet (tTup (tCons (tVar 4) (tCons (tVar 3) tNil))))))
theorem ps_outer_parts {f : Addr} {cdv : Value} {A : Around} {outer : List Env} {s : Shared} {H : Hp} {E : XK} (T : Txt K mg) (hr : Room 5 (A.deeper (envOfC "outer_parts" (defScope s_outer_parts) s.heap.objs.size f cdv))) :
    PSs (cxOf CX0 P w K mg base N_outer_parts "outer_parts" (defScope s_outer_parts) f cdv A outer s H E).nox (defBody s_outer_parts) (t_outer_parts K) := by
  exact (pss_cons (ps_par (i := 3) (j := 4) (by rfl) sc_outer_parts.nd rfl rfl (by decide) rfl rfl (pa_cons (pv 1) (pa_cons (pe_op op_rep (pe_lst (pa_cons pe_int pa_nil)) (pe_callB (call_max2 rfl) (by rfl) T.b_max (by decide +kernel) (pa_cons pe_int (pa_cons (pe_op op_add (pe_op op_sub (pe_callB call_len_seq (by rfl) T.b_len PySem.boot_len (pa_cons (pv 1) pa_nil)) (pe_callB call_len_seq (by rfl) T.b_len PySem.boot_len (pa_cons (pv 2) pa_nil))) pe_int) pa_nil)))) pa_nil)) (by rfl))
  (pss_cons (ps_while PassesOwn.never (pt_cmpR op_ge (pe_callB call_len_seq (by rfl) T.b_len PySem.boot_len (pa_cons (pv 3) pa_nil)) (pe_callB call_len_seq (by rfl) T.b_len PySem.boot_len (pa_cons (pv 2) pa_nil)) (nomark _)) (pss_cons (ps_set (i := 5) sc_outer_parts.nd rfl (Or.inl rfl) (pe_op op_sub (pe_callB call_len_seq (by rfl) T.b_len PySem.boot_len (pa_cons (pv 3) pa_nil)) (pe_callB call_len_seq (by rfl) T.b_len PySem.boot_len (pa_cons (pv 2) pa_nil))))
  (pss_cons (ps_set (i := 6) sc_outer_parts.nd rfl (Or.inr rfl) (C8.pe_c (c_turned_of T) hr (by decide) (by rfl) (pa_cons (pv 0) (pa_cons (C8.pe_c (c_over_of T) hr (by decide) (by rfl) (pa_cons (pv 0) (pa_cons (pe_ix ix_list (pv 3) (pe_un un_neg pe_int) (fun _ _ => rfl)) (pa_cons (pe_ix ix_list (pv 2) (pe_un un_neg pe_int) (fun _ _ => rfl)) pa_nil)))) (pa_cons (pe_op op_sub pe_int (pe_callB call_len_seq (by rfl) T.b_len PySem.boot_len (pa_cons (pv 2) pa_nil))) pa_nil)))))
  (pss_cons (ps_asg (pv 6) (pg_sub (pv 4) (pv 5) set_list))
  (pss_cons (ps_setLc (i := 7) (own := [("at", 8), ("element", 9)]) (g := (gTup K 2 (gCons (gName 8) (gCons (gName 9) gNil)))) (tt := tYes) (te := (tCall (sp_times_of K) [] E0 (tCons (tVar 0) (tCons (tVar 9) (tCons (tCall (sp_turned_of K) [] E0 (tCons (tVar 0) (tCons (tVar 6) (tCons (tVar 8) tNil)))) tNil))))) (by rfl) sc_outer_parts.nd rfl rfl (sw_true rfl rfl rfl (by decide +kernel)) (pi_enum (by rfl) T.b_enumerate (pa_cons (pv 2) pa_nil)) (blkOk_by (own := [("at", 8), ("element", 9)]) (N := N_outer_parts) (sc := defScope s_outer_parts) (by decide +kernel)) (fun _ _ _ _ _ => (pg_tup (by rfl) (pgs_cons (pg_name (i := 8) sc_outer_parts.nd rfl (Or.inl rfl)) (pgs_cons (pg_name (i := 9) sc_outer_parts.nd rfl (Or.inl rfl)) pgs_nil)))) (fun _ _ _ _ _ => pts_nil) (fun _ _ _ _ _ => (C8.pe_c (c_times_of T) hr (by decide) (by rfl) (pa_cons (pv 0) (pa_cons (pv 9) (pa_cons (C8.pe_c (c_turned_of T) hr (by decide) (by rfl) (pa_cons (pv 0) (pa_cons (pv 6) (pa_cons (pv 8) pa_nil)))) pa_nil))))))
  (pss_one (ps_set (i := 3) sc_outer_parts.nd rfl (Or.inl rfl) (C8.pe_c (c_less_turners T) hr (by decide) (by rfl) (pa_cons (pv 0) (pa_cons (pv 3) (pa_cons (pe_op op_cat (pe_op op_rep (pe_lst (pa_cons pe_int pa_nil)) (pv 5)) (pv 7)) pa_nil)))))))))))
  (pss_one (ps_ret (pe_tup (pa_cons (pv 4) (pa_cons (pv 3) pa_nil)))))))
theorem pure_outer_parts (T : Txt K mg) {vs : List V} {H : Hp} {Q : VK} {E : XK} (h : sp_outer_parts K vs H Q E) : t_outer_parts K { nx := fun _ H' => Q .non H', rt := Q } (L2.start N_outer_parts vs) H := by
  obtain ⟨f, a, b, k, N, M, rfl, hf, ha, hb, lN, lM, hM, tN, tM, ret⟩ := h
  have hMp := List.length_pos_iff.mpr hM
  refine ⟨_, rfl, Nat.le_trans (Nat.le_refl 1) (by decide), fun z hz => ?_⟩
  have s1 : Same H (upd H z (.lst [V.int 0])) := sm_upd hz
  refine ⟨_, rfl, a, _, rfl, .inl (SqL.of (s1 _ _ ha)), _, rfl, b, _, rfl, .inl (SqL.of (s1 _ _ hb)), _, _, rfl, rfl, _, _, rfl, rfl, _, _, rfl, ?_⟩
  rw [lE_len, lE_len]
  generalize hmx : (if (N.length : Int) - (M.length : Int) + 1 > 0 then (N.length : Int) - (M.length : Int) + 1 else 0) = mx
  have hmx2 : mx = ((N.length + 1 - M.length : Nat) : Int) := by
    rw [← hmx]; split <;> omega
  refine ⟨z, mx, _, rfl, rfl, upd_same, by omega, by omega, small' (by simp; omega), fun qa hqa => ?_⟩
  have e1 : mx.toNat = N.length + 1 - M.length := by omega
  rw [e1, rep1, ← lE_rep (k := k)]
  refine ⟨_, _, rfl, ?_⟩
  have s2 := sm_upd' s1 hqa (o := .lst (lE (List.replicate (N.length + 1 - M.length) (0 : El k))))
  have hqn : H qa = none := by
    cases q : H qa with
    | none => rfl
    | some o => rw [s1 _ _ q] at hqa; cases hqa
  have haq : a ≠ qa := fun e => by rw [e, hqn] at ha; cases ha
  refine ⟨fun m σ H' => ∃ (ra : Addr) (q rest : List (El k)) (v5 v6 v7 v8 v9 : Option V), σ = [some (.ref f), some (.ref a), some (.ref b), some (.ref ra), some (.ref qa), v5, v6, v7, v8, v9] ∧ Same H H' ∧ H' ra = some (.lst (lE rest)) ∧ H' qa = some (.lst (lE q)) ∧ ra ≠ qa ∧ DivI (El.T k) N M q rest ∧ m = rest.length,
    ⟨N.length, a, _, N, none, none, none, none, none, rfl, s2, s2 _ _ ha, upd_same, haq, DivI.start N M tN, rfl⟩, ?_⟩
  rintro m σ H' ⟨ra, q, rest, v5, v6, v7, v8, v9, rfl, s, hra, hq, hne, dv, rfl⟩
  have hb' := s _ _ hb
  have hrl := dv.rl
  refine ⟨_, rfl, ra, _, rfl, .inl (SqL.of hra), _, rfl, b, _, rfl, .inl (SqL.of hb'), _, _, rfl, rfl, _, rfl, ?_⟩
  rw [lE_len, lE_len]
  refine ite2 (fun hc => ?_) (fun hc => ?_)
  · have hl : M.length ≤ rest.length := by have := of_decide_eq_true hc; omega
    refine ⟨_, fun σ' H' h => h, ?_⟩
    refine ⟨_, rfl, ra, _, rfl, .inl (SqL.of hra), _, rfl, b, _, rfl, .inl (SqL.of hb'), _, _, rfl, rfl, ?_⟩
    rw [lE_len, lE_len]
    have hrn : rest ≠ [] := List.ne_nil_of_length_pos (by omega)
    refine ⟨_, rfl, _, rfl, _, rfl, _, rfl, ra, _, _, _, rfl, rfl, SqL.of hra, atI_last' (lE_last hrn), _, rfl, _, rfl, b, _, _, _, rfl, rfl, SqL.of hb', atI_last' (lE_last hM), ?_⟩
    refine ⟨f, k, _, _, rfl, hf.same s, tM.last hM, fun H2 s3 => ?_⟩
    refine ⟨_, rfl, b, _, rfl, .inl (SqL.of (s3 _ _ hb')), _, _, rfl, rfl, ?_⟩
    rw [lE_len]
    refine ⟨f, k, _, _, rfl, (hf.same s).same s3, fun H3 s4 => ?_⟩
    have s34 := s3.trans s4
    have hq3 := s34 _ _ hq
    generalize hy : tnd k (1 - (M.length : Int)) (co rest (rest.length - 1) * (El.T k).inv (co M (M.length - 1))) = y
    have hyy : Gab.pw (El.T k) (M.length - 1) y = co rest (rest.length - 1) * (El.T k).inv (co M (M.length - 1)) := by
      rw [← hy]
      have := tnd_back (M.length - 1) (co rest (rest.length - 1) * (El.T k).inv (co M (M.length - 1)))
      rwa [Nat.sub_add_cancel (by omega)] at this
    obtain ⟨dv', hlt, hsq⟩ := dv.step hM tM hl hyy
    have esh : (rest.length : Int) - (M.length : Int) = ((rest.length - M.length : Nat) : Int) := by omega
    dsimp only
    rw [esh]
    refine ⟨_, rfl, _, rfl, _, rfl, qa, _, _, rest.length - M.length, rfl, rfl, hq3, ?_, ?_⟩
    · unfold ixN
      rw [if_pos (by omega), if_pos (by rw [lE_len]; omega)]
      simp
    rw [lE_set]
    have hraq : ∀ {o : HO}, H3 ra = some o → (upd H3 qa (.lst (lE (q.set (rest.length - M.length) y)))) ra = some o := fun e => by rw [upd_ne hne]; exact e
    have s5 : Same H (upd H3 qa (.lst (lE (q.set (rest.length - M.length) y)))) := sm_set (s.trans s34) hqn
    generalize hH4 : upd H3 qa (.lst (lE (q.set (rest.length - M.length) y))) = H4 at hraq s5
    have hq4 : H4 qa = some (.lst (lE (q.set (rest.length - M.length) y))) := by rw [← hH4, upd_same]
    have hra4 : H4 ra = some (.lst (lE rest)) := hraq (s34 _ _ hra)
    have hb4 := s5 _ _ hb
    refine ⟨_, rfl, b, _, rfl, SqL.of hb4, fun D hD => ?_⟩
    refine lc_it (walk_enum (xs := lE M)) (LcP H4 D fun i => lE ((tw (El.T k) M y).take i)) (lcp_start hD rfl) (fun i H' _ p => p.1.seq (SqL.of hb4)) ?_ ?_
    · rintro i v H5 H6 hi p hyv
      obtain ⟨t, hi', rfl, ht, rfl⟩ := enum_of hyv
      refine pair_tgt upd_same ⟨rfl, lcY ?_⟩
      have s6 := p.1.trans (sm_upd ht (o := .tup [.int (i : Nat), vE M[i]]))
      refine ⟨_, rfl, _, rfl, _, rfl, _, rfl, _, rfl, f, k, y, (i : Int), rfl, (hf.same s5).same s6, fun H7 s7 => ?_⟩
      refine ⟨f, k, M[i], _, rfl, ((hf.same s5).same s6).same s7, fun H8 s8 => ?_⟩
      refine lcp_next hD p (((sm_upd ht).trans s7).trans s8) ?_ (small (by rw [lE_len, List.length_take, tw_len]; omega))
      rw [lE_take (by rw [tw_len]; exact hi')]
      have e : M[i] * tnd k (i : Int) y = (tw (El.T k) M y)[i]'(by rw [tw_len]; exact hi') := by
        rw [← co_lt (f := tw (El.T k) M y) (by rw [tw_len]; exact hi'), tw_co, co_lt hi', tnd_nat]
      rw [e]
    intro H5 p
    have hD5 : H5 D = some (.lst (lE (tw (El.T k) M y))) := by
      have := p.2
      dsimp only at this
      rw [List.take_of_length_le (by rw [tw_len, lE_len]; exact Nat.le_refl _)] at this
      exact this
    refine ⟨_, rfl, _, rfl, Nat.le_trans (Nat.le_refl 1) (by decide), fun z2 hz2 => ?_⟩
    have s6 := p.1.trans (sm_upd hz2 (o := .lst [V.int 0]))
    refine ⟨_, rfl, z2, _, _, rfl, rfl, upd_same, by omega, by omega, small' (by simp; omega), fun z3 hz3 => ?_⟩
    have e2 : ((rest.length - M.length : Nat) : Int).toNat = rest.length - M.length := by omega
    rw [e2, rep1, ← lE_rep (k := k)]
    have s7 := sm_upd' s6 hz3 (o := .lst (lE (List.replicate (rest.length - M.length) (0 : El k))))
    have hz3D : D ≠ z3 := fun e => by
      rw [← e] at hz3
      have hz2D : D ≠ z2 := fun e => by rw [← e, hD5] at hz2; cases hz2
      rw [upd_ne hz2D, hD5] at hz3; cases hz3
    have hz2D : D ≠ z2 := fun e => by rw [← e, hD5] at hz2; cases hz2
    refine ⟨_, rfl, z3, D, _, _, rfl, rfl, upd_same, by rw [upd_ne hz3D, upd_ne hz2D]; exact hD5, small' (by rw [lE_len, lE_len, List.length_replicate, tw_len]; omega), fun z4 hz4 => ?_⟩
    have s8 := sm_upd' s7 hz4 (o := .lst (lE (List.replicate (rest.length - M.length) (0 : El k)) ++ lE (tw (El.T k) M y)))
    have eapp : lE (List.replicate (rest.length - M.length) (0 : El k)) ++ lE (tw (El.T k) M y) = lE (List.replicate (rest.length - M.length) (0 : El k) ++ tw (El.T k) M y) := by simp [lE]
    refine ⟨f, ra, z4, k, rest, List.replicate (rest.length - M.length) (0 : El k) ++ tw (El.T k) M y, rfl, (hf.same s5).same s8, s8 _ _ hra4, by rw [upd_same, eapp], by omega, by simp [tw_len]; omega, fun H9 r9 s9 n9 e9 => ?_⟩
    have s10 := s8.trans s9
    have hq9 := s10 _ _ hq4
    refine ⟨_, hlt, r9, q.set (rest.length - M.length) y, _, _, _, _, _, _, rfl, s5.trans s10, e9, hq9, ?_, dv', rfl⟩
    intro e
    rw [e, s8 _ _ hq4] at n9; cases n9
  · have hl : rest.length < M.length := by
      have : ¬ ((M.length : Int) ≤ (rest.length : Int)) := fun e => hc (decide_eq_true e)
      omega
    refine ⟨_, rfl, _, rfl, by show 2 ≤ sizeLine; decide, fun t ht => ?_⟩
    exact ret _ t qa ra q rest (sm_upd' s ht) hqn upd_same (by rw [upd_ne (ne_of_none hq ht)]; exact hq) (by rw [upd_ne (ne_of_none hra ht)]; exact hra) (dv.fin hM hl)
theorem len_outer_parts {vs : List V} {H : Hp} {Q : VK} {E : XK} (h : sp_outer_parts K vs H Q E) : vs.length = 3 := by
  obtain ⟨f, a, b, k, N, M, rfl, _⟩ := h; rfl
theorem c_outer_parts (T : Txt K mg) : C8.Cal P w K mg base 6 "outer_parts" (sp_outer_parts K) [] :=
  cal_of (k := 5) (ps := ["field", "one", "other"]) T.d_outer_parts (fun _ _ _ _ _ _ us hl => match us, hl with | [_, _, _], _ => rfl) sc_outer_parts (fun vs H Q E h => len_outer_parts h) fun f cdv A outer s H vs Q E hr h => ⟨_, ps_outer_parts T hr, pure_outer_parts T h⟩
end
end Tp
/-! Rows solved: the plain law of lone_solution. -/
namespace Gab
open Lean.Grind (CommRing)
section
variable {F : Type} [CommRing F] {T : Trn F}
def sm : Nat → (Nat → F) → F
  | 0, _ => 0
  | n + 1, f => sm n f + f n
theorem sm_zero {n : Nat} {f : Nat → F} (h : ∀ p, p < n → f p = 0) : sm n f = 0 := by
  induction n with
  | zero => rfl
  | succ n ih =>
    simp only [sm]
    rw [ih fun p hp => h p (by omega), h n (by omega)]; grind
theorem sm_congr {n : Nat} {f g : Nat → F} (h : ∀ p, p < n → f p = g p) : sm n f = sm n g := by
  induction n with
  | zero => rfl
  | succ n ih =>
    simp only [sm]
    rw [ih fun p hp => h p (by omega), h n (by omega)]
theorem sm_one {n a : Nat} {f : Nat → F} (ha : a < n) (h : ∀ p, p < n → p ≠ a → f p = 0) : sm n f = f a := by
  induction n with
  | zero => omega
  | succ n ih =>
    simp only [sm]
    by_cases e : a = n
    · rw [sm_zero fun p hp => h p (by omega) (by omega), e]; grind
    · rw [ih (by omega) fun p hp hq => h p (by omega) hq, h n (by omega) (by omega)]; grind
theorem sm_two {n a b : Nat} {f : Nat → F} (ha : a < n) (hb : b < n) (hab : a ≠ b) (h : ∀ p, p < n → p ≠ a → p ≠ b → f p = 0) : sm n f = f a + f b := by
  induction n with
  | zero => omega
  | succ n ih =>
    simp only [sm]
    by_cases ea : a = n
    · rw [sm_one (a := b) (by omega) fun p hp hq => h p (by omega) (by omega) hq, ea]; grind
    · by_cases eb : b = n
      · rw [sm_one (a := a) (by omega) fun p hp hq => h p (by omega) hq (by omega), eb]
      · rw [ih (by omega) (by omega) fun p hp hq hr => h p (by omega) hq hr, h n (by omega) (by omega) (by omega)]; grind
theorem sm_lin {n : Nat} {f g h : Nat → F} {c : F} (e : ∀ p, p < n → f p = g p + c * h p) : sm n f = sm n g + c * sm n h := by
  induction n with
  | zero => simp only [sm]; grind
  | succ n ih =>
    simp only [sm]
    rw [ih fun p hp => e p (by omega), e n (by omega)]; grind
theorem sm_split (a b : Nat) (f : Nat → F) : sm (a + b) f = sm a f + sm b fun p => f (a + p) := by
  induction b with
  | zero => simp only [sm, Nat.add_zero]; grind
  | succ b ih => simp only [sm, ← Nat.add_assoc, ih]; grind
theorem W_sm (f : List F) (x : F) : W T f x = sm f.length fun p => co f p * pw T p x := by
  have key : ∀ n, n ≤ f.length → W T (f.take n) x = sm n fun p => co f p * pw T p x := by
    intro n
    induction n with
    | zero => intro _; simp [W, sm]
    | succ n ih =>
      intro hn
      have hl : n < f.length := by omega
      have e : f.take (n + 1) = f.take n ++ [f[n]] := by rw [List.take_succ, List.getElem?_eq_getElem hl]; rfl
      rw [e]
      simp only [sm]
      rw [← ih (by omega), co_lt hl]
      have : ∀ (g : List F) (c : F) (x : F), W T (g ++ [c]) x = W T g x + c * pw T g.length x := by
        intro g c
        induction g with
        | nil => intro x; simp only [List.nil_append, W, List.length_nil, pw]; grind
        | cons d g ih => intro x; simp only [List.cons_append, W, List.length_cons, pw, ih]; grind
      rw [this, List.length_take, Nat.min_eq_left (by omega)]
  have := key f.length (Nat.le_refl _)
  rwa [List.take_length] at this
/-- a row and a word stand against one another -/
def kil (n : Nat) (r x : List F) : Prop := sm n (fun p => co r p * co x p) = 0
/-- a row less so much of another one -/
def clr (j : Nat) (h r : List F) : List F := List.zipWith (fun a b => a - co r j * b) r h
theorem clr_len {j n : Nat} {h r : List F} (hh : h.length = n) (hr : r.length = n) : (clr j h r).length = n := by simp [clr, hh, hr]
theorem clr_co {j n p : Nat} {h r : List F} (hh : h.length = n) (hr : r.length = n) (hp : p < n) : co (clr j h r) p = co r p - co r j * co h p := by
  rw [co_lt (by rw [clr_len hh hr]; exact hp), co_lt (f := r) (i := p) (by omega), co_lt (f := h) (by omega)]
  simp [clr]
theorem kil_back {j n : Nat} {h r x : List F} (hh : h.length = n) (hr : r.length = n) (k1 : kil n (clr j h r) x) (k2 : kil n h x) : kil n r x := by
  unfold kil at *
  rw [sm_lin (c := co r j) (g := fun p => co (clr j h r) p * co x p) (h := fun p => co h p * co x p) fun p hp => by rw [clr_co hh hr hp]; grind, k1, k2]
  grind
variable [DecidableEq F]
structure Lon (n : Nat) (rows0 : List (List F)) (j : Nat) (rows left : List (List F)) (heads : List Nat) : Prop where
  rl : ∀ r ∈ rows, r.length = n
  ll : ∀ l ∈ left, l.length = n
  zero : ∀ r ∈ rows, ∀ m, m < j → co r m = 0
  same : left.length = heads.length
  piv : ∀ (i m : Nat) (l : List F) (h : Nat), left[i]? = some l → heads[m]? = some h → co l h = if i = m then (1 : F) else 0
  low : ∀ h ∈ heads, h < j
  kill : ∀ x : List F, (∀ r ∈ rows, kil n r x) → (∀ l ∈ left, kil n l x) → ∀ r ∈ rows0, kil n r x
  few : rows.length + heads.length ≤ rows0.length
omit [DecidableEq F] in
theorem Lon.start {n : Nat} {rows : List (List F)} (h : ∀ r ∈ rows, r.length = n) : Lon n rows 0 rows [] [] :=
  ⟨h, by simp, fun r _ m hm => absurd hm (Nat.not_lt_zero _), rfl, fun i m l h a => by simp at a, by simp, fun x a _ => a, by simp⟩
omit [DecidableEq F] in
theorem Lon.skip {n j : Nat} {rows0 rows left : List (List F)} {heads : List Nat} (h : Lon n rows0 j rows left heads) (z : ∀ r ∈ rows, co r j = 0) : Lon n rows0 (j + 1) rows left heads :=
  ⟨h.rl, h.ll, fun r hr m hm => by
    by_cases e : m = j
    · rw [e]; exact z r hr
    · exact h.zero r hr m (by omega), h.same, h.piv, fun a ha => by have := h.low a ha; omega, h.kill, h.few⟩
theorem Lon.step {n j : Nat} {rows0 rows left : List (List F)} {heads : List Nat} (h : Lon n rows0 j rows left heads) (hj : j < n) {s : List F} (hs : s ∈ rows) (hz : co s j ≠ 0) {c : F} (hc : c * co s j = 1) :
    Lon n rows0 (j + 1) ((rows.filter fun r => decide (r ≠ s)).map (clr j (s.map (· * c)))) (left.map (clr j (s.map (· * c))) ++ [s.map (· * c)]) (heads ++ [j]) := by
  have hl : (s.map (· * c)).length = n := by simp [h.rl s hs]
  have hco : ∀ p, co (s.map (· * c)) p = co s p * c := fun p => by
    by_cases hp : p < s.length
    · rw [co_lt (by simpa using hp), co_lt hp]; simp
    · rw [co_out (by simpa using hp), co_out (by omega)]; grind
  have h1 : co (s.map (· * c)) j = 1 := by rw [hco]; grind
  have h0 : ∀ m, m < j → co (s.map (· * c)) m = 0 := fun m hm => by rw [hco, h.zero s hs m hm]; grind
  generalize hd : s.map (· * c) = d at hl hco h1 h0
  refine ⟨fun r hr => ?_, fun l hl2 => ?_, fun r hr m hm => ?_, by simp [h.same], fun i m l q a b => ?_, fun q hq => ?_, fun x k1 k2 => ?_, ?_⟩
  · obtain ⟨r', hr', rfl⟩ := List.mem_map.mp hr
    exact clr_len hl (h.rl r' (List.mem_filter.mp hr').1)
  · rcases List.mem_append.mp hl2 with hl2 | hl2
    · obtain ⟨l', hl3, rfl⟩ := List.mem_map.mp hl2
      exact clr_len hl (h.ll l' hl3)
    · simp at hl2; rw [hl2]; exact hl
  · obtain ⟨r', hr', rfl⟩ := List.mem_map.mp hr
    have hr2 := (List.mem_filter.mp hr').1
    rw [clr_co hl (h.rl r' hr2) (by omega)]
    by_cases e : m = j
    · rw [e, h1]; grind
    · rw [h.zero r' hr2 m (by omega), h0 m (by omega)]; grind
  · have hlen := h.same
    by_cases hi : i < left.length
    · rw [List.getElem?_append_left (by simpa using hi), List.getElem?_map, List.getElem?_eq_getElem hi] at a
      obtain rfl := Option.some.inj a
      have hln := h.ll _ (List.getElem_mem hi)
      by_cases hm : m < heads.length
      · rw [List.getElem?_append_left hm, List.getElem?_eq_getElem hm] at b
        obtain rfl := Option.some.inj b
        have hlo := h.low _ (List.getElem_mem hm)
        rw [clr_co hl hln (by omega), h0 _ hlo]
        have := h.piv i m _ _ (List.getElem?_eq_getElem hi) (List.getElem?_eq_getElem hm)
        rw [this]; grind
      · rw [List.getElem?_append_right (by omega)] at b
        have e0 : m - heads.length = 0 := by
          cases z : m - heads.length with
          | zero => rfl
          | succ y => rw [z] at b; simp at b
        rw [e0] at b
        simp at b
        rw [← b, clr_co hl hln hj, h1, if_neg (by omega)]; grind
    · rw [List.getElem?_append_right (by simp; omega)] at a
      have e0 : i - (left.map (clr j d)).length = 0 := by
        cases z : i - (left.map (clr j d)).length with
        | zero => rfl
        | succ y => rw [z] at a; simp at a
      rw [e0] at a
      simp at a e0
      rw [← a]
      by_cases hm : m < heads.length
      · rw [List.getElem?_append_left hm, List.getElem?_eq_getElem hm] at b
        obtain rfl := Option.some.inj b
        rw [h0 _ (h.low _ (List.getElem_mem hm)), if_neg (by omega)]
      · rw [List.getElem?_append_right (by omega)] at b
        have e1 : m - heads.length = 0 := by
          cases z : m - heads.length with
          | zero => rfl
          | succ y => rw [z] at b; simp at b
        rw [e1] at b
        simp at b
        rw [← b, h1, if_pos (by omega)]
  · rcases List.mem_append.mp hq with hq | hq
    · have := h.low q hq; omega
    · simp at hq; omega
  · have kd : kil n d x := k2 d (by simp)
    refine h.kill x (fun r hr => ?_) fun l hl2 => ?_
    · by_cases e : r = s
      · rw [e]
        unfold kil at kd ⊢
        rw [sm_lin (c := co s j) (g := fun _ => 0) (h := fun p => co d p * co x p) fun p _ => by rw [hco]; grind, kd, sm_zero fun _ _ => rfl]
        grind
      · exact kil_back hl (h.rl r hr) (k1 _ (List.mem_map_of_mem (List.mem_filter.mpr ⟨hr, decide_eq_true e⟩))) kd
    · exact kil_back hl (h.ll l hl2) (k2 _ (List.mem_append_left _ (List.mem_map_of_mem hl2))) kd
  · have hf := h.few
    have hlt : (rows.filter fun r => decide (r ≠ s)).length < rows.length := by
      refine List.length_filter_lt_length_iff_exists.mpr ⟨s, hs, by simp⟩
    rw [List.length_map, List.length_append]
    simp only [List.length_singleton]
    omega
omit [DecidableEq F] in
/-- what is put together from the heads -/
structure Fnd (n free : Nat) (left : List (List F)) (heads : List Nat) (i : Nat) (x : List F) : Prop where
  len : x.length = n
  one : co x free = 1
  at_ : ∀ (m : Nat) (l : List F) (h : Nat), m < i → left[m]? = some l → heads[m]? = some h → co x h = - co l free
  zero : ∀ p, p ≠ free → p ∉ heads.take i → co x p = 0
omit [DecidableEq F] in
theorem Fnd.step (T : Trn F) {n free i j : Nat} {rows0 rows left : List (List F)} {heads : List Nat} {x l : List F} {h : Nat} (L : Lon n rows0 j rows left heads) (hjn : j ≤ n) (hf : free ∉ heads) (f : Fnd n free left heads i x)
    (hl : left[i]? = some l) (hh : heads[i]? = some h) : Fnd n free left heads (i + 1) (x.set h (0 - co l free)) := by
  have hm := List.mem_of_getElem? hh
  have hlo := L.low h hm
  have hhf : h ≠ free := fun e => hf (by rw [← e]; exact hm)
  have hlen := f.len
  have cs : ∀ p, co (x.set h (0 - co l free)) p = if p = h then 0 - co l free else co x p := fun p => co_set x h p _ (by omega)
  refine ⟨by simp [hlen], by rw [cs, if_neg (fun e => hhf e.symm)]; exact f.one, fun m l2 h2 hmi a b => ?_, fun p hp hq => ?_⟩
  · rw [cs]
    by_cases e : m = i
    · subst e
      rw [hl] at a; rw [hh] at b
      obtain rfl := Option.some.inj a
      obtain rfl := Option.some.inj b
      rw [if_pos rfl]; grind
    · have hne : h2 ≠ h := fun e2 => by
        have h1 := L.piv m m l2 h2 a b
        have h3 := L.piv m i l2 h a hh
        rw [e2, if_pos rfl] at h1
        rw [if_neg e, h1] at h3
        exact T.ne h3.symm
      rw [if_neg hne]
      exact f.at_ m l2 h2 (by omega) a b
  · have ht : heads.take (i + 1) = heads.take i ++ [h] := by rw [List.take_succ, hh]; rfl
    rw [ht] at hq
    simp only [List.mem_append, List.mem_singleton, not_or] at hq
    rw [cs, if_neg hq.2]
    exact f.zero p hp hq.1
omit [DecidableEq F] in
theorem Fnd.fin {n free : Nat} {rows0 rows left : List (List F)} {heads : List Nat} {x : List F} (L : Lon n rows0 n rows left heads) (hf : free ∉ heads) (hfn : free < n) (f : Fnd n free left heads heads.length x) : ∀ r ∈ rows0, kil n r x := by
  refine L.kill x (fun r hr => sm_zero fun p hp => ?_) fun l hl => ?_
  · rw [L.zero r hr p hp]; grind
  · obtain ⟨i, hi, rfl⟩ := List.mem_iff_getElem.mp hl
    have hlen := L.same
    have hih : i < heads.length := by omega
    have h1 := f.at_ i left[i] heads[i] hih (List.getElem?_eq_getElem hi) (List.getElem?_eq_getElem hih)
    have h2 := L.piv i i left[i] heads[i] (List.getElem?_eq_getElem hi) (List.getElem?_eq_getElem hih)
    rw [if_pos rfl] at h2
    have hm := List.getElem_mem hih
    unfold kil
    rw [sm_two (a := free) (b := heads[i]) hfn (L.low _ hm) (fun e => hf (by rw [e]; exact hm)) fun p hp ha hb => ?_, f.one, h1, h2]
    · grind
    · by_cases q : p ∈ heads
      · obtain ⟨m, hm, rfl⟩ := List.mem_iff_getElem.mp q
        have h3 := L.piv i m left[i] heads[m] (List.getElem?_eq_getElem hi) (List.getElem?_eq_getElem hm)
        have hne : i ≠ m := fun e => hb (by subst e; rfl)
        rw [h3, if_neg hne]; grind
      · rw [f.zero p ha (fun z => q (List.mem_of_mem_take z))]; grind
end
theorem nodup_sub : ∀ {l m : List Nat}, l.Nodup → (∀ x ∈ l, x ∈ m) → l.length ≤ m.length
  | [], _, _, _ => Nat.zero_le _
  | a :: l, m, hn, hs => by
    obtain ⟨h1, h2⟩ := List.nodup_cons.mp hn
    have ha := hs a List.mem_cons_self
    have := nodup_sub (l := l) (m := m.erase a) h2 fun x hx => by
      have : x ≠ a := fun e => h1 (by rw [← e]; exact hx)
      exact (List.mem_erase_of_ne this).mpr (hs x (List.mem_cons_of_mem _ hx))
    rw [List.length_erase_of_mem ha] at this
    have hp := List.length_pos_of_mem ha
    simp only [List.length_cons]
    omega
/-- a place that is no head -/
theorem free_ex {n : Nat} {heads : List Nat} (h : heads.length < n) : ∃ p, p < n ∧ p ∉ heads := by
  by_cases e : ∃ p, p < n ∧ p ∉ heads
  · exact e
  · have := nodup_sub (l := List.range n) (m := heads) List.nodup_range fun x hx => by
      have hx := List.mem_range.mp hx
      by_cases q : x ∈ heads
      · exact q
      · exact absurd ⟨x, hx, q⟩ e
    rw [List.length_range] at this
    omega
end Gab
namespace Tp
open PySem PySem.Spec PyProof.Rows L2 Gab
/-! ### lists of numbers compared -/
def dI (xs : List Int) : PyData := .list (xs.map .int)
theorem dI_lay : ∀ xs : List Int, PyData.canLayAll0 (xs.map .int) = true
  | [] => rfl
  | x :: xs => by
    show (PyData.canLay0 (.int x) && PyData.canLayAll0 (xs.map .int)) = true
    rw [dI_lay xs]; rfl
theorem dI_depth : ∀ xs : List Int, PyData.depthAll (xs.map .int) = 0
  | [] => rfl
  | x :: xs => by
    show max (PyData.depth (.int x)) (PyData.depthAll (xs.map .int)) = 0
    rw [dI_depth xs]; rfl
theorem dI_shaped (xs : List Int) : SeqAt.shaped (dI xs) = true := by
  unfold SeqAt.shaped dI
  have h1 : PyData.canLay0 (.list (xs.map .int)) = true := dI_lay xs
  have h2 : PyData.depth (.list (xs.map .int)) = 1 := by
    show PyData.depthAll (xs.map .int) + 1 = 1
    rw [dI_depth xs]
  rw [h1, h2]; rfl
theorem eqv_ints : ∀ xs ys : List Int, PyData.eqvAll (xs.map .int) (ys.map .int) = decide (xs = ys)
  | [], [] => rfl
  | [], _ :: _ => rfl
  | _ :: _, [] => rfl
  | x :: xs, y :: ys => by
    show (PyData.eqv (.int x) (.int y) && PyData.eqvAll (xs.map .int) (ys.map .int)) = _
    rw [eqv_ints xs ys]
    have : PyData.eqv (.int x) (.int y) = decide (x = y) := by
      show (x == y) = decide (x = y)
      by_cases e : x = y
      · simp [e]
      · simp [e]
    rw [this]
    by_cases e : x = y
    · by_cases e2 : xs = ys
      · simp [e, e2]
      · simp [e, e2]
    · simp [e]
theorem eqv_dI (xs ys : List Int) : PyData.eqv (dI xs) (dI ys) = decide (xs = ys) := eqv_ints xs ys
theorem dp_ints {K : PySem.W.Frag} {H : Hp} : ∀ xs : List Int, DpAll K H (xs.map vI) (xs.map .int)
  | [] => .nil
  | x :: xs => .cons (.int x) (dp_ints xs)
theorem dp_dI {K : PySem.W.Frag} {H : Hp} {q : Addr} {xs : List Int} (h : H q = some (.lst (xs.map vI))) : Dp K H (.ref q) (dI xs) := .lst (SqL.of h) (dp_ints xs)
theorem dp_lE {K : PySem.W.Frag} {H : Hp} {q : Addr} {k : Kd} {xs : List (El k)} (h : H q = some (.lst (lE xs))) : Dp K H (.ref q) (dI (elI xs)) := dp_dI (by rw [h, lE_ints])
theorem elI_inj {k : Kd} {xs ys : List (El k)} : elI xs = elI ys ↔ xs = ys := by
  refine ⟨fun h => ?_, fun h => by rw [h]⟩
  have := congrArg (List.map vI) h
  rw [← lE_ints, ← lE_ints] at this
  have hl : xs.length = ys.length := by
    have := congrArg List.length this
    simpa [lE] using this
  refine List.ext_getElem hl fun i h1 h2 => ?_
  have e := congrArg (fun l => l[i]?) this
  simp only [lE_get h1, lE_get h2] at e
  exact vE_inj (Option.some.inj e)
theorem eqv_lE {k : Kd} (xs ys : List (El k)) : PyData.eqv (dI (elI xs)) (dI (elI ys)) = decide (xs = ys) := by
  rw [eqv_dI]
  by_cases e : xs = ys
  · rw [decide_eq_true e, decide_eq_true (elI_inj.mpr e)]
  · rw [decide_eq_false e, decide_eq_false fun z => e (elI_inj.mp z)]
/-- lists of such lists -/
def dII (xss : List (List Int)) : PyData := .list (xss.map dI)
theorem dII_shaped (xss : List (List Int)) : SeqAt.shaped (dII xss) = true := by
  have h1 : ∀ xss : List (List Int), PyData.canLayAll0 (xss.map dI) = true := by
    intro xss
    induction xss with
    | nil => rfl
    | cons x xss ih =>
      show (PyData.canLay0 (dI x) && PyData.canLayAll0 (xss.map dI)) = true
      rw [ih]
      have : PyData.canLay0 (dI x) = true := dI_lay x
      rw [this]; rfl
  have h2 : ∀ xss : List (List Int), PyData.depthAll (xss.map dI) ≤ 1 := by
    intro xss
    induction xss with
    | nil => exact Nat.zero_le _
    | cons x xss ih =>
      show max (PyData.depth (dI x)) (PyData.depthAll (xss.map dI)) ≤ 1
      have : PyData.depth (dI x) = 1 := by
        show PyData.depthAll (x.map .int) + 1 = 1
        rw [dI_depth]
      omega
  unfold SeqAt.shaped dII
  have h3 : PyData.canLay0 (.list (xss.map dI)) = true := h1 xss
  have h4 : PyData.depth (.list (xss.map dI)) ≤ 2 := by
    show PyData.depthAll (xss.map dI) + 1 ≤ 2
    have := h2 xss; omega
  rw [h3, decide_eq_true (by omega)]; rfl
theorem eqv_dII_nil (xss : List (List Int)) : PyData.eqv (dII xss) (.list []) = decide (xss = []) := by
  cases xss with
  | nil => rfl
  | cons x xss => rfl
theorem dp_nil {K : PySem.W.Frag} {H : Hp} {q : Addr} (h : H q = some (.lst [])) : Dp K H (.ref q) (.list []) := .lst (SqL.of h) .nil
theorem nil_shaped : SeqAt.shaped (.list []) = true := by decide
theorem dp_refs {K : PySem.W.Frag} {H : Hp} : ∀ {rs : List Addr} {xss : List (List Int)}, Rows H rs (xss.map fun xs => xs.map vI) → DpAll K H (rs.map V.ref) (xss.map dI)
  | [], [], _ => .nil
  | [], _ :: _, h => by have := h.1; simp at this
  | _ :: _, [], h => by have := h.1; simp at this
  | r :: rs, xs :: xss, h => .cons (dp_dI (h.2 0 r _ rfl rfl)) (dp_refs ⟨by have := h.1; simpa using this, fun i r' c a b => h.2 (i + 1) r' c (by simpa using a) (by simpa using b)⟩)
theorem dp_dII {K : PySem.W.Frag} {H : Hp} {q : Addr} {rs : List Addr} {xss : List (List Int)} (h : H q = some (.lst (rs.map V.ref))) (hr : Rows H rs (xss.map fun xs => xs.map vI)) : Dp K H (.ref q) (dII xss) := .lst (SqL.of h) (dp_refs hr)
/-- rows of elements -/
abbrev RowsL {k : Kd} (H : Hp) (rs : List Addr) (xss : List (List (El k))) : Prop := Rows H rs (xss.map lE)
theorem RowsL.ii {k : Kd} {H : Hp} {rs : List Addr} {xss : List (List (El k))} (h : RowsL H rs xss) : Rows H rs ((xss.map elI).map fun xs => xs.map vI) := by
  have e : (xss.map elI).map (fun xs => xs.map vI) = xss.map lE := by
    rw [List.map_map]
    refine List.map_congr_left fun x _ => ?_
    exact (lE_ints x).symm
  rw [e]; exact h
section
variable {P : Program} {w : World} {K : PySem.W.Frag} {mg : Str → Option Value} {base : Heap}
def sp_cleared (K : PySem.W.Frag) : Sp := fun vs H Q _ => ∃ (f r h : Addr) (k : Kd) (x y : List (El k)) (j : Nat), vs = [.ref f, .ref r, .ref h, .int (j : Int)] ∧ FieldAt K H f k ∧ H r = some (.lst (lE x)) ∧ H h = some (.lst (lE y)) ∧ j < x.length ∧ x.length = y.length ∧ x.length ≤ 100 ∧ RetL H Q (lE (clr j y x))
abbrev N_cleared : List Str := ["field", "row", "head", "place", "often", "near", "far"]
theorem sc_cleared : FnScope N_cleared ["field", "row", "head", "place"] (defScope s_cleared) := ⟨rfl, rfl, rfl, by decide +kernel, rfl, by decide +kernel, by decide +kernel⟩
def t_cleared (K : PySem.W.Frag) : TS :=
  (tSeq (tAsg (tOp (rIxL K) (tVar 1) (tVar 3)) (gName 4))
  (tRet (tLc (iZip K (tCons (tVar 1) (tCons (tVar 2) tNil))) (gTup K 2 (gCons (gName 5) (gCons (gName 6) gNil))) tYes (tCall (sp_minus_of K) [] E0 (tCons (tVar 0) (tCons (tVar 5) (tCons (tCall (sp_times_of K) [] E0 (tCons (tVar 0) (tCons (tVar 4) (tCons (tVar 6) tNil)))) tNil)))) [5, 6])))
theorem ps_cleared {f : Addr} {cdv : Value} {A : Around} {outer : List Env} {s : Shared} {H : Hp} {E : XK} (T : Txt K mg) (hr : Room 3 (A.deeper (envOfC "cleared" (defScope s_cleared) s.heap.objs.size f cdv))) :
    PSs (cxOf CX0 P w K mg base N_cleared "cleared" (defScope s_cleared) f cdv A outer s H E).nox (defBody s_cleared) (t_cleared K) := by
  exact (pss_cons (ps_set (i := 4) sc_cleared.nd rfl (Or.inr rfl) (pe_ix ix_list (pv 1) (pv 3) (fun _ _ => rfl)))
  (pss_one (ps_ret (pe_lc (own := [("near", 5), ("far", 6)]) (g := (gTup K 2 (gCons (gName 5) (gCons (gName 6) gNil)))) (tt := tYes) (te := (tCall (sp_minus_of K) [] E0 (tCons (tVar 0) (tCons (tVar 5) (tCons (tCall (sp_times_of K) [] E0 (tCons (tVar 0) (tCons (tVar 4) (tCons (tVar 6) tNil)))) tNil))))) (by rfl) sc_cleared.nd (pi_zip (by rfl) T.b_zip (pa_cons (pv 1) (pa_cons (pv 2) pa_nil))) (blkOk_by (own := [("near", 5), ("far", 6)]) (N := N_cleared) (sc := defScope s_cleared) (by decide +kernel)) (fun _ _ _ _ _ => (pg_tup (by rfl) (pgs_cons (pg_name (i := 5) sc_cleared.nd rfl (Or.inl rfl)) (pgs_cons (pg_name (i := 6) sc_cleared.nd rfl (Or.inl rfl)) pgs_nil)))) (fun _ _ _ _ _ => pts_nil) (fun _ _ _ _ _ => (C8.pe_c (c_minus_of T) hr (by decide) (by rfl) (pa_cons (pv 0) (pa_cons (pv 5) (pa_cons (C8.pe_c (c_times_of T) hr (by decide) (by rfl) (pa_cons (pv 0) (pa_cons (pv 4) (pa_cons (pv 6) pa_nil)))) pa_nil)))))))))
theorem pure_cleared (T : Txt K mg) {vs : List V} {H : Hp} {Q : VK} {E : XK} (h : sp_cleared K vs H Q E) : t_cleared K { nx := fun _ H' => Q .non H', rt := Q } (L2.start N_cleared vs) H := by
  obtain ⟨f, r, h, k, x, y, j, rfl, hf, hr, hh, hj, hxy, hl, ret⟩ := h
  refine ⟨_, rfl, _, rfl, r, _, _, _, rfl, rfl, SqL.of hr, atI_nat (lE_get hj), ?_⟩
  refine ⟨_, rfl, _, rfl, r, h, _, _, rfl, SqL.of hr, SqL.of hh, fun D hD => ?_⟩
  refine lc_it (walk_zip (xs := lE x) (ys := lE y) (n := x.length) (by rw [lE_len, lE_len, ← hxy, Nat.min_self])) (LcP H D fun i => lE ((clr j y x).take i)) (lcp_start hD rfl) (fun i H' _ h => ⟨h.1.seq (SqL.of hr), h.1.seq (SqL.of hh)⟩) ?_ ?_
  · intro i z H' H'' hi hP yy
    obtain ⟨t, hi', hj', rfl, ht, rfl⟩ := zipE_of yy
    refine pair_tgt upd_same ⟨rfl, lcY ?_⟩
    have s := hP.1.trans (sm_upd ht (o := .tup [vE x[i], vE y[i]]))
    refine ⟨_, rfl, _, rfl, _, rfl, _, rfl, _, rfl, f, k, x[j], y[i], rfl, hf.same s, fun H2 s2 => ?_⟩
    refine ⟨f, k, x[i], _, rfl, (hf.same s).same s2, fun H3 s3 => ?_⟩
    have hcl : (clr j y x).length = x.length := clr_len hxy.symm rfl
    refine lcp_next hD hP (((sm_upd ht).trans s2).trans s3) ?_ (small (by rw [lE_len, List.length_take]; omega))
    rw [lE_take (by rw [hcl]; exact hi')]
    have e : x[i] - x[j] * y[i] = (clr j y x)[i]'(by rw [hcl]; exact hi') := by
      rw [← co_lt (f := clr j y x) (by rw [hcl]; exact hi'), clr_co (n := x.length) hxy.symm rfl hi', co_lt hi', co_lt hj, co_lt hj']
    rw [e]
  · intro H4 hP
    refine ret _ _ hP.1 hD ?_
    have h2 := hP.2
    dsimp only at h2
    rw [List.take_of_length_le (by rw [clr_len (n := x.length) hxy.symm rfl]; exact Nat.le_refl _)] at h2
    exact h2
theorem len_cleared {vs : List V} {H : Hp} {Q : VK} {E : XK} (h : sp_cleared K vs H Q E) : vs.length = 4 := by
  obtain ⟨f, r, h, k, x, y, j, rfl, _⟩ := h; rfl
theorem c_cleared (T : Txt K mg) : C8.Cal P w K mg base 4 "cleared" (sp_cleared K) [] :=
  cal_of (k := 3) (ps := ["field", "row", "head", "place"]) T.d_cleared (fun _ _ _ _ _ _ us hl => match us, hl with | [_, _, _, _], _ => rfl) sc_cleared (fun vs H Q E h => len_cleared h) fun f cdv A outer s H vs Q E hr h => ⟨_, ps_cleared T hr, pure_cleared T h⟩
end
end Tp
namespace Tp
open PySem PySem.Spec PyProof.Rows L2 Gab
/-! ### in a list of counts -/
def natV (ns : List Nat) : List V := ns.map fun n : Nat => vI (n : Int)
theorem inV_nat (a : Nat) : ∀ ns : List Nat, inV (vI (a : Int)) (natV ns) = decide (a ∈ ns)
  | [] => rfl
  | n :: ns => by
    show (eqV (vI (n : Int)) (vI (a : Int)) || inV (vI (a : Int)) (natV ns)) = _
    rw [inV_nat a ns]
    have e : eqV (vI (n : Int)) (vI (a : Int)) = decide (n = a) := by
      show ((n : Int) == (a : Int)) = _
      by_cases h : n = a
      · simp [h]
      · rw [decide_eq_false h]
        exact beq_eq_false_iff_ne.mpr fun z => h (by omega)
    rw [e]
    by_cases h : n = a
    · simp [h]
    · by_cases h2 : a ∈ ns
      · simp [h2]
      · have h3 : ¬ a = n := fun z => h z.symm
        simp [h, h2, h3]
theorem flat_nat (ns : List Nat) : (natV ns).all flatV = true := by
  unfold natV
  rw [List.all_map]
  exact List.all_eq_true.mpr fun _ _ => rfl
/-! ### comprehensions over lists of lists: what is made so far, C i -/
def LcC (H1 : Hp) (D : Addr) (C : Nat → List (List V)) (i : Nat) (H : Hp) : Prop := Same H1 H ∧ ∃ rs : List Addr, H D = some (.lst (rs.map V.ref)) ∧ Rows H rs (C i) ∧ D ∉ rs
section
variable {H1 H H3 : Hp} {D r : Addr} {C : Nat → List (List V)} {i : Nat} {c : List V}
theorem lcc_start (hD : H1 D = none) (h0 : C 0 = []) : LcC H1 D C 0 (upd H1 D (.lst [])) := ⟨sm_upd hD, [], upd_same, by rw [h0]; exact Rows.nil, by simp⟩
theorem lcc_next (hD : H1 D = none) (p : LcC H1 D C i H) (s : Same H H3) (hc : C (i + 1) = C i ++ [c]) (hr : H3 r = some (.lst c)) (hn : D ≠ r) (hl : (C i).length ≤ 1000) :
    ∃ acc, H3 D = some (.lst acc) ∧ acc.length < sizeLine ∧ LcC H1 D C (i + 1) (upd H3 D (.lst (acc ++ [.ref r]))) := by
  obtain ⟨s1, rs, h1, h2, h3⟩ := p
  have hlen := h2.1
  refine ⟨_, s _ _ h1, small (by rw [List.length_map, hlen]; omega), fun b u q => by rw [upd_ne (ne_of_none q hD)]; exact s _ _ (s1 _ _ q), rs ++ [r], ?_, ?_, ?_⟩
  · rw [upd_same, List.map_append]; rfl
  · rw [hc]
    exact ((h2.same s).snoc hr).upd (by simp [h3, hn])
  · simp [h3, hn]
theorem lcc_skip (p : LcC H1 D C i H) (s : Same H H3) (hc : C (i + 1) = C i) : LcC H1 D C (i + 1) H3 := by
  obtain ⟨s1, rs, h1, h2, h3⟩ := p
  exact ⟨s1.trans s, rs, s _ _ h1, by rw [hc]; exact h2.same s, h3⟩
end
theorem ne_of_made {H1 H : Hp} {D r : Addr} {c : List V} {C : Nat → List (List V)} {i : Nat} (p : LcC H1 D C i H) (hn : H r = none) : D ≠ r := fun e => by
  obtain ⟨_, rs, h1, _⟩ := p
  rw [e, hn] at h1; cases h1
section
variable {P : Program} {w : World} {K : PySem.W.Frag} {mg : Str → Option Value} {base : Heap}
def sp_lone_solution (K : PySem.W.Frag) : Sp := fun vs H Q _ => ∃ (f r : Addr) (rs : List Addr) (k : Kd) (rows : List (List (El k))) (wide : Nat), vs = [.ref f, .ref r, .int (wide : Int)] ∧ FieldAt K H f k ∧ H r = some (.lst (rs.map V.ref)) ∧ RowsL H rs rows ∧
  (∀ x ∈ rows, x.length = wide) ∧ rows.length < wide ∧ wide ≤ 100 ∧ ∀ H' p (x : List (El k)), Same H H' → H p = none → H' p = some (.lst (lE x)) → x.length = wide → (∃ i, co x i ≠ 0) → (∀ y ∈ rows, kil wide y x) → Q (.ref p) H'
abbrev N_lone_solution : List Str := ["field", "rows", "wide", "left", "heads", "place", "some", "head", "free", "found", "row", "one"]
theorem sc_lone_solution : FnScope N_lone_solution ["field", "rows", "wide"] (defScope s_lone_solution) := ⟨rfl, rfl, rfl, by decide +kernel, rfl, by decide +kernel, by decide +kernel⟩
def t_lone_solution (K : PySem.W.Frag) : TS :=
  (tSeq (tAsg (tTup (tCons (tLst tNil) (tCons (tLst tNil) tNil))) (gTup K 2 (gCons (gName 3) (gCons (gName 4) gNil))))
  (tSeq (tFor (iRng1 (tCons (tVar 2) tNil)) (gName 5) (tSeq (tAsg (tLc (iList K (tVar 1)) (gName 10) (tTest (tOp rNe (tOp (rIxL K) (tVar 10) (tVar 5)) (tC (.int 0)))) (tVar 10) [10]) (gName 6))
  (tIfS (tTest (tOp (rNeD K) (tVar 6) (tLst tNil))) (tSeq (tAsg (tLc (iList K (tOp (rIxL K) (tVar 6) (tC (.int 0)))) (gName 11) tYes (tCall (sp_over_of K) [] E0 (tCons (tVar 0) (tCons (tVar 11) (tCons (tOp (rIxL K) (tOp (rIxL K) (tVar 6) (tC (.int 0))) (tVar 5)) tNil)))) [11]) (gName 7))
  (tSeq (tAsg (tLc (iList K (tVar 1)) (gName 10) (tTest (tOp (rNeD K) (tVar 10) (tOp (rIxL K) (tVar 6) (tC (.int 0))))) (tCall (sp_cleared K) [] E0 (tCons (tVar 0) (tCons (tVar 10) (tCons (tVar 7) (tCons (tVar 5) tNil))))) [10]) (gName 1))
  (tSeq (tAsg (tOp rCat (tLc (iList K (tVar 3)) (gName 10) tYes (tCall (sp_cleared K) [] E0 (tCons (tVar 0) (tCons (tVar 10) (tCons (tVar 7) (tCons (tVar 5) tNil))))) [10]) (tLst (tCons (tVar 7) tNil))) (gName 3))
  (tDrop (tBM K "list" rAppend (tVar 4) (tCons (tVar 5) tNil)))))) tNext)))
  (tSeq (tAsg (tOp (rIxL K) (tLc (iRng1 (tCons (tVar 2) tNil)) (gName 5) (tTest (tOp (rIn K true) (tVar 5) (tVar 4))) (tVar 5) [5]) (tC (.int 0))) (gName 8))
  (tSeq (tAsg (tLc (iRng1 (tCons (tVar 2) tNil)) (gName 5) tYes (tIf (tTest (tOp rEq (tVar 5) (tVar 8))) (tC (.int 1)) (tC (.int 0))) [5]) (gName 9))
  (tSeq (tFor (iZip K (tCons (tVar 4) (tCons (tVar 3) tNil))) (gTup K 2 (gCons (gName 5) (gCons (gName 10) gNil))) (tAsg (tCall (sp_minus_of K) [] E0 (tCons (tVar 0) (tCons (tC (.int 0)) (tCons (tOp (rIxL K) (tVar 10) (tVar 8)) tNil)))) (gSub (tVar 9) (tVar 5) rSetL)))
  (tRet (tVar 9)))))))
theorem ps_lone_solution {f : Addr} {cdv : Value} {A : Around} {outer : List Env} {s : Shared} {H : Hp} {E : XK} (T : Txt K mg) (hr : Room 4 (A.deeper (envOfC "lone_solution" (defScope s_lone_solution) s.heap.objs.size f cdv))) :
    PSs (cxOf CX0 P w K mg base N_lone_solution "lone_solution" (defScope s_lone_solution) f cdv A outer s H E).nox (defBody s_lone_solution) (t_lone_solution K) := by
  exact (pss_cons (ps_asg (pe_tup (pa_cons (pe_lst pa_nil) (pa_cons (pe_lst pa_nil) pa_nil))) (pg_tup (by rfl) (pgs_cons (pg_name (i := 3) sc_lone_solution.nd rfl (Or.inl rfl)) (pgs_cons (pg_name (i := 4) sc_lone_solution.nd rfl (Or.inr rfl)) pgs_nil))))
  (pss_cons (ps_for PassesOwn.never rfl (pi_range1 (by rfl) T.b_range (pa_cons (pv 2) pa_nil)) (pg_name (i := 5) sc_lone_solution.nd rfl (Or.inr rfl)) (pss_cons (ps_set (i := 6) sc_lone_solution.nd rfl (Or.inr rfl) (pe_lc (own := [("row", 10)]) (g := (gName 10)) (tt := (tTest (tOp rNe (tOp (rIxL K) (tVar 10) (tVar 5)) (tC (.int 0))))) (te := (tVar 10)) (by rfl) sc_lone_solution.nd (pi_list (pv 1)) (blkOk_by (own := [("row", 10)]) (N := N_lone_solution) (sc := defScope s_lone_solution) (by decide +kernel)) (fun _ _ _ _ _ => (pg_name (i := 10) sc_lone_solution.nd rfl (Or.inl rfl))) (fun _ _ _ _ _ => (pts_one (pt_cmpR op_ne (pe_ix ix_list (pv 10) (pv 5) (fun _ _ => rfl)) pe_int (nomark _)))) (fun _ _ _ _ _ => (pv 10))))
  (pss_one (ps_if (pt_cmpR (op_neD hr.units) (pv 6) (pe_lst pa_nil) (nomark _)) (pss_cons (ps_set (i := 7) sc_lone_solution.nd rfl (Or.inr rfl) (pe_lc (own := [("one", 11)]) (g := (gName 11)) (tt := tYes) (te := (tCall (sp_over_of K) [] E0 (tCons (tVar 0) (tCons (tVar 11) (tCons (tOp (rIxL K) (tOp (rIxL K) (tVar 6) (tC (.int 0))) (tVar 5)) tNil))))) (by rfl) sc_lone_solution.nd (pi_list (pe_ix ix_list (pv 6) pe_int (fun _ _ => rfl))) (blkOk_by (own := [("one", 11)]) (N := N_lone_solution) (sc := defScope s_lone_solution) (by decide +kernel)) (fun _ _ _ _ _ => (pg_name (i := 11) sc_lone_solution.nd rfl (Or.inl rfl))) (fun _ _ _ _ _ => pts_nil) (fun _ _ _ _ _ => (C8.pe_c (c_over_of T) hr (by decide) (by rfl) (pa_cons (pv 0) (pa_cons (pv 11) (pa_cons (pe_ix ix_list (pe_ix ix_list (pv 6) pe_int (fun _ _ => rfl)) (pv 5) (fun _ _ => rfl)) pa_nil)))))))
  (pss_cons (ps_setLc (i := 1) (own := [("row", 10)]) (g := (gName 10)) (tt := (tTest (tOp (rNeD K) (tVar 10) (tOp (rIxL K) (tVar 6) (tC (.int 0)))))) (te := (tCall (sp_cleared K) [] E0 (tCons (tVar 0) (tCons (tVar 10) (tCons (tVar 7) (tCons (tVar 5) tNil)))))) (by rfl) sc_lone_solution.nd rfl rfl (sw_true rfl rfl rfl (by decide +kernel)) (pi_list (pv 1)) (blkOk_by (own := [("row", 10)]) (N := N_lone_solution) (sc := defScope s_lone_solution) (by decide +kernel)) (fun _ _ _ _ _ => (pg_name (i := 10) sc_lone_solution.nd rfl (Or.inl rfl))) (fun _ _ _ _ _ => (pts_one (pt_cmpR (op_neD hr.units) (pv 10) (pe_ix ix_list (pv 6) pe_int (fun _ _ => rfl)) (nomark _)))) (fun _ _ _ _ _ => (C8.pe_c (c_cleared T) hr (by decide) (by rfl) (pa_cons (pv 0) (pa_cons (pv 10) (pa_cons (pv 7) (pa_cons (pv 5) pa_nil)))))))
  (pss_cons (ps_set (i := 3) sc_lone_solution.nd rfl (Or.inl rfl) (pe_op op_cat (pe_lc (own := [("row", 10)]) (g := (gName 10)) (tt := tYes) (te := (tCall (sp_cleared K) [] E0 (tCons (tVar 0) (tCons (tVar 10) (tCons (tVar 7) (tCons (tVar 5) tNil)))))) (by rfl) sc_lone_solution.nd (pi_list (pv 3)) (blkOk_by (own := [("row", 10)]) (N := N_lone_solution) (sc := defScope s_lone_solution) (by decide +kernel)) (fun _ _ _ _ _ => (pg_name (i := 10) sc_lone_solution.nd rfl (Or.inl rfl))) (fun _ _ _ _ _ => pts_nil) (fun _ _ _ _ _ => (C8.pe_c (c_cleared T) hr (by decide) (by rfl) (pa_cons (pv 0) (pa_cons (pv 10) (pa_cons (pv 7) (pa_cons (pv 5) pa_nil))))))) (pe_lst (pa_cons (pv 7) pa_nil))))
  (pss_one (ps_expr (pe_bm PySem.F.plainAttrs_list PySem.F.slot_list_append PySem.F.type_list_append mt_append (pv 4) (pa_cons (pv 5) pa_nil))))))) pss_nil))))
  (pss_cons (ps_set (i := 8) sc_lone_solution.nd rfl (Or.inr rfl) (pe_ix ix_list (pe_lc (own := [("place", 5)]) (g := (gName 5)) (tt := (tTest (tOp (rIn K true) (tVar 5) (tVar 4)))) (te := (tVar 5)) (by rfl) sc_lone_solution.nd (pi_range1 (by rfl) T.b_range (pa_cons (pv 2) pa_nil)) (blkOk_by (own := [("place", 5)]) (N := N_lone_solution) (sc := defScope s_lone_solution) (by decide +kernel)) (fun _ _ _ _ _ => (pg_name (i := 5) sc_lone_solution.nd rfl (Or.inl rfl))) (fun _ _ _ _ _ => (pts_one (pt_cmpR op_notIn_seq (pv 5) (pv 4) (by rfl)))) (fun _ _ _ _ _ => (pv 5))) pe_int (fun _ _ => rfl)))
  (pss_cons (ps_setLc (i := 9) (own := [("place", 5)]) (g := (gName 5)) (tt := tYes) (te := (tIf (tTest (tOp rEq (tVar 5) (tVar 8))) (tC (.int 1)) (tC (.int 0)))) (by rfl) sc_lone_solution.nd rfl rfl (sw_true rfl rfl rfl (by decide +kernel)) (pi_range1 (by rfl) T.b_range (pa_cons (pv 2) pa_nil)) (blkOk_by (own := [("place", 5)]) (N := N_lone_solution) (sc := defScope s_lone_solution) (by decide +kernel)) (fun _ _ _ _ _ => (pg_name (i := 5) sc_lone_solution.nd rfl (Or.inl rfl))) (fun _ _ _ _ _ => pts_nil) (fun _ _ _ _ _ => (pe_ifExp (pt_cmpR op_eq (pv 5) (pv 8) (nomark _)) pe_int pe_int)))
  (pss_cons (ps_for PassesOwn.never rfl (pi_zip (by rfl) T.b_zip (pa_cons (pv 4) (pa_cons (pv 3) pa_nil))) (pg_tup (by rfl) (pgs_cons (pg_name (i := 5) sc_lone_solution.nd rfl (Or.inr rfl)) (pgs_cons (pg_name (i := 10) sc_lone_solution.nd rfl (Or.inl rfl)) pgs_nil))) (pss_one (ps_asg (C8.pe_c (c_minus_of T) hr (by decide) (by rfl) (pa_cons (pv 0) (pa_cons pe_int (pa_cons (pe_ix ix_list (pv 10) (pv 8) (fun _ _ => rfl)) pa_nil)))) (pg_sub (pv 9) (pv 5) set_list))))
  (pss_one (ps_ret (pv 9))))))))
/-- what stands behind the turns -/
structure LsI (H : Hp) {k : Kd} (f : Addr) (wide : Nat) (rows0 : List (List (El k))) (j : Nat) (σ : L2.St) (H' : Hp) : Prop where
  ex : ∃ (R L D : Addr) (lr ll : List Addr) (rows left : List (List (El k))) (heads : List Nat) (v5 v6 v7 : Option V), σ = [some (.ref f), some (.ref R), some (.int (wide : Int)), some (.ref L), some (.ref D), v5, v6, v7, none, none, none, none] ∧ Same H H' ∧ H D = none ∧
    H' R = some (.lst (lr.map V.ref)) ∧ RowsL H' lr rows ∧ H' L = some (.lst (ll.map V.ref)) ∧ RowsL H' ll left ∧ H' D = some (.lst (natV heads)) ∧ D ≠ R ∧ D ≠ L ∧ D ∉ lr ∧ D ∉ ll ∧ Lon wide rows0 j rows left heads
theorem filter_succ {α : Type} (g : α → Bool) {xs : List α} {i : Nat} {x : α} (h : xs[i]? = some x) : (xs.take (i + 1)).filter g = if g x then (xs.take i).filter g ++ [x] else (xs.take i).filter g := by
  rw [take_succ' h, List.filter_append]
  cases e : g x <;> simp [e]
theorem vE_ne {k : Kd} (a : El k) : (!decide (vE a = V.int 0)) = decide (a ≠ 0) := by
  rw [vE_zero]
  by_cases h : a = 0 <;> simp [h]
theorem pure_lone_solution (T : Txt K mg) {vs : List V} {H : Hp} {Q : VK} {E : XK} (h : sp_lone_solution K vs H Q E) : t_lone_solution K { nx := fun _ H' => Q .non H', rt := Q } (L2.start N_lone_solution vs) H := by
  obtain ⟨f, r, rs, k, rows, wide, rfl, hf, hr, hrs, hwd, hfew, hw, ret⟩ := h
  refine ⟨Nat.zero_le _, fun L hL => ⟨Nat.zero_le _, fun D hD => ?_⟩⟩
  have s1 := sm_upd' (sm_upd hL (o := .lst [])) hD (o := .lst [])
  have hDn : H D = none := by
    by_cases e : D = L
    · rw [e]; exact hL
    · rw [upd_ne e] at hD; exact hD
  have hDL : D ≠ L := fun e => by rw [e, upd_same] at hD; cases hD
  refine ⟨by show 2 ≤ sizeLine; decide, fun t ht => ?_⟩
  refine pair_tgt upd_same ?_
  have s2 := sm_upd' s1 ht (o := .tup [.ref L, .ref D])
  have hDt : D ≠ t := fun e => by rw [← e, upd_same] at ht; cases ht
  have hLt : L ≠ t := fun e => by rw [← e, upd_ne hDL.symm, upd_same] at ht; cases ht
  refine ⟨_, rfl, _, rfl, by omega, by omega, ?_⟩
  have ew : ((wide : Nat) : Int).toNat = wide := by omega
  rw [ew]
  refine for_range (lo := 0) (n := wide) (LsI H f wide rows) ?_ ?_ ?_
  · refine ⟨r, L, D, rs, [], rows, [], [], none, none, none, rfl, s2, hDn, s2 _ _ hr, hrs.same s2, ?_, Rows.nil, ?_, (ne_of_none hr hDn).symm, hDL, hrs.new hDn, by simp, Lon.start hwd⟩
    · rw [upd_ne hLt, upd_ne hDL.symm, upd_same]; rfl
    · rw [upd_ne hDt, upd_same]; rfl
  · rintro j σ H' hj ⟨R, L, D, lr, ll, rws, left, heads, v5, v6, v7, rfl, s, hDn, hR, hlr, hL, hll, hD, hDR, hDL, hDlr, hDll, ln⟩
    have e0j : (0 : Int) + (j : Int) = (j : Int) := Int.zero_add _
    rw [e0j]
    have hlrlen : lr.length = rws.length := by rw [hlr.1, List.length_map]
    have hllen : ll.length = left.length := by rw [hll.1, List.length_map]
    have hfw := ln.few
    have hsm := ln.same
    refine ⟨_, rfl, R, rfl, ⟨_, SqL.of hR⟩, fun S hS => ?_⟩
    refine lc_it (walk_list (xs := lr.map V.ref)) (LcC H' S fun i => ((rws.take i).filter fun x => decide (co x j ≠ 0)).map lE) (lcc_start hS rfl) (fun i H2 _ p => p.1.seq (SqL.of hR)) ?_ ?_
    · rintro i x H2 H3 hi p ⟨rfl, hxi⟩
      rw [List.length_map, hlrlen] at hi
      obtain ⟨q, hq, hqc⟩ := hlr.at (i := i) (by simpa using hi)
      rw [List.getElem?_map, hq] at hxi
      obtain rfl := Option.some.inj hxi
      refine ⟨rfl, ?_⟩
      have hrow : H3 q = some (.lst (lE rws[i])) := by
        have := p.1 _ _ hqc
        rw [this]; simp
      have hlen : rws[i].length = wide := ln.rl _ (List.getElem_mem hi)
      refine ⟨_, rfl, _, rfl, q, _, _, _, rfl, rfl, SqL.of hrow, atI_nat (lE_get (by omega)), rfl, _, rfl, ?_⟩
      have hcj : co rws[i] j = rws[i][j] := co_lt (by omega)
      refine ite2 (fun hc => ?_) (fun hc => ?_)
      · have hc' := (vE_ne _).symm.trans hc
        refine ⟨_, rfl, lcc_next hS p (Same.refl _) (c := lE rws[i]) ?_ hrow ?_ ?_⟩
        · rw [filter_succ _ (List.getElem?_eq_getElem hi), if_pos (by rw [hcj]; exact hc'), List.map_append]; rfl
        · exact ne_of_none hqc hS |>.symm
        · have := List.length_filter_le (fun x => decide (co x j ≠ 0)) (rws.take i)
          simp at this ⊢; omega
      · have hc' : ¬ decide (rws[i][j] ≠ 0) = true := fun q => hc ((vE_ne _).trans q)
        refine lcc_skip p (Same.refl _) ?_
        rw [filter_succ _ (List.getElem?_eq_getElem hi), if_neg (by rw [hcj]; exact hc')]
    rintro H2 ⟨sH2, ss, hS2, hss, hSss⟩
    rw [List.length_map, hlrlen] at hss
    dsimp only at hss
    rw [List.take_of_length_le (Nat.le_refl _)] at hss
    refine ⟨_, rfl, Nat.zero_le _, fun e he => ?_⟩
    have s3 := sm_upd he (o := .lst [])
    refine ⟨_, _, dp_dII (s3 _ _ hS2) (RowsL.ii (hss.same s3)), dp_nil upd_same, dII_shaped _, nil_shaped, _, rfl, ?_⟩
    rw [eqv_dII_nil]
    have sH3 := sH2.trans s3
    have hR3 := sH3 _ _ hR
    have hlr3 := hlr.same sH3
    have hL3 := sH3 _ _ hL
    have hll3 := hll.same sH3
    have hD3 := sH3 _ _ hD
    generalize hH3 : upd H2 e (.lst []) = H3 at s3 sH3 hR3 hlr3 hL3 hll3 hD3
    cases hsome : rws.filter fun x => decide (co x j ≠ 0) with
    | nil =>
      refine iteF ?_
      refine ⟨R, L, D, lr, ll, rws, left, heads, _, _, _, rfl, s.trans sH3, hDn, hR3, hlr3, hL3, hll3, hD3, hDR, hDL, hDlr, hDll, ln.skip fun x hx => ?_⟩
      by_cases z : co x j = 0
      · exact z
      · have : x ∈ rws.filter fun x => decide (co x j ≠ 0) := List.mem_filter.mpr ⟨hx, decide_eq_true z⟩
        rw [hsome] at this; cases this
    | cons s0 more =>
      rw [decide_eq_false (by simp)]
      refine iteT ?_
      have hs0 : s0 ∈ rws.filter fun x => decide (co x j ≠ 0) := by rw [hsome]; exact List.mem_cons_self
      obtain ⟨hs0r, hz⟩ := List.mem_filter.mp hs0
      have hz := of_decide_eq_true hz
      have hs0l := ln.rl s0 hs0r
      rw [hsome] at hss
      obtain ⟨q0, hq0, hq0c⟩ := (hss.same s3).at (i := 0) (by simp)
      have hq0c : H3 q0 = some (.lst (lE s0)) := hq0c
      have hS3 := s3 _ _ hS2
      have hSat : (ss.map V.ref)[0]? = some (V.ref q0) := by rw [List.getElem?_map, hq0]; rfl
      refine ⟨_, rfl, S, _, _, _, rfl, rfl, SqL.of hS3, atI_nat (j := 0) hSat, q0, rfl, ⟨_, SqL.of hq0c⟩, fun U hU => ?_⟩
      refine lc_it (walk_list (xs := lE s0)) (LcP H3 U fun i => lE ((s0.map (· * (El.T k).inv (co s0 j))).take i)) (lcp_start hU rfl) (fun i H4 _ p => p.1.seq (SqL.of hq0c)) ?_ ?_
      · rintro i x H4 H5 hi p ⟨rfl, hxi⟩
        obtain ⟨hi', rfl⟩ := lE_at hxi
        refine ⟨rfl, lcY ?_⟩
        refine ⟨_, rfl, _, rfl, _, rfl, S, _, _, _, rfl, rfl, SqL.of (p.1 _ _ hS3), atI_nat (j := 0) hSat, ?_⟩
        refine ⟨_, rfl, q0, _, _, _, rfl, rfl, SqL.of (p.1 _ _ hq0c), atI_nat (lE_get (i := j) (by omega)), ?_⟩
        rw [← co_lt (f := s0) (i := j) (by omega)]
        refine ⟨f, k, s0[i], co s0 j, rfl, (hf.same (s.trans sH3)).same p.1, hz, fun H6 s6 => ?_⟩
        refine lcp_next hU p s6 ?_ (small (by rw [lE_len, List.length_take]; simp; omega))
        rw [lE_take (by simpa using hi')]
        simp
      intro H4 p4
      have hU4 : H4 U = some (.lst (lE (s0.map (· * (El.T k).inv (co s0 j))))) := by
        have := p4.2
        dsimp only at this
        rw [List.take_of_length_le (by simp [lE])] at this
        exact this
      have hcinv : (El.T k).inv (co s0 j) * co s0 j = 1 := by
        have := (El.T k).inv_mul _ hz
        grind
      have ln' := ln.step hj hs0r hz hcinv
      have hdl : (s0.map (· * (El.T k).inv (co s0 j))).length = wide := by simp [hs0l]
      generalize hdd : s0.map (· * (El.T k).inv (co s0 j)) = d at hU4 ln' hdl
      have sH4 := sH3.trans p4.1
      have hR4 := p4.1 _ _ hR3
      have hlr4 := hlr3.same p4.1
      have hL4 := p4.1 _ _ hL3
      have hll4 := hll3.same p4.1
      have hD4 := p4.1 _ _ hD3
      have hS4 := p4.1 _ _ hS3
      have hq04 := p4.1 _ _ hq0c
      have hf4 := (hf.same s).same sH4
      refine ⟨_, rfl, R, rfl, ⟨_, SqL.of hR4⟩, fun X hX => ?_⟩
      refine lc_it (walk_list (xs := lr.map V.ref)) (LcC H4 X fun i => (((rws.take i).filter fun x => decide (x ≠ s0)).map (clr j d)).map lE) (lcc_start hX rfl) (fun i H5 _ p => p.1.seq (SqL.of hR4)) ?_ ?_
      · rintro i x H5 H6 hi p ⟨rfl, hxi⟩
        rw [List.length_map, hlrlen] at hi
        obtain ⟨q, hq, hqc⟩ := hlr4.at (i := i) (by simpa using hi)
        rw [List.getElem?_map, hq] at hxi
        obtain rfl := Option.some.inj hxi
        refine ⟨rfl, ?_⟩
        have hrow : H6 q = some (.lst (lE rws[i])) := by
          have := p.1 _ _ hqc
          rw [this]; simp
        have hlen : rws[i].length = wide := ln.rl _ (List.getElem_mem hi)
        refine ⟨_, rfl, _, rfl, S, _, _, _, rfl, rfl, SqL.of (p.1 _ _ hS4), atI_nat (j := 0) hSat, ?_⟩
        refine ⟨_, _, dp_lE hrow, dp_lE (p.1 _ _ hq04), dI_shaped _, dI_shaped _, _, rfl, ?_⟩
        rw [eqv_lE]
        refine ite2 (fun hc => ?_) (fun hc => ?_)
        · have hne : rws[i] ≠ s0 := fun e => by rw [decide_eq_true e] at hc; cases hc
          refine ⟨_, rfl, _, rfl, _, rfl, _, rfl, f, q, U, k, rws[i], d, j, rfl, hf4.same p.1, hrow, p.1 _ _ hU4, by omega, by omega, by omega, fun H7 y s7 n7 e7 => ?_⟩
          refine lcc_next hX p s7 (c := lE (clr j d rws[i])) ?_ e7 (ne_of_made (c := []) p n7) ?_
          · rw [filter_succ _ (List.getElem?_eq_getElem hi), if_pos (decide_eq_true hne), List.map_append, List.map_append]; rfl
          · have := List.length_filter_le (fun x => decide (x ≠ s0)) (rws.take i)
            simp at this ⊢; omega
        · have heq : rws[i] = s0 := by
            by_cases e : rws[i] = s0
            · exact e
            · rw [decide_eq_false e] at hc; exact absurd rfl hc
          refine lcc_skip p (Same.refl _) ?_
          rw [filter_succ _ (List.getElem?_eq_getElem hi), if_neg (by simp [heq])]
      rintro H5 ⟨sH5, xs5, hX5, hxs5, hXxs⟩
      rw [List.length_map, hlrlen] at hxs5
      dsimp only at hxs5
      rw [List.take_of_length_le (Nat.le_refl _)] at hxs5
      have hL5 := sH5 _ _ hL4
      have hll5 := hll4.same sH5
      have hU5 := sH5 _ _ hU4
      have hD5 := sH5 _ _ hD4
      have hf5 := hf4.same sH5
      refine ⟨_, rfl, L, rfl, ⟨_, SqL.of hL5⟩, fun Y hY => ?_⟩
      refine lc_it (walk_list (xs := ll.map V.ref)) (LcC H5 Y fun i => ((left.take i).map (clr j d)).map lE) (lcc_start hY rfl) (fun i H6 _ p => p.1.seq (SqL.of hL5)) ?_ ?_
      · rintro i x H6 H7 hi p ⟨rfl, hxi⟩
        rw [List.length_map, hllen] at hi
        obtain ⟨q, hq, hqc⟩ := hll5.at (i := i) (by simpa using hi)
        rw [List.getElem?_map, hq] at hxi
        obtain rfl := Option.some.inj hxi
        refine ⟨rfl, lcY ?_⟩
        have hrow : H7 q = some (.lst (lE left[i])) := by
          have := p.1 _ _ hqc
          rw [this]; simp
        have hlen : left[i].length = wide := ln.ll _ (List.getElem_mem hi)
        refine ⟨_, rfl, _, rfl, _, rfl, _, rfl, f, q, U, k, left[i], d, j, rfl, hf5.same p.1, hrow, p.1 _ _ hU5, by omega, by omega, by omega, fun H8 y s8 n8 e8 => ?_⟩
        refine lcc_next hY p s8 (c := lE (clr j d left[i])) ?_ e8 (ne_of_made (c := []) p n8) ?_
        · rw [take_succ' (List.getElem?_eq_getElem hi), List.map_append, List.map_append]; rfl
        · simp; omega
      rintro H6 ⟨sH6, ys6, hY6, hys6, hYys⟩
      rw [List.length_map, hllen] at hys6
      dsimp only at hys6
      rw [List.take_of_length_le (Nat.le_refl _)] at hys6
      have hU6 := sH6 _ _ hU5
      refine ⟨_, rfl, Nat.le_trans (Nat.le_refl 1) (by decide), fun Z hZ => ?_⟩
      have hYZ : Y ≠ Z := fun e => by rw [e, hZ] at hY6; cases hY6
      have hys6len : ys6.length = left.length := by rw [hys6.1]; simp
      refine ⟨Y, Z, _, _, rfl, rfl, by rw [upd_ne hYZ]; exact hY6, upd_same, small' (by simp [hys6len]; omega), fun N hN => ?_⟩
      have nN : H6 N = none := by
        by_cases e : N = Z
        · rw [e]; exact hZ
        · rw [upd_ne e] at hN; exact hN
      have s67 : Same H6 (upd H6 Z (.lst [V.ref U])) := sm_upd hZ
      have s68 := s67.trans (sm_upd (o := .lst (ys6.map V.ref ++ [V.ref U])) hN)
      have sH8 := ((s.trans sH4).trans (sH5.trans sH6)).trans s68
      have hD6 := sH6 _ _ hD5
      have hD8 := s68 _ _ hD6
      have hX8 := s68 _ _ (sH6 _ _ hX5)
      have hhl : (natV heads).length = heads.length := by simp [natV]
      refine ⟨_, rfl, .inl ⟨rfl, _, SqL.of hD8⟩, _, rfl, D, _, _, rfl, rfl, hD8, small (by rw [hhl]; omega), ?_⟩
      have hDN : D ≠ N := fun e => by rw [e, nN] at hD6; cases hD6
      have hDX : D ≠ X := fun e => by rw [← e, hD4] at hX; cases hX
      have hDU : D ≠ U := fun e => by rw [← e, hD3] at hU; cases hU
      have hDxs : D ∉ xs5 := fun hm => by
        obtain ⟨i, hi, e⟩ := List.mem_iff_getElem.mp hm
        have hl := hxs5.1
        have h1 := hxs5.2 i _ _ (List.getElem?_eq_getElem hi) (List.getElem?_eq_getElem (by rw [← hl]; exact hi))
        rw [e, hD5] at h1
        have h2 := Option.some.inj h1
        have h3 := HO.lst.inj h2
        rw [List.getElem_map] at h3
        have hrl := ln'.rl _ (List.getElem_mem (l := (rws.filter fun x => decide (x ≠ s0)).map (clr j d)) (n := i) (by rw [hl] at hi; simpa using hi))
        have h4 := congrArg List.length h3
        rw [hhl, lE_len, hrl] at h4
        omega
      have hDys : D ∉ ys6 := fun hm => by
        obtain ⟨i, hi, e⟩ := List.mem_iff_getElem.mp hm
        have hl := hys6.1
        have h1 := hys6.2 i _ _ (List.getElem?_eq_getElem hi) (List.getElem?_eq_getElem (by rw [← hl]; exact hi))
        rw [e, hD6] at h1
        have h2 := Option.some.inj h1
        have h3 := HO.lst.inj h2
        rw [List.getElem_map] at h3
        have hrl := ln'.ll _ (List.mem_append_left _ (List.getElem_mem (l := left.map (clr j d)) (n := i) (by rw [hl] at hi; simpa using hi)))
        have h4 := congrArg List.length h3
        rw [hhl, lE_len, hrl] at h4
        omega
      refine ⟨X, N, D, xs5, ys6 ++ [U], _, _, heads ++ [j], _, _, _, rfl, sm_set sH8 hDn, hDn, ?_, ?_, ?_, ?_, ?_, hDX, hDN, hDxs, ?_, ln'⟩
      · rw [upd_ne hDX.symm]; exact hX8
      · exact ((hxs5.same sH6).same s68).upd hDxs
      · rw [upd_ne hDN.symm, upd_same, List.map_append]; rfl
      · have e : (left.map (clr j d) ++ [d]).map lE = (left.map (clr j d)).map lE ++ [lE d] := by simp
        show Rows _ _ _
        rw [e]
        exact ((hys6.same s68).snoc (s68 _ _ hU6)).upd (by simp [hDys, hDU])
      · rw [upd_same]; simp [natV]
      · simp [hDys, hDU]
  · rintro σ H' ⟨R, L, D, lr, ll, rws, left, heads, v5, v6, v7, rfl, s, hDn, hR, hlr, hL, hll, hD, hDR, hDL, hDlr, hDll, ln⟩
    have hfw := ln.few
    have hsm := ln.same
    have hllen : ll.length = left.length := by rw [hll.1, List.length_map]
    refine ⟨_, rfl, _, rfl, by omega, by omega, fun S hS => ?_⟩
    rw [ew]
    refine lc_range (lo := 0) (n := wide) (LcP H' S fun i => natV ((List.range i).filter fun p => decide (p ∉ heads))) (lcp_start hS rfl) ?_ ?_
    · intro i H2 hi p
      refine ⟨rfl, ?_⟩
      have e0 : (0 : Int) + (i : Int) = (i : Int) := Int.zero_add _
      rw [e0]
      refine ⟨_, rfl, _, rfl, D, _, rfl, .inl (SqL.of (p.1 _ _ hD)), rfl, flat_nat _, _, rfl, ?_⟩
      have ein : (if true = true then !inV (V.int (i : Int)) (natV heads) else inV (V.int (i : Int)) (natV heads)) = decide (i ∉ heads) := by
        rw [if_pos rfl]
        have := inV_nat i heads
        rw [show inV (V.int (i : Int)) (natV heads) = decide (i ∈ heads) from this]
        by_cases q : i ∈ heads <;> simp [q]
      rw [ein]
      refine ite2 (fun hc => ?_) (fun hc => ?_)
      · refine ⟨_, rfl, lcp_next hS p (Same.refl _) ?_ (small ?_)⟩
        · rw [range_filter_succ, if_pos hc]; simp [natV]
        · have := List.length_filter_le (fun p => decide (p ∉ heads)) (List.range i)
          simp [natV] at this ⊢; omega
      · exact lcp_skip p (Same.refl _) (by rw [range_filter_succ, if_neg hc])
    intro H2 p2
    have hS2 := p2.2
    dsimp only at hS2
    obtain ⟨fr, hfrw, hfrn⟩ := free_ex (n := wide) (heads := heads) (by omega)
    have hfm : fr ∈ (List.range wide).filter fun p => decide (p ∉ heads) := List.mem_filter.mpr ⟨List.mem_range.mpr hfrw, decide_eq_true hfrn⟩
    cases hl : (List.range wide).filter fun p => decide (p ∉ heads) with
    | nil => rw [hl] at hfm; cases hfm
    | cons free more =>
      have hfree : free ∈ (List.range wide).filter fun p => decide (p ∉ heads) := by rw [hl]; exact List.mem_cons_self
      obtain ⟨hf1, hf2⟩ := List.mem_filter.mp hfree
      have hf1 := List.mem_range.mp hf1
      have hf2 := of_decide_eq_true hf2
      rw [hl] at hS2
      refine ⟨S, _, _, _, rfl, rfl, SqL.of hS2, atI_nat (j := 0) rfl, ?_⟩
      have sH2 := s.trans p2.1
      refine ⟨_, rfl, _, rfl, by omega, by omega, fun X hX => ?_⟩
      rw [ew]
      refine lc_range (lo := 0) (n := wide) (LcP H2 X fun i => lE ((List.range i).map fun p => if p = free then (1 : El k) else 0)) (lcp_start hX rfl) ?_ ?_
      · intro i H3 hi p
        refine ⟨rfl, lcY ?_⟩
        have e0 : (0 : Int) + (i : Int) = (i : Int) := Int.zero_add _
        rw [e0]
        refine ⟨_, rfl, _, rfl, rfl, _, rfl, ?_⟩
        have hnx : ∀ v : El k, (if i = free then (1 : El k) else 0) = v → ∃ acc, H3 X = some (.lst acc) ∧ acc.length < sizeLine ∧ LcP H2 X (fun i => lE ((List.range i).map fun p => if p = free then (1 : El k) else 0)) (i + 1) (upd H3 X (.lst (acc ++ [vE v]))) := fun v hv => by
          refine lcp_next hX p (Same.refl _) ?_ (small (by simp [lE]; omega))
          rw [List.range_succ, List.map_append]
          simp [lE, hv]
        have ed : decide (V.int (i : Int) = vI (free : Int)) = decide (i = free) := by
          by_cases q : i = free
          · simp [q]
          · rw [decide_eq_false q, decide_eq_false]
            intro e
            exact q (by have := V.int.inj e; omega)
        refine ite2 (fun hc => ?_) (fun hc => ?_)
        · exact hnx 1 (if_pos (of_decide_eq_true (ed.symm.trans hc)))
        · exact hnx 0 (if_neg fun q => hc (ed.trans (decide_eq_true q)))
      intro H3 p3
      have hX3 := p3.2
      dsimp only at hX3
      have sH3 := sH2.trans p3.1
      have hXn : H X = none := by
        cases q : H X with
        | none => rfl
        | some o => rw [sH2 _ _ q] at hX; cases hX
      have hD3 := p3.1 _ _ (p2.1 _ _ hD)
      have hL3 := p3.1 _ _ (p2.1 _ _ hL)
      have hll3 := (hll.same p2.1).same p3.1
      have hDX : D ≠ X := fun e => by rw [← e, p2.1 _ _ hD] at hX; cases hX
      have hLX : L ≠ X := fun e => by rw [← e, p2.1 _ _ hL] at hX; cases hX
      have hXll : X ∉ ll := (hll.same p2.1).new hX
      have hhl : (natV heads).length = heads.length := by simp [natV]
      refine ⟨_, rfl, _, rfl, D, L, _, _, rfl, SqL.of hD3, SqL.of hL3, ?_⟩
      refine for_it (walk_zip (xs := natV heads) (ys := ll.map V.ref) (n := heads.length) (by rw [hhl, List.length_map, hllen, hsm, Nat.min_self]))
        (fun i σ H4 => ∃ v5 v10 x, σ = [some (.ref f), some (.ref R), some (.int (wide : Int)), some (.ref L), some (.ref D), v5, v6, v7, some (vI (free : Int)), some (.ref X), v10, none] ∧ Same H H4 ∧ H4 X = some (.lst (lE x)) ∧ H4 D = some (.lst (natV heads)) ∧ H4 L = some (.lst (ll.map V.ref)) ∧ RowsL H4 ll left ∧ Fnd wide free left heads i x)
        ⟨v5, none, _, rfl, sH3, hX3, hD3, hL3, hll3, ?_⟩ (fun i σ H4 _ ⟨_, _, _, _, _, _, a, b, _⟩ => ⟨SqL.of a, SqL.of b⟩) ?_ ?_
      · refine ⟨by simp, ?_, fun m l h hm => absurd hm (Nat.not_lt_zero _), fun q hq _ => ?_⟩
        · rw [co_lt (by simpa using hf1)]; simp
        · by_cases hql : q < wide
          · rw [co_lt (by simpa using hql)]; simp [hq]
          · exact co_out (by simp; omega)
      · rintro i v σ H4 H5 hi ⟨w5, w10, x, rfl, s4, hX4, hD4, hL4, hll4, fd⟩ ⟨tt, a, b, rfl, ht, rfl, ea, eb⟩
        have hil : i < left.length := by omega
        have ea : (natV heads)[i]? = some a := ea
        have eb : (ll.map V.ref)[i]? = some b := eb
        have ea2 : a = vI ((heads[i] : Nat) : Int) := by
          unfold natV at ea
          rw [List.getElem?_map, List.getElem?_eq_getElem hi] at ea
          exact (Option.some.inj ea).symm
        obtain ⟨q, hq, hqc⟩ := hll4.at (i := i) (by simpa using hil)
        rw [List.getElem?_map, hq] at eb
        obtain rfl := Option.some.inj eb
        subst ea2
        refine pair_tgt upd_same ?_
        have hqc : H4 q = some (.lst (lE left[i])) := by rw [hqc]; simp
        have s5 := sm_upd ht (o := .tup [vI ((heads[i] : Nat) : Int), V.ref q])
        have hlen : left[i].length = wide := ln.ll _ (List.getElem_mem hil)
        refine ⟨_, rfl, _, rfl, _, rfl, q, _, _, _, rfl, rfl, SqL.of (s5 _ _ hqc), atI_nat (lE_get (i := free) (by omega)), ?_⟩
        refine ⟨f, k, 0, _, rfl, (hf.same s4).same s5, fun H6 s6 => ?_⟩
        have s56 := s5.trans s6
        have hlo := ln.low _ (List.getElem_mem hi)
        have hxl := fd.len
        refine ⟨_, rfl, _, rfl, X, _, _, heads[i], rfl, rfl, s56 _ _ hX4, ?_, ?_⟩
        · unfold ixN
          rw [if_pos (by omega), if_pos (by rw [lE_len]; omega)]
          simp
        rw [lE_set]
        refine ⟨_, _, x.set heads[i] (0 - co left[i] free), rfl, sm_set (s4.trans s56) hXn, ?_, ?_, ?_, (hll4.same s56).upd hXll, ?_⟩
        · rw [upd_same, co_lt (f := left[i]) (by omega)]
        · rw [upd_ne hDX]; exact s56 _ _ hD4
        · rw [upd_ne hLX]; exact s56 _ _ hL4
        · exact fd.step (El.T k) ln (Nat.le_refl _) hf2 (List.getElem?_eq_getElem hil) (List.getElem?_eq_getElem hi)
      · rintro σ H4 ⟨w5, w10, x, rfl, s4, hX4, hD4, hL4, hll4, fd⟩
        refine ⟨_, rfl, ret H4 X x s4 hXn hX4 fd.len ⟨free, ?_⟩ (fd.fin ln hf2 hf1)⟩
        rw [fd.one]
        exact fun e => (El.T k).ne e.symm
theorem len_lone_solution {vs : List V} {H : Hp} {Q : VK} {E : XK} (h : sp_lone_solution K vs H Q E) : vs.length = 3 := by
  obtain ⟨f, r, rs, k, rows, wide, rfl, _⟩ := h; rfl
theorem c_lone_solution (T : Txt K mg) : C8.Cal P w K mg base 5 "lone_solution" (sp_lone_solution K) [] :=
  cal_of (k := 4) (ps := ["field", "rows", "wide"]) T.d_lone_solution (fun _ _ _ _ _ _ us hl => match us, hl with | [_, _, _], _ => rfl) sc_lone_solution (fun vs H Q E h => len_lone_solution h) fun f cdv A outer s H vs Q E hr h => ⟨_, ps_lone_solution T hr, pure_lone_solution T h⟩
end
end Tp
namespace Tp
open PySem PySem.Spec PyProof.Rows L2 Gab
/-! ### a book in the heap -/
structure BookAt (K : PySem.W.Frag) (H : Hp) (b : Addr) (k : Kd) (pts : List (El k)) (m : Nat) : Prop where
  ex : ∃ (dx f p : Addr) (fs : List (Str × V)), H b = some (.ins (CB K) dx fs) ∧ fs.lookup ("own_field" : Str) = some (.ref f) ∧ fs.lookup ("own_points" : Str) = some (.ref p) ∧ fs.lookup ("own_many" : Str) = some (.int (m : Int)) ∧ FieldAt K H f k ∧ H p = some (.lst (lE pts))
  one : 1 ≤ m
  le : m ≤ pts.length
  few : pts.length ≤ k.n
  ind : Indep (El.T k) pts
theorem BookAt.same {K : PySem.W.Frag} {H H' : Hp} {b : Addr} {k : Kd} {pts : List (El k)} {m : Nat} (h : BookAt K H b k pts m) (s : Same H H') : BookAt K H' b k pts m := by
  obtain ⟨⟨dx, f, p, fs, h1, h2, h3, h4, h5, h6⟩, a, b, c, d⟩ := h
  exact ⟨⟨dx, f, p, fs, s _ _ h1, h2, h3, h4, h5.same s, s _ _ h6⟩, a, b, c, d⟩
section
variable {K : PySem.W.Frag} {mg : Str → Option Value} {H : Hp} {b : Addr} {k : Kd} {pts : List (El k)} {m : Nat} {R : V → Prop}
theorem fld_field (T : Txt K mg) (h : BookAt K H b k pts m) (q : ∀ f, FieldAt K H f k → R (.ref f)) : FldR K H b "own_field" R := by
  obtain ⟨dx, f, p, fs, h1, h2, h3, h4, h5, h6⟩ := h.ex
  exact ⟨_, _, _, _, _, rfl, h1, T.i_Book.cl, T.n_own_field, h2, q f h5⟩
theorem fld_points (T : Txt K mg) (h : BookAt K H b k pts m) (q : ∀ p, H p = some (.lst (lE pts)) → R (.ref p)) : FldR K H b "own_points" R := by
  obtain ⟨dx, f, p, fs, h1, h2, h3, h4, h5, h6⟩ := h.ex
  exact ⟨_, _, _, _, _, rfl, h1, T.i_Book.cl, T.n_own_points, h3, q p h6⟩
theorem fld_many (T : Txt K mg) (h : BookAt K H b k pts m) (q : R (.int (m : Int))) : FldR K H b "own_many" R := by
  obtain ⟨dx, f, p, fs, h1, h2, h3, h4, h5, h6⟩ := h.ex
  exact ⟨_, _, _, _, _, rfl, h1, T.i_Book.cl, T.n_own_many, h4, q⟩
end
section
variable {P : Program} {w : World} {K : PySem.W.Frag} {mg : Str → Option Value} {base : Heap}
def sp_is_list (K : PySem.W.Frag) : Sp := fun vs H Q _ => ∃ (a : Addr) (xs : List V), vs = [.ref a] ∧ H a = some (.lst xs) ∧ RetV H Q (.bl true)
abbrev N_is_list : List Str := ["value"]
theorem sc_is_list : FnScope N_is_list ["value"] (defScope s_is_list) := ⟨rfl, rfl, rfl, by decide +kernel, rfl, by decide +kernel, by decide +kernel⟩
def t_is_list (K : PySem.W.Frag) : TS :=
  (tRet (tCB (rIsiT K) (tCons (tVar 0) (tCons (tTup (tCons (tC (.ty "list")) (tCons (tC (.ty "tuple")) tNil))) tNil))))
theorem ps_is_list {f : Addr} {cdv : Value} {A : Around} {outer : List Env} {s : Shared} {H : Hp} {E : XK} (T : Txt K mg) (hr : Room 1 (A.deeper (envOfC "is_list" (defScope s_is_list) s.heap.objs.size f cdv))) :
    PSs (cxOf CX0 P w K mg base N_is_list "is_list" (defScope s_is_list) f cdv A outer s H E).nox (defBody s_is_list) (t_is_list K) := by
  exact (pss_one (ps_ret (pe_callB call_isiT (by rfl) T.b_isinstance (by decide +kernel) (pa_cons (pv 0) (pa_cons (pe_tup (pa_cons (pe_bltn (by rfl) T.b_list (by decide +kernel) rfl) (pa_cons (pe_bltn (by rfl) T.b_tuple (by decide +kernel) rfl) pa_nil))) pa_nil)))))
theorem pure_is_list (T : Txt K mg) {vs : List V} {H : Hp} {Q : VK} {E : XK} (h : sp_is_list K vs H Q E) : t_is_list K { nx := fun _ H' => Q .non H', rt := Q } (L2.start N_is_list vs) H := by
  obtain ⟨a, xs, rfl, ha, ret⟩ := h
  refine ⟨_, rfl, by show 2 ≤ sizeLine; decide, fun t ht => ?_⟩
  have s := sm_upd (o := .tup [V.ty "list", V.ty "tuple"]) ht
  refine ⟨_, t, _, _, _, true, rfl, upd_same, .cons (ClsV.ty "list") (.cons (ClsV.ty "tuple") .nil), TyX.base (TyOf.lst (s _ _ ha)), kitAny_cons (b := true) (kit_ty (by decide +kernel)) (fun h => by cases h) (fun _ => rfl), ?_⟩
  exact ret _ s
theorem len_is_list {vs : List V} {H : Hp} {Q : VK} {E : XK} (h : sp_is_list K vs H Q E) : vs.length = 1 := by
  obtain ⟨a, xs, rfl, _⟩ := h; rfl
theorem c_is_list (T : Txt K mg) : C8.Cal P w K mg base 2 "is_list" (sp_is_list K) [] :=
  cal_of (k := 1) (ps := ["value"]) T.d_is_list (fun _ _ _ _ _ _ us hl => match us, hl with | [_], _ => rfl) sc_is_list (fun vs H Q E h => len_is_list h) fun f cdv A outer s H vs Q E hr h => ⟨_, ps_is_list T hr, pure_is_list T h⟩
def sp_are_some (K : PySem.W.Frag) : Sp := fun vs H Q _ => ∃ (f a : Addr) (k : Kd) (xs : List (El k)), vs = [.ref f, .ref a, .int (xs.length : Int)] ∧ FieldAt K H f k ∧ H a = some (.lst (lE xs)) ∧ xs.length ≤ 900 ∧ RetV H Q (.bl true)
abbrev N_are_some : List Str := ["field", "value", "many", "one"]
theorem sc_are_some : FnScope N_are_some ["field", "value", "many"] (defScope s_are_some) := ⟨rfl, rfl, rfl, by decide +kernel, rfl, by decide +kernel, by decide +kernel⟩
def t_are_some (K : PySem.W.Frag) : TS :=
  (tRet (tAndV (tCall (sp_is_list K) [] E0 (tCons (tVar 1) tNil)) (tAndV (tOp rEq (tCB (cLen K) (tCons (tVar 1) tNil)) (tVar 2)) (tCB (rAll K) (tCons (tLc (iList K (tVar 1)) (gName 3) tYes (tCall (sp_is_in K) [] E0 (tCons (tVar 0) (tCons (tVar 3) tNil))) [3]) tNil)))))
theorem ps_are_some {f : Addr} {cdv : Value} {A : Around} {outer : List Env} {s : Shared} {H : Hp} {E : XK} (T : Txt K mg) (hr : Room 4 (A.deeper (envOfC "are_some" (defScope s_are_some) s.heap.objs.size f cdv))) :
    PSs (cxOf CX0 P w K mg base N_are_some "are_some" (defScope s_are_some) f cdv A outer s H E).nox (defBody s_are_some) (t_are_some K) := by
  exact (pss_one (ps_ret (pe_and (C8.pe_c (c_is_list T) hr (by decide) (by rfl) (pa_cons (pv 1) pa_nil)) (pe_and (pe_cmpR op_eq (pe_callB call_len_seq (by rfl) T.b_len PySem.boot_len (pa_cons (pv 1) pa_nil)) (pv 2) (nomark _)) (pe_one (pe_callB (cr_all rfl) (by rfl) T.b_all (by decide +kernel) (pa_cons (pe_lc (own := [("one", 3)]) (g := (gName 3)) (tt := tYes) (te := (tCall (sp_is_in K) [] E0 (tCons (tVar 0) (tCons (tVar 3) tNil)))) (by rfl) sc_are_some.nd (pi_list (pv 1)) (blkOk_by (own := [("one", 3)]) (N := N_are_some) (sc := defScope s_are_some) (by decide +kernel)) (fun _ _ _ _ _ => (pg_name (i := 3) sc_are_some.nd rfl (Or.inl rfl))) (fun _ _ _ _ _ => pts_nil) (fun _ _ _ _ _ => (C8.pe_c (c_is_in T) hr (by decide) (by rfl) (pa_cons (pv 0) (pa_cons (pv 3) pa_nil))))) pa_nil)))))))
/-- so often true -/
def yes (n : Nat) : List V := (List.replicate n true).map V.bl
theorem yes_succ (n : Nat) : yes (n + 1) = yes n ++ [.bl true] := by unfold yes; rw [List.replicate_succ', List.map_append]; rfl
theorem yes_len (n : Nat) : (yes n).length = n := by simp [yes]
theorem all_yes : ∀ n, (List.replicate n true).all id = true
  | 0 => rfl
  | n + 1 => by rw [List.replicate_succ, List.all_cons, all_yes n]; rfl
theorem pure_are_some (T : Txt K mg) {vs : List V} {H : Hp} {Q : VK} {E : XK} (h : sp_are_some K vs H Q E) : t_are_some K { nx := fun _ H' => Q .non H', rt := Q } (L2.start N_are_some vs) H := by
  obtain ⟨f, a, k, xs, rfl, hf, ha, hl, ret⟩ := h
  refine ⟨_, rfl, a, _, rfl, ha, fun H1 s1 => ⟨true, rfl, iteT ?_⟩⟩
  have ha1 := s1 _ _ ha
  refine ⟨_, rfl, a, _, rfl, .inl (SqL.of ha1), _, rfl, rfl, _, rfl, ?_⟩
  rw [lE_len, decide_eq_true rfl]
  refine iteT ⟨_, rfl, a, rfl, ⟨_, SqL.of ha1⟩, fun D hD => ?_⟩
  refine lc_it (walk_list (xs := lE xs)) (LcP H1 D fun i => yes i) (lcp_start hD rfl) (fun i H4 _ p => p.1.seq (SqL.of ha1)) ?_ ?_
  · rintro i x H4 H5 hi p ⟨rfl, hxi⟩
    obtain ⟨hi', rfl⟩ := lE_at hxi
    refine ⟨rfl, lcY ?_⟩
    refine ⟨_, rfl, _, rfl, f, k, xs[i], rfl, (hf.same s1).same p.1, fun H6 s6 => ?_⟩
    exact lcp_next hD p s6 (yes_succ i) (small (by rw [yes_len]; omega))
  intro H4 p4
  have h4 := p4.2
  dsimp only at h4
  rw [lE_len] at h4
  refine ⟨D, _, rfl, SqL.of h4, ?_⟩
  rw [all_yes]
  exact ret _ (s1.trans p4.1)
theorem len_are_some {vs : List V} {H : Hp} {Q : VK} {E : XK} (h : sp_are_some K vs H Q E) : vs.length = 3 := by
  obtain ⟨f, a, k, xs, rfl, _⟩ := h; rfl
theorem c_are_some (T : Txt K mg) : C8.Cal P w K mg base 5 "are_some" (sp_are_some K) [] :=
  cal_of (k := 4) (ps := ["field", "value", "many"]) T.d_are_some (fun _ _ _ _ _ _ us hl => match us, hl with | [_, _, _], _ => rfl) sc_are_some (fun vs H Q E h => len_are_some h) fun f cdv A outer s H vs Q E hr h => ⟨_, ps_are_some T hr, pure_are_some T h⟩
/-- free ones have their number as rank -/
theorem ind_rank {F : Type} [Lean.Grind.CommRing F] {T : Trn F} {as : List F} (h : Indep T as) : IsRank T as as.length :=
  ⟨⟨as, Nat.le_refl _, fun e he => Sp.mem he⟩, fun t ⟨vs, hv, hs⟩ => Nat.le_trans (h vs hs) hv⟩
def sp_want_points (K : PySem.W.Frag) : Sp := fun vs H Q _ => ∃ (f a : Addr) (k : Kd) (xs : List (El k)), vs = [.ref f, .ref a] ∧ FieldAt K H f k ∧ H a = some (.lst (lE xs)) ∧ 1 ≤ xs.length ∧ xs.length ≤ k.n ∧ Indep (El.T k) xs ∧ RetL H Q (lE xs)
abbrev N_want_points : List Str := ["field", "value"]
theorem sc_want_points : FnScope N_want_points ["field", "value"] (defScope s_want_points) := ⟨rfl, rfl, rfl, by decide +kernel, rfl, by decide +kernel, by decide +kernel⟩
def t_want_points (K : PySem.W.Frag) : TS :=
  (tSeq (tIfS (tOr (tNot (tB (tCall (sp_is_list K) [] E0 (tCons (tVar 1) tNil)))) (tOr (tNot (tTest (tChain oLe oLe (tC (.int 1)) (tCB (cLen K) (tCons (tVar 1) tNil)) (tFld K (tVar 0) "own_turns")))) (tNot (tB (tCall (sp_are_some K) [] E0 (tCons (tVar 0) (tCons (tVar 1) (tCons (tCB (cLen K) (tCons (tVar 1) tNil)) tNil)))))))) tNever tNext)
  (tSeq (tIfS (tTest (tOp oLt (tCall (sp_rank_of K) [] E0 (tCons (tVar 0) (tCons (tCB (cList K) (tCons (tVar 1) tNil)) tNil))) (tCB (cLen K) (tCons (tVar 1) tNil)))) tNever tNext)
  (tRet (tCB (cList K) (tCons (tVar 1) tNil)))))
theorem ps_want_points {f : Addr} {cdv : Value} {A : Around} {outer : List Env} {s : Shared} {H : Hp} {E : XK} (T : Txt K mg) (hr : Room 5 (A.deeper (envOfC "want_points" (defScope s_want_points) s.heap.objs.size f cdv))) :
    PSs (cxOf CX0 P w K mg base N_want_points "want_points" (defScope s_want_points) f cdv A outer s H E).nox (defBody s_want_points) (t_want_points K) := by
  exact (pss_cons (ps_if (PW.pt (pw_or (pt_not (pt_val (C8.pe_c (c_is_list T) hr (by decide) (by rfl) (pa_cons (pv 1) pa_nil)))) (pw_or (pt_not (pt_chain op_le op_le pe_int (pe_callB call_len_seq (by rfl) T.b_len PySem.boot_len (pa_cons (pv 1) pa_nil)) (pe_fld (pv 0) rfl))) (pw_or1 (pt_not (pt_val (C8.pe_c (c_are_some T) hr (by decide) (by rfl) (pa_cons (pv 0) (pa_cons (pv 1) (pa_cons (pe_callB call_len_seq (by rfl) T.b_len PySem.boot_len (pa_cons (pv 1) pa_nil)) pa_nil)))))))))) (pss_one ps_never) pss_nil)
  (pss_cons (ps_if (pt_cmpR op_lt (C8.pe_c (c_rank_of T) hr (by decide) (by rfl) (pa_cons (pv 0) (pa_cons (pe_callTy call_list_of (by rfl) T.b_list (by decide +kernel) (pa_cons (pv 1) pa_nil)) pa_nil))) (pe_callB call_len_seq (by rfl) T.b_len PySem.boot_len (pa_cons (pv 1) pa_nil)) (nomark _)) (pss_one ps_never) pss_nil)
  (pss_one (ps_ret (pe_callTy call_list_of (by rfl) T.b_list (by decide +kernel) (pa_cons (pv 1) pa_nil))))))
theorem pure_want_points (T : Txt K mg) {vs : List V} {H : Hp} {Q : VK} {E : XK} (h : sp_want_points K vs H Q E) : t_want_points K { nx := fun _ H' => Q .non H', rt := Q } (L2.start N_want_points vs) H := by
  obtain ⟨f, a, k, xs, rfl, hf, ha, h1, hn, hi, ret⟩ := h
  have hk := k.n_le
  refine ⟨_, rfl, a, _, rfl, ha, fun H1 s1 => ⟨true, rfl, ?_⟩⟩
  have ha1 := s1 _ _ ha
  refine iteF ?_
  refine ⟨_, rfl, a, _, rfl, .inl (SqL.of ha1), _, _, rfl, rfl, _, rfl, ?_⟩
  rw [lE_len, decide_eq_true (by omega : (1 : Int) ≤ (xs.length : Int))]
  refine iteT ⟨_, rfl, ?_⟩
  refine fld_turns T (hf.same s1) ?_
  refine ⟨_, _, rfl, rfl, _, rfl, ?_⟩
  rw [decide_eq_true (by omega : (xs.length : Int) ≤ (k.n : Int))]
  refine iteF ?_
  refine ⟨_, rfl, _, rfl, _, rfl, a, _, rfl, .inl (SqL.of ha1), ?_⟩
  refine ⟨f, a, k, xs, by rw [lE_len]; rfl, hf.same s1, ha1, by omega, fun H2 s2 => ⟨true, rfl, iteF ?_⟩⟩
  have ha2 := s2 _ _ ha1
  refine ⟨_, rfl, _, rfl, a, _, rfl, .inl (SqL.of ha2), fun l hl => ?_⟩
  have s3 := sm_upd (o := .lst (lE xs)) hl
  refine ⟨f, l, k, xs, rfl, ((hf.same s1).same s2).same s3, upd_same, List.length_pos_iff.mp h1, by omega, fun n hr H4 s4 => ?_⟩
  have en : n = xs.length := Nat.le_antisymm (hr.2 _ (ind_rank hi).1) ((ind_rank hi).2 _ hr.1)
  have ha4 := s4 _ _ (s3 _ _ ha2)
  refine ⟨_, rfl, a, _, rfl, .inl (SqL.of ha4), _, _, rfl, rfl, _, rfl, ?_⟩
  rw [lE_len, en, decide_eq_false (by omega : ¬ (xs.length : Int) < (xs.length : Int))]
  refine iteF ⟨_, rfl, a, _, rfl, .inl (SqL.of ha4), fun q hq => ?_⟩
  have sA := s1.trans (s2.trans (s3.trans s4))
  refine ret _ q (sm_upd' sA hq) ?_ upd_same
  cases e : H q with
  | none => rfl
  | some o => rw [sA _ _ e] at hq; cases hq
theorem len_want_points {vs : List V} {H : Hp} {Q : VK} {E : XK} (h : sp_want_points K vs H Q E) : vs.length = 2 := by
  obtain ⟨f, a, k, xs, rfl, _⟩ := h; rfl
theorem c_want_points (T : Txt K mg) : C8.Cal P w K mg base 6 "want_points" (sp_want_points K) [] :=
  cal_of (k := 5) (ps := ["field", "value"]) T.d_want_points (fun _ _ _ _ _ _ us hl => match us, hl with | [_, _], _ => rfl) sc_want_points (fun vs H Q E h => len_want_points h) fun f cdv A outer s H vs Q E hr h => ⟨_, ps_want_points T hr, pure_want_points T h⟩
def sp_want_many (K : PySem.W.Frag) : Sp := fun vs H Q _ => ∃ (m l : Nat), vs = [.int (m : Int), .int (l : Int), .int 1] ∧ 1 ≤ m ∧ m ≤ l ∧ RetV H Q .non
abbrev N_want_many : List Str := ["value", "most", "least"]
theorem sc_want_many : FnScope N_want_many ["value", "most", "least"] (defScope s_want_many) := ⟨rfl, rfl, rfl, by decide +kernel, rfl, by decide +kernel, by decide +kernel⟩
def t_want_many (K : PySem.W.Frag) : TS :=
  (tIfS (tOr (tNot (tB (tCall (sp_is_count K) [] E0 (tCons (tVar 0) tNil)))) (tOr (tTest (tOp oLt (tVar 0) (tVar 2))) (tAnd (tTest (tOp oNotN (tVar 1) (tC .non))) (tTest (tOp oGt (tVar 0) (tVar 1)))))) tNever tNext)
theorem ps_want_many {f : Addr} {cdv : Value} {A : Around} {outer : List Env} {s : Shared} {H : Hp} {E : XK} (T : Txt K mg) (hr : Room 3 (A.deeper (envOfC "want_many" (defScope s_want_many) s.heap.objs.size f cdv))) :
    PSs (cxOf CX0 P w K mg base N_want_many "want_many" (defScope s_want_many) f cdv A outer s H E).nox (defBody s_want_many) (t_want_many K) := by
  exact (pss_one (ps_if (PW.pt (pw_or (pt_not (pt_val (C8.pe_c (c_is_count T) hr (by decide) (by rfl) (pa_cons (pv 0) pa_nil)))) (pw_or (pt_cmpR op_lt (pv 0) (pv 2) (nomark _)) (pw_or1 (PW.pt (pw_and (pt_cmpR op_notN (pv 1) pe_non (nomark _)) (pw_and1 (pt_cmpR op_gt (pv 0) (pv 1) (nomark _))))))))) (pss_one ps_never) pss_nil))
theorem pure_want_many (T : Txt K mg) {vs : List V} {H : Hp} {Q : VK} {E : XK} (h : sp_want_many K vs H Q E) : t_want_many K { nx := fun _ H' => Q .non H', rt := Q } (L2.start N_want_many vs) H := by
  obtain ⟨m, l, rfl, h1, h2, ret⟩ := h
  refine ⟨_, rfl, (m : Int), rfl, fun H1 s1 => ?_⟩
  rw [decide_eq_true (by omega : (0 : Int) ≤ (m : Int))]
  refine ⟨true, rfl, iteF ?_⟩
  refine ⟨_, rfl, _, rfl, _, _, rfl, rfl, _, rfl, ?_⟩
  rw [decide_eq_false (by omega : ¬ (m : Int) < 1)]
  refine iteF ?_
  refine ⟨_, rfl, rfl, _, rfl, ?_⟩
  refine iteT ?_
  refine ⟨_, rfl, _, rfl, _, _, rfl, rfl, _, rfl, ?_⟩
  rw [decide_eq_false (by omega : ¬ (l : Int) < (m : Int))]
  refine iteF ?_
  exact ret _ s1
theorem len_want_many {vs : List V} {H : Hp} {Q : VK} {E : XK} (h : sp_want_many K vs H Q E) : vs.length = 3 := by
  obtain ⟨m, l, rfl, _⟩ := h; rfl
theorem c_want_many (T : Txt K mg) : C8.Cal P w K mg base 4 "want_many" (sp_want_many K) [] := by
  obtain ⟨f, fd, F, hm⟩ := T.d_want_many
  obtain ⟨ds, hd, hb⟩ := F.binds1 (ps := ["value", "most", "least"]) 3 2 (by decide) rfl (fun T kV doc pm an cdv ct us its h1 h2 => match us, h1, its, h2 with | [_, _, _], _, [_, _], _ => ⟨_, rfl, rfl⟩)
  exact ⟨f, fd, ["value", "most", "least"], ds, F.ok (k := 3) sc_want_many (fun vs H Q E h => len_want_many h) (fun cdv A outer s H vs Q E hr h => ⟨_, (ps_want_many T hr).nox, pure_want_many T h⟩), hm, F.kp, hb, hd⟩
def sp_want_field (K : PySem.W.Frag) : Sp := fun vs H Q _ => ∃ (f : Addr) (k : Kd), vs = [.ref f] ∧ FieldAt K H f k ∧ RetV H Q (.ref f)
abbrev N_want_field : List Str := ["value"]
theorem sc_want_field : FnScope N_want_field ["value"] (defScope s_want_field) := ⟨rfl, rfl, rfl, by decide +kernel, rfl, by decide +kernel, by decide +kernel⟩
def t_want_field (K : PySem.W.Frag) : TS :=
  (tSeq (tIfS (tNot (tB (tCB (cIsC (CF K)) (tCons (tVar 0) (tCons (tC (.ref (CF K))) tNil))))) tNever tNext)
  (tRet (tVar 0)))
theorem ps_want_field {f : Addr} {cdv : Value} {A : Around} {outer : List Env} {s : Shared} {H : Hp} {E : XK} (T : Txt K mg) (hr : Room 3 (A.deeper (envOfC "want_field" (defScope s_want_field) s.heap.objs.size f cdv))) :
    PSs (cxOf CX0 P w K mg base N_want_field "want_field" (defScope s_want_field) f cdv A outer s H E).nox (defBody s_want_field) (t_want_field K) := by
  exact (pss_cons (ps_if (pt_not (pt_val (pe_callB (C8.call_isC T.i_Field) (by rfl) T.b_isinstance (by decide +kernel) (pa_cons (pv 0) (pa_cons (C8.pe_gc (by rfl) ⟨_, T.g_Field, rfl⟩) pa_nil))))) (pss_one ps_never) pss_nil)
  (pss_one (ps_ret (pv 0))))
theorem pure_want_field (T : Txt K mg) {vs : List V} {H : Hp} {Q : VK} {E : XK} (h : sp_want_field K vs H Q E) : t_want_field K { nx := fun _ H' => Q .non H', rt := Q } (L2.start N_want_field vs) H := by
  obtain ⟨f, k, rfl, ⟨dx, m, pw, lg, fs, h1, _⟩, ret⟩ := h
  exact ⟨_, rfl, f, dx, fs, rfl, h1, true, rfl, iteF ⟨_, rfl, ret H (Same.refl H)⟩⟩
theorem len_want_field {vs : List V} {H : Hp} {Q : VK} {E : XK} (h : sp_want_field K vs H Q E) : vs.length = 1 := by
  obtain ⟨f, k, rfl, _⟩ := h; rfl
theorem c_want_field (T : Txt K mg) : C8.Cal P w K mg base 4 "want_field" (sp_want_field K) [] :=
  cal_of (k := 3) (ps := ["value"]) T.d_want_field (fun _ _ _ _ _ _ us hl => match us, hl with | [_], _ => rfl) sc_want_field (fun vs H Q E h => len_want_field h) fun f cdv A outer s H vs Q E hr h => ⟨_, ps_want_field T hr, pure_want_field T h⟩
def sp_want_book (K : PySem.W.Frag) : Sp := fun vs H Q _ => ∃ (b : Addr) (k : Kd) (pts : List (El k)) (m : Nat), vs = [.ref b] ∧ BookAt K H b k pts m ∧ RetV H Q (.ref b)
abbrev N_want_book : List Str := ["value"]
theorem sc_want_book : FnScope N_want_book ["value"] (defScope s_want_book) := ⟨rfl, rfl, rfl, by decide +kernel, rfl, by decide +kernel, by decide +kernel⟩
def t_want_book (K : PySem.W.Frag) : TS :=
  (tSeq (tIfS (tNot (tB (tCB (cIsC (CB K)) (tCons (tVar 0) (tCons (tC (.ref (CB K))) tNil))))) tNever tNext)
  (tRet (tVar 0)))
theorem ps_want_book {f : Addr} {cdv : Value} {A : Around} {outer : List Env} {s : Shared} {H : Hp} {E : XK} (T : Txt K mg) (hr : Room 3 (A.deeper (envOfC "want_book" (defScope s_want_book) s.heap.objs.size f cdv))) :
    PSs (cxOf CX0 P w K mg base N_want_book "want_book" (defScope s_want_book) f cdv A outer s H E).nox (defBody s_want_book) (t_want_book K) := by
  exact (pss_cons (ps_if (pt_not (pt_val (pe_callB (C8.call_isC T.i_Book) (by rfl) T.b_isinstance (by decide +kernel) (pa_cons (pv 0) (pa_cons (C8.pe_gc (by rfl) ⟨_, T.g_Book, rfl⟩) pa_nil))))) (pss_one ps_never) pss_nil)
  (pss_one (ps_ret (pv 0))))
theorem pure_want_book (T : Txt K mg) {vs : List V} {H : Hp} {Q : VK} {E : XK} (h : sp_want_book K vs H Q E) : t_want_book K { nx := fun _ H' => Q .non H', rt := Q } (L2.start N_want_book vs) H := by
  obtain ⟨b, k, pts, m, rfl, hb, ret⟩ := h
  obtain ⟨dx, f, p, fs, h1, _⟩ := hb.ex
  exact ⟨_, rfl, b, dx, fs, rfl, h1, true, rfl, iteF ⟨_, rfl, ret H (Same.refl H)⟩⟩
theorem len_want_book {vs : List V} {H : Hp} {Q : VK} {E : XK} (h : sp_want_book K vs H Q E) : vs.length = 1 := by
  obtain ⟨b, k, pts, m, rfl, _⟩ := h; rfl
theorem c_want_book (T : Txt K mg) : C8.Cal P w K mg base 4 "want_book" (sp_want_book K) [] :=
  cal_of (k := 3) (ps := ["value"]) T.d_want_book (fun _ _ _ _ _ _ us hl => match us, hl with | [_], _ => rfl) sc_want_book (fun vs H Q E h => len_want_book h) fun f cdv A outer s H vs Q E hr h => ⟨_, ps_want_book T hr, pure_want_book T h⟩
end
end Tp
namespace Tp
open PySem PySem.Spec PyProof.Rows L2 Gab
/-- all but the one at x stands -/
def But (x : Addr) (H H' : Hp) : Prop := ∀ b u, b ≠ x → H b = some u → H' b = some u
theorem But.same {x : Addr} {H H' H2 : Hp} (h : But x H H') (s : Same H' H2) : But x H H2 := fun b u n e => s _ _ (h b u n e)
theorem But.upd {x : Addr} {H H' : Hp} {o : HO} (h : But x H H') : But x H (upd H' x o) := fun b u n e => by rw [upd_ne n]; exact h b u n e
theorem But.refl (x : Addr) (H : Hp) : But x H H := fun _ _ _ e => e
theorem FieldAt.but {K : PySem.W.Frag} {H H' : Hp} {f x C dx : Addr} {k : Kd} (h : FieldAt K H f k) (hx : H x = some (.ins C dx [])) (s : But x H H') : FieldAt K H' f k := by
  obtain ⟨d, m, pw, lg, fs, h1, h2, h3, h4, h5, h6, h7, h8, h9, h10⟩ := h
  have n : ∀ {b : Addr} {o : HO}, H b = some o → (∀ C dx, o ≠ .ins C dx []) → b ≠ x := fun e z q => by
    rw [q, hx] at e; exact z _ _ (Option.some.inj e).symm
  refine ⟨d, m, pw, lg, fs, s _ _ (n h1 fun C dx e => ?_) h1, h2, h3, h4, h5, h6, h7, s _ _ (n h8 fun _ _ e => by cases e) h8, s _ _ (n h9 fun _ _ e => by cases e) h9, s _ _ (n h10 fun _ _ e => by cases e) h10⟩
  have e2 := (HO.ins.inj e).2.2
  rw [e2] at h2; cases h2
theorem plen {f : Str} {v : V} {fs : List (Str × V)} {n : Nat} (h : fs.length ≤ n) : (putF f v fs).length ≤ n + 1 := Nat.le_trans (length_putF f v fs) (Nat.succ_le_succ h)
theorem plen0 : ([] : List (Str × V)).length ≤ 0 := Nat.le_refl 0
section
variable {P : Program} {w : World} {K : PySem.W.Frag} {mg : Str → Option Value} {base : Heap}
def sp_Book_init (K : PySem.W.Frag) : Sp := fun vs H Q _ => ∃ (x f p dx : Addr) (k : Kd) (xs : List (El k)) (m : Nat), vs = [.ref x, .ref f, .ref p, .int (m : Int)] ∧ H x = some (.ins (CB K) dx []) ∧ FieldAt K H f k ∧ H p = some (.lst (lE xs)) ∧ 1 ≤ m ∧ m ≤ xs.length ∧ xs.length ≤ k.n ∧ Indep (El.T k) xs ∧
  ∀ H', But x H H' → BookAt K H' x k xs m → Q .non H'
abbrev N_Book_init : List Str := ["self", "field", "points", "many", "here", "told"]
theorem sc_Book_init : FnScope N_Book_init ["self", "field", "points", "many"] (defScope s_Book_init) := ⟨rfl, rfl, rfl, by decide +kernel, rfl, by decide +kernel, by decide +kernel⟩
def t_Book_init (K : PySem.W.Frag) : TS :=
  (tSeq (tAsg (tCall (sp_want_field K) [] E0 (tCons (tVar 1) tNil)) (gName 4))
  (tSeq (tAsg (tCall (sp_want_points K) [] E0 (tCons (tVar 4) (tCons (tVar 2) tNil))) (gName 5))
  (tSeq (tDrop (tCall (sp_want_many K) [] E0 (tCons (tVar 3) (tCons (tCB (cLen K) (tCons (tVar 5) tNil)) (tCons (tC (.int 1)) tNil)))))
  (tSeq (sFld K (tVar 0) (tVar 4) "own_field")
  (tSeq (sFld K (tVar 0) (tVar 5) "own_points")
  (sFld K (tVar 0) (tVar 3) "own_many"))))))
theorem ps_Book_init {f : Addr} {cdv : Value} {A : Around} {outer : List Env} {s : Shared} {H : Hp} {E : XK} (T : Txt K mg) (hr : Room 6 (A.deeper (envOfC "Book.__init__" (defScope s_Book_init) s.heap.objs.size f cdv))) :
    PSs (cxOf CX0 P w K mg base N_Book_init "Book.__init__" (defScope s_Book_init) f cdv A outer s H E).nox (defBody s_Book_init) (t_Book_init K) := by
  exact (pss_cons (ps_set (i := 4) sc_Book_init.nd rfl (Or.inl rfl) (C8.pe_c (c_want_field T) hr (by decide) (by rfl) (pa_cons (pv 1) pa_nil)))
  (pss_cons (ps_set (i := 5) sc_Book_init.nd rfl (Or.inl rfl) (C8.pe_c (c_want_points T) hr (by decide) (by rfl) (pa_cons (pv 4) (pa_cons (pv 2) pa_nil))))
  (pss_cons (ps_expr (C8.pe_c (c_want_many T) hr (by decide) (by rfl) (pa_cons (pv 3) (pa_cons (pe_callB call_len_seq (by rfl) T.b_len PySem.boot_len (pa_cons (pv 5) pa_nil)) (pa_cons pe_int pa_nil)))))
  (pss_cons (ps_fld (pv 0) (pv 4) rfl)
  (pss_cons (ps_fld (pv 0) (pv 5) rfl)
  (pss_one (ps_fld (pv 0) (pv 3) rfl)))))))
theorem pure_Book_init (T : Txt K mg) {vs : List V} {H : Hp} {Q : VK} {E : XK} (h : sp_Book_init K vs H Q E) : t_Book_init K { nx := fun _ H' => Q .non H', rt := Q } (L2.start N_Book_init vs) H := by
  obtain ⟨x, f, p, dx, k, xs, m, rfl, hx, hf, hp, h1, hm, hn, hi, ret⟩ := h
  refine ⟨_, rfl, f, k, rfl, hf, fun H1 s1 => ?_⟩
  have hx1 := s1 _ _ hx
  refine ⟨_, rfl, _, rfl, f, p, k, xs, rfl, hf.same s1, s1 _ _ hp, by omega, hn, hi, fun H2 q s2 n2 e2 => ?_⟩
  have hx2 := s2 _ _ hx1
  refine ⟨_, rfl, _, rfl, q, _, rfl, .inl (SqL.of e2), ?_⟩
  refine ⟨m, xs.length, by rw [lE_len]; rfl, h1, hm, fun H3 s3 => ?_⟩
  have hx3 := s3 _ _ hx2
  have hq3 := s3 _ _ e2
  have hf3 := ((hf.same s1).same s2).same s3
  have hqx : q ≠ x := fun e => by rw [e, hx2] at e2; cases e2
  refine ⟨_, rfl, _, rfl, x, CB K, dx, _, rfl, hx3, T.i_Book.cl, T.n_own_field, by decide, ?_⟩
  refine ⟨_, rfl, _, rfl, x, CB K, dx, _, rfl, upd_same, T.i_Book.cl, T.n_own_points, Nat.lt_of_le_of_lt (plen plen0) (by decide), ?_⟩
  refine ⟨_, rfl, _, rfl, x, CB K, dx, _, rfl, upd_same, T.i_Book.cl, T.n_own_many, Nat.lt_of_le_of_lt (plen (plen plen0)) (by decide), ?_⟩
  have b0 : But x H3 H3 := But.refl x H3
  have b1 := b0.upd (o := .ins (CB K) dx (putF "own_field" (.ref f) []))
  have b2 := b1.upd (o := .ins (CB K) dx (putF "own_points" (.ref q) (putF "own_field" (.ref f) [])))
  have b3 := b2.upd (o := .ins (CB K) dx (putF "own_many" (.int (m : Int)) (putF "own_points" (.ref q) (putF "own_field" (.ref f) []))))
  refine ret _ (fun b u n e => b3 b u n (s3 _ _ (s2 _ _ (s1 _ _ e)))) ⟨⟨dx, f, q, _, upd_same, rfl, rfl, rfl, hf3.but hx3 b3, b3 _ _ hqx hq3⟩, h1, hm, hn, hi⟩
theorem len_Book_init {vs : List V} {H : Hp} {Q : VK} {E : XK} (h : sp_Book_init K vs H Q E) : vs.length = 4 := by
  obtain ⟨x, f, p, dx, k, xs, m, rfl, _⟩ := h; rfl
theorem c_Book (T : Txt K mg) : C8.Mak P w K mg base 7 "Book" (CB K) (sp_Book_init K) [] := by
  obtain ⟨f, fd, M, F⟩ := T.m_Book
  exact ⟨f, fd, ["self", "field", "points", "many"], [], M, F.ok (k := 6) sc_Book_init (fun vs H Q E h => len_Book_init h) (fun cdv A outer s H vs Q E hr h => ⟨_, (ps_Book_init T hr).nox, pure_Book_init T h⟩), T.g_Book, F.bindsN (fun _ _ _ _ _ _ us hl => match us, hl with | [_, _, _, _], _ => rfl), .nil⟩
def sp_word_in (K : PySem.W.Frag) : Sp := fun vs H Q _ => ∃ (b a : Addr) (k : Kd) (pts : List (El k)) (m : Nat) (xs : List (El k)), vs = [.ref b, .ref a] ∧ BookAt K H b k pts m ∧ H a = some (.lst (lE xs)) ∧ xs.length = pts.length ∧ RetL H Q (lE xs)
abbrev N_word_in : List Str := ["book", "value", "one"]
theorem sc_word_in : FnScope N_word_in ["book", "value"] (defScope s_word_in) := ⟨rfl, rfl, rfl, by decide +kernel, rfl, by decide +kernel, by decide +kernel⟩
def t_word_in (K : PySem.W.Frag) : TS :=
  (tSeq (tIfS (tOr (tNot (tB (tCall (sp_is_list K) [] E0 (tCons (tVar 1) tNil)))) (tTest (tOp rNe (tCB (cLen K) (tCons (tVar 1) tNil)) (tCB (cLen K) (tCons (tFld K (tVar 0) "own_points") tNil))))) (tRet (tC .non)) tNext)
  (tRet (tIf (tB (tCB (rAll K) (tCons (tLc (iList K (tVar 1)) (gName 2) tYes (tCall (sp_is_in K) [] E0 (tCons (tFld K (tVar 0) "own_field") (tCons (tVar 2) tNil))) [2]) tNil))) (tCB (cList K) (tCons (tVar 1) tNil)) (tC .non))))
theorem ps_word_in {f : Addr} {cdv : Value} {A : Around} {outer : List Env} {s : Shared} {H : Hp} {E : XK} (T : Txt K mg) (hr : Room 4 (A.deeper (envOfC "word_in" (defScope s_word_in) s.heap.objs.size f cdv))) :
    PSs (cxOf CX0 P w K mg base N_word_in "word_in" (defScope s_word_in) f cdv A outer s H E).nox (defBody s_word_in) (t_word_in K) := by
  exact (pss_cons (ps_if (PW.pt (pw_or (pt_not (pt_val (C8.pe_c (c_is_list T) hr (by decide) (by rfl) (pa_cons (pv 1) pa_nil)))) (pw_or1 (pt_cmpR op_ne (pe_callB call_len_seq (by rfl) T.b_len PySem.boot_len (pa_cons (pv 1) pa_nil)) (pe_callB call_len_seq (by rfl) T.b_len PySem.boot_len (pa_cons (pe_fld (pv 0) rfl) pa_nil)) (nomark _))))) (pss_one (ps_ret pe_non)) pss_nil)
  (pss_one (ps_ret (pe_ifExp (pt_val (pe_callB (cr_all rfl) (by rfl) T.b_all (by decide +kernel) (pa_cons (pe_lc (own := [("one", 2)]) (g := (gName 2)) (tt := tYes) (te := (tCall (sp_is_in K) [] E0 (tCons (tFld K (tVar 0) "own_field") (tCons (tVar 2) tNil)))) (by rfl) sc_word_in.nd (pi_list (pv 1)) (blkOk_by (own := [("one", 2)]) (N := N_word_in) (sc := defScope s_word_in) (by decide +kernel)) (fun _ _ _ _ _ => (pg_name (i := 2) sc_word_in.nd rfl (Or.inl rfl))) (fun _ _ _ _ _ => pts_nil) (fun _ _ _ _ _ => (C8.pe_c (c_is_in T) hr (by decide) (by rfl) (pa_cons (pe_fld (pv 0) rfl) (pa_cons (pv 2) pa_nil))))) pa_nil))) (pe_callTy call_list_of (by rfl) T.b_list (by decide +kernel) (pa_cons (pv 1) pa_nil)) pe_non))))
theorem pure_word_in (T : Txt K mg) {vs : List V} {H : Hp} {Q : VK} {E : XK} (h : sp_word_in K vs H Q E) : t_word_in K { nx := fun _ H' => Q .non H', rt := Q } (L2.start N_word_in vs) H := by
  obtain ⟨b, a, k, pts, m, xs, rfl, hb, ha, hl, ret⟩ := h
  have hk := k.n_le
  have hfew := hb.few
  refine ⟨_, rfl, a, _, rfl, ha, fun H1 s1 => ⟨true, rfl, iteF ?_⟩⟩
  have ha1 := s1 _ _ ha
  have hb1 := hb.same s1
  refine ⟨_, rfl, a, _, rfl, .inl (SqL.of ha1), _, rfl, ?_⟩
  refine fld_points T hb1 fun p hp => ?_
  refine ⟨p, _, rfl, .inl (SqL.of hp), rfl, _, rfl, ?_⟩
  rw [lE_len, lE_len, hl, decide_eq_true rfl]
  refine iteF ?_
  refine ⟨_, rfl, a, rfl, ⟨_, SqL.of ha1⟩, fun D hD => ?_⟩
  refine lc_it (walk_list (xs := lE xs)) (LcP H1 D fun i => yes i) (lcp_start hD rfl) (fun i H4 _ p => p.1.seq (SqL.of ha1)) ?_ ?_
  · rintro i x H4 H5 hi p4 ⟨rfl, hxi⟩
    obtain ⟨hi', rfl⟩ := lE_at hxi
    refine ⟨rfl, lcY ?_⟩
    refine ⟨_, rfl, ?_⟩
    refine fld_field T (hb1.same p4.1) fun f hf => ?_
    refine ⟨_, rfl, f, k, xs[i], rfl, hf, fun H6 s6 => ?_⟩
    exact lcp_next hD p4 s6 (yes_succ i) (small (by rw [yes_len]; omega))
  intro H4 p4
  have h4 := p4.2
  dsimp only at h4
  rw [lE_len] at h4
  refine ⟨D, _, rfl, SqL.of h4, true, ?_, iteT ?_⟩
  · rw [all_yes]
  refine ⟨_, rfl, a, _, rfl, .inl (SqL.of (p4.1 _ _ ha1)), fun q hq => ?_⟩
  have sA := s1.trans p4.1
  refine ret _ q (sm_upd' sA hq) ?_ upd_same
  cases e : H q with
  | none => rfl
  | some o => rw [sA _ _ e] at hq; cases hq
theorem len_word_in {vs : List V} {H : Hp} {Q : VK} {E : XK} (h : sp_word_in K vs H Q E) : vs.length = 2 := by
  obtain ⟨b, a, k, pts, m, xs, rfl, _⟩ := h; rfl
theorem c_word_in (T : Txt K mg) : C8.Cal P w K mg base 5 "word_in" (sp_word_in K) [] :=
  cal_of (k := 4) (ps := ["book", "value"]) T.d_word_in (fun _ _ _ _ _ _ us hl => match us, hl with | [_, _], _ => rfl) sc_word_in (fun vs H Q E h => len_word_in h) fun f cdv A outer s H vs Q E hr h => ⟨_, ps_word_in T hr, pure_word_in T h⟩
def sp_want_word (K : PySem.W.Frag) : Sp := sp_word_in K
abbrev N_want_word : List Str := ["book", "value", "found"]
theorem sc_want_word : FnScope N_want_word ["book", "value"] (defScope s_want_word) := ⟨rfl, rfl, rfl, by decide +kernel, rfl, by decide +kernel, by decide +kernel⟩
def t_want_word (K : PySem.W.Frag) : TS :=
  (tSeq (tAsg (tCall (sp_word_in K) [] E0 (tCons (tVar 0) (tCons (tVar 1) tNil))) (gName 2))
  (tSeq (tIfS (tTest (tOp oIsN (tVar 2) (tC .non))) tNever tNext)
  (tRet (tVar 2))))
theorem ps_want_word {f : Addr} {cdv : Value} {A : Around} {outer : List Env} {s : Shared} {H : Hp} {E : XK} (T : Txt K mg) (hr : Room 5 (A.deeper (envOfC "want_word" (defScope s_want_word) s.heap.objs.size f cdv))) :
    PSs (cxOf CX0 P w K mg base N_want_word "want_word" (defScope s_want_word) f cdv A outer s H E).nox (defBody s_want_word) (t_want_word K) := by
  exact (pss_cons (ps_set (i := 2) sc_want_word.nd rfl (Or.inl rfl) (C8.pe_c (c_word_in T) hr (by decide) (by rfl) (pa_cons (pv 0) (pa_cons (pv 1) pa_nil))))
  (pss_cons (ps_if (pt_cmpR op_isN (pv 2) pe_non (nomark _)) (pss_one ps_never) pss_nil)
  (pss_one (ps_ret (pv 2)))))
theorem pure_want_word (T : Txt K mg) {vs : List V} {H : Hp} {Q : VK} {E : XK} (h : sp_want_word K vs H Q E) : t_want_word K { nx := fun _ H' => Q .non H', rt := Q } (L2.start N_want_word vs) H := by
  obtain ⟨b, a, k, pts, m, xs, rfl, hb, ha, hl, ret⟩ := h
  refine ⟨_, rfl, _, rfl, b, a, k, pts, m, xs, rfl, hb, ha, hl, fun H1 q s1 n1 e1 => ?_⟩
  refine ⟨_, rfl, rfl, _, rfl, ?_⟩
  rw [decide_eq_false (by intro z; cases z)]
  refine iteF ⟨_, rfl, ret _ _ s1 n1 e1⟩
theorem len_want_word {vs : List V} {H : Hp} {Q : VK} {E : XK} (h : sp_want_word K vs H Q E) : vs.length = 2 := len_word_in h
theorem c_want_word (T : Txt K mg) : C8.Cal P w K mg base 6 "want_word" (sp_want_word K) [] :=
  cal_of (k := 5) (ps := ["book", "value"]) T.d_want_word (fun _ _ _ _ _ _ us hl => match us, hl with | [_, _], _ => rfl) sc_want_word (fun vs H Q E h => len_want_word h) fun f cdv A outer s H vs Q E hr h => ⟨_, ps_want_word T hr, pure_want_word T h⟩
def sp_word_by (K : PySem.W.Frag) : Sp := fun vs H Q _ => ∃ (b a : Addr) (k : Kd) (pts : List (El k)) (m : Nat) (f : List (El k)), vs = [.ref b, .ref a] ∧ BookAt K H b k pts m ∧ H a = some (.lst (lE f)) ∧ RetL H Q (lE (pts.map (W (El.T k) f)))
abbrev N_word_by : List Str := ["book", "turner", "point"]
theorem sc_word_by : FnScope N_word_by ["book", "turner"] (defScope s_word_by) := ⟨rfl, rfl, rfl, by decide +kernel, rfl, by decide +kernel, by decide +kernel⟩
def t_word_by (K : PySem.W.Frag) : TS :=
  (tRet (tLc (iList K (tFld K (tVar 0) "own_points")) (gName 2) tYes (tCall (sp_worth_of K) [] E0 (tCons (tFld K (tVar 0) "own_field") (tCons (tVar 1) (tCons (tVar 2) tNil)))) [2]))
theorem ps_word_by {f : Addr} {cdv : Value} {A : Around} {outer : List Env} {s : Shared} {H : Hp} {E : XK} (T : Txt K mg) (hr : Room 4 (A.deeper (envOfC "word_by" (defScope s_word_by) s.heap.objs.size f cdv))) :
    PSs (cxOf CX0 P w K mg base N_word_by "word_by" (defScope s_word_by) f cdv A outer s H E).nox (defBody s_word_by) (t_word_by K) := by
  exact (pss_one (ps_ret (pe_lc (own := [("point", 2)]) (g := (gName 2)) (tt := tYes) (te := (tCall (sp_worth_of K) [] E0 (tCons (tFld K (tVar 0) "own_field") (tCons (tVar 1) (tCons (tVar 2) tNil))))) (by rfl) sc_word_by.nd (pi_list (pe_fld (pv 0) rfl)) (blkOk_by (own := [("point", 2)]) (N := N_word_by) (sc := defScope s_word_by) (by decide +kernel)) (fun _ _ _ _ _ => (pg_name (i := 2) sc_word_by.nd rfl (Or.inl rfl))) (fun _ _ _ _ _ => pts_nil) (fun _ _ _ _ _ => (C8.pe_c (c_worth_of T) hr (by decide) (by rfl) (pa_cons (pe_fld (pv 0) rfl) (pa_cons (pv 1) (pa_cons (pv 2) pa_nil))))))))
theorem pure_word_by (T : Txt K mg) {vs : List V} {H : Hp} {Q : VK} {E : XK} (h : sp_word_by K vs H Q E) : t_word_by K { nx := fun _ H' => Q .non H', rt := Q } (L2.start N_word_by vs) H := by
  obtain ⟨b, a, k, pts, m, g, rfl, hb, ha, ret⟩ := h
  have hk := k.n_le
  have hfew := hb.few
  refine ⟨_, rfl, ?_⟩
  refine fld_points T hb fun p hp => ?_
  refine ⟨p, rfl, ⟨_, SqL.of hp⟩, fun D hD => ?_⟩
  refine lc_it (walk_list (xs := lE pts)) (LcP H D fun i => lE ((pts.map (W (El.T k) g)).take i)) (lcp_start hD rfl) (fun i H4 _ p4 => p4.1.seq (SqL.of hp)) ?_ ?_
  · rintro i x H4 H5 hi p4 ⟨rfl, hxi⟩
    obtain ⟨hi', rfl⟩ := lE_at hxi
    refine ⟨rfl, lcY ?_⟩
    refine ⟨_, rfl, ?_⟩
    refine fld_field T (hb.same p4.1) fun f hf => ?_
    refine ⟨_, rfl, _, rfl, f, a, k, g, pts[i], rfl, hf, p4.1 _ _ ha, fun H6 s6 => ?_⟩
    refine lcp_next hD p4 s6 ?_ (small (by rw [lE_len, List.length_take]; simp; omega))
    rw [lE_take (by simpa using hi')]
    simp
  intro H4 p4
  have h4 := p4.2
  dsimp only at h4
  rw [lE_len, List.take_of_length_le (by simp)] at h4
  exact ret _ D p4.1 hD h4
theorem len_word_by {vs : List V} {H : Hp} {Q : VK} {E : XK} (h : sp_word_by K vs H Q E) : vs.length = 2 := by
  obtain ⟨b, a, k, pts, m, f, rfl, _⟩ := h; rfl
theorem c_word_by (T : Txt K mg) : C8.Cal P w K mg base 5 "word_by" (sp_word_by K) [] :=
  cal_of (k := 4) (ps := ["book", "turner"]) T.d_word_by (fun _ _ _ _ _ _ us hl => match us, hl with | [_, _], _ => rfl) sc_word_by (fun vs H Q E h => len_word_by h) fun f cdv A outer s H vs Q E hr h => ⟨_, ps_word_by T hr, pure_word_by T h⟩
def sp_differences (K : PySem.W.Frag) : Sp := fun vs H Q _ => ∃ (f a b : Addr) (k : Kd) (x y : List (El k)), vs = [.ref f, .ref a, .ref b] ∧ FieldAt K H f k ∧ H a = some (.lst (lE x)) ∧ H b = some (.lst (lE y)) ∧ x.length = y.length ∧ x.length ≤ 400 ∧ RetL H Q (lE (List.zipWith (· - ·) x y))
abbrev N_differences : List Str := ["field", "word", "other", "near", "far"]
theorem sc_differences : FnScope N_differences ["field", "word", "other"] (defScope s_differences) := ⟨rfl, rfl, rfl, by decide +kernel, rfl, by decide +kernel, by decide +kernel⟩
def t_differences (K : PySem.W.Frag) : TS :=
  (tRet (tLc (iZip K (tCons (tVar 1) (tCons (tVar 2) tNil))) (gTup K 2 (gCons (gName 3) (gCons (gName 4) gNil))) tYes (tCall (sp_minus_of K) [] E0 (tCons (tVar 0) (tCons (tVar 3) (tCons (tVar 4) tNil)))) [3, 4]))
theorem ps_differences {f : Addr} {cdv : Value} {A : Around} {outer : List Env} {s : Shared} {H : Hp} {E : XK} (T : Txt K mg) (hr : Room 3 (A.deeper (envOfC "differences" (defScope s_differences) s.heap.objs.size f cdv))) :
    PSs (cxOf CX0 P w K mg base N_differences "differences" (defScope s_differences) f cdv A outer s H E).nox (defBody s_differences) (t_differences K) := by
  exact (pss_one (ps_ret (pe_lc (own := [("near", 3), ("far", 4)]) (g := (gTup K 2 (gCons (gName 3) (gCons (gName 4) gNil)))) (tt := tYes) (te := (tCall (sp_minus_of K) [] E0 (tCons (tVar 0) (tCons (tVar 3) (tCons (tVar 4) tNil))))) (by rfl) sc_differences.nd (pi_zip (by rfl) T.b_zip (pa_cons (pv 1) (pa_cons (pv 2) pa_nil))) (blkOk_by (own := [("near", 3), ("far", 4)]) (N := N_differences) (sc := defScope s_differences) (by decide +kernel)) (fun _ _ _ _ _ => (pg_tup (by rfl) (pgs_cons (pg_name (i := 3) sc_differences.nd rfl (Or.inl rfl)) (pgs_cons (pg_name (i := 4) sc_differences.nd rfl (Or.inl rfl)) pgs_nil)))) (fun _ _ _ _ _ => pts_nil) (fun _ _ _ _ _ => (C8.pe_c (c_minus_of T) hr (by decide) (by rfl) (pa_cons (pv 0) (pa_cons (pv 3) (pa_cons (pv 4) pa_nil))))))))
theorem pure_differences (T : Txt K mg) {vs : List V} {H : Hp} {Q : VK} {E : XK} (h : sp_differences K vs H Q E) : t_differences K { nx := fun _ H' => Q .non H', rt := Q } (L2.start N_differences vs) H := by
  obtain ⟨f, a, b, k, x, y, rfl, hf, ha, hb, hxy, hl, ret⟩ := h
  refine ⟨_, rfl, _, rfl, a, b, _, _, rfl, SqL.of ha, SqL.of hb, fun D hD => ?_⟩
  refine lc_it (walk_zip (xs := lE x) (ys := lE y) (n := x.length) (by rw [lE_len, lE_len, ← hxy, Nat.min_self])) (LcP H D fun i => lE ((List.zipWith (· - ·) x y).take i)) (lcp_start hD rfl) (fun i H' _ h => ⟨h.1.seq (SqL.of ha), h.1.seq (SqL.of hb)⟩) ?_ ?_
  · intro i v H' H'' hi hp yy
    obtain ⟨t, h1, h2, rfl, ht, rfl⟩ := zipE_of yy
    refine pair_tgt upd_same ⟨rfl, lcY ?_⟩
    refine ⟨_, rfl, _, rfl, _, rfl, f, k, x[i], y[i], rfl, (hf.same hp.1).same (sm_upd ht), fun H3 s3 => ?_⟩
    refine lcp_next hD hp ((sm_upd ht).trans s3) ?_ (small (by rw [lE_len, List.length_take]; simp; omega))
    rw [lE_take (by simp; omega)]
    simp
  intro H4 p4
  have h4 := p4.2
  dsimp only at h4
  rw [List.take_of_length_le (by simp; omega)] at h4
  exact ret _ D p4.1 hD h4
theorem len_differences {vs : List V} {H : Hp} {Q : VK} {E : XK} (h : sp_differences K vs H Q E) : vs.length = 3 := by
  obtain ⟨f, a, b, k, x, y, rfl, _⟩ := h; rfl
theorem c_differences (T : Txt K mg) : C8.Cal P w K mg base 4 "differences" (sp_differences K) [] :=
  cal_of (k := 3) (ps := ["field", "word", "other"]) T.d_differences (fun _ _ _ _ _ _ us hl => match us, hl with | [_, _, _], _ => rfl) sc_differences (fun vs H Q E h => len_differences h) fun f cdv A outer s H vs Q E hr h => ⟨_, ps_differences T hr, pure_differences T h⟩
end
end Tp
namespace Gab
open Lean.Grind
section
variable {F : Type} [CommRing F] [DecidableEq F]
/-- the row of a point -/
def prow (T : Trn F) (m t : Nat) (a r : F) : List F := (List.range (t + 1)).map (fun j => pw T j r) ++ (List.range (m + t)).map (fun j => 0 - pw T j a)
theorem prow_len (T : Trn F) (m t : Nat) (a r : F) : (prow T m t a r).length = m + 2 * t + 1 := by simp [prow]; omega
theorem prow_co1 (T : Trn F) {m t p : Nat} {a r : F} (h : p < t + 1) : co (prow T m t a r) p = pw T p r := by
  have hl := prow_len T m t a r
  rw [co_lt (by omega)]
  unfold prow
  rw [List.getElem_append_left (by simpa using h)]
  simp
theorem prow_co2 (T : Trn F) {m t p : Nat} {a r : F} (h : p < m + t) : co (prow T m t a r) (t + 1 + p) = 0 - pw T p a := by
  have hl := prow_len T m t a r
  rw [co_lt (by omega)]
  unfold prow
  rw [List.getElem_append_right (by simp)]
  simp
theorem co_take {x : List F} {n p : Nat} (h : p < n) : co (x.take n) p = co x p := by
  unfold co
  rw [List.getD_eq_getElem?_getD, List.getD_eq_getElem?_getD, List.getElem?_take_of_lt h]
theorem co_drop {x : List F} {n p : Nat} : co (x.drop n) p = co x (n + p) := by
  unfold co
  rw [List.getD_eq_getElem?_getD, List.getD_eq_getElem?_getD, List.getElem?_drop]
theorem pair_ok {T : Trn F} {pts word : List F} {m t : Nat} {x : List F} (hl : x.length = m + 2 * t + 1) (hne : ∃ i, co x i ≠ 0)
    (hk : ∀ (i : Nat) (h1 : i < word.length) (h2 : i < pts.length), i < m + 2 * t → kil (m + 2 * t + 1) (prow T m t pts[i] word[i]) x) : Pair T pts word m t (tld (x.take (t + 1))) (tld (x.drop (t + 1))) where
  lV := Nat.le_trans (tld_len _) (by simp; omega)
  lN := Nat.le_trans (tld_len _) (by simp; omega)
  tV := tld_told _
  tN := tld_told _
  anyN := by
    obtain ⟨i, hi⟩ := hne
    by_cases h : i < t + 1
    · refine .inl fun e => hi ?_
      rw [← co_take h]
      exact (tld_nil_iff.mp e).co i
    · refine .inr fun e => hi ?_
      have := (tld_nil_iff.mp e).co (i - (t + 1))
      rw [co_drop] at this
      rw [← this]
      congr 1
      omega
  goes := fun i h1 h2 hi => by
    have k := hk i h1 h2 hi
    unfold kil at k
    have e : m + 2 * t + 1 = (t + 1) + (m + t) := by omega
    rw [e, sm_split] at k
    have e1 : sm (t + 1) (fun p => co (prow T m t pts[i] word[i]) p * co x p) = W T (x.take (t + 1)) word[i] := by
      rw [W_sm]
      have : (x.take (t + 1)).length = t + 1 := by simp; omega
      rw [this]
      refine sm_congr fun p hp => ?_
      rw [prow_co1 T hp, co_take hp]
      grind
    have e2 : sm (m + t) (fun p => co (prow T m t pts[i] word[i]) (t + 1 + p) * co x (t + 1 + p)) = 0 + (-1) * W T (x.drop (t + 1)) pts[i] := by
      rw [W_sm]
      have : (x.drop (t + 1)).length = m + t := by simp; omega
      rw [this]
      have z : sm (m + t) (fun _ => (0 : F)) = 0 := sm_zero fun _ _ => rfl
      rw [← z]
      refine sm_lin fun p hp => ?_
      rw [prow_co2 T hp, co_drop]
      grind
    rw [e1, e2] at k
    rw [tld_W, tld_W]
    grind
theorem IsRank.iff {T : Trn F} {es : List F} {n t : Nat} (h : IsRank T es n) : RankLe T t es ↔ n ≤ t :=
  ⟨fun k => h.2 t k, fun k => by
    obtain ⟨vs, a, b⟩ := h.1
    exact ⟨vs, Nat.le_trans a k, b⟩⟩
theorem dif_eq (T : Trn F) (pts word f : List F) : dif T pts word f = List.zipWith (· - ·) word (pts.map (W T f)) := by
  unfold dif
  rw [List.zipWith_map_right]
end
end Gab
namespace Tp
open PySem PySem.Spec PyProof.Rows L2 Gab
theorem cutL_to {k : Kd} {xs : List (El k)} {m : Nat} (h : m ≤ xs.length) : cutV (lE xs) none (some (m : Int)) = lE (xs.take m) := by
  unfold cutV
  rw [HT.sIx_none, HT.sIx_nat, List.drop_zero, lE_len, Nat.min_eq_left h, Nat.sub_zero]
  simp [lE, List.map_take]
section
variable {P : Program} {w : World} {K : PySem.W.Frag} {mg : Str → Option Value} {base : Heap}
/-- the reach -/
abbrev rch {k : Kd} (pts : List (El k)) (m : Nat) : Nat := (pts.length - m) / 2
def sp_reach_of (K : PySem.W.Frag) : Sp := fun vs H Q _ => ∃ (b : Addr) (k : Kd) (pts : List (El k)) (m : Nat), vs = [.ref b] ∧ BookAt K H b k pts m ∧ RetV H Q (.int (rch pts m : Nat))
abbrev N_reach_of : List Str := ["book"]
theorem sc_reach_of : FnScope N_reach_of ["book"] (defScope s_reach_of) := ⟨rfl, rfl, rfl, by decide +kernel, rfl, by decide +kernel, by decide +kernel⟩
def t_reach_of (K : PySem.W.Frag) : TS :=
  (tRet (tOp oDiv (tOp oSub (tCB (cLen K) (tCons (tFld K (tVar 0) "own_points") tNil)) (tFld K (tVar 0) "own_many")) (tC (.int 2))))
theorem ps_reach_of {f : Addr} {cdv : Value} {A : Around} {outer : List Env} {s : Shared} {H : Hp} {E : XK} (T : Txt K mg) (hr : Room 1 (A.deeper (envOfC "reach_of" (defScope s_reach_of) s.heap.objs.size f cdv))) :
    PSs (cxOf CX0 P w K mg base N_reach_of "reach_of" (defScope s_reach_of) f cdv A outer s H E).nox (defBody s_reach_of) (t_reach_of K) := by
  exact (pss_one (ps_ret (pe_op op_fdiv (pe_op op_sub (pe_callB call_len_seq (by rfl) T.b_len PySem.boot_len (pa_cons (pe_fld (pv 0) rfl) pa_nil)) (pe_fld (pv 0) rfl)) pe_int)))
theorem pure_reach_of (T : Txt K mg) {vs : List V} {H : Hp} {Q : VK} {E : XK} (h : sp_reach_of K vs H Q E) : t_reach_of K { nx := fun _ H' => Q .non H', rt := Q } (L2.start N_reach_of vs) H := by
  obtain ⟨b, k, pts, m, rfl, hb, ret⟩ := h
  have hm := hb.le
  refine ⟨_, rfl, ?_⟩
  refine fld_points T hb fun p hp => ?_
  refine ⟨p, _, rfl, .inl (SqL.of hp), ?_⟩
  refine ⟨_, rfl, ?_⟩
  refine fld_many T hb ?_
  refine ⟨_, _, rfl, rfl, _, _, rfl, rfl, ⟨by omega, by omega⟩, ?_⟩
  rw [lE_len]
  have e : ((pts.length : Int) - (m : Int)) / 2 = ((rch pts m : Nat) : Int) := by unfold rch; omega
  have r := ret H (Same.refl H)
  rw [← e] at r
  exact r
theorem len_reach_of {vs : List V} {H : Hp} {Q : VK} {E : XK} (h : sp_reach_of K vs H Q E) : vs.length = 1 := by
  obtain ⟨b, k, pts, m, rfl, _⟩ := h; rfl
theorem c_reach_of (T : Txt K mg) : C8.Cal P w K mg base 2 "reach_of" (sp_reach_of K) [] :=
  cal_of (k := 1) (ps := ["book"]) T.d_reach_of (fun _ _ _ _ _ _ us hl => match us, hl with | [_], _ => rfl) sc_reach_of (fun vs H Q E h => len_reach_of h) fun f cdv A outer s H vs Q E hr h => ⟨_, ps_reach_of T hr, pure_reach_of T h⟩
def sp_many_rows (K : PySem.W.Frag) : Sp := fun vs H Q _ => ∃ (b : Addr) (k : Kd) (pts : List (El k)) (m : Nat), vs = [.ref b] ∧ BookAt K H b k pts m ∧ RetV H Q (.int ((m + 2 * rch pts m : Nat) : Int))
abbrev N_many_rows : List Str := ["book"]
theorem sc_many_rows : FnScope N_many_rows ["book"] (defScope s_many_rows) := ⟨rfl, rfl, rfl, by decide +kernel, rfl, by decide +kernel, by decide +kernel⟩
def t_many_rows (K : PySem.W.Frag) : TS :=
  (tRet (tOp oAdd (tFld K (tVar 0) "own_many") (tOp oMul (tC (.int 2)) (tCall (sp_reach_of K) [] E0 (tCons (tVar 0) tNil)))))
theorem ps_many_rows {f : Addr} {cdv : Value} {A : Around} {outer : List Env} {s : Shared} {H : Hp} {E : XK} (T : Txt K mg) (hr : Room 2 (A.deeper (envOfC "many_rows" (defScope s_many_rows) s.heap.objs.size f cdv))) :
    PSs (cxOf CX0 P w K mg base N_many_rows "many_rows" (defScope s_many_rows) f cdv A outer s H E).nox (defBody s_many_rows) (t_many_rows K) := by
  exact (pss_one (ps_ret (pe_op op_add (pe_fld (pv 0) rfl) (pe_op op_mul pe_int (C8.pe_c (c_reach_of T) hr (by decide) (by rfl) (pa_cons (pv 0) pa_nil))))))
theorem pure_many_rows (T : Txt K mg) {vs : List V} {H : Hp} {Q : VK} {E : XK} (h : sp_many_rows K vs H Q E) : t_many_rows K { nx := fun _ H' => Q .non H', rt := Q } (L2.start N_many_rows vs) H := by
  obtain ⟨b, k, pts, m, rfl, hb, ret⟩ := h
  refine ⟨_, rfl, ?_⟩
  refine fld_many T hb ?_
  refine ⟨_, rfl, b, k, pts, m, rfl, hb, fun H1 s1 => ?_⟩
  refine ⟨_, _, rfl, rfl, .inr ⟨by omega, by have := hb.few; have := k.n_le; unfold rch; omega⟩, _, _, rfl, rfl, ?_⟩
  have r := ret H1 s1
  have e : ((m + 2 * rch pts m : Nat) : Int) = (m : Int) + 2 * ((rch pts m : Nat) : Int) := by omega
  rw [e] at r
  exact r
theorem len_many_rows {vs : List V} {H : Hp} {Q : VK} {E : XK} (h : sp_many_rows K vs H Q E) : vs.length = 1 := by
  obtain ⟨b, k, pts, m, rfl, _⟩ := h; rfl
theorem c_many_rows (T : Txt K mg) : C8.Cal P w K mg base 3 "many_rows" (sp_many_rows K) [] :=
  cal_of (k := 2) (ps := ["book"]) T.d_many_rows (fun _ _ _ _ _ _ us hl => match us, hl with | [_], _ => rfl) sc_many_rows (fun vs H Q E h => len_many_rows h) fun f cdv A outer s H vs Q E hr h => ⟨_, ps_many_rows T hr, pure_many_rows T h⟩
def sp_pair_row (K : PySem.W.Frag) : Sp := fun vs H Q _ => ∃ (b : Addr) (k : Kd) (pts : List (El k)) (m : Nat) (a r : El k), vs = [.ref b, vE a, vE r] ∧ BookAt K H b k pts m ∧ RetL H Q (lE (prow (El.T k) m (rch pts m) a r))
abbrev N_pair_row : List Str := ["book", "point", "one", "field", "reach", "near", "far", "turns"]
theorem sc_pair_row : FnScope N_pair_row ["book", "point", "one"] (defScope s_pair_row) := ⟨rfl, rfl, rfl, by decide +kernel, rfl, by decide +kernel, by decide +kernel⟩
def t_pair_row (K : PySem.W.Frag) : TS :=
  (tSeq (tAsg (tTup (tCons (tFld K (tVar 0) "own_field") (tCons (tCall (sp_reach_of K) [] E0 (tCons (tVar 0) tNil)) tNil))) (gTup K 2 (gCons (gName 3) (gCons (gName 4) gNil))))
  (tSeq (tAsg (tLc (iRng1 (tCons (tOp oAdd (tVar 4) (tC (.int 1))) tNil)) (gName 7) tYes (tCall (sp_turned_of K) [] E0 (tCons (tVar 3) (tCons (tVar 2) (tCons (tVar 7) tNil)))) [7]) (gName 5))
  (tSeq (tAsg (tLc (iRng1 (tCons (tOp oAdd (tFld K (tVar 0) "own_many") (tVar 4)) tNil)) (gName 7) tYes (tCall (sp_minus_of K) [] E0 (tCons (tVar 3) (tCons (tC (.int 0)) (tCons (tCall (sp_turned_of K) [] E0 (tCons (tVar 3) (tCons (tVar 1) (tCons (tVar 7) tNil)))) tNil)))) [7]) (gName 6))
  (tRet (tOp rCat (tVar 5) (tVar 6))))))
theorem ps_pair_row {f : Addr} {cdv : Value} {A : Around} {outer : List Env} {s : Shared} {H : Hp} {E : XK} (T : Txt K mg) (hr : Room 3 (A.deeper (envOfC "pair_row" (defScope s_pair_row) s.heap.objs.size f cdv))) :
    PSs (cxOf CX0 P w K mg base N_pair_row "pair_row" (defScope s_pair_row) f cdv A outer s H E).nox (defBody s_pair_row) (t_pair_row K) := by
  exact (pss_cons (ps_asg (pe_tup (pa_cons (pe_fld (pv 0) rfl) (pa_cons (C8.pe_c (c_reach_of T) hr (by decide) (by rfl) (pa_cons (pv 0) pa_nil)) pa_nil))) (pg_tup (by rfl) (pgs_cons (pg_name (i := 3) sc_pair_row.nd rfl (Or.inr rfl)) (pgs_cons (pg_name (i := 4) sc_pair_row.nd rfl (Or.inl rfl)) pgs_nil))))
  (pss_cons (ps_setLc (i := 5) (own := [("turns", 7)]) (g := (gName 7)) (tt := tYes) (te := (tCall (sp_turned_of K) [] E0 (tCons (tVar 3) (tCons (tVar 2) (tCons (tVar 7) tNil))))) (by rfl) sc_pair_row.nd rfl rfl (sw_true rfl rfl rfl (by decide +kernel)) (pi_range1 (by rfl) T.b_range (pa_cons (pe_op op_add (pv 4) pe_int) pa_nil)) (blkOk_by (own := [("turns", 7)]) (N := N_pair_row) (sc := defScope s_pair_row) (by decide +kernel)) (fun _ _ _ _ _ => (pg_name (i := 7) sc_pair_row.nd rfl (Or.inl rfl))) (fun _ _ _ _ _ => pts_nil) (fun _ _ _ _ _ => (C8.pe_c (c_turned_of T) hr (by decide) (by rfl) (pa_cons (pv 3) (pa_cons (pv 2) (pa_cons (pv 7) pa_nil))))))
  (pss_cons (ps_setLc (i := 6) (own := [("turns", 7)]) (g := (gName 7)) (tt := tYes) (te := (tCall (sp_minus_of K) [] E0 (tCons (tVar 3) (tCons (tC (.int 0)) (tCons (tCall (sp_turned_of K) [] E0 (tCons (tVar 3) (tCons (tVar 1) (tCons (tVar 7) tNil)))) tNil))))) (by rfl) sc_pair_row.nd rfl rfl (sw_true rfl rfl rfl (by decide +kernel)) (pi_range1 (by rfl) T.b_range (pa_cons (pe_op op_add (pe_fld (pv 0) rfl) (pv 4)) pa_nil)) (blkOk_by (own := [("turns", 7)]) (N := N_pair_row) (sc := defScope s_pair_row) (by decide +kernel)) (fun _ _ _ _ _ => (pg_name (i := 7) sc_pair_row.nd rfl (Or.inl rfl))) (fun _ _ _ _ _ => pts_nil) (fun _ _ _ _ _ => (C8.pe_c (c_minus_of T) hr (by decide) (by rfl) (pa_cons (pv 3) (pa_cons pe_int (pa_cons (C8.pe_c (c_turned_of T) hr (by decide) (by rfl) (pa_cons (pv 3) (pa_cons (pv 1) (pa_cons (pv 7) pa_nil)))) pa_nil))))))
  (pss_one (ps_ret (pe_op op_cat (pv 5) (pv 6)))))))
theorem pure_pair_row (T : Txt K mg) {vs : List V} {H : Hp} {Q : VK} {E : XK} (h : sp_pair_row K vs H Q E) : t_pair_row K { nx := fun _ H' => Q .non H', rt := Q } (L2.start N_pair_row vs) H := by
  obtain ⟨b, k, pts, m, a, r, rfl, hb, ret⟩ := h
  have hm := hb.le
  have hfew := hb.few
  have hk := k.n_le
  have hrt : rch pts m ≤ 5 := by unfold rch; omega
  refine ⟨_, rfl, ?_⟩
  refine fld_field T hb fun f hf => ?_
  refine ⟨_, rfl, b, k, pts, m, rfl, hb, fun H1 s1 => ⟨by show 2 ≤ sizeLine; decide, fun t hz => ?_⟩⟩
  generalize hgt : rch pts m = tt at *
  refine pair_tgt upd_same ?_
  have s2 := sm_upd' s1 hz (o := .tup [.ref f, .int ((tt : Nat) : Int)])
  have hb2 := hb.same s2
  have hf2 := hf.same s2
  generalize hH2 : upd H1 t (.tup [.ref f, .int ((tt : Nat) : Int)]) = H2 at s2 hb2 hf2
  refine ⟨_, rfl, _, _, rfl, rfl, _, rfl, by omega, by omega, fun D hD => ?_⟩
  have en : ((tt : Int) + 1).toNat = tt + 1 := by omega
  rw [en]
  refine lc_range (lo := 0) (n := tt + 1) (LcP H2 D fun i => lE ((List.range i).map fun j => Gab.pw (El.T k) j r)) (lcp_start hD rfl) ?_ ?_
  · intro i H3 hi p
    refine ⟨rfl, lcY ?_⟩
    have e0 : (0 : Int) + (i : Int) = (i : Int) := Int.zero_add _
    rw [e0]
    refine ⟨_, rfl, _, rfl, _, rfl, f, k, r, (i : Int), rfl, hf2.same p.1, fun H4 s4 => ?_⟩
    refine lcp_next hD p s4 ?_ (small (by rw [lE_len]; simp; omega))
    rw [tnd_nat, List.range_succ, List.map_append]
    simp [lE]
  intro H3 p3
  have h3 := p3.2
  dsimp only at h3
  refine ⟨_, rfl, ?_⟩
  refine fld_many T (hb2.same p3.1) ?_
  refine ⟨_, rfl, _, _, rfl, rfl, _, rfl, by omega, by omega, fun D2 hD2 => ?_⟩
  have en2 : ((m : Int) + (tt : Int)).toNat = m + tt := by omega
  rw [en2]
  refine lc_range (lo := 0) (n := m + tt) (LcP H3 D2 fun i => lE ((List.range i).map fun j => 0 - Gab.pw (El.T k) j a)) (lcp_start hD2 rfl) ?_ ?_
  · intro i H4 hi p
    refine ⟨rfl, lcY ?_⟩
    have e0 : (0 : Int) + (i : Int) = (i : Int) := Int.zero_add _
    rw [e0]
    refine ⟨_, rfl, _, rfl, _, rfl, _, rfl, f, k, a, (i : Int), rfl, (hf2.same p3.1).same p.1, fun H5 s5 => ?_⟩
    refine ⟨f, k, 0, _, rfl, ((hf2.same p3.1).same p.1).same s5, fun H6 s6 => ?_⟩
    refine lcp_next hD2 p (s5.trans s6) ?_ (small (by rw [lE_len]; simp; omega))
    rw [tnd_nat, List.range_succ, List.map_append]
    simp [lE]
  intro H4 p4
  have h4 := p4.2
  dsimp only at h4
  refine ⟨_, rfl, _, rfl, D, D2, _, _, rfl, rfl, p4.1 _ _ h3, h4, small' (by rw [lE_len, lE_len]; simp; omega), fun q hq => ?_⟩
  have sA := s2.trans (p3.1.trans p4.1)
  refine ret _ q (sm_upd' sA hq) ?_ ?_
  · cases e : H q with
    | none => rfl
    | some o => rw [sA _ _ e] at hq; cases hq
  · rw [upd_same]; unfold prow; simp [lE]
theorem len_pair_row {vs : List V} {H : Hp} {Q : VK} {E : XK} (h : sp_pair_row K vs H Q E) : vs.length = 3 := by
  obtain ⟨b, k, pts, m, a, r, rfl, _⟩ := h; rfl
theorem c_pair_row (T : Txt K mg) : C8.Cal P w K mg base 4 "pair_row" (sp_pair_row K) [] :=
  cal_of (k := 3) (ps := ["book", "point", "one"]) T.d_pair_row (fun _ _ _ _ _ _ us hl => match us, hl with | [_, _, _], _ => rfl) sc_pair_row (fun vs H Q E h => len_pair_row h) fun f cdv A outer s H vs Q E hr h => ⟨_, ps_pair_row T hr, pure_pair_row T h⟩
def sp_pair_of (K : PySem.W.Frag) : Sp := fun vs H Q _ => ∃ (b a : Addr) (k : Kd) (pts : List (El k)) (m : Nat) (wd : List (El k)), vs = [.ref b, .ref a] ∧ BookAt K H b k pts m ∧ H a = some (.lst (lE wd)) ∧ wd.length = pts.length ∧
  ∀ H' p v n (V N : List (El k)), Same H H' → H' p = some (.tup [.ref v, .ref n]) → H' v = some (.lst (lE V)) → H' n = some (.lst (lE N)) → Pair (El.T k) pts wd m (rch pts m) V N → Q (.ref p) H'
abbrev N_pair_of : List Str := ["book", "word", "many", "reach", "rows", "found", "point", "one"]
theorem sc_pair_of : FnScope N_pair_of ["book", "word"] (defScope s_pair_of) := ⟨rfl, rfl, rfl, by decide +kernel, rfl, by decide +kernel, by decide +kernel⟩
def t_pair_of (K : PySem.W.Frag) : TS :=
  (tSeq (tPar 2 3 (tCons (tCall (sp_many_rows K) [] E0 (tCons (tVar 0) tNil)) (tCons (tCall (sp_reach_of K) [] E0 (tCons (tVar 0) tNil)) tNil)))
  (tSeq (tAsg (tLc (iZip K (tCons (tSl (rSlL K) (tFld K (tVar 0) "own_points") tNoPart (tPart (tVar 2))) (tCons (tVar 1) tNil))) (gTup K 2 (gCons (gName 6) (gCons (gName 7) gNil))) tYes (tCall (sp_pair_row K) [] E0 (tCons (tVar 0) (tCons (tVar 6) (tCons (tVar 7) tNil)))) [6, 7]) (gName 4))
  (tSeq (tAsg (tCall (sp_lone_solution K) [] E0 (tCons (tFld K (tVar 0) "own_field") (tCons (tVar 4) (tCons (tOp oAdd (tVar 2) (tC (.int 1))) tNil)))) (gName 5))
  (tRet (tTup (tCons (tCall (sp_told_of K) [] E0 (tCons (tSl (rSlL K) (tVar 5) tNoPart (tPart (tOp oAdd (tVar 3) (tC (.int 1))))) tNil)) (tCons (tCall (sp_told_of K) [] E0 (tCons (tSl (rSlL K) (tVar 5) (tPart (tOp oAdd (tVar 3) (tC (.int 1)))) tNoPart) tNil)) tNil)))))))
theorem ps_pair_of {f : Addr} {cdv : Value} {A : Around} {outer : List Env} {s : Shared} {H : Hp} {E : XK} (T : Txt K mg) (hr : Room 5 (A.deeper (envOfC "pair_of" (defScope s_pair_of) s.heap.objs.size f cdv))) :
    PSs (cxOf CX0 P w K mg base N_pair_of "pair_of" (defScope s_pair_of) f cdv A outer s H E).nox (defBody s_pair_of) (t_pair_of K) := by
  exact (pss_cons (ps_par (i := 2) (j := 3) (by rfl) sc_pair_of.nd rfl rfl (by decide) rfl rfl (pa_cons (C8.pe_c (c_many_rows T) hr (by decide) (by rfl) (pa_cons (pv 0) pa_nil)) (pa_cons (C8.pe_c (c_reach_of T) hr (by decide) (by rfl) (pa_cons (pv 0) pa_nil)) pa_nil)) (by rfl))
  (pss_cons (ps_setLc (i := 4) (own := [("point", 6), ("one", 7)]) (g := (gTup K 2 (gCons (gName 6) (gCons (gName 7) gNil)))) (tt := tYes) (te := (tCall (sp_pair_row K) [] E0 (tCons (tVar 0) (tCons (tVar 6) (tCons (tVar 7) tNil))))) (by rfl) sc_pair_of.nd rfl rfl (sw_true rfl rfl rfl (by decide +kernel)) (pi_zip (by rfl) T.b_zip (pa_cons (pe_slice sl_list (pe_fld (pv 0) rfl) po_none (po_some (pv 2))) (pa_cons (pv 1) pa_nil))) (blkOk_by (own := [("point", 6), ("one", 7)]) (N := N_pair_of) (sc := defScope s_pair_of) (by decide +kernel)) (fun _ _ _ _ _ => (pg_tup (by rfl) (pgs_cons (pg_name (i := 6) sc_pair_of.nd rfl (Or.inl rfl)) (pgs_cons (pg_name (i := 7) sc_pair_of.nd rfl (Or.inl rfl)) pgs_nil)))) (fun _ _ _ _ _ => pts_nil) (fun _ _ _ _ _ => (C8.pe_c (c_pair_row T) hr (by decide) (by rfl) (pa_cons (pv 0) (pa_cons (pv 6) (pa_cons (pv 7) pa_nil))))))
  (pss_cons (ps_set (i := 5) sc_pair_of.nd rfl (Or.inl rfl) (C8.pe_c (c_lone_solution T) hr (by decide) (by rfl) (pa_cons (pe_fld (pv 0) rfl) (pa_cons (pv 4) (pa_cons (pe_op op_add (pv 2) pe_int) pa_nil)))))
  (pss_one (ps_ret (pe_tup (pa_cons (C8.pe_c (c_told_of T) hr (by decide) (by rfl) (pa_cons (pe_slice sl_list (pv 5) po_none (po_some (pe_op op_add (pv 3) pe_int))) pa_nil)) (pa_cons (C8.pe_c (c_told_of T) hr (by decide) (by rfl) (pa_cons (pe_slice sl_list (pv 5) (po_some (pe_op op_add (pv 3) pe_int)) po_none) pa_nil)) pa_nil))))))))
theorem pure_pair_of (T : Txt K mg) {vs : List V} {H : Hp} {Q : VK} {E : XK} (h : sp_pair_of K vs H Q E) : t_pair_of K { nx := fun _ H' => Q .non H', rt := Q } (L2.start N_pair_of vs) H := by
  obtain ⟨b, a, k, pts, m, wd, rfl, hb, ha, hw, ret⟩ := h
  have hm := hb.le
  have h1 := hb.one
  have hfew := hb.few
  have hk := k.n_le
  have ht : m + 2 * rch pts m ≤ pts.length := by unfold rch; omega
  refine ⟨_, rfl, b, k, pts, m, rfl, hb, fun H1 s1 => ?_⟩
  refine ⟨_, rfl, b, k, pts, m, rfl, hb.same s1, fun H2 s2 => ⟨_, _, rfl, ?_⟩⟩
  generalize hgt : rch pts m = tt at *
  have s12 := s1.trans s2
  have hb2 := hb.same s12
  have ha2 := s12 _ _ ha
  refine ⟨_, rfl, ?_⟩
  refine fld_points T hb2 fun p hp => ?_
  refine ⟨_, rfl, _, rfl, p, _, rfl, SqL.of hp, fun c hc => ?_⟩
  rw [cutL_to (by omega)]
  have s3 := sm_upd (o := .lst (lE (pts.take (m + 2 * tt)))) hc
  generalize hH3 : upd H2 c (.lst (lE (pts.take (m + 2 * tt)))) = H3 at s3
  have hc3 : H3 c = some (.lst (lE (pts.take (m + 2 * tt)))) := by rw [← hH3]; exact upd_same
  have ha3 := s3 _ _ ha2
  have hb3 := hb2.same s3
  refine ⟨_, rfl, c, a, _, _, rfl, SqL.of hc3, SqL.of ha3, fun D hD => ?_⟩
  have hn : (pts.take (m + 2 * tt)).length = m + 2 * tt := by simp; omega
  refine lc_it (walk_zip (xs := lE (pts.take (m + 2 * tt))) (ys := lE wd) (n := m + 2 * tt) (by rw [lE_len, lE_len, hn]; omega)) (LcC H3 D fun i => ((List.zipWith (prow (El.T k) m tt) (pts.take (m + 2 * tt)) wd).take i).map lE) (lcc_start hD rfl) (fun i H4 _ p => ⟨p.1.seq (SqL.of hc3), p.1.seq (SqL.of ha3)⟩) ?_ ?_
  · intro i v H4 H5 hi p4 yy
    obtain ⟨t, g1, g2, rfl, hnt, rfl⟩ := zipE_of yy
    refine pair_tgt upd_same ⟨rfl, lcY ?_⟩
    refine ⟨_, rfl, _, rfl, _, rfl, b, k, pts, m, _, _, rfl, (hb3.same p4.1).same (sm_upd hnt), fun H6 y s6 n6 e6 => ?_⟩
    rw [hgt] at e6
    have s46 := (sm_upd (o := .tup [vE (pts.take (m + 2 * tt))[i], vE wd[i]]) hnt).trans s6
    have n4 : H4 y = none := by
      cases e : H4 y with
      | none => rfl
      | some o => rw [sm_upd hnt _ _ e] at n6; cases n6
    refine lcc_next hD p4 s46 (c := lE (prow (El.T k) m tt (pts.take (m + 2 * tt))[i] wd[i])) ?_ e6 (ne_of_made (c := []) p4 n4) ?_
    · have : (List.zipWith (prow (El.T k) m tt) (pts.take (m + 2 * tt)) wd)[i]? = some (prow (El.T k) m tt (pts.take (m + 2 * tt))[i] wd[i]) := by
        rw [List.getElem?_zipWith, List.getElem?_eq_getElem g1, List.getElem?_eq_getElem g2]
      rw [take_succ' this, List.map_append]; rfl
    · simp; omega
  rintro H4 ⟨s4, rs, hD4, hrs, hDrs⟩
  dsimp only at hrs
  rw [List.take_of_length_le (by simp; omega)] at hrs
  refine ⟨_, rfl, ?_⟩
  refine fld_field T (hb3.same s4) fun f hf => ?_
  refine ⟨_, rfl, _, rfl, _, _, rfl, rfl, f, D, rs, k, _, m + 2 * tt + 1, rfl, hf, hD4, hrs, ?_, by simp; omega, by omega, fun H5 q x s5 n5 e5 lx nx kx => ?_⟩
  · intro y hy
    obtain ⟨i, hi, rfl⟩ := List.mem_iff_getElem.mp hy
    rw [List.getElem_zipWith, prow_len]
  have hP : Pair (El.T k) pts wd m tt (tld (x.take (tt + 1))) (tld (x.drop (tt + 1))) := by
    refine pair_ok lx nx fun i g1 g2 gi => kx _ ?_
    refine List.mem_iff_getElem.mpr ⟨i, by simp; omega, ?_⟩
    rw [List.getElem_zipWith, List.getElem_take]
  refine ⟨_, rfl, _, rfl, _, _, rfl, rfl, _, rfl, q, _, rfl, SqL.of e5, fun c1 hc1 => ?_⟩
  have ec : ((tt : Int) + 1) = ((tt + 1 : Nat) : Int) := by omega
  rw [ec, cutL_to (by omega)]
  have s6 := sm_upd (o := .lst (lE (x.take (tt + 1)))) hc1
  refine ⟨c1, elI (x.take (tt + 1)), rfl, by rw [upd_same, lE_ints], by simp [elI]; omega, fun H7 v s7 n7 e7 => ?_⟩
  rw [trim_ints] at e7
  have s57 := s6.trans s7
  refine ⟨_, rfl, _, rfl, _, _, rfl, rfl, _, rfl, q, _, rfl, SqL.of (s57 _ _ e5), fun c2 hc2 => ?_⟩
  rw [ec, cut_from (by omega)]
  have s8 := sm_upd (o := .lst (lE (x.drop (tt + 1)))) hc2
  refine ⟨c2, elI (x.drop (tt + 1)), rfl, by rw [upd_same, lE_ints], by simp [elI]; omega, fun H9 n s9 n9 e9 => ?_⟩
  rw [trim_ints] at e9
  refine ⟨by show 2 ≤ sizeLine; decide, fun z hz => ?_⟩
  have sz := sm_upd (o := .tup [.ref v, .ref n]) hz
  refine ret _ z v n _ _ ?_ upd_same (sz _ _ (s9 _ _ (s8 _ _ e7))) (sz _ _ e9) hP
  exact (s12.trans (s3.trans (s4.trans (s5.trans s57)))).trans (s8.trans (s9.trans sz))
theorem len_pair_of {vs : List V} {H : Hp} {Q : VK} {E : XK} (h : sp_pair_of K vs H Q E) : vs.length = 2 := by
  obtain ⟨b, a, k, pts, m, wd, rfl, _⟩ := h; rfl
theorem c_pair_of (T : Txt K mg) : C8.Cal P w K mg base 6 "pair_of" (sp_pair_of K) [] :=
  cal_of (k := 5) (ps := ["book", "word"]) T.d_pair_of (fun _ _ _ _ _ _ us hl => match us, hl with | [_, _], _ => rfl) sc_pair_of (fun vs H Q E h => len_pair_of h) fun f cdv A outer s H vs Q E hr h => ⟨_, ps_pair_of T hr, pure_pair_of T h⟩
end
end Tp
namespace Tp
open PySem PySem.Spec PyProof.Rows L2 Gab
theorem eqv_elI_nil {k : Kd} (xs : List (El k)) : PyData.eqv (dI (elI xs)) (.list []) = decide (xs = []) := by
  cases xs with
  | nil => rfl
  | cons x xs => rfl
/-- a list or None -/
def OptAt {k : Kd} (H : Hp) : Option (List (El k)) → V → Prop
  | none, v => v = .non
  | some f, v => ∃ p, v = .ref p ∧ H p = some (.lst (lE f))
theorem OptAt.same {k : Kd} {H H' : Hp} {o : Option (List (El k))} {v : V} (h : OptAt H o v) (s : Same H H') : OptAt H' o v := by
  cases o with
  | none => exact h
  | some f =>
    obtain ⟨p, e, q⟩ := h
    exact ⟨p, e, s _ _ q⟩
/-- the mended word is handed back -/
def MRet (H : Hp) (Q : VK) {k : Kd} (pts wd : List (El k)) (m : Nat) : Prop := ∀ H' (o : Option (List (El k))) v, Same H H' → Mend (El.T k) pts wd m (rch pts m) o → OptAt H' o v → (∀ p, v = .ref p → H p = none) → Q v H'
section
variable {P : Program} {w : World} {K : PySem.W.Frag} {mg : Str → Option Value} {base : Heap}
def sp_is_within_reach (K : PySem.W.Frag) : Sp := fun vs H Q _ => ∃ (b a c : Addr) (k : Kd) (pts : List (El k)) (m : Nat) (wd f : List (El k)), vs = [.ref b, .ref a, .ref c] ∧ BookAt K H b k pts m ∧ H a = some (.lst (lE wd)) ∧ H c = some (.lst (lE f)) ∧ wd.length = pts.length ∧
  ∀ bo : Bool, (bo = true ↔ RankLe (El.T k) (rch pts m) (dif (El.T k) pts wd f)) → RetV H Q (.bl bo)
abbrev N_is_within_reach : List Str := ["book", "word", "turner", "apart"]
theorem sc_is_within_reach : FnScope N_is_within_reach ["book", "word", "turner"] (defScope s_is_within_reach) := ⟨rfl, rfl, rfl, by decide +kernel, rfl, by decide +kernel, by decide +kernel⟩
def t_is_within_reach (K : PySem.W.Frag) : TS :=
  (tSeq (tAsg (tCall (sp_differences K) [] E0 (tCons (tFld K (tVar 0) "own_field") (tCons (tVar 1) (tCons (tCall (sp_word_by K) [] E0 (tCons (tVar 0) (tCons (tVar 2) tNil))) tNil)))) (gName 3))
  (tRet (tOp oLe (tCall (sp_rank_of K) [] E0 (tCons (tFld K (tVar 0) "own_field") (tCons (tVar 3) tNil))) (tCall (sp_reach_of K) [] E0 (tCons (tVar 0) tNil)))))
theorem ps_is_within_reach {f : Addr} {cdv : Value} {A : Around} {outer : List Env} {s : Shared} {H : Hp} {E : XK} (T : Txt K mg) (hr : Room 5 (A.deeper (envOfC "is_within_reach" (defScope s_is_within_reach) s.heap.objs.size f cdv))) :
    PSs (cxOf CX0 P w K mg base N_is_within_reach "is_within_reach" (defScope s_is_within_reach) f cdv A outer s H E).nox (defBody s_is_within_reach) (t_is_within_reach K) := by
  exact (pss_cons (ps_set (i := 3) sc_is_within_reach.nd rfl (Or.inl rfl) (C8.pe_c (c_differences T) hr (by decide) (by rfl) (pa_cons (pe_fld (pv 0) rfl) (pa_cons (pv 1) (pa_cons (C8.pe_c (c_word_by T) hr (by decide) (by rfl) (pa_cons (pv 0) (pa_cons (pv 2) pa_nil))) pa_nil)))))
  (pss_one (ps_ret (pe_cmpR op_le (C8.pe_c (c_rank_of T) hr (by decide) (by rfl) (pa_cons (pe_fld (pv 0) rfl) (pa_cons (pv 3) pa_nil))) (C8.pe_c (c_reach_of T) hr (by decide) (by rfl) (pa_cons (pv 0) pa_nil)) (nomark _)))))
theorem pure_is_within_reach (T : Txt K mg) {vs : List V} {H : Hp} {Q : VK} {E : XK} (h : sp_is_within_reach K vs H Q E) : t_is_within_reach K { nx := fun _ H' => Q .non H', rt := Q } (L2.start N_is_within_reach vs) H := by
  obtain ⟨b, a, c, k, pts, m, wd, f, rfl, hb, ha, hc, hw, ret⟩ := h
  have hm := hb.le
  have h1 := hb.one
  have hfew := hb.few
  have hk := k.n_le
  refine ⟨_, rfl, ?_⟩
  refine fld_field T hb fun fd hf => ?_
  refine ⟨_, rfl, _, rfl, _, rfl, b, c, k, pts, m, f, rfl, hb, hc, fun H1 p1 s1 n1 e1 => ?_⟩
  refine ⟨fd, a, p1, k, wd, _, rfl, hf.same s1, s1 _ _ ha, e1, by rw [List.length_map]; exact hw, by omega, fun H2 p2 s2 n2 e2 => ?_⟩
  rw [← dif_eq] at e2
  have s12 := s1.trans s2
  have hdl : (dif (El.T k) pts wd f).length = pts.length := by unfold dif; simp; omega
  refine ⟨_, rfl, ?_⟩
  refine fld_field T (hb.same s12) fun fd2 hf2 => ?_
  refine ⟨_, rfl, fd2, p2, k, _, rfl, hf2, e2, List.length_pos_iff.mp (by omega), by omega, fun n hn H3 s3 => ?_⟩
  refine ⟨_, rfl, b, k, pts, m, rfl, (hb.same s12).same s3, fun H4 s4 => ?_⟩
  refine ⟨_, _, rfl, rfl, ?_⟩
  refine ret _ ?_ H4 (s12.trans (s3.trans s4))
  rw [hn.iff, decide_eq_true_iff]
  omega
theorem len_is_within_reach {vs : List V} {H : Hp} {Q : VK} {E : XK} (h : sp_is_within_reach K vs H Q E) : vs.length = 3 := by
  obtain ⟨b, a, c, k, pts, m, wd, f, rfl, _⟩ := h; rfl
theorem c_is_within_reach (T : Txt K mg) : C8.Cal P w K mg base 6 "is_within_reach" (sp_is_within_reach K) [] :=
  cal_of (k := 5) (ps := ["book", "word", "turner"]) T.d_is_within_reach (fun _ _ _ _ _ _ us hl => match us, hl with | [_, _, _], _ => rfl) sc_is_within_reach (fun vs H Q E h => len_is_within_reach h) fun f cdv A outer s H vs Q E hr h => ⟨_, ps_is_within_reach T hr, pure_is_within_reach T h⟩
def sp_told_by_pair (K : PySem.W.Frag) : Sp := fun vs H Q _ => ∃ (b a p v n : Addr) (k : Kd) (pts : List (El k)) (m : Nat) (wd V N : List (El k)), vs = [.ref b, .ref a, .ref p] ∧ BookAt K H b k pts m ∧ H a = some (.lst (lE wd)) ∧ wd.length = pts.length ∧
  H p = some (.tup [.ref v, .ref n]) ∧ H v = some (.lst (lE V)) ∧ H n = some (.lst (lE N)) ∧ Pair (El.T k) pts wd m (rch pts m) V N ∧ MRet H Q pts wd m
abbrev N_told_by_pair : List Str := ["book", "word", "pair", "quotient", "rest"]
theorem sc_told_by_pair : FnScope N_told_by_pair ["book", "word", "pair"] (defScope s_told_by_pair) := ⟨rfl, rfl, rfl, by decide +kernel, rfl, by decide +kernel, by decide +kernel⟩
def t_told_by_pair (K : PySem.W.Frag) : TS :=
  (tSeq (tAsg (tCall (sp_outer_parts K) [] E0 (tCons (tFld K (tVar 0) "own_field") (tCons (tOp (rIxT K) (tVar 2) (tC (.int 1))) (tCons (tOp (rIxT K) (tVar 2) (tC (.int 0))) tNil)))) (gTup K 2 (gCons (gName 3) (gCons (gName 4) gNil))))
  (tSeq (tIfS (tOr (tTest (tOp (rNeD K) (tVar 4) (tLst tNil))) (tOr (tTest (tOp oGt (tCB (cLen K) (tCons (tVar 3) tNil)) (tFld K (tVar 0) "own_many"))) (tNot (tB (tCall (sp_is_within_reach K) [] E0 (tCons (tVar 0) (tCons (tVar 1) (tCons (tVar 3) tNil)))))))) (tRet (tC .non)) tNext)
  (tRet (tVar 3))))
theorem ps_told_by_pair {f : Addr} {cdv : Value} {A : Around} {outer : List Env} {s : Shared} {H : Hp} {E : XK} (T : Txt K mg) (hr : Room 6 (A.deeper (envOfC "told_by_pair" (defScope s_told_by_pair) s.heap.objs.size f cdv))) :
    PSs (cxOf CX0 P w K mg base N_told_by_pair "told_by_pair" (defScope s_told_by_pair) f cdv A outer s H E).nox (defBody s_told_by_pair) (t_told_by_pair K) := by
  exact (pss_cons (ps_asg (C8.pe_c (c_outer_parts T) hr (by decide) (by rfl) (pa_cons (pe_fld (pv 0) rfl) (pa_cons (pe_ix ix_tup (pv 2) pe_int (fun _ _ => rfl)) (pa_cons (pe_ix ix_tup (pv 2) pe_int (fun _ _ => rfl)) pa_nil)))) (pg_tup (by rfl) (pgs_cons (pg_name (i := 3) sc_told_by_pair.nd rfl (Or.inl rfl)) (pgs_cons (pg_name (i := 4) sc_told_by_pair.nd rfl (Or.inl rfl)) pgs_nil))))
  (pss_cons (ps_if (PW.pt (pw_or (pt_cmpR (op_neD hr.units) (pv 4) (pe_lst pa_nil) (nomark _)) (pw_or (pt_cmpR op_gt (pe_callB call_len_seq (by rfl) T.b_len PySem.boot_len (pa_cons (pv 3) pa_nil)) (pe_fld (pv 0) rfl) (nomark _)) (pw_or1 (pt_not (pt_val (C8.pe_c (c_is_within_reach T) hr (by decide) (by rfl) (pa_cons (pv 0) (pa_cons (pv 1) (pa_cons (pv 3) pa_nil)))))))))) (pss_one (ps_ret pe_non)) pss_nil)
  (pss_one (ps_ret (pv 3)))))
theorem pure_told_by_pair (T : Txt K mg) {vs : List V} {H : Hp} {Q : VK} {E : XK} (h : sp_told_by_pair K vs H Q E) : t_told_by_pair K { nx := fun _ H' => Q .non H', rt := Q } (L2.start N_told_by_pair vs) H := by
  obtain ⟨b, a, p, v, n, k, pts, m, wd, V, N, rfl, hb, ha, hw, hp, hv, hn, hP, ret⟩ := h
  have hm := hb.le
  have h1 := hb.one
  have hfew := hb.few
  have hk := k.n_le
  have hrt : m + 2 * rch pts m ≤ pts.length := by unfold rch; omega
  have hV := hP.ne hb.ind hw hrt
  have hlV := hP.lV
  have hlN := hP.lN
  refine ⟨_, rfl, ?_⟩
  refine fld_field T hb fun f hf => ?_
  refine ⟨_, rfl, p, _, 1, _, rfl, rfl, SqT.of hp, rfl, _, rfl, p, _, 0, _, rfl, rfl, SqT.of hp, rfl, ?_⟩
  refine ⟨f, n, v, k, N, V, rfl, hf, hn, hv, by omega, by omega, hV, hP.tN, hP.tV, fun H1 z q r qs rs s1 nq hz hq hr hd => ?_⟩
  refine pair_tgt hz ?_
  have hM := hP.mend hb.ind hw hrt hd
  have hb1 := hb.same s1
  refine ⟨_, rfl, Nat.zero_le _, fun e he => ?_⟩
  have s2 := sm_upd he (o := .lst [])
  refine ⟨_, _, dp_lE (s2 _ _ hr), dp_nil upd_same, dI_shaped _, nil_shaped, _, rfl, ?_⟩
  rw [eqv_elI_nil]
  have sA := s1.trans s2
  refine ite2 (fun hc => ?_) (fun hc => ?_)
  · refine iteT ?_
    refine ret _ none _ sA (hM.2 fun q => ?_) rfl (fun _ e => by cases e)
    rw [decide_eq_true q.1] at hc; cases hc
  have hr0 : rs = [] := by
    by_cases e : rs = []
    · exact e
    · rw [decide_eq_false e] at hc; exact absurd rfl hc
  refine ⟨_, rfl, q, _, rfl, .inl (SqL.of (s2 _ _ hq)), _, rfl, ?_⟩
  refine fld_many T (hb1.same s2) ?_
  refine ⟨_, _, rfl, rfl, _, rfl, ?_⟩
  rw [lE_len]
  refine ite2 (fun hc2 => ?_) (fun hc2 => ?_)
  · have := of_decide_eq_true hc2
    refine iteT ?_
    refine ret _ none _ sA (hM.2 fun q => ?_) rfl (fun _ e => by cases e)
    have := q.2.1
    omega
  have hlen : qs.length ≤ m := by
    by_cases e : (m : Int) < (qs.length : Int)
    · exact absurd (decide_eq_true e) hc2
    · omega
  refine ⟨_, rfl, _, rfl, _, rfl, b, a, q, k, pts, m, wd, qs, rfl, hb1.same s2, sA _ _ ha, s2 _ _ hq, hw, fun bo hbo H3 s3 => ⟨bo, rfl, ?_⟩⟩
  cases bo with
  | false =>
    refine iteT ?_
    refine ret _ none _ (sA.trans s3) (hM.2 fun q => ?_) rfl (fun _ e => by cases e)
    have := hbo.mpr q.2.2
    cases this
  | true =>
    refine iteF ?_
    refine ⟨_, rfl, ret _ (some qs) _ (sA.trans s3) (hM.1 hr0 hlen (hbo.mp rfl)) ⟨q, rfl, s3 _ _ (s2 _ _ hq)⟩ (fun p e => by injection e with e; rw [← e]; exact nq)⟩
theorem len_told_by_pair {vs : List V} {H : Hp} {Q : VK} {E : XK} (h : sp_told_by_pair K vs H Q E) : vs.length = 3 := by
  obtain ⟨b, a, p, v, n, k, pts, m, wd, V, N, rfl, _⟩ := h; rfl
theorem c_told_by_pair (T : Txt K mg) : C8.Cal P w K mg base 7 "told_by_pair" (sp_told_by_pair K) [] :=
  cal_of (k := 6) (ps := ["book", "word", "pair"]) T.d_told_by_pair (fun _ _ _ _ _ _ us hl => match us, hl with | [_, _, _], _ => rfl) sc_told_by_pair (fun vs H Q E h => len_told_by_pair h) fun f cdv A outer s H vs Q E hr h => ⟨_, ps_told_by_pair T hr, pure_told_by_pair T h⟩
def sp_mended (K : PySem.W.Frag) : Sp := fun vs H Q _ => ∃ (b a : Addr) (k : Kd) (pts : List (El k)) (m : Nat) (wd : List (El k)), vs = [.ref b, .ref a] ∧ BookAt K H b k pts m ∧ H a = some (.lst (lE wd)) ∧ wd.length = pts.length ∧ MRet H Q pts wd m
def sp_mended_by (K : PySem.W.Frag) : Sp := sp_mended K
abbrev N_mended_by : List Str := ["book", "word"]
theorem sc_mended_by : FnScope N_mended_by ["book", "word"] (defScope s_mended_by) := ⟨rfl, rfl, rfl, by decide +kernel, rfl, by decide +kernel, by decide +kernel⟩
def t_mended_by (K : PySem.W.Frag) : TS :=
  (tRet (tCall (sp_told_by_pair K) [] E0 (tCons (tVar 0) (tCons (tVar 1) (tCons (tCall (sp_pair_of K) [] E0 (tCons (tVar 0) (tCons (tVar 1) tNil))) tNil)))))
theorem ps_mended_by {f : Addr} {cdv : Value} {A : Around} {outer : List Env} {s : Shared} {H : Hp} {E : XK} (T : Txt K mg) (hr : Room 7 (A.deeper (envOfC "mended_by" (defScope s_mended_by) s.heap.objs.size f cdv))) :
    PSs (cxOf CX0 P w K mg base N_mended_by "mended_by" (defScope s_mended_by) f cdv A outer s H E).nox (defBody s_mended_by) (t_mended_by K) := by
  exact (pss_one (ps_ret (C8.pe_c (c_told_by_pair T) hr (by decide) (by rfl) (pa_cons (pv 0) (pa_cons (pv 1) (pa_cons (C8.pe_c (c_pair_of T) hr (by decide) (by rfl) (pa_cons (pv 0) (pa_cons (pv 1) pa_nil))) pa_nil))))))
theorem pure_mended_by (T : Txt K mg) {vs : List V} {H : Hp} {Q : VK} {E : XK} (h : sp_mended_by K vs H Q E) : t_mended_by K { nx := fun _ H' => Q .non H', rt := Q } (L2.start N_mended_by vs) H := by
  obtain ⟨b, a, k, pts, m, wd, rfl, hb, ha, hw, ret⟩ := h
  refine ⟨_, rfl, _, rfl, _, rfl, _, rfl, b, a, k, pts, m, wd, rfl, hb, ha, hw, fun H1 p v n V N s1 hp hv hn hP => ?_⟩
  exact ⟨b, a, p, v, n, k, pts, m, wd, V, N, rfl, hb.same s1, s1 _ _ ha, hw, hp, hv, hn, hP, fun H2 o v s2 hM hO hN => ret H2 o v (s1.trans s2) hM hO fun p e => (s1.free (hN p e))⟩
theorem len_mended_by {vs : List V} {H : Hp} {Q : VK} {E : XK} (h : sp_mended_by K vs H Q E) : vs.length = 2 := by
  obtain ⟨b, a, k, pts, m, wd, rfl, _⟩ := h; rfl
theorem c_mended_by (T : Txt K mg) : C8.Cal P w K mg base 8 "mended_by" (sp_mended_by K) [] :=
  cal_of (k := 7) (ps := ["book", "word"]) T.d_mended_by (fun _ _ _ _ _ _ us hl => match us, hl with | [_, _], _ => rfl) sc_mended_by (fun vs H Q E h => len_mended_by h) fun f cdv A outer s H vs Q E hr h => ⟨_, ps_mended_by T hr, pure_mended_by T h⟩
abbrev N_mended : List Str := ["book", "word", "here"]
theorem sc_mended : FnScope N_mended ["book", "word"] (defScope s_mended) := ⟨rfl, rfl, rfl, by decide +kernel, rfl, by decide +kernel, by decide +kernel⟩
def t_mended (K : PySem.W.Frag) : TS :=
  (tSeq (tAsg (tCall (sp_want_book K) [] E0 (tCons (tVar 0) tNil)) (gName 2))
  (tRet (tCall (sp_mended_by K) [] E0 (tCons (tVar 2) (tCons (tCall (sp_want_word K) [] E0 (tCons (tVar 2) (tCons (tVar 1) tNil))) tNil)))))
theorem ps_mended {f : Addr} {cdv : Value} {A : Around} {outer : List Env} {s : Shared} {H : Hp} {E : XK} (T : Txt K mg) (hr : Room 8 (A.deeper (envOfC "mended" (defScope s_mended) s.heap.objs.size f cdv))) :
    PSs (cxOf CX0 P w K mg base N_mended "mended" (defScope s_mended) f cdv A outer s H E).nox (defBody s_mended) (t_mended K) := by
  exact (pss_cons (ps_set (i := 2) sc_mended.nd rfl (Or.inl rfl) (C8.pe_c (c_want_book T) hr (by decide) (by rfl) (pa_cons (pv 0) pa_nil)))
  (pss_one (ps_ret (C8.pe_c (c_mended_by T) hr (by decide) (by rfl) (pa_cons (pv 2) (pa_cons (C8.pe_c (c_want_word T) hr (by decide) (by rfl) (pa_cons (pv 2) (pa_cons (pv 1) pa_nil))) pa_nil))))))
theorem pure_mended (T : Txt K mg) {vs : List V} {H : Hp} {Q : VK} {E : XK} (h : sp_mended K vs H Q E) : t_mended K { nx := fun _ H' => Q .non H', rt := Q } (L2.start N_mended vs) H := by
  obtain ⟨b, a, k, pts, m, wd, rfl, hb, ha, hw, ret⟩ := h
  refine ⟨_, rfl, b, k, pts, m, rfl, hb, fun H1 s1 => ?_⟩
  refine ⟨_, rfl, _, rfl, _, rfl, b, a, k, pts, m, wd, rfl, hb.same s1, s1 _ _ ha, hw, fun H2 q s2 n2 e2 => ?_⟩
  exact ⟨b, q, k, pts, m, wd, rfl, (hb.same s1).same s2, e2, hw, fun H3 o v s3 hM hO hN => ret H3 o v (s1.trans (s2.trans s3)) hM hO fun p e => s1.free (s2.free (hN p e))⟩
theorem len_mended {vs : List V} {H : Hp} {Q : VK} {E : XK} (h : sp_mended K vs H Q E) : vs.length = 2 := by
  obtain ⟨b, a, k, pts, m, wd, rfl, _⟩ := h; rfl
theorem c_mended (T : Txt K mg) : C8.Cal P w K mg base 9 "mended" (sp_mended K) [] :=
  cal_of (k := 8) (ps := ["book", "word"]) T.d_mended (fun _ _ _ _ _ _ us hl => match us, hl with | [_, _], _ => rfl) sc_mended (fun vs H Q E h => len_mended h) fun f cdv A outer s H vs Q E hr h => ⟨_, ps_mended T hr, pure_mended T h⟩
end
end Tp
/-! What a field makes of its modulus, on lists of numbers. -/
namespace Tp
open PySem PySem.Spec PyProof.Rows L2 Gab
def lastI (xs : List Int) : Int := xs.getD (xs.length - 1) 0
def prIn (p : Int) (other : List Int) (shift : Nat) (factor : Int) (left : List Int) (i : Nat) : List Int :=
  (List.range i).foldl (fun l a => l.set (shift + a) ((l.getD (shift + a) 0 - factor * other.getD a 0) % p)) left
theorem prIn_succ (p : Int) (other : List Int) (shift : Nat) (factor : Int) (left : List Int) (i : Nat) :
    prIn p other shift factor left (i + 1) = (prIn p other shift factor left i).set (shift + i) (((prIn p other shift factor left i).getD (shift + i) 0 - factor * other.getD i 0) % p) := by
  unfold prIn; rw [List.range_succ, List.foldl_append]; rfl
theorem prIn_len (p : Int) (other : List Int) (shift : Nat) (factor : Int) (left : List Int) : ∀ i, (prIn p other shift factor left i).length = left.length
  | 0 => rfl
  | i + 1 => by rw [prIn_succ, List.length_set, prIn_len p other shift factor left i]
def prStep (p : Int) (other : List Int) (t : Int) (left : List Int) : List Int := trim (prIn p other (left.length - other.length) (lastI left * t % p) left other.length)
theorem prStep_len (p : Int) (other : List Int) (t : Int) (left : List Int) : (prStep p other t left).length ≤ left.length := Nat.le_trans (trim_len _) (by rw [prIn_len]; exact Nat.le_refl _)
def prLoop (p : Int) (other : List Int) (t : Int) : Nat → List Int → Option (List Int)
  | 0, _ => none
  | n + 1, left => if other.length ≤ left.length then prLoop p other t n (prStep p other t left) else some left
def polyRest (p : Nat) (poly other : List Int) : Option (List Int) :=
  if 0 < lastI other ∧ lastI other < (p : Int) ∧ poly.length ≤ 100 ∧ other.length ≤ 100 then prLoop p other (lastI other) 100 (trim poly) else none
def ptIn (p near : Int) (other : List Int) (at_ : Nat) (found : List Int) (i : Nat) : List Int :=
  (List.range i).foldl (fun l to => l.set (at_ + to) ((l.getD (at_ + to) 0 + near * other.getD to 0) % p)) found
theorem ptIn_succ (p near : Int) (other : List Int) (a : Nat) (found : List Int) (i : Nat) :
    ptIn p near other a found (i + 1) = (ptIn p near other a found i).set (a + i) (((ptIn p near other a found i).getD (a + i) 0 + near * other.getD i 0) % p) := by
  unfold ptIn; rw [List.range_succ, List.foldl_append]; rfl
theorem ptIn_len (p near : Int) (other : List Int) (a : Nat) (found : List Int) : ∀ i, (ptIn p near other a found i).length = found.length
  | 0 => rfl
  | i + 1 => by rw [ptIn_succ, List.length_set, ptIn_len p near other a found i]
def ptOut (p : Int) (one other : List Int) (found : List Int) (i : Nat) : List Int := (List.range i).foldl (fun l a => ptIn p (one.getD a 0) other a l other.length) found
theorem ptOut_succ (p : Int) (one other found : List Int) (i : Nat) : ptOut p one other found (i + 1) = ptIn p (one.getD i 0) other i (ptOut p one other found i) other.length := by
  unfold ptOut; rw [List.range_succ, List.foldl_append]; rfl
theorem ptOut_len (p : Int) (one other found : List Int) : ∀ i, (ptOut p one other found i).length = found.length
  | 0 => rfl
  | i + 1 => by rw [ptOut_succ, ptIn_len, ptOut_len p one other found i]
/-- all within the figures -/
def figs (p : Nat) (xs : List Int) : Bool := xs.all fun x => decide (0 ≤ x) && decide (x < (p : Int))
theorem figs_get {p : Nat} {xs : List Int} (h : figs p xs = true) {i : Nat} (hi : i < xs.length) : 0 ≤ xs[i] ∧ xs[i] < (p : Int) := by
  have := List.all_eq_true.mp h _ (List.getElem_mem hi)
  simpa using this
def polyTimes (p : Nat) (one other md : List Int) : Option (List Int) :=
  if figs p one = true ∧ one.length ≤ 40 ∧ other.length ≤ 40 then polyRest p (ptOut p one other (List.replicate (one.length + other.length - 1) 0) one.length) md else none
def wider (n : Nat) (xs : List Int) : List Int := xs ++ List.replicate (n - xs.length) 0
def polyLess (p : Nat) (one other : List Int) : List Int :=
  trim (List.zipWith (fun a b => (a - b) % (p : Int)) (wider (max one.length other.length) one) (wider (max one.length other.length) other))
def apLoop (p : Nat) : Nat → List Int → List Int → Option Bool
  | 0, _, _ => none
  | n + 1, near, far => if 0 < far.length then (polyRest p near far).bind fun r => apLoop p n far r else some (decide (near.length = 1))
def powT (p : Nat) (md x : List Int) : Nat → Option (List Int)
  | 0 => some [1]
  | n + 1 => (powT p md x n).bind fun h => polyTimes p h x md
def letter (p : Nat) (md : List Int) : Nat → Option (List Int)
  | 0 => polyRest p [0, 1] md
  | n + 1 => (letter p md n).bind fun x => powT p md x p
def ip (n : Nat) : Bool := (List.range (n - 2)).all fun i => decide (n % (i + 2) ≠ 0)
def toldI (p : Nat) (xs : List Int) : Int := xs.reverse.foldl (fun f x => f * (p : Int) + x) 0
def poLoop (p : Nat) : Nat → List Int → Int → Option (List Int)
  | 0, _, _ => none
  | n + 1, found, left => if 0 < left then poLoop p n (found ++ [left % (p : Int)]) (left / (p : Int)) else some found
def polyOf (p : Nat) (number : Int) : Option (List Int) := poLoop p 20 [] number
def pbLoop (p : Nat) (md base : List Int) : Nat → List Int → List Int → Option (List Int)
  | 0, _, _ => none
  | n + 1, found, here => if here = [1] then some found else (polyTimes p here base md).bind fun h => pbLoop p md base n (found ++ [toldI p here]) h
def powersBy (p : Nat) (md : List Int) (number : Int) : Option (List Int) := (polyOf p number).bind fun base => pbLoop p md base 40 [1] base
def awLoop (p : Nat) (md : List Int) (size : Nat) : Nat → Int → List Int → Option (List Int)
  | 0, _, _ => none
  | n + 1, number, found => if (found.length : Int) < (size : Int) - 1 then (powersBy p md (number + 1)).bind fun f => awLoop p md size n (number + 1) f else some found
def allPowers (p : Nat) (md : List Int) (size : Nat) : Option (List Int) := (powersBy p md p).bind fun f => awLoop p md size 5 p f
def loIn (powers found : List Int) (i : Nat) : List Int := (List.range i).foldl (fun l a => l.set (powers.getD a 0).toNat (a : Int)) found
theorem loIn_succ (powers found : List Int) (i : Nat) : loIn powers found (i + 1) = (loIn powers found i).set (powers.getD i 0).toNat (i : Int) := by
  unfold loIn; rw [List.range_succ, List.foldl_append]; rfl
theorem loIn_len (powers found : List Int) : ∀ i, (loIn powers found i).length = found.length
  | 0 => rfl
  | i + 1 => by rw [loIn_succ, List.length_set, loIn_len powers found i]
/-! ### the four fields -/
def lts (k : Kd) : List (List Int) := (List.range (k.n + 1)).map fun i => (letter k.p k.md i).getD []
theorem md_len (k : Kd) : k.md.length = k.n + 1 := by cases k <;> rfl
theorem md_last (k : Kd) : lastI k.md = 1 := by cases k <;> decide
theorem md_figs (k : Kd) : figs k.p k.md = true := by cases k <;> decide +kernel
theorem lts_ok (k : Kd) : ∀ i, i < k.n + 1 → letter k.p k.md i = some ((lts k).getD i []) := by cases k <;> decide +kernel
theorem lts_round (k : Kd) : (lts k).getD k.n [] = (lts k).getD 0 [] := by cases k <;> decide +kernel
theorem lts_apart (k : Kd) : ∀ l, l < k.n + 1 → 2 ≤ l → k.n % l = 0 → ip l = true → apLoop k.p 20 k.md (polyLess k.p ((lts k).getD (k.n / l) []) ((lts k).getD 0 [])) = some true := by cases k <;> decide +kernel
theorem lts_short (k : Kd) : ∀ x ∈ lts k, x.length ≤ 10 := by cases k <;> decide +kernel
theorem pws_ok (k : Kd) : allPowers k.p k.md k.q = some (k.pws.map fun x : Nat => (x : Int)) := by cases k <;> decide +kernel
theorem lgs_ok (k : Kd) : loIn (k.pws.map fun x : Nat => (x : Int)) (List.replicate k.q (-1)) (k.q - 1) = (-1) :: (k.lgs.drop 1).map fun x : Nat => (x : Int) := by cases k <;> decide +kernel
theorem pws_lt (k : Kd) : ∀ x ∈ k.pws, x < k.q := by cases k <;> decide +kernel
end Tp
namespace Tp
open PySem PySem.Spec PyProof.Rows L2 Gab
/-- numbers as values -/
abbrev iV (xs : List Int) : List V := xs.map vI
theorem iV_len (xs : List Int) : (iV xs).length = xs.length := List.length_map ..
theorem iV_get {xs : List Int} {i : Nat} (h : i < xs.length) : (iV xs)[i]? = some (vI (xs.getD i 0)) := by
  rw [List.getElem?_map, List.getElem?_eq_getElem h, List.getD_eq_getElem?_getD, List.getElem?_eq_getElem h]; rfl
theorem iV_set (xs : List Int) (i : Nat) (y : Int) : (iV xs).set i (vI y) = iV (xs.set i y) := by unfold iV; rw [List.map_set]
theorem iV_last {xs : List Int} (h : 0 < xs.length) : (iV xs)[(iV xs).length - 1]? = some (vI (lastI xs)) := by
  rw [iV_len, iV_get (by omega)]; rfl
theorem iV_rep (n : Nat) (x : Int) : iV (List.replicate n x) = List.replicate n (vI x) := by unfold iV; rw [List.map_replicate]
theorem ixn {n j : Nat} {i : Int} (e : i = (j : Int)) (h : j < n) : ixN n i = some j := by
  unfold ixN
  rw [if_pos (by omega), if_pos (by omega), e]; simp
theorem iV_at {xs : List Int} {i : Nat} {v : V} (h : (iV xs)[i]? = some v) : i < xs.length ∧ v = vI (xs.getD i 0) := by
  by_cases hi : i < xs.length
  · rw [iV_get hi] at h
    exact ⟨hi, (Option.some.inj h).symm⟩
  · rw [List.getElem?_map, List.getElem?_eq_none (by omega)] at h; cases h
theorem enumI_of {xs : List Int} {i : Nat} {H H' : Hp} {v : V} (h : YPair (fun i => some (.int (i : Nat))) (fun i => (iV xs)[i]?) i H v H') :
    ∃ (T : Addr), i < xs.length ∧ v = .ref T ∧ H T = none ∧ H' = upd H T (.tup [.int (i : Nat), vI (xs.getD i 0)]) := by
  obtain ⟨T, x, y, h1, h2, h3, h4, h5⟩ := h
  obtain rfl := Option.some.inj h4
  obtain ⟨hi, rfl⟩ := iV_at h5
  exact ⟨T, hi, h1, h2, h3⟩
theorem nn {H H' : Hp} {p : Addr} (s : Same H H') (h : H' p = none) : H p = none := by
  cases e : H p with
  | none => rfl
  | some o => rw [s _ _ e] at h; cases h
theorem und_self (k : Kd) : ∀ a, a < k.p → a ≠ 0 → ∀ t, t < k.p → t * a % k.p = 1 → t = a := by cases k <;> decide +kernel
section
variable {P : Program} {w : World} {K : PySem.W.Frag} {mg : Str → Option Value} {base : Heap}
def sp_poly_rest (K : PySem.W.Frag) : Sp := fun vs H Q _ => ∃ (a b : Addr) (k : Kd) (poly other r : List Int), vs = [.int (k.p : Int), .ref a, .ref b] ∧ H a = some (.lst (iV poly)) ∧ H b = some (.lst (iV other)) ∧ polyRest k.p poly other = some r ∧ RetL H Q (iV r)
abbrev N_poly_rest : List Str := ["prime", "poly", "other", "left", "turn", "shift", "factor", "at", "number"]
theorem sc_poly_rest : FnScope N_poly_rest ["prime", "poly", "other"] (defScope s_poly_rest) := ⟨rfl, rfl, rfl, by decide +kernel, rfl, by decide +kernel, by decide +kernel⟩
def t_poly_rest (K : PySem.W.Frag) : TS :=
  (tSeq (tPar 3 4 (tCons (tCall (sp_without_end K) [] E0 (tCons (tVar 1) tNil)) (tCons (tCall (sp_undone_by K) [] E0 (tCons (tVar 0) (tCons (tOp (rIxL K) (tVar 2) (tUn uNeg (tC (.int 1)))) tNil))) tNil)))
  (tSeq (tWhile (tTest (tOp oGe (tCB (cLen K) (tCons (tVar 3) tNil)) (tCB (cLen K) (tCons (tVar 2) tNil)))) (tSeq (tPar 5 6 (tCons (tOp oSub (tCB (cLen K) (tCons (tVar 3) tNil)) (tCB (cLen K) (tCons (tVar 2) tNil))) (tCons (tOp oMod (tOp oMul (tOp (rIxL K) (tVar 3) (tUn uNeg (tC (.int 1)))) (tVar 4)) (tVar 0)) tNil)))
  (tSeq (tFor (iEnum K (tCons (tVar 2) tNil)) (gTup K 2 (gCons (gName 7) (gCons (gName 8) gNil))) (tAsg (tOp oMod (tOp oSub (tOp (rIxL K) (tVar 3) (tOp oAdd (tVar 5) (tVar 7))) (tOp oMul (tVar 6) (tVar 8))) (tVar 0)) (gSub (tVar 3) (tOp oAdd (tVar 5) (tVar 7)) rSetL)))
  (tAsg (tCall (sp_without_end K) [] E0 (tCons (tVar 3) tNil)) (gName 3)))))
  (tRet (tVar 3))))
theorem ps_poly_rest {f : Addr} {cdv : Value} {A : Around} {outer : List Env} {s : Shared} {H : Hp} {E : XK} (T : Txt K mg) (hr : Room 2 (A.deeper (envOfC "poly_rest" (defScope s_poly_rest) s.heap.objs.size f cdv))) :
    PSs (cxOf CX0 P w K mg base N_poly_rest "poly_rest" (defScope s_poly_rest) f cdv A outer s H E).nox (defBody s_poly_rest) (t_poly_rest K) := by
  exact (pss_cons (ps_par (i := 3) (j := 4) (by rfl) sc_poly_rest.nd rfl rfl (by decide) rfl rfl (pa_cons (C8.pe_c (c_without_end T) hr (by decide) (by rfl) (pa_cons (pv 1) pa_nil)) (pa_cons (C8.pe_c (c_undone_by T) hr (by decide) (by rfl) (pa_cons (pv 0) (pa_cons (pe_ix ix_list (pv 2) (pe_un un_neg pe_int) (fun _ _ => rfl)) pa_nil))) pa_nil)) (by rfl))
  (pss_cons (ps_while PassesOwn.never (pt_cmpR op_ge (pe_callB call_len_seq (by rfl) T.b_len PySem.boot_len (pa_cons (pv 3) pa_nil)) (pe_callB call_len_seq (by rfl) T.b_len PySem.boot_len (pa_cons (pv 2) pa_nil)) (nomark _)) (pss_cons (ps_par (i := 5) (j := 6) (by rfl) sc_poly_rest.nd rfl rfl (by decide) rfl rfl (pa_cons (pe_op op_sub (pe_callB call_len_seq (by rfl) T.b_len PySem.boot_len (pa_cons (pv 3) pa_nil)) (pe_callB call_len_seq (by rfl) T.b_len PySem.boot_len (pa_cons (pv 2) pa_nil))) (pa_cons (pe_op op_mod (pe_op op_mul (pe_ix ix_list (pv 3) (pe_un un_neg pe_int) (fun _ _ => rfl)) (pv 4)) (pv 0)) pa_nil)) (by rfl))
  (pss_cons (ps_for PassesOwn.never rfl (pi_enum (by rfl) T.b_enumerate (pa_cons (pv 2) pa_nil)) (pg_tup (by rfl) (pgs_cons (pg_name (i := 7) sc_poly_rest.nd rfl (Or.inl rfl)) (pgs_cons (pg_name (i := 8) sc_poly_rest.nd rfl (Or.inl rfl)) pgs_nil))) (pss_one (ps_asg (pe_op op_mod (pe_op op_sub (pe_ix ix_list (pv 3) (pe_op op_add (pv 5) (pv 7)) (fun _ _ => rfl)) (pe_op op_mul (pv 6) (pv 8))) (pv 0)) (pg_sub (pv 3) (pe_op op_add (pv 5) (pv 7)) set_list))))
  (pss_one (ps_set (i := 3) sc_poly_rest.nd rfl (Or.inl rfl) (C8.pe_c (c_without_end T) hr (by decide) (by rfl) (pa_cons (pv 3) pa_nil)))))))
  (pss_one (ps_ret (pv 3)))))
theorem pure_poly_rest (T : Txt K mg) {vs : List V} {H : Hp} {Q : VK} {E : XK} (h : sp_poly_rest K vs H Q E) : t_poly_rest K { nx := fun _ H' => Q .non H', rt := Q } (L2.start N_poly_rest vs) H := by
  obtain ⟨a, b, k, poly, other, r, rfl, ha, hb, hr, ret⟩ := h
  have hp2 := k.p_two
  have hp3 := k.p_le
  unfold polyRest at hr
  split at hr
  case isFalse => cases hr
  rename_i hg
  obtain ⟨g1, g2, g3, g4⟩ := hg
  have hol : 0 < other.length := by
    cases other with
    | nil => exact absurd g1 (by decide)
    | cons _ _ => simp
  obtain ⟨lo, hlo⟩ : ∃ n : Nat, lastI other = (n : Int) := ⟨(lastI other).toNat, by omega⟩
  refine ⟨_, rfl, a, poly, rfl, ha, by omega, fun H1 l s1 n1 e1 => ?_⟩
  have hb1 := s1 _ _ hb
  refine ⟨_, rfl, _, rfl, _, rfl, b, _, _, _, rfl, rfl, SqL.of hb1, atI_last' (iV_last hol), ?_⟩
  rw [hlo] at hr
  refine ⟨k, lo, by rw [hlo]; rfl, by omega, by omega, fun t ht1 ht2 H2 s2 => ⟨_, _, rfl, ?_⟩⟩
  obtain rfl := und_self k lo (by omega) (by omega) t ht1 ht2
  have s12 := s1.trans s2
  have e2 := s2 _ _ e1
  refine ⟨fun m σ H' => ∃ (l : Addr) (left : List Int) (v5 v6 v7 v8 : Option V), σ = [some (.int (k.p : Int)), some (.ref a), some (.ref b), some (.ref l), some (.int (t : Int)), v5, v6, v7, v8] ∧ Same H H' ∧ H l = none ∧ H' l = some (.lst (iV left)) ∧ prLoop k.p other t m left = some r ∧ left.length ≤ 100,
    ⟨100, l, _, none, none, none, none, rfl, s12, n1, e2, hr, Nat.le_trans (trim_len _) g3⟩, ?_⟩
  rintro m σ H' ⟨l, left, v5, v6, v7, v8, rfl, s, nl, hl, hloop, hll⟩
  have hb' := s _ _ hb
  refine ⟨_, rfl, l, _, rfl, .inl (SqL.of hl), _, rfl, b, _, rfl, .inl (SqL.of hb'), _, _, rfl, rfl, _, rfl, ?_⟩
  rw [iV_len, iV_len]
  cases m with
  | zero => cases hloop
  | succ m =>
  unfold prLoop at hloop
  refine ite2 (fun hc => ?_) (fun hc => ?_)
  · have hle : other.length ≤ left.length := by have := of_decide_eq_true hc; omega
    rw [if_pos hle] at hloop
    refine ⟨_, fun σ' H' h => h, ?_⟩
    refine ⟨_, rfl, l, _, rfl, .inl (SqL.of hl), _, rfl, b, _, rfl, .inl (SqL.of hb'), _, _, rfl, rfl, ?_⟩
    refine ⟨_, rfl, _, rfl, l, _, _, _, rfl, rfl, SqL.of hl, atI_last' (iV_last (by omega)), ?_⟩
    refine ⟨_, rfl, _, _, rfl, rfl, .inr ⟨by omega, by omega⟩, _, rfl, _, _, rfl, rfl, by omega, _, _, rfl, ?_⟩
    rw [iV_len, iV_len]
    have esh : (left.length : Int) - (other.length : Int) = ((left.length - other.length : Nat) : Int) := by omega
    dsimp only
    rw [esh]
    have hfac1 := Int.emod_nonneg (lastI left * (t : Int)) (show (k.p : Int) ≠ 0 by omega)
    have hfac2 := Int.emod_lt_of_pos (lastI left * (t : Int)) (show (0 : Int) < (k.p : Int) by omega)
    unfold prStep at hloop
    generalize hsh : left.length - other.length = shift at hloop
    generalize hfa : lastI left * (t : Int) % (k.p : Int) = fac at hfac1 hfac2 hloop
    refine ⟨_, rfl, b, _, rfl, SqL.of hb', ?_⟩
    refine for_it (walk_enum (xs := iV other)) (fun i σ H2 => ∃ v7 v8, σ = [some (.int (k.p : Int)), some (.ref a), some (.ref b), some (.ref l), some (.int (t : Int)), some (.int (shift : Int)), some (.int fac), v7, v8] ∧ Same H H2 ∧ H2 l = some (.lst (iV (prIn k.p other shift fac left i))))
      ⟨v7, v8, rfl, s, hl⟩ (fun i σ H2 _ ⟨_, _, _, s2, _⟩ => SqL.of (s2 _ _ hb)) ?_ ?_
    · rintro i v σ H2 H3 hi ⟨w7, w8, rfl, s2, hl2⟩ hyv
      obtain ⟨z, hio, rfl, hz, rfl⟩ := enumI_of hyv
      refine pair_tgt upd_same ?_
      have s3 := sm_upd hz (o := .tup [.int (i : Nat), vI (other.getD i 0)])
      have hl3 := s3 _ _ hl2
      have hpl := prIn_len k.p other shift fac left i
      have hix : shift + i < (prIn k.p other shift fac left i).length := by omega
      refine ⟨_, rfl, _, rfl, _, rfl, _, _, rfl, rfl, l, _, _, _, rfl, rfl, SqL.of hl3, at_get (j := shift + i) (by omega) (iV_get hix), ?_⟩
      refine ⟨_, rfl, _, rfl, _, _, rfl, rfl, .inl ⟨by omega, by omega⟩, _, _, rfl, rfl, _, rfl, _, _, rfl, rfl, by omega, ?_⟩
      refine ⟨_, rfl, _, rfl, _, rfl, _, _, rfl, rfl, l, _, _, shift + i, rfl, rfl, hl3, ixn (by omega) (by rw [iV_len]; exact hix), ?_⟩
      refine ⟨_, _, rfl, sm_set (s2.trans s3) nl, ?_⟩
      rw [upd_same, iV_set, prIn_succ]
    · rintro σ H2 ⟨w7, w8, rfl, s2, hl2⟩
      rw [iV_len] at hl2
      refine ⟨_, rfl, l, _, rfl, hl2, by rw [prIn_len]; omega, fun H3 q s3 n3 e3 => ?_⟩
      refine ⟨m, Nat.lt_succ_self m, q, _, _, _, _, _, rfl, s2.trans s3, nn s2 n3, e3, hloop, Nat.le_trans (trim_len _) (by rw [prIn_len]; exact hll)⟩
  · have hle : ¬ other.length ≤ left.length := fun e => hc (decide_eq_true (by omega))
    rw [if_neg hle] at hloop
    obtain rfl := Option.some.inj hloop
    exact ⟨_, rfl, ret _ l s nl hl⟩
theorem len_poly_rest {vs : List V} {H : Hp} {Q : VK} {E : XK} (h : sp_poly_rest K vs H Q E) : vs.length = 3 := by
  obtain ⟨a, b, k, poly, other, r, rfl, _⟩ := h; rfl
theorem c_poly_rest (T : Txt K mg) : C8.Cal P w K mg base 3 "poly_rest" (sp_poly_rest K) [] :=
  cal_of (k := 2) (ps := ["prime", "poly", "other"]) T.d_poly_rest (fun _ _ _ _ _ _ us hl => match us, hl with | [_, _, _], _ => rfl) sc_poly_rest (fun vs H Q E h => len_poly_rest h) fun f cdv A outer s H vs Q E hr h => ⟨_, ps_poly_rest T hr, pure_poly_rest T h⟩
def sp_poly_times (K : PySem.W.Frag) : Sp := fun vs H Q _ => ∃ (a b c : Addr) (k : Kd) (one other md r : List Int), vs = [.int (k.p : Int), .ref a, .ref b, .ref c] ∧ H a = some (.lst (iV one)) ∧ H b = some (.lst (iV other)) ∧ H c = some (.lst (iV md)) ∧ polyTimes k.p one other md = some r ∧ RetL H Q (iV r)
abbrev N_poly_times : List Str := ["prime", "one", "other", "modulus", "found", "at", "near", "to", "far"]
theorem sc_poly_times : FnScope N_poly_times ["prime", "one", "other", "modulus"] (defScope s_poly_times) := ⟨rfl, rfl, rfl, by decide +kernel, rfl, by decide +kernel, by decide +kernel⟩
def t_poly_times (K : PySem.W.Frag) : TS :=
  (tSeq (tAsg (tOp rRep (tLst (tCons (tC (.int 0)) tNil)) (tCB cMax (tCons (tC (.int 0)) (tCons (tOp oSub (tOp oAdd (tCB (cLen K) (tCons (tVar 1) tNil)) (tCB (cLen K) (tCons (tVar 2) tNil))) (tC (.int 1))) tNil)))) (gName 4))
  (tSeq (tFor (iEnum K (tCons (tVar 1) tNil)) (gTup K 2 (gCons (gName 5) (gCons (gName 6) gNil))) (tFor (iEnum K (tCons (tVar 2) tNil)) (gTup K 2 (gCons (gName 7) (gCons (gName 8) gNil))) (tAsg (tOp oMod (tOp oAdd (tOp (rIxL K) (tVar 4) (tOp oAdd (tVar 5) (tVar 7))) (tOp oMul (tVar 6) (tVar 8))) (tVar 0)) (gSub (tVar 4) (tOp oAdd (tVar 5) (tVar 7)) rSetL))))
  (tRet (tCall (sp_poly_rest K) [] E0 (tCons (tVar 0) (tCons (tVar 4) (tCons (tVar 3) tNil)))))))
theorem ps_poly_times {f : Addr} {cdv : Value} {A : Around} {outer : List Env} {s : Shared} {H : Hp} {E : XK} (T : Txt K mg) (hr : Room 3 (A.deeper (envOfC "poly_times" (defScope s_poly_times) s.heap.objs.size f cdv))) :
    PSs (cxOf CX0 P w K mg base N_poly_times "poly_times" (defScope s_poly_times) f cdv A outer s H E).nox (defBody s_poly_times) (t_poly_times K) := by
  exact (pss_cons (ps_set (i := 4) sc_poly_times.nd rfl (Or.inl rfl) (pe_op op_rep (pe_lst (pa_cons pe_int pa_nil)) (pe_callB (call_max2 rfl) (by rfl) T.b_max (by decide +kernel) (pa_cons pe_int (pa_cons (pe_op op_sub (pe_op op_add (pe_callB call_len_seq (by rfl) T.b_len PySem.boot_len (pa_cons (pv 1) pa_nil)) (pe_callB call_len_seq (by rfl) T.b_len PySem.boot_len (pa_cons (pv 2) pa_nil))) pe_int) pa_nil)))))
  (pss_cons (ps_for PassesOwn.never rfl (pi_enum (by rfl) T.b_enumerate (pa_cons (pv 1) pa_nil)) (pg_tup (by rfl) (pgs_cons (pg_name (i := 5) sc_poly_times.nd rfl (Or.inl rfl)) (pgs_cons (pg_name (i := 6) sc_poly_times.nd rfl (Or.inl rfl)) pgs_nil))) (pss_one (ps_for PassesOwn.never rfl (pi_enum (by rfl) T.b_enumerate (pa_cons (pv 2) pa_nil)) (pg_tup (by rfl) (pgs_cons (pg_name (i := 7) sc_poly_times.nd rfl (Or.inl rfl)) (pgs_cons (pg_name (i := 8) sc_poly_times.nd rfl (Or.inl rfl)) pgs_nil))) (pss_one (ps_asg (pe_op op_mod (pe_op op_add (pe_ix ix_list (pv 4) (pe_op op_add (pv 5) (pv 7)) (fun _ _ => rfl)) (pe_op op_mul (pv 6) (pv 8))) (pv 0)) (pg_sub (pv 4) (pe_op op_add (pv 5) (pv 7)) set_list))))))
  (pss_one (ps_ret (C8.pe_c (c_poly_rest T) hr (by decide) (by rfl) (pa_cons (pv 0) (pa_cons (pv 4) (pa_cons (pv 3) pa_nil))))))))
theorem pure_poly_times (T : Txt K mg) {vs : List V} {H : Hp} {Q : VK} {E : XK} (h : sp_poly_times K vs H Q E) : t_poly_times K { nx := fun _ H' => Q .non H', rt := Q } (L2.start N_poly_times vs) H := by
  obtain ⟨a, b, c, k, one, other, md, r, rfl, ha, hb, hc, hr, ret⟩ := h
  have hp2 := k.p_two
  have hp3 := k.p_le
  unfold polyTimes at hr
  split at hr
  case isFalse => cases hr
  rename_i hg
  obtain ⟨g1, g2, g3⟩ := hg
  refine ⟨Nat.le_trans (Nat.le_refl 1) (by decide), fun z hz => ?_⟩
  have s1 : Same H (upd H z (.lst [V.int 0])) := sm_upd hz
  refine ⟨_, rfl, a, _, rfl, .inl (SqL.of (s1 _ _ ha)), _, rfl, b, _, rfl, .inl (SqL.of (s1 _ _ hb)), _, _, rfl, rfl, _, _, rfl, rfl, _, _, rfl, ?_⟩
  rw [iV_len, iV_len]
  generalize hmx : (if (one.length : Int) + (other.length : Int) - 1 > 0 then (one.length : Int) + (other.length : Int) - 1 else 0) = mx
  have hmx2 : mx = ((one.length + other.length - 1 : Nat) : Int) := by
    rw [← hmx]; split <;> omega
  refine ⟨z, mx, _, rfl, rfl, upd_same, by omega, by omega, small' (by simp; omega), fun l hl => ?_⟩
  have e1 : mx.toNat = one.length + other.length - 1 := by omega
  rw [e1, rep1, ← iV_rep]
  have s2 := sm_upd' s1 hl (o := .lst (iV (List.replicate (one.length + other.length - 1) 0)))
  have nl := nn s1 hl
  generalize hz0 : List.replicate (one.length + other.length - 1) (0 : Int) = zs at *
  have hzl : zs.length = one.length + other.length - 1 := by rw [← hz0]; simp
  refine ⟨_, rfl, a, _, rfl, SqL.of (s2 _ _ ha), ?_⟩
  refine for_it (walk_enum (xs := iV one)) (fun i σ H2 => ∃ v5 v6 v7 v8, σ = [some (.int (k.p : Int)), some (.ref a), some (.ref b), some (.ref c), some (.ref l), v5, v6, v7, v8] ∧ Same H H2 ∧ H2 l = some (.lst (iV (ptOut k.p one other zs i))))
    ⟨none, none, none, none, rfl, s2, upd_same⟩ (fun i σ H2 _ ⟨_, _, _, _, _, s2, _⟩ => SqL.of (s2 _ _ ha)) ?_ ?_
  · rintro i v σ H2 H3 hi ⟨v5, v6, v7, v8, rfl, s3, hl2⟩ hyv
    obtain ⟨y, hio, rfl, hy, rfl⟩ := enumI_of hyv
    refine pair_tgt upd_same ?_
    have s4 := sm_upd hy (o := .tup [.int (i : Nat), vI (one.getD i 0)])
    have s5 := s3.trans s4
    refine ⟨_, rfl, b, _, rfl, SqL.of (s5 _ _ hb), ?_⟩
    obtain ⟨f1, f2⟩ := figs_get g1 hio
    have ef : one.getD i 0 = one[i] := by rw [List.getD_eq_getElem?_getD, List.getElem?_eq_getElem hio]; rfl
    refine for_it (walk_enum (xs := iV other)) (fun j σ H4 => ∃ v7 v8, σ = [some (.int (k.p : Int)), some (.ref a), some (.ref b), some (.ref c), some (.ref l), some (.int (i : Int)), some (vI (one.getD i 0)), v7, v8] ∧ Same H H4 ∧ H4 l = some (.lst (iV (ptIn k.p (one.getD i 0) other i (ptOut k.p one other zs i) j))))
      ⟨v7, v8, rfl, s5, s4 _ _ hl2⟩ (fun i σ H2 _ ⟨_, _, _, s2, _⟩ => SqL.of (s2 _ _ hb)) ?_ ?_
    · rintro j v σ H4 H5 hj ⟨w7, w8, rfl, s6, hl4⟩ hyv2
      obtain ⟨x, hjo, rfl, hx, rfl⟩ := enumI_of hyv2
      refine pair_tgt upd_same ?_
      have s7 := sm_upd hx (o := .tup [.int (j : Nat), vI (other.getD j 0)])
      have hl5 := s7 _ _ hl4
      have hpl := ptIn_len k.p (one.getD i 0) other i (ptOut k.p one other zs i) j
      rw [ptOut_len] at hpl
      have hix : i + j < (ptIn k.p (one.getD i 0) other i (ptOut k.p one other zs i) j).length := by omega
      refine ⟨_, rfl, _, rfl, _, rfl, _, _, rfl, rfl, l, _, _, _, rfl, rfl, SqL.of hl5, at_get (j := i + j) (by omega) (iV_get hix), ?_⟩
      refine ⟨_, rfl, _, rfl, _, _, rfl, rfl, .inl ⟨by omega, by omega⟩, _, _, rfl, rfl, _, rfl, _, _, rfl, rfl, by omega, ?_⟩
      refine ⟨_, rfl, _, rfl, _, rfl, _, _, rfl, rfl, l, _, _, i + j, rfl, rfl, hl5, ixn (by omega) (by rw [iV_len]; exact hix), ?_⟩
      refine ⟨_, _, rfl, sm_set (s6.trans s7) nl, ?_⟩
      rw [upd_same, iV_set, ptIn_succ]
    · rintro σ H4 ⟨w7, w8, rfl, s6, hl4⟩
      rw [iV_len] at hl4
      exact ⟨_, _, _, _, rfl, s6, by rw [ptOut_succ]; exact hl4⟩
  · rintro σ H2 ⟨v5, v6, v7, v8, rfl, s3, hl2⟩
    rw [iV_len] at hl2
    refine ⟨_, rfl, _, rfl, _, rfl, l, c, k, _, md, r, rfl, hl2, s3 _ _ hc, hr, fun H4 q s4 n4 e4 => ret _ q (s3.trans s4) (nn s3 n4) e4⟩
theorem len_poly_times {vs : List V} {H : Hp} {Q : VK} {E : XK} (h : sp_poly_times K vs H Q E) : vs.length = 4 := by
  obtain ⟨a, b, c, k, one, other, md, r, rfl, _⟩ := h; rfl
theorem c_poly_times (T : Txt K mg) : C8.Cal P w K mg base 4 "poly_times" (sp_poly_times K) [] :=
  cal_of (k := 3) (ps := ["prime", "one", "other", "modulus"]) T.d_poly_times (fun _ _ _ _ _ _ us hl => match us, hl with | [_, _, _, _], _ => rfl) sc_poly_times (fun vs H Q E h => len_poly_times h) fun f cdv A outer s H vs Q E hr h => ⟨_, ps_poly_times T hr, pure_poly_times T h⟩
end
end Tp
namespace Tp
open PySem PySem.Spec PyProof.Rows L2 Gab
theorem wider_len {n : Nat} {xs : List Int} (h : xs.length ≤ n) : (wider n xs).length = n := by simp [wider]; omega
theorem iV_wider (n : Nat) (xs : List Int) : iV xs ++ List.replicate (n - xs.length) (V.int 0) = iV (wider n xs) := by
  unfold wider iV; rw [List.map_append, List.map_replicate]
theorem zipI_of {xs ys : List Int} {i : Nat} {H H' : Hp} {v : V} (h : YPair (fun i => (iV xs)[i]?) (fun i => (iV ys)[i]?) i H v H') :
    ∃ (T : Addr), i < xs.length ∧ i < ys.length ∧ v = .ref T ∧ H T = none ∧ H' = upd H T (.tup [vI (xs.getD i 0), vI (ys.getD i 0)]) := by
  obtain ⟨T, x, y, h1, h2, h3, h4, h5⟩ := h
  obtain ⟨hi, rfl⟩ := iV_at h4
  obtain ⟨hj, rfl⟩ := iV_at h5
  exact ⟨T, hi, hj, h1, h2, h3⟩
section
variable {P : Program} {w : World} {K : PySem.W.Frag} {mg : Str → Option Value} {base : Heap}
def sp_poly_less (K : PySem.W.Frag) : Sp := fun vs H Q _ => ∃ (a b : Addr) (k : Kd) (one other : List Int), vs = [.int (k.p : Int), .ref a, .ref b] ∧ H a = some (.lst (iV one)) ∧ H b = some (.lst (iV other)) ∧ one.length ≤ 40 ∧ other.length ≤ 40 ∧ RetL H Q (iV (polyLess k.p one other))
abbrev N_poly_less : List Str := ["prime", "one", "other", "many", "near", "far", "first", "second"]
theorem sc_poly_less : FnScope N_poly_less ["prime", "one", "other"] (defScope s_poly_less) := ⟨rfl, rfl, rfl, by decide +kernel, rfl, by decide +kernel, by decide +kernel⟩
def t_poly_less (K : PySem.W.Frag) : TS :=
  (tSeq (tAsg (tCB cMax (tCons (tCB (cLen K) (tCons (tVar 1) tNil)) (tCons (tCB (cLen K) (tCons (tVar 2) tNil)) tNil))) (gName 3))
  (tSeq (tPar 4 5 (tCons (tOp rCat (tVar 1) (tOp rRep (tLst (tCons (tC (.int 0)) tNil)) (tOp oSub (tVar 3) (tCB (cLen K) (tCons (tVar 1) tNil))))) (tCons (tOp rCat (tVar 2) (tOp rRep (tLst (tCons (tC (.int 0)) tNil)) (tOp oSub (tVar 3) (tCB (cLen K) (tCons (tVar 2) tNil))))) tNil)))
  (tRet (tCall (sp_without_end K) [] E0 (tCons (tLc (iZip K (tCons (tVar 4) (tCons (tVar 5) tNil))) (gTup K 2 (gCons (gName 6) (gCons (gName 7) gNil))) tYes (tOp oMod (tOp oSub (tVar 6) (tVar 7)) (tVar 0)) [6, 7]) tNil)))))
theorem ps_poly_less {f : Addr} {cdv : Value} {A : Around} {outer : List Env} {s : Shared} {H : Hp} {E : XK} (T : Txt K mg) (hr : Room 2 (A.deeper (envOfC "poly_less" (defScope s_poly_less) s.heap.objs.size f cdv))) :
    PSs (cxOf CX0 P w K mg base N_poly_less "poly_less" (defScope s_poly_less) f cdv A outer s H E).nox (defBody s_poly_less) (t_poly_less K) := by
  exact (pss_cons (ps_set (i := 3) sc_poly_less.nd rfl (Or.inl rfl) (pe_callB (call_max2 rfl) (by rfl) T.b_max (by decide +kernel) (pa_cons (pe_callB call_len_seq (by rfl) T.b_len PySem.boot_len (pa_cons (pv 1) pa_nil)) (pa_cons (pe_callB call_len_seq (by rfl) T.b_len PySem.boot_len (pa_cons (pv 2) pa_nil)) pa_nil))))
  (pss_cons (ps_par (i := 4) (j := 5) (by rfl) sc_poly_less.nd rfl rfl (by decide) rfl rfl (pa_cons (pe_op op_cat (pv 1) (pe_op op_rep (pe_lst (pa_cons pe_int pa_nil)) (pe_op op_sub (pv 3) (pe_callB call_len_seq (by rfl) T.b_len PySem.boot_len (pa_cons (pv 1) pa_nil))))) (pa_cons (pe_op op_cat (pv 2) (pe_op op_rep (pe_lst (pa_cons pe_int pa_nil)) (pe_op op_sub (pv 3) (pe_callB call_len_seq (by rfl) T.b_len PySem.boot_len (pa_cons (pv 2) pa_nil))))) pa_nil)) (by rfl))
  (pss_one (ps_ret (C8.pe_c (c_without_end T) hr (by decide) (by rfl) (pa_cons (pe_lc (own := [("first", 6), ("second", 7)]) (g := (gTup K 2 (gCons (gName 6) (gCons (gName 7) gNil)))) (tt := tYes) (te := (tOp oMod (tOp oSub (tVar 6) (tVar 7)) (tVar 0))) (by rfl) sc_poly_less.nd (pi_zip (by rfl) T.b_zip (pa_cons (pv 4) (pa_cons (pv 5) pa_nil))) (blkOk_by (own := [("first", 6), ("second", 7)]) (N := N_poly_less) (sc := defScope s_poly_less) (by decide +kernel)) (fun _ _ _ _ _ => (pg_tup (by rfl) (pgs_cons (pg_name (i := 6) sc_poly_less.nd rfl (Or.inl rfl)) (pgs_cons (pg_name (i := 7) sc_poly_less.nd rfl (Or.inl rfl)) pgs_nil)))) (fun _ _ _ _ _ => pts_nil) (fun _ _ _ _ _ => (pe_op op_mod (pe_op op_sub (pv 6) (pv 7)) (pv 0)))) pa_nil))))))
theorem pure_poly_less (T : Txt K mg) {vs : List V} {H : Hp} {Q : VK} {E : XK} (h : sp_poly_less K vs H Q E) : t_poly_less K { nx := fun _ H' => Q .non H', rt := Q } (L2.start N_poly_less vs) H := by
  obtain ⟨a, b, k, one, other, rfl, ha, hb, l1, l2, ret⟩ := h
  have hp2 := k.p_two
  refine ⟨_, rfl, a, _, rfl, .inl (SqL.of ha), _, rfl, b, _, rfl, .inl (SqL.of hb), _, _, rfl, ?_⟩
  rw [iV_len, iV_len]
  generalize hmx : (if (other.length : Int) > (one.length : Int) then (other.length : Int) else (one.length : Int)) = mx
  have hmx2 : mx = ((max one.length other.length : Nat) : Int) := by
    rw [← hmx]; split <;> omega
  subst hmx2
  unfold polyLess at ret
  generalize hn : max one.length other.length = n at *
  have h1 : one.length ≤ n := by omega
  have h2 : other.length ≤ n := by omega
  have h3 : n ≤ 40 := by omega
  refine ⟨_, rfl, Nat.le_trans (Nat.le_refl 1) (by decide), fun z hz => ?_⟩
  have s1 : Same H (upd H z (.lst [V.int 0])) := sm_upd hz
  refine ⟨_, rfl, _, rfl, a, _, rfl, .inl (SqL.of (s1 _ _ ha)), _, _, rfl, rfl, z, _, _, rfl, rfl, upd_same, by rw [iV_len]; omega, by rw [iV_len]; omega, small' (by rw [iV_len]; simp; omega), fun z2 hz2 => ?_⟩
  have e1 : ((n : Int) - ((iV one).length : Int)).toNat = n - one.length := by rw [iV_len]; omega
  rw [e1, rep1]
  have hza : a ≠ z := fun e => by rw [e, hz] at ha; cases ha
  have s2 := sm_upd' s1 hz2 (o := .lst (List.replicate (n - one.length) (V.int 0)))
  refine ⟨a, z2, _, _, rfl, rfl, s2 _ _ ha, upd_same, small' (by rw [iV_len]; simp; omega), fun N hN => ?_⟩
  rw [iV_wider]
  have s3 := sm_upd' s2 hN (o := .lst (iV (wider n one)))
  generalize hH3 : upd (upd (upd H z (.lst [V.int 0])) z2 (.lst (List.replicate (n - one.length) (V.int 0)))) N (.lst (iV (wider n one))) = H3 at s3
  have hN3 : H3 N = some (.lst (iV (wider n one))) := by rw [← hH3]; exact upd_same
  refine ⟨_, rfl, Nat.le_trans (Nat.le_refl 1) (by decide), fun y hy => ?_⟩
  have s4 : Same H3 (upd H3 y (.lst [V.int 0])) := sm_upd hy
  refine ⟨_, rfl, _, rfl, b, _, rfl, .inl (SqL.of (s4 _ _ (s3 _ _ hb))), _, _, rfl, rfl, y, _, _, rfl, rfl, upd_same, by rw [iV_len]; omega, by rw [iV_len]; omega, small' (by rw [iV_len]; simp; omega), fun y2 hy2 => ?_⟩
  have e2 : ((n : Int) - ((iV other).length : Int)).toNat = n - other.length := by rw [iV_len]; omega
  rw [e2, rep1]
  have s5 := sm_upd' s4 hy2 (o := .lst (List.replicate (n - other.length) (V.int 0)))
  refine ⟨b, y2, _, _, rfl, rfl, s5 _ _ (s3 _ _ hb), upd_same, small' (by rw [iV_len]; simp; omega), fun M hM => ⟨_, _, rfl, ?_⟩⟩
  rw [iV_wider]
  have s6 := sm_upd' s5 hM (o := .lst (iV (wider n other)))
  generalize hH6 : upd (upd (upd H3 y (.lst [V.int 0])) y2 (.lst (List.replicate (n - other.length) (V.int 0)))) M (.lst (iV (wider n other))) = H6 at s6
  have hM6 : H6 M = some (.lst (iV (wider n other))) := by rw [← hH6]; exact upd_same
  have hN6 := s6 _ _ hN3
  refine ⟨_, rfl, _, rfl, N, M, _, _, rfl, SqL.of hN6, SqL.of hM6, fun D hD => ?_⟩
  have w1 := wider_len h1
  have w2 := wider_len h2
  have hzl : (List.zipWith (fun a b => (a - b) % (k.p : Int)) (wider n one) (wider n other)).length = n := by simp [w1, w2]
  refine lc_it (walk_zip (xs := iV (wider n one)) (ys := iV (wider n other)) (n := n) (by rw [iV_len, iV_len, w1, w2, Nat.min_self])) (LcP H6 D fun i => iV ((List.zipWith (fun a b => (a - b) % (k.p : Int)) (wider n one) (wider n other)).take i)) (lcp_start hD rfl) (fun i H' _ h => ⟨h.1.seq (SqL.of hN6), h.1.seq (SqL.of hM6)⟩) ?_ ?_
  · intro i v H' H'' hi hp yy
    obtain ⟨t, g1, g2, rfl, ht, rfl⟩ := zipI_of yy
    refine pair_tgt upd_same ⟨rfl, lcY ?_⟩
    refine ⟨_, rfl, _, rfl, _, _, rfl, rfl, _, rfl, _, _, rfl, rfl, by omega, ?_⟩
    refine lcp_next hD hp (sm_upd ht) ?_ (small (by rw [iV_len, List.length_take]; omega))
    have : (List.zipWith (fun a b => (a - b) % (k.p : Int)) (wider n one) (wider n other))[i]? = some (((wider n one).getD i 0 - (wider n other).getD i 0) % (k.p : Int)) := by
      rw [List.getElem?_zipWith, List.getElem?_eq_getElem g1, List.getElem?_eq_getElem g2, List.getD_eq_getElem?_getD, List.getD_eq_getElem?_getD, List.getElem?_eq_getElem g1, List.getElem?_eq_getElem g2]; rfl
    rw [take_succ' this]
    unfold iV; rw [List.map_append]; rfl
  intro H7 p7
  have h7 := p7.2
  dsimp only at h7
  rw [List.take_of_length_le (by omega)] at h7
  refine ⟨D, _, rfl, h7, by omega, fun H8 q s8 n8 e8 => ?_⟩
  have sA := s3.trans (s6.trans p7.1)
  exact ret _ q (sA.trans s8) (nn sA n8) e8
theorem len_poly_less {vs : List V} {H : Hp} {Q : VK} {E : XK} (h : sp_poly_less K vs H Q E) : vs.length = 3 := by
  obtain ⟨a, b, k, one, other, rfl, _⟩ := h; rfl
theorem c_poly_less (T : Txt K mg) : C8.Cal P w K mg base 3 "poly_less" (sp_poly_less K) [] :=
  cal_of (k := 2) (ps := ["prime", "one", "other"]) T.d_poly_less (fun _ _ _ _ _ _ us hl => match us, hl with | [_, _, _], _ => rfl) sc_poly_less (fun vs H Q E h => len_poly_less h) fun f cdv A outer s H vs Q E hr h => ⟨_, ps_poly_less T hr, pure_poly_less T h⟩
def sp_are_apart (K : PySem.W.Frag) : Sp := fun vs H Q _ => ∃ (a b : Addr) (k : Kd) (one other : List Int) (n : Nat) (r : Bool), vs = [.int (k.p : Int), .ref a, .ref b] ∧ H a = some (.lst (iV one)) ∧ H b = some (.lst (iV other)) ∧ apLoop k.p n one other = some r ∧ RetV H Q (.bl r)
abbrev N_are_apart : List Str := ["prime", "one", "other", "near", "far"]
theorem sc_are_apart : FnScope N_are_apart ["prime", "one", "other"] (defScope s_are_apart) := ⟨rfl, rfl, rfl, by decide +kernel, rfl, by decide +kernel, by decide +kernel⟩
def t_are_apart (K : PySem.W.Frag) : TS :=
  (tSeq (tPar 3 4 (tCons (tVar 1) (tCons (tVar 2) tNil)))
  (tSeq (tWhile (tTest (tOp oGt (tCB (cLen K) (tCons (tVar 4) tNil)) (tC (.int 0)))) (tPar 3 4 (tCons (tVar 4) (tCons (tCall (sp_poly_rest K) [] E0 (tCons (tVar 0) (tCons (tVar 3) (tCons (tVar 4) tNil)))) tNil))))
  (tRet (tOp rEq (tCB (cLen K) (tCons (tVar 3) tNil)) (tC (.int 1))))))
theorem ps_are_apart {f : Addr} {cdv : Value} {A : Around} {outer : List Env} {s : Shared} {H : Hp} {E : XK} (T : Txt K mg) (hr : Room 3 (A.deeper (envOfC "are_apart" (defScope s_are_apart) s.heap.objs.size f cdv))) :
    PSs (cxOf CX0 P w K mg base N_are_apart "are_apart" (defScope s_are_apart) f cdv A outer s H E).nox (defBody s_are_apart) (t_are_apart K) := by
  exact (pss_cons (ps_par (i := 3) (j := 4) (by rfl) sc_are_apart.nd rfl rfl (by decide) rfl rfl (pa_cons (pv 1) (pa_cons (pv 2) pa_nil)) (by rfl))
  (pss_cons (ps_while PassesOwn.never (pt_cmpR op_gt (pe_callB call_len_seq (by rfl) T.b_len PySem.boot_len (pa_cons (pv 4) pa_nil)) pe_int (nomark _)) (pss_one (ps_par (i := 3) (j := 4) (by rfl) sc_are_apart.nd rfl rfl (by decide) rfl rfl (pa_cons (pv 4) (pa_cons (C8.pe_c (c_poly_rest T) hr (by decide) (by rfl) (pa_cons (pv 0) (pa_cons (pv 3) (pa_cons (pv 4) pa_nil)))) pa_nil)) (by rfl))))
  (pss_one (ps_ret (pe_cmpR op_eq (pe_callB call_len_seq (by rfl) T.b_len PySem.boot_len (pa_cons (pv 3) pa_nil)) pe_int (nomark _))))))
theorem pure_are_apart (T : Txt K mg) {vs : List V} {H : Hp} {Q : VK} {E : XK} (h : sp_are_apart K vs H Q E) : t_are_apart K { nx := fun _ H' => Q .non H', rt := Q } (L2.start N_are_apart vs) H := by
  obtain ⟨a, b, k, one, other, n, r, rfl, ha, hb, hr, ret⟩ := h
  refine ⟨_, rfl, _, rfl, _, _, rfl, ?_⟩
  refine ⟨fun m σ H' => ∃ (x y : Addr) (near far : List Int), σ = [some (.int (k.p : Int)), some (.ref a), some (.ref b), some (.ref x), some (.ref y)] ∧ Same H H' ∧ H' x = some (.lst (iV near)) ∧ H' y = some (.lst (iV far)) ∧ apLoop k.p m near far = some r,
    ⟨n, a, b, one, other, rfl, Same.refl H, ha, hb, hr⟩, ?_⟩
  rintro m σ H' ⟨x, y, near, far, rfl, s, hx, hy, hl⟩
  refine ⟨_, rfl, y, _, rfl, .inl (SqL.of hy), _, _, rfl, rfl, _, rfl, ?_⟩
  rw [iV_len]
  cases m with
  | zero => cases hl
  | succ m =>
  unfold apLoop at hl
  refine ite2 (fun hc => ?_) (fun hc => ?_)
  · have h0 : 0 < far.length := by have := of_decide_eq_true hc; omega
    rw [if_pos h0] at hl
    refine ⟨_, fun σ' H' h => h, ?_⟩
    cases hpr : polyRest k.p near far with
    | none => rw [hpr] at hl; cases hl
    | some q =>
      rw [hpr] at hl
      refine ⟨_, rfl, _, rfl, _, rfl, _, rfl, x, y, k, near, far, q, rfl, hx, hy, hpr, fun H2 z s2 n2 e2 => ⟨_, _, rfl, ?_⟩⟩
      exact ⟨m, Nat.lt_succ_self m, y, z, far, q, rfl, s.trans s2, s2 _ _ hy, e2, hl⟩
  · have h0 : ¬ 0 < far.length := fun e => hc (decide_eq_true (by omega))
    rw [if_neg h0] at hl
    obtain rfl := Option.some.inj hl
    refine ⟨_, rfl, x, _, rfl, .inl (SqL.of hx), rfl, ?_⟩
    rw [iV_len]
    have e : decide (V.int (near.length : Int) = V.int 1) = decide (near.length = 1) := by
      by_cases q : near.length = 1
      · rw [q]; rfl
      · rw [decide_eq_false q, decide_eq_false]
        intro z; exact q (by have := V.int.inj z; omega)
    rw [e]
    exact ret _ s
theorem len_are_apart {vs : List V} {H : Hp} {Q : VK} {E : XK} (h : sp_are_apart K vs H Q E) : vs.length = 3 := by
  obtain ⟨a, b, k, one, other, n, r, rfl, _⟩ := h; rfl
theorem c_are_apart (T : Txt K mg) : C8.Cal P w K mg base 4 "are_apart" (sp_are_apart K) [] :=
  cal_of (k := 3) (ps := ["prime", "one", "other"]) T.d_are_apart (fun _ _ _ _ _ _ us hl => match us, hl with | [_, _, _], _ => rfl) sc_are_apart (fun vs H Q E h => len_are_apart h) fun f cdv A outer s H vs Q E hr h => ⟨_, ps_are_apart T hr, pure_are_apart T h⟩
def sp_is_prime (K : PySem.W.Frag) : Sp := fun vs H Q _ => ∃ (n : Nat), vs = [.int (n : Int)] ∧ n ≤ 100 ∧ RetV H Q (.bl (ip n))
abbrev N_is_prime : List Str := ["number", "less"]
theorem sc_is_prime : FnScope N_is_prime ["number"] (defScope s_is_prime) := ⟨rfl, rfl, rfl, by decide +kernel, rfl, by decide +kernel, by decide +kernel⟩
def t_is_prime (K : PySem.W.Frag) : TS :=
  (tRet (tCB (rAll K) (tCons (tLc (iRng2 (tCons (tC (.int 2)) (tCons (tVar 0) tNil))) (gName 1) tYes (tOp rNe (tOp oMod (tVar 0) (tVar 1)) (tC (.int 0))) [1]) tNil)))
theorem ps_is_prime {f : Addr} {cdv : Value} {A : Around} {outer : List Env} {s : Shared} {H : Hp} {E : XK} (T : Txt K mg) (hr : Room 1 (A.deeper (envOfC "is_prime" (defScope s_is_prime) s.heap.objs.size f cdv))) :
    PSs (cxOf CX0 P w K mg base N_is_prime "is_prime" (defScope s_is_prime) f cdv A outer s H E).nox (defBody s_is_prime) (t_is_prime K) := by
  exact (pss_one (ps_ret (pe_callB (cr_all rfl) (by rfl) T.b_all (by decide +kernel) (pa_cons (pe_lc (own := [("less", 1)]) (g := (gName 1)) (tt := tYes) (te := (tOp rNe (tOp oMod (tVar 0) (tVar 1)) (tC (.int 0)))) (by rfl) sc_is_prime.nd (pi_range2 (by rfl) T.b_range (pa_cons pe_int (pa_cons (pv 0) pa_nil))) (blkOk_by (own := [("less", 1)]) (N := N_is_prime) (sc := defScope s_is_prime) (by decide +kernel)) (fun _ _ _ _ _ => (pg_name (i := 1) sc_is_prime.nd rfl (Or.inl rfl))) (fun _ _ _ _ _ => pts_nil) (fun _ _ _ _ _ => (pe_cmpR op_ne (pe_op op_mod (pv 0) (pv 1)) pe_int (nomark _)))) pa_nil))))
theorem pure_is_prime (T : Txt K mg) {vs : List V} {H : Hp} {Q : VK} {E : XK} (h : sp_is_prime K vs H Q E) : t_is_prime K { nx := fun _ H' => Q .non H', rt := Q } (L2.start N_is_prime vs) H := by
  obtain ⟨n, rfl, hn, ret⟩ := h
  refine ⟨_, rfl, 2, _, rfl, ⟨by omega, by omega, by omega, by omega⟩, fun D hD => ?_⟩
  have en : ((n : Int) - 2).toNat = n - 2 := by omega
  rw [en]
  refine lc_range (lo := 2) (n := n - 2) (LcP H D fun i => ((List.range i).map fun s => decide (n % (s + 2) ≠ 0)).map V.bl) (lcp_start hD rfl) ?_ ?_
  · intro i H' hi hP
    refine ⟨rfl, lcY ?_⟩
    refine ⟨_, rfl, _, rfl, _, _, rfl, rfl, by omega, rfl, ?_⟩
    refine lcp_next hD hP (Same.refl _) ?_ (small (by simp; omega))
    rw [List.range_succ, List.map_append, List.map_append]
    have e : (n : Int) % (2 + (i : Int)) = ((n % (i + 2) : Nat) : Int) := by
      rw [Int.natCast_emod, Int.natCast_add, Int.add_comm 2]; rfl
    have e2 : (!decide (V.int ((n : Int) % (2 + (i : Int))) = V.int 0)) = decide (n % (i + 2) ≠ 0) := by
      rw [e]; exact eqv0 _
    dsimp only
    rw [e2]; rfl
  intro H2 p2
  have h2 := p2.2
  dsimp only at h2
  refine ⟨D, _, rfl, SqL.of h2, ?_⟩
  have e : ((List.range (n - 2)).map fun s => decide (n % (s + 2) ≠ 0)).all id = ip n := by
    unfold ip; rw [List.all_map]; rfl
  rw [e]
  exact ret _ p2.1
theorem len_is_prime {vs : List V} {H : Hp} {Q : VK} {E : XK} (h : sp_is_prime K vs H Q E) : vs.length = 1 := by
  obtain ⟨n, rfl, _⟩ := h; rfl
theorem c_is_prime (T : Txt K mg) : C8.Cal P w K mg base 2 "is_prime" (sp_is_prime K) [] :=
  cal_of (k := 1) (ps := ["number"]) T.d_is_prime (fun _ _ _ _ _ _ us hl => match us, hl with | [_], _ => rfl) sc_is_prime (fun vs H Q E h => len_is_prime h) fun f cdv A outer s H vs Q E hr h => ⟨_, ps_is_prime T hr, pure_is_prime T h⟩
end
end Tp
namespace Tp
open PySem PySem.Spec PyProof.Rows L2 Gab
theorem powT_le {p : Nat} {md x : List Int} : ∀ {n : Nat} {r : List Int}, powT p md x n = some r → ∀ i, i ≤ n → ∃ h, powT p md x i = some h
  | 0, r, h, i, hi => ⟨r, by rw [Nat.le_zero.mp hi]; exact h⟩
  | n + 1, r, h, i, hi => by
    by_cases e : i = n + 1
    · exact ⟨r, by rw [e]; exact h⟩
    · unfold powT at h
      cases q : powT p md x n with
      | none => rw [q] at h; cases h
      | some y => exact powT_le q i (by omega)
theorem powT_succ {p : Nat} {md x h y : List Int} {n : Nat} (e : powT p md x n = some h) (e2 : powT p md x (n + 1) = some y) : polyTimes p h x md = some y := by
  unfold powT at e2
  rw [e] at e2; exact e2
theorem lts_len (k : Kd) : (lts k).length = k.n + 1 := by simp [lts]
theorem lts_get {k : Kd} {i : Nat} (h : i < (lts k).length) : (lts k)[i] = (lts k).getD i [] := by
  rw [List.getD_eq_getElem?_getD, List.getElem?_eq_getElem h]; rfl
/-- the letter's turns in the heap -/
abbrev RowsI (H : Hp) (rs : List Addr) (xss : List (List Int)) : Prop := Rows H rs (xss.map iV)
theorem RowsI.get {H : Hp} {rs : List Addr} {xss : List (List Int)} (h : RowsI H rs xss) {i : Nat} (hi : i < xss.length) : ∃ q, (rs.map V.ref)[i]? = some (.ref q) ∧ H q = some (.lst (iV (xss.getD i []))) := by
  obtain ⟨q, hq, hc⟩ := h.at (i := i) (by simpa using hi)
  refine ⟨q, by rw [List.getElem?_map, hq]; rfl, ?_⟩
  rw [hc]
  simp [List.getD_eq_getElem?_getD, List.getElem?_eq_getElem hi]
section
variable {P : Program} {w : World} {K : PySem.W.Frag} {mg : Str → Option Value} {base : Heap}
def sp_letter_turns (K : PySem.W.Frag) : Sp := fun vs H Q _ => ∃ (a : Addr) (k : Kd), vs = [.int (k.p : Int), .ref a] ∧ H a = some (.lst (iV k.md)) ∧ ∀ H' L (rs : List Addr), Same H H' → H' L = some (.lst (rs.map V.ref)) → RowsI H' rs (lts k) → Q (.ref L) H'
abbrev N_letter_turns : List Str := ["prime", "modulus", "found", "turn", "here", "factor"]
theorem sc_letter_turns : FnScope N_letter_turns ["prime", "modulus"] (defScope s_letter_turns) := ⟨rfl, rfl, rfl, by decide +kernel, rfl, by decide +kernel, by decide +kernel⟩
def t_letter_turns (K : PySem.W.Frag) : TS :=
  (tSeq (tAsg (tLst (tCons (tCall (sp_poly_rest K) [] E0 (tCons (tVar 0) (tCons (tLst (tCons (tC (.int 0)) (tCons (tC (.int 1)) tNil))) (tCons (tVar 1) tNil)))) tNil)) (gName 2))
  (tSeq (tFor (iRng1 (tCons (tOp oSub (tCB (cLen K) (tCons (tVar 1) tNil)) (tC (.int 1))) tNil)) (gName 3) (tSeq (tAsg (tLst (tCons (tC (.int 1)) tNil)) (gName 4))
  (tSeq (tFor (iRng1 (tCons (tVar 0) tNil)) (gName 5) (tAsg (tCall (sp_poly_times K) [] E0 (tCons (tVar 0) (tCons (tVar 4) (tCons (tOp (rIxL K) (tVar 2) (tUn uNeg (tC (.int 1)))) (tCons (tVar 1) tNil))))) (gName 4)))
  (tDrop (tBM K "list" rAppend (tVar 2) (tCons (tVar 4) tNil))))))
  (tRet (tVar 2))))
theorem ps_letter_turns {f : Addr} {cdv : Value} {A : Around} {outer : List Env} {s : Shared} {H : Hp} {E : XK} (T : Txt K mg) (hr : Room 4 (A.deeper (envOfC "letter_turns" (defScope s_letter_turns) s.heap.objs.size f cdv))) :
    PSs (cxOf CX0 P w K mg base N_letter_turns "letter_turns" (defScope s_letter_turns) f cdv A outer s H E).nox (defBody s_letter_turns) (t_letter_turns K) := by
  exact (pss_cons (ps_set (i := 2) sc_letter_turns.nd rfl (Or.inl rfl) (pe_lst (pa_cons (C8.pe_c (c_poly_rest T) hr (by decide) (by rfl) (pa_cons (pv 0) (pa_cons (pe_lst (pa_cons pe_int (pa_cons pe_int pa_nil))) (pa_cons (pv 1) pa_nil)))) pa_nil)))
  (pss_cons (ps_for PassesOwn.never rfl (pi_range1 (by rfl) T.b_range (pa_cons (pe_op op_sub (pe_callB call_len_seq (by rfl) T.b_len PySem.boot_len (pa_cons (pv 1) pa_nil)) pe_int) pa_nil)) (pg_name (i := 3) sc_letter_turns.nd rfl (Or.inl rfl)) (pss_cons (ps_set (i := 4) sc_letter_turns.nd rfl (Or.inl rfl) (pe_lst (pa_cons pe_int pa_nil)))
  (pss_cons (ps_for PassesOwn.never rfl (pi_range1 (by rfl) T.b_range (pa_cons (pv 0) pa_nil)) (pg_name (i := 5) sc_letter_turns.nd rfl (Or.inl rfl)) (pss_one (ps_set (i := 4) sc_letter_turns.nd rfl (Or.inl rfl) (C8.pe_c (c_poly_times T) hr (by decide) (by rfl) (pa_cons (pv 0) (pa_cons (pv 4) (pa_cons (pe_ix ix_list (pv 2) (pe_un un_neg pe_int) (fun _ _ => rfl)) (pa_cons (pv 1) pa_nil))))))))
  (pss_one (ps_expr (pe_bm PySem.F.plainAttrs_list PySem.F.slot_list_append PySem.F.type_list_append mt_append (pv 2) (pa_cons (pv 4) pa_nil)))))))
  (pss_one (ps_ret (pv 2)))))
theorem pure_letter_turns (T : Txt K mg) {vs : List V} {H : Hp} {Q : VK} {E : XK} (h : sp_letter_turns K vs H Q E) : t_letter_turns K { nx := fun _ H' => Q .non H', rt := Q } (L2.start N_letter_turns vs) H := by
  obtain ⟨a, k, rfl, ha, ret⟩ := h
  have hp2 := k.p_two
  have hp3 := k.p_le
  have hn1 := k.n_ge
  have hn2 := k.n_le
  have hml := md_len k
  have hll := lts_len k
  refine ⟨_, rfl, by show 2 ≤ sizeLine; decide, fun z hz => ⟨_, rfl, ?_⟩⟩
  have s1 := sm_upd hz (o := .lst [V.int 0, V.int 1])
  refine ⟨z, a, k, [0, 1], k.md, _, rfl, upd_same, s1 _ _ ha, lts_ok k 0 (by omega), fun H1 q0 s2 n2 e2 => ⟨Nat.le_trans (Nat.le_refl 1) (by decide), fun L hL => ?_⟩⟩
  have s12 := s1.trans s2
  have nL := nn s12 hL
  have s3 := sm_upd hL (o := .lst [V.ref q0])
  refine ⟨_, rfl, a, _, rfl, .inl (SqL.of (s3 _ _ (s12 _ _ ha))), _, _, rfl, rfl, _, rfl, by rw [iV_len]; omega, by rw [iV_len]; omega, ?_⟩
  have en : (((iV k.md).length : Int) - 1).toNat = k.n := by rw [iV_len]; omega
  rw [en]
  refine for_range (lo := 0) (n := k.n) (fun j σ H' => ∃ (rs : List Addr) (v3 v4 v5 : Option V), σ = [some (.int (k.p : Int)), some (.ref a), some (.ref L), v3, v4, v5] ∧ Same H H' ∧ H' L = some (.lst (rs.map V.ref)) ∧ RowsI H' rs ((lts k).take (j + 1)) ∧ L ∉ rs) ?_ ?_ ?_
  · refine ⟨[q0], none, none, none, rfl, s12.trans s3, upd_same, ?_, ?_⟩
    · have e : ((lts k).take (0 + 1)).map iV = [] ++ [iV ((lts k).getD 0 [])] := by
        rw [take_succ' (List.getElem?_eq_getElem (by omega)), lts_get (by omega)]; rfl
      show Rows _ _ _
      rw [e]
      exact Rows.nil.snoc (s3 _ _ e2)
    · intro hm
      have : L = q0 := by simpa using hm
      rw [this, e2] at hL; cases hL
  · rintro j σ H' hj ⟨rs, v3, v4, v5, rfl, s, hL', hrs, hLr⟩
    have hrl : rs.length = j + 1 := by rw [hrs.1, List.length_map, List.length_take]; omega
    refine ⟨Nat.le_trans (Nat.le_refl 1) (by decide), fun y hy => ?_⟩
    have s4 := sm_upd hy (o := .lst [V.int 1])
    refine ⟨_, rfl, _, rfl, by omega, by omega, ?_⟩
    have ep : ((k.p : Nat) : Int).toNat = k.p := by omega
    rw [ep]
    have hlt := lts_ok k (j + 1) (by omega)
    have hlj := lts_ok k j (by omega)
    generalize hxj : (lts k).getD j [] = xj at *
    have hpw : powT k.p k.md xj k.p = some ((lts k).getD (j + 1) []) := by
      unfold letter at hlt
      rw [hlj] at hlt; exact hlt
    refine for_range (lo := 0) (n := k.p) (fun i σ H2 => ∃ (h : Addr) (x : List Int) (v5 : Option V), σ = [some (.int (k.p : Int)), some (.ref a), some (.ref L), some (.int (0 + (j : Int))), some (.ref h), v5] ∧ Same H' H2 ∧ H' h = none ∧ H2 h = some (.lst (iV x)) ∧ powT k.p k.md xj i = some x) ?_ ?_ ?_
    · exact ⟨y, [1], v5, rfl, s4, hy, upd_same, rfl⟩
    · rintro i σ H2 hi ⟨h, x, w5, rfl, s5, nh, hh, hx⟩
      obtain ⟨x', hx'⟩ := powT_le hpw (i + 1) (by omega)
      have hpt := powT_succ hx hx'
      have hrs2 := hrs.same s5
      obtain ⟨q, hq, hqc⟩ := RowsI.get (xss := (lts k).take (j + 1)) hrs2 (i := j) (by rw [List.length_take]; omega)
      have eqq : ((lts k).take (j + 1)).getD j [] = xj := by
        rw [← hxj, List.getD_eq_getElem?_getD, List.getD_eq_getElem?_getD, List.getElem?_take_of_lt (by omega)]
      rw [eqq] at hqc
      refine ⟨_, rfl, _, rfl, _, rfl, _, rfl, L, _, _, _, rfl, rfl, SqL.of (s5 _ _ hL'), atI_last' (by rw [List.length_map, hrl]; exact hq), _, rfl, ?_⟩
      refine ⟨h, q, a, k, x, xj, k.md, x', rfl, hh, hqc, s5 _ _ (s _ _ ha), hpt, fun H3 h3 s6 n6 e6 => ?_⟩
      exact ⟨h3, x', _, rfl, s5.trans s6, nn s5 n6, e6, hx'⟩
    · rintro σ H2 ⟨h, x, w5, rfl, s5, nh, hh, hx⟩
      rw [hpw] at hx
      obtain rfl := Option.some.inj hx
      have hL2 := s5 _ _ hL'
      refine ⟨_, rfl, .inl ⟨rfl, _, SqL.of hL2⟩, _, rfl, L, _, _, rfl, rfl, hL2, small (by simp [hrl]; omega), ?_⟩
      have hLh : L ≠ h := fun e => by rw [← e, hL'] at nh; cases nh
      refine ⟨rs ++ [h], _, _, _, rfl, sm_set (s.trans s5) nL, by rw [upd_same, List.map_append]; rfl, ?_, by simp [hLr, hLh]⟩
      have e : ((lts k).take (j + 1 + 1)).map iV = ((lts k).take (j + 1)).map iV ++ [iV ((lts k).getD (j + 1) [])] := by
        rw [take_succ' (List.getElem?_eq_getElem (by omega : j + 1 < (lts k).length)), List.map_append, lts_get (by omega)]; rfl
      show Rows _ _ _
      rw [e]
      exact ((hrs.same s5).snoc hh).upd (by simp [hLr, hLh])
  · rintro σ H' ⟨rs, v3, v4, v5, rfl, s, hL', hrs, hLr⟩
    rw [List.take_of_length_le (by omega)] at hrs
    exact ⟨_, rfl, ret _ L rs s hL' hrs⟩
theorem len_letter_turns {vs : List V} {H : Hp} {Q : VK} {E : XK} (h : sp_letter_turns K vs H Q E) : vs.length = 2 := by
  obtain ⟨a, k, rfl, _⟩ := h; rfl
theorem c_letter_turns (T : Txt K mg) : C8.Cal P w K mg base 5 "letter_turns" (sp_letter_turns K) [] :=
  cal_of (k := 4) (ps := ["prime", "modulus"]) T.d_letter_turns (fun _ _ _ _ _ _ us hl => match us, hl with | [_, _], _ => rfl) sc_letter_turns (fun vs H Q E h => len_letter_turns h) fun f cdv A outer s H vs Q E hr h => ⟨_, ps_letter_turns T hr, pure_letter_turns T h⟩
def sp_is_single (K : PySem.W.Frag) : Sp := fun vs H Q _ => ∃ (a : Addr) (k : Kd), vs = [.int (k.p : Int), .ref a] ∧ H a = some (.lst (iV k.md)) ∧ RetV H Q (.bl true)
abbrev N_is_single : List Str := ["prime", "modulus", "many", "found", "parts", "less"]
theorem sc_is_single : FnScope N_is_single ["prime", "modulus"] (defScope s_is_single) := ⟨rfl, rfl, rfl, by decide +kernel, rfl, by decide +kernel, by decide +kernel⟩
def t_is_single (K : PySem.W.Frag) : TS :=
  (tSeq (tAsg (tTup (tCons (tOp oSub (tCB (cLen K) (tCons (tVar 1) tNil)) (tC (.int 1))) (tCons (tCall (sp_letter_turns K) [] E0 (tCons (tVar 0) (tCons (tVar 1) tNil))) tNil))) (gTup K 2 (gCons (gName 2) (gCons (gName 3) gNil))))
  (tSeq (tIfS (tTest (tOp (rNeD K) (tOp (rIxL K) (tVar 3) (tVar 2)) (tOp (rIxL K) (tVar 3) (tC (.int 0))))) (tRet (tC (.bl false))) tNext)
  (tSeq (tAsg (tLc (iRng2 (tCons (tC (.int 2)) (tCons (tOp oAdd (tVar 2) (tC (.int 1))) tNil))) (gName 5) (tAnd (tTest (tOp rEq (tOp oMod (tVar 2) (tVar 5)) (tC (.int 0)))) (tB (tCall (sp_is_prime K) [] E0 (tCons (tVar 5) tNil)))) (tVar 5) [5]) (gName 4))
  (tRet (tCB (rAll K) (tCons (tLc (iList K (tVar 4)) (gName 5) tYes (tCall (sp_are_apart K) [] E0 (tCons (tVar 0) (tCons (tCB (cList K) (tCons (tVar 1) tNil)) (tCons (tCall (sp_poly_less K) [] E0 (tCons (tVar 0) (tCons (tOp (rIxL K) (tVar 3) (tOp oDiv (tVar 2) (tVar 5))) (tCons (tOp (rIxL K) (tVar 3) (tC (.int 0))) tNil)))) tNil)))) [5]) tNil))))))
theorem ps_is_single {f : Addr} {cdv : Value} {A : Around} {outer : List Env} {s : Shared} {H : Hp} {E : XK} (T : Txt K mg) (hr : Room 5 (A.deeper (envOfC "is_single" (defScope s_is_single) s.heap.objs.size f cdv))) :
    PSs (cxOf CX0 P w K mg base N_is_single "is_single" (defScope s_is_single) f cdv A outer s H E).nox (defBody s_is_single) (t_is_single K) := by
  exact (pss_cons (ps_asg (pe_tup (pa_cons (pe_op op_sub (pe_callB call_len_seq (by rfl) T.b_len PySem.boot_len (pa_cons (pv 1) pa_nil)) pe_int) (pa_cons (C8.pe_c (c_letter_turns T) hr (by decide) (by rfl) (pa_cons (pv 0) (pa_cons (pv 1) pa_nil))) pa_nil))) (pg_tup (by rfl) (pgs_cons (pg_name (i := 2) sc_is_single.nd rfl (Or.inr rfl)) (pgs_cons (pg_name (i := 3) sc_is_single.nd rfl (Or.inr rfl)) pgs_nil))))
  (pss_cons (ps_if (pt_cmpR (op_neD hr.units) (pe_ix ix_list (pv 3) (pv 2) (fun _ _ => rfl)) (pe_ix ix_list (pv 3) pe_int (fun _ _ => rfl)) (nomark _)) (pss_one (ps_ret pe_bl)) pss_nil)
  (pss_cons (ps_setLc (i := 4) (own := [("less", 5)]) (g := (gName 5)) (tt := (tAnd (tTest (tOp rEq (tOp oMod (tVar 2) (tVar 5)) (tC (.int 0)))) (tB (tCall (sp_is_prime K) [] E0 (tCons (tVar 5) tNil))))) (te := (tVar 5)) (by rfl) sc_is_single.nd rfl rfl (sw_true rfl rfl rfl (by decide +kernel)) (pi_range2 (by rfl) T.b_range (pa_cons pe_int (pa_cons (pe_op op_add (pv 2) pe_int) pa_nil))) (blkOk_by (own := [("less", 5)]) (N := N_is_single) (sc := defScope s_is_single) (by decide +kernel)) (fun _ _ _ _ _ => (pg_name (i := 5) sc_is_single.nd rfl (Or.inl rfl))) (fun _ _ _ _ _ => (pts_one (PW.pt (pw_and (pt_cmpR op_eq (pe_op op_mod (pv 2) (pv 5)) pe_int (nomark _)) (pw_and1 (pt_val (C8.pe_c (c_is_prime T) hr (by decide) (by rfl) (pa_cons (pv 5) pa_nil)))))))) (fun _ _ _ _ _ => (pv 5)))
  (pss_one (ps_ret (pe_callB (cr_all rfl) (by rfl) T.b_all (by decide +kernel) (pa_cons (pe_lc (own := [("less", 5)]) (g := (gName 5)) (tt := tYes) (te := (tCall (sp_are_apart K) [] E0 (tCons (tVar 0) (tCons (tCB (cList K) (tCons (tVar 1) tNil)) (tCons (tCall (sp_poly_less K) [] E0 (tCons (tVar 0) (tCons (tOp (rIxL K) (tVar 3) (tOp oDiv (tVar 2) (tVar 5))) (tCons (tOp (rIxL K) (tVar 3) (tC (.int 0))) tNil)))) tNil))))) (by rfl) sc_is_single.nd (pi_list (pv 4)) (blkOk_by (own := [("less", 5)]) (N := N_is_single) (sc := defScope s_is_single) (by decide +kernel)) (fun _ _ _ _ _ => (pg_name (i := 5) sc_is_single.nd rfl (Or.inl rfl))) (fun _ _ _ _ _ => pts_nil) (fun _ _ _ _ _ => (C8.pe_c (c_are_apart T) hr (by decide) (by rfl) (pa_cons (pv 0) (pa_cons (pe_callTy call_list_of (by rfl) T.b_list (by decide +kernel) (pa_cons (pv 1) pa_nil)) (pa_cons (C8.pe_c (c_poly_less T) hr (by decide) (by rfl) (pa_cons (pv 0) (pa_cons (pe_ix ix_list (pv 3) (pe_op op_fdiv (pv 2) (pv 5)) (fun _ _ => rfl)) (pa_cons (pe_ix ix_list (pv 3) pe_int (fun _ _ => rfl)) pa_nil)))) pa_nil)))))) pa_nil)))))))
/-- what divides the number of turns, from 2 on -/
def prt (k : Kd) (i : Nat) : List Nat := ((List.range i).filter fun s => decide (k.n % (s + 2) = 0) && ip (s + 2)).map (· + 2)
theorem pure_is_single (T : Txt K mg) {vs : List V} {H : Hp} {Q : VK} {E : XK} (h : sp_is_single K vs H Q E) : t_is_single K { nx := fun _ H' => Q .non H', rt := Q } (L2.start N_is_single vs) H := by
  obtain ⟨a, k, rfl, ha, ret⟩ := h
  have hp2 := k.p_two
  have hp3 := k.p_le
  have hn1 := k.n_ge
  have hn2 := k.n_le
  have hml := md_len k
  have hll := lts_len k
  refine ⟨_, rfl, a, _, rfl, .inl (SqL.of ha), _, _, rfl, rfl, _, rfl, _, rfl, a, k, rfl, ha, fun H1 L rs s1 hL hrs => ⟨by show 2 ≤ sizeLine; decide, fun t ht => ?_⟩⟩
  have em : ((iV k.md).length : Int) - 1 = (k.n : Int) := by rw [iV_len]; omega
  dsimp only
  rw [em]
  refine pair_tgt upd_same ?_
  have s2 := sm_upd' s1 ht (o := .tup [.int (k.n : Int), .ref L])
  have sx := sm_upd ht (o := .tup [.int (k.n : Int), .ref L])
  have hL2 := sx _ _ hL
  have hrs2 := hrs.same sx
  generalize upd H1 t (.tup [.int (k.n : Int), .ref L]) = H2 at s2 hL2 hrs2
  clear sx
  obtain ⟨qn, hqn, hqnc⟩ := RowsI.get (xss := lts k) hrs2 (i := k.n) (by omega)
  obtain ⟨q0, hq0, hq0c⟩ := RowsI.get (xss := lts k) hrs2 (i := 0) (by omega)
  rw [lts_round k] at hqnc
  refine ⟨_, rfl, _, rfl, L, _, _, _, rfl, rfl, SqL.of hL2, atI_nat hqn, _, rfl, L, _, _, _, rfl, rfl, SqL.of hL2, atI_nat (j := 0) hq0, ?_⟩
  refine ⟨_, _, dp_dI hqnc, dp_dI hq0c, dI_shaped _, dI_shaped _, _, rfl, ?_⟩
  rw [eqv_dI, decide_eq_true rfl]
  refine iteF ?_
  refine ⟨_, rfl, _, _, rfl, rfl, 2, _, rfl, ⟨by omega, by omega, by omega, by omega⟩, fun D hD => ?_⟩
  have en : ((k.n : Int) + 1 - 2).toNat = k.n - 1 := by omega
  dsimp only
  rw [en]
  refine lc_range (lo := 2) (n := k.n - 1) (LcP H2 D fun i => natV (prt k i)) (lcp_start hD rfl) ?_ ?_
  · intro i H3 hi hP
    refine ⟨rfl, ?_⟩
    refine ⟨_, rfl, _, rfl, _, _, rfl, rfl, by omega, rfl, _, rfl, ?_⟩
    have e : (k.n : Int) % (2 + (i : Int)) = ((k.n % (i + 2) : Nat) : Int) := by
      rw [Int.natCast_emod, Int.natCast_add, Int.add_comm 2]; rfl
    have e2 : decide (V.int ((k.n : Int) % (2 + (i : Int))) = V.int 0) = decide (k.n % (i + 2) = 0) := by
      rw [e]
      by_cases q : k.n % (i + 2) = 0
      · rw [q]; rfl
      · rw [decide_eq_false q, decide_eq_false]
        intro z; exact q (by have := V.int.inj z; omega)
    dsimp only
    rw [e2]
    have hsuc : ∀ b : Bool, (decide (k.n % (i + 2) = 0) && ip (i + 2)) = b → prt k (i + 1) = if b then prt k i ++ [i + 2] else prt k i := fun b hb => by
      unfold prt
      rw [range_filter_succ, hb]
      cases b <;> simp
    refine ite2 (fun hc => ?_) (fun hc => ?_)
    · refine ⟨_, rfl, i + 2, by rw [show (2 : Int) + (i : Int) = ((i + 2 : Nat) : Int) by omega]; rfl, by omega, fun H4 s4 => ⟨_, rfl, ?_⟩⟩
      refine ite2 (fun hc2 => ?_) (fun hc2 => ?_)
      · refine ⟨_, rfl, lcp_next hD hP s4 ?_ (small ?_)⟩
        · rw [hsuc true (by rw [hc, hc2]; rfl), if_pos rfl]
          unfold natV; rw [List.map_append, show (2 : Int) + (i : Int) = ((i + 2 : Nat) : Int) by omega]; rfl
        · have := List.length_filter_le (fun s => decide (k.n % (s + 2) = 0) && ip (s + 2)) (List.range i)
          simp [natV, prt] at this ⊢; omega
      · refine lcp_skip hP s4 ?_
        have : ip (i + 2) = false := by cases q : ip (i + 2) with | true => exact absurd q hc2 | false => rfl
        rw [hsuc false (by rw [this]; simp)]; rfl
    · refine lcp_skip hP (Same.refl _) ?_
      have : decide (k.n % (i + 2) = 0) = false := by cases q : decide (k.n % (i + 2) = 0) with | true => exact absurd q hc | false => rfl
      rw [hsuc false (by rw [this]; rfl)]; rfl
  intro H3 p3
  have hD3 := p3.2
  dsimp only at hD3
  have s3 := s2.trans p3.1
  have hpl : (prt k (k.n - 1)).length ≤ 100 := by
    have := List.length_filter_le (fun s => decide (k.n % (s + 2) = 0) && ip (s + 2)) (List.range (k.n - 1))
    simp [prt] at this ⊢; omega
  refine ⟨_, rfl, D, rfl, ⟨_, SqL.of hD3⟩, fun D2 hD2 => ?_⟩
  refine lc_it (walk_list (xs := natV (prt k (k.n - 1)))) (LcP H3 D2 fun i => yes i) (lcp_start hD2 rfl) (fun i H4 _ p => p.1.seq (SqL.of hD3)) ?_ ?_
  · rintro i x H4 H5 hi p4 ⟨rfl, hxi⟩
    have hil : i < (prt k (k.n - 1)).length := by simpa [natV] using hi
    unfold natV at hxi
    rw [List.getElem?_map, List.getElem?_eq_getElem hil] at hxi
    obtain rfl := Option.some.inj hxi
    refine ⟨rfl, lcY ?_⟩
    have hmem := List.getElem_mem hil
    generalize (prt k (k.n - 1))[i] = l at hmem
    obtain ⟨l', hl', el⟩ := List.mem_map.mp hmem
    obtain ⟨hl1, hl2⟩ := List.mem_filter.mp hl'
    have hl1 := List.mem_range.mp hl1
    have hl2 := Bool.and_eq_true_iff.mp hl2
    have hl3 := of_decide_eq_true hl2.1
    have hap := lts_apart k l (by omega) (by omega) (by rw [← el]; exact hl3) (by rw [← el]; exact hl2.2)
    have s4 := s3.trans p4.1
    have ha4 := s4 _ _ ha
    have hL4 := (p3.1.trans p4.1) _ _ hL2
    have hrs4 := hrs2.same (p3.1.trans p4.1)
    refine ⟨_, rfl, _, rfl, a, _, rfl, .inl (SqL.of ha4), fun c hc => ?_⟩
    have s5 := sm_upd hc (o := .lst (iV k.md))
    have hrs5 := hrs4.same s5
    have hdv : k.n / l < (lts k).length := by rw [hll]; exact Nat.lt_succ_of_le (Nat.div_le_self _ _)
    obtain ⟨u, hu, huc⟩ := RowsI.get (xss := lts k) hrs5 (i := k.n / l) hdv
    obtain ⟨v, hv, hvc⟩ := RowsI.get (xss := lts k) hrs5 (i := 0) (by omega)
    have hdi : (k.n : Int) / (l : Int) = ((k.n / l : Nat) : Int) := by rw [Int.natCast_ediv]
    have hL5 := s5 _ _ hL4
    refine ⟨_, rfl, _, rfl, _, rfl, _, rfl, _, _, rfl, rfl, ⟨by omega, by omega⟩, L, _, _, _, rfl, rfl, SqL.of hL5, at_get hdi hu, _, rfl, L, _, _, _, rfl, rfl, SqL.of hL5, atI_nat (j := 0) hv, ?_⟩
    have sh : ∀ i, i < (lts k).length → ((lts k).getD i []).length ≤ 10 := fun i h => lts_short k _ (by rw [← lts_get h]; exact List.getElem_mem h)
    refine ⟨u, v, k, _, _, rfl, huc, hvc, Nat.le_trans (sh _ hdv) (by omega), Nat.le_trans (sh 0 (by omega)) (by omega), fun H6 y s6 n6 e6 => ?_⟩
    refine ⟨c, y, k, k.md, _, 20, true, rfl, s6 _ _ upd_same, e6, hap, fun H7 s7 => ?_⟩
    exact lcp_next hD2 p4 (s5.trans (s6.trans s7)) (yes_succ i) (small (by rw [yes_len]; omega))
  intro H4 p4
  have h4 := p4.2
  dsimp only at h4
  refine ⟨D2, _, rfl, SqL.of h4, ?_⟩
  rw [all_yes]
  exact ret _ (s3.trans p4.1)
theorem len_is_single {vs : List V} {H : Hp} {Q : VK} {E : XK} (h : sp_is_single K vs H Q E) : vs.length = 2 := by
  obtain ⟨a, k, rfl, _⟩ := h; rfl
theorem c_is_single (T : Txt K mg) : C8.Cal P w K mg base 6 "is_single" (sp_is_single K) [] :=
  cal_of (k := 5) (ps := ["prime", "modulus"]) T.d_is_single (fun _ _ _ _ _ _ us hl => match us, hl with | [_, _], _ => rfl) sc_is_single (fun vs H Q E h => len_is_single h) fun f cdv A outer s H vs Q E hr h => ⟨_, ps_is_single T hr, pure_is_single T h⟩
end
end Tp
namespace Tp
open PySem PySem.Spec PyProof.Rows L2 Gab
theorem pwL_iV (k : Kd) : pwL k = iV (k.pws.map fun x : Nat => (x : Int)) := by unfold pwL iV; rw [List.map_map]; rfl
theorem lgL_iV (k : Kd) : lgL k = iV ((-1) :: (k.lgs.drop 1).map fun x : Nat => (x : Int)) := by unfold lgL iV; rw [List.map_cons, List.map_map]; rfl
section
variable {P : Program} {w : World} {K : PySem.W.Frag} {mg : Str → Option Value} {base : Heap}
def sp_want_prime (K : PySem.W.Frag) : Sp := fun vs H Q _ => ∃ (k : Kd), vs = [.int (k.p : Int)] ∧ RetV H Q .non
abbrev N_want_prime : List Str := ["prime"]
theorem sc_want_prime : FnScope N_want_prime ["prime"] (defScope s_want_prime) := ⟨rfl, rfl, rfl, by decide +kernel, rfl, by decide +kernel, by decide +kernel⟩
def t_want_prime (K : PySem.W.Frag) : TS :=
  (tIfS (tOr (tNot (tB (tCall (sp_is_count K) [] E0 (tCons (tVar 0) tNil)))) (tTest (tOp (rIn K true) (tVar 0) (tC (.ref (aP K)))))) tNever tNext)
theorem ps_want_prime {f : Addr} {cdv : Value} {A : Around} {outer : List Env} {s : Shared} {H : Hp} {E : XK} (T : Txt K mg) (hr : Room 3 (A.deeper (envOfC "want_prime" (defScope s_want_prime) s.heap.objs.size f cdv))) :
    PSs (cxOf CX0 P w K mg base N_want_prime "want_prime" (defScope s_want_prime) f cdv A outer s H E).nox (defBody s_want_prime) (t_want_prime K) := by
  exact (pss_one (ps_if (PW.pt (pw_or (pt_not (pt_val (C8.pe_c (c_is_count T) hr (by decide) (by rfl) (pa_cons (pv 0) pa_nil)))) (pw_or1 (pt_cmpR op_notIn_seq (pv 0) (C8.pe_gc (by rfl) ⟨_, T.k_PRIMES, rfl⟩) (by rfl))))) (pss_one ps_never) pss_nil))
theorem pure_want_prime (T : Txt K mg) {vs : List V} {H : Hp} {Q : VK} {E : XK} (h : sp_want_prime K vs H Q E) : t_want_prime K { nx := fun _ H' => Q .non H', rt := Q } (L2.start N_want_prime vs) H := by
  obtain ⟨k, rfl, ret⟩ := h
  refine ⟨_, rfl, (k.p : Int), rfl, fun H1 s1 => ?_⟩
  rw [decide_eq_true (by omega : (0 : Int) ≤ (k.p : Int))]
  refine ⟨true, rfl, iteF ?_⟩
  refine ⟨_, rfl, aP K, _, rfl, .inr (T.l_PRIMES H1), rfl, rfl, _, rfl, ?_⟩
  have e : (if true = true then !inV (V.int (k.p : Int)) [V.int 2, V.int 3, V.int 5, V.int 7] else inV (V.int (k.p : Int)) [V.int 2, V.int 3, V.int 5, V.int 7]) = false := by
    cases k <;> rfl
  rw [e]
  exact iteF (ret _ s1)
theorem len_want_prime {vs : List V} {H : Hp} {Q : VK} {E : XK} (h : sp_want_prime K vs H Q E) : vs.length = 1 := by
  obtain ⟨k, rfl, _⟩ := h; rfl
theorem c_want_prime (T : Txt K mg) : C8.Cal P w K mg base 4 "want_prime" (sp_want_prime K) [] :=
  cal_of (k := 3) (ps := ["prime"]) T.d_want_prime (fun _ _ _ _ _ _ us hl => match us, hl with | [_], _ => rfl) sc_want_prime (fun vs H Q E h => len_want_prime h) fun f cdv A outer s H vs Q E hr h => ⟨_, ps_want_prime T hr, pure_want_prime T h⟩
def sp_is_figures (K : PySem.W.Frag) : Sp := fun vs H Q _ => ∃ (a : Addr) (k : Kd), vs = [.int (k.p : Int), .ref a, .int (k.md.length : Int)] ∧ H a = some (.lst (iV k.md)) ∧ RetV H Q (.bl true)
abbrev N_is_figures : List Str := ["prime", "value", "many", "one"]
theorem sc_is_figures : FnScope N_is_figures ["prime", "value", "many"] (defScope s_is_figures) := ⟨rfl, rfl, rfl, by decide +kernel, rfl, by decide +kernel, by decide +kernel⟩
def t_is_figures (K : PySem.W.Frag) : TS :=
  (tRet (tAndV (tCall (sp_is_list K) [] E0 (tCons (tVar 1) tNil)) (tAndV (tOp rEq (tCB (cLen K) (tCons (tVar 1) tNil)) (tVar 2)) (tCB (rAll K) (tCons (tLc (iList K (tVar 1)) (gName 3) tYes (tAndV (tCall (sp_is_count K) [] E0 (tCons (tVar 3) tNil)) (tOp oLt (tVar 3) (tVar 0))) [3]) tNil)))))
theorem ps_is_figures {f : Addr} {cdv : Value} {A : Around} {outer : List Env} {s : Shared} {H : Hp} {E : XK} (T : Txt K mg) (hr : Room 3 (A.deeper (envOfC "is_figures" (defScope s_is_figures) s.heap.objs.size f cdv))) :
    PSs (cxOf CX0 P w K mg base N_is_figures "is_figures" (defScope s_is_figures) f cdv A outer s H E).nox (defBody s_is_figures) (t_is_figures K) := by
  exact (pss_one (ps_ret (pe_and (C8.pe_c (c_is_list T) hr (by decide) (by rfl) (pa_cons (pv 1) pa_nil)) (pe_and (pe_cmpR op_eq (pe_callB call_len_seq (by rfl) T.b_len PySem.boot_len (pa_cons (pv 1) pa_nil)) (pv 2) (nomark _)) (pe_one (pe_callB (cr_all rfl) (by rfl) T.b_all (by decide +kernel) (pa_cons (pe_lc (own := [("one", 3)]) (g := (gName 3)) (tt := tYes) (te := (tAndV (tCall (sp_is_count K) [] E0 (tCons (tVar 3) tNil)) (tOp oLt (tVar 3) (tVar 0)))) (by rfl) sc_is_figures.nd (pi_list (pv 1)) (blkOk_by (own := [("one", 3)]) (N := N_is_figures) (sc := defScope s_is_figures) (by decide +kernel)) (fun _ _ _ _ _ => (pg_name (i := 3) sc_is_figures.nd rfl (Or.inl rfl))) (fun _ _ _ _ _ => pts_nil) (fun _ _ _ _ _ => (pe_and (C8.pe_c (c_is_count T) hr (by decide) (by rfl) (pa_cons (pv 3) pa_nil)) (pe_one (pe_cmpR op_lt (pv 3) (pv 0) (nomark _)))))) pa_nil)))))))
theorem pure_is_figures (T : Txt K mg) {vs : List V} {H : Hp} {Q : VK} {E : XK} (h : sp_is_figures K vs H Q E) : t_is_figures K { nx := fun _ H' => Q .non H', rt := Q } (L2.start N_is_figures vs) H := by
  obtain ⟨a, k, rfl, ha, ret⟩ := h
  have hml := md_len k
  have hn2 := k.n_le
  refine ⟨_, rfl, a, _, rfl, ha, fun H1 s1 => ⟨true, rfl, iteT ?_⟩⟩
  have ha1 := s1 _ _ ha
  refine ⟨_, rfl, a, _, rfl, .inl (SqL.of ha1), _, rfl, rfl, _, rfl, ?_⟩
  rw [iV_len, decide_eq_true rfl]
  refine iteT ⟨_, rfl, a, rfl, ⟨_, SqL.of ha1⟩, fun D hD => ?_⟩
  refine lc_it (walk_list (xs := iV k.md)) (LcP H1 D fun i => yes i) (lcp_start hD rfl) (fun i H4 _ p => p.1.seq (SqL.of ha1)) ?_ ?_
  · rintro i x H4 H5 hi p ⟨rfl, hxi⟩
    obtain ⟨hi', rfl⟩ := iV_at hxi
    obtain ⟨f1, f2⟩ := figs_get (md_figs k) hi'
    have ef : k.md.getD i 0 = k.md[i] := by rw [List.getD_eq_getElem?_getD, List.getElem?_eq_getElem hi']; rfl
    rw [ef]
    refine ⟨rfl, lcY ?_⟩
    refine ⟨_, rfl, k.md[i], rfl, fun H6 s6 => ⟨_, rfl, ?_⟩⟩
    rw [decide_eq_true f1]
    refine iteT ⟨_, rfl, _, rfl, _, _, rfl, rfl, ?_⟩
    refine lcp_next hD p s6 ?_ (small (by rw [yes_len]; omega))
    dsimp only
    rw [decide_eq_true f2]
    exact yes_succ i
  intro H4 p4
  have h4 := p4.2
  dsimp only at h4
  refine ⟨D, _, rfl, SqL.of h4, ?_⟩
  rw [all_yes]
  exact ret _ (s1.trans p4.1)
theorem len_is_figures {vs : List V} {H : Hp} {Q : VK} {E : XK} (h : sp_is_figures K vs H Q E) : vs.length = 3 := by
  obtain ⟨a, k, rfl, _⟩ := h; rfl
theorem c_is_figures (T : Txt K mg) : C8.Cal P w K mg base 4 "is_figures" (sp_is_figures K) [] :=
  cal_of (k := 3) (ps := ["prime", "value", "many"]) T.d_is_figures (fun _ _ _ _ _ _ us hl => match us, hl with | [_, _, _], _ => rfl) sc_is_figures (fun vs H Q E h => len_is_figures h) fun f cdv A outer s H vs Q E hr h => ⟨_, ps_is_figures T hr, pure_is_figures T h⟩
def sp_is_right (K : PySem.W.Frag) : Sp := fun vs H Q _ => ∃ (a : Addr) (k : Kd), vs = [.int (k.p : Int), .ref a] ∧ H a = some (.lst (iV k.md)) ∧ RetV H Q (.bl true)
abbrev N_is_right : List Str := ["prime", "value"]
theorem sc_is_right : FnScope N_is_right ["prime", "value"] (defScope s_is_right) := ⟨rfl, rfl, rfl, by decide +kernel, rfl, by decide +kernel, by decide +kernel⟩
def t_is_right (K : PySem.W.Frag) : TS :=
  (tSeq (tIfS (tOr (tNot (tB (tCall (sp_is_list K) [] E0 (tCons (tVar 1) tNil)))) (tOr (tNot (tTest (tChain oLe oLe (tC (.int 3)) (tCB (cLen K) (tCons (tVar 1) tNil)) (tOp oAdd (tC (.int 12)) (tC (.int 1)))))) (tNot (tB (tCall (sp_is_figures K) [] E0 (tCons (tVar 0) (tCons (tVar 1) (tCons (tCB (cLen K) (tCons (tVar 1) tNil)) tNil)))))))) (tRet (tC (.bl false))) tNext)
  (tRet (tAndV (tOp rEq (tOp (rIxL K) (tVar 1) (tUn uNeg (tC (.int 1)))) (tC (.int 1))) (tCall (sp_is_single K) [] E0 (tCons (tVar 0) (tCons (tCB (cList K) (tCons (tVar 1) tNil)) tNil))))))
theorem ps_is_right {f : Addr} {cdv : Value} {A : Around} {outer : List Env} {s : Shared} {H : Hp} {E : XK} (T : Txt K mg) (hr : Room 6 (A.deeper (envOfC "is_right" (defScope s_is_right) s.heap.objs.size f cdv))) :
    PSs (cxOf CX0 P w K mg base N_is_right "is_right" (defScope s_is_right) f cdv A outer s H E).nox (defBody s_is_right) (t_is_right K) := by
  exact (pss_cons (ps_if (PW.pt (pw_or (pt_not (pt_val (C8.pe_c (c_is_list T) hr (by decide) (by rfl) (pa_cons (pv 1) pa_nil)))) (pw_or (pt_not (pt_chain op_le op_le pe_int (pe_callB call_len_seq (by rfl) T.b_len PySem.boot_len (pa_cons (pv 1) pa_nil)) (pe_op op_add (C8.pe_gc (by rfl) (cst T.k_MOST_TURNS)) pe_int))) (pw_or1 (pt_not (pt_val (C8.pe_c (c_is_figures T) hr (by decide) (by rfl) (pa_cons (pv 0) (pa_cons (pv 1) (pa_cons (pe_callB call_len_seq (by rfl) T.b_len PySem.boot_len (pa_cons (pv 1) pa_nil)) pa_nil)))))))))) (pss_one (ps_ret pe_bl)) pss_nil)
  (pss_one (ps_ret (pe_and (pe_cmpR op_eq (pe_ix ix_list (pv 1) (pe_un un_neg pe_int) (fun _ _ => rfl)) pe_int (nomark _)) (pe_one (C8.pe_c (c_is_single T) hr (by decide) (by rfl) (pa_cons (pv 0) (pa_cons (pe_callTy call_list_of (by rfl) T.b_list (by decide +kernel) (pa_cons (pv 1) pa_nil)) pa_nil))))))))
theorem pure_is_right (T : Txt K mg) {vs : List V} {H : Hp} {Q : VK} {E : XK} (h : sp_is_right K vs H Q E) : t_is_right K { nx := fun _ H' => Q .non H', rt := Q } (L2.start N_is_right vs) H := by
  obtain ⟨a, k, rfl, ha, ret⟩ := h
  have hml := md_len k
  have hn1 := k.n_ge
  have hn2 := k.n_le
  refine ⟨_, rfl, a, _, rfl, ha, fun H1 s1 => ⟨true, rfl, ?_⟩⟩
  have ha1 := s1 _ _ ha
  refine iteF ?_
  refine ⟨_, rfl, a, _, rfl, .inl (SqL.of ha1), _, _, rfl, rfl, _, rfl, ?_⟩
  rw [iV_len, decide_eq_true (by omega : (3 : Int) ≤ (k.md.length : Int))]
  refine iteT ⟨_, _, rfl, rfl, _, _, rfl, rfl, _, rfl, ?_⟩
  rw [decide_eq_true (by omega : (k.md.length : Int) ≤ 12 + 1)]
  refine iteF ?_
  refine ⟨_, rfl, _, rfl, _, rfl, a, _, rfl, .inl (SqL.of ha1), ?_⟩
  refine ⟨a, k, by rw [iV_len]; rfl, ha1, fun H2 s2 => ⟨true, rfl, iteF ?_⟩⟩
  have ha2 := s2 _ _ ha1
  refine ⟨_, rfl, _, rfl, a, _, _, _, rfl, rfl, SqL.of ha2, atI_last' (iV_last (by omega)), rfl, _, rfl, ?_⟩
  rw [md_last, decide_eq_true rfl]
  refine iteT ⟨_, rfl, _, rfl, a, _, rfl, .inl (SqL.of ha2), fun c hc => ?_⟩
  have s3 := sm_upd hc (o := .lst (iV k.md))
  exact ⟨c, k, rfl, upd_same, fun H4 s4 => ret _ (s1.trans (s2.trans (s3.trans s4)))⟩
theorem len_is_right {vs : List V} {H : Hp} {Q : VK} {E : XK} (h : sp_is_right K vs H Q E) : vs.length = 2 := by
  obtain ⟨a, k, rfl, _⟩ := h; rfl
theorem c_is_right (T : Txt K mg) : C8.Cal P w K mg base 7 "is_right" (sp_is_right K) [] :=
  cal_of (k := 6) (ps := ["prime", "value"]) T.d_is_right (fun _ _ _ _ _ _ us hl => match us, hl with | [_, _], _ => rfl) sc_is_right (fun vs H Q E h => len_is_right h) fun f cdv A outer s H vs Q E hr h => ⟨_, ps_is_right T hr, pure_is_right T h⟩
def sp_told_number (K : PySem.W.Frag) : Sp := fun vs H Q _ => ∃ (a : Addr) (k : Kd) (xs : List Int), vs = [.int (k.p : Int), .ref a] ∧ H a = some (.lst (iV xs)) ∧ RetV H Q (.int (toldI k.p xs))
abbrev N_told_number : List Str := ["prime", "poly", "found", "one"]
theorem sc_told_number : FnScope N_told_number ["prime", "poly"] (defScope s_told_number) := ⟨rfl, rfl, rfl, by decide +kernel, rfl, by decide +kernel, by decide +kernel⟩
def t_told_number (K : PySem.W.Frag) : TS :=
  (tSeq (tAsg (tC (.int 0)) (gName 2))
  (tSeq (tFor (iList K (tRevL K (tVar 1))) (gName 3) (tAsg (tOp oAdd (tOp oMul (tVar 2) (tVar 0)) (tVar 3)) (gName 2)))
  (tRet (tVar 2))))
theorem ps_told_number {f : Addr} {cdv : Value} {A : Around} {outer : List Env} {s : Shared} {H : Hp} {E : XK} (T : Txt K mg) (hr : Room 1 (A.deeper (envOfC "told_number" (defScope s_told_number) s.heap.objs.size f cdv))) :
    PSs (cxOf CX0 P w K mg base N_told_number "told_number" (defScope s_told_number) f cdv A outer s H E).nox (defBody s_told_number) (t_told_number K) := by
  exact (pss_cons (ps_set (i := 2) sc_told_number.nd rfl (Or.inl rfl) pe_int)
  (pss_cons (ps_for PassesOwn.never rfl (pi_list (pe_revL (pv 1))) (pg_name (i := 3) sc_told_number.nd rfl (Or.inl rfl)) (pss_one (ps_set (i := 2) sc_told_number.nd rfl (Or.inl rfl) (pe_op op_add (pe_op op_mul (pv 2) (pv 0)) (pv 3)))))
  (pss_one (ps_ret (pv 2)))))
theorem pure_told_number (T : Txt K mg) {vs : List V} {H : Hp} {Q : VK} {E : XK} (h : sp_told_number K vs H Q E) : t_told_number K { nx := fun _ H' => Q .non H', rt := Q } (L2.start N_told_number vs) H := by
  obtain ⟨a, k, xs, rfl, ha, ret⟩ := h
  have hk := k.p_le
  refine ⟨_, rfl, a, _, rfl, SqL.of ha, fun p hp => ?_⟩
  refine ⟨p, rfl, ⟨_, SqL.of upd_same⟩, ?_⟩
  have er : (iV xs).reverse = iV xs.reverse := by unfold iV; rw [List.map_reverse]
  rw [er]
  refine for_list (K := K) (a := p) (xs := iV xs.reverse) (fun i σ H' => ∃ v, σ = [some (.int (k.p : Int)), some (.ref a), some (.int ((xs.reverse.take i).foldl (fun f x => f * (k.p : Int) + x) 0)), v] ∧ Same (upd H p (.lst (iV xs.reverse))) H')
    ⟨none, rfl, Same.refl _⟩ (fun i σ H' _ ⟨_, _, s⟩ => s.seq (SqL.of upd_same)) ?_ ?_
  · rintro i x σ H' hx ⟨v, rfl, s⟩
    obtain ⟨hi, rfl⟩ := iV_at hx
    refine ⟨_, rfl, _, rfl, _, _, rfl, rfl, .inr ⟨by omega, by omega⟩, _, rfl, _, _, rfl, rfl, ?_⟩
    refine ⟨some (vI (xs.reverse.getD i 0)), ?_, s⟩
    have e : (xs.reverse.take (i + 1)).foldl (fun f x => f * (k.p : Int) + x) 0 = (xs.reverse.take i).foldl (fun f x => f * (k.p : Int) + x) 0 * (k.p : Int) + xs.reverse.getD i 0 := by
      rw [take_succ' (List.getElem?_eq_getElem hi), List.foldl_append, List.getD_eq_getElem?_getD, List.getElem?_eq_getElem hi]; rfl
    rw [e]; rfl
  · rintro σ H' ⟨v, rfl, s⟩
    refine ⟨_, rfl, ?_⟩
    rw [List.take_of_length_le (by rw [iV_len]; exact Nat.le_refl _)]
    exact ret _ ((sm_upd hp).trans s)
theorem len_told_number {vs : List V} {H : Hp} {Q : VK} {E : XK} (h : sp_told_number K vs H Q E) : vs.length = 2 := by
  obtain ⟨a, k, xs, rfl, _⟩ := h; rfl
theorem c_told_number (T : Txt K mg) : C8.Cal P w K mg base 2 "told_number" (sp_told_number K) [] :=
  cal_of (k := 1) (ps := ["prime", "poly"]) T.d_told_number (fun _ _ _ _ _ _ us hl => match us, hl with | [_, _], _ => rfl) sc_told_number (fun vs H Q E h => len_told_number h) fun f cdv A outer s H vs Q E hr h => ⟨_, ps_told_number T hr, pure_told_number T h⟩
def sp_poly_of (K : PySem.W.Frag) : Sp := fun vs H Q _ => ∃ (k : Kd) (number : Int) (r : List Int), vs = [.int (k.p : Int), .int number] ∧ polyOf k.p number = some r ∧ RetL H Q (iV r)
abbrev N_poly_of : List Str := ["prime", "number", "found", "left"]
theorem sc_poly_of : FnScope N_poly_of ["prime", "number"] (defScope s_poly_of) := ⟨rfl, rfl, rfl, by decide +kernel, rfl, by decide +kernel, by decide +kernel⟩
def t_poly_of (K : PySem.W.Frag) : TS :=
  (tSeq (tPar 2 3 (tCons (tLst tNil) (tCons (tVar 1) tNil)))
  (tSeq (tWhile (tTest (tOp oGt (tVar 3) (tC (.int 0)))) (tSeq (tDrop (tBM K "list" rAppend (tVar 2) (tCons (tOp oMod (tVar 3) (tVar 0)) tNil)))
  (tAsg (tOp oDiv (tVar 3) (tVar 0)) (gName 3))))
  (tRet (tVar 2))))
theorem ps_poly_of {f : Addr} {cdv : Value} {A : Around} {outer : List Env} {s : Shared} {H : Hp} {E : XK} (T : Txt K mg) (hr : Room 1 (A.deeper (envOfC "poly_of" (defScope s_poly_of) s.heap.objs.size f cdv))) :
    PSs (cxOf CX0 P w K mg base N_poly_of "poly_of" (defScope s_poly_of) f cdv A outer s H E).nox (defBody s_poly_of) (t_poly_of K) := by
  exact (pss_cons (ps_par (i := 2) (j := 3) (by rfl) sc_poly_of.nd rfl rfl (by decide) rfl rfl (pa_cons (pe_lst pa_nil) (pa_cons (pv 1) pa_nil)) (by rfl))
  (pss_cons (ps_while PassesOwn.never (pt_cmpR op_gt (pv 3) pe_int (nomark _)) (pss_cons (ps_expr (pe_bm PySem.F.plainAttrs_list PySem.F.slot_list_append PySem.F.type_list_append mt_append (pv 2) (pa_cons (pe_op op_mod (pv 3) (pv 0)) pa_nil)))
  (pss_one (ps_set (i := 3) sc_poly_of.nd rfl (Or.inl rfl) (pe_op op_fdiv (pv 3) (pv 0))))))
  (pss_one (ps_ret (pv 2)))))
theorem pure_poly_of (T : Txt K mg) {vs : List V} {H : Hp} {Q : VK} {E : XK} (h : sp_poly_of K vs H Q E) : t_poly_of K { nx := fun _ H' => Q .non H', rt := Q } (L2.start N_poly_of vs) H := by
  obtain ⟨k, number, r, rfl, hr, ret⟩ := h
  have hp2 := k.p_two
  have hp3 := k.p_le
  refine ⟨Nat.zero_le _, fun L hL => ⟨_, rfl, _, _, rfl, ?_⟩⟩
  refine ⟨fun m σ H' => ∃ (found : List Int) (left : Int), σ = [some (.int (k.p : Int)), some (.int number), some (.ref L), some (.int left)] ∧ Same H H' ∧ H' L = some (.lst (iV found)) ∧ poLoop k.p m found left = some r ∧ found.length + m ≤ 20,
    ⟨20, [], number, rfl, sm_upd hL, upd_same, hr, by simp⟩, ?_⟩
  rintro m σ H' ⟨found, left, rfl, s, hL', hl, hm⟩
  refine ⟨_, rfl, _, _, rfl, rfl, _, rfl, ?_⟩
  cases m with
  | zero => cases hl
  | succ m =>
  unfold poLoop at hl
  refine ite2 (fun hc => ?_) (fun hc => ?_)
  · rw [if_pos (of_decide_eq_true hc)] at hl
    refine ⟨_, fun σ' H' h => h, ?_⟩
    refine ⟨_, rfl, .inl ⟨rfl, _, SqL.of hL'⟩, _, rfl, _, rfl, _, _, rfl, rfl, by omega, L, _, _, rfl, rfl, hL', small (by rw [iV_len]; omega), ?_⟩
    refine ⟨_, rfl, _, rfl, _, _, rfl, rfl, ⟨by omega, by omega⟩, ?_⟩
    refine ⟨m, Nat.lt_succ_self m, _, _, rfl, sm_set s hL, ?_, hl, by simp; omega⟩
    rw [upd_same]; simp
  · rw [if_neg (fun e => hc (decide_eq_true e))] at hl
    obtain rfl := Option.some.inj hl
    exact ⟨_, rfl, ret _ L s hL hL'⟩
theorem len_poly_of {vs : List V} {H : Hp} {Q : VK} {E : XK} (h : sp_poly_of K vs H Q E) : vs.length = 2 := by
  obtain ⟨k, number, r, rfl, _⟩ := h; rfl
theorem c_poly_of (T : Txt K mg) : C8.Cal P w K mg base 2 "poly_of" (sp_poly_of K) [] :=
  cal_of (k := 1) (ps := ["prime", "number"]) T.d_poly_of (fun _ _ _ _ _ _ us hl => match us, hl with | [_, _], _ => rfl) sc_poly_of (fun vs H Q E h => len_poly_of h) fun f cdv A outer s H vs Q E hr h => ⟨_, ps_poly_of T hr, pure_poly_of T h⟩
def sp_powers_by (K : PySem.W.Frag) : Sp := fun vs H Q _ => ∃ (a : Addr) (k : Kd) (number : Int) (r : List Int), vs = [.int (k.p : Int), .ref a, .int number] ∧ H a = some (.lst (iV k.md)) ∧ powersBy k.p k.md number = some r ∧ RetL H Q (iV r)
abbrev N_powers_by : List Str := ["prime", "modulus", "number", "base", "found", "here"]
theorem sc_powers_by : FnScope N_powers_by ["prime", "modulus", "number"] (defScope s_powers_by) := ⟨rfl, rfl, rfl, by decide +kernel, rfl, by decide +kernel, by decide +kernel⟩
def t_powers_by (K : PySem.W.Frag) : TS :=
  (tSeq (tPar3 3 4 5 (tCons (tCall (sp_poly_of K) [] E0 (tCons (tVar 0) (tCons (tVar 2) tNil))) (tCons (tLst (tCons (tC (.int 1)) tNil)) (tCons (tCall (sp_poly_of K) [] E0 (tCons (tVar 0) (tCons (tVar 2) tNil))) tNil))))
  (tSeq (tWhile (tTest (tOp (rNeD K) (tVar 5) (tLst (tCons (tC (.int 1)) tNil)))) (tSeq (tDrop (tBM K "list" rAppend (tVar 4) (tCons (tCall (sp_told_number K) [] E0 (tCons (tVar 0) (tCons (tVar 5) tNil))) tNil)))
  (tAsg (tCall (sp_poly_times K) [] E0 (tCons (tVar 0) (tCons (tVar 5) (tCons (tVar 3) (tCons (tVar 1) tNil))))) (gName 5))))
  (tRet (tVar 4))))
theorem ps_powers_by {f : Addr} {cdv : Value} {A : Around} {outer : List Env} {s : Shared} {H : Hp} {E : XK} (T : Txt K mg) (hr : Room 4 (A.deeper (envOfC "powers_by" (defScope s_powers_by) s.heap.objs.size f cdv))) :
    PSs (cxOf CX0 P w K mg base N_powers_by "powers_by" (defScope s_powers_by) f cdv A outer s H E).nox (defBody s_powers_by) (t_powers_by K) := by
  exact (pss_cons (ps_par3 (i := 3) (j := 4) (l := 5) (by rfl) sc_powers_by.nd rfl rfl rfl (by decide) (by decide) (by decide) rfl rfl rfl (pa_cons (C8.pe_c (c_poly_of T) hr (by decide) (by rfl) (pa_cons (pv 0) (pa_cons (pv 2) pa_nil))) (pa_cons (pe_lst (pa_cons pe_int pa_nil)) (pa_cons (C8.pe_c (c_poly_of T) hr (by decide) (by rfl) (pa_cons (pv 0) (pa_cons (pv 2) pa_nil))) pa_nil))) (by rfl))
  (pss_cons (ps_while PassesOwn.never (pt_cmpR (op_neD hr.units) (pv 5) (pe_lst (pa_cons pe_int pa_nil)) (nomark _)) (pss_cons (ps_expr (pe_bm PySem.F.plainAttrs_list PySem.F.slot_list_append PySem.F.type_list_append mt_append (pv 4) (pa_cons (C8.pe_c (c_told_number T) hr (by decide) (by rfl) (pa_cons (pv 0) (pa_cons (pv 5) pa_nil))) pa_nil)))
  (pss_one (ps_set (i := 5) sc_powers_by.nd rfl (Or.inl rfl) (C8.pe_c (c_poly_times T) hr (by decide) (by rfl) (pa_cons (pv 0) (pa_cons (pv 5) (pa_cons (pv 3) (pa_cons (pv 1) pa_nil)))))))))
  (pss_one (ps_ret (pv 4)))))
theorem pure_powers_by (T : Txt K mg) {vs : List V} {H : Hp} {Q : VK} {E : XK} (h : sp_powers_by K vs H Q E) : t_powers_by K { nx := fun _ H' => Q .non H', rt := Q } (L2.start N_powers_by vs) H := by
  obtain ⟨a, k, number, r, rfl, ha, hr, ret⟩ := h
  have hp2 := k.p_two
  have hp3 := k.p_le
  unfold powersBy at hr
  cases hb : polyOf k.p number with
  | none => rw [hb] at hr; cases hr
  | some bs =>
  rw [hb] at hr
  have hr : pbLoop k.p k.md bs 40 [1] bs = some r := hr
  refine ⟨_, rfl, _, rfl, k, number, bs, rfl, hb, fun H1 b s1 n1 e1 => ⟨Nat.le_trans (Nat.le_refl 1) (by decide), fun F hF => ?_⟩⟩
  have s2 := sm_upd hF (o := .lst [V.int 1])
  have nF := nn s1 hF
  refine ⟨_, rfl, _, rfl, k, number, bs, rfl, hb, fun H3 h s3 n3 e3 => ⟨_, _, _, rfl, ?_⟩⟩
  have hbF : F ≠ b := fun e => by rw [e, e1] at hF; cases hF
  have hhF : F ≠ h := fun e => by rw [← e, upd_same] at n3; cases n3
  refine ⟨fun m σ H' => ∃ (h : Addr) (found here : List Int), σ = [some (.int (k.p : Int)), some (.ref a), some (.int number), some (.ref b), some (.ref F), some (.ref h)] ∧ Same H H' ∧ H' b = some (.lst (iV bs)) ∧ H' F = some (.lst (iV found)) ∧ H' h = some (.lst (iV here)) ∧ F ≠ h ∧ pbLoop k.p k.md bs m found here = some r ∧ found.length + m ≤ 50,
    ⟨40, h, [1], bs, rfl, s1.trans (s2.trans s3), s3 _ _ (s2 _ _ e1), s3 _ _ upd_same, e3, hhF, hr, by simp⟩, ?_⟩
  rintro m σ H' ⟨h, found, here, rfl, s, hb', hF', hh', hne, hl, hm⟩
  refine ⟨_, rfl, Nat.le_trans (Nat.le_refl 1) (by decide), fun z hz => ?_⟩
  have sz := sm_upd hz (o := .lst [V.int 1])
  have hzz : (upd H' z (.lst [V.int 1])) z = some (.lst (iV [1])) := upd_same
  refine ⟨_, _, dp_dI (sz _ _ hh'), dp_dI hzz, dI_shaped _, dI_shaped _, _, rfl, ?_⟩
  rw [eqv_dI]
  cases m with
  | zero => cases hl
  | succ m =>
  unfold pbLoop at hl
  by_cases h1 : here = [1]
  · rw [if_pos h1] at hl
    obtain rfl := Option.some.inj hl
    rw [decide_eq_true h1]
    refine iteF ⟨_, rfl, ret _ F (s.trans sz) nF (sz _ _ hF')⟩
  · rw [if_neg h1] at hl
    rw [decide_eq_false h1]
    refine iteT ⟨_, fun σ' H' h => h, ?_⟩
    have hF2 := sz _ _ hF'
    cases hpt : polyTimes k.p here bs k.md with
    | none => rw [hpt] at hl; cases hl
    | some q =>
    rw [hpt] at hl
    have hl : pbLoop k.p k.md bs m (found ++ [toldI k.p here]) q = some r := hl
    refine ⟨_, rfl, .inl ⟨rfl, _, SqL.of hF2⟩, _, rfl, _, rfl, h, k, here, rfl, sz _ _ hh', fun H2 s5 => ?_⟩
    have s6 := sz.trans s5
    refine ⟨F, _, _, rfl, rfl, s5 _ _ hF2, small (by rw [iV_len]; omega), ?_⟩
    have s7 := sm_set (s.trans s6) nF (o := .lst (iV found ++ [V.int (toldI k.p here)]))
    have hbb : b ≠ F := hbF.symm
    refine ⟨_, rfl, _, rfl, _, rfl, _, rfl, h, b, a, k, here, bs, k.md, q, rfl, by rw [upd_ne hne.symm]; exact s6 _ _ hh', by rw [upd_ne hbb]; exact s6 _ _ hb', s7 _ _ ha, hpt, fun H8 y s8 n8 e8 => ?_⟩
    refine ⟨m, Nat.lt_succ_self m, y, _, q, rfl, s7.trans s8, s8 _ _ (by rw [upd_ne hbb]; exact s6 _ _ hb'), s8 _ _ ?_, e8, ?_, hl, by simp; omega⟩
    · rw [upd_same]; simp
    · intro e; rw [← e, upd_same] at n8; cases n8
theorem len_powers_by {vs : List V} {H : Hp} {Q : VK} {E : XK} (h : sp_powers_by K vs H Q E) : vs.length = 3 := by
  obtain ⟨a, k, number, r, rfl, _⟩ := h; rfl
theorem c_powers_by (T : Txt K mg) : C8.Cal P w K mg base 5 "powers_by" (sp_powers_by K) [] :=
  cal_of (k := 4) (ps := ["prime", "modulus", "number"]) T.d_powers_by (fun _ _ _ _ _ _ us hl => match us, hl with | [_, _, _], _ => rfl) sc_powers_by (fun vs H Q E h => len_powers_by h) fun f cdv A outer s H vs Q E hr h => ⟨_, ps_powers_by T hr, pure_powers_by T h⟩
def sp_all_powers (K : PySem.W.Frag) : Sp := fun vs H Q _ => ∃ (a : Addr) (k : Kd), vs = [.int (k.p : Int), .ref a, .int (k.q : Int)] ∧ H a = some (.lst (iV k.md)) ∧ RetL H Q (pwL k)
abbrev N_all_powers : List Str := ["prime", "modulus", "size", "number", "found"]
theorem sc_all_powers : FnScope N_all_powers ["prime", "modulus", "size"] (defScope s_all_powers) := ⟨rfl, rfl, rfl, by decide +kernel, rfl, by decide +kernel, by decide +kernel⟩
def t_all_powers (K : PySem.W.Frag) : TS :=
  (tSeq (tAsg (tVar 0) (gName 3))
  (tSeq (tAsg (tCall (sp_powers_by K) [] E0 (tCons (tVar 0) (tCons (tVar 1) (tCons (tVar 3) tNil)))) (gName 4))
  (tSeq (tWhile (tTest (tOp oLt (tCB (cLen K) (tCons (tVar 4) tNil)) (tOp oSub (tVar 2) (tC (.int 1))))) (tSeq (tAsg (tOp oAdd (tVar 3) (tC (.int 1))) (gName 3))
  (tAsg (tCall (sp_powers_by K) [] E0 (tCons (tVar 0) (tCons (tVar 1) (tCons (tVar 3) tNil)))) (gName 4))))
  (tRet (tVar 4)))))
theorem ps_all_powers {f : Addr} {cdv : Value} {A : Around} {outer : List Env} {s : Shared} {H : Hp} {E : XK} (T : Txt K mg) (hr : Room 5 (A.deeper (envOfC "all_powers" (defScope s_all_powers) s.heap.objs.size f cdv))) :
    PSs (cxOf CX0 P w K mg base N_all_powers "all_powers" (defScope s_all_powers) f cdv A outer s H E).nox (defBody s_all_powers) (t_all_powers K) := by
  exact (pss_cons (ps_set (i := 3) sc_all_powers.nd rfl (Or.inl rfl) (pv 0))
  (pss_cons (ps_set (i := 4) sc_all_powers.nd rfl (Or.inl rfl) (C8.pe_c (c_powers_by T) hr (by decide) (by rfl) (pa_cons (pv 0) (pa_cons (pv 1) (pa_cons (pv 3) pa_nil)))))
  (pss_cons (ps_while PassesOwn.never (pt_cmpR op_lt (pe_callB call_len_seq (by rfl) T.b_len PySem.boot_len (pa_cons (pv 4) pa_nil)) (pe_op op_sub (pv 2) pe_int) (nomark _)) (pss_cons (ps_set (i := 3) sc_all_powers.nd rfl (Or.inl rfl) (pe_op op_add (pv 3) pe_int))
  (pss_one (ps_set (i := 4) sc_all_powers.nd rfl (Or.inl rfl) (C8.pe_c (c_powers_by T) hr (by decide) (by rfl) (pa_cons (pv 0) (pa_cons (pv 1) (pa_cons (pv 3) pa_nil))))))))
  (pss_one (ps_ret (pv 4))))))
theorem pure_all_powers (T : Txt K mg) {vs : List V} {H : Hp} {Q : VK} {E : XK} (h : sp_all_powers K vs H Q E) : t_all_powers K { nx := fun _ H' => Q .non H', rt := Q } (L2.start N_all_powers vs) H := by
  obtain ⟨a, k, rfl, ha, ret⟩ := h
  rw [pwL_iV] at ret
  have hr := pws_ok k
  unfold allPowers at hr
  generalize (k.pws.map fun x : Nat => (x : Int)) = res at hr ret
  cases hb : powersBy k.p k.md k.p with
  | none => rw [hb] at hr; cases hr
  | some f0 =>
  rw [hb] at hr
  have hr : awLoop k.p k.md k.q 5 k.p f0 = some res := hr
  refine ⟨_, rfl, _, rfl, _, rfl, _, rfl, a, k, (k.p : Int), f0, rfl, ha, hb, fun H1 F s1 n1 e1 => ?_⟩
  refine ⟨fun m σ H' => ∃ (F : Addr) (found : List Int) (number : Int), σ = [some (.int (k.p : Int)), some (.ref a), some (.int (k.q : Int)), some (.int number), some (.ref F)] ∧ Same H H' ∧ H F = none ∧ H' F = some (.lst (iV found)) ∧ awLoop k.p k.md k.q m number found = some res,
    ⟨5, F, f0, _, rfl, s1, n1, e1, hr⟩, ?_⟩
  rintro m σ H' ⟨F, found, number, rfl, s, nF, hF', hl⟩
  refine ⟨_, rfl, F, _, rfl, .inl (SqL.of hF'), _, rfl, _, _, rfl, rfl, _, _, rfl, rfl, _, rfl, ?_⟩
  rw [iV_len]
  cases m with
  | zero => cases hl
  | succ m =>
  unfold awLoop at hl
  refine ite2 (fun hc => ?_) (fun hc => ?_)
  · rw [if_pos (of_decide_eq_true hc)] at hl
    cases hpb : powersBy k.p k.md (number + 1) with
    | none => rw [hpb] at hl; cases hl
    | some f1 =>
    rw [hpb] at hl
    refine ⟨_, fun σ' H' h => h, ?_⟩
    refine ⟨_, rfl, _, _, rfl, rfl, _, rfl, _, rfl, _, rfl, a, k, number + 1, f1, rfl, s _ _ ha, hpb, fun H2 G s2 n2 e2 => ?_⟩
    exact ⟨m, Nat.lt_succ_self m, G, f1, number + 1, rfl, s.trans s2, nn s n2, e2, hl⟩
  · rw [if_neg (fun e => hc (decide_eq_true e))] at hl
    obtain rfl := Option.some.inj hl
    exact ⟨_, rfl, ret _ F s nF hF'⟩
theorem len_all_powers {vs : List V} {H : Hp} {Q : VK} {E : XK} (h : sp_all_powers K vs H Q E) : vs.length = 3 := by
  obtain ⟨a, k, rfl, _⟩ := h; rfl
theorem c_all_powers (T : Txt K mg) : C8.Cal P w K mg base 6 "all_powers" (sp_all_powers K) [] :=
  cal_of (k := 5) (ps := ["prime", "modulus", "size"]) T.d_all_powers (fun _ _ _ _ _ _ us hl => match us, hl with | [_, _, _], _ => rfl) sc_all_powers (fun vs H Q E h => len_all_powers h) fun f cdv A outer s H vs Q E hr h => ⟨_, ps_all_powers T hr, pure_all_powers T h⟩
def sp_logs_by (K : PySem.W.Frag) : Sp := fun vs H Q _ => ∃ (a : Addr) (k : Kd), vs = [.ref a, .int (k.q : Int)] ∧ H a = some (.lst (pwL k)) ∧ RetL H Q (lgL k)
abbrev N_logs_by : List Str := ["powers", "size", "found", "place", "number"]
theorem sc_logs_by : FnScope N_logs_by ["powers", "size"] (defScope s_logs_by) := ⟨rfl, rfl, rfl, by decide +kernel, rfl, by decide +kernel, by decide +kernel⟩
def t_logs_by (K : PySem.W.Frag) : TS :=
  (tSeq (tAsg (tOp rRep (tLst (tCons (tUn uNeg (tC (.int 1))) tNil)) (tVar 1)) (gName 2))
  (tSeq (tFor (iEnum K (tCons (tVar 0) tNil)) (gTup K 2 (gCons (gName 3) (gCons (gName 4) gNil))) (tAsg (tVar 3) (gSub (tVar 2) (tVar 4) rSetL)))
  (tRet (tVar 2))))
theorem ps_logs_by {f : Addr} {cdv : Value} {A : Around} {outer : List Env} {s : Shared} {H : Hp} {E : XK} (T : Txt K mg) (hr : Room 1 (A.deeper (envOfC "logs_by" (defScope s_logs_by) s.heap.objs.size f cdv))) :
    PSs (cxOf CX0 P w K mg base N_logs_by "logs_by" (defScope s_logs_by) f cdv A outer s H E).nox (defBody s_logs_by) (t_logs_by K) := by
  exact (pss_cons (ps_set (i := 2) sc_logs_by.nd rfl (Or.inl rfl) (pe_op op_rep (pe_lst (pa_cons (pe_un un_neg pe_int) pa_nil)) (pv 1)))
  (pss_cons (ps_for PassesOwn.never rfl (pi_enum (by rfl) T.b_enumerate (pa_cons (pv 0) pa_nil)) (pg_tup (by rfl) (pgs_cons (pg_name (i := 3) sc_logs_by.nd rfl (Or.inl rfl)) (pgs_cons (pg_name (i := 4) sc_logs_by.nd rfl (Or.inl rfl)) pgs_nil))) (pss_one (ps_asg (pv 3) (pg_sub (pv 2) (pv 4) set_list))))
  (pss_one (ps_ret (pv 2)))))
theorem pure_logs_by (T : Txt K mg) {vs : List V} {H : Hp} {Q : VK} {E : XK} (h : sp_logs_by K vs H Q E) : t_logs_by K { nx := fun _ H' => Q .non H', rt := Q } (L2.start N_logs_by vs) H := by
  obtain ⟨a, k, rfl, ha, ret⟩ := h
  rw [lgL_iV] at ret
  rw [pwL_iV] at ha
  have hq := k.q_le
  have hr := lgs_ok k
  have hpl : (k.pws.map fun x : Nat => (x : Int)).length = k.q - 1 := by rw [List.length_map]; exact k.pws_len
  have hpb : ∀ i, i < k.q - 1 → 0 ≤ (k.pws.map fun x : Nat => (x : Int)).getD i 0 ∧ (k.pws.map fun x : Nat => (x : Int)).getD i 0 < (k.q : Int) := fun i hi => by
    have h1 : i < k.pws.length := by rw [k.pws_len]; exact hi
    have h2 : i < (k.pws.map fun x : Nat => (x : Int)).length := by rw [hpl]; exact hi
    rw [List.getD_eq_getElem?_getD, List.getElem?_eq_getElem h2, Option.getD_some, List.getElem_map]
    have := pws_lt k _ (List.getElem_mem h1)
    omega
  generalize (k.pws.map fun x : Nat => (x : Int)) = ps at hr ha hpl hpb
  refine ⟨_, rfl, Nat.le_trans (Nat.le_refl 1) (by decide), fun z hz => ?_⟩
  have s1 := sm_upd hz (o := .lst [V.int (-1)])
  refine ⟨_, rfl, z, _, _, rfl, rfl, upd_same, by omega, by omega, small' (by simp; omega), fun L hL => ?_⟩
  have e1 : ((k.q : Int)).toNat = k.q := by omega
  rw [e1, rep1]
  have s2 := sm_upd' s1 hL (o := .lst (List.replicate k.q (V.int (-1))))
  have nL := nn s1 hL
  refine ⟨_, rfl, a, _, rfl, SqL.of (s2 _ _ ha), ?_⟩
  refine for_it (walk_enum (xs := iV ps)) (fun i σ H2 => ∃ v3 v4, σ = [some (.ref a), some (.int (k.q : Int)), some (.ref L), v3, v4] ∧ Same H H2 ∧ H2 L = some (.lst (iV (loIn ps (List.replicate k.q (-1)) i))))
    ⟨none, none, rfl, s2, by rw [upd_same]; unfold loIn iV; simp⟩ (fun i σ H2 _ ⟨_, _, _, s2, _⟩ => SqL.of (s2 _ _ ha)) ?_ ?_
  · rintro i v σ H2 H3 hi ⟨v3, v4, rfl, s3, hl2⟩ hyv
    obtain ⟨y, hio, rfl, hy, rfl⟩ := enumI_of hyv
    refine pair_tgt upd_same ?_
    have s4 := sm_upd hy (o := .tup [.int (i : Nat), vI (ps.getD i 0)])
    have hl3 := s4 _ _ hl2
    obtain ⟨b1, b2⟩ := hpb i (by omega)
    have hll := loIn_len ps (List.replicate k.q (-1)) i
    rw [List.length_replicate] at hll
    refine ⟨_, rfl, _, rfl, _, rfl, L, _, _, (ps.getD i 0).toNat, rfl, rfl, hl3, ixn (by omega) (by rw [iV_len]; omega), ?_⟩
    refine ⟨_, _, rfl, sm_set (s3.trans s4) nL, ?_⟩
    rw [upd_same, loIn_succ, ← iV_set]
  · rintro σ H2 ⟨v3, v4, rfl, s3, hl2⟩
    rw [iV_len, hpl, hr] at hl2
    exact ⟨_, rfl, ret _ L s3 nL hl2⟩
theorem len_logs_by {vs : List V} {H : Hp} {Q : VK} {E : XK} (h : sp_logs_by K vs H Q E) : vs.length = 2 := by
  obtain ⟨a, k, rfl, _⟩ := h; rfl
theorem c_logs_by (T : Txt K mg) : C8.Cal P w K mg base 2 "logs_by" (sp_logs_by K) [] :=
  cal_of (k := 1) (ps := ["powers", "size"]) T.d_logs_by (fun _ _ _ _ _ _ us hl => match us, hl with | [_, _], _ => rfl) sc_logs_by (fun vs H Q E h => len_logs_by h) fun f cdv A outer s H vs Q E hr h => ⟨_, ps_logs_by T hr, pure_logs_by T h⟩
def sp_sized (K : PySem.W.Frag) : Sp := fun vs H Q _ => ∃ (k : Kd), vs = [.int (k.p : Int), .int (k.n : Int)] ∧ RetV H Q (.int (k.q : Int))
abbrev N_sized : List Str := ["prime", "many", "found", "turn"]
theorem sc_sized : FnScope N_sized ["prime", "many"] (defScope s_sized) := ⟨rfl, rfl, rfl, by decide +kernel, rfl, by decide +kernel, by decide +kernel⟩
def t_sized (K : PySem.W.Frag) : TS :=
  (tSeq (tAsg (tC (.int 1)) (gName 2))
  (tSeq (tFor (iRng1 (tCons (tVar 1) tNil)) (gName 3) (tAsg (tOp oMul (tVar 2) (tVar 0)) (gName 2)))
  (tRet (tVar 2))))
theorem ps_sized {f : Addr} {cdv : Value} {A : Around} {outer : List Env} {s : Shared} {H : Hp} {E : XK} (T : Txt K mg) (hr : Room 1 (A.deeper (envOfC "sized" (defScope s_sized) s.heap.objs.size f cdv))) :
    PSs (cxOf CX0 P w K mg base N_sized "sized" (defScope s_sized) f cdv A outer s H E).nox (defBody s_sized) (t_sized K) := by
  exact (pss_cons (ps_set (i := 2) sc_sized.nd rfl (Or.inl rfl) pe_int)
  (pss_cons (ps_for PassesOwn.never rfl (pi_range1 (by rfl) T.b_range (pa_cons (pv 1) pa_nil)) (pg_name (i := 3) sc_sized.nd rfl (Or.inl rfl)) (pss_one (ps_set (i := 2) sc_sized.nd rfl (Or.inl rfl) (pe_op op_mul (pv 2) (pv 0)))))
  (pss_one (ps_ret (pv 2)))))
theorem pure_sized (T : Txt K mg) {vs : List V} {H : Hp} {Q : VK} {E : XK} (h : sp_sized K vs H Q E) : t_sized K { nx := fun _ H' => Q .non H', rt := Q } (L2.start N_sized vs) H := by
  obtain ⟨k, rfl, ret⟩ := h
  have hp3 := k.p_le
  have hn2 := k.n_le
  refine ⟨_, rfl, _, rfl, by omega, by omega, ?_⟩
  have en : ((k.n : Nat) : Int).toNat = k.n := by omega
  rw [en]
  refine for_range (lo := 0) (n := k.n) (fun i σ H' => ∃ v, σ = [some (.int (k.p : Int)), some (.int (k.n : Int)), some (.int ((k.p ^ i : Nat) : Int)), v] ∧ Same H H') ⟨none, rfl, Same.refl H⟩ ?_ ?_
  · rintro i σ H' hi ⟨v, rfl, s⟩
    refine ⟨_, rfl, _, rfl, _, _, rfl, rfl, .inr ⟨by omega, by omega⟩, ?_⟩
    refine ⟨some (.int (0 + (i : Int))), ?_, s⟩
    rw [Nat.pow_succ, Int.natCast_mul]; rfl
  · rintro σ H' ⟨v, rfl, s⟩
    exact ⟨_, rfl, ret _ s⟩
theorem len_sized {vs : List V} {H : Hp} {Q : VK} {E : XK} (h : sp_sized K vs H Q E) : vs.length = 2 := by
  obtain ⟨k, rfl, _⟩ := h; rfl
theorem c_sized (T : Txt K mg) : C8.Cal P w K mg base 2 "sized" (sp_sized K) [] :=
  cal_of (k := 1) (ps := ["prime", "many"]) T.d_sized (fun _ _ _ _ _ _ us hl => match us, hl with | [_, _], _ => rfl) sc_sized (fun vs H Q E h => len_sized h) fun f cdv A outer s H vs Q E hr h => ⟨_, ps_sized T hr, pure_sized T h⟩
def sp_want_at_most (K : PySem.W.Frag) : Sp := fun vs H Q _ => ∃ (s : Str) (n : Int), vs = [.str s, .int 128, .int n] ∧ n ≤ 128 ∧ RetV H Q .non
abbrev N_want_at_most : List Str := ["what", "limit", "number"]
theorem sc_want_at_most : FnScope N_want_at_most ["what", "limit", "number"] (defScope s_want_at_most) := ⟨rfl, rfl, rfl, by decide +kernel, rfl, by decide +kernel, by decide +kernel⟩
def t_want_at_most (K : PySem.W.Frag) : TS :=
  (tIfS (tTest (tOp oGt (tVar 2) (tVar 1))) tNever tNext)
theorem ps_want_at_most {f : Addr} {cdv : Value} {A : Around} {outer : List Env} {s : Shared} {H : Hp} {E : XK} (T : Txt K mg) (hr : Room 3 (A.deeper (envOfC "want_at_most" (defScope s_want_at_most) s.heap.objs.size f cdv))) :
    PSs (cxOf CX0 P w K mg base N_want_at_most "want_at_most" (defScope s_want_at_most) f cdv A outer s H E).nox (defBody s_want_at_most) (t_want_at_most K) := by
  exact (pss_one (ps_if (pt_cmpR op_gt (pv 2) (pv 1) (nomark _)) (pss_one ps_never) pss_nil))
theorem pure_want_at_most (T : Txt K mg) {vs : List V} {H : Hp} {Q : VK} {E : XK} (h : sp_want_at_most K vs H Q E) : t_want_at_most K { nx := fun _ H' => Q .non H', rt := Q } (L2.start N_want_at_most vs) H := by
  obtain ⟨s, n, rfl, hn, ret⟩ := h
  refine ⟨_, rfl, _, rfl, _, _, rfl, rfl, _, rfl, ?_⟩
  rw [decide_eq_false (by omega : ¬ (128 : Int) < n)]
  exact iteF (ret H (Same.refl H))
theorem len_want_at_most {vs : List V} {H : Hp} {Q : VK} {E : XK} (h : sp_want_at_most K vs H Q E) : vs.length = 3 := by
  obtain ⟨s, n, rfl, _⟩ := h; rfl
theorem c_want_at_most (T : Txt K mg) : C8.Cal P w K mg base 4 "want_at_most" (sp_want_at_most K) [] :=
  cal_of (k := 3) (ps := ["what", "limit", "number"]) T.d_want_at_most (fun _ _ _ _ _ _ us hl => match us, hl with | [_, _, _], _ => rfl) sc_want_at_most (fun vs H Q E h => len_want_at_most h) fun f cdv A outer s H vs Q E hr h => ⟨_, ps_want_at_most T hr, pure_want_at_most T h⟩
end
end Tp
namespace Tp
open PySem PySem.Spec PyProof.Rows L2 Gab
section
variable {P : Program} {w : World} {K : PySem.W.Frag} {mg : Str → Option Value} {base : Heap}
def sp_Field_init (K : PySem.W.Frag) : Sp := fun vs H Q _ => ∃ (x a dx : Addr) (k : Kd), vs = [.ref x, .int (k.p : Int), .ref a] ∧ H x = some (.ins (CF K) dx []) ∧ H a = some (.lst (iV k.md)) ∧ ∀ H', But x H H' → FieldAt K H' x k → Q .non H'
abbrev N_Field_init : List Str := ["self", "prime", "modulus"]
theorem sc_Field_init : FnScope N_Field_init ["self", "prime", "modulus"] (defScope s_Field_init) := ⟨rfl, rfl, rfl, by decide +kernel, rfl, by decide +kernel, by decide +kernel⟩
def t_Field_init (K : PySem.W.Frag) : TS :=
  (tSeq (tDrop (tCall (sp_want_prime K) [] E0 (tCons (tVar 1) tNil)))
  (tSeq (tIfS (tNot (tB (tCall (sp_is_right K) [] E0 (tCons (tVar 1) (tCons (tVar 2) tNil))))) tNever tNext)
  (tSeq (tDrop (tCall (sp_want_at_most K) [] E0 (tCons (tC (.str "elements")) (tCons (tC (.int 128)) (tCons (tCall (sp_sized K) [] E0 (tCons (tVar 1) (tCons (tOp oSub (tCB (cLen K) (tCons (tVar 2) tNil)) (tC (.int 1))) tNil))) tNil)))))
  (tSeq (sFld K (tVar 0) (tVar 1) "own_prime")
  (tSeq (sFld K (tVar 0) (tOp oSub (tCB (cLen K) (tCons (tVar 2) tNil)) (tC (.int 1))) "own_turns")
  (tSeq (sFld K (tVar 0) (tCall (sp_sized K) [] E0 (tCons (tVar 1) (tCons (tOp oSub (tCB (cLen K) (tCons (tVar 2) tNil)) (tC (.int 1))) tNil))) "own_size")
  (tSeq (sFld K (tVar 0) (tCB (cList K) (tCons (tVar 2) tNil)) "own_modulus")
  (tSeq (sFld K (tVar 0) (tCall (sp_all_powers K) [] E0 (tCons (tVar 1) (tCons (tCB (cList K) (tCons (tVar 2) tNil)) (tCons (tCall (sp_sized K) [] E0 (tCons (tVar 1) (tCons (tOp oSub (tCB (cLen K) (tCons (tVar 2) tNil)) (tC (.int 1))) tNil))) tNil)))) "own_powers")
  (sFld K (tVar 0) (tCall (sp_logs_by K) [] E0 (tCons (tFld K (tVar 0) "own_powers") (tCons (tFld K (tVar 0) "own_size") tNil))) "own_logs")))))))))
theorem ps_Field_init {f : Addr} {cdv : Value} {A : Around} {outer : List Env} {s : Shared} {H : Hp} {E : XK} (T : Txt K mg) (hr : Room 7 (A.deeper (envOfC "Field.__init__" (defScope s_Field_init) s.heap.objs.size f cdv))) :
    PSs (cxOf CX0 P w K mg base N_Field_init "Field.__init__" (defScope s_Field_init) f cdv A outer s H E).nox (defBody s_Field_init) (t_Field_init K) := by
  exact (pss_cons (ps_expr (C8.pe_c (c_want_prime T) hr (by decide) (by rfl) (pa_cons (pv 1) pa_nil)))
  (pss_cons (ps_if (pt_not (pt_val (C8.pe_c (c_is_right T) hr (by decide) (by rfl) (pa_cons (pv 1) (pa_cons (pv 2) pa_nil))))) (pss_one ps_never) pss_nil)
  (pss_cons (ps_expr (C8.pe_c (c_want_at_most T) hr (by decide) (by rfl) (pa_cons pe_str (pa_cons (C8.pe_gc (by rfl) (cst T.k_MOST_SIZE)) (pa_cons (C8.pe_c (c_sized T) hr (by decide) (by rfl) (pa_cons (pv 1) (pa_cons (pe_op op_sub (pe_callB call_len_seq (by rfl) T.b_len PySem.boot_len (pa_cons (pv 2) pa_nil)) pe_int) pa_nil))) pa_nil)))))
  (pss_cons (ps_fld (pv 0) (pv 1) rfl)
  (pss_cons (ps_fld (pv 0) (pe_op op_sub (pe_callB call_len_seq (by rfl) T.b_len PySem.boot_len (pa_cons (pv 2) pa_nil)) pe_int) rfl)
  (pss_cons (ps_fld (pv 0) (C8.pe_c (c_sized T) hr (by decide) (by rfl) (pa_cons (pv 1) (pa_cons (pe_op op_sub (pe_callB call_len_seq (by rfl) T.b_len PySem.boot_len (pa_cons (pv 2) pa_nil)) pe_int) pa_nil))) rfl)
  (pss_cons (ps_fld (pv 0) (pe_callTy call_list_of (by rfl) T.b_list (by decide +kernel) (pa_cons (pv 2) pa_nil)) rfl)
  (pss_cons (ps_fld (pv 0) (C8.pe_c (c_all_powers T) hr (by decide) (by rfl) (pa_cons (pv 1) (pa_cons (pe_callTy call_list_of (by rfl) T.b_list (by decide +kernel) (pa_cons (pv 2) pa_nil)) (pa_cons (C8.pe_c (c_sized T) hr (by decide) (by rfl) (pa_cons (pv 1) (pa_cons (pe_op op_sub (pe_callB call_len_seq (by rfl) T.b_len PySem.boot_len (pa_cons (pv 2) pa_nil)) pe_int) pa_nil))) pa_nil)))) rfl)
  (pss_one (ps_fld (pv 0) (C8.pe_c (c_logs_by T) hr (by decide) (by rfl) (pa_cons (pe_fld (pv 0) rfl) (pa_cons (pe_fld (pv 0) rfl) pa_nil))) rfl))))))))))
theorem pure_Field_init (T : Txt K mg) {vs : List V} {H : Hp} {Q : VK} {E : XK} (h : sp_Field_init K vs H Q E) : t_Field_init K { nx := fun _ H' => Q .non H', rt := Q } (L2.start N_Field_init vs) H := by
  obtain ⟨x, a, dx, k, rfl, hx, ha, ret⟩ := h
  have hml := md_len k
  have hn2 := k.n_le
  have hq := k.q_le
  refine ⟨_, rfl, k, rfl, fun H1 s1 => ?_⟩
  refine ⟨_, rfl, _, rfl, a, k, rfl, s1 _ _ ha, fun H2 s2 => ⟨true, rfl, iteF ?_⟩⟩
  have s12 := s1.trans s2
  refine ⟨_, rfl, _, rfl, a, _, rfl, .inl (SqL.of (s12 _ _ ha)), _, _, rfl, rfl, ?_⟩
  have em : ((iV k.md).length : Int) - 1 = (k.n : Int) := by rw [iV_len]; omega
  refine ⟨k, by rw [← em]; rfl, fun H3 s3 => ?_⟩
  refine ⟨_, _, rfl, by omega, fun H4 s4 => ?_⟩
  have s14 := s12.trans (s3.trans s4)
  have hx4 := s14 _ _ hx
  have ha4 := s14 _ _ ha
  have hax : a ≠ x := fun e => by rw [e, hx] at ha; cases ha
  have b0 : But x H4 H4 := But.refl x H4
  refine ⟨_, rfl, _, rfl, x, CF K, dx, _, rfl, hx4, T.i_Field.cl, T.n_own_prime, by decide, ?_⟩
  have b1 := b0.upd (o := .ins (CF K) dx (putF "own_prime" (.int (k.p : Int)) []))
  refine ⟨_, rfl, a, _, rfl, .inl (SqL.of (b1 _ _ hax ha4)), _, _, rfl, rfl, ?_⟩
  dsimp only
  rw [em]
  refine ⟨_, rfl, x, CF K, dx, _, rfl, upd_same, T.i_Field.cl, T.n_own_turns, Nat.lt_of_le_of_lt (plen plen0) (by decide), ?_⟩
  have b2 := b1.upd (o := .ins (CF K) dx (putF "own_turns" (.int (k.n : Int)) (putF "own_prime" (.int (k.p : Int)) [])))
  generalize hf2 : putF "own_turns" (.int (k.n : Int)) (putF "own_prime" (.int (k.p : Int)) []) = f2 at b2
  have l2 : f2.length ≤ 2 := by rw [← hf2]; exact plen (plen plen0)
  refine ⟨_, rfl, _, rfl, a, _, rfl, .inl (SqL.of (b2 _ _ hax ha4)), _, _, rfl, rfl, ?_⟩
  dsimp only
  rw [em]
  refine ⟨k, rfl, fun H5 s5 => ?_⟩
  have b5 := b2.same s5
  have hx5 := s5 _ _ upd_same
  refine ⟨_, rfl, x, CF K, dx, _, rfl, hx5, T.i_Field.cl, T.n_own_size, Nat.lt_of_le_of_lt l2 (by decide), ?_⟩
  have b6 := b5.upd (o := .ins (CF K) dx (putF "own_size" (.int (k.q : Int)) f2))
  generalize hf3 : putF "own_size" (.int (k.q : Int)) f2 = f3 at b6
  have l3 : f3.length ≤ 3 := by rw [← hf3]; exact plen l2
  have hx6 : (upd H5 x (.ins (CF K) dx f3)) x = some (.ins (CF K) dx f3) := upd_same
  generalize upd H5 x (.ins (CF K) dx f3) = H6 at b6 hx6
  have nw : ∀ {H' : Hp} {c : Addr} {g : List (Str × V)}, H' x = some (.ins (CF K) dx g) → H' c = none → c ≠ x := fun e n q => by rw [q, e] at n; cases n
  refine ⟨_, rfl, a, _, rfl, .inl (SqL.of (b6 _ _ hax ha4)), fun c hc => ?_⟩
  have hcx := nw hx6 hc
  have s7 := sm_upd hc (o := .lst (iV k.md))
  have b7 := b6.same s7
  have hx7 := s7 _ _ hx6
  have hc7 : (upd H6 c (.lst (iV k.md))) c = some (.lst (iV k.md)) := upd_same
  generalize upd H6 c (.lst (iV k.md)) = H7 at b7 hx7 hc7 s7
  refine ⟨_, rfl, x, CF K, dx, _, rfl, hx7, T.i_Field.cl, T.n_own_modulus, Nat.lt_of_le_of_lt l3 (by decide), ?_⟩
  have b8 := b7.upd (o := .ins (CF K) dx (putF "own_modulus" (.ref c) f3))
  generalize hf4 : putF "own_modulus" (.ref c) f3 = f4 at b8
  have l4 : f4.length ≤ 4 := by rw [← hf4]; exact plen l3
  have hx8 : (upd H7 x (.ins (CF K) dx f4)) x = some (.ins (CF K) dx f4) := upd_same
  have hc8 : (upd H7 x (.ins (CF K) dx f4)) c = some (.lst (iV k.md)) := by rw [upd_ne hcx]; exact hc7
  generalize upd H7 x (.ins (CF K) dx f4) = H8 at b8 hx8 hc8
  refine ⟨_, rfl, _, rfl, a, _, rfl, .inl (SqL.of (b8 _ _ hax ha4)), fun d hd => ?_⟩
  have s9 := sm_upd hd (o := .lst (iV k.md))
  have b9 := b8.same s9
  refine ⟨_, rfl, _, rfl, a, _, rfl, .inl (SqL.of (b9 _ _ hax ha4)), _, _, rfl, rfl, ?_⟩
  dsimp only
  rw [em]
  refine ⟨k, rfl, fun H10 s10 => ?_⟩
  refine ⟨d, k, rfl, s10 _ _ upd_same, fun H11 pw s11 n11 e11 => ?_⟩
  have s8B := s9.trans (s10.trans s11)
  have b11 := b8.same s8B
  have hx11 := s8B _ _ hx8
  have hpx := nw hx8 (nn (s9.trans s10) n11)
  refine ⟨_, rfl, x, CF K, dx, _, rfl, hx11, T.i_Field.cl, T.n_own_powers, Nat.lt_of_le_of_lt l4 (by decide), ?_⟩
  have b12 := b11.upd (o := .ins (CF K) dx (putF "own_powers" (.ref pw) f4))
  generalize hf5 : putF "own_powers" (.ref pw) f4 = f5 at b12
  have l5 : f5.length ≤ 5 := by rw [← hf5]; exact plen l4
  have hx12 : (upd H11 x (.ins (CF K) dx f5)) x = some (.ins (CF K) dx f5) := upd_same
  have hc12 : (upd H11 x (.ins (CF K) dx f5)) c = some (.lst (iV k.md)) := by rw [upd_ne hcx]; exact s8B _ _ hc8
  have hp12 : (upd H11 x (.ins (CF K) dx f5)) pw = some (.lst (pwL k)) := by rw [upd_ne hpx]; exact e11
  generalize upd H11 x (.ins (CF K) dx f5) = H12 at b12 hx12 hc12 hp12
  have g1 : f5.lookup ("own_powers" : Str) = some (.ref pw) := by rw [← hf5, ← hf4, ← hf3, ← hf2]; rfl
  have g2 : f5.lookup ("own_size" : Str) = some (.int (k.q : Int)) := by rw [← hf5, ← hf4, ← hf3, ← hf2]; rfl
  refine ⟨_, rfl, x, CF K, dx, _, _, rfl, hx12, T.i_Field.cl, T.n_own_powers, g1, ?_⟩
  refine ⟨_, rfl, x, CF K, dx, _, _, rfl, hx12, T.i_Field.cl, T.n_own_size, g2, ?_⟩
  refine ⟨pw, k, rfl, hp12, fun H13 lg s13 n13 e13 => ?_⟩
  have b13 := b12.same s13
  have hx13 := s13 _ _ hx12
  have hlx := nw hx12 n13
  refine ⟨_, rfl, x, CF K, dx, _, rfl, hx13, T.i_Field.cl, T.n_own_logs, Nat.lt_of_le_of_lt l5 (by decide), ?_⟩
  have b14 := b13.upd (o := .ins (CF K) dx (putF "own_logs" (.ref lg) f5))
  have k1 : (putF "own_logs" (.ref lg) f5).lookup ("own_prime" : Str) = some (.int (k.p : Int)) := by rw [← hf5, ← hf4, ← hf3, ← hf2]; rfl
  have k2 : (putF "own_logs" (.ref lg) f5).lookup ("own_turns" : Str) = some (.int (k.n : Int)) := by rw [← hf5, ← hf4, ← hf3, ← hf2]; rfl
  have k3 : (putF "own_logs" (.ref lg) f5).lookup ("own_size" : Str) = some (.int (k.q : Int)) := by rw [← hf5, ← hf4, ← hf3, ← hf2]; rfl
  have k4 : (putF "own_logs" (.ref lg) f5).lookup ("own_modulus" : Str) = some (.ref c) := by rw [← hf5, ← hf4, ← hf3, ← hf2]; rfl
  have k5 : (putF "own_logs" (.ref lg) f5).lookup ("own_powers" : Str) = some (.ref pw) := by rw [← hf5, ← hf4, ← hf3, ← hf2]; rfl
  have k6 : (putF "own_logs" (.ref lg) f5).lookup ("own_logs" : Str) = some (.ref lg) := by rw [← hf5, ← hf4, ← hf3, ← hf2]; rfl
  refine ret _ (fun b u n e => b14 b u n (s14 _ _ e)) ⟨dx, c, pw, lg, _, upd_same, k1, k2, k3, k4, k5, k6, ?_, ?_, ?_⟩
  · rw [upd_ne hcx]; exact s13 _ _ hc12
  · rw [upd_ne hpx]; exact s13 _ _ hp12
  · rw [upd_ne hlx]; exact e13
theorem len_Field_init {vs : List V} {H : Hp} {Q : VK} {E : XK} (h : sp_Field_init K vs H Q E) : vs.length = 3 := by
  obtain ⟨x, a, dx, k, rfl, _⟩ := h; rfl
theorem c_Field (T : Txt K mg) : C8.Mak P w K mg base 8 "Field" (CF K) (sp_Field_init K) [] := by
  obtain ⟨f, fd, M, F⟩ := T.m_Field
  exact ⟨f, fd, ["self", "prime", "modulus"], [], M, F.ok (k := 7) sc_Field_init (fun vs H Q E h => len_Field_init h) (fun cdv A outer s H vs Q E hr h => ⟨_, (ps_Field_init T hr).nox, pure_Field_init T h⟩), T.g_Field, F.bindsN (fun _ _ _ _ _ _ us hl => match us, hl with | [_, _, _], _ => rfl), .nil⟩
end
end Tp
/-! The law's own field, on lists of numbers. -/
namespace Tp
open PySem PySem.Spec PyProof.Rows L2 Gab
def digI (p : Nat) : Nat → Int → List Int
  | 0, _ => []
  | n + 1, a => a % (p : Int) :: digI p n (a / (p : Int))
theorem digI_len (p : Nat) : ∀ n a, (digI p n a).length = n
  | 0, _ => rfl
  | n + 1, a => by show (digI p n _).length + 1 = _; rw [digI_len p n]
theorem digI_nat (p : Nat) : ∀ n (a : Nat), digI p n (a : Int) = (dig p n a).map fun x : Nat => (x : Int)
  | 0, _ => rfl
  | n + 1, a => by
    show (a : Int) % (p : Int) :: digI p n ((a : Int) / (p : Int)) = ((a % p : Nat) : Int) :: (dig p n (a / p)).map _
    rw [← Int.natCast_ediv, digI_nat p n (a / p), Int.natCast_emod]
theorem digI_succ (p : Nat) : ∀ n a, digI p (n + 1) a = digI p n a ++ [a / (p : Int) ^ n % (p : Int)]
  | 0, a => by simp [digI]
  | n + 1, a => by
    show a % (p : Int) :: digI p (n + 1) (a / (p : Int)) = _
    rw [digI_succ p n (a / (p : Int))]
    simp only [digI, List.cons_append]
    rw [Int.ediv_ediv_of_nonneg (Int.natCast_nonneg p), Int.pow_succ, Int.mul_comm (p : Int)]
theorem digI_figs {p : Nat} (hp : 0 < p) : ∀ n a, figs p (digI p n a) = true
  | 0, _ => rfl
  | n + 1, a => by
    show (decide (0 ≤ a % (p : Int)) && decide (a % (p : Int) < (p : Int)) && figs p (digI p n (a / (p : Int)))) = true
    rw [digI_figs hp n, decide_eq_true (Int.emod_nonneg _ (by omega)), decide_eq_true (Int.emod_lt_of_pos _ (by omega))]; rfl
theorem toldI_cons (p : Nat) (x : Int) (xs : List Int) : toldI p (x :: xs) = toldI p xs * (p : Int) + x := by
  unfold toldI; rw [List.reverse_cons, List.foldl_append]; rfl
theorem toldI_nat (p : Nat) : ∀ ds : List Nat, toldI p (ds.map fun x : Nat => (x : Int)) = ((und p ds : Nat) : Int)
  | [] => rfl
  | d :: ds => by
    rw [List.map_cons, toldI_cons, toldI_nat p ds]
    show _ = ((d + p * und p ds : Nat) : Int)
    rw [Int.natCast_add, Int.natCast_mul, Int.mul_comm, Int.add_comm]
def slIn (p : Int) (md : List Int) (n a : Nat) (found : List Int) (i : Nat) : List Int :=
  (List.range i).foldl (fun l to => l.set (a - n + to) ((l.getD (a - n + to) 0 - l.getD a 0 * md.getD to 0) % p)) found
theorem slIn_succ (p : Int) (md : List Int) (n a : Nat) (found : List Int) (i : Nat) :
    slIn p md n a found (i + 1) = (slIn p md n a found i).set (a - n + i) (((slIn p md n a found i).getD (a - n + i) 0 - (slIn p md n a found i).getD a 0 * md.getD i 0) % p) := by
  unfold slIn; rw [List.range_succ, List.foldl_append]; rfl
theorem slIn_len (p : Int) (md : List Int) (n a : Nat) (found : List Int) : ∀ i, (slIn p md n a found i).length = found.length
  | 0 => rfl
  | i + 1 => by rw [slIn_succ, List.length_set, slIn_len p md n a found i]
def slOut (p : Int) (md : List Int) (n : Nat) (found : List Int) (i : Nat) : List Int := (List.range i).foldl (fun l j => slIn p md n (2 * n - 1 - j) l n) found
theorem slOut_succ (p : Int) (md : List Int) (n : Nat) (found : List Int) (i : Nat) : slOut p md n found (i + 1) = slIn p md n (2 * n - 1 - i) (slOut p md n found i) n := by
  unfold slOut; rw [List.range_succ, List.foldl_append]; rfl
theorem slOut_len (p : Int) (md : List Int) (n : Nat) (found : List Int) : ∀ i, (slOut p md n found i).length = found.length
  | 0 => rfl
  | i + 1 => by rw [slOut_succ, slIn_len, slOut_len p md n found i]
def slowI (k : Kd) (a b : Int) : Int :=
  toldI k.p ((slOut k.p k.md k.n (ptOut k.p (digI k.p k.n a) (digI k.p k.n b) (List.replicate (2 * k.n) 0) k.n) k.n).take k.n)
def lpLoop (k : Kd) (one : Int) : Nat → List Int → Option (List Int)
  | 0, _ => none
  | m + 1, found => if (found.length : Int) < (k.q : Int) - 1 then (if slowI k (lastI found) one = 1 then some found else lpLoop k one m (found ++ [slowI k (lastI found) one])) else some found
def lawPw (k : Kd) (one : Int) : Option (List Int) := lpLoop k one 40 [1]
def lwLoop (k : Kd) : Nat → List Int → Int → Option (List Int)
  | 0, _, _ => none
  | m + 1, ps, one => if (ps.length : Int) < (k.q : Int) - 1 then (lawPw k one).bind fun q => lwLoop k m q (one + 1) else some ps
theorem law_pws (k : Kd) : lwLoop k 5 [1] k.p = some (k.pws.map fun x : Nat => (x : Int)) := by cases k <;> decide +kernel
theorem law_lgs (k : Kd) : loIn (k.pws.map fun x : Nat => (x : Int)) (List.replicate k.q 0) (k.q - 1) = k.lgs.map fun x : Nat => (x : Int) := by cases k <;> decide +kernel
end Tp
namespace Tp
open PySem PySem.Spec PyProof.Rows L2 Gab
/-- the pot -/
structure PotAt (H : Hp) (p : Addr) : Prop where
  ex : ∃ a b : Int, H p = some (.lst [.int a, .int b]) ∧ 0 ≤ a ∧ 0 ≤ b ∧ b < 4294967296
theorem PotAt.same {H H' : Hp} {p : Addr} (h : PotAt H p) (s : Same H H') : PotAt H' p := by
  obtain ⟨a, b, e, q⟩ := h.ex
  exact ⟨⟨a, b, s _ _ e, q⟩⟩
theorem PotAt.ne {H : Hp} {p a : Addr} {xs : List V} (h : PotAt H p) (e : H a = some (.lst xs)) (hl : xs.length ≠ 2) : a ≠ p := fun q => by
  obtain ⟨x, y, e2, _⟩ := h.ex
  rw [q, e2] at e
  have := HO.lst.inj (Option.some.inj e)
  rw [← this] at hl; exact hl rfl
theorem PotAt.new {H : Hp} {p a : Addr} (h : PotAt H p) (e : H a = none) : a ≠ p := fun q => by
  obtain ⟨x, y, e2, _⟩ := h.ex
  rw [q, e2] at e; cases e
theorem sbut {H H' : Hp} (s : Same H H') (p : Addr) : But p H H' := fun b u _ e => s b u e
theorem But.trans {p : Addr} {H H1 H2 : Hp} (a : But p H H1) (b : But p H1 H2) : But p H H2 := fun x u n e => b x u n (a x u n e)
theorem But.free {p a : Addr} {H H' : Hp} (s : But p H H') (n : a ≠ p) (h : H' a = none) : H a = none := by
  cases e : H a with
  | none => rfl
  | some o => rw [s _ _ n e] at h; cases h
section
variable {P : Program} {w : World} {K : PySem.W.Frag} {mg : Str → Option Value} {base : Heap}
def sp_law_pot (K : PySem.W.Frag) : Sp := fun vs H Q _ => ∃ (a : Addr) (xs : List Int), vs = [.ref a, .int 0] ∧ SqL K H a (iV xs) ∧ ∀ H' p, Same H H' → PotAt H' p → Q (.ref p) H'
abbrev N_law_pot : List Str := ["_law_script", "_law_k", "_law_cell"]
theorem sc_law_pot : FnScope N_law_pot ["_law_script", "_law_k"] (defScope s_law_pot) := ⟨rfl, rfl, rfl, by decide +kernel, rfl, by decide +kernel, by decide +kernel⟩
def t_law_pot (K : PySem.W.Frag) : TS :=
  (tSeq (tAsg (tIf (tTest (tOp oLt (tVar 1) (tCB (cLen K) (tCons (tVar 0) tNil)))) (tCB cAbs (tCons (tOp (rIxL K) (tVar 0) (tVar 1)) tNil)) (tOp oAdd (tOp oMul (tC (.int 523)) (tVar 1)) (tC (.int 487)))) (gName 2))
  (tRet (tLst (tCons (tCB cMax (tCons (tC (.int 0)) (tCons (tOp oSub (tVar 2) (tOp oPow (tC (.int 10)) (tC (.int 18)))) tNil))) (tCons (tOp oAdd (tOp oMod (tCB cInt (tCons (tOp oAdd (tOp oAdd (tOp oMul (tOp oMod (tCB cInt (tCons (tVar 2) tNil)) (tC (.int 2147483549))) (tC (.int 48271))) (tOp oMul (tC (.int 8059)) (tVar 1))) (tC (.int 31))) tNil)) (tC (.int 2147483563))) (tC (.int 1))) tNil)))))
theorem ps_law_pot {f : Addr} {cdv : Value} {A : Around} {outer : List Env} {s : Shared} {H : Hp} {E : XK} (T : Txt K mg) (hr : Room 1 (A.deeper (envOfC "_law_pot" (defScope s_law_pot) s.heap.objs.size f cdv))) :
    PSs (cxOf CX0 P w K mg base N_law_pot "_law_pot" (defScope s_law_pot) f cdv A outer s H E).nox (defBody s_law_pot) (t_law_pot K) := by
  exact (pss_cons (ps_set (i := 2) sc_law_pot.nd rfl (Or.inl rfl) (pe_ifExp (pt_cmpR op_lt (pv 1) (pe_callB call_len_seq (by rfl) T.b_len PySem.boot_len (pa_cons (pv 0) pa_nil)) (nomark _)) (pe_callB call_abs (by rfl) T.b_abs (by decide +kernel) (pa_cons (pe_ix ix_list (pv 0) (pv 1) (fun _ _ => rfl)) pa_nil)) (pe_op op_add (pe_op op_mul pe_int (pv 1)) pe_int)))
  (pss_one (ps_ret (pe_lst (pa_cons (pe_callB (call_max2 rfl) (by rfl) T.b_max (by decide +kernel) (pa_cons pe_int (pa_cons (pe_op op_sub (pv 2) (pe_op op_pow pe_int pe_int)) pa_nil))) (pa_cons (pe_op op_add (pe_op op_mod (pe_callTy call_int1 (by rfl) T.b_int (by decide +kernel) (pa_cons (pe_op op_add (pe_op op_add (pe_op op_mul (pe_op op_mod (pe_callTy call_int1 (by rfl) T.b_int (by decide +kernel) (pa_cons (pv 2) pa_nil)) pe_int) pe_int) (pe_op op_mul pe_int (pv 1))) pe_int) pa_nil)) pe_int) pe_int) pa_nil))))))
theorem pot_end (T : Txt K mg) {H H0 : Hp} {Q : VK} {a : Addr} (c : Int) (s0 : Same H0 H) (ret : ∀ H' p, Same H0 H' → PotAt H' p → Q (.ref p) H') :
    (tRet (tLst (tCons (tCB cMax (tCons (tC (.int 0)) (tCons (tOp oSub (tVar 2) (tOp oPow (tC (.int 10)) (tC (.int 18)))) tNil))) (tCons (tOp oAdd (tOp oMod (tCB cInt (tCons (tOp oAdd (tOp oAdd (tOp oMul (tOp oMod (tCB cInt (tCons (tVar 2) tNil)) (tC (.int 2147483549))) (tC (.int 48271))) (tOp oMul (tC (.int 8059)) (tVar 1))) (tC (.int 31))) tNil)) (tC (.int 2147483563))) (tC (.int 1))) tNil)))) { nx := fun _ H' => Q .non H', rt := Q } [some (.ref a), some (.int 0), some (.int c)] H := by
  refine ⟨_, rfl, _, _, rfl, rfl, ⟨by decide, by decide, by decide⟩, _, _, rfl, rfl, _, _, rfl, ?_⟩
  refine ⟨_, rfl, .inl ⟨_, rfl, _, _, rfl, rfl, by omega, _, _, rfl, rfl, .inr ⟨by decide, by decide⟩, _, rfl, _, _, rfl, rfl, .inr ⟨by decide, by decide⟩, _, _, rfl, rfl, _, _, rfl, rfl, .inl ⟨_, rfl, _, _, rfl, rfl, by omega, _, _, rfl, rfl, by show 2 ≤ sizeLine; decide, fun p hp => ?_⟩⟩⟩
  refine ret _ p (sm_upd' s0 hp) ⟨⟨_, _, upd_same, ?_, ?_, ?_⟩⟩
  · split <;> omega
  · omega
  · omega
theorem pure_law_pot (T : Txt K mg) {vs : List V} {H : Hp} {Q : VK} {E : XK} (h : sp_law_pot K vs H Q E) : t_law_pot K { nx := fun _ H' => Q .non H', rt := Q } (L2.start N_law_pot vs) H := by
  obtain ⟨a, xs, rfl, ha, ret⟩ := h
  refine ⟨_, rfl, _, rfl, a, _, rfl, .inl (ha), _, _, rfl, rfl, _, rfl, ?_⟩
  rw [iV_len]
  refine ite2 (fun hc => ?_) (fun hc => ?_)
  · have h0 : 0 < xs.length := by have := of_decide_eq_true hc; omega
    refine ⟨_, rfl, _, rfl, a, _, _, _, rfl, rfl, ha, atI_nat (j := 0) (iV_get h0), _, rfl, ?_⟩
    exact pot_end T _ (Same.refl H) ret
  · refine ⟨_, rfl, _, _, rfl, rfl, .inl ⟨by decide, by decide⟩, _, _, rfl, rfl, ?_⟩
    exact pot_end T _ (Same.refl H) ret
theorem len_law_pot {vs : List V} {H : Hp} {Q : VK} {E : XK} (h : sp_law_pot K vs H Q E) : vs.length = 2 := by
  obtain ⟨a, xs, rfl, _⟩ := h; rfl
theorem c_law_pot (T : Txt K mg) : C8.Cal P w K mg base 2 "_law_pot" (sp_law_pot K) [] :=
  cal_of (k := 1) (ps := ["_law_script", "_law_k"]) T.d_law_pot (fun _ _ _ _ _ _ us hl => match us, hl with | [_, _], _ => rfl) sc_law_pot (fun vs H Q E h => len_law_pot h) fun f cdv A outer s H vs Q E hr h => ⟨_, ps_law_pot T hr, pure_law_pot T h⟩
def sp_law_draw (K : PySem.W.Frag) : Sp := fun vs H Q _ => ∃ (p : Addr) (m : Nat), vs = [.ref p, .int (m : Int)] ∧ PotAt H p ∧ 0 < m ∧ m < 1000000 ∧ ∀ H' (y : Nat), But p H H' → PotAt H' p → y < m → Q (.int (y : Int)) H'
abbrev N_law_draw : List Str := ["_law_pot_here", "_law_many", "_law_digit"]
theorem sc_law_draw : FnScope N_law_draw ["_law_pot_here", "_law_many"] (defScope s_law_draw) := ⟨rfl, rfl, rfl, by decide +kernel, rfl, by decide +kernel, by decide +kernel⟩
def t_law_draw (K : PySem.W.Frag) : TS :=
  (tSeq (tIfS (tTest (tOp oGt (tOp (rIxL K) (tVar 0) (tC (.int 0))) (tC (.int 0)))) (tSeq (tAsg (tCB cDm (tCons (tOp (rIxL K) (tVar 0) (tC (.int 0))) (tCons (tVar 1) tNil))) (gTup K 2 (gCons (gSub (tVar 0) (tC (.int 0)) rSetL) (gCons (gName 2) gNil))))
  (tRet (tVar 2))) tNext)
  (tSeq (tAsg (tOp oMod (tCB cInt (tCons (tOp oAdd (tOp oMul (tOp (rIxL K) (tVar 0) (tC (.int 1))) (tC (.int 39373))) (tC (.int 8059))) tNil)) (tC (.int 2147483587))) (gSub (tVar 0) (tC (.int 1)) rSetL))
  (tRet (tOp oMod (tCB cInt (tCons (tOp oDiv (tOp oMod (tCB cInt (tCons (tOp oMul (tOp (rIxL K) (tVar 0) (tC (.int 1))) (tOp (rIxL K) (tVar 0) (tC (.int 1)))) tNil)) (tC (.int 2147483563))) (tC (.int 19))) tNil)) (tVar 1)))))
theorem ps_law_draw {f : Addr} {cdv : Value} {A : Around} {outer : List Env} {s : Shared} {H : Hp} {E : XK} (T : Txt K mg) (hr : Room 1 (A.deeper (envOfC "_law_draw" (defScope s_law_draw) s.heap.objs.size f cdv))) :
    PSs (cxOf CX0 P w K mg base N_law_draw "_law_draw" (defScope s_law_draw) f cdv A outer s H E).nox (defBody s_law_draw) (t_law_draw K) := by
  exact (pss_cons (ps_if (pt_cmpR op_gt (pe_ix ix_list (pv 0) pe_int (fun _ _ => rfl)) pe_int (nomark _)) (pss_cons (ps_asg (pe_callB call_divmod (by rfl) T.b_divmod (by decide +kernel) (pa_cons (pe_ix ix_list (pv 0) pe_int (fun _ _ => rfl)) (pa_cons (pv 1) pa_nil))) (pg_tup (by rfl) (pgs_cons (pg_sub (pv 0) pe_int set_list) (pgs_cons (pg_name (i := 2) sc_law_draw.nd rfl (Or.inl rfl)) pgs_nil))))
  (pss_one (ps_ret (pv 2)))) pss_nil)
  (pss_cons (ps_asg (pe_op op_mod (pe_callTy call_int1 (by rfl) T.b_int (by decide +kernel) (pa_cons (pe_op op_add (pe_op op_mul (pe_ix ix_list (pv 0) pe_int (fun _ _ => rfl)) pe_int) pe_int) pa_nil)) pe_int) (pg_sub (pv 0) pe_int set_list))
  (pss_one (ps_ret (pe_op op_mod (pe_callTy call_int1 (by rfl) T.b_int (by decide +kernel) (pa_cons (pe_op op_fdiv (pe_op op_mod (pe_callTy call_int1 (by rfl) T.b_int (by decide +kernel) (pa_cons (pe_op op_mul (pe_ix ix_list (pv 0) pe_int (fun _ _ => rfl)) (pe_ix ix_list (pv 0) pe_int (fun _ _ => rfl))) pa_nil)) pe_int) pe_int) pa_nil)) (pv 1))))))
theorem pure_law_draw (T : Txt K mg) {vs : List V} {H : Hp} {Q : VK} {E : XK} (h : sp_law_draw K vs H Q E) : t_law_draw K { nx := fun _ H' => Q .non H', rt := Q } (L2.start N_law_draw vs) H := by
  obtain ⟨p, m, rfl, ⟨a, b, hp, ha, hb, hb2⟩, h0, hm, ret⟩ := h
  refine ⟨_, rfl, p, _, 0, _, rfl, rfl, SqL.of hp, rfl, _, _, rfl, rfl, _, rfl, ?_⟩
  refine ite2 (fun hc => ?_) (fun hc => ?_)
  · refine ⟨_, rfl, p, _, 0, _, rfl, rfl, SqL.of hp, rfl, _, rfl, _, _, rfl, ⟨by omega, by omega⟩, fun t ht => ?_⟩
    have htp : p ≠ t := fun e => by rw [e, ht] at hp; cases hp
    refine ⟨t, _, rfl, SqT.of upd_same, rfl, _, _, rfl, _, rfl, p, _, 0, 0, rfl, rfl, by rw [upd_ne htp]; exact hp, rfl, _, _, rfl, rfl, ?_⟩
    have e1 := Int.emod_nonneg a (show (m : Int) ≠ 0 by omega)
    have e2 := Int.emod_lt_of_pos a (show (0 : Int) < (m : Int) by omega)
    obtain ⟨y, hy⟩ : ∃ y : Nat, a % (m : Int) = (y : Int) := ⟨(a % (m : Int)).toNat, by omega⟩
    have r := ret (upd (upd H t (.tup [.int (a / (m : Int)), .int (a % (m : Int))])) p (.lst [.int (a / (m : Int)), .int b])) y ((sbut (sm_upd ht) p).upd) ⟨⟨_, _, upd_same, Int.ediv_nonneg ha (by omega), hb, hb2⟩⟩ (by omega)
    rw [← hy] at r
    exact ⟨_, rfl, r⟩
  · refine ⟨_, rfl, p, _, 1, _, rfl, rfl, SqL.of hp, rfl, _, _, rfl, rfl, .inr ⟨by decide, by decide⟩, _, _, rfl, rfl, .inl ⟨_, rfl, _, _, rfl, rfl, by omega, ?_⟩⟩
    generalize hb' : (b * 39373 + 8059) % 2147483587 = b'
    have g1 : 0 ≤ b' := by omega
    have g2 : b' < 4294967296 := by omega
    refine ⟨_, rfl, p, _, 1, 1, rfl, rfl, hp, rfl, ?_⟩
    have hp1 : (upd H p (.lst ([V.int a, V.int b].set 1 (V.int ((b * 39373 + 8059) % 2147483587))))) p = some (.lst [.int a, .int b']) := by rw [upd_same, ← hb']; rfl
    have bt : But p H (upd H p (.lst ([V.int a, V.int b].set 1 (V.int ((b * 39373 + 8059) % 2147483587))))) := (But.refl p H).upd
    refine ⟨_, rfl, p, _, 1, _, rfl, rfl, SqL.of hp1, rfl, _, rfl, p, _, 1, _, rfl, rfl, SqL.of hp1, rfl, _, _, rfl, rfl, .inl ⟨by omega, by omega⟩, .inl ⟨_, rfl, _, _, rfl, rfl, by omega, _, _, rfl, rfl, ⟨by decide, by decide⟩, .inl ⟨_, rfl, _, rfl, _, _, rfl, rfl, by omega, ?_⟩⟩⟩
    dsimp only
    generalize b' * b' % 2147483563 / 19 = z
    have e1 := Int.emod_nonneg z (show (m : Int) ≠ 0 by omega)
    have e2 := Int.emod_lt_of_pos z (show (0 : Int) < (m : Int) by omega)
    obtain ⟨y, hy⟩ : ∃ y : Nat, z % (m : Int) = (y : Int) := ⟨(z % (m : Int)).toNat, by omega⟩
    rw [hy]
    exact ret _ y bt ⟨⟨a, b', hp1, ha, g1, g2⟩⟩ (by omega)
theorem len_law_draw {vs : List V} {H : Hp} {Q : VK} {E : XK} (h : sp_law_draw K vs H Q E) : vs.length = 2 := by
  obtain ⟨p, m, rfl, _⟩ := h; rfl
theorem c_law_draw (T : Txt K mg) : C8.Cal P w K mg base 2 "_law_draw" (sp_law_draw K) [] :=
  cal_of (k := 1) (ps := ["_law_pot_here", "_law_many"]) T.d_law_draw (fun _ _ _ _ _ _ us hl => match us, hl with | [_, _], _ => rfl) sc_law_draw (fun vs H Q E h => len_law_draw h) fun f cdv A outer s H vs Q E hr h => ⟨_, ps_law_draw T hr, pure_law_draw T h⟩
def sp_law_pick (K : PySem.W.Frag) : Sp := fun vs H Q _ => ∃ (p a : Addr) (xs : List V), vs = [.ref p, .ref a] ∧ PotAt H p ∧ H a = some (.lst xs) ∧ a ≠ p ∧ xs ≠ [] ∧ xs.length < 1000000 ∧ ∀ H' v, But p H H' → PotAt H' p → v ∈ xs → Q v H'
abbrev N_law_pick : List Str := ["_law_pot_here", "_law_some_here"]
theorem sc_law_pick : FnScope N_law_pick ["_law_pot_here", "_law_some_here"] (defScope s_law_pick) := ⟨rfl, rfl, rfl, by decide +kernel, rfl, by decide +kernel, by decide +kernel⟩
def t_law_pick (K : PySem.W.Frag) : TS :=
  (tRet (tOp (rIxL K) (tVar 1) (tCall (sp_law_draw K) [] E0 (tCons (tVar 0) (tCons (tCB (cLen K) (tCons (tVar 1) tNil)) tNil)))))
theorem ps_law_pick {f : Addr} {cdv : Value} {A : Around} {outer : List Env} {s : Shared} {H : Hp} {E : XK} (T : Txt K mg) (hr : Room 2 (A.deeper (envOfC "_law_pick" (defScope s_law_pick) s.heap.objs.size f cdv))) :
    PSs (cxOf CX0 P w K mg base N_law_pick "_law_pick" (defScope s_law_pick) f cdv A outer s H E).nox (defBody s_law_pick) (t_law_pick K) := by
  exact (pss_one (ps_ret (pe_ix ix_list (pv 1) (C8.pe_c (c_law_draw T) hr (by decide) (by rfl) (pa_cons (pv 0) (pa_cons (pe_callB call_len_seq (by rfl) T.b_len PySem.boot_len (pa_cons (pv 1) pa_nil)) pa_nil))) (fun _ _ => rfl))))
theorem pure_law_pick (T : Txt K mg) {vs : List V} {H : Hp} {Q : VK} {E : XK} (h : sp_law_pick K vs H Q E) : t_law_pick K { nx := fun _ H' => Q .non H', rt := Q } (L2.start N_law_pick vs) H := by
  obtain ⟨p, a, xs, rfl, hp, ha, hne, h0, hl, ret⟩ := h
  refine ⟨_, rfl, _, rfl, _, rfl, a, _, rfl, .inl (SqL.of ha), ?_⟩
  refine ⟨p, xs.length, rfl, hp, List.length_pos_iff.mpr h0, hl, fun H1 y b1 p1 hy => ?_⟩
  exact ⟨a, _, _, _, rfl, rfl, SqL.of (b1 _ _ hne ha), atI_nat (List.getElem?_eq_getElem hy), ret _ _ b1 p1 (List.getElem_mem hy)⟩
theorem len_law_pick {vs : List V} {H : Hp} {Q : VK} {E : XK} (h : sp_law_pick K vs H Q E) : vs.length = 2 := by
  obtain ⟨p, a, xs, rfl, _⟩ := h; rfl
theorem c_law_pick (T : Txt K mg) : C8.Cal P w K mg base 3 "_law_pick" (sp_law_pick K) [] :=
  cal_of (k := 2) (ps := ["_law_pot_here", "_law_some_here"]) T.d_law_pick (fun _ _ _ _ _ _ us hl => match us, hl with | [_, _], _ => rfl) sc_law_pick (fun vs H Q E h => len_law_pick h) fun f cdv A outer s H vs Q E hr h => ⟨_, ps_law_pick T hr, pure_law_pick T h⟩
def sp_law_figures (K : PySem.W.Frag) : Sp := fun vs H Q _ => ∃ (k : Kd) (a : Int) (n : Nat), vs = [.int (k.p : Int), .int a, .int (n : Int)] ∧ n ≤ 40 ∧ RetL H Q (iV (digI k.p n a))
abbrev N_law_figures : List Str := ["_law_prime", "_law_one", "_law_many", "_law_found", "_law_left", "_law_turn"]
theorem sc_law_figures : FnScope N_law_figures ["_law_prime", "_law_one", "_law_many"] (defScope s_law_figures) := ⟨rfl, rfl, rfl, by decide +kernel, rfl, by decide +kernel, by decide +kernel⟩
def t_law_figures (K : PySem.W.Frag) : TS :=
  (tSeq (tPar 3 4 (tCons (tLst tNil) (tCons (tVar 1) tNil)))
  (tSeq (tFor (iRng1 (tCons (tVar 2) tNil)) (gName 5) (tSeq (tDrop (tBM K "list" rAppend (tVar 3) (tCons (tOp oMod (tVar 4) (tVar 0)) tNil)))
  (tAsg (tOp oDiv (tVar 4) (tVar 0)) (gName 4))))
  (tRet (tVar 3))))
theorem ps_law_figures {f : Addr} {cdv : Value} {A : Around} {outer : List Env} {s : Shared} {H : Hp} {E : XK} (T : Txt K mg) (hr : Room 1 (A.deeper (envOfC "_law_figures" (defScope s_law_figures) s.heap.objs.size f cdv))) :
    PSs (cxOf CX0 P w K mg base N_law_figures "_law_figures" (defScope s_law_figures) f cdv A outer s H E).nox (defBody s_law_figures) (t_law_figures K) := by
  exact (pss_cons (ps_par (i := 3) (j := 4) (by rfl) sc_law_figures.nd rfl rfl (by decide) rfl rfl (pa_cons (pe_lst pa_nil) (pa_cons (pv 1) pa_nil)) (by rfl))
  (pss_cons (ps_for PassesOwn.never rfl (pi_range1 (by rfl) T.b_range (pa_cons (pv 2) pa_nil)) (pg_name (i := 5) sc_law_figures.nd rfl (Or.inl rfl)) (pss_cons (ps_expr (pe_bm PySem.F.plainAttrs_list PySem.F.slot_list_append PySem.F.type_list_append mt_append (pv 3) (pa_cons (pe_op op_mod (pv 4) (pv 0)) pa_nil)))
  (pss_one (ps_set (i := 4) sc_law_figures.nd rfl (Or.inl rfl) (pe_op op_fdiv (pv 4) (pv 0))))))
  (pss_one (ps_ret (pv 3)))))
theorem pure_law_figures (T : Txt K mg) {vs : List V} {H : Hp} {Q : VK} {E : XK} (h : sp_law_figures K vs H Q E) : t_law_figures K { nx := fun _ H' => Q .non H', rt := Q } (L2.start N_law_figures vs) H := by
  obtain ⟨k, a, n, rfl, hn, ret⟩ := h
  have hp2 := k.p_two
  have hp3 := k.p_le
  refine ⟨Nat.zero_le _, fun p hp => ⟨_, rfl, _, _, rfl, ?_⟩⟩
  refine ⟨_, rfl, _, rfl, by omega, by omega, ?_⟩
  have en : ((n : Nat) : Int).toNat = n := by omega
  rw [en]
  refine for_range (lo := 0) (n := n) (fun i σ H' => ∃ v, σ = [some (.int (k.p : Int)), some (.int a), some (.int (n : Int)), some (.ref p), some (.int (a / (k.p : Int) ^ i)), v] ∧ Same H H' ∧ H' p = some (.lst (iV (digI k.p i a))))
    ⟨none, by simp only [Int.pow_zero, Int.ediv_one]; rfl, sm_upd hp, upd_same⟩ ?_ ?_
  · rintro i σ H' hi ⟨v, rfl, s, hL⟩
    refine ⟨_, rfl, .inl ⟨rfl, _, SqL.of hL⟩, _, rfl, _, rfl, _, _, rfl, rfl, by omega, p, _, _, rfl, rfl, hL, small (by rw [iV_len, digI_len]; omega), ?_⟩
    have s' : Same H (upd H' p (.lst (iV (digI k.p i a) ++ [.int (a / (k.p : Int) ^ i % (k.p : Int))]))) := sm_set s hp
    refine ⟨_, rfl, _, rfl, _, _, rfl, rfl, ⟨by omega, by omega⟩, ?_⟩
    have e : a / (k.p : Int) ^ i / (k.p : Int) = a / (k.p : Int) ^ (i + 1) := by
      rw [Int.ediv_ediv_of_nonneg (Int.pow_nonneg (Int.natCast_nonneg _)), Int.pow_succ]
    refine ⟨some (.int (0 + (i : Int))), by rw [← e]; rfl, s', ?_⟩
    rw [upd_same, digI_succ]; simp
  · rintro σ H' ⟨v, rfl, s, hL⟩
    exact ⟨_, rfl, ret _ _ s hp hL⟩
theorem len_law_figures {vs : List V} {H : Hp} {Q : VK} {E : XK} (h : sp_law_figures K vs H Q E) : vs.length = 3 := by
  obtain ⟨k, a, n, rfl, _⟩ := h; rfl
theorem c_law_figures (T : Txt K mg) : C8.Cal P w K mg base 2 "_law_figures" (sp_law_figures K) [] :=
  cal_of (k := 1) (ps := ["_law_prime", "_law_one", "_law_many"]) T.d_law_figures (fun _ _ _ _ _ _ us hl => match us, hl with | [_, _, _], _ => rfl) sc_law_figures (fun vs H Q E h => len_law_figures h) fun f cdv A outer s H vs Q E hr h => ⟨_, ps_law_figures T hr, pure_law_figures T h⟩
def sp_law_number (K : PySem.W.Frag) : Sp := sp_told_number K
abbrev N_law_number : List Str := ["_law_prime", "_law_figures_here", "_law_found", "_law_figure"]
theorem sc_law_number : FnScope N_law_number ["_law_prime", "_law_figures_here"] (defScope s_law_number) := ⟨rfl, rfl, rfl, by decide +kernel, rfl, by decide +kernel, by decide +kernel⟩
def t_law_number (K : PySem.W.Frag) : TS :=
  (tSeq (tAsg (tC (.int 0)) (gName 2))
  (tSeq (tFor (iList K (tRevL K (tVar 1))) (gName 3) (tAsg (tOp oAdd (tOp oMul (tVar 2) (tVar 0)) (tVar 3)) (gName 2)))
  (tRet (tVar 2))))
theorem ps_law_number {f : Addr} {cdv : Value} {A : Around} {outer : List Env} {s : Shared} {H : Hp} {E : XK} (T : Txt K mg) (hr : Room 1 (A.deeper (envOfC "_law_number" (defScope s_law_number) s.heap.objs.size f cdv))) :
    PSs (cxOf CX0 P w K mg base N_law_number "_law_number" (defScope s_law_number) f cdv A outer s H E).nox (defBody s_law_number) (t_law_number K) := by
  exact (pss_cons (ps_set (i := 2) sc_law_number.nd rfl (Or.inl rfl) pe_int)
  (pss_cons (ps_for PassesOwn.never rfl (pi_list (pe_revL (pv 1))) (pg_name (i := 3) sc_law_number.nd rfl (Or.inl rfl)) (pss_one (ps_set (i := 2) sc_law_number.nd rfl (Or.inl rfl) (pe_op op_add (pe_op op_mul (pv 2) (pv 0)) (pv 3)))))
  (pss_one (ps_ret (pv 2)))))
theorem pure_law_number (T : Txt K mg) {vs : List V} {H : Hp} {Q : VK} {E : XK} (h : sp_law_number K vs H Q E) : t_law_number K { nx := fun _ H' => Q .non H', rt := Q } (L2.start N_law_number vs) H := pure_told_number T h
theorem len_law_number {vs : List V} {H : Hp} {Q : VK} {E : XK} (h : sp_law_number K vs H Q E) : vs.length = 2 := len_told_number h
theorem c_law_number (T : Txt K mg) : C8.Cal P w K mg base 2 "_law_number" (sp_law_number K) [] :=
  cal_of (k := 1) (ps := ["_law_prime", "_law_figures_here"]) T.d_law_number (fun _ _ _ _ _ _ us hl => match us, hl with | [_, _], _ => rfl) sc_law_number (fun vs H Q E h => len_law_number h) fun f cdv A outer s H vs Q E hr h => ⟨_, ps_law_number T hr, pure_law_number T h⟩
end
end Tp
namespace Tp
open PySem PySem.Spec PyProof.Rows L2 Gab
theorem getD_eq {xs : List Int} {i : Nat} (h : i < xs.length) : xs.getD i 0 = xs[i] := by rw [List.getD_eq_getElem?_getD, List.getElem?_eq_getElem h]; rfl
section
variable {P : Program} {w : World} {K : PySem.W.Frag} {mg : Str → Option Value} {base : Heap}
def sp_law_slow (K : PySem.W.Frag) : Sp := fun vs H Q _ => ∃ (c : Addr) (k : Kd) (a b : Int), vs = [.int (k.p : Int), .ref c, .int a, .int b] ∧ H c = some (.lst (iV k.md)) ∧ RetV H Q (.int (slowI k a b))
abbrev N_law_slow : List Str := ["_law_prime", "_law_modulus", "_law_one", "_law_other", "_law_many", "_law_near", "_law_far", "_law_found", "_law_at", "_law_to"]
theorem sc_law_slow : FnScope N_law_slow ["_law_prime", "_law_modulus", "_law_one", "_law_other"] (defScope s_law_slow) := ⟨rfl, rfl, rfl, by decide +kernel, rfl, by decide +kernel, by decide +kernel⟩
def t_law_slow (K : PySem.W.Frag) : TS :=
  (tSeq (tAsg (tOp oSub (tCB (cLen K) (tCons (tVar 1) tNil)) (tC (.int 1))) (gName 4))
  (tSeq (tPar3 5 6 7 (tCons (tCall (sp_law_figures K) [] E0 (tCons (tVar 0) (tCons (tVar 2) (tCons (tVar 4) tNil)))) (tCons (tCall (sp_law_figures K) [] E0 (tCons (tVar 0) (tCons (tVar 3) (tCons (tVar 4) tNil)))) (tCons (tOp rRep (tLst (tCons (tC (.int 0)) tNil)) (tOp oMul (tC (.int 2)) (tVar 4))) tNil))))
  (tSeq (tFor (iRng1 (tCons (tVar 4) tNil)) (gName 8) (tFor (iRng1 (tCons (tVar 4) tNil)) (gName 9) (tAsg (tOp oMod (tOp oAdd (tOp (rIxL K) (tVar 7) (tOp oAdd (tVar 8) (tVar 9))) (tOp oMul (tOp (rIxL K) (tVar 5) (tVar 8)) (tOp (rIxL K) (tVar 6) (tVar 9)))) (tVar 0)) (gSub (tVar 7) (tOp oAdd (tVar 8) (tVar 9)) rSetL))))
  (tSeq (tFor (iRng3 (tCons (tOp oSub (tOp oMul (tC (.int 2)) (tVar 4)) (tC (.int 1))) (tCons (tOp oSub (tVar 4) (tC (.int 1))) (tCons (tUn uNeg (tC (.int 1))) tNil)))) (gName 8) (tFor (iRng1 (tCons (tVar 4) tNil)) (gName 9) (tAsg (tOp oMod (tOp oSub (tOp (rIxL K) (tVar 7) (tOp oAdd (tOp oSub (tVar 8) (tVar 4)) (tVar 9))) (tOp oMul (tOp (rIxL K) (tVar 7) (tVar 8)) (tOp (rIxL K) (tVar 1) (tVar 9)))) (tVar 0)) (gSub (tVar 7) (tOp oAdd (tOp oSub (tVar 8) (tVar 4)) (tVar 9)) rSetL))))
  (tRet (tCall (sp_law_number K) [] E0 (tCons (tVar 0) (tCons (tSl (rSlL K) (tVar 7) tNoPart (tPart (tVar 4))) tNil))))))))
theorem ps_law_slow {f : Addr} {cdv : Value} {A : Around} {outer : List Env} {s : Shared} {H : Hp} {E : XK} (T : Txt K mg) (hr : Room 2 (A.deeper (envOfC "_law_slow" (defScope s_law_slow) s.heap.objs.size f cdv))) :
    PSs (cxOf CX0 P w K mg base N_law_slow "_law_slow" (defScope s_law_slow) f cdv A outer s H E).nox (defBody s_law_slow) (t_law_slow K) := by
  exact (pss_cons (ps_set (i := 4) sc_law_slow.nd rfl (Or.inl rfl) (pe_op op_sub (pe_callB call_len_seq (by rfl) T.b_len PySem.boot_len (pa_cons (pv 1) pa_nil)) pe_int))
  (pss_cons (ps_par3 (i := 5) (j := 6) (l := 7) (by rfl) sc_law_slow.nd rfl rfl rfl (by decide) (by decide) (by decide) rfl rfl rfl (pa_cons (C8.pe_c (c_law_figures T) hr (by decide) (by rfl) (pa_cons (pv 0) (pa_cons (pv 2) (pa_cons (pv 4) pa_nil)))) (pa_cons (C8.pe_c (c_law_figures T) hr (by decide) (by rfl) (pa_cons (pv 0) (pa_cons (pv 3) (pa_cons (pv 4) pa_nil)))) (pa_cons (pe_op op_rep (pe_lst (pa_cons pe_int pa_nil)) (pe_op op_mul pe_int (pv 4))) pa_nil))) (by rfl))
  (pss_cons (ps_for PassesOwn.never rfl (pi_range1 (by rfl) T.b_range (pa_cons (pv 4) pa_nil)) (pg_name (i := 8) sc_law_slow.nd rfl (Or.inl rfl)) (pss_one (ps_for PassesOwn.never rfl (pi_range1 (by rfl) T.b_range (pa_cons (pv 4) pa_nil)) (pg_name (i := 9) sc_law_slow.nd rfl (Or.inl rfl)) (pss_one (ps_asg (pe_op op_mod (pe_op op_add (pe_ix ix_list (pv 7) (pe_op op_add (pv 8) (pv 9)) (fun _ _ => rfl)) (pe_op op_mul (pe_ix ix_list (pv 5) (pv 8) (fun _ _ => rfl)) (pe_ix ix_list (pv 6) (pv 9) (fun _ _ => rfl)))) (pv 0)) (pg_sub (pv 7) (pe_op op_add (pv 8) (pv 9)) set_list))))))
  (pss_cons (ps_for PassesOwn.never rfl (pi_range3 (by rfl) T.b_range (pa_cons (pe_op op_sub (pe_op op_mul pe_int (pv 4)) pe_int) (pa_cons (pe_op op_sub (pv 4) pe_int) (pa_cons (pe_un un_neg pe_int) pa_nil)))) (pg_name (i := 8) sc_law_slow.nd rfl (Or.inl rfl)) (pss_one (ps_for PassesOwn.never rfl (pi_range1 (by rfl) T.b_range (pa_cons (pv 4) pa_nil)) (pg_name (i := 9) sc_law_slow.nd rfl (Or.inl rfl)) (pss_one (ps_asg (pe_op op_mod (pe_op op_sub (pe_ix ix_list (pv 7) (pe_op op_add (pe_op op_sub (pv 8) (pv 4)) (pv 9)) (fun _ _ => rfl)) (pe_op op_mul (pe_ix ix_list (pv 7) (pv 8) (fun _ _ => rfl)) (pe_ix ix_list (pv 1) (pv 9) (fun _ _ => rfl)))) (pv 0)) (pg_sub (pv 7) (pe_op op_add (pe_op op_sub (pv 8) (pv 4)) (pv 9)) set_list))))))
  (pss_one (ps_ret (C8.pe_c (c_law_number T) hr (by decide) (by rfl) (pa_cons (pv 0) (pa_cons (pe_slice sl_list (pv 7) po_none (po_some (pv 4))) pa_nil)))))))))
theorem pure_law_slow (T : Txt K mg) {vs : List V} {H : Hp} {Q : VK} {E : XK} (h : sp_law_slow K vs H Q E) : t_law_slow K { nx := fun _ H' => Q .non H', rt := Q } (L2.start N_law_slow vs) H := by
  obtain ⟨c, k, a, b, rfl, hc, ret⟩ := h
  have hp2 := k.p_two
  have hp3 := k.p_le
  have hn1 := k.n_ge
  have hn2 := k.n_le
  have hml := md_len k
  refine ⟨_, rfl, c, _, rfl, .inl (SqL.of hc), _, _, rfl, rfl, ?_⟩
  have em : ((iV k.md).length : Int) - 1 = (k.n : Int) := by rw [iV_len]; omega
  dsimp only
  rw [em]
  refine ⟨_, rfl, _, rfl, _, rfl, k, a, k.n, rfl, by omega, fun H1 N s1 n1 e1 => ?_⟩
  refine ⟨_, rfl, _, rfl, _, rfl, k, b, k.n, rfl, by omega, fun H2 M s2 n2 e2 => ?_⟩
  refine ⟨Nat.le_trans (Nat.le_refl 1) (by decide), fun z hz => ?_⟩
  have s3 := sm_upd hz (o := .lst [V.int 0])
  refine ⟨_, rfl, _, _, rfl, rfl, .inl ⟨by omega, by omega⟩, z, _, _, rfl, rfl, upd_same, by omega, by omega, small' (by simp; omega), fun F hF => ⟨_, _, _, rfl, ?_⟩⟩
  have e0 : ((2 : Int) * (k.n : Int)).toNat = 2 * k.n := by omega
  rw [e0, rep1, ← iV_rep]
  have hN := s3 _ _ (s2 _ _ e1)
  have hM := s3 _ _ e2
  have hcb := s3 _ _ (s2 _ _ (s1 _ _ hc))
  have sb := s1.trans (s2.trans s3)
  generalize upd H2 z (.lst [V.int 0]) = Hb at hF hN hM hcb sb
  have sF := sm_upd hF (o := .lst (iV (List.replicate (2 * k.n) 0)))
  unfold slowI at ret
  have f1 := digI_figs k.p_pos k.n a
  have l1 := digI_len k.p k.n a
  have l2 := digI_len k.p k.n b
  generalize hA : digI k.p k.n a = A at *
  generalize hB : digI k.p k.n b = B at *
  generalize hZ : List.replicate (2 * k.n) (0 : Int) = Z at *
  have hZl : Z.length = 2 * k.n := by rw [← hZ]; simp
  refine ⟨_, rfl, _, rfl, by omega, by omega, ?_⟩
  have en : ((k.n : Nat) : Int).toNat = k.n := by omega
  rw [en]
  refine for_range (lo := 0) (n := k.n) (fun i σ H' => ∃ v8 v9, σ = [some (.int (k.p : Int)), some (.ref c), some (.int a), some (.int b), some (.int (k.n : Int)), some (.ref N), some (.ref M), some (.ref F), v8, v9] ∧ Same Hb H' ∧ H' F = some (.lst (iV (ptOut k.p A B Z i)))) ⟨none, none, rfl, sF, upd_same⟩ ?_ ?_
  · rintro i σ H' hi ⟨v8, v9, rfl, s, hF'⟩
    have e0i : (0 : Int) + (i : Int) = (i : Int) := Int.zero_add _
    rw [e0i]
    refine ⟨_, rfl, _, rfl, by omega, by omega, ?_⟩
    rw [en]
    refine for_range (lo := 0) (n := k.n) (fun j σ H' => ∃ v9, σ = [some (.int (k.p : Int)), some (.ref c), some (.int a), some (.int b), some (.int (k.n : Int)), some (.ref N), some (.ref M), some (.ref F), some (.int (i : Int)), v9] ∧ Same Hb H' ∧ H' F = some (.lst (iV (ptIn k.p (A.getD i 0) B i (ptOut k.p A B Z i) j)))) ⟨v9, rfl, s, hF'⟩ ?_ ?_
    · rintro j σ H'' hj ⟨v9, rfl, s, hF''⟩
      have e0j : (0 : Int) + (j : Int) = (j : Int) := Int.zero_add _
      rw [e0j]
      have hpl := ptIn_len k.p (A.getD i 0) B i (ptOut k.p A B Z i) j
      rw [ptOut_len] at hpl
      have hix : i + j < (ptIn k.p (A.getD i 0) B i (ptOut k.p A B Z i) j).length := by omega
      obtain ⟨g1, g2⟩ := figs_get f1 (i := i) (by omega)
      rw [← getD_eq (by omega)] at g1 g2
      refine ⟨_, rfl, _, rfl, _, rfl, _, _, rfl, rfl, F, _, _, _, rfl, rfl, SqL.of hF'', at_get (j := i + j) (by omega) (iV_get hix), ?_⟩
      refine ⟨_, rfl, _, rfl, N, _, _, _, rfl, rfl, SqL.of (s _ _ hN), atI_nat (iV_get (by omega : i < A.length)), _, rfl, _, rfl, M, _, _, _, rfl, rfl, SqL.of (s _ _ hM), atI_nat (iV_get (by omega : j < B.length)), ?_⟩
      refine ⟨_, _, rfl, rfl, .inl ⟨by omega, by omega⟩, _, _, rfl, rfl, _, rfl, _, _, rfl, rfl, by omega, ?_⟩
      refine ⟨_, rfl, _, rfl, _, rfl, _, _, rfl, rfl, F, _, _, i + j, rfl, rfl, hF'', ixn (by omega) (by rw [iV_len]; exact hix), ?_⟩
      refine ⟨_, rfl, sm_set s hF, ?_⟩
      rw [upd_same, iV_set, ptIn_succ]
    · rintro σ H'' ⟨v9, rfl, s, hF''⟩
      exact ⟨_, _, rfl, s, by rw [ptOut_succ, l2]; exact hF''⟩
  · rintro σ H' ⟨v8, v9, rfl, s, hF'⟩
    refine ⟨_, rfl, _, _, rfl, rfl, .inl ⟨by omega, by omega⟩, _, _, rfl, rfl, _, rfl, _, _, rfl, rfl, _, rfl, 2 * (k.n : Int) - 1, (k.n : Int) - 1, -1, k.n, rfl, ?_, ?_⟩
    · have r := RgC.neg (i := 2 * (k.n : Int) - 1) (j := (k.n : Int) - 1) (by omega) (by omega) (by omega) (by omega)
      have e : (2 * (k.n : Int) - 1 - ((k.n : Int) - 1)).toNat = k.n := by omega
      rw [e] at r; exact r
    have hpo : (ptOut k.p A B Z k.n).length = 2 * k.n := by rw [ptOut_len, hZl]
    generalize hX : ptOut k.p A B Z k.n = X at *
    refine for_it walk_rangeC (fun i σ H' => ∃ v8 v9, σ = [some (.int (k.p : Int)), some (.ref c), some (.int a), some (.int b), some (.int (k.n : Int)), some (.ref N), some (.ref M), some (.ref F), v8, v9] ∧ Same Hb H' ∧ H' F = some (.lst (iV (slOut k.p k.md k.n X i)))) ⟨v8, v9, rfl, s, hF'⟩ (fun _ _ _ _ _ => trivial) ?_ ?_
    · rintro i x σ H' H'' hi ⟨w8, w9, rfl, s, hF'⟩ ⟨rfl, rfl⟩
      have ea : 2 * (k.n : Int) - 1 + ((i : Nat) : Int) * -1 = ((2 * k.n - 1 - i : Nat) : Int) := by omega
      dsimp only
      rw [ea]
      have hat : k.n ≤ 2 * k.n - 1 - i ∧ 2 * k.n - 1 - i < 2 * k.n := by omega
      generalize hta : 2 * k.n - 1 - i = t at hat ⊢
      refine ⟨_, rfl, _, rfl, by omega, by omega, ?_⟩
      rw [en]
      refine for_range (lo := 0) (n := k.n) (fun j σ H' => ∃ v9, σ = [some (.int (k.p : Int)), some (.ref c), some (.int a), some (.int b), some (.int (k.n : Int)), some (.ref N), some (.ref M), some (.ref F), some (.int (t : Int)), v9] ∧ Same Hb H' ∧ H' F = some (.lst (iV (slIn k.p k.md k.n t (slOut k.p k.md k.n X i) j)))) ⟨w9, rfl, s, hF'⟩ ?_ ?_
      · rintro j σ H2' hj ⟨v9, rfl, s, hF2⟩
        have e0j : (0 : Int) + (j : Int) = (j : Int) := Int.zero_add _
        rw [e0j]
        have hpl := slIn_len k.p k.md k.n t (slOut k.p k.md k.n X i) j
        rw [slOut_len, hpo] at hpl
        have hix : t - k.n + j < (slIn k.p k.md k.n t (slOut k.p k.md k.n X i) j).length := by omega
        have hit : t < (slIn k.p k.md k.n t (slOut k.p k.md k.n X i) j).length := by omega
        obtain ⟨g1, g2⟩ := figs_get (md_figs k) (i := j) (by omega)
        rw [← getD_eq (by omega)] at g1 g2
        refine ⟨_, rfl, _, rfl, _, rfl, _, _, rfl, rfl, _, rfl, _, _, rfl, rfl, F, _, _, _, rfl, rfl, SqL.of hF2, at_get (j := t - k.n + j) (by omega) (iV_get hix), ?_⟩
        refine ⟨_, rfl, _, rfl, F, _, _, _, rfl, rfl, SqL.of hF2, atI_nat (iV_get hit), _, rfl, _, rfl, c, _, _, _, rfl, rfl, SqL.of (s _ _ hcb), atI_nat (iV_get (by omega : j < k.md.length)), ?_⟩
        refine ⟨_, _, rfl, rfl, .inr ⟨by omega, by omega⟩, _, _, rfl, rfl, _, rfl, _, _, rfl, rfl, by omega, ?_⟩
        refine ⟨_, rfl, _, rfl, _, rfl, _, _, rfl, rfl, _, rfl, _, _, rfl, rfl, F, _, _, t - k.n + j, rfl, rfl, hF2, ixn (by omega) (by rw [iV_len]; exact hix), ?_⟩
        refine ⟨_, rfl, sm_set s hF, ?_⟩
        rw [upd_same, iV_set, slIn_succ]
      · rintro σ H2' ⟨v9, rfl, s, hF2⟩
        exact ⟨_, _, rfl, s, by rw [slOut_succ, hta]; exact hF2⟩
    · rintro σ H' ⟨w8, w9, rfl, s, hF'⟩
      refine ⟨_, rfl, _, rfl, _, rfl, _, rfl, F, _, rfl, SqL.of hF', fun q hq => ?_⟩
      have hsl := slOut_len k.p k.md k.n X k.n
      have ec := cut_to (α := Int) (xs := slOut k.p k.md k.n X k.n) (m := k.n) (by omega)
      refine ⟨q, k, _, rfl, by rw [upd_same]; exact congrArg (fun l => some (HO.lst l)) ec, fun H3 s3 => ret _ (sb.trans (s.trans ((sm_upd hq).trans s3)))⟩
theorem len_law_slow {vs : List V} {H : Hp} {Q : VK} {E : XK} (h : sp_law_slow K vs H Q E) : vs.length = 4 := by
  obtain ⟨c, k, a, b, rfl, _⟩ := h; rfl
theorem c_law_slow (T : Txt K mg) : C8.Cal P w K mg base 3 "_law_slow" (sp_law_slow K) [] :=
  cal_of (k := 2) (ps := ["_law_prime", "_law_modulus", "_law_one", "_law_other"]) T.d_law_slow (fun _ _ _ _ _ _ us hl => match us, hl with | [_, _, _, _], _ => rfl) sc_law_slow (fun vs H Q E h => len_law_slow h) fun f cdv A outer s H vs Q E hr h => ⟨_, ps_law_slow T hr, pure_law_slow T h⟩
def sp_law_powers (K : PySem.W.Frag) : Sp := fun vs H Q _ => ∃ (c : Addr) (k : Kd) (one : Int) (r : List Int), vs = [.int (k.p : Int), .ref c, .int one, .int (k.q : Int)] ∧ H c = some (.lst (iV k.md)) ∧ lawPw k one = some r ∧ RetL H Q (iV r)
abbrev N_law_powers : List Str := ["_law_prime", "_law_modulus", "_law_one", "_law_size", "_law_found", "_law_more"]
theorem sc_law_powers : FnScope N_law_powers ["_law_prime", "_law_modulus", "_law_one", "_law_size"] (defScope s_law_powers) := ⟨rfl, rfl, rfl, by decide +kernel, rfl, by decide +kernel, by decide +kernel⟩
def t_law_powers (K : PySem.W.Frag) : TS :=
  (tSeq (tAsg (tLst (tCons (tC (.int 1)) tNil)) (gName 4))
  (tSeq (tWhile (tTest (tOp oLt (tCB (cLen K) (tCons (tVar 4) tNil)) (tOp oSub (tVar 3) (tC (.int 1))))) (tSeq (tAsg (tCall (sp_law_slow K) [] E0 (tCons (tVar 0) (tCons (tVar 1) (tCons (tOp (rIxL K) (tVar 4) (tUn uNeg (tC (.int 1)))) (tCons (tVar 2) tNil))))) (gName 5))
  (tSeq (tIfS (tTest (tOp rEq (tVar 5) (tC (.int 1)))) (tRet (tVar 4)) tNext)
  (tDrop (tBM K "list" rAppend (tVar 4) (tCons (tVar 5) tNil))))))
  (tRet (tVar 4))))
theorem ps_law_powers {f : Addr} {cdv : Value} {A : Around} {outer : List Env} {s : Shared} {H : Hp} {E : XK} (T : Txt K mg) (hr : Room 3 (A.deeper (envOfC "_law_powers" (defScope s_law_powers) s.heap.objs.size f cdv))) :
    PSs (cxOf CX0 P w K mg base N_law_powers "_law_powers" (defScope s_law_powers) f cdv A outer s H E).nox (defBody s_law_powers) (t_law_powers K) := by
  exact (pss_cons (ps_set (i := 4) sc_law_powers.nd rfl (Or.inl rfl) (pe_lst (pa_cons pe_int pa_nil)))
  (pss_cons (ps_while PassesOwn.never (pt_cmpR op_lt (pe_callB call_len_seq (by rfl) T.b_len PySem.boot_len (pa_cons (pv 4) pa_nil)) (pe_op op_sub (pv 3) pe_int) (nomark _)) (pss_cons (ps_set (i := 5) sc_law_powers.nd rfl (Or.inl rfl) (C8.pe_c (c_law_slow T) hr (by decide) (by rfl) (pa_cons (pv 0) (pa_cons (pv 1) (pa_cons (pe_ix ix_list (pv 4) (pe_un un_neg pe_int) (fun _ _ => rfl)) (pa_cons (pv 2) pa_nil))))))
  (pss_cons (ps_if (pt_cmpR op_eq (pv 5) pe_int (nomark _)) (pss_one (ps_ret (pv 4))) pss_nil)
  (pss_one (ps_expr (pe_bm PySem.F.plainAttrs_list PySem.F.slot_list_append PySem.F.type_list_append mt_append (pv 4) (pa_cons (pv 5) pa_nil)))))))
  (pss_one (ps_ret (pv 4)))))
theorem pure_law_powers (T : Txt K mg) {vs : List V} {H : Hp} {Q : VK} {E : XK} (h : sp_law_powers K vs H Q E) : t_law_powers K { nx := fun _ H' => Q .non H', rt := Q } (L2.start N_law_powers vs) H := by
  obtain ⟨c, k, one, r, rfl, hc, hr, ret⟩ := h
  have hq := k.q_le
  unfold lawPw at hr
  refine ⟨Nat.le_trans (Nat.le_refl 1) (by decide), fun F hF => ?_⟩
  refine ⟨fun m σ H' => ∃ (found : List Int) (v : Option V), σ = [some (.int (k.p : Int)), some (.ref c), some (.int one), some (.int (k.q : Int)), some (.ref F), v] ∧ Same H H' ∧ H' F = some (.lst (iV found)) ∧ found ≠ [] ∧ lpLoop k one m found = some r,
    ⟨40, [1], none, rfl, sm_upd hF, upd_same, by simp, hr⟩, ?_⟩
  rintro m σ H' ⟨found, v, rfl, s, hF', hne, hl⟩
  have hpos := List.length_pos_iff.mpr hne
  refine ⟨_, rfl, F, _, rfl, .inl (SqL.of hF'), _, rfl, _, _, rfl, rfl, _, _, rfl, rfl, _, rfl, ?_⟩
  rw [iV_len]
  cases m with
  | zero => cases hl
  | succ m =>
  unfold lpLoop at hl
  refine ite2 (fun hc2 => ?_) (fun hc2 => ?_)
  · have hlt := of_decide_eq_true hc2
    rw [if_pos hlt] at hl
    refine ⟨_, fun σ' H' h => h, ?_⟩
    refine ⟨_, rfl, _, rfl, _, rfl, _, rfl, F, _, _, _, rfl, rfl, SqL.of hF', atI_last' (iV_last hpos), _, rfl, c, k, lastI found, one, rfl, s _ _ hc, fun H2 s2 => ?_⟩
    generalize hy : slowI k (lastI found) one = y at hl
    refine ⟨_, rfl, rfl, _, rfl, ?_⟩
    refine ite2 (fun h1 => ?_) (fun h1 => ?_)
    · have h1 : y = 1 := V.int.inj (of_decide_eq_true h1)
      rw [if_pos h1] at hl
      obtain rfl := Option.some.inj hl
      exact ⟨_, rfl, ret _ F (s.trans s2) hF (s2 _ _ hF')⟩
    · have h1 : ¬ y = 1 := fun e => h1 (by rw [e]; rfl)
      rw [if_neg h1] at hl
      have hF2 := s2 _ _ hF'
      refine ⟨_, rfl, .inl ⟨rfl, _, SqL.of hF2⟩, _, rfl, F, _, _, rfl, rfl, hF2, small (by rw [iV_len]; omega), ?_⟩
      refine ⟨m, Nat.lt_succ_self m, found ++ [y], _, rfl, sm_set (s.trans s2) hF, ?_, by simp, hl⟩
      rw [upd_same]; simp
  · rw [if_neg (fun e => hc2 (decide_eq_true e))] at hl
    obtain rfl := Option.some.inj hl
    exact ⟨_, rfl, ret _ F s hF hF'⟩
theorem len_law_powers {vs : List V} {H : Hp} {Q : VK} {E : XK} (h : sp_law_powers K vs H Q E) : vs.length = 4 := by
  obtain ⟨c, k, one, r, rfl, _⟩ := h; rfl
theorem c_law_powers (T : Txt K mg) : C8.Cal P w K mg base 4 "_law_powers" (sp_law_powers K) [] :=
  cal_of (k := 3) (ps := ["_law_prime", "_law_modulus", "_law_one", "_law_size"]) T.d_law_powers (fun _ _ _ _ _ _ us hl => match us, hl with | [_, _, _, _], _ => rfl) sc_law_powers (fun vs H Q E h => len_law_powers h) fun f cdv A outer s H vs Q E hr h => ⟨_, ps_law_powers T hr, pure_law_powers T h⟩
end
end Tp
namespace Tp
open PySem PySem.Spec PyProof.Rows L2 Gab
def plL (k : Kd) : List V := iV (k.lgs.map fun x : Nat => (x : Int))
theorem pl_at (k : Kd) (a : El k) : atI (plL k) (a.v : Int) = some (vI (k.lg a.v : Int)) := by
  have h : a.v < k.lgs.length := by rw [k.lgs_len]; exact a.lt
  refine atI_nat ?_
  unfold plL iV
  rw [List.getElem?_map, List.getElem?_map, List.getElem?_eq_getElem h]
  unfold Kd.lg
  rw [List.getD_eq_getElem?_getD, List.getElem?_eq_getElem h]; rfl
theorem pwE_pw (k : Kd) {a : El k} (ha : a ≠ 0) : ∀ i, vE (Gab.pw (El.T k) i a) = vI (k.pw (k.lg a.v * k.p ^ i) : Int)
  | 0 => by
    have h : a.v ≠ 0 := fun e => ha (El.eq_zero.mpr e)
    rw [Nat.pow_zero, Nat.mul_one, k.pw_lg _ a.lt h]; rfl
  | i + 1 => by
    have ih := pwE_pw k ha i
    have e : (Gab.pw (El.T k) i a).v = k.pw (k.lg a.v * k.p ^ i) := by have := V.int.inj ih; omega
    have hz : Gab.pw (El.T k) i a ≠ 0 := fun z => ha (pw_eq_zero (El.T k) z)
    rw [pw_out, s_pw k hz, e, k.lg_pw', k.pw_congr (j := k.lg a.v * k.p ^ (i + 1))]
    rw [Nat.mod_mul_mod, Nat.pow_succ, Nat.mul_assoc]
/-- the law's own field -/
structure WorldAt (H : Hp) (d : Addr) (k : Kd) : Prop where
  ex : ∃ (pw pl : Addr) (kvs : List (Key × V)), H d = some (.dK kvs) ∧ valV kvs (.inr "prime") = some (.int (k.p : Int)) ∧ valV kvs (.inr "turns") = some (.int (k.n : Int)) ∧ valV kvs (.inr "size") = some (.int (k.q : Int)) ∧
    valV kvs (.inr "powers") = some (.ref pw) ∧ valV kvs (.inr "places") = some (.ref pl) ∧ H pw = some (.lst (pwL k)) ∧ H pl = some (.lst (plL k))
theorem WorldAt.same {H H' : Hp} {d : Addr} {k : Kd} (h : WorldAt H d k) (s : Same H H') : WorldAt H' d k := by
  obtain ⟨pw, pl, kvs, h1, h2, h3, h4, h5, h6, h7, h8⟩ := h.ex
  exact ⟨⟨pw, pl, kvs, s _ _ h1, h2, h3, h4, h5, h6, s _ _ h7, s _ _ h8⟩⟩
theorem WorldAt.but {H H' : Hp} {d p : Addr} {k : Kd} (h : WorldAt H d k) (hp : PotAt H p) (s : But p H H') : WorldAt H' d k := by
  obtain ⟨pw, pl, kvs, h1, h2, h3, h4, h5, h6, h7, h8⟩ := h.ex
  have hq := k.q_ge
  refine ⟨⟨pw, pl, kvs, s _ _ (fun e => ?_) h1, h2, h3, h4, h5, h6, s _ _ (hp.ne h7 ?_) h7, s _ _ (hp.ne h8 ?_) h8⟩⟩
  · obtain ⟨x, y, e2, _⟩ := hp.ex
    rw [e, e2] at h1; cases h1
  · unfold pwL; rw [List.length_map, k.pws_len]; omega
  · unfold plL; rw [iV_len, List.length_map, k.lgs_len]; omega
/-- a figure of a dict -/
abbrev DgR (H : Hp) (d : Addr) (x : Str) (R : V → Prop) : Prop := ∃ a v, V.ref d = .ref a ∧ DGet H a (.str x) (some v) ∧ R v
theorem dg {H : Hp} {d : Addr} {kvs : List (Key × V)} {x : Str} {v : V} {R : V → Prop} (h : H d = some (.dK kvs)) (e : valV kvs (.inr x) = some v) (q : R v) : DgR H d x R := by
  have g := DGet.k (k := .inr x) h
  rw [e] at g
  exact ⟨d, v, rfl, g, q⟩
section
variable {H : Hp} {d : Addr} {k : Kd} {R : V → Prop}
theorem wl_prime (h : WorldAt H d k) (q : R (.int (k.p : Int))) : DgR H d "prime" R := by
  obtain ⟨pw, pl, kvs, h1, h2, h3, h4, h5, h6, h7, h8⟩ := h.ex
  exact dg h1 h2 q
theorem wl_turns (h : WorldAt H d k) (q : R (.int (k.n : Int))) : DgR H d "turns" R := by
  obtain ⟨pw, pl, kvs, h1, h2, h3, h4, h5, h6, h7, h8⟩ := h.ex
  exact dg h1 h3 q
theorem wl_size (h : WorldAt H d k) (q : R (.int (k.q : Int))) : DgR H d "size" R := by
  obtain ⟨pw, pl, kvs, h1, h2, h3, h4, h5, h6, h7, h8⟩ := h.ex
  exact dg h1 h4 q
theorem wl_powers (h : WorldAt H d k) (q : ∀ pw, H pw = some (.lst (pwL k)) → R (.ref pw)) : DgR H d "powers" R := by
  obtain ⟨pw, pl, kvs, h1, h2, h3, h4, h5, h6, h7, h8⟩ := h.ex
  exact dg h1 h5 (q pw h7)
theorem wl_places (h : WorldAt H d k) (q : ∀ pl, H pl = some (.lst (plL k)) → R (.ref pl)) : DgR H d "places" R := by
  obtain ⟨pw, pl, kvs, h1, h2, h3, h4, h5, h6, h7, h8⟩ := h.ex
  exact dg h1 h6 (q pl h8)
end
section
variable {P : Program} {w : World} {K : PySem.W.Frag} {mg : Str → Option Value} {base : Heap}
def sp_law_world (K : PySem.W.Frag) : Sp := fun vs H Q _ => ∃ (c : Addr) (k : Kd), vs = [.int (k.p : Int), .ref c] ∧ H c = some (.lst (iV k.md)) ∧ ∀ H' d, Same H H' → WorldAt H' d k → Q (.ref d) H'
abbrev N_law_world : List Str := ["_law_prime", "_law_modulus", "_law_size", "_law_turn", "_law_powers_here", "_law_one", "_law_places", "_law_at", "_law_power"]
theorem sc_law_world : FnScope N_law_world ["_law_prime", "_law_modulus"] (defScope s_law_world) := ⟨rfl, rfl, rfl, by decide +kernel, rfl, by decide +kernel, by decide +kernel⟩
def t_law_world (K : PySem.W.Frag) : TS :=
  (tSeq (tAsg (tC (.int 1)) (gName 2))
  (tSeq (tFor (iRng1 (tCons (tOp oSub (tCB (cLen K) (tCons (tVar 1) tNil)) (tC (.int 1))) tNil)) (gName 3) (tAsg (tOp oMul (tVar 2) (tVar 0)) (gName 2)))
  (tSeq (tPar 4 5 (tCons (tLst (tCons (tC (.int 1)) tNil)) (tCons (tVar 0) tNil)))
  (tSeq (tWhile (tTest (tOp oLt (tCB (cLen K) (tCons (tVar 4) tNil)) (tOp oSub (tVar 2) (tC (.int 1))))) (tPar 4 5 (tCons (tCall (sp_law_powers K) [] E0 (tCons (tVar 0) (tCons (tVar 1) (tCons (tVar 5) (tCons (tVar 2) tNil))))) (tCons (tOp oAdd (tVar 5) (tC (.int 1))) tNil))))
  (tSeq (tAsg (tOp rRep (tLst (tCons (tC (.int 0)) tNil)) (tVar 2)) (gName 6))
  (tSeq (tFor (iEnum K (tCons (tVar 4) tNil)) (gTup K 2 (gCons (gName 7) (gCons (gName 8) gNil))) (tAsg (tVar 7) (gSub (tVar 6) (tVar 8) rSetL)))
  (tRet (tDisp (((tC (.str "prime")), (tVar 0)) :: ((tC (.str "turns")), (tOp oSub (tCB (cLen K) (tCons (tVar 1) tNil)) (tC (.int 1)))) :: ((tC (.str "size")), (tVar 2)) :: ((tC (.str "powers")), (tVar 4)) :: ((tC (.str "places")), (tVar 6)) :: [])))))))))
theorem ps_law_world {f : Addr} {cdv : Value} {A : Around} {outer : List Env} {s : Shared} {H : Hp} {E : XK} (T : Txt K mg) (hr : Room 4 (A.deeper (envOfC "_law_world" (defScope s_law_world) s.heap.objs.size f cdv))) :
    PSs (cxOf CX0 P w K mg base N_law_world "_law_world" (defScope s_law_world) f cdv A outer s H E).nox (defBody s_law_world) (t_law_world K) := by
  exact (pss_cons (ps_set (i := 2) sc_law_world.nd rfl (Or.inl rfl) pe_int)
  (pss_cons (ps_for PassesOwn.never rfl (pi_range1 (by rfl) T.b_range (pa_cons (pe_op op_sub (pe_callB call_len_seq (by rfl) T.b_len PySem.boot_len (pa_cons (pv 1) pa_nil)) pe_int) pa_nil)) (pg_name (i := 3) sc_law_world.nd rfl (Or.inl rfl)) (pss_one (ps_set (i := 2) sc_law_world.nd rfl (Or.inl rfl) (pe_op op_mul (pv 2) (pv 0)))))
  (pss_cons (ps_par (i := 4) (j := 5) (by rfl) sc_law_world.nd rfl rfl (by decide) rfl rfl (pa_cons (pe_lst (pa_cons pe_int pa_nil)) (pa_cons (pv 0) pa_nil)) (by rfl))
  (pss_cons (ps_while PassesOwn.never (pt_cmpR op_lt (pe_callB call_len_seq (by rfl) T.b_len PySem.boot_len (pa_cons (pv 4) pa_nil)) (pe_op op_sub (pv 2) pe_int) (nomark _)) (pss_one (ps_par (i := 4) (j := 5) (by rfl) sc_law_world.nd rfl rfl (by decide) rfl rfl (pa_cons (C8.pe_c (c_law_powers T) hr (by decide) (by rfl) (pa_cons (pv 0) (pa_cons (pv 1) (pa_cons (pv 5) (pa_cons (pv 2) pa_nil))))) (pa_cons (pe_op op_add (pv 5) pe_int) pa_nil)) (by rfl))))
  (pss_cons (ps_set (i := 6) sc_law_world.nd rfl (Or.inl rfl) (pe_op op_rep (pe_lst (pa_cons pe_int pa_nil)) (pv 2)))
  (pss_cons (ps_for PassesOwn.never rfl (pi_enum (by rfl) T.b_enumerate (pa_cons (pv 4) pa_nil)) (pg_tup (by rfl) (pgs_cons (pg_name (i := 7) sc_law_world.nd rfl (Or.inl rfl)) (pgs_cons (pg_name (i := 8) sc_law_world.nd rfl (Or.inl rfl)) pgs_nil))) (pss_one (ps_asg (pv 7) (pg_sub (pv 6) (pv 8) set_list))))
  (pss_one (ps_ret (pe_disp (pps_cons pe_str (pv 0) (pps_cons pe_str (pe_op op_sub (pe_callB call_len_seq (by rfl) T.b_len PySem.boot_len (pa_cons (pv 1) pa_nil)) pe_int) (pps_cons pe_str (pv 2) (pps_cons pe_str (pv 4) (pps_cons pe_str (pv 6) pps_nil))))) (by rfl) (by rfl) (fun z => by cases z) (by decide))))))))))
theorem pure_law_world (T : Txt K mg) {vs : List V} {H : Hp} {Q : VK} {E : XK} (h : sp_law_world K vs H Q E) : t_law_world K { nx := fun _ H' => Q .non H', rt := Q } (L2.start N_law_world vs) H := by
  obtain ⟨c, k, rfl, hc, ret⟩ := h
  have hp3 := k.p_le
  have hn2 := k.n_le
  have hq := k.q_le
  have hml := md_len k
  have em : ((iV k.md).length : Int) - 1 = (k.n : Int) := by rw [iV_len]; omega
  have en : ((k.n : Nat) : Int).toNat = k.n := by omega
  refine ⟨_, rfl, c, _, rfl, .inl (SqL.of hc), _, _, rfl, rfl, _, rfl, by rw [iV_len]; omega, by rw [iV_len]; omega, ?_⟩
  rw [em, en]
  refine for_range (lo := 0) (n := k.n) (fun i σ H' => ∃ v, σ = [some (.int (k.p : Int)), some (.ref c), some (.int ((k.p ^ i : Nat) : Int)), v, none, none, none, none, none] ∧ Same H H') ⟨none, rfl, Same.refl H⟩ ?_ ?_
  · rintro i σ H' hi ⟨v, rfl, s⟩
    refine ⟨_, rfl, _, rfl, _, _, rfl, rfl, .inr ⟨by omega, by omega⟩, ?_⟩
    refine ⟨some (.int (0 + (i : Int))), ?_, s⟩
    rw [Nat.pow_succ, Int.natCast_mul]; rfl
  rintro σ H1 ⟨v3, rfl, s1⟩
  have eq : ((k.p ^ k.n : Nat) : Int) = (k.q : Int) := rfl
  rw [eq]
  refine ⟨Nat.le_trans (Nat.le_refl 1) (by decide), fun L0 hL0 => ⟨_, rfl, _, _, rfl, ?_⟩⟩
  have s2 := sm_upd' s1 hL0 (o := .lst [V.int 1])
  refine ⟨fun m σ H' => ∃ (L : Addr) (ps : List Int) (one : Int), σ = [some (.int (k.p : Int)), some (.ref c), some (.int (k.q : Int)), v3, some (.ref L), some (.int one), none, none, none] ∧ Same H H' ∧ H' L = some (.lst (iV ps)) ∧ lwLoop k m ps one = some (k.pws.map fun x : Nat => (x : Int)),
    ⟨5, L0, [1], (k.p : Int), rfl, s2, upd_same, law_pws k⟩, ?_⟩
  rintro m σ H' ⟨L, ps, one, rfl, s, hL, hl⟩
  refine ⟨_, rfl, L, _, rfl, .inl (SqL.of hL), _, rfl, _, _, rfl, rfl, _, _, rfl, rfl, _, rfl, ?_⟩
  rw [iV_len]
  cases m with
  | zero => cases hl
  | succ m =>
  unfold lwLoop at hl
  refine ite2 (fun hc2 => ?_) (fun hc2 => ?_)
  · rw [if_pos (of_decide_eq_true hc2)] at hl
    cases hlp : lawPw k one with
    | none => rw [hlp] at hl; cases hl
    | some f =>
    rw [hlp] at hl
    refine ⟨_, fun σ' H' h => h, ?_⟩
    refine ⟨_, rfl, _, rfl, _, rfl, _, rfl, c, k, one, f, rfl, s _ _ hc, hlp, fun H2 G s5 n5 e5 => ⟨_, rfl, _, _, rfl, rfl, _, _, rfl, ?_⟩⟩
    exact ⟨m, Nat.lt_succ_self m, G, f, one + 1, rfl, s.trans s5, e5, hl⟩
  · rw [if_neg (fun e => hc2 (decide_eq_true e))] at hl
    have hps := Option.some.inj hl
    have hpl : ps.length = k.q - 1 := by rw [hps, List.length_map]; exact k.pws_len
    have hpb : ∀ i, i < k.q - 1 → 0 ≤ ps.getD i 0 ∧ ps.getD i 0 < (k.q : Int) := fun i hi => by
      have h1 : i < k.pws.length := by rw [k.pws_len]; exact hi
      have h2 : i < (k.pws.map fun x : Nat => (x : Int)).length := by rw [List.length_map]; exact h1
      rw [hps, List.getD_eq_getElem?_getD, List.getElem?_eq_getElem h2, Option.getD_some, List.getElem_map]
      have := pws_lt k _ (List.getElem_mem h1)
      omega
    refine ⟨Nat.le_trans (Nat.le_refl 1) (by decide), fun z hz => ?_⟩
    have s5 := sm_upd' s hz (o := .lst [V.int 0])
    have hL5 := sm_upd hz (o := .lst [V.int 0]) _ _ hL
    refine ⟨_, rfl, z, _, _, rfl, rfl, upd_same, by omega, by omega, small' (by simp; omega), fun G hG => ?_⟩
    have e1 : ((k.q : Int)).toNat = k.q := by omega
    rw [e1, rep1]
    have hL6 := sm_upd hG (o := .lst (List.replicate k.q (V.int 0))) _ _ hL5
    generalize upd H' z (.lst [V.int 0]) = H5 at s5 hL5 hG hL6
    have nG := s5.free hG
    have sG := sm_upd hG (o := .lst (List.replicate k.q (V.int 0)))
    refine ⟨_, rfl, L, _, rfl, SqL.of hL6, ?_⟩
    refine for_it (walk_enum (xs := iV ps)) (fun i σ H2 => ∃ v7 v8, σ = [some (.int (k.p : Int)), some (.ref c), some (.int (k.q : Int)), v3, some (.ref L), some (.int one), some (.ref G), v7, v8] ∧ Same H5 H2 ∧ H2 G = some (.lst (iV (loIn ps (List.replicate k.q 0) i))))
      ⟨none, none, rfl, sG, by rw [upd_same]; unfold loIn iV; simp⟩ (fun i σ H2 _ ⟨_, _, _, s2, _⟩ => SqL.of (s2 _ _ hL5)) ?_ ?_
    · rintro i v σ H2 H3 hi ⟨v7, v8, rfl, s3, hl2⟩ hyv
      obtain ⟨y, hio, rfl, hy, rfl⟩ := enumI_of hyv
      refine pair_tgt upd_same ?_
      have s4 := sm_upd hy (o := .tup [.int (i : Nat), vI (ps.getD i 0)])
      have hl3 := s4 _ _ hl2
      obtain ⟨b1, b2⟩ := hpb i (by omega)
      have hll := loIn_len ps (List.replicate k.q 0) i
      rw [List.length_replicate] at hll
      refine ⟨_, rfl, _, rfl, _, rfl, G, _, _, (ps.getD i 0).toNat, rfl, rfl, hl3, ixn (by omega) (by rw [iV_len]; omega), ?_⟩
      refine ⟨_, _, rfl, sm_set (s3.trans s4) hG, ?_⟩
      rw [upd_same, loIn_succ, ← iV_set]
    · rintro σ H2 ⟨v7, v8, rfl, s3, hl2⟩
      rw [iV_len, hpl, hps, law_lgs k] at hl2
      have sH2 := s5.trans s3
      refine fun d hd => ⟨_, rfl, ?_⟩
      have sd := sm_upd hd (o := .dK [])
      have se : Same H2 (upd (upd H2 d (.dK [])) d (.dK (mergeK [] [(.inr "prime", .int (k.p : Int)), (.inr "turns", .int (k.n : Int)), (.inr "size", .int (k.q : Int)), (.inr "powers", .ref L), (.inr "places", .ref G)]))) := sm_set sd hd
      refine ⟨_, rfl, c, _, rfl, .inl (SqL.of (sd _ _ (sH2 _ _ hc))), _, _, rfl, rfl, ?_⟩
      dsimp only
      rw [em]
      refine ⟨_, rfl, _, rfl, _, rfl, upd_same, [(.inr "prime", .int (k.p : Int)), (.inr "turns", .int (k.n : Int)), (.inr "size", .int (k.q : Int)), (.inr "powers", .ref L), (.inr "places", .ref G)], rfl, by show 5 ≤ 15; decide, ?_⟩
      refine ret _ d (sH2.trans se) ⟨⟨L, G, _, upd_same, rfl, rfl, rfl, rfl, rfl, se _ _ ?_, se _ _ hl2⟩⟩
      have := s3 _ _ hL5
      rw [hps, ← pwL_iV] at this; exact this
theorem len_law_world {vs : List V} {H : Hp} {Q : VK} {E : XK} (h : sp_law_world K vs H Q E) : vs.length = 2 := by
  obtain ⟨c, k, rfl, _⟩ := h; rfl
theorem c_law_world (T : Txt K mg) : C8.Cal P w K mg base 5 "_law_world" (sp_law_world K) [] :=
  cal_of (k := 4) (ps := ["_law_prime", "_law_modulus"]) T.d_law_world (fun _ _ _ _ _ _ us hl => match us, hl with | [_, _], _ => rfl) sc_law_world (fun vs H Q E h => len_law_world h) fun f cdv A outer s H vs Q E hr h => ⟨_, ps_law_world T hr, pure_law_world T h⟩
def sp_law_times (K : PySem.W.Frag) : Sp := fun vs H Q _ => ∃ (d : Addr) (k : Kd) (a b : El k), vs = [.ref d, vE a, vE b] ∧ WorldAt H d k ∧ RetV H Q (vE (a * b))
abbrev N_law_times : List Str := ["_law_world_here", "_law_one", "_law_other"]
theorem sc_law_times : FnScope N_law_times ["_law_world_here", "_law_one", "_law_other"] (defScope s_law_times) := ⟨rfl, rfl, rfl, by decide +kernel, rfl, by decide +kernel, by decide +kernel⟩
def t_law_times (K : PySem.W.Frag) : TS :=
  (tSeq (tIfS (tOr (tTest (tOp rEq (tVar 1) (tC (.int 0)))) (tTest (tOp rEq (tVar 2) (tC (.int 0))))) (tRet (tC (.int 0))) tNext)
  (tRet (tOp (rIxL K) (tDGet (tVar 0) (tC (.str "powers"))) (tOp oMod (tOp oAdd (tOp (rIxL K) (tDGet (tVar 0) (tC (.str "places"))) (tVar 1)) (tOp (rIxL K) (tDGet (tVar 0) (tC (.str "places"))) (tVar 2))) (tOp oSub (tDGet (tVar 0) (tC (.str "size"))) (tC (.int 1)))))))
theorem ps_law_times {f : Addr} {cdv : Value} {A : Around} {outer : List Env} {s : Shared} {H : Hp} {E : XK} (T : Txt K mg) (hr : Room 1 (A.deeper (envOfC "_law_times" (defScope s_law_times) s.heap.objs.size f cdv))) :
    PSs (cxOf CX0 P w K mg base N_law_times "_law_times" (defScope s_law_times) f cdv A outer s H E).nox (defBody s_law_times) (t_law_times K) := by
  exact (pss_cons (ps_if (PW.pt (pw_or (pt_cmpR op_eq (pv 1) pe_int (nomark _)) (pw_or1 (pt_cmpR op_eq (pv 2) pe_int (nomark _))))) (pss_one (ps_ret pe_int)) pss_nil)
  (pss_one (ps_ret (pe_ix ix_list (pe_dget (hu_of hr) (pv 0) pe_str (fun _ _ => rfl)) (pe_op op_mod (pe_op op_add (pe_ix ix_list (pe_dget (hu_of hr) (pv 0) pe_str (fun _ _ => rfl)) (pv 1) (fun _ _ => rfl)) (pe_ix ix_list (pe_dget (hu_of hr) (pv 0) pe_str (fun _ _ => rfl)) (pv 2) (fun _ _ => rfl))) (pe_op op_sub (pe_dget (hu_of hr) (pv 0) pe_str (fun _ _ => rfl)) pe_int)) (fun _ _ => rfl)))))
theorem pure_law_times (T : Txt K mg) {vs : List V} {H : Hp} {Q : VK} {E : XK} (h : sp_law_times K vs H Q E) : t_law_times K { nx := fun _ H' => Q .non H', rt := Q } (L2.start N_law_times vs) H := by
  obtain ⟨d, k, a, b, rfl, hd, ret⟩ := h
  have r := ret H (Same.refl H)
  refine ⟨_, rfl, rfl, _, rfl, ?_⟩
  refine ite2 (fun hc => iteT ?_) (fun hc => ?_)
  · rw [vE_zero] at hc
    have ea := of_decide_eq_true hc
    have e : a * b = 0 := by rw [ea]; grind
    rw [e] at r
    exact r
  · refine ⟨_, rfl, rfl, _, rfl, ?_⟩
    refine ite2 (fun hc2 => ?_) (fun hc2 => ?_)
    · rw [vE_zero] at hc2
      have eb := of_decide_eq_true hc2
      have e : a * b = 0 := by rw [eb]; grind
      rw [e] at r
      exact r
    · rw [vE_zero] at hc hc2
      have ha : a ≠ 0 := fun e => hc (decide_eq_true e)
      have hb : b ≠ 0 := fun e => hc2 (decide_eq_true e)
      refine ⟨_, rfl, ?_⟩
      refine wl_powers hd fun pw hpw => ?_
      refine ⟨_, rfl, ?_⟩
      refine wl_places hd fun lg hlg => ?_
      refine ⟨_, rfl, lg, _, _, _, rfl, rfl, SqL.of hlg, pl_at k a, ?_⟩
      refine ⟨_, rfl, ?_⟩
      refine wl_places hd fun lg hlg => ?_
      refine ⟨_, rfl, lg, _, _, _, rfl, rfl, SqL.of hlg, pl_at k b, _, _, rfl, rfl, ?_⟩
      refine ⟨_, rfl, ?_⟩
      refine wl_size hd ?_
      refine ⟨_, _, rfl, rfl, _, _, rfl, rfl, by have := k.q_ge; omega, ?_⟩
      refine ⟨pw, _, _, _, rfl, rfl, SqL.of hpw, pw_at k (k.lg a.v + k.lg b.v) ?_, ?_⟩
      · rw [qm1]; rfl
      · rw [← mul_pw k ha hb]; exact r
theorem len_law_times {vs : List V} {H : Hp} {Q : VK} {E : XK} (h : sp_law_times K vs H Q E) : vs.length = 3 := by
  obtain ⟨d, k, a, b, rfl, _⟩ := h; rfl
theorem c_law_times (T : Txt K mg) : C8.Cal P w K mg base 2 "_law_times" (sp_law_times K) [] :=
  cal_of (k := 1) (ps := ["_law_world_here", "_law_one", "_law_other"]) T.d_law_times (fun _ _ _ _ _ _ us hl => match us, hl with | [_, _, _], _ => rfl) sc_law_times (fun vs H Q E h => len_law_times h) fun f cdv A outer s H vs Q E hr h => ⟨_, ps_law_times T hr, pure_law_times T h⟩
def sp_law_turned (K : PySem.W.Frag) : Sp := fun vs H Q _ => ∃ (d : Addr) (k : Kd) (a : El k) (m : Nat), vs = [.ref d, vE a, .int (m : Int)] ∧ WorldAt H d k ∧ RetV H Q (vE (Gab.pw (El.T k) m a))
abbrev N_law_turned : List Str := ["_law_world_here", "_law_one", "_law_many", "_law_factor", "_law_turn"]
theorem sc_law_turned : FnScope N_law_turned ["_law_world_here", "_law_one", "_law_many"] (defScope s_law_turned) := ⟨rfl, rfl, rfl, by decide +kernel, rfl, by decide +kernel, by decide +kernel⟩
def t_law_turned (K : PySem.W.Frag) : TS :=
  (tSeq (tIfS (tTest (tOp rEq (tVar 1) (tC (.int 0)))) (tRet (tC (.int 0))) tNext)
  (tSeq (tAsg (tC (.int 1)) (gName 3))
  (tSeq (tFor (iRng1 (tCons (tOp oMod (tVar 2) (tDGet (tVar 0) (tC (.str "turns")))) tNil)) (gName 4) (tAsg (tOp oMul (tVar 3) (tDGet (tVar 0) (tC (.str "prime")))) (gName 3)))
  (tRet (tOp (rIxL K) (tDGet (tVar 0) (tC (.str "powers"))) (tOp oMod (tOp oMul (tOp (rIxL K) (tDGet (tVar 0) (tC (.str "places"))) (tVar 1)) (tVar 3)) (tOp oSub (tDGet (tVar 0) (tC (.str "size"))) (tC (.int 1)))))))))
theorem ps_law_turned {f : Addr} {cdv : Value} {A : Around} {outer : List Env} {s : Shared} {H : Hp} {E : XK} (T : Txt K mg) (hr : Room 1 (A.deeper (envOfC "_law_turned" (defScope s_law_turned) s.heap.objs.size f cdv))) :
    PSs (cxOf CX0 P w K mg base N_law_turned "_law_turned" (defScope s_law_turned) f cdv A outer s H E).nox (defBody s_law_turned) (t_law_turned K) := by
  exact (pss_cons (ps_if (pt_cmpR op_eq (pv 1) pe_int (nomark _)) (pss_one (ps_ret pe_int)) pss_nil)
  (pss_cons (ps_set (i := 3) sc_law_turned.nd rfl (Or.inl rfl) pe_int)
  (pss_cons (ps_for PassesOwn.never rfl (pi_range1 (by rfl) T.b_range (pa_cons (pe_op op_mod (pv 2) (pe_dget (hu_of hr) (pv 0) pe_str (fun _ _ => rfl))) pa_nil)) (pg_name (i := 4) sc_law_turned.nd rfl (Or.inl rfl)) (pss_one (ps_set (i := 3) sc_law_turned.nd rfl (Or.inl rfl) (pe_op op_mul (pv 3) (pe_dget (hu_of hr) (pv 0) pe_str (fun _ _ => rfl))))))
  (pss_one (ps_ret (pe_ix ix_list (pe_dget (hu_of hr) (pv 0) pe_str (fun _ _ => rfl)) (pe_op op_mod (pe_op op_mul (pe_ix ix_list (pe_dget (hu_of hr) (pv 0) pe_str (fun _ _ => rfl)) (pv 1) (fun _ _ => rfl)) (pv 3)) (pe_op op_sub (pe_dget (hu_of hr) (pv 0) pe_str (fun _ _ => rfl)) pe_int)) (fun _ _ => rfl)))))))
theorem pure_law_turned (T : Txt K mg) {vs : List V} {H : Hp} {Q : VK} {E : XK} (h : sp_law_turned K vs H Q E) : t_law_turned K { nx := fun _ H' => Q .non H', rt := Q } (L2.start N_law_turned vs) H := by
  obtain ⟨d, k, a, m, rfl, hd, ret⟩ := h
  have hn1 := k.n_ge
  have hn2 := k.n_le
  have hp3 := k.p_le
  refine ⟨_, rfl, rfl, _, rfl, ?_⟩
  rw [vE_zero]
  refine ite2 (fun hc => ?_) (fun hc => ?_)
  · have ea := of_decide_eq_true hc
    have r := ret H (Same.refl H)
    rw [ea, pw_zero] at r
    exact r
  have ha : a ≠ 0 := fun e => hc (decide_eq_true e)
  refine ⟨_, rfl, _, rfl, ?_⟩
  refine wl_turns hd ?_
  have hm1 := Int.emod_nonneg (m : Int) (b := (k.n : Int)) (by omega)
  have hm2 := Int.emod_lt_of_pos (m : Int) (b := (k.n : Int)) (by omega)
  refine ⟨_, _, rfl, rfl, by omega, _, rfl, by omega, by omega, ?_⟩
  have em : ((m : Int) % (k.n : Int)).toNat = m % k.n := by rw [← Int.natCast_emod]; rfl
  rw [em]
  have hlt : m % k.n < k.n := Nat.mod_lt _ (by omega)
  refine for_range (lo := 0) (n := m % k.n) (fun i σ H' => ∃ v, σ = [some (.ref d), some (vE a), some (.int (m : Int)), some (.int ((k.p ^ i : Nat) : Int)), v] ∧ Same H H') ⟨none, rfl, Same.refl H⟩ ?_ ?_
  · rintro i σ H' hi ⟨v, rfl, s⟩
    refine ⟨_, rfl, _, rfl, ?_⟩
    refine wl_prime (hd.same s) ?_
    refine ⟨_, _, rfl, rfl, .inr ⟨by omega, by omega⟩, ?_⟩
    refine ⟨some (.int (0 + (i : Int))), ?_, s⟩
    rw [Nat.pow_succ, Int.natCast_mul]; rfl
  · rintro σ H' ⟨v, rfl, s⟩
    have hd' := hd.same s
    have r := ret H' s
    have epw : Gab.pw (El.T k) m a = Gab.pw (El.T k) (m % k.n) a := by
      have := pw_mul_n (m / k.n) (m % k.n) a
      rwa [Nat.mod_add_div] at this
    rw [epw, pwE_pw k ha] at r
    refine ⟨_, rfl, ?_⟩
    refine wl_powers hd' fun pw hpw => ?_
    refine ⟨_, rfl, ?_⟩
    refine wl_places hd' fun lg hlg => ?_
    refine ⟨_, rfl, lg, _, _, _, rfl, rfl, SqL.of hlg, pl_at k a, _, rfl, _, _, rfl, rfl, .inl ⟨by omega, ?_⟩, ?_⟩
    · have := k.lg_lt _ a.lt
      have := k.q_le
      omega
    refine ⟨_, rfl, ?_⟩
    refine wl_size hd' ?_
    refine ⟨_, _, rfl, rfl, _, _, rfl, rfl, by have := k.q_ge; omega, ?_⟩
    refine ⟨pw, _, _, _, rfl, rfl, SqL.of hpw, pw_at k (k.lg a.v * k.p ^ (m % k.n)) ?_, r⟩
    rw [qm1, Int.natCast_emod, Int.natCast_mul]
theorem len_law_turned {vs : List V} {H : Hp} {Q : VK} {E : XK} (h : sp_law_turned K vs H Q E) : vs.length = 3 := by
  obtain ⟨d, k, a, m, rfl, _⟩ := h; rfl
theorem c_law_turned (T : Txt K mg) : C8.Cal P w K mg base 2 "_law_turned" (sp_law_turned K) [] :=
  cal_of (k := 1) (ps := ["_law_world_here", "_law_one", "_law_many"]) T.d_law_turned (fun _ _ _ _ _ _ us hl => match us, hl with | [_, _, _], _ => rfl) sc_law_turned (fun vs H Q E h => len_law_turned h) fun f cdv A outer s H vs Q E hr h => ⟨_, ps_law_turned T hr, pure_law_turned T h⟩
end
end Tp
namespace Tp
open PySem PySem.Spec PyProof.Rows L2 Gab
theorem digI_el (k : Kd) (a : El k) : iV (digI k.p k.n (a.v : Int)) = dgV k a.v := by
  unfold iV dgV; rw [digI_nat, List.map_map]; rfl
theorem plus_und (k : Kd) (a b : El k) {c : Nat} (h : c < k.p) : und k.p (List.zipWith (fun x y => (x + c * y) % k.p) (dig k.p k.n a.v) (dig k.p k.n b.v)) = (a + fE k c h * b).v := by
  have e : dig k.p k.n (a + fE k c h * b).v = List.zipWith (fun x y => (x + c * y) % k.p) (dig k.p k.n a.v) (dig k.p k.n b.v) := by
    rw [El.add_v, k.dig_add, El.mul_v, show (fE k c h).v = c from rfl, k.dig_smul c h _ b.lt, List.zipWith_map_right]
    congr 1
    funext x y
    rw [Nat.add_mod_mod]
  rw [← e, und_dig k.p_pos _ _ (El.lt _)]
section
variable {P : Program} {w : World} {K : PySem.W.Frag} {mg : Str → Option Value} {base : Heap}
def sp_law_plus (K : PySem.W.Frag) : Sp := fun vs H Q _ => ∃ (d : Addr) (k : Kd) (a b : El k) (c : Nat) (hc : c < k.p), vs = [.ref d, vE a, vE b, .int (c : Int)] ∧ WorldAt H d k ∧ RetV H Q (vE (a + fE k c hc * b))
abbrev N_law_plus : List Str := ["_law_world_here", "_law_one", "_law_other", "_law_number_here", "_law_prime", "_law_many", "_law_near", "_law_far", "_law_left", "_law_right_here"]
theorem sc_law_plus : FnScope N_law_plus ["_law_world_here", "_law_one", "_law_other", "_law_number_here"] (defScope s_law_plus) := ⟨rfl, rfl, rfl, by decide +kernel, rfl, by decide +kernel, by decide +kernel⟩
def t_law_plus (K : PySem.W.Frag) : TS :=
  (tSeq (tAsg (tTup (tCons (tDGet (tVar 0) (tC (.str "prime"))) (tCons (tDGet (tVar 0) (tC (.str "turns"))) tNil))) (gTup K 2 (gCons (gName 4) (gCons (gName 5) gNil))))
  (tSeq (tPar 6 7 (tCons (tCall (sp_law_figures K) [] E0 (tCons (tVar 4) (tCons (tVar 1) (tCons (tVar 5) tNil)))) (tCons (tCall (sp_law_figures K) [] E0 (tCons (tVar 4) (tCons (tVar 2) (tCons (tVar 5) tNil)))) tNil)))
  (tRet (tCall (sp_law_number K) [] E0 (tCons (tVar 4) (tCons (tLc (iZip K (tCons (tVar 6) (tCons (tVar 7) tNil))) (gTup K 2 (gCons (gName 8) (gCons (gName 9) gNil))) tYes (tOp oMod (tOp oAdd (tVar 8) (tOp oMul (tVar 3) (tVar 9))) (tVar 4)) [8, 9]) tNil))))))
theorem ps_law_plus {f : Addr} {cdv : Value} {A : Around} {outer : List Env} {s : Shared} {H : Hp} {E : XK} (T : Txt K mg) (hr : Room 2 (A.deeper (envOfC "_law_plus" (defScope s_law_plus) s.heap.objs.size f cdv))) :
    PSs (cxOf CX0 P w K mg base N_law_plus "_law_plus" (defScope s_law_plus) f cdv A outer s H E).nox (defBody s_law_plus) (t_law_plus K) := by
  exact (pss_cons (ps_asg (pe_tup (pa_cons (pe_dget (hu_of hr) (pv 0) pe_str (fun _ _ => rfl)) (pa_cons (pe_dget (hu_of hr) (pv 0) pe_str (fun _ _ => rfl)) pa_nil))) (pg_tup (by rfl) (pgs_cons (pg_name (i := 4) sc_law_plus.nd rfl (Or.inr rfl)) (pgs_cons (pg_name (i := 5) sc_law_plus.nd rfl (Or.inl rfl)) pgs_nil))))
  (pss_cons (ps_par (i := 6) (j := 7) (by rfl) sc_law_plus.nd rfl rfl (by decide) rfl rfl (pa_cons (C8.pe_c (c_law_figures T) hr (by decide) (by rfl) (pa_cons (pv 4) (pa_cons (pv 1) (pa_cons (pv 5) pa_nil)))) (pa_cons (C8.pe_c (c_law_figures T) hr (by decide) (by rfl) (pa_cons (pv 4) (pa_cons (pv 2) (pa_cons (pv 5) pa_nil)))) pa_nil)) (by rfl))
  (pss_one (ps_ret (C8.pe_c (c_law_number T) hr (by decide) (by rfl) (pa_cons (pv 4) (pa_cons (pe_lc (own := [("_law_left", 8), ("_law_right_here", 9)]) (g := (gTup K 2 (gCons (gName 8) (gCons (gName 9) gNil)))) (tt := tYes) (te := (tOp oMod (tOp oAdd (tVar 8) (tOp oMul (tVar 3) (tVar 9))) (tVar 4))) (by rfl) sc_law_plus.nd (pi_zip (by rfl) T.b_zip (pa_cons (pv 6) (pa_cons (pv 7) pa_nil))) (blkOk_by (own := [("_law_left", 8), ("_law_right_here", 9)]) (N := N_law_plus) (sc := defScope s_law_plus) (by decide +kernel)) (fun _ _ _ _ _ => (pg_tup (by rfl) (pgs_cons (pg_name (i := 8) sc_law_plus.nd rfl (Or.inl rfl)) (pgs_cons (pg_name (i := 9) sc_law_plus.nd rfl (Or.inl rfl)) pgs_nil)))) (fun _ _ _ _ _ => pts_nil) (fun _ _ _ _ _ => (pe_op op_mod (pe_op op_add (pv 8) (pe_op op_mul (pv 3) (pv 9))) (pv 4)))) pa_nil)))))))
theorem pure_law_plus (T : Txt K mg) {vs : List V} {H : Hp} {Q : VK} {E : XK} (h : sp_law_plus K vs H Q E) : t_law_plus K { nx := fun _ H' => Q .non H', rt := Q } (L2.start N_law_plus vs) H := by
  obtain ⟨d, k, a, b, c, hc, rfl, hd, ret⟩ := h
  have hn2 := k.n_le
  have hp2 := k.p_two
  have hp3 := k.p_le
  refine ⟨_, rfl, ?_⟩
  refine wl_prime hd ?_
  refine ⟨_, rfl, ?_⟩
  refine wl_turns hd ?_
  refine ⟨by show 2 ≤ sizeLine; decide, fun t ht => ?_⟩
  refine pair_tgt upd_same ?_
  have s1 := sm_upd ht (o := .tup [.int (k.p : Int), .int (k.n : Int)])
  refine ⟨_, rfl, _, rfl, _, rfl, k, (a.v : Int), k.n, rfl, by omega, fun H2 N s2 n2 e2 => ?_⟩
  refine ⟨_, rfl, _, rfl, _, rfl, k, (b.v : Int), k.n, rfl, by omega, fun H3 M s3 n3 e3 => ⟨_, _, rfl, ?_⟩⟩
  rw [digI_el] at e2 e3
  have e2' := s3 _ _ e2
  have sA := s1.trans (s2.trans s3)
  refine ⟨_, rfl, _, rfl, _, rfl, N, M, _, _, rfl, SqL.of e2', SqL.of e3, fun D hD => ?_⟩
  have len1 : ∀ x : El k, (dgV k x.v).length = k.n := fun x => by simp [dgV, dig_len]
  refine lc_it (walk_zip (xs := dgV k a.v) (ys := dgV k b.v) (n := k.n) (by rw [len1, len1, Nat.min_self])) (LcP H3 D fun i => ((List.zipWith (fun x y => (x + c * y) % k.p) (dig k.p k.n a.v) (dig k.p k.n b.v)).take i).map fun x : Nat => vI (x : Int))
    (lcp_start hD rfl) (fun i H' _ h => ⟨h.1.seq (SqL.of e2'), h.1.seq (SqL.of e3)⟩) ?_ ?_
  · intro i x H' H'' hi hp y
    obtain ⟨t, u, v, rfl, ht, rfl, hu, hv⟩ := zip_of (x := .non) (y := .non) (T := 0) y
    refine pair_tgt upd_same ⟨rfl, lcY ?_⟩
    refine ⟨_, rfl, _, rfl, _, rfl, _, _, rfl, rfl, .inl ⟨by omega, by omega⟩, _, _, rfl, rfl, _, rfl, _, _, rfl, rfl, by omega, ?_⟩
    refine lcp_next hD hp (sm_upd ht) ?_ (small (by simp [dig_len]; omega))
    simp only [zipW_take _ hu hv, List.map_append]
    rfl
  · intro H4 hp
    have h2 := hp.2
    dsimp only at h2
    rw [List.take_of_length_le (by simp [dig_len])] at h2
    refine ⟨D, k, (List.zipWith (fun x y => (x + c * y) % k.p) (dig k.p k.n a.v) (dig k.p k.n b.v)).map fun x : Nat => (x : Int), rfl, ?_, fun H5 s5 => ?_⟩
    · rw [h2]; unfold iV; rw [List.map_map]; rfl
    · rw [toldI_nat, plus_und k a b hc]
      exact ret _ (sA.trans (hp.1.trans s5))
theorem len_law_plus {vs : List V} {H : Hp} {Q : VK} {E : XK} (h : sp_law_plus K vs H Q E) : vs.length = 4 := by
  obtain ⟨d, k, a, b, c, hc, rfl, _⟩ := h; rfl
theorem c_law_plus (T : Txt K mg) : C8.Cal P w K mg base 3 "_law_plus" (sp_law_plus K) [] :=
  cal_of (k := 2) (ps := ["_law_world_here", "_law_one", "_law_other", "_law_number_here"]) T.d_law_plus (fun _ _ _ _ _ _ us hl => match us, hl with | [_, _, _, _], _ => rfl) sc_law_plus (fun vs H Q E h => len_law_plus h) fun f cdv A outer s H vs Q E hr h => ⟨_, ps_law_plus T hr, pure_law_plus T h⟩
theorem fE_one (k : Kd) (h : 1 < k.p) : fE k 1 h = 1 := El.ext' rfl
theorem plus_one {k : Kd} (h : 1 < k.p) (a b : El k) : a + fE k 1 h * b = a + b := by rw [fE_one]; grind
def sp_law_worth (K : PySem.W.Frag) : Sp := fun vs H Q _ => ∃ (d a : Addr) (k : Kd) (x : List (El k)) (y : El k), vs = [.ref d, .ref a, vE y] ∧ WorldAt H d k ∧ H a = some (.lst (lE x)) ∧ RetV H Q (vE (W (El.T k) x y))
abbrev N_law_worth : List Str := ["_law_world_here", "_law_turner", "_law_one", "_law_found", "_law_at", "_law_number_here"]
theorem sc_law_worth : FnScope N_law_worth ["_law_world_here", "_law_turner", "_law_one"] (defScope s_law_worth) := ⟨rfl, rfl, rfl, by decide +kernel, rfl, by decide +kernel, by decide +kernel⟩
def t_law_worth (K : PySem.W.Frag) : TS :=
  (tSeq (tAsg (tC (.int 0)) (gName 3))
  (tSeq (tFor (iEnum K (tCons (tVar 1) tNil)) (gTup K 2 (gCons (gName 4) (gCons (gName 5) gNil))) (tAsg (tCall (sp_law_plus K) [] E0 (tCons (tVar 0) (tCons (tVar 3) (tCons (tCall (sp_law_times K) [] E0 (tCons (tVar 0) (tCons (tVar 5) (tCons (tCall (sp_law_turned K) [] E0 (tCons (tVar 0) (tCons (tVar 2) (tCons (tVar 4) tNil)))) tNil)))) (tCons (tC (.int 1)) tNil))))) (gName 3)))
  (tRet (tVar 3))))
theorem ps_law_worth {f : Addr} {cdv : Value} {A : Around} {outer : List Env} {s : Shared} {H : Hp} {E : XK} (T : Txt K mg) (hr : Room 3 (A.deeper (envOfC "_law_worth" (defScope s_law_worth) s.heap.objs.size f cdv))) :
    PSs (cxOf CX0 P w K mg base N_law_worth "_law_worth" (defScope s_law_worth) f cdv A outer s H E).nox (defBody s_law_worth) (t_law_worth K) := by
  exact (pss_cons (ps_set (i := 3) sc_law_worth.nd rfl (Or.inl rfl) pe_int)
  (pss_cons (ps_for PassesOwn.never rfl (pi_enum (by rfl) T.b_enumerate (pa_cons (pv 1) pa_nil)) (pg_tup (by rfl) (pgs_cons (pg_name (i := 4) sc_law_worth.nd rfl (Or.inl rfl)) (pgs_cons (pg_name (i := 5) sc_law_worth.nd rfl (Or.inl rfl)) pgs_nil))) (pss_one (ps_set (i := 3) sc_law_worth.nd rfl (Or.inl rfl) (C8.pe_c (c_law_plus T) hr (by decide) (by rfl) (pa_cons (pv 0) (pa_cons (pv 3) (pa_cons (C8.pe_c (c_law_times T) hr (by decide) (by rfl) (pa_cons (pv 0) (pa_cons (pv 5) (pa_cons (C8.pe_c (c_law_turned T) hr (by decide) (by rfl) (pa_cons (pv 0) (pa_cons (pv 2) (pa_cons (pv 4) pa_nil)))) pa_nil)))) (pa_cons pe_int pa_nil))))))))
  (pss_one (ps_ret (pv 3)))))
theorem pure_law_worth (T : Txt K mg) {vs : List V} {H : Hp} {Q : VK} {E : XK} (h : sp_law_worth K vs H Q E) : t_law_worth K { nx := fun _ H' => Q .non H', rt := Q } (L2.start N_law_worth vs) H := by
  obtain ⟨f, a, k, x, y, rfl, hf, ha, ret⟩ := h
  have hp2 : 1 < k.p := k.p_two
  refine ⟨_, rfl, a, _, rfl, SqL.of ha, ?_⟩
  refine for_it (walk_enum (xs := lE x)) (fun i σ H' => ∃ v4 v5, σ = [some (.ref f), some (.ref a), some (vE y), some (vE (W (El.T k) (x.take i) y)), v4, v5] ∧ Same H H') ⟨none, none, rfl, Same.refl H⟩ (fun i σ H' _ ⟨_, _, _, s⟩ => s.seq (SqL.of ha)) ?_ ?_
  · rintro i v σ H' H'' hi ⟨v4, v5, rfl, s⟩ hy
    obtain ⟨t, hi', rfl, ht, rfl⟩ := enum_of hy
    refine pair_tgt upd_same ?_
    have s' := sm_upd' s ht (o := .tup [.int (i : Nat), vE x[i]])
    refine ⟨_, rfl, _, rfl, _, rfl, _, rfl, _, rfl, _, rfl, _, rfl, f, k, y, i, rfl, hf.same s', fun H2 s2 => ?_⟩
    refine ⟨f, k, x[i], _, rfl, hf.same (s'.trans s2), fun H3 s3 => ?_⟩
    refine ⟨f, k, _, _, 1, hp2, rfl, hf.same ((s'.trans s2).trans s3), fun H4 s4 => ?_⟩
    rw [plus_one]
    refine ⟨some (.int (i : Nat)), some (vE x[i]), ?_, ((s'.trans s2).trans s3).trans s4⟩
    have e : W (El.T k) (x.take (i + 1)) y = W (El.T k) (x.take i) y + x[i] * Gab.pw (El.T k) i y := by
      rw [take_succ' (List.getElem?_eq_getElem hi'), W_snoc, List.length_take, Nat.min_eq_left (Nat.le_of_lt hi')]
    rw [e]
    rfl
  · rintro σ H' ⟨v4, v5, rfl, s⟩
    refine ⟨_, rfl, ?_⟩
    rw [List.take_of_length_le (by rw [lE_len]; exact Nat.le_refl _)]
    exact ret _ s
theorem len_law_worth {vs : List V} {H : Hp} {Q : VK} {E : XK} (h : sp_law_worth K vs H Q E) : vs.length = 3 := by
  obtain ⟨f, a, k, x, y, rfl, _⟩ := h; rfl
theorem c_law_worth (T : Txt K mg) : C8.Cal P w K mg base 4 "_law_worth" (sp_law_worth K) [] :=
  cal_of (k := 3) (ps := ["_law_world_here", "_law_turner", "_law_one"]) T.d_law_worth (fun _ _ _ _ _ _ us hl => match us, hl with | [_, _, _], _ => rfl) sc_law_worth (fun vs H Q E h => len_law_worth h) fun f cdv A outer s H vs Q E hr h => ⟨_, ps_law_worth T hr, pure_law_worth T h⟩
def sp_law_word (K : PySem.W.Frag) : Sp := fun vs H Q _ => ∃ (d a b : Addr) (k : Kd) (f pts : List (El k)), vs = [.ref d, .ref a, .ref b] ∧ WorldAt H d k ∧ H a = some (.lst (lE f)) ∧ H b = some (.lst (lE pts)) ∧ pts.length ≤ 400 ∧ RetL H Q (lE (pts.map (W (El.T k) f)))
abbrev N_law_word : List Str := ["_law_world_here", "_law_turner", "_law_points", "_law_one"]
theorem sc_law_word : FnScope N_law_word ["_law_world_here", "_law_turner", "_law_points"] (defScope s_law_word) := ⟨rfl, rfl, rfl, by decide +kernel, rfl, by decide +kernel, by decide +kernel⟩
def t_law_word (K : PySem.W.Frag) : TS :=
  (tRet (tLc (iList K (tVar 2)) (gName 3) tYes (tCall (sp_law_worth K) [] E0 (tCons (tVar 0) (tCons (tVar 1) (tCons (tVar 3) tNil)))) [3]))
theorem ps_law_word {f : Addr} {cdv : Value} {A : Around} {outer : List Env} {s : Shared} {H : Hp} {E : XK} (T : Txt K mg) (hr : Room 4 (A.deeper (envOfC "_law_word" (defScope s_law_word) s.heap.objs.size f cdv))) :
    PSs (cxOf CX0 P w K mg base N_law_word "_law_word" (defScope s_law_word) f cdv A outer s H E).nox (defBody s_law_word) (t_law_word K) := by
  exact (pss_one (ps_ret (pe_lc (own := [("_law_one", 3)]) (g := (gName 3)) (tt := tYes) (te := (tCall (sp_law_worth K) [] E0 (tCons (tVar 0) (tCons (tVar 1) (tCons (tVar 3) tNil))))) (by rfl) sc_law_word.nd (pi_list (pv 2)) (blkOk_by (own := [("_law_one", 3)]) (N := N_law_word) (sc := defScope s_law_word) (by decide +kernel)) (fun _ _ _ _ _ => (pg_name (i := 3) sc_law_word.nd rfl (Or.inl rfl))) (fun _ _ _ _ _ => pts_nil) (fun _ _ _ _ _ => (C8.pe_c (c_law_worth T) hr (by decide) (by rfl) (pa_cons (pv 0) (pa_cons (pv 1) (pa_cons (pv 3) pa_nil))))))))
theorem pure_law_word (T : Txt K mg) {vs : List V} {H : Hp} {Q : VK} {E : XK} (h : sp_law_word K vs H Q E) : t_law_word K { nx := fun _ H' => Q .non H', rt := Q } (L2.start N_law_word vs) H := by
  obtain ⟨d, a, b, k, g, pts, rfl, hd, ha, hp, hl, ret⟩ := h
  refine ⟨_, rfl, b, rfl, ⟨_, SqL.of hp⟩, fun D hD => ?_⟩
  refine lc_it (walk_list (xs := lE pts)) (LcP H D fun i => lE ((pts.map (W (El.T k) g)).take i)) (lcp_start hD rfl) (fun i H4 _ p4 => p4.1.seq (SqL.of hp)) ?_ ?_
  · rintro i x H4 H5 hi p4 ⟨rfl, hxi⟩
    obtain ⟨hi', rfl⟩ := lE_at hxi
    refine ⟨rfl, lcY ?_⟩
    refine ⟨_, rfl, _, rfl, _, rfl, d, a, k, g, pts[i], rfl, hd.same p4.1, p4.1 _ _ ha, fun H6 s6 => ?_⟩
    refine lcp_next hD p4 s6 ?_ (small (by rw [lE_len, List.length_take]; simp; omega))
    rw [lE_take (by simpa using hi')]
    simp
  intro H4 p4
  have h4 := p4.2
  dsimp only at h4
  rw [lE_len, List.take_of_length_le (by simp)] at h4
  exact ret _ D p4.1 hD h4
theorem len_law_word {vs : List V} {H : Hp} {Q : VK} {E : XK} (h : sp_law_word K vs H Q E) : vs.length = 3 := by
  obtain ⟨d, a, b, k, f, pts, rfl, _⟩ := h; rfl
theorem c_law_word (T : Txt K mg) : C8.Cal P w K mg base 5 "_law_word" (sp_law_word K) [] :=
  cal_of (k := 4) (ps := ["_law_world_here", "_law_turner", "_law_points"]) T.d_law_word (fun _ _ _ _ _ _ us hl => match us, hl with | [_, _, _], _ => rfl) sc_law_word (fun vs H Q E h => len_law_word h) fun f cdv A outer s H vs Q E hr h => ⟨_, ps_law_word T hr, pure_law_word T h⟩
def sp_law_spoilt (K : PySem.W.Frag) : Sp := fun vs H Q _ => ∃ (d a b : Addr) (k : Kd) (x y : List (El k)), vs = [.ref d, .ref a, .ref b] ∧ WorldAt H d k ∧ H a = some (.lst (lE x)) ∧ H b = some (.lst (lE y)) ∧ x.length = y.length ∧ x.length ≤ 400 ∧ RetL H Q (lE (List.zipWith (· + ·) x y))
abbrev N_law_spoilt : List Str := ["_law_world_here", "_law_word_here", "_law_errors", "_law_one", "_law_other"]
theorem sc_law_spoilt : FnScope N_law_spoilt ["_law_world_here", "_law_word_here", "_law_errors"] (defScope s_law_spoilt) := ⟨rfl, rfl, rfl, by decide +kernel, rfl, by decide +kernel, by decide +kernel⟩
def t_law_spoilt (K : PySem.W.Frag) : TS :=
  (tRet (tLc (iZip K (tCons (tVar 1) (tCons (tVar 2) tNil))) (gTup K 2 (gCons (gName 3) (gCons (gName 4) gNil))) tYes (tCall (sp_law_plus K) [] E0 (tCons (tVar 0) (tCons (tVar 3) (tCons (tVar 4) (tCons (tC (.int 1)) tNil))))) [3, 4]))
theorem ps_law_spoilt {f : Addr} {cdv : Value} {A : Around} {outer : List Env} {s : Shared} {H : Hp} {E : XK} (T : Txt K mg) (hr : Room 3 (A.deeper (envOfC "_law_spoilt" (defScope s_law_spoilt) s.heap.objs.size f cdv))) :
    PSs (cxOf CX0 P w K mg base N_law_spoilt "_law_spoilt" (defScope s_law_spoilt) f cdv A outer s H E).nox (defBody s_law_spoilt) (t_law_spoilt K) := by
  exact (pss_one (ps_ret (pe_lc (own := [("_law_one", 3), ("_law_other", 4)]) (g := (gTup K 2 (gCons (gName 3) (gCons (gName 4) gNil)))) (tt := tYes) (te := (tCall (sp_law_plus K) [] E0 (tCons (tVar 0) (tCons (tVar 3) (tCons (tVar 4) (tCons (tC (.int 1)) tNil)))))) (by rfl) sc_law_spoilt.nd (pi_zip (by rfl) T.b_zip (pa_cons (pv 1) (pa_cons (pv 2) pa_nil))) (blkOk_by (own := [("_law_one", 3), ("_law_other", 4)]) (N := N_law_spoilt) (sc := defScope s_law_spoilt) (by decide +kernel)) (fun _ _ _ _ _ => (pg_tup (by rfl) (pgs_cons (pg_name (i := 3) sc_law_spoilt.nd rfl (Or.inl rfl)) (pgs_cons (pg_name (i := 4) sc_law_spoilt.nd rfl (Or.inl rfl)) pgs_nil)))) (fun _ _ _ _ _ => pts_nil) (fun _ _ _ _ _ => (C8.pe_c (c_law_plus T) hr (by decide) (by rfl) (pa_cons (pv 0) (pa_cons (pv 3) (pa_cons (pv 4) (pa_cons pe_int pa_nil)))))))))
theorem pure_law_spoilt (T : Txt K mg) {vs : List V} {H : Hp} {Q : VK} {E : XK} (h : sp_law_spoilt K vs H Q E) : t_law_spoilt K { nx := fun _ H' => Q .non H', rt := Q } (L2.start N_law_spoilt vs) H := by
  obtain ⟨f, a, b, k, x, y, rfl, hf, ha, hb, hxy, hl, ret⟩ := h
  have hp2 : 1 < k.p := k.p_two
  refine ⟨_, rfl, _, rfl, a, b, _, _, rfl, SqL.of ha, SqL.of hb, fun D hD => ?_⟩
  refine lc_it (walk_zip (xs := lE x) (ys := lE y) (n := x.length) (by rw [lE_len, lE_len, ← hxy, Nat.min_self])) (LcP H D fun i => lE ((List.zipWith (· + ·) x y).take i)) (lcp_start hD rfl) (fun i H' _ h => ⟨h.1.seq (SqL.of ha), h.1.seq (SqL.of hb)⟩) ?_ ?_
  · intro i v H' H'' hi hp yy
    obtain ⟨t, h1, h2, rfl, ht, rfl⟩ := zipE_of yy
    refine pair_tgt upd_same ⟨rfl, lcY ?_⟩
    refine ⟨_, rfl, _, rfl, _, rfl, f, k, x[i], y[i], 1, hp2, rfl, (hf.same hp.1).same (sm_upd ht), fun H3 s3 => ?_⟩
    rw [plus_one]
    refine lcp_next hD hp ((sm_upd ht).trans s3) ?_ (small (by rw [lE_len, List.length_take]; simp; omega))
    rw [lE_take (by simp; omega)]
    simp
  intro H4 p4
  have h4 := p4.2
  dsimp only at h4
  rw [List.take_of_length_le (by simp; omega)] at h4
  exact ret _ D p4.1 hD h4
theorem len_law_spoilt {vs : List V} {H : Hp} {Q : VK} {E : XK} (h : sp_law_spoilt K vs H Q E) : vs.length = 3 := by
  obtain ⟨f, a, b, k, x, y, rfl, _⟩ := h; rfl
theorem c_law_spoilt (T : Txt K mg) : C8.Cal P w K mg base 4 "_law_spoilt" (sp_law_spoilt K) [] :=
  cal_of (k := 3) (ps := ["_law_world_here", "_law_word_here", "_law_errors"]) T.d_law_spoilt (fun _ _ _ _ _ _ us hl => match us, hl with | [_, _, _], _ => rfl) sc_law_spoilt (fun vs H Q E h => len_law_spoilt h) fun f cdv A outer s H vs Q E hr h => ⟨_, ps_law_spoilt T hr, pure_law_spoilt T h⟩
theorem tld_drop {k : Kd} {ys : List (El k)} (hn : ys ≠ []) (h : co ys (ys.length - 1) = 0) : tld ys.dropLast = tld ys := by
  refine tld_eq fun i => ?_
  have hp := List.length_pos_iff.mpr hn
  by_cases hi : i < ys.length - 1
  · unfold co
    rw [List.getD_eq_getElem?_getD, List.getD_eq_getElem?_getD, List.getElem?_dropLast, if_pos hi]
  · rw [co_out (by simp; omega)]
    by_cases e : i = ys.length - 1
    · rw [e, h]
    · rw [co_out (by omega)]
def sp_law_trimmed (K : PySem.W.Frag) : Sp := fun vs H Q _ => ∃ (a : Addr) (k : Kd) (xs : List (El k)), vs = [.ref a] ∧ H a = some (.lst (lE xs)) ∧ RetL H Q (lE (tld xs))
abbrev N_law_trimmed : List Str := ["_law_turner", "_law_found"]
theorem sc_law_trimmed : FnScope N_law_trimmed ["_law_turner"] (defScope s_law_trimmed) := ⟨rfl, rfl, rfl, by decide +kernel, rfl, by decide +kernel, by decide +kernel⟩
def t_law_trimmed (K : PySem.W.Frag) : TS :=
  (tSeq (tAsg (tCB (cList K) (tCons (tVar 0) tNil)) (gName 1))
  (tSeq (tWhile (tAnd (tTest (tOp (rNeD K) (tVar 1) (tLst tNil))) (tTest (tOp rEq (tOp (rIxL K) (tVar 1) (tUn uNeg (tC (.int 1)))) (tC (.int 0))))) (tDrop (tBM0 K "list" rPop (tVar 1))))
  (tRet (tVar 1))))
theorem ps_law_trimmed {f : Addr} {cdv : Value} {A : Around} {outer : List Env} {s : Shared} {H : Hp} {E : XK} (T : Txt K mg) (hr : Room 1 (A.deeper (envOfC "_law_trimmed" (defScope s_law_trimmed) s.heap.objs.size f cdv))) :
    PSs (cxOf CX0 P w K mg base N_law_trimmed "_law_trimmed" (defScope s_law_trimmed) f cdv A outer s H E).nox (defBody s_law_trimmed) (t_law_trimmed K) := by
  exact (pss_cons (ps_set (i := 1) sc_law_trimmed.nd rfl (Or.inl rfl) (pe_callTy call_list_of (by rfl) T.b_list (by decide +kernel) (pa_cons (pv 0) pa_nil)))
  (pss_cons (ps_while PassesOwn.never (PW.pt (pw_and (pt_cmpR (op_neD hr.units) (pv 1) (pe_lst pa_nil) (nomark _)) (pw_and1 (pt_cmpR op_eq (pe_ix ix_list (pv 1) (pe_un un_neg pe_int) (fun _ _ => rfl)) pe_int (nomark _))))) (pss_one (ps_expr (pe_bm0 PySem.F.plainAttrs_list PySem.F.slot_list_pop PySem.F.type_list_pop mt_pop (pv 1)))))
  (pss_one (ps_ret (pv 1)))))
theorem pure_law_trimmed (T : Txt K mg) {vs : List V} {H : Hp} {Q : VK} {E : XK} (h : sp_law_trimmed K vs H Q E) : t_law_trimmed K { nx := fun _ H' => Q .non H', rt := Q } (L2.start N_law_trimmed vs) H := by
  obtain ⟨a, k, xs, rfl, ha, ret⟩ := h
  refine ⟨_, rfl, a, _, rfl, .inl (SqL.of ha), fun F hF => ?_⟩
  refine ⟨fun m σ H' => ∃ ys : List (El k), σ = [some (.ref a), some (.ref F)] ∧ Same H H' ∧ H' F = some (.lst (lE ys)) ∧ tld ys = tld xs ∧ m = ys.length, ⟨_, xs, rfl, sm_upd hF, upd_same, rfl, rfl⟩, ?_⟩
  rintro m σ H' ⟨ys, rfl, s, hF', ht, rfl⟩
  refine ⟨_, rfl, Nat.zero_le _, fun e he => ?_⟩
  have s2 := sm_upd he (o := .lst [])
  have hF2 := s2 _ _ hF'
  refine ⟨_, _, dp_lE hF2, dp_nil upd_same, dI_shaped _, nil_shaped, _, rfl, ?_⟩
  rw [eqv_elI_nil]
  by_cases h0 : ys = []
  · rw [decide_eq_true h0]
    refine iteF (iteF ?_)
    refine ⟨_, rfl, ret _ F (s.trans s2) hF ?_⟩
    rw [hF2, ← ht, h0]; rfl
  · rw [decide_eq_false h0]
    have hp := List.length_pos_iff.mpr h0
    refine iteT ⟨_, rfl, _, rfl, F, _, _, _, rfl, rfl, SqL.of hF2, atI_last' (lE_last h0), rfl, _, rfl, ?_⟩
    rw [vE_zero]
    refine ite2 (fun hc => ?_) (fun hc => ?_)
    · have hz := of_decide_eq_true hc
      refine ⟨_, fun σ' H' h => h, ?_⟩
      refine ⟨_, rfl, .inl ⟨rfl, _, SqL.of hF2⟩, F, _, _, rfl, rfl, hF2, lE_last h0, ?_⟩
      refine ⟨ys.length - 1, by omega, ys.dropLast, rfl, sm_set (s.trans s2) hF, ?_, (tld_drop h0 hz).trans ht, by simp⟩
      rw [upd_same]; unfold lE; rw [List.map_dropLast]
    · refine ⟨_, rfl, ret _ F (s.trans s2) hF ?_⟩
      have hl : Told ys := told_of_last fun e => hc (decide_eq_true e)
      rw [hF2, ← ht, tld_id hl]
theorem len_law_trimmed {vs : List V} {H : Hp} {Q : VK} {E : XK} (h : sp_law_trimmed K vs H Q E) : vs.length = 1 := by
  obtain ⟨a, k, xs, rfl, _⟩ := h; rfl
theorem c_law_trimmed (T : Txt K mg) : C8.Cal P w K mg base 2 "_law_trimmed" (sp_law_trimmed K) [] :=
  cal_of (k := 1) (ps := ["_law_turner"]) T.d_law_trimmed (fun _ _ _ _ _ _ us hl => match us, hl with | [_], _ => rfl) sc_law_trimmed (fun vs H Q E h => len_law_trimmed h) fun f cdv A outer s H vs Q E hr h => ⟨_, ps_law_trimmed T hr, pure_law_trimmed T h⟩
end
end Tp
namespace Tp
open PySem PySem.Spec PyProof.Rows L2 Gab
def scN (k : Kd) (n : Nat) : El k := if h : n < k.p then fE k n h else 0
theorem scN_eq {k : Kd} {n : Nat} (h : n < k.p) : scN k n = fE k n h := dif_pos h
def spn (k : Kd) (ys : List (El k)) (one : El k) (c : Nat) : List (El k) := (List.range c).flatMap fun n => ys.map fun o => o + scN k n * one
theorem spn_succ (k : Kd) (ys : List (El k)) (one : El k) (c : Nat) : spn k ys one (c + 1) = spn k ys one c ++ ys.map fun o => o + scN k c * one := by
  unfold spn; rw [List.range_succ, List.flatMap_append]; simp
theorem spn_len (k : Kd) (ys : List (El k)) (one : El k) : ∀ c, (spn k ys one c).length = c * ys.length
  | 0 => by simp [spn]
  | c + 1 => by rw [spn_succ, List.length_append, spn_len k ys one c, List.length_map, Nat.succ_mul]
theorem mem_spn {k : Kd} {ys : List (El k)} {one y : El k} : y ∈ spn k ys one k.p ↔ ∃ c, Sc (El.T k) c ∧ y - c * one ∈ ys := by
  unfold spn
  rw [List.mem_flatMap]
  constructor
  · rintro ⟨n, hn, hy⟩
    have hn := List.mem_range.mp hn
    obtain ⟨o, ho, rfl⟩ := List.mem_map.mp hy
    refine ⟨scN k n, by rw [scN_eq hn]; exact fE_sc hn, ?_⟩
    have : o + scN k n * one - scN k n * one = o := by grind
    rw [this]; exact ho
  · rintro ⟨c, hc, hy⟩
    have hlt := El.sc_iff.mp hc
    have e : scN k c.v = c := by rw [scN_eq hlt]; exact El.ext' rfl
    refine ⟨c.v, List.mem_range.mpr hlt, List.mem_map.mpr ⟨_, hy, ?_⟩⟩
    rw [e]; grind
theorem sp_same {k : Kd} {vs : List (El k)} {one y : El k} (h : Sp (El.T k) vs one) : Sp (El.T k) (one :: vs) y ↔ Sp (El.T k) vs y := by
  constructor
  · rintro ⟨c, hc, hy⟩
    have := hy.add (h.mul hc)
    have e : y - c * one + c * one = y := by grind
    rwa [e] at this
  · exact Sp.tail
theorem inV_lE {k : Kd} (a : El k) : ∀ ys : List (El k), inV (vE a) (lE ys) = decide (a ∈ ys)
  | [] => rfl
  | n :: ns => by
    show (eqV (vE n) (vE a) || inV (vE a) (lE ns)) = _
    rw [inV_lE a ns]
    have e : eqV (vE n) (vE a) = decide (n = a) := by
      show ((n.v : Int) == (a.v : Int)) = _
      by_cases h : n = a
      · simp [h]
      · rw [decide_eq_false h]
        exact beq_eq_false_iff_ne.mpr fun z => h (El.ext' (by omega))
    rw [e]
    by_cases h : n = a
    · simp [h]
    · by_cases h2 : a ∈ ns
      · simp [h2]
      · have h3 : ¬ a = n := fun z => h z.symm
        simp [h, h2, h3]
theorem flat_lE {k : Kd} (ns : List (El k)) : (lE ns).all flatV = true := by
  unfold lE
  rw [List.all_map]
  exact List.all_eq_true.mpr fun _ _ => rfl
/-- the element of this number -/
def elN (k : Kd) (n : Nat) : El k := if h : n < k.q then ⟨n, h⟩ else 0
theorem elN_v {k : Kd} {n : Nat} (h : n < k.q) : (elN k n).v = n := by unfold elN; rw [dif_pos h]
theorem vE_elN {k : Kd} {n : Nat} (h : n < k.q) : vE (elN k n) = V.int (n : Int) := vE_mk (elN_v h)
theorem out_ex {k : Kd} {ys : List (El k)} (h : ys.length < k.q) : ∃ n, n < k.q ∧ elN k n ∉ ys := by
  by_cases e : ∃ n, n < k.q ∧ elN k n ∉ ys
  · exact e
  · have : (List.range k.q).length ≤ (ys.map fun y => y.v).length := nodup_sub List.nodup_range fun n hn => by
      have hn := List.mem_range.mp hn
      by_cases q : elN k n ∈ ys
      · exact List.mem_map.mpr ⟨_, q, elN_v hn⟩
      · exact absurd ⟨n, hn, q⟩ e
    rw [List.length_range, List.length_map] at this
    omega
theorem bt_set {p F : Addr} {H H' : Hp} {o : HO} (b : But p H H') (h : H F = none) : But p H (upd H' F o) := fun x u n e => by
  rw [upd_ne (ne_of_none e h)]; exact b x u n e
/-- a comprehension that draws -/
def LcD (k : Kd) (p : Addr) (H1 : Hp) (D : Addr) (i : Nat) (H : Hp) : Prop := But p H1 H ∧ PotAt H p ∧ ∃ ys : List (El k), ys.length = i ∧ H D = some (.lst (lE ys))
section
variable {k : Kd} {p D : Addr} {H1 H H3 : Hp} {i : Nat}
theorem lcd_start (hD : H1 D = none) (hp : PotAt H1 p) : LcD k p H1 D 0 (upd H1 D (.lst [])) := ⟨bt_set (But.refl p H1) hD, hp.same (sm_upd hD), [], rfl, upd_same⟩
theorem lcd_next (hD : H1 D = none) (hDp : D ≠ p) (h : LcD k p H1 D i H) (b : But p H H3) (q : PotAt H3 p) (a : El k) (hi : i ≤ 1000) :
    ∃ acc, H3 D = some (.lst acc) ∧ acc.length < sizeLine ∧ LcD k p H1 D (i + 1) (upd H3 D (.lst (acc ++ [vE a]))) := by
  obtain ⟨h1, h2, ys, h3, h4⟩ := h
  refine ⟨_, b _ _ hDp h4, small (by rw [lE_len]; omega), bt_set (h1.trans b) hD, ?_, ys ++ [a], by simp [h3], ?_⟩
  · obtain ⟨x, y, e, r⟩ := q.ex
    exact ⟨⟨x, y, by rw [upd_ne hDp.symm]; exact e, r⟩⟩
  · rw [upd_same]; simp [lE]
end
section
variable {P : Program} {w : World} {K : PySem.W.Frag} {mg : Str → Option Value} {base : Heap}
def sp_law_span (K : PySem.W.Frag) : Sp := fun vs H Q _ => ∃ (d a : Addr) (k : Kd) (xs : List (El k)), vs = [.ref d, .ref a] ∧ WorldAt H d k ∧ H a = some (.lst (lE xs)) ∧ xs.length ≤ 5 ∧
  ∀ H' p ys, Same H H' → H p = none → H' p = some (.lst (lE ys)) → ys ≠ [] → ys.length ≤ k.p ^ xs.length → (∀ y, y ∈ ys ↔ Gab.Sp (El.T k) xs.reverse y) → Q (.ref p) H'
abbrev N_law_span : List Str := ["_law_world_here", "_law_given", "_law_found", "_law_one", "_law_more", "_law_number_here", "_law_old"]
theorem sc_law_span : FnScope N_law_span ["_law_world_here", "_law_given"] (defScope s_law_span) := ⟨rfl, rfl, rfl, by decide +kernel, rfl, by decide +kernel, by decide +kernel⟩
def t_law_span (K : PySem.W.Frag) : TS :=
  (tSeq (tAsg (tLst (tCons (tC (.int 0)) tNil)) (gName 2))
  (tSeq (tFor (iList K (tVar 1)) (gName 3) (tIfS (tTest (tOp (rIn K true) (tVar 3) (tVar 2))) (tSeq (tAsg (tLst tNil) (gName 4))
  (tSeq (tFor (iRng1 (tCons (tDGet (tVar 0) (tC (.str "prime"))) tNil)) (gName 5) (tDrop (tBM K "list" rExtend (tVar 4) (tCons (tLc (iList K (tVar 2)) (gName 6) tYes (tCall (sp_law_plus K) [] E0 (tCons (tVar 0) (tCons (tVar 6) (tCons (tVar 3) (tCons (tVar 5) tNil))))) [6]) tNil))))
  (tAsg (tVar 4) (gName 2)))) tNext))
  (tRet (tVar 2))))
theorem ps_law_span {f : Addr} {cdv : Value} {A : Around} {outer : List Env} {s : Shared} {H : Hp} {E : XK} (T : Txt K mg) (hr : Room 3 (A.deeper (envOfC "_law_span" (defScope s_law_span) s.heap.objs.size f cdv))) :
    PSs (cxOf CX0 P w K mg base N_law_span "_law_span" (defScope s_law_span) f cdv A outer s H E).nox (defBody s_law_span) (t_law_span K) := by
  exact (pss_cons (ps_set (i := 2) sc_law_span.nd rfl (Or.inl rfl) (pe_lst (pa_cons pe_int pa_nil)))
  (pss_cons (ps_for PassesOwn.never rfl (pi_list (pv 1)) (pg_name (i := 3) sc_law_span.nd rfl (Or.inr rfl)) (pss_one (ps_if (pt_cmpR op_notIn_seq (pv 3) (pv 2) (by rfl)) (pss_cons (ps_set (i := 4) sc_law_span.nd rfl (Or.inl rfl) (pe_lst pa_nil))
  (pss_cons (ps_for PassesOwn.never rfl (pi_range1 (by rfl) T.b_range (pa_cons (pe_dget (hu_of hr) (pv 0) pe_str (fun _ _ => rfl)) pa_nil)) (pg_name (i := 5) sc_law_span.nd rfl (Or.inr rfl)) (pss_one (ps_expr (pe_bm PySem.F.plainAttrs_list PySem.F.slot_list_extend PySem.F.type_list_extend mt_extend (pv 4) (pa_cons (pe_lc (own := [("_law_old", 6)]) (g := (gName 6)) (tt := tYes) (te := (tCall (sp_law_plus K) [] E0 (tCons (tVar 0) (tCons (tVar 6) (tCons (tVar 3) (tCons (tVar 5) tNil)))))) (by rfl) sc_law_span.nd (pi_list (pv 2)) (blkOk_by (own := [("_law_old", 6)]) (N := N_law_span) (sc := defScope s_law_span) (by decide +kernel)) (fun _ _ _ _ _ => (pg_name (i := 6) sc_law_span.nd rfl (Or.inl rfl))) (fun _ _ _ _ _ => pts_nil) (fun _ _ _ _ _ => (C8.pe_c (c_law_plus T) hr (by decide) (by rfl) (pa_cons (pv 0) (pa_cons (pv 6) (pa_cons (pv 3) (pa_cons (pv 5) pa_nil))))))) pa_nil)))))
  (pss_one (ps_set (i := 2) sc_law_span.nd rfl (Or.inl rfl) (pv 4))))) pss_nil)))
  (pss_one (ps_ret (pv 2)))))
theorem pure_law_span (T : Txt K mg) {vs : List V} {H : Hp} {Q : VK} {E : XK} (h : sp_law_span K vs H Q E) : t_law_span K { nx := fun _ H' => Q .non H', rt := Q } (L2.start N_law_span vs) H := by
  obtain ⟨d, a, k, xs, rfl, hd, ha, hl, ret⟩ := h
  have hp2 := k.p_two
  have hp3 := k.p_le
  refine ⟨Nat.le_trans (Nat.le_refl 1) (by decide), fun F0 hF0 => ?_⟩
  refine ⟨_, rfl, a, rfl, ⟨_, SqL.of (sm_upd hF0 _ _ ha)⟩, ?_⟩
  refine for_list (K := K) (a := a) (xs := lE xs) (fun i σ H' => ∃ (F : Addr) (ys : List (El k)) (v3 v4 v5 : Option V), σ = [some (.ref d), some (.ref a), some (.ref F), v3, v4, v5, none] ∧ Same H H' ∧ H F = none ∧ H' F = some (.lst (lE ys)) ∧ ys ≠ [] ∧ ys.length ≤ k.p ^ i ∧ ∀ y, y ∈ ys ↔ Gab.Sp (El.T k) (xs.take i).reverse y)
    ⟨F0, [0], none, none, none, rfl, sm_upd hF0, hF0, upd_same, by simp, by simp, fun y => by simp [Gab.Sp]⟩ (fun i σ H' _ ⟨_, _, _, _, _, _, s, _⟩ => s.seq (SqL.of ha)) ?_ ?_
  · rintro i x σ H' hx ⟨F, ys, v3, v4, v5, rfl, s, nF, hF, hne, hyl, hmem⟩
    obtain ⟨hi, rfl⟩ := lE_at hx
    have hpi : k.p ^ i ≤ 81 := Nat.le_trans (Nat.pow_le_pow_left hp3 i) (Nat.le_trans (Nat.pow_le_pow_right (by omega) (by omega : i ≤ 4)) (by decide))
    have etk : (xs.take (i + 1)).reverse = xs[i] :: (xs.take i).reverse := by rw [take_succ' (List.getElem?_eq_getElem hi), List.reverse_append]; rfl
    refine ⟨_, rfl, _, rfl, F, _, rfl, .inl (SqL.of hF), rfl, flat_lE _, _, rfl, ?_⟩
    have ein : (if true = true then !inV (vE xs[i]) (lE ys) else inV (vE xs[i]) (lE ys)) = decide (xs[i] ∉ ys) := by
      rw [if_pos rfl, inV_lE]
      by_cases q : xs[i] ∈ ys <;> simp [q]
    rw [ein]
    refine ite2 (fun hc => ?_) (fun hc => ?_)
    · refine ⟨Nat.zero_le _, fun R hR => ?_⟩
      have sR := sm_upd' s hR (o := .lst [])
      have nR := s.free hR
      have hFR := sm_upd hR (o := .lst []) _ _ hF
      refine ⟨_, rfl, ?_⟩
      refine wl_prime (hd.same sR) ?_
      refine ⟨_, rfl, by omega, by omega, ?_⟩
      have en : ((k.p : Nat) : Int).toNat = k.p := by omega
      rw [en]
      refine for_range (lo := 0) (n := k.p) (fun c σ H2 => ∃ v5, σ = [some (.ref d), some (.ref a), some (.ref F), some (vE xs[i]), some (.ref R), v5, none] ∧ Same H' H2 ∧ H2 R = some (.lst (lE (spn k ys xs[i] c))))
        ⟨v5, rfl, sm_upd hR, upd_same⟩ ?_ ?_
      · rintro c σ H2 hc2 ⟨w5, rfl, s2, hR2⟩
        have e0c : (0 : Int) + (c : Int) = (c : Int) := Int.zero_add _
        rw [e0c]
        have hF2 := s2 _ _ hF
        refine ⟨_, rfl, .inl ⟨rfl, _, SqL.of hR2⟩, _, rfl, F, rfl, ⟨_, SqL.of hF2⟩, fun D hD => ?_⟩
        refine lc_it (walk_list (xs := lE ys)) (LcP H2 D fun j => lE ((ys.map fun o => o + scN k c * xs[i]).take j)) (lcp_start hD rfl) (fun j H4 _ p4 => p4.1.seq (SqL.of hF2)) ?_ ?_
        · rintro j x H4 H5 hj p4 ⟨rfl, hxj⟩
          obtain ⟨hj', rfl⟩ := lE_at hxj
          refine ⟨rfl, lcY ?_⟩
          refine ⟨_, rfl, _, rfl, _, rfl, _, rfl, d, k, ys[j], xs[i], c, hc2, rfl, ((hd.same s).same s2).same p4.1, fun H6 s6 => ?_⟩
          refine lcp_next hD p4 s6 ?_ (small (by rw [lE_len, List.length_take]; simp; omega))
          rw [lE_take (by simpa using hj')]
          simp [scN_eq hc2]
        intro H4 p4
        have h4 := p4.2
        dsimp only at h4
        rw [lE_len, List.take_of_length_le (by simp)] at h4
        have hRD : R ≠ D := fun e => by rw [← e, hR2] at hD; cases hD
        have hsl := spn_len k ys xs[i] c
        have hcy : c * ys.length ≤ 243 := Nat.le_trans (Nat.mul_le_mul (by omega : c ≤ 3) (Nat.le_trans hyl hpi)) (by decide)
        refine ⟨R, D, _, _, rfl, rfl, p4.1 _ _ hR2, h4, small' (by rw [lE_len, lE_len, hsl, List.length_map]; omega), ?_⟩
        refine ⟨_, rfl, sm_set (s2.trans p4.1) hR, ?_⟩
        rw [upd_same, spn_succ]; simp [lE]
      · rintro σ H2 ⟨w5, rfl, s2, hR2⟩
        refine ⟨_, rfl, R, _, _, _, _, rfl, s.trans s2, nR, hR2, ?_, ?_, fun y => ?_⟩
        · intro e
          have := spn_len k ys xs[i] k.p
          rw [e, List.length_nil] at this
          have h1 := List.length_pos_iff.mpr hne
          have := Nat.mul_pos (by omega : 0 < k.p) h1
          omega
        · rw [spn_len, Nat.pow_succ, Nat.mul_comm]; exact Nat.mul_le_mul_right _ hyl
        · rw [mem_spn, etk]
          show _ ↔ ∃ c, _ ∧ _
          constructor
          · rintro ⟨c, h1, h2⟩; exact ⟨c, h1, (hmem _).mp h2⟩
          · rintro ⟨c, h1, h2⟩; exact ⟨c, h1, (hmem _).mpr h2⟩
    · have hin : xs[i] ∈ ys := by
        by_cases q : xs[i] ∈ ys
        · exact q
        · exact absurd (decide_eq_true q) hc
      refine ⟨F, ys, _, _, _, rfl, s, nF, hF, hne, Nat.le_trans hyl (Nat.pow_le_pow_right (by omega) (by omega)), fun y => ?_⟩
      rw [etk, sp_same ((hmem _).mp hin)]
      exact hmem y
  · rintro σ H' ⟨F, ys, v3, v4, v5, rfl, s, nF, hF, hne, hyl, hmem⟩
    rw [lE_len] at hyl hmem
    rw [List.take_of_length_le (Nat.le_refl _)] at hmem
    exact ⟨_, rfl, ret _ F ys s nF hF hne hyl hmem⟩
theorem len_law_span {vs : List V} {H : Hp} {Q : VK} {E : XK} (h : sp_law_span K vs H Q E) : vs.length = 2 := by
  obtain ⟨d, a, k, xs, rfl, _⟩ := h; rfl
theorem c_law_span (T : Txt K mg) : C8.Cal P w K mg base 4 "_law_span" (sp_law_span K) [] :=
  cal_of (k := 3) (ps := ["_law_world_here", "_law_given"]) T.d_law_span (fun _ _ _ _ _ _ us hl => match us, hl with | [_, _], _ => rfl) sc_law_span (fun vs H Q E h => len_law_span h) fun f cdv A outer s H vs Q E hr h => ⟨_, ps_law_span T hr, pure_law_span T h⟩
def sp_law_some (K : PySem.W.Frag) : Sp := fun vs H Q _ => ∃ (p d : Addr) (k : Kd) (m : Nat), vs = [.ref p, .ref d, .int (m : Int)] ∧ PotAt H p ∧ WorldAt H d k ∧ m ≤ 100 ∧
  ∀ H' q (ys : List (El k)), But p H H' → PotAt H' p → H q = none → H' q = some (.lst (lE ys)) → ys.length = m → Q (.ref q) H'
abbrev N_law_some : List Str := ["_law_pot_here", "_law_world_here", "_law_many", "_law_turn"]
theorem sc_law_some : FnScope N_law_some ["_law_pot_here", "_law_world_here", "_law_many"] (defScope s_law_some) := ⟨rfl, rfl, rfl, by decide +kernel, rfl, by decide +kernel, by decide +kernel⟩
def t_law_some (K : PySem.W.Frag) : TS :=
  (tRet (tLc (iRng1 (tCons (tVar 2) tNil)) (gName 3) tYes (tCall (sp_law_draw K) [] E0 (tCons (tVar 0) (tCons (tDGet (tVar 1) (tC (.str "size"))) tNil))) [3]))
theorem ps_law_some {f : Addr} {cdv : Value} {A : Around} {outer : List Env} {s : Shared} {H : Hp} {E : XK} (T : Txt K mg) (hr : Room 2 (A.deeper (envOfC "_law_some" (defScope s_law_some) s.heap.objs.size f cdv))) :
    PSs (cxOf CX0 P w K mg base N_law_some "_law_some" (defScope s_law_some) f cdv A outer s H E).nox (defBody s_law_some) (t_law_some K) := by
  exact (pss_one (ps_ret (pe_lc (own := [("_law_turn", 3)]) (g := (gName 3)) (tt := tYes) (te := (tCall (sp_law_draw K) [] E0 (tCons (tVar 0) (tCons (tDGet (tVar 1) (tC (.str "size"))) tNil)))) (by rfl) sc_law_some.nd (pi_range1 (by rfl) T.b_range (pa_cons (pv 2) pa_nil)) (blkOk_by (own := [("_law_turn", 3)]) (N := N_law_some) (sc := defScope s_law_some) (by decide +kernel)) (fun _ _ _ _ _ => (pg_name (i := 3) sc_law_some.nd rfl (Or.inl rfl))) (fun _ _ _ _ _ => pts_nil) (fun _ _ _ _ _ => (C8.pe_c (c_law_draw T) hr (by decide) (by rfl) (pa_cons (pv 0) (pa_cons (pe_dget (hu_of hr) (pv 1) pe_str (fun _ _ => rfl)) pa_nil)))))))
theorem pure_law_some (T : Txt K mg) {vs : List V} {H : Hp} {Q : VK} {E : XK} (h : sp_law_some K vs H Q E) : t_law_some K { nx := fun _ H' => Q .non H', rt := Q } (L2.start N_law_some vs) H := by
  obtain ⟨p, d, k, m, rfl, hp, hd, hm, ret⟩ := h
  have hq := k.q_le
  have hq2 := k.q_ge
  refine ⟨_, rfl, _, rfl, by omega, by omega, fun D hD => ?_⟩
  have en : ((m : Nat) : Int).toNat = m := by omega
  rw [en]
  have hDp := hp.new hD
  refine lc_range (lo := 0) (n := m) (LcD k p H D) (lcd_start hD hp) ?_ ?_
  · intro i H' hi h
    refine ⟨rfl, lcY ?_⟩
    refine ⟨_, rfl, _, rfl, ?_⟩
    refine wl_size (hd.but hp h.1) ?_
    refine ⟨p, k.q, rfl, h.2.1, by omega, by omega, fun H2 y b2 p2 hy => ?_⟩
    have := lcd_next hD hDp h b2 p2 (elN k y) (by omega)
    rw [vE_elN hy] at this
    exact this
  · rintro H' ⟨b, hp', ys, hl, hD'⟩
    exact ret _ D ys b hp' hD hD' hl
theorem len_law_some {vs : List V} {H : Hp} {Q : VK} {E : XK} (h : sp_law_some K vs H Q E) : vs.length = 3 := by
  obtain ⟨p, d, k, m, rfl, _⟩ := h; rfl
theorem c_law_some (T : Txt K mg) : C8.Cal P w K mg base 3 "_law_some" (sp_law_some K) [] :=
  cal_of (k := 2) (ps := ["_law_pot_here", "_law_world_here", "_law_many"]) T.d_law_some (fun _ _ _ _ _ _ us hl => match us, hl with | [_, _, _], _ => rfl) sc_law_some (fun vs H Q E h => len_law_some h) fun f cdv A outer s H vs Q E hr h => ⟨_, ps_law_some T hr, pure_law_some T h⟩
def sp_law_within (K : PySem.W.Frag) : Sp := fun vs H Q _ => ∃ (p d a : Addr) (k : Kd) (xs : List (El k)) (m : Nat), vs = [.ref p, .ref d, .ref a, .int (m : Int)] ∧ PotAt H p ∧ WorldAt H d k ∧ H a = some (.lst (lE xs)) ∧ xs.length ≤ 5 ∧ m ≤ 100 ∧
  ∀ H' q (ys : List (El k)), But p H H' → PotAt H' p → H q = none → H' q = some (.lst (lE ys)) → ys.length = m → Q (.ref q) H'
abbrev N_law_within : List Str := ["_law_pot_here", "_law_world_here", "_law_given", "_law_many", "_law_span_here", "_law_turn"]
theorem sc_law_within : FnScope N_law_within ["_law_pot_here", "_law_world_here", "_law_given", "_law_many"] (defScope s_law_within) := ⟨rfl, rfl, rfl, by decide +kernel, rfl, by decide +kernel, by decide +kernel⟩
def t_law_within (K : PySem.W.Frag) : TS :=
  (tSeq (tAsg (tCall (sp_law_span K) [] E0 (tCons (tVar 1) (tCons (tVar 2) tNil))) (gName 4))
  (tRet (tLc (iRng1 (tCons (tVar 3) tNil)) (gName 5) tYes (tCall (sp_law_pick K) [] E0 (tCons (tVar 0) (tCons (tVar 4) tNil))) [5])))
theorem ps_law_within {f : Addr} {cdv : Value} {A : Around} {outer : List Env} {s : Shared} {H : Hp} {E : XK} (T : Txt K mg) (hr : Room 4 (A.deeper (envOfC "_law_within" (defScope s_law_within) s.heap.objs.size f cdv))) :
    PSs (cxOf CX0 P w K mg base N_law_within "_law_within" (defScope s_law_within) f cdv A outer s H E).nox (defBody s_law_within) (t_law_within K) := by
  exact (pss_cons (ps_set (i := 4) sc_law_within.nd rfl (Or.inr rfl) (C8.pe_c (c_law_span T) hr (by decide) (by rfl) (pa_cons (pv 1) (pa_cons (pv 2) pa_nil))))
  (pss_one (ps_ret (pe_lc (own := [("_law_turn", 5)]) (g := (gName 5)) (tt := tYes) (te := (tCall (sp_law_pick K) [] E0 (tCons (tVar 0) (tCons (tVar 4) tNil)))) (by rfl) sc_law_within.nd (pi_range1 (by rfl) T.b_range (pa_cons (pv 3) pa_nil)) (blkOk_by (own := [("_law_turn", 5)]) (N := N_law_within) (sc := defScope s_law_within) (by decide +kernel)) (fun _ _ _ _ _ => (pg_name (i := 5) sc_law_within.nd rfl (Or.inl rfl))) (fun _ _ _ _ _ => pts_nil) (fun _ _ _ _ _ => (C8.pe_c (c_law_pick T) hr (by decide) (by rfl) (pa_cons (pv 0) (pa_cons (pv 4) pa_nil))))))))
theorem pure_law_within (T : Txt K mg) {vs : List V} {H : Hp} {Q : VK} {E : XK} (h : sp_law_within K vs H Q E) : t_law_within K { nx := fun _ H' => Q .non H', rt := Q } (L2.start N_law_within vs) H := by
  obtain ⟨p, d, a, k, xs, m, rfl, hp, hd, ha, hxl, hm, ret⟩ := h
  have hp3 := k.p_le
  refine ⟨_, rfl, _, rfl, d, a, k, xs, rfl, hd, ha, hxl, fun H1 S sp s1 nS hS hne hsl hmem => ?_⟩
  have hp1 := hp.same s1
  have hSp := hp.new nS
  have hsl2 : sp.length ≤ 243 := Nat.le_trans hsl (Nat.le_trans (Nat.pow_le_pow_left hp3 _) (Nat.le_trans (Nat.pow_le_pow_right (by omega) hxl) (by decide)))
  refine ⟨_, rfl, _, rfl, by omega, by omega, fun D hD => ?_⟩
  have en : ((m : Nat) : Int).toNat = m := by omega
  rw [en]
  have hDp := hp1.new hD
  refine lc_range (lo := 0) (n := m) (LcD k p H1 D) (lcd_start hD hp1) ?_ ?_
  · intro i H' hi h
    refine ⟨rfl, lcY ?_⟩
    refine ⟨_, rfl, _, rfl, p, S, _, rfl, h.2.1, h.1 _ _ hSp hS, hSp, ?_, by rw [lE_len]; omega, fun H2 v b2 p2 hv => ?_⟩
    · intro e; exact hne (List.map_eq_nil_iff.mp e)
    obtain ⟨y, hy, rfl⟩ := List.mem_map.mp hv
    exact lcd_next hD hDp h b2 p2 y (by omega)
  · rintro H' ⟨b, hp', ys, hl, hD'⟩
    exact ret _ D ys ((sbut s1 p).trans b) hp' (s1.free hD) hD' hl
theorem len_law_within {vs : List V} {H : Hp} {Q : VK} {E : XK} (h : sp_law_within K vs H Q E) : vs.length = 4 := by
  obtain ⟨p, d, a, k, xs, m, rfl, _⟩ := h; rfl
theorem c_law_within (T : Txt K mg) : C8.Cal P w K mg base 5 "_law_within" (sp_law_within K) [] :=
  cal_of (k := 4) (ps := ["_law_pot_here", "_law_world_here", "_law_given", "_law_many"]) T.d_law_within (fun _ _ _ _ _ _ us hl => match us, hl with | [_, _, _, _], _ => rfl) sc_law_within (fun vs H Q E h => len_law_within h) fun f cdv A outer s H vs Q E hr h => ⟨_, ps_law_within T hr, pure_law_within T h⟩
def sp_law_free (K : PySem.W.Frag) : Sp := fun vs H Q _ => ∃ (p d : Addr) (k : Kd) (m : Nat), vs = [.ref p, .ref d, .int (m : Int)] ∧ PotAt H p ∧ WorldAt H d k ∧ m ≤ k.n ∧
  ∀ H' q (ys : List (El k)), But p H H' → PotAt H' p → H q = none → H' q = some (.lst (lE ys)) → ys.length = m → Indep (El.T k) ys → Q (.ref q) H'
abbrev N_law_free : List Str := ["_law_pot_here", "_law_world_here", "_law_many", "_law_found", "_law_turn", "_law_span_here", "_law_one"]
theorem sc_law_free : FnScope N_law_free ["_law_pot_here", "_law_world_here", "_law_many"] (defScope s_law_free) := ⟨rfl, rfl, rfl, by decide +kernel, rfl, by decide +kernel, by decide +kernel⟩
def t_law_free (K : PySem.W.Frag) : TS :=
  (tSeq (tAsg (tLst tNil) (gName 3))
  (tSeq (tFor (iRng1 (tCons (tVar 2) tNil)) (gName 4) (tSeq (tAsg (tCall (sp_law_span K) [] E0 (tCons (tVar 1) (tCons (tVar 3) tNil))) (gName 5))
  (tDrop (tBM K "list" rAppend (tVar 3) (tCons (tCall (sp_law_pick K) [] E0 (tCons (tVar 0) (tCons (tLc (iRng1 (tCons (tDGet (tVar 1) (tC (.str "size"))) tNil)) (gName 6) (tTest (tOp (rIn K true) (tVar 6) (tVar 5))) (tVar 6) [6]) tNil))) tNil)))))
  (tRet (tVar 3))))
theorem ps_law_free {f : Addr} {cdv : Value} {A : Around} {outer : List Env} {s : Shared} {H : Hp} {E : XK} (T : Txt K mg) (hr : Room 4 (A.deeper (envOfC "_law_free" (defScope s_law_free) s.heap.objs.size f cdv))) :
    PSs (cxOf CX0 P w K mg base N_law_free "_law_free" (defScope s_law_free) f cdv A outer s H E).nox (defBody s_law_free) (t_law_free K) := by
  exact (pss_cons (ps_set (i := 3) sc_law_free.nd rfl (Or.inl rfl) (pe_lst pa_nil))
  (pss_cons (ps_for PassesOwn.never rfl (pi_range1 (by rfl) T.b_range (pa_cons (pv 2) pa_nil)) (pg_name (i := 4) sc_law_free.nd rfl (Or.inl rfl)) (pss_cons (ps_set (i := 5) sc_law_free.nd rfl (Or.inr rfl) (C8.pe_c (c_law_span T) hr (by decide) (by rfl) (pa_cons (pv 1) (pa_cons (pv 3) pa_nil))))
  (pss_one (ps_expr (pe_bm PySem.F.plainAttrs_list PySem.F.slot_list_append PySem.F.type_list_append mt_append (pv 3) (pa_cons (C8.pe_c (c_law_pick T) hr (by decide) (by rfl) (pa_cons (pv 0) (pa_cons (pe_lc (own := [("_law_one", 6)]) (g := (gName 6)) (tt := (tTest (tOp (rIn K true) (tVar 6) (tVar 5)))) (te := (tVar 6)) (by rfl) sc_law_free.nd (pi_range1 (by rfl) T.b_range (pa_cons (pe_dget (hu_of hr) (pv 1) pe_str (fun _ _ => rfl)) pa_nil)) (blkOk_by (own := [("_law_one", 6)]) (N := N_law_free) (sc := defScope s_law_free) (by decide +kernel)) (fun _ _ _ _ _ => (pg_name (i := 6) sc_law_free.nd rfl (Or.inl rfl))) (fun _ _ _ _ _ => (pts_one (pt_cmpR op_notIn_seq (pv 6) (pv 5) (by rfl)))) (fun _ _ _ _ _ => (pv 6))) pa_nil))) pa_nil))))))
  (pss_one (ps_ret (pv 3)))))
/-- what is out of a list -/
def outs (k : Kd) (sp : List (El k)) (i : Nat) : List Nat := (List.range i).filter fun s => decide (elN k s ∉ sp)
theorem pure_law_free (T : Txt K mg) {vs : List V} {H : Hp} {Q : VK} {E : XK} (h : sp_law_free K vs H Q E) : t_law_free K { nx := fun _ H' => Q .non H', rt := Q } (L2.start N_law_free vs) H := by
  obtain ⟨p, d, k, m, rfl, hp, hd, hm, ret⟩ := h
  have hp2 := k.p_two
  have hn2 := k.n_le
  have hq := k.q_le
  refine ⟨Nat.zero_le _, fun F hF => ?_⟩
  have hFp := hp.new hF
  refine ⟨_, rfl, _, rfl, by omega, by omega, ?_⟩
  have en : ((m : Nat) : Int).toNat = m := by omega
  rw [en]
  refine for_range (lo := 0) (n := m) (fun i σ H' => ∃ (ys : List (El k)) (v4 v5 : Option V), σ = [some (.ref p), some (.ref d), some (.int (m : Int)), some (.ref F), v4, v5, none] ∧ But p H H' ∧ PotAt H' p ∧ H' F = some (.lst (lE ys)) ∧ ys.length = i ∧ Fr (El.T k) ys.reverse)
    ⟨[], none, none, rfl, sbut (sm_upd hF) p, hp.same (sm_upd hF), upd_same, rfl, trivial⟩ ?_ ?_
  · rintro i σ H' hi ⟨ys, v4, v5, rfl, b, hp', hF', hyl, hfr⟩
    have hd' := hd.but hp b
    refine ⟨_, rfl, _, rfl, d, F, k, ys, rfl, hd', hF', by omega, fun H2 S sp s2 nS hS hne hsl hmem => ?_⟩
    have hF2 := s2 _ _ hF'
    have hp2' := hp'.same s2
    have hlt : sp.length < k.q := Nat.lt_of_le_of_lt hsl (by
      show k.p ^ ys.length < k.p ^ k.n
      exact Nat.pow_lt_pow_right (by omega) (by omega))
    refine ⟨_, rfl, .inl ⟨rfl, _, SqL.of hF2⟩, _, rfl, _, rfl, ?_⟩
    refine wl_size (hd'.same s2) ?_
    refine ⟨_, rfl, by omega, by omega, fun C hC => ?_⟩
    have eq : ((k.q : Nat) : Int).toNat = k.q := by omega
    rw [eq]
    refine lc_range (lo := 0) (n := k.q) (LcP H2 C fun j => natV (outs k sp j)) (lcp_start hC rfl) ?_ ?_
    · intro j H3 hj pp
      refine ⟨rfl, ?_⟩
      have e0 : (0 : Int) + (j : Int) = (j : Int) := Int.zero_add _
      rw [e0]
      refine ⟨_, rfl, _, rfl, S, _, rfl, .inl (SqL.of (pp.1 _ _ hS)), rfl, flat_lE _, _, rfl, ?_⟩
      have ein : (if true = true then !inV (V.int (j : Int)) (lE sp) else inV (V.int (j : Int)) (lE sp)) = decide (elN k j ∉ sp) := by
        rw [if_pos rfl, ← vE_elN hj, inV_lE]
        by_cases q : elN k j ∈ sp <;> simp [q]
      rw [ein]
      refine ite2 (fun hc => ?_) (fun hc => ?_)
      · refine ⟨_, rfl, lcp_next hC pp (Same.refl _) ?_ (small ?_)⟩
        · unfold outs; rw [range_filter_succ, if_pos hc]; simp [natV]
        · have := List.length_filter_le (fun s => decide (elN k s ∉ sp)) (List.range j)
          simp [natV, outs] at this ⊢; omega
      · exact lcp_skip pp (Same.refl _) (by unfold outs; rw [range_filter_succ, if_neg hc])
    intro H3 p3
    have hC3 := p3.2
    dsimp only at hC3
    have hCp := hp2'.new hC
    have hp3' := hp2'.same p3.1
    obtain ⟨n0, hn0, hn1⟩ := out_ex hlt
    have hne2 : natV (outs k sp k.q) ≠ [] := fun e => by
      have : n0 ∈ outs k sp k.q := List.mem_filter.mpr ⟨List.mem_range.mpr hn0, decide_eq_true hn1⟩
      rw [List.map_eq_nil_iff.mp e] at this; cases this
    have hol : (natV (outs k sp k.q)).length < 1000000 := by
      have := List.length_filter_le (fun s => decide (elN k s ∉ sp)) (List.range k.q)
      simp [natV, outs] at this ⊢; omega
    refine ⟨p, C, _, rfl, hp3', hC3, hCp, hne2, hol, fun H4 v b4 p4 hv => ?_⟩
    obtain ⟨s, hs, rfl⟩ := List.mem_map.mp hv
    obtain ⟨hs1, hs2⟩ := List.mem_filter.mp hs
    have hs1 := List.mem_range.mp hs1
    have hs2 := of_decide_eq_true hs2
    have hF3 := p3.1 _ _ hF2
    have hF4 := b4 _ _ hFp hF3
    refine ⟨F, _, _, rfl, rfl, hF4, small (by rw [lE_len]; omega), ?_⟩
    refine ⟨ys ++ [elN k s], _, _, rfl, bt_set ((b.trans (sbut s2 p)).trans ((sbut p3.1 p).trans b4)) hF, ?_, ?_, by simp [hyl], ?_⟩
    · obtain ⟨x, y, e, r⟩ := p4.ex
      exact ⟨⟨x, y, by rw [upd_ne hFp.symm]; exact e, r⟩⟩
    · have ev : vI (s : Int) = vE (elN k s) := (vE_elN hs1).symm
      rw [upd_same, ev]; simp [lE]
    · rw [List.reverse_append]
      exact ⟨fun h => hs2 ((hmem _).mpr h), hfr⟩
  · rintro σ H' ⟨ys, v4, v5, rfl, b, hp', hF', hyl, hfr⟩
    refine ⟨_, rfl, ret _ F ys b hp' hF hF' hyl ?_⟩
    intro vs hv
    have := hfr.indep vs fun b hb => hv b (List.mem_reverse.mp hb)
    rwa [List.length_reverse] at this
theorem len_law_free {vs : List V} {H : Hp} {Q : VK} {E : XK} (h : sp_law_free K vs H Q E) : vs.length = 3 := by
  obtain ⟨p, d, k, m, rfl, _⟩ := h; rfl
theorem c_law_free (T : Txt K mg) : C8.Cal P w K mg base 5 "_law_free" (sp_law_free K) [] :=
  cal_of (k := 4) (ps := ["_law_pot_here", "_law_world_here", "_law_many"]) T.d_law_free (fun _ _ _ _ _ _ us hl => match us, hl with | [_, _, _], _ => rfl) sc_law_free (fun vs H Q E h => len_law_free h) fun f cdv A outer s H vs Q E hr h => ⟨_, ps_law_free T hr, pure_law_free T h⟩
end
end Tp
namespace Tp
open PySem PySem.Spec PyProof.Rows L2 Gab
theorem PotAt.nk {H : Hp} {p a : Addr} {o : HO} (h : PotAt H p) (e : H a = some o) (n : ∀ xs, o ≠ .lst xs) : a ≠ p := fun q => by
  obtain ⟨x, y, e2, _⟩ := h.ex
  rw [q, e2] at e
  exact n _ (Option.some.inj e).symm
theorem md_ne2 (k : Kd) : (iV k.md).length ≠ 2 := by rw [iV_len, md_len]; have := k.n_ge; omega
theorem FieldAt.bp {K : PySem.W.Frag} {H H' : Hp} {f p : Addr} {k : Kd} (h : FieldAt K H f k) (hp : PotAt H p) (s : But p H H') : FieldAt K H' f k := by
  obtain ⟨d, m, pw, lg, fs, h1, h2, h3, h4, h5, h6, h7, h8, h9, h10⟩ := h
  have hq := k.q_ge
  refine ⟨d, m, pw, lg, fs, s _ _ (hp.nk h1 fun _ e => by cases e) h1, h2, h3, h4, h5, h6, h7, s _ _ (hp.ne h8 (md_ne2 k)) h8, s _ _ (hp.ne h9 ?_) h9, s _ _ (hp.ne h10 ?_) h10⟩
  · unfold pwL; rw [List.length_map, k.pws_len]; omega
  · unfold lgL; rw [List.length_cons, List.length_map, List.length_drop, k.lgs_len]; omega
theorem BookAt.bp {K : PySem.W.Frag} {H H' : Hp} {b p : Addr} {k : Kd} {pts : List (El k)} {m : Nat} (h : BookAt K H b k pts m) (hl : 3 ≤ pts.length) (hp : PotAt H p) (s : But p H H') : BookAt K H' b k pts m := by
  obtain ⟨⟨dx, f, q, fs, h1, h2, h3, h4, h5, h6⟩, a, b, c, d⟩ := h
  exact ⟨⟨dx, f, q, fs, s _ _ (hp.nk h1 fun _ e => by cases e) h1, h2, h3, h4, h5.bp hp s, s _ _ (hp.ne h6 (by rw [lE_len]; omega)) h6⟩, a, b, c, d⟩
theorem made {H H' : Hp} {x dx C : Addr} (nx : H x = none) (nd : H dx = none) (b : But x (upd (upd H dx (.own x)) x (.ins C dx [])) H') : Same H H' := fun a u e =>
  b a u (ne_of_none e nx) (by rw [upd_ne (ne_of_none e nx), upd_ne (ne_of_none e nd)]; exact e)
theorem mkS {H : Hp} {x dx C : Addr} (nx : H x = none) (nd : H dx = none) : Same H (upd (upd H dx (.own x)) x (.ins C dx [])) := fun a u e => by
  rw [upd_ne (ne_of_none e nx), upd_ne (ne_of_none e nd)]; exact e
/-- a kind of field, told -/
structure KAt (H : Hp) (t : Addr) (k : Kd) : Prop where
  ex : ∃ c : Addr, H t = some (.tup [.int (k.p : Int), .ref c]) ∧ H c = some (.lst (iV k.md))
theorem KAt.same {H H' : Hp} {t : Addr} {k : Kd} (h : KAt H t k) (s : Same H H') : KAt H' t k := by
  obtain ⟨c, a, b⟩ := h.ex
  exact ⟨⟨c, s _ _ a, s _ _ b⟩⟩
theorem KAt.bp {H H' : Hp} {t p : Addr} {k : Kd} (h : KAt H t k) (hp : PotAt H p) (s : But p H H') : KAt H' t k := by
  obtain ⟨c, a, b⟩ := h.ex
  exact ⟨⟨c, s _ _ (hp.nk a fun _ e => by cases e) a, s _ _ (hp.ne b (md_ne2 k)) b⟩⟩
theorem kd_of {H : Hp} {c t : Addr} {xs : List V} {z : Int} {k : Kd} (e : xs = iV k.md) (ez : z = (k.p : Int)) (hc : H c = none) (ht : (upd H c (.lst xs)) t = none) :
    Same H (upd (upd H c (.lst xs)) t (.tup [.int z, .ref c])) ∧ KAt (upd (upd H c (.lst xs)) t (.tup [.int z, .ref c])) t k := by
  subst e ez
  refine ⟨sm_upd' (sm_upd hc) ht, ⟨c, upd_same, sm_upd ht _ _ upd_same⟩⟩
/-- what the book is told by -/
structure TolAt (H : Hp) (t : Addr) (k : Kd) (pts : List (El k)) (m : Nat) : Prop where
  ex : ∃ (ml wd pl : Addr) (kvs : List (Key × V)), H t = some (.dK kvs) ∧ valV kvs (.inr "prime") = some (.int (k.p : Int)) ∧ valV kvs (.inr "modulus") = some (.ref ml) ∧ valV kvs (.inr "world") = some (.ref wd) ∧ valV kvs (.inr "points") = some (.ref pl) ∧
    valV kvs (.inr "many") = some (.int (m : Int)) ∧ valV kvs (.inr "reach") = some (.int (rch pts m : Nat)) ∧ H ml = some (.lst (iV k.md)) ∧ WorldAt H wd k ∧ H pl = some (.lst (lE pts))
  one : 1 ≤ m
  two : m ≤ 2
  three : 3 ≤ pts.length
  few : pts.length ≤ k.n
  ind : Indep (El.T k) pts
theorem TolAt.same {H H' : Hp} {t : Addr} {k : Kd} {pts : List (El k)} {m : Nat} (h : TolAt H t k pts m) (s : Same H H') : TolAt H' t k pts m := by
  obtain ⟨⟨ml, wd, pl, kvs, h1, h2, h3, h4, h5, h6, h7, h8, h9, h10⟩, a, b, c, d, e⟩ := h
  exact ⟨⟨ml, wd, pl, kvs, s _ _ h1, h2, h3, h4, h5, h6, h7, s _ _ h8, h9.same s, s _ _ h10⟩, a, b, c, d, e⟩
theorem TolAt.bp {H H' : Hp} {t p : Addr} {k : Kd} {pts : List (El k)} {m : Nat} (h : TolAt H t k pts m) (hp : PotAt H p) (s : But p H H') : TolAt H' t k pts m := by
  obtain ⟨⟨ml, wd, pl, kvs, h1, h2, h3, h4, h5, h6, h7, h8, h9, h10⟩, a, b, c, d, e⟩ := h
  exact ⟨⟨ml, wd, pl, kvs, s _ _ (hp.nk h1 fun _ e => by cases e) h1, h2, h3, h4, h5, h6, h7, s _ _ (hp.ne h8 (md_ne2 k)) h8, h9.but hp s, s _ _ (hp.ne h10 (by rw [lE_len]; omega)) h10⟩, a, b, c, d, e⟩
section
variable {H : Hp} {t : Addr} {k : Kd} {pts : List (El k)} {m : Nat} {R : V → Prop}
theorem tl_prime (h : TolAt H t k pts m) (q : R (.int (k.p : Int))) : DgR H t "prime" R := by
  obtain ⟨ml, wd, pl, kvs, h1, h2, h3, h4, h5, h6, h7, h8, h9, h10⟩ := h.ex
  exact dg h1 h2 q
theorem tl_modulus (h : TolAt H t k pts m) (q : ∀ ml, H ml = some (.lst (iV k.md)) → R (.ref ml)) : DgR H t "modulus" R := by
  obtain ⟨ml, wd, pl, kvs, h1, h2, h3, h4, h5, h6, h7, h8, h9, h10⟩ := h.ex
  exact dg h1 h3 (q ml h8)
theorem tl_world (h : TolAt H t k pts m) (q : ∀ wd, WorldAt H wd k → R (.ref wd)) : DgR H t "world" R := by
  obtain ⟨ml, wd, pl, kvs, h1, h2, h3, h4, h5, h6, h7, h8, h9, h10⟩ := h.ex
  exact dg h1 h4 (q wd h9)
theorem tl_points (h : TolAt H t k pts m) (q : ∀ pl, H pl = some (.lst (lE pts)) → R (.ref pl)) : DgR H t "points" R := by
  obtain ⟨ml, wd, pl, kvs, h1, h2, h3, h4, h5, h6, h7, h8, h9, h10⟩ := h.ex
  exact dg h1 h5 (q pl h10)
theorem tl_many (h : TolAt H t k pts m) (q : R (.int (m : Int))) : DgR H t "many" R := by
  obtain ⟨ml, wd, pl, kvs, h1, h2, h3, h4, h5, h6, h7, h8, h9, h10⟩ := h.ex
  exact dg h1 h6 q
theorem tl_reach (h : TolAt H t k pts m) (q : R (.int (rch pts m : Nat))) : DgR H t "reach" R := by
  obtain ⟨ml, wd, pl, kvs, h1, h2, h3, h4, h5, h6, h7, h8, h9, h10⟩ := h.ex
  exact dg h1 h7 q
end
section
variable {P : Program} {w : World} {K : PySem.W.Frag} {mg : Str → Option Value} {base : Heap}
def sp_law_kind (K : PySem.W.Frag) : Sp := fun vs H Q _ => ∃ (p : Addr), vs = [.ref p] ∧ PotAt H p ∧ ∀ H' t (k : Kd), But p H H' → PotAt H' p → KAt H' t k → Q (.ref t) H'
abbrev N_law_kind : List Str := ["_law_pot_here"]
theorem sc_law_kind : FnScope N_law_kind ["_law_pot_here"] (defScope s_law_kind) := ⟨rfl, rfl, rfl, by decide +kernel, rfl, by decide +kernel, by decide +kernel⟩
def t_law_kind (K : PySem.W.Frag) : TS :=
  (tRet (tCall (sp_law_pick K) [] E0 (tCons (tVar 0) (tCons (tLst (tCons (tTup (tCons (tC (.int 2)) (tCons (tLst (tCons (tC (.int 1)) (tCons (tC (.int 1)) (tCons (tC (.int 0)) (tCons (tC (.int 1)) tNil))))) tNil))) (tCons (tTup (tCons (tC (.int 2)) (tCons (tLst (tCons (tC (.int 1)) (tCons (tC (.int 1)) (tCons (tC (.int 0)) (tCons (tC (.int 1)) tNil))))) tNil))) (tCons (tTup (tCons (tC (.int 2)) (tCons (tLst (tCons (tC (.int 1)) (tCons (tC (.int 1)) (tCons (tC (.int 0)) (tCons (tC (.int 0)) (tCons (tC (.int 1)) tNil)))))) tNil))) (tCons (tTup (tCons (tC (.int 2)) (tCons (tLst (tCons (tC (.int 1)) (tCons (tC (.int 1)) (tCons (tC (.int 0)) (tCons (tC (.int 0)) (tCons (tC (.int 1)) tNil)))))) tNil))) (tCons (tTup (tCons (tC (.int 3)) (tCons (tLst (tCons (tC (.int 1)) (tCons (tC (.int 2)) (tCons (tC (.int 0)) (tCons (tC (.int 1)) tNil))))) tNil))) (tCons (tTup (tCons (tC (.int 2)) (tCons (tLst (tCons (tC (.int 1)) (tCons (tC (.int 0)) (tCons (tC (.int 1)) (tCons (tC (.int 0)) (tCons (tC (.int 0)) (tCons (tC (.int 1)) tNil))))))) tNil))) tNil))))))) tNil))))
theorem ps_law_kind {f : Addr} {cdv : Value} {A : Around} {outer : List Env} {s : Shared} {H : Hp} {E : XK} (T : Txt K mg) (hr : Room 3 (A.deeper (envOfC "_law_kind" (defScope s_law_kind) s.heap.objs.size f cdv))) :
    PSs (cxOf CX0 P w K mg base N_law_kind "_law_kind" (defScope s_law_kind) f cdv A outer s H E).nox (defBody s_law_kind) (t_law_kind K) := by
  exact (pss_one (ps_ret (C8.pe_c (c_law_pick T) hr (by decide) (by rfl) (pa_cons (pv 0) (pa_cons (pe_lst (pa_cons (pe_tup (pa_cons pe_int (pa_cons (pe_lst (pa_cons pe_int (pa_cons pe_int (pa_cons pe_int (pa_cons pe_int pa_nil))))) pa_nil))) (pa_cons (pe_tup (pa_cons pe_int (pa_cons (pe_lst (pa_cons pe_int (pa_cons pe_int (pa_cons pe_int (pa_cons pe_int pa_nil))))) pa_nil))) (pa_cons (pe_tup (pa_cons pe_int (pa_cons (pe_lst (pa_cons pe_int (pa_cons pe_int (pa_cons pe_int (pa_cons pe_int (pa_cons pe_int pa_nil)))))) pa_nil))) (pa_cons (pe_tup (pa_cons pe_int (pa_cons (pe_lst (pa_cons pe_int (pa_cons pe_int (pa_cons pe_int (pa_cons pe_int (pa_cons pe_int pa_nil)))))) pa_nil))) (pa_cons (pe_tup (pa_cons pe_int (pa_cons (pe_lst (pa_cons pe_int (pa_cons pe_int (pa_cons pe_int (pa_cons pe_int pa_nil))))) pa_nil))) (pa_cons (pe_tup (pa_cons pe_int (pa_cons (pe_lst (pa_cons pe_int (pa_cons pe_int (pa_cons pe_int (pa_cons pe_int (pa_cons pe_int (pa_cons pe_int pa_nil))))))) pa_nil))) pa_nil))))))) pa_nil)))))
theorem pure_law_kind (T : Txt K mg) {vs : List V} {H : Hp} {Q : VK} {E : XK} (h : sp_law_kind K vs H Q E) : t_law_kind K { nx := fun _ H' => Q .non H', rt := Q } (L2.start N_law_kind vs) H := by
  obtain ⟨p, rfl, hp, ret⟩ := h
  refine ⟨_, rfl, ?_⟩
  refine ⟨by show 4 ≤ sizeLine; decide, fun c1 hc1 => ⟨by show 2 ≤ sizeLine; decide, fun t1 ht1 => ?_⟩⟩
  obtain ⟨s1, k1⟩ := kd_of (k := .k8) (z := 2) rfl rfl hc1 ht1
  refine ⟨by show 4 ≤ sizeLine; decide, fun c2 hc2 => ⟨by show 2 ≤ sizeLine; decide, fun t2 ht2 => ?_⟩⟩
  obtain ⟨s2, k2⟩ := kd_of (k := .k8) (z := 2) rfl rfl hc2 ht2
  refine ⟨by show 5 ≤ sizeLine; decide, fun c3 hc3 => ⟨by show 2 ≤ sizeLine; decide, fun t3 ht3 => ?_⟩⟩
  obtain ⟨s3, k3⟩ := kd_of (k := .k16) (z := 2) rfl rfl hc3 ht3
  refine ⟨by show 5 ≤ sizeLine; decide, fun c4 hc4 => ⟨by show 2 ≤ sizeLine; decide, fun t4 ht4 => ?_⟩⟩
  obtain ⟨s4, k4⟩ := kd_of (k := .k16) (z := 2) rfl rfl hc4 ht4
  refine ⟨by show 4 ≤ sizeLine; decide, fun c5 hc5 => ⟨by show 2 ≤ sizeLine; decide, fun t5 ht5 => ?_⟩⟩
  obtain ⟨s5, k5⟩ := kd_of (k := .k27) (z := 3) rfl rfl hc5 ht5
  refine ⟨by show 6 ≤ sizeLine; decide, fun c6 hc6 => ⟨by show 2 ≤ sizeLine; decide, fun t6 ht6 => ?_⟩⟩
  obtain ⟨s6, k6⟩ := kd_of (k := .k32) (z := 2) rfl rfl hc6 ht6
  refine ⟨by show 6 ≤ sizeLine; decide, fun L hL => ?_⟩
  have s7 := sm_upd hL (o := .lst [V.ref t1, V.ref t2, V.ref t3, V.ref t4, V.ref t5, V.ref t6])
  have u6 := s7
  have u5 := s6.trans u6
  have u4 := s5.trans u5
  have u3 := s4.trans u4
  have u2 := s3.trans u3
  have u1 := s2.trans u2
  have u0 := s1.trans u1
  have hpL := hp.same u0
  have hLp : L ≠ p := (hp.same (s1.trans (s2.trans (s3.trans (s4.trans (s5.trans s6)))))).new hL
  refine ⟨p, L, _, rfl, hpL, upd_same, hLp, by simp, by show 6 < 1000000; decide, fun H' v b q hv => ?_⟩
  have fin : ∀ t (k : Kd), KAt _ t k → Q (.ref t) H' := fun t k hk => ret H' t k ((sbut u0 p).trans b) q (hk.bp hpL b)
  rcases List.mem_cons.mp hv with rfl | hv
  · exact fin _ _ (k1.same u1)
  rcases List.mem_cons.mp hv with rfl | hv
  · exact fin _ _ (k2.same u2)
  rcases List.mem_cons.mp hv with rfl | hv
  · exact fin _ _ (k3.same u3)
  rcases List.mem_cons.mp hv with rfl | hv
  · exact fin _ _ (k4.same u4)
  rcases List.mem_cons.mp hv with rfl | hv
  · exact fin _ _ (k5.same u5)
  rcases List.mem_cons.mp hv with rfl | hv
  · exact fin _ _ (k6.same u6)
  cases hv
theorem len_law_kind {vs : List V} {H : Hp} {Q : VK} {E : XK} (h : sp_law_kind K vs H Q E) : vs.length = 1 := by
  obtain ⟨p, rfl, _⟩ := h; rfl
theorem c_law_kind (T : Txt K mg) : C8.Cal P w K mg base 4 "_law_kind" (sp_law_kind K) [] :=
  cal_of (k := 3) (ps := ["_law_pot_here"]) T.d_law_kind (fun _ _ _ _ _ _ us hl => match us, hl with | [_], _ => rfl) sc_law_kind (fun vs H Q E h => len_law_kind h) fun f cdv A outer s H vs Q E hr h => ⟨_, ps_law_kind T hr, pure_law_kind T h⟩
def sp_law_book (K : PySem.W.Frag) : Sp := fun vs H Q _ => ∃ (p : Addr), vs = [.ref p, .int 3, .int 5] ∧ PotAt H p ∧ ∀ H' t (k : Kd) (pts : List (El k)) (m : Nat), But p H H' → PotAt H' p → TolAt H' t k pts m → Q (.ref t) H'
abbrev N_law_book : List Str := ["_law_pot_here", "_law_least", "_law_most", "_law_prime", "_law_modulus", "_law_world_here", "_law_length", "_law_points", "_law_many"]
theorem sc_law_book : FnScope N_law_book ["_law_pot_here", "_law_least", "_law_most"] (defScope s_law_book) := ⟨rfl, rfl, rfl, by decide +kernel, rfl, by decide +kernel, by decide +kernel⟩
def t_law_book (K : PySem.W.Frag) : TS :=
  (tSeq (tAsg (tCall (sp_law_kind K) [] E0 (tCons (tVar 0) tNil)) (gTup K 2 (gCons (gName 3) (gCons (gName 4) gNil))))
  (tSeq (tAsg (tCall (sp_law_world K) [] E0 (tCons (tVar 3) (tCons (tVar 4) tNil))) (gName 5))
  (tSeq (tAsg (tOp oAdd (tVar 1) (tCall (sp_law_draw K) [] E0 (tCons (tVar 0) (tCons (tOp oAdd (tOp oSub (tCB cMin (tCons (tVar 2) (tCons (tDGet (tVar 5) (tC (.str "turns"))) tNil))) (tVar 1)) (tC (.int 1))) tNil)))) (gName 6))
  (tSeq (tAsg (tCall (sp_law_free K) [] E0 (tCons (tVar 0) (tCons (tVar 5) (tCons (tVar 6) tNil)))) (gName 7))
  (tSeq (tAsg (tOp oAdd (tC (.int 1)) (tCall (sp_law_draw K) [] E0 (tCons (tVar 0) (tCons (tCB cMin (tCons (tC (.int 2)) (tCons (tOp oSub (tVar 6) (tC (.int 1))) tNil))) tNil)))) (gName 8))
  (tRet (tDisp (((tC (.str "prime")), (tVar 3)) :: ((tC (.str "modulus")), (tVar 4)) :: ((tC (.str "world")), (tVar 5)) :: ((tC (.str "points")), (tVar 7)) :: ((tC (.str "many")), (tVar 8)) :: ((tC (.str "reach")), (tOp oDiv (tOp oSub (tVar 6) (tVar 8)) (tC (.int 2)))) :: []))))))))
theorem ps_law_book {f : Addr} {cdv : Value} {A : Around} {outer : List Env} {s : Shared} {H : Hp} {E : XK} (T : Txt K mg) (hr : Room 5 (A.deeper (envOfC "_law_book" (defScope s_law_book) s.heap.objs.size f cdv))) :
    PSs (cxOf CX0 P w K mg base N_law_book "_law_book" (defScope s_law_book) f cdv A outer s H E).nox (defBody s_law_book) (t_law_book K) := by
  exact (pss_cons (ps_asg (C8.pe_c (c_law_kind T) hr (by decide) (by rfl) (pa_cons (pv 0) pa_nil)) (pg_tup (by rfl) (pgs_cons (pg_name (i := 3) sc_law_book.nd rfl (Or.inl rfl)) (pgs_cons (pg_name (i := 4) sc_law_book.nd rfl (Or.inl rfl)) pgs_nil))))
  (pss_cons (ps_set (i := 5) sc_law_book.nd rfl (Or.inl rfl) (C8.pe_c (c_law_world T) hr (by decide) (by rfl) (pa_cons (pv 3) (pa_cons (pv 4) pa_nil))))
  (pss_cons (ps_set (i := 6) sc_law_book.nd rfl (Or.inl rfl) (pe_op op_add (pv 1) (C8.pe_c (c_law_draw T) hr (by decide) (by rfl) (pa_cons (pv 0) (pa_cons (pe_op op_add (pe_op op_sub (pe_callB (call_min2 rfl) (by rfl) T.b_min (by decide +kernel) (pa_cons (pv 2) (pa_cons (pe_dget (hu_of hr) (pv 5) pe_str (fun _ _ => rfl)) pa_nil))) (pv 1)) pe_int) pa_nil)))))
  (pss_cons (ps_set (i := 7) sc_law_book.nd rfl (Or.inl rfl) (C8.pe_c (c_law_free T) hr (by decide) (by rfl) (pa_cons (pv 0) (pa_cons (pv 5) (pa_cons (pv 6) pa_nil)))))
  (pss_cons (ps_set (i := 8) sc_law_book.nd rfl (Or.inl rfl) (pe_op op_add pe_int (C8.pe_c (c_law_draw T) hr (by decide) (by rfl) (pa_cons (pv 0) (pa_cons (pe_callB (call_min2 rfl) (by rfl) T.b_min (by decide +kernel) (pa_cons pe_int (pa_cons (pe_op op_sub (pv 6) pe_int) pa_nil))) pa_nil)))))
  (pss_one (ps_ret (pe_disp (pps_cons pe_str (pv 3) (pps_cons pe_str (pv 4) (pps_cons pe_str (pv 5) (pps_cons pe_str (pv 7) (pps_cons pe_str (pv 8) (pps_cons pe_str (pe_op op_fdiv (pe_op op_sub (pv 6) (pv 8)) pe_int) pps_nil)))))) (by rfl) (by rfl) (fun z => by cases z) (by decide)))))))))
theorem pure_law_book (T : Txt K mg) {vs : List V} {H : Hp} {Q : VK} {E : XK} (h : sp_law_book K vs H Q E) : t_law_book K { nx := fun _ H' => Q .non H', rt := Q } (L2.start N_law_book vs) H := by
  obtain ⟨p, rfl, hp, ret⟩ := h
  refine ⟨_, rfl, p, rfl, hp, fun H1 t k b1 p1 hk => ?_⟩
  obtain ⟨c, ht, hc⟩ := hk.ex
  have hn1 := k.n_ge
  have hn2 := k.n_le
  refine pair_tgt ht ?_
  refine ⟨_, rfl, _, rfl, c, k, rfl, hc, fun H2 d s2 hd => ?_⟩
  have p2 := p1.same s2
  have hc2 := s2 _ _ hc
  refine ⟨_, rfl, _, rfl, _, rfl, ?_⟩
  refine ⟨_, rfl, ?_⟩
  refine wl_turns hd ?_
  refine ⟨_, _, rfl, ?_⟩
  generalize hmn : (if (k.n : Int) < (5 : Int) then (k.n : Int) else (5 : Int)) = mn
  have hmn1 : mn = (k.n : Int) := by rw [← hmn]; split <;> omega
  subst hmn1
  refine ⟨_, rfl, _, _, rfl, rfl, _, _, rfl, rfl, p, k.n - 2, ?_, p2, by omega, by omega, fun H3 y b3 p3 hy => ?_⟩
  · have : (k.n : Int) - 3 + 1 = ((k.n - 2 : Nat) : Int) := by omega
    rw [← this]; rfl
  have hd3 := hd.but p2 b3
  have hc3 := b3 _ _ (p2.ne hc2 (md_ne2 k)) hc2
  refine ⟨_, _, rfl, rfl, ?_⟩
  have el : (3 : Int) + (y : Int) = ((3 + y : Nat) : Int) := by omega
  dsimp only
  rw [el]
  refine ⟨_, rfl, _, rfl, _, rfl, p, d, k, 3 + y, rfl, p3, hd3, by omega, fun H4 q pts b4 p4 nq hq hl hind => ?_⟩
  have hd4 := hd3.but p3 b4
  have hc4 := b4 _ _ (p3.ne hc3 (md_ne2 k)) hc3
  refine ⟨_, rfl, _, rfl, _, _, rfl, rfl, _, _, rfl, ?_⟩
  generalize hmx : (if ((3 + y : Nat) : Int) - 1 < (2 : Int) then ((3 + y : Nat) : Int) - 1 else (2 : Int)) = mx
  have hmx1 : mx = ((2 : Nat) : Int) := by rw [← hmx]; split <;> omega
  subst hmx1
  refine ⟨p, 2, rfl, p4, by omega, by omega, fun H5 z b5 p5 hz => ?_⟩
  have hd5 := hd4.but p4 b5
  have hc5 := b5 _ _ (p4.ne hc4 (md_ne2 k)) hc4
  have hq5 := b5 _ _ (p4.ne hq (by rw [lE_len]; omega)) hq
  refine ⟨_, _, rfl, rfl, ?_⟩
  have em : (1 : Int) + (z : Int) = ((1 + z : Nat) : Int) := by omega
  dsimp only
  rw [em]
  refine fun D hD => ?_
  have sd := sm_upd hD (o := .dK [])
  have er : (((3 + y : Nat) : Int) - ((1 + z : Nat) : Int)) / 2 = ((rch pts (1 + z) : Nat) : Int) := by unfold rch; rw [hl]; omega
  have se : Same H5 (upd (upd H5 D (.dK [])) D (.dK (mergeK [] [(.inr "prime", .int (k.p : Int)), (.inr "modulus", .ref c), (.inr "world", .ref d), (.inr "points", .ref q), (.inr "many", .int ((1 + z : Nat) : Int)), (.inr "reach", .int ((rch pts (1 + z) : Nat) : Int))]))) := sm_set sd hD
  refine ⟨_, rfl, _, rfl, _, rfl, _, rfl, _, rfl, _, rfl, _, rfl, _, _, rfl, rfl, _, _, rfl, rfl, ⟨by omega, by omega⟩, ?_⟩
  dsimp only
  rw [er]
  refine ⟨upd_same, [(.inr "prime", .int (k.p : Int)), (.inr "modulus", .ref c), (.inr "world", .ref d), (.inr "points", .ref q), (.inr "many", .int ((1 + z : Nat) : Int)), (.inr "reach", .int ((rch pts (1 + z) : Nat) : Int))], rfl, by show 6 ≤ 15; decide, ?_⟩
  refine ret _ D k pts (1 + z) ?_ (p5.same se) ⟨⟨c, d, q, _, upd_same, rfl, rfl, rfl, rfl, rfl, rfl, se _ _ hc5, hd5.same se, se _ _ hq5⟩, by omega, by omega, by omega, by omega, hind⟩
  exact (b1.trans (sbut s2 p)).trans ((b3.trans b4).trans (b5.trans (sbut se p)))
theorem len_law_book {vs : List V} {H : Hp} {Q : VK} {E : XK} (h : sp_law_book K vs H Q E) : vs.length = 3 := by
  obtain ⟨p, rfl, _⟩ := h; rfl
theorem c_law_book (T : Txt K mg) : C8.Cal P w K mg base 6 "_law_book" (sp_law_book K) [] :=
  cal_of (k := 5) (ps := ["_law_pot_here", "_law_least", "_law_most"]) T.d_law_book (fun _ _ _ _ _ _ us hl => match us, hl with | [_, _, _], _ => rfl) sc_law_book (fun vs H Q E h => len_law_book h) fun f cdv A outer s H vs Q E hr h => ⟨_, ps_law_book T hr, pure_law_book T h⟩
def sp_law_made (K : PySem.W.Frag) : Sp := fun vs H Q _ => ∃ (t : Addr) (k : Kd) (pts : List (El k)) (m : Nat), vs = [.ref t] ∧ TolAt H t k pts m ∧ ∀ H' b, Same H H' → BookAt K H' b k pts m → Q (.ref b) H'
abbrev N_law_made : List Str := ["_law_told"]
theorem sc_law_made : FnScope N_law_made ["_law_told"] (defScope s_law_made) := ⟨rfl, rfl, rfl, by decide +kernel, rfl, by decide +kernel, by decide +kernel⟩
def t_law_made (K : PySem.W.Frag) : TS :=
  (tRet (tMake (CB K) (sp_Book_init K) [] E0 (tCons (tMake (CF K) (sp_Field_init K) [] E0 (tCons (tDGet (tVar 0) (tC (.str "prime"))) (tCons (tDGet (tVar 0) (tC (.str "modulus"))) tNil))) (tCons (tDGet (tVar 0) (tC (.str "points"))) (tCons (tDGet (tVar 0) (tC (.str "many"))) tNil)))))
theorem ps_law_made {f : Addr} {cdv : Value} {A : Around} {outer : List Env} {s : Shared} {H : Hp} {E : XK} (T : Txt K mg) (hr : Room 9 (A.deeper (envOfC "_law_made" (defScope s_law_made) s.heap.objs.size f cdv))) :
    PSs (cxOf CX0 P w K mg base N_law_made "_law_made" (defScope s_law_made) f cdv A outer s H E).nox (defBody s_law_made) (t_law_made K) := by
  exact (pss_one (ps_ret (C8.pe_mk (c_Book T) hr (by decide) (by rfl) (pa_cons (C8.pe_mk (c_Field T) hr (by decide) (by rfl) (pa_cons (pe_dget (hu_of hr) (pv 0) pe_str (fun _ _ => rfl)) (pa_cons (pe_dget (hu_of hr) (pv 0) pe_str (fun _ _ => rfl)) pa_nil))) (pa_cons (pe_dget (hu_of hr) (pv 0) pe_str (fun _ _ => rfl)) (pa_cons (pe_dget (hu_of hr) (pv 0) pe_str (fun _ _ => rfl)) pa_nil))))))
theorem pure_law_made (T : Txt K mg) {vs : List V} {H : Hp} {Q : VK} {E : XK} (h : sp_law_made K vs H Q E) : t_law_made K { nx := fun _ H' => Q .non H', rt := Q } (L2.start N_law_made vs) H := by
  obtain ⟨t, k, pts, m, rfl, ht, ret⟩ := h
  refine ⟨_, rfl, ?_⟩
  refine tl_prime ht ?_
  refine ⟨_, rfl, ?_⟩
  refine tl_modulus ht fun ml hml => ?_
  refine fun x dx nx nd nn => ⟨x, ml, dx, k, rfl, upd_same, mkS nx nd _ _ hml, fun H1 b1 hf => ⟨rfl, ?_⟩⟩
  have s1 := made nx nd b1
  have ht1 := ht.same s1
  refine ⟨_, rfl, ?_⟩
  refine tl_points ht1 fun pl hpl => ?_
  refine ⟨_, rfl, ?_⟩
  refine tl_many ht1 ?_
  refine fun y dy ny nd2 nn2 => ⟨y, x, pl, dy, k, pts, m, rfl, upd_same, hf.same (mkS ny nd2), mkS ny nd2 _ _ hpl, ht.one, Nat.le_trans ht.two (Nat.le_trans (by omega) ht.three), ht.few, ht.ind, fun H2 b2 hb => ⟨rfl, ?_⟩⟩
  exact ret H2 y (s1.trans (made ny nd2 b2)) hb
theorem len_law_made {vs : List V} {H : Hp} {Q : VK} {E : XK} (h : sp_law_made K vs H Q E) : vs.length = 1 := by
  obtain ⟨t, k, pts, m, rfl, _⟩ := h; rfl
theorem c_law_made (T : Txt K mg) : C8.Cal P w K mg base 10 "_law_made" (sp_law_made K) [] :=
  cal_of (k := 9) (ps := ["_law_told"]) T.d_law_made (fun _ _ _ _ _ _ us hl => match us, hl with | [_], _ => rfl) sc_law_made (fun vs H Q E h => len_law_made h) fun f cdv A outer s H vs Q E hr h => ⟨_, ps_law_made T hr, pure_law_made T h⟩
end
end Tp
namespace Tp
open PySem PySem.Spec PyProof.Rows L2 Gab
theorem tlc_list {K : PySem.W.Frag} {j : Nat} {a : Addr} {src out : List V} {g : TG} {te : TE} {vs : List Nat} {σ : L2.St} {H : Hp} {Q : VK} (hj : σ[j]? = some (some (.ref a))) (ha : H a = some (.lst src)) (hl : src.length ≤ 900) (ho : out.length = src.length)
    (step : ∀ (i : Nat) (hi : i < src.length) (hi' : i < out.length) (H' : Hp) (N : VK) (M : Hp → Prop), Same H H' → (∀ H3, Same H' H3 → N out[i] H3) → g src[i] (wipe σ vs) H' fun σ2 H2 => wipe σ2 vs = wipe σ vs ∧ tYes σ2 H2 fun b H3 => if b = true then te σ2 H3 N else M H3)
    (q : ∀ H' D, Same H H' → H D = none → H' D = some (.lst out) → Q (.ref D) H') : tLc (iList K (tVar j)) g tYes te vs σ H Q := by
  refine ⟨_, hj, a, rfl, ⟨_, SqL.of ha⟩, fun D hD => ?_⟩
  refine lc_it (walk_list (xs := src)) (LcP H D fun i => out.take i) (lcp_start hD rfl) (fun i H4 _ p4 => p4.1.seq (SqL.of ha)) ?_ ?_
  · rintro i x H4 H5 hi p4 ⟨rfl, hxi⟩
    rw [List.getElem?_eq_getElem hi] at hxi
    obtain rfl := Option.some.inj hxi
    have hi' : i < out.length := by omega
    refine step i hi hi' _ _ _ p4.1 fun H3 s3 => ?_
    exact lcp_next hD p4 s3 (take_succ' (List.getElem?_eq_getElem hi')) (small (by rw [List.length_take]; omega))
  · intro H4 p4
    have h4 := p4.2
    dsimp only at h4
    rw [List.take_of_length_le (by omega)] at h4
    exact q _ D p4.1 hD h4
theorem tlc_asg {K : PySem.W.Frag} {j n : Nat} {a : Addr} {src out : List V} {g : TG} {te : TE} {vs : List Nat} {u : TS} {E : Ends} {σ : L2.St} {H : Hp} (hj : σ[j]? = some (some (.ref a))) (ha : H a = some (.lst src)) (hl : src.length ≤ 900) (ho : out.length = src.length)
    (step : ∀ (i : Nat) (hi : i < src.length) (hi' : i < out.length) (H' : Hp) (N : VK) (M : Hp → Prop), Same H H' → (∀ H3, Same H' H3 → N out[i] H3) → g src[i] (wipe σ vs) H' fun σ2 H2 => wipe σ2 vs = wipe σ vs ∧ tYes σ2 H2 fun b H3 => if b = true then te σ2 H3 N else M H3)
    (q : ∀ H' D, Same H H' → H D = none → H' D = some (.lst out) → u E (σ.set n (some (.ref D))) H') : tSeq (tAsg (tLc (iList K (tVar j)) g tYes te vs) (gName n)) u E σ H :=
  tlc_list (K := K) (j := j) (a := a) (src := src) (out := out) (g := g) (te := te) (vs := vs) (σ := σ) (H := H) (Q := fun v H' => u E (σ.set n (some v)) H') hj ha hl ho step q
theorem tri_tgt {K : PySem.W.Frag} {i j l : Nat} {T : Addr} {x y z : V} {σ : L2.St} {H : Hp} {Q : L2.St → Hp → Prop} (h : H T = some (.tup [x, y, z])) (q : Q (((σ.set i (some x)).set j (some y)).set l (some z)) H) : gTup K 3 (gCons (gName i) (gCons (gName j) (gCons (gName l) gNil))) (.ref T) σ H Q :=
  ⟨T, _, rfl, SqT.of h, rfl, _, _, rfl, _, _, rfl, _, _, rfl, rfl, q⟩
/-- a list or None, as it is compared -/
def dO {k : Kd} : Option (List (El k)) → PyData
  | none => .none
  | some f => dI (elI f)
theorem dO_shaped {k : Kd} (o : Option (List (El k))) : SeqAt.shaped (dO o) = true := by
  cases o with
  | none => rfl
  | some f => exact dI_shaped _
theorem eqv_dO {k : Kd} (o : Option (List (El k))) : PyData.eqv (dO o) (dO o) = true := by
  cases o with
  | none => rfl
  | some f => show PyData.eqv (dI (elI f)) (dI (elI f)) = true; rw [eqv_lE]; simp
theorem OptAt.dp {K : PySem.W.Frag} {k : Kd} {H : Hp} {o : Option (List (El k))} {v : V} (h : OptAt H o v) : Dp K H v (dO o) := by
  cases o with
  | none => rw [show v = .non from h]; exact .non
  | some f =>
    obtain ⟨p, rfl, e⟩ := h
    exact dp_lE e
theorem ne_off {K : PySem.W.Frag} {k : Kd} {H : Hp} {o : Option (List (El k))} {v v' : V} {R : VK} (h : OptAt H o v) (h' : OptAt H o v') (q : R (.bl false) H) : rNeD K v v' H R :=
  ⟨dO o, dO o, h.dp, h'.dp, dO_shaped o, dO_shaped o, by rw [eqv_dO]; exact q⟩
theorem eq_on {K : PySem.W.Frag} {k : Kd} {H : Hp} {o : Option (List (El k))} {v v' : V} {R : VK} (h : OptAt H o v) (h' : OptAt H o v') (q : R (.bl true) H) : rEqD K v v' H R :=
  ⟨dO o, dO o, h.dp, h'.dp, dO_shaped o, dO_shaped o, by rw [eqv_dO]; exact q⟩
/-- how things stand at a case -/
structure Std (H : Hp) (p t wa pl a : Addr) (v : V) {k : Kd} (pts : List (El k)) (m : Nat) (wd : List (El k)) (o : Option (List (El k))) : Prop where
  pot : PotAt H p
  tol : TolAt H t k pts m
  wor : WorldAt H wa k
  ptl : H pl = some (.lst (lE pts))
  wrd : H a = some (.lst (lE wd))
  len : wd.length = pts.length
  opt : OptAt H o v
  nep : ∀ q, v = .ref q → q ≠ p
section
variable {H H' : Hp} {p t wa pl a : Addr} {v : V} {k : Kd} {pts wd : List (El k)} {m : Nat} {o : Option (List (El k))}
theorem Std.same (h : Std H p t wa pl a v pts m wd o) (s : Same H H') : Std H' p t wa pl a v pts m wd o :=
  ⟨h.pot.same s, h.tol.same s, h.wor.same s, s _ _ h.ptl, s _ _ h.wrd, h.len, h.opt.same s, h.nep⟩
theorem Std.bp (h : Std H p t wa pl a v pts m wd o) (s : But p H H') (hp : PotAt H' p) : Std H' p t wa pl a v pts m wd o := by
  have h3 := h.tol.three
  have hl := h.len
  refine ⟨hp, h.tol.bp h.pot s, h.wor.but h.pot s, s _ _ (h.pot.ne h.ptl (by rw [lE_len]; omega)) h.ptl, s _ _ (h.pot.ne h.wrd (by rw [lE_len]; omega)) h.wrd, h.len, ?_, h.nep⟩
  have ho := h.opt
  have hn := h.nep
  cases o with
  | none => exact ho
  | some f =>
    obtain ⟨q, e, hq⟩ := ho
    exact ⟨q, e, s _ _ (hn q e) hq⟩
theorem Std.le (h : Std H p t wa pl a v pts m wd o) : m ≤ pts.length := Nat.le_trans h.tol.two (Nat.le_trans (by omega) h.tol.three)
theorem Std.hk (h : Std H p t wa pl a v pts m wd o) : m + 2 * rch pts m ≤ pts.length := by
  have := h.le
  unfold rch; omega
end
theorem along_len {k : Kd} (seq : List Nat) (xs : List (El k)) : (along seq xs).length = seq.length := by simp [along]
theorem natV_len (seq : List Nat) : (natV seq).length = seq.length := by simp [natV]
theorem natV_get {seq : List Nat} {i : Nat} (h : i < (natV seq).length) : (natV seq)[i] = V.int ((seq[i]'(by rw [natV_len] at h; exact h) : Nat) : Int) := by simp [natV]
theorem lE_map_get {k : Kd} {xs : List (El k)} {φ : El k → El k} {i : Nat} (h : i < (lE (xs.map φ)).length) : (lE (xs.map φ))[i] = vE (φ (xs[i]'(by simpa [lE] using h))) := by simp [lE]
theorem lE_get' {k : Kd} {xs : List (El k)} {i : Nat} (h : i < (lE xs).length) : (lE xs)[i] = vE (xs[i]'(by rw [lE_len] at h; exact h)) := by simp [lE]
theorem rch_eq {k : Kd} {xs ys : List (El k)} {m : Nat} (h : ys.length = xs.length) : rch ys m = rch xs m := by unfold rch; rw [h]
/-- what is undone by a times is found -/
def bks (k : Kd) (a : El k) (i : Nat) : List Nat := (List.range i).filter fun s => decide (a * elN k s = 1)
theorem bks_ex {k : Kd} {a : El k} (ha : a ≠ 0) : ∃ s more, bks k a k.q = s :: more ∧ s < k.q ∧ a * elN k s = 1 := by
  have hi := (El.T k).inv_mul a ha
  have hm : ((El.T k).inv a).v ∈ bks k a k.q := List.mem_filter.mpr ⟨List.mem_range.mpr (El.lt _), decide_eq_true (by
    have e : elN k ((El.T k).inv a).v = (El.T k).inv a := El.ext' (elN_v (El.lt _))
    rw [e]; grind)⟩
  cases h : bks k a k.q with
  | nil => rw [h] at hm; cases hm
  | cons s more =>
    have hs : s ∈ bks k a k.q := by rw [h]; exact List.mem_cons_self
    obtain ⟨h1, h2⟩ := List.mem_filter.mp hs
    exact ⟨s, more, rfl, List.mem_range.mp h1, of_decide_eq_true h2⟩
section
variable {P : Program} {w : World} {K : PySem.W.Frag} {mg : Str → Option Value} {base : Heap}
def sp_law_moved_right (K : PySem.W.Frag) : Sp := fun vs H Q _ => ∃ (p t wa pl a : Addr) (v : V) (sq : Addr) (k : Kd) (pts : List (El k)) (m : Nat) (wd : List (El k)) (o : Option (List (El k))) (seq : List Nat) (y : El k),
  vs = [.ref p, .ref t, .ref a, v, .ref sq, vE y] ∧ Std H p t wa pl a v pts m wd o ∧ Mend (El.T k) pts wd m (rch pts m) o ∧ H sq = some (.lst (natV seq)) ∧ seq.Perm (List.range pts.length) ∧ y ≠ 0 ∧ ∀ H', But p H H' → PotAt H' p → Q (.bl true) H'
abbrev N_law_moved_right : List Str := ["_law_pot_here", "_law_told", "_law_word_here", "_law_found", "_law_sequence", "_law_by", "_law_world_here", "_law_points", "_law_many", "_law_field", "_law_moved", "_law_first", "_law_second", "_law_number_here", "_law_spots", "_law_letters", "_law_back", "_law_due", "_law_at", "_law_one"]
theorem sc_law_moved_right : FnScope N_law_moved_right ["_law_pot_here", "_law_told", "_law_word_here", "_law_found", "_law_sequence", "_law_by"] (defScope s_law_moved_right) := ⟨rfl, rfl, rfl, by decide +kernel, rfl, by decide +kernel, by decide +kernel⟩
def t_law_moved_right (K : PySem.W.Frag) : TS :=
  (tSeq (tAsg (tTup (tCons (tDGet (tVar 1) (tC (.str "world"))) (tCons (tDGet (tVar 1) (tC (.str "points"))) (tCons (tDGet (tVar 1) (tC (.str "many"))) tNil)))) (gTup K 3 (gCons (gName 6) (gCons (gName 7) (gCons (gName 8) gNil)))))
  (tSeq (tAsg (tMake (CF K) (sp_Field_init K) [] E0 (tCons (tDGet (tVar 1) (tC (.str "prime"))) (tCons (tDGet (tVar 1) (tC (.str "modulus"))) tNil))) (gName 9))
  (tSeq (tAsg (tMake (CB K) (sp_Book_init K) [] E0 (tCons (tVar 9) (tCons (tLc (iList K (tVar 4)) (gName 18) tYes (tOp (rIxL K) (tVar 7) (tVar 18)) [18]) (tCons (tVar 8) tNil)))) (gName 10))
  (tSeq (tIfS (tTest (tOp (rNeD K) (tCall (sp_mended K) [] E0 (tCons (tVar 10) (tCons (tLc (iList K (tVar 4)) (gName 18) tYes (tOp (rIxL K) (tVar 2) (tVar 18)) [18]) tNil))) (tVar 3))) (tRet (tC (.bl false))) tNext)
  (tSeq (tPar 11 12 (tCons (tOp (rIxL K) (tVar 4) (tC (.int 0))) (tCons (tOp (rIxL K) (tVar 4) (tC (.int 1))) tNil)))
  (tSeq (tAsg (tOp oAdd (tC (.int 1)) (tCall (sp_law_draw K) [] E0 (tCons (tVar 0) (tCons (tOp oSub (tDGet (tVar 6) (tC (.str "prime"))) (tC (.int 1))) tNil)))) (gName 13))
  (tSeq (tPar 14 15 (tCons (tCB (cList K) (tCons (tVar 7) tNil)) (tCons (tCB (cList K) (tCons (tVar 2) tNil)) tNil)))
  (tSeq (tAsg (tCall (sp_law_plus K) [] E0 (tCons (tVar 6) (tCons (tOp (rIxL K) (tVar 7) (tVar 11)) (tCons (tOp (rIxL K) (tVar 7) (tVar 12)) (tCons (tVar 13) tNil))))) (gSub (tVar 14) (tVar 11) rSetL))
  (tSeq (tAsg (tCall (sp_law_plus K) [] E0 (tCons (tVar 6) (tCons (tOp (rIxL K) (tVar 2) (tVar 11)) (tCons (tOp (rIxL K) (tVar 2) (tVar 12)) (tCons (tVar 13) tNil))))) (gSub (tVar 15) (tVar 11) rSetL))
  (tSeq (tIfS (tTest (tOp (rNeD K) (tCall (sp_mended K) [] E0 (tCons (tMake (CB K) (sp_Book_init K) [] E0 (tCons (tVar 9) (tCons (tVar 14) (tCons (tVar 8) tNil)))) (tCons (tVar 15) tNil))) (tVar 3))) (tRet (tC (.bl false))) tNext)
  (tSeq (tAsg (tLc (iList K (tVar 7)) (gName 19) tYes (tCall (sp_law_times K) [] E0 (tCons (tVar 6) (tCons (tVar 5) (tCons (tVar 19) tNil)))) [19]) (gName 14))
  (tSeq (tAsg (tOp (rIxL K) (tLc (iRng1 (tCons (tDGet (tVar 6) (tC (.str "size"))) tNil)) (gName 19) (tTest (tOp rEq (tCall (sp_law_times K) [] E0 (tCons (tVar 6) (tCons (tVar 5) (tCons (tVar 19) tNil)))) (tC (.int 1)))) (tVar 19) [19]) (tC (.int 0))) (gName 16))
  (tSeq (tAsg (tIf (tTest (tOp oIsN (tVar 3) (tC .non))) (tC .non) (tLc (iEnum K (tCons (tVar 3) tNil)) (gTup K 2 (gCons (gName 18) (gCons (gName 19) gNil))) tYes (tCall (sp_law_times K) [] E0 (tCons (tVar 6) (tCons (tVar 19) (tCons (tCall (sp_law_turned K) [] E0 (tCons (tVar 6) (tCons (tVar 16) (tCons (tVar 18) tNil)))) tNil)))) [18, 19])) (gName 17))
  (tRet (tOp (rEqD K) (tCall (sp_mended K) [] E0 (tCons (tMake (CB K) (sp_Book_init K) [] E0 (tCons (tVar 9) (tCons (tVar 14) (tCons (tVar 8) tNil)))) (tCons (tVar 2) tNil))) (tVar 17))))))))))))))))
theorem ps_law_moved_right {f : Addr} {cdv : Value} {A : Around} {outer : List Env} {s : Shared} {H : Hp} {E : XK} (T : Txt K mg) (hr : Room 9 (A.deeper (envOfC "_law_moved_right" (defScope s_law_moved_right) s.heap.objs.size f cdv))) :
    PSs (cxOf CX0 P w K mg base N_law_moved_right "_law_moved_right" (defScope s_law_moved_right) f cdv A outer s H E).nox (defBody s_law_moved_right) (t_law_moved_right K) := by
  exact (pss_cons (ps_asg (pe_tup (pa_cons (pe_dget (hu_of hr) (pv 1) pe_str (fun _ _ => rfl)) (pa_cons (pe_dget (hu_of hr) (pv 1) pe_str (fun _ _ => rfl)) (pa_cons (pe_dget (hu_of hr) (pv 1) pe_str (fun _ _ => rfl)) pa_nil)))) (pg_tup (by rfl) (pgs_cons (pg_name (i := 6) sc_law_moved_right.nd rfl (Or.inr rfl)) (pgs_cons (pg_name (i := 7) sc_law_moved_right.nd rfl (Or.inr rfl)) (pgs_cons (pg_name (i := 8) sc_law_moved_right.nd rfl (Or.inl rfl)) pgs_nil)))))
  (pss_cons (ps_set (i := 9) sc_law_moved_right.nd rfl (Or.inl rfl) (C8.pe_mk (c_Field T) hr (by decide) (by rfl) (pa_cons (pe_dget (hu_of hr) (pv 1) pe_str (fun _ _ => rfl)) (pa_cons (pe_dget (hu_of hr) (pv 1) pe_str (fun _ _ => rfl)) pa_nil))))
  (pss_cons (ps_set (i := 10) sc_law_moved_right.nd rfl (Or.inl rfl) (C8.pe_mk (c_Book T) hr (by decide) (by rfl) (pa_cons (pv 9) (pa_cons (pe_lc (own := [("_law_at", 18)]) (g := (gName 18)) (tt := tYes) (te := (tOp (rIxL K) (tVar 7) (tVar 18))) (by rfl) sc_law_moved_right.nd (pi_list (pv 4)) (blkOk_by (own := [("_law_at", 18)]) (N := N_law_moved_right) (sc := defScope s_law_moved_right) (by decide +kernel)) (fun _ _ _ _ _ => (pg_name (i := 18) sc_law_moved_right.nd rfl (Or.inl rfl))) (fun _ _ _ _ _ => pts_nil) (fun _ _ _ _ _ => (pe_ix ix_list (pv 7) (pv 18) (fun _ _ => rfl)))) (pa_cons (pv 8) pa_nil)))))
  (pss_cons (ps_if (pt_cmpR (op_neD hr.units) (C8.pe_c (c_mended T) hr (by decide) (by rfl) (pa_cons (pv 10) (pa_cons (pe_lc (own := [("_law_at", 18)]) (g := (gName 18)) (tt := tYes) (te := (tOp (rIxL K) (tVar 2) (tVar 18))) (by rfl) sc_law_moved_right.nd (pi_list (pv 4)) (blkOk_by (own := [("_law_at", 18)]) (N := N_law_moved_right) (sc := defScope s_law_moved_right) (by decide +kernel)) (fun _ _ _ _ _ => (pg_name (i := 18) sc_law_moved_right.nd rfl (Or.inl rfl))) (fun _ _ _ _ _ => pts_nil) (fun _ _ _ _ _ => (pe_ix ix_list (pv 2) (pv 18) (fun _ _ => rfl)))) pa_nil))) (pv 3) (nomark _)) (pss_one (ps_ret pe_bl)) pss_nil)
  (pss_cons (ps_par (i := 11) (j := 12) (by rfl) sc_law_moved_right.nd rfl rfl (by decide) rfl rfl (pa_cons (pe_ix ix_list (pv 4) pe_int (fun _ _ => rfl)) (pa_cons (pe_ix ix_list (pv 4) pe_int (fun _ _ => rfl)) pa_nil)) (by rfl))
  (pss_cons (ps_set (i := 13) sc_law_moved_right.nd rfl (Or.inl rfl) (pe_op op_add pe_int (C8.pe_c (c_law_draw T) hr (by decide) (by rfl) (pa_cons (pv 0) (pa_cons (pe_op op_sub (pe_dget (hu_of hr) (pv 6) pe_str (fun _ _ => rfl)) pe_int) pa_nil)))))
  (pss_cons (ps_par (i := 14) (j := 15) (by rfl) sc_law_moved_right.nd rfl rfl (by decide) rfl rfl (pa_cons (pe_callTy call_list_of (by rfl) T.b_list (by decide +kernel) (pa_cons (pv 7) pa_nil)) (pa_cons (pe_callTy call_list_of (by rfl) T.b_list (by decide +kernel) (pa_cons (pv 2) pa_nil)) pa_nil)) (by rfl))
  (pss_cons (ps_asg (C8.pe_c (c_law_plus T) hr (by decide) (by rfl) (pa_cons (pv 6) (pa_cons (pe_ix ix_list (pv 7) (pv 11) (fun _ _ => rfl)) (pa_cons (pe_ix ix_list (pv 7) (pv 12) (fun _ _ => rfl)) (pa_cons (pv 13) pa_nil))))) (pg_sub (pv 14) (pv 11) set_list))
  (pss_cons (ps_asg (C8.pe_c (c_law_plus T) hr (by decide) (by rfl) (pa_cons (pv 6) (pa_cons (pe_ix ix_list (pv 2) (pv 11) (fun _ _ => rfl)) (pa_cons (pe_ix ix_list (pv 2) (pv 12) (fun _ _ => rfl)) (pa_cons (pv 13) pa_nil))))) (pg_sub (pv 15) (pv 11) set_list))
  (pss_cons (ps_if (pt_cmpR (op_neD hr.units) (C8.pe_c (c_mended T) hr (by decide) (by rfl) (pa_cons (C8.pe_mk (c_Book T) hr (by decide) (by rfl) (pa_cons (pv 9) (pa_cons (pv 14) (pa_cons (pv 8) pa_nil)))) (pa_cons (pv 15) pa_nil))) (pv 3) (nomark _)) (pss_one (ps_ret pe_bl)) pss_nil)
  (pss_cons (ps_setLc (i := 14) (own := [("_law_one", 19)]) (g := (gName 19)) (tt := tYes) (te := (tCall (sp_law_times K) [] E0 (tCons (tVar 6) (tCons (tVar 5) (tCons (tVar 19) tNil))))) (by rfl) sc_law_moved_right.nd rfl rfl (sw_true rfl rfl rfl (by decide +kernel)) (pi_list (pv 7)) (blkOk_by (own := [("_law_one", 19)]) (N := N_law_moved_right) (sc := defScope s_law_moved_right) (by decide +kernel)) (fun _ _ _ _ _ => (pg_name (i := 19) sc_law_moved_right.nd rfl (Or.inl rfl))) (fun _ _ _ _ _ => pts_nil) (fun _ _ _ _ _ => (C8.pe_c (c_law_times T) hr (by decide) (by rfl) (pa_cons (pv 6) (pa_cons (pv 5) (pa_cons (pv 19) pa_nil))))))
  (pss_cons (ps_set (i := 16) sc_law_moved_right.nd rfl (Or.inr rfl) (pe_ix ix_list (pe_lc (own := [("_law_one", 19)]) (g := (gName 19)) (tt := (tTest (tOp rEq (tCall (sp_law_times K) [] E0 (tCons (tVar 6) (tCons (tVar 5) (tCons (tVar 19) tNil)))) (tC (.int 1))))) (te := (tVar 19)) (by rfl) sc_law_moved_right.nd (pi_range1 (by rfl) T.b_range (pa_cons (pe_dget (hu_of hr) (pv 6) pe_str (fun _ _ => rfl)) pa_nil)) (blkOk_by (own := [("_law_one", 19)]) (N := N_law_moved_right) (sc := defScope s_law_moved_right) (by decide +kernel)) (fun _ _ _ _ _ => (pg_name (i := 19) sc_law_moved_right.nd rfl (Or.inl rfl))) (fun _ _ _ _ _ => (pts_one (pt_cmpR op_eq (C8.pe_c (c_law_times T) hr (by decide) (by rfl) (pa_cons (pv 6) (pa_cons (pv 5) (pa_cons (pv 19) pa_nil)))) pe_int (nomark _)))) (fun _ _ _ _ _ => (pv 19))) pe_int (fun _ _ => rfl)))
  (pss_cons (ps_set (i := 17) sc_law_moved_right.nd rfl (Or.inl rfl) (pe_ifExp (pt_cmpR op_isN (pv 3) pe_non (nomark _)) pe_non (pe_lc (own := [("_law_at", 18), ("_law_one", 19)]) (g := (gTup K 2 (gCons (gName 18) (gCons (gName 19) gNil)))) (tt := tYes) (te := (tCall (sp_law_times K) [] E0 (tCons (tVar 6) (tCons (tVar 19) (tCons (tCall (sp_law_turned K) [] E0 (tCons (tVar 6) (tCons (tVar 16) (tCons (tVar 18) tNil)))) tNil))))) (by rfl) sc_law_moved_right.nd (pi_enum (by rfl) T.b_enumerate (pa_cons (pv 3) pa_nil)) (blkOk_by (own := [("_law_at", 18), ("_law_one", 19)]) (N := N_law_moved_right) (sc := defScope s_law_moved_right) (by decide +kernel)) (fun _ _ _ _ _ => (pg_tup (by rfl) (pgs_cons (pg_name (i := 18) sc_law_moved_right.nd rfl (Or.inl rfl)) (pgs_cons (pg_name (i := 19) sc_law_moved_right.nd rfl (Or.inl rfl)) pgs_nil)))) (fun _ _ _ _ _ => pts_nil) (fun _ _ _ _ _ => (C8.pe_c (c_law_times T) hr (by decide) (by rfl) (pa_cons (pv 6) (pa_cons (pv 19) (pa_cons (C8.pe_c (c_law_turned T) hr (by decide) (by rfl) (pa_cons (pv 6) (pa_cons (pv 16) (pa_cons (pv 18) pa_nil)))) pa_nil))))))))
  (pss_one (ps_ret (pe_cmpR (op_eqD hr.units) (C8.pe_c (c_mended T) hr (by decide) (by rfl) (pa_cons (C8.pe_mk (c_Book T) hr (by decide) (by rfl) (pa_cons (pv 9) (pa_cons (pv 14) (pa_cons (pv 8) pa_nil)))) (pa_cons (pv 2) pa_nil))) (pv 17) (nomark _)))))))))))))))))
def t_law_moved_right_4 (K : PySem.W.Frag) : TS :=
  (tSeq (tPar 11 12 (tCons (tOp (rIxL K) (tVar 4) (tC (.int 0))) (tCons (tOp (rIxL K) (tVar 4) (tC (.int 1))) tNil)))
  (tSeq (tAsg (tOp oAdd (tC (.int 1)) (tCall (sp_law_draw K) [] E0 (tCons (tVar 0) (tCons (tOp oSub (tDGet (tVar 6) (tC (.str "prime"))) (tC (.int 1))) tNil)))) (gName 13))
  (tSeq (tPar 14 15 (tCons (tCB (cList K) (tCons (tVar 7) tNil)) (tCons (tCB (cList K) (tCons (tVar 2) tNil)) tNil)))
  (tSeq (tAsg (tCall (sp_law_plus K) [] E0 (tCons (tVar 6) (tCons (tOp (rIxL K) (tVar 7) (tVar 11)) (tCons (tOp (rIxL K) (tVar 7) (tVar 12)) (tCons (tVar 13) tNil))))) (gSub (tVar 14) (tVar 11) rSetL))
  (tSeq (tAsg (tCall (sp_law_plus K) [] E0 (tCons (tVar 6) (tCons (tOp (rIxL K) (tVar 2) (tVar 11)) (tCons (tOp (rIxL K) (tVar 2) (tVar 12)) (tCons (tVar 13) tNil))))) (gSub (tVar 15) (tVar 11) rSetL))
  (tSeq (tIfS (tTest (tOp (rNeD K) (tCall (sp_mended K) [] E0 (tCons (tMake (CB K) (sp_Book_init K) [] E0 (tCons (tVar 9) (tCons (tVar 14) (tCons (tVar 8) tNil)))) (tCons (tVar 15) tNil))) (tVar 3))) (tRet (tC (.bl false))) tNext)
  (tSeq (tAsg (tLc (iList K (tVar 7)) (gName 19) tYes (tCall (sp_law_times K) [] E0 (tCons (tVar 6) (tCons (tVar 5) (tCons (tVar 19) tNil)))) [19]) (gName 14))
  (tSeq (tAsg (tOp (rIxL K) (tLc (iRng1 (tCons (tDGet (tVar 6) (tC (.str "size"))) tNil)) (gName 19) (tTest (tOp rEq (tCall (sp_law_times K) [] E0 (tCons (tVar 6) (tCons (tVar 5) (tCons (tVar 19) tNil)))) (tC (.int 1)))) (tVar 19) [19]) (tC (.int 0))) (gName 16))
  (tSeq (tAsg (tIf (tTest (tOp oIsN (tVar 3) (tC .non))) (tC .non) (tLc (iEnum K (tCons (tVar 3) tNil)) (gTup K 2 (gCons (gName 18) (gCons (gName 19) gNil))) tYes (tCall (sp_law_times K) [] E0 (tCons (tVar 6) (tCons (tVar 19) (tCons (tCall (sp_law_turned K) [] E0 (tCons (tVar 6) (tCons (tVar 16) (tCons (tVar 18) tNil)))) tNil)))) [18, 19])) (gName 17))
  (tRet (tOp (rEqD K) (tCall (sp_mended K) [] E0 (tCons (tMake (CB K) (sp_Book_init K) [] E0 (tCons (tVar 9) (tCons (tVar 14) (tCons (tVar 8) tNil)))) (tCons (tVar 2) tNil))) (tVar 17))))))))))))
def t_law_moved_right_10 (K : PySem.W.Frag) : TS :=
  (tSeq (tAsg (tLc (iList K (tVar 7)) (gName 19) tYes (tCall (sp_law_times K) [] E0 (tCons (tVar 6) (tCons (tVar 5) (tCons (tVar 19) tNil)))) [19]) (gName 14))
  (tSeq (tAsg (tOp (rIxL K) (tLc (iRng1 (tCons (tDGet (tVar 6) (tC (.str "size"))) tNil)) (gName 19) (tTest (tOp rEq (tCall (sp_law_times K) [] E0 (tCons (tVar 6) (tCons (tVar 5) (tCons (tVar 19) tNil)))) (tC (.int 1)))) (tVar 19) [19]) (tC (.int 0))) (gName 16))
  (tSeq (tAsg (tIf (tTest (tOp oIsN (tVar 3) (tC .non))) (tC .non) (tLc (iEnum K (tCons (tVar 3) tNil)) (gTup K 2 (gCons (gName 18) (gCons (gName 19) gNil))) tYes (tCall (sp_law_times K) [] E0 (tCons (tVar 6) (tCons (tVar 19) (tCons (tCall (sp_law_turned K) [] E0 (tCons (tVar 6) (tCons (tVar 16) (tCons (tVar 18) tNil)))) tNil)))) [18, 19])) (gName 17))
  (tRet (tOp (rEqD K) (tCall (sp_mended K) [] E0 (tCons (tMake (CB K) (sp_Book_init K) [] E0 (tCons (tVar 9) (tCons (tVar 14) (tCons (tVar 8) tNil)))) (tCons (tVar 2) tNil))) (tVar 17))))))
theorem moved_c (T : Txt K mg) {H : Hp} {Q : VK} {p t wa pl a f x1 sq S L : Addr} {v : V} {k : Kd} {pts wd : List (El k)} {m : Nat} {o : Option (List (El k))} {y : El k} {i0 i1 nu : Int} (st0 : Std H p t wa pl a v pts m wd o) (hM : Mend (El.T k) pts wd m (rch pts m) o) (hf0 : FieldAt K H f k) (hy : y ≠ 0) (ret : ∀ H', But p H H' → PotAt H' p → Q (.bl true) H') :
    t_law_moved_right_10 K { nx := fun _ H' => Q .non H', rt := Q } [some (.ref p), some (.ref t), some (.ref a), some v, some (.ref sq), some (vE y), some (.ref wa), some (.ref pl), some (.int (m : Int)), some (.ref f), some (.ref x1), some (.int i0), some (.int i1), some (.int nu), some (.ref S), some (.ref L), none, none, none, none] H := by
  have h3 := st0.tol.three
  have hfew := st0.tol.few
  have hind := st0.tol.ind
  have h1m := st0.tol.one
  have hn2 := k.n_le
  have hp2 : 1 < k.p := k.p_two
  have hp3 := k.p_le
  have hq1 := k.q_le
  have hw := st0.len
  have hmle := st0.le
  have hk := st0.hk
  unfold t_law_moved_right_10
  refine tlc_asg (src := lE pts) (out := lE (pts.map (y * ·))) rfl st0.ptl (by rw [lE_len]; omega) (by rw [lE_len, lE_len, List.length_map]) (fun i hi hi' H' N M s q => ⟨rfl, lcY ?_⟩) fun H15 S2 s15 nS2 hS2 => ?_
  · rw [lE_get' hi]
    rw [lE_map_get hi'] at q
    exact ⟨_, rfl, _, rfl, _, rfl, wa, k, y, _, rfl, st0.wor.same s, q⟩
  have st15 := st0.same s15
  have hf15 := hf0.same s15
  have b15 := sbut s15 p
  refine ⟨_, rfl, ?_⟩
  refine wl_size st15.wor ?_
  refine ⟨_, rfl, by omega, by omega, fun B hB => ?_⟩
  have eq : ((k.q : Nat) : Int).toNat = k.q := by omega
  rw [eq]
  refine lc_range (lo := 0) (n := k.q) (LcP H15 B fun j => natV (bks k y j)) (lcp_start hB rfl) ?_ ?_
  · intro j H' hj pp
    refine ⟨rfl, ?_⟩
    have e0 : (0 : Int) + (j : Int) = (j : Int) := Int.zero_add _
    rw [e0]
    refine ⟨_, rfl, _, rfl, _, rfl, wa, k, y, elN k j, by rw [vE_elN hj]; rfl, st15.wor.same pp.1, fun H'' s'' => ⟨rfl, _, rfl, ?_⟩⟩
    have e1 : decide (vE (y * elN k j) = V.int 1) = decide (y * elN k j = 1) := by
      by_cases q : y * elN k j = 1
      · rw [q]; rfl
      · rw [decide_eq_false q, decide_eq_false]
        intro e
        exact q (vE_inj (a := y * elN k j) (b := 1) e)
    rw [e1]
    refine ite2 (fun hc => ?_) (fun hc => ?_)
    · refine ⟨_, rfl, lcp_next hB pp s'' ?_ (small ?_)⟩
      · unfold bks; rw [range_filter_succ, if_pos hc]; simp [natV]
      · have := List.length_filter_le (fun s => decide (y * elN k s = 1)) (List.range j)
        simp [natV, bks] at this ⊢; omega
    · exact lcp_skip pp s'' (by unfold bks; rw [range_filter_succ, if_neg hc])
  intro H16 p16
  have hB16 := p16.2
  dsimp only at hB16
  obtain ⟨s, more, ebk, hsq2, hinv⟩ := bks_ex hy
  rw [ebk] at hB16
  have s16 := p16.1
  have st16 := st15.same s16
  have hf16 := hf15.same s16
  have b16 := b15.trans (sbut s16 p)
  have hS16 := s16 _ _ hS2
  have hat : atI (natV (s :: more)) 0 = some (vE (elN k s)) := by rw [vE_elN hsq2]; exact atI_nat (j := 0) rfl
  generalize elN k s = bk at hinv hat
  refine ⟨B, _, _, _, rfl, rfl, SqL.of hB16, hat, ?_⟩
  have fin : ∀ (H17 : Hp) (v17 : V) (v18 : Option V), Same H16 H17 → OptAt H17 (o.map fun g => tw (El.T k) g bk) v17 →
      (tRet (tOp (rEqD K) (tCall (sp_mended K) [] E0 (tCons (tMake (CB K) (sp_Book_init K) [] E0 (tCons (tVar 9) (tCons (tVar 14) (tCons (tVar 8) tNil)))) (tCons (tVar 2) tNil))) (tVar 17))) { nx := fun _ H' => Q .non H', rt := Q }
        [some (.ref p), some (.ref t), some (.ref a), some v, some (.ref sq), some (vE y), some (.ref wa), some (.ref pl), some (.int (m : Int)), some (.ref f), some (.ref x1), some (.int i0), some (.int i1), some (.int nu), some (.ref S2), some (.ref L), some (vE bk), some v17, none, none] H17 := by
    intro H17 v17 v18 s17 hO17
    have st17 := st16.same s17
    refine ⟨_, rfl, _, rfl, _, rfl, ?_⟩
    refine fun x3 d3 n3 nd3 nn3 => ⟨x3, f, S2, d3, k, _, m, rfl, upd_same, (hf16.same s17).same (mkS n3 nd3), mkS n3 nd3 _ _ (s17 _ _ hS16), h1m, by rw [List.length_map]; omega, by rw [List.length_map]; omega, indep_times hy hind, fun H18 bb3 hb3 => ⟨rfl, ?_⟩⟩
    have s18 := made n3 nd3 bb3
    have st18 := st17.same s18
    refine ⟨_, rfl, ?_⟩
    refine ⟨x3, a, k, _, m, wd, rfl, hb3, st18.wrd, by rw [List.length_map]; exact hw, fun H19 o19 v19 s19 hM19 hO19 nN19 => ?_⟩
    rw [rch_eq (xs := pts) (by rw [List.length_map])] at hM19
    have eo3 := mend_points hinv hind hw hk hM hM19
    rw [eo3] at hO19
    refine ⟨_, rfl, ?_⟩
    refine eq_on hO19 ((hO17.same s18).same s19) ?_
    exact ret _ (b16.trans (sbut (s17.trans (s18.trans s19)) p)) ((st18.same s19).pot)
  refine ⟨_, rfl, rfl, _, rfl, ?_⟩
  have ho := st16.opt
  cases o with
  | none =>
    have ev : v = .non := ho
    rw [decide_eq_true ev]
    refine iteT ?_
    exact fin H16 .non none (Same.refl _) rfl
  | some g =>
    obtain ⟨q, ev, hq⟩ := ho
    rw [decide_eq_false (by rw [ev]; intro e; cases e)]
    refine iteF ?_
    refine ⟨_, rfl, q, _, by rw [ev], SqL.of hq, fun D hD => ?_⟩
    have hgl : g.length ≤ m := hM.len
    refine lc_it (walk_enum (xs := lE g)) (LcP H16 D fun i => lE ((tw (El.T k) g bk).take i)) (lcp_start hD rfl) (fun i H' _ p => p.1.seq (SqL.of hq)) ?_ ?_
    · rintro i w5 H5' H6' hi pp hyv
      obtain ⟨t', hi', rfl, ht', rfl⟩ := enum_of hyv
      refine pair_tgt upd_same ⟨rfl, lcY ?_⟩
      have s6' := pp.1.trans (sm_upd ht' (o := .tup [.int (i : Nat), vE g[i]]))
      refine ⟨_, rfl, _, rfl, _, rfl, _, rfl, _, rfl, wa, k, bk, i, rfl, st16.wor.same s6', fun H7' s7' => ?_⟩
      refine ⟨wa, k, g[i], _, rfl, (st16.wor.same s6').same s7', fun H8' s8' => ?_⟩
      refine lcp_next hD pp (((sm_upd ht').trans s7').trans s8') ?_ (small (by rw [lE_len, List.length_take, tw_len]; omega))
      rw [lE_take (by rw [tw_len]; exact hi')]
      have e : g[i] * Gab.pw (El.T k) i bk = (tw (El.T k) g bk)[i]'(by rw [tw_len]; exact hi') := by
        rw [← co_lt (f := tw (El.T k) g bk) (by rw [tw_len]; exact hi'), tw_co, co_lt hi']
      rw [e]
    intro H17 p17
    have h17 := p17.2
    dsimp only at h17
    rw [lE_len, List.take_of_length_le (by rw [tw_len]; exact Nat.le_refl _)] at h17
    exact fin H17 (.ref D) none p17.1 ⟨D, rfl, h17⟩
theorem moved_b (T : Txt K mg) {H : Hp} {Q : VK} {p t wa pl a f x1 sq : Addr} {v : V} {k : Kd} {pts wd : List (El k)} {m : Nat} {o : Option (List (El k))} {y : El k} {seq : List Nat} (st0 : Std H p t wa pl a v pts m wd o) (hM : Mend (El.T k) pts wd m (rch pts m) o) (hf0 : FieldAt K H f k) (hy : y ≠ 0) (hsq6 : H sq = some (.lst (natV seq))) (hs : seq.Perm (List.range pts.length)) (ret : ∀ H', But p H H' → PotAt H' p → Q (.bl true) H') :
    t_law_moved_right_4 K { nx := fun _ H' => Q .non H', rt := Q } [some (.ref p), some (.ref t), some (.ref a), some v, some (.ref sq), some (vE y), some (.ref wa), some (.ref pl), some (.int (m : Int)), some (.ref f), some (.ref x1), none, none, none, none, none, none, none, none, none] H := by
  have h3 := st0.tol.three
  have hfew := st0.tol.few
  have hind := st0.tol.ind
  have h1m := st0.tol.one
  have hn2 := k.n_le
  have hp2 : 1 < k.p := k.p_two
  have hp3 := k.p_le
  have hq1 := k.q_le
  have hw := st0.len
  have hmle := st0.le
  have hk := st0.hk
  have hsl : seq.length = pts.length := by simpa using hs.length_eq
  refine ⟨_, rfl, sq, _, _, _, rfl, rfl, SqL.of hsq6, atI_nat (j := 0) (by rw [List.getElem?_eq_getElem (by rw [natV_len]; omega), natV_get (by rw [natV_len]; omega)]), _, rfl, sq, _, _, _, rfl, rfl, SqL.of hsq6, atI_nat (j := 1) (by rw [List.getElem?_eq_getElem (by rw [natV_len]; omega), natV_get (by rw [natV_len]; omega)]), _, _, rfl, ?_⟩
  have hnd : seq.Nodup := hs.nodup_iff.mpr List.nodup_range
  have g0 : seq[0]'(by omega) < pts.length := List.mem_range.mp (hs.mem_iff.mp (List.getElem_mem (by omega)))
  have g1 : seq[1]'(by omega) < pts.length := List.mem_range.mp (hs.mem_iff.mp (List.getElem_mem (by omega)))
  have g01 : seq[0]'(by omega) ≠ seq[1]'(by omega) := List.pairwise_iff_getElem.mp hnd 0 1 (by omega) (by omega) (by omega)
  generalize seq[0]'(by omega) = i0 at g0 g01 ⊢
  generalize seq[1]'(by omega) = i1 at g1 g01 ⊢
  have w0 : i0 < wd.length := by omega
  have w1 : i1 < wd.length := by omega
  refine ⟨_, rfl, _, rfl, ?_⟩
  refine wl_prime st0.wor ?_
  refine ⟨_, _, rfl, rfl, p, k.p - 1, ?_, st0.pot, by omega, by omega, fun H7 u b7' p7 hu => ?_⟩
  · have : (k.p : Int) - 1 = ((k.p - 1 : Nat) : Int) := by omega
    rw [← this]; rfl
  have st7 := st0.bp b7' p7
  have b7 := b7'
  have hf7 := hf0.bp st0.pot b7'
  refine ⟨_, _, rfl, rfl, ?_⟩
  have eu : (1 : Int) + (u : Int) = ((1 + u : Nat) : Int) := by omega
  dsimp only
  rw [eu]
  have hc : 1 + u < k.p := by omega
  refine ⟨_, rfl, pl, _, rfl, .inl (SqL.of st7.ptl), fun S hS => ?_⟩
  have sS := sm_upd hS (o := .lst (lE pts))
  refine ⟨_, rfl, a, _, rfl, .inl (SqL.of (sS _ _ st7.wrd)), fun L hL => ⟨_, _, rfl, ?_⟩⟩
  have sL := sm_upd hL (o := .lst (lE wd))
  have sSL := sS.trans sL
  have hS8 : (upd (upd H7 S (.lst (lE pts))) L (.lst (lE wd))) S = some (.lst (lE pts)) := sL _ _ upd_same
  have hL8 : (upd (upd H7 S (.lst (lE pts))) L (.lst (lE wd))) L = some (.lst (lE wd)) := upd_same
  have nL7 := sS.free hL
  have hSL : S ≠ L := fun e => by rw [← e, upd_same] at hL; cases hL
  generalize upd (upd H7 S (.lst (lE pts))) L (.lst (lE wd)) = H8 at sSL hS8 hL8
  clear sL
  have st8 := st7.same sSL
  refine ⟨_, rfl, _, rfl, _, rfl, pl, _, _, _, rfl, rfl, SqL.of st8.ptl, atI_nat (lE_get g0), _, rfl, _, rfl, pl, _, _, _, rfl, rfl, SqL.of st8.ptl, atI_nat (lE_get g1), _, rfl, ?_⟩
  refine ⟨wa, k, pts[i0], pts[i1], 1 + u, hc, rfl, st8.wor, fun H9 s9 => ?_⟩
  have hS9 := s9 _ _ hS8
  refine ⟨_, rfl, _, rfl, S, _, _, i0, rfl, rfl, hS9, ixn rfl (by rw [lE_len]; exact g0), ?_⟩
  rw [lE_set]
  have s10 : Same H7 (upd H9 S (.lst (lE (pts.set i0 (pts[i0] + fE k (1 + u) hc * pts[i1]))))) := sm_set (sSL.trans s9) hS
  have hS10 : (upd H9 S (.lst (lE (pts.set i0 (pts[i0] + fE k (1 + u) hc * pts[i1]))))) S = some (.lst (lE (pts.set i0 (pts[i0] + fE k (1 + u) hc * pts[i1])))) := upd_same
  have hL10 : (upd H9 S (.lst (lE (pts.set i0 (pts[i0] + fE k (1 + u) hc * pts[i1]))))) L = some (.lst (lE wd)) := by rw [upd_ne hSL.symm]; exact s9 _ _ hL8
  generalize upd H9 S (.lst (lE (pts.set i0 (pts[i0] + fE k (1 + u) hc * pts[i1])))) = H10 at s10 hS10 hL10
  have st10 := st7.same s10
  refine ⟨_, rfl, _, rfl, _, rfl, a, _, _, _, rfl, rfl, SqL.of st10.wrd, atI_nat (lE_get w0), _, rfl, _, rfl, a, _, _, _, rfl, rfl, SqL.of st10.wrd, atI_nat (lE_get w1), _, rfl, ?_⟩
  refine ⟨wa, k, wd[i0], wd[i1], 1 + u, hc, rfl, st10.wor, fun H11 s11 => ?_⟩
  refine ⟨_, rfl, _, rfl, L, _, _, i0, rfl, rfl, s11 _ _ hL10, ixn rfl (by rw [lE_len]; exact w0), ?_⟩
  rw [lE_set]
  have s12 : Same H7 (upd H11 L (.lst (lE (wd.set i0 (wd[i0] + fE k (1 + u) hc * wd[i1]))))) := sm_set (s10.trans s11) nL7
  have hL12 : (upd H11 L (.lst (lE (wd.set i0 (wd[i0] + fE k (1 + u) hc * wd[i1]))))) L = some (.lst (lE (wd.set i0 (wd[i0] + fE k (1 + u) hc * wd[i1])))) := upd_same
  have hS12 : (upd H11 L (.lst (lE (wd.set i0 (wd[i0] + fE k (1 + u) hc * wd[i1]))))) S = some (.lst (lE (pts.set i0 (pts[i0] + fE k (1 + u) hc * pts[i1])))) := by rw [upd_ne hSL]; exact s11 _ _ hS10
  generalize upd H11 L (.lst (lE (wd.set i0 (wd[i0] + fE k (1 + u) hc * wd[i1])))) = H12 at s12 hS12 hL12
  have st12 := st7.same s12
  have b12 := b7.trans (sbut s12 p)
  have hf12 := hf7.same s12
  have ep : pts.set i0 (pts[i0] + fE k (1 + u) hc * pts[i1]) = pts.set i0 (co pts i0 + fE k (1 + u) hc * co pts i1) := by rw [co_lt g0, co_lt g1]
  have ew : wd.set i0 (wd[i0] + fE k (1 + u) hc * wd[i1]) = wd.set i0 (co wd i0 + fE k (1 + u) hc * co wd i1) := by rw [co_lt w0, co_lt w1]
  rw [ep] at hS12
  rw [ew] at hL12
  have hsc := fE_sc hc
  generalize fE k (1 + u) hc = c at hS12 hL12 hsc
  refine ⟨_, rfl, _, rfl, _, rfl, ?_⟩
  refine fun x2 d2 n2 nd2 nn2 => ⟨x2, f, S, d2, k, _, m, rfl, upd_same, hf12.same (mkS n2 nd2), mkS n2 nd2 _ _ hS12, h1m, by rw [List.length_set]; omega, by rw [List.length_set]; omega, indep_added g0 g1 g01 hsc hind, fun H13 bb2 hb2 => ⟨rfl, ?_⟩⟩
  have s13 := made n2 nd2 bb2
  have st13 := st12.same s13
  refine ⟨_, rfl, ?_⟩
  refine ⟨x2, L, k, _, m, _, rfl, hb2, s13 _ _ hL12, by rw [List.length_set, List.length_set]; exact hw, fun H14 o14 v14 s14 hM14 hO14 nN14 => ?_⟩
  rw [rch_eq (xs := pts) (by rw [List.length_set])] at hM14
  have eo2 := mend_added g0 g1 g01 hsc hind hw hk hM hM14
  rw [eo2] at hO14
  have st14 := st13.same s14
  have b14 := b12.trans (sbut (s13.trans s14) p)
  have hf14 := (hf12.same s13).same s14
  refine ⟨_, rfl, ?_⟩
  refine ne_off hO14 st14.opt ⟨_, rfl, iteF ?_⟩
  exact moved_c T st14 hM hf14 hy fun H' b q => ret H' (b14.trans b) q
theorem pure_law_moved_right (T : Txt K mg) {vs : List V} {H : Hp} {Q : VK} {E : XK} (h : sp_law_moved_right K vs H Q E) : t_law_moved_right K { nx := fun _ H' => Q .non H', rt := Q } (L2.start N_law_moved_right vs) H := by
  obtain ⟨p, t, wa0, pl0, a, v, sq, k, pts, m, wd, o, seq, y, rfl, st0, hM, hsq, hs, hy, ret⟩ := h
  have h3 := st0.tol.three
  have hfew := st0.tol.few
  have hind := st0.tol.ind
  have h1m := st0.tol.one
  have hn2 := k.n_le
  have hp2 : 1 < k.p := k.p_two
  have hp3 := k.p_le
  have hq1 := k.q_le
  have hw := st0.len
  have hmle := st0.le
  have hk := st0.hk
  have hsl : seq.length = pts.length := by simpa using hs.length_eq
  have hsn : (natV seq).length ≠ 2 := by rw [natV_len]; omega
  refine ⟨_, rfl, ?_⟩
  refine tl_world st0.tol fun wa hwa => ?_
  refine ⟨_, rfl, ?_⟩
  refine tl_points st0.tol fun pl hpl => ?_
  refine ⟨_, rfl, ?_⟩
  refine tl_many st0.tol ?_
  refine ⟨by show 3 ≤ sizeLine; decide, fun z hz => ?_⟩
  refine tri_tgt upd_same ?_
  have st : Std H p t wa pl a v pts m wd o := ⟨st0.pot, st0.tol, hwa, hpl, st0.wrd, st0.len, st0.opt, st0.nep⟩
  clear hwa hpl st0
  have s1 := sm_upd hz (o := .tup [.ref wa, .ref pl, .int (m : Int)])
  have st1 := st.same s1
  have hsq1 := s1 _ _ hsq
  have b1 := sbut s1 p
  generalize upd H z (.tup [.ref wa, .ref pl, .int (m : Int)]) = H1 at st1 hsq1 b1
  refine ⟨_, rfl, ?_⟩
  refine tl_prime st1.tol ?_
  refine ⟨_, rfl, ?_⟩
  refine tl_modulus st1.tol fun ml hml => ?_
  refine fun f df nf ndf nnf => ⟨f, ml, df, k, rfl, upd_same, mkS nf ndf _ _ hml, fun H2 bf hf => ⟨rfl, ?_⟩⟩
  have s2 := made nf ndf bf
  have st2 := st1.same s2
  have hsq2 := s2 _ _ hsq1
  have b2 := b1.trans (sbut s2 p)
  refine ⟨_, rfl, ?_⟩
  refine tlc_list (src := natV seq) (out := lE (along seq pts)) rfl hsq2 (by rw [natV_len]; omega) (by rw [lE_len, along_len, natV_len]) (fun i hi hi' H' N M s q => ⟨rfl, lcY ?_⟩) fun H3 D s3 nD hD => ?_
  · rw [natV_get hi]
    have hi2 : i < seq.length := by rw [natV_len] at hi; exact hi
    have hlt : seq[i] < pts.length := List.mem_range.mp (hs.mem_iff.mp (List.getElem_mem hi2))
    refine ⟨_, rfl, _, rfl, pl, _, _, _, rfl, rfl, SqL.of (s _ _ st2.ptl), atI_nat (lE_get hlt), ?_⟩
    have := q H' (Same.refl _)
    have e : (lE (along seq pts))[i] = vE pts[seq[i]] := by
      rw [lE_get']; simp [along, co_lt hlt]
    rw [e] at this; exact this
  have st3 := st2.same s3
  have hsq3 := s3 _ _ hsq2
  have hf3 := hf.same s3
  have b3 := b2.trans (sbut s3 p)
  refine ⟨_, rfl, ?_⟩
  refine fun x1 d1 n1 nd1 nn1 => ⟨x1, f, D, d1, k, along seq pts, m, rfl, upd_same, hf3.same (mkS n1 nd1), mkS n1 nd1 _ _ hD, h1m, by rw [along_len]; omega, by rw [along_len]; omega, indep_along hs hind, fun H4 bb1 hb1 => ⟨rfl, ?_⟩⟩
  have s4 := made n1 nd1 bb1
  have st4 := st3.same s4
  have hsq4 := s4 _ _ hsq3
  have hf4 := hf3.same s4
  have b4 := b3.trans (sbut s4 p)
  refine ⟨_, rfl, ?_⟩
  refine tlc_list (src := natV seq) (out := lE (along seq wd)) rfl hsq4 (by rw [natV_len]; omega) (by rw [lE_len, along_len, natV_len]) (fun i hi hi' H' N M s q => ⟨rfl, lcY ?_⟩) fun H5 D5 s5 nD5 hD5 => ?_
  · rw [natV_get hi]
    have hi2 : i < seq.length := by rw [natV_len] at hi; exact hi
    have hlt : seq[i] < pts.length := List.mem_range.mp (hs.mem_iff.mp (List.getElem_mem hi2))
    have hlt2 : seq[i] < wd.length := by omega
    refine ⟨_, rfl, _, rfl, a, _, _, _, rfl, rfl, SqL.of (s _ _ st4.wrd), atI_nat (lE_get hlt2), ?_⟩
    have := q H' (Same.refl _)
    have e : (lE (along seq wd))[i] = vE wd[seq[i]] := by
      rw [lE_get']; simp [along, co_lt hlt2]
    rw [e] at this; exact this
  have st5 := st4.same s5
  have b5 := b4.trans (sbut s5 p)
  refine ⟨x1, D5, k, along seq pts, m, along seq wd, rfl, hb1.same s5, hD5, by rw [along_len, along_len], fun H6 o6 v6 s6 hM6 hO6 nN6 => ?_⟩
  have st6 := st5.same s6
  have b6 := b5.trans (sbut s6 p)
  have hsq6 := s6 _ _ (s5 _ _ hsq4)
  have hf6 := (hf4.same s5).same s6
  rw [rch_eq (xs := pts) (ys := along seq pts) (by rw [along_len, hsl])] at hM6
  have eo := mend_along hs hind hw hk hM hM6
  rw [eo] at hO6
  refine ⟨_, rfl, ?_⟩
  refine ne_off hO6 st6.opt ⟨_, rfl, iteF ?_⟩
  exact moved_b T st6 hM hf6 hy hsq6 hs fun H' b q => ret H' (b6.trans b) q
theorem len_law_moved_right {vs : List V} {H : Hp} {Q : VK} {E : XK} (h : sp_law_moved_right K vs H Q E) : vs.length = 6 := by
  obtain ⟨p, t, wa0, pl0, a, v, sq, k, pts, m, wd, o, seq, y, rfl, _⟩ := h; rfl
theorem c_law_moved_right (T : Txt K mg) : C8.Cal P w K mg base 10 "_law_moved_right" (sp_law_moved_right K) [] :=
  cal_of (k := 9) (ps := ["_law_pot_here", "_law_told", "_law_word_here", "_law_found", "_law_sequence", "_law_by"]) T.d_law_moved_right (fun _ _ _ _ _ _ us hl => match us, hl with | [_, _, _, _, _, _], _ => rfl) sc_law_moved_right (fun vs H Q E h => len_law_moved_right h) fun f cdv A outer s H vs Q E hr h => ⟨_, ps_law_moved_right T hr, pure_law_moved_right T h⟩
end
end Tp
namespace Tp
open PySem PySem.Spec PyProof.Rows L2 Gab
theorem erase_perm : ∀ (l : List Nat) (i : Nat) (h : i < l.length), (l[i] :: l.eraseIdx i).Perm l
  | a :: l, 0, _ => List.Perm.refl _
  | a :: l, i + 1, h => ((List.Perm.swap a (l[i]'(by simpa using h)) (l.eraseIdx i))).trans ((erase_perm l i (by simpa using h)).cons a)
section
variable {P : Program} {w : World} {K : PySem.W.Frag} {mg : Str → Option Value} {base : Heap}
def sp_law_led_right (K : PySem.W.Frag) : Sp := fun vs H Q _ => ∃ (p t a : Addr) (k : Kd) (pts : List (El k)) (m : Nat) (wd : List (El k)),
  vs = [.ref p, .ref t, .ref a] ∧ PotAt H p ∧ TolAt H t k pts m ∧ H a = some (.lst (lE wd)) ∧ wd.length = pts.length ∧ ∀ H', But p H H' → PotAt H' p → Q (.bl true) H'
abbrev N_law_led_right : List Str := ["_law_pot_here", "_law_told", "_law_word_here", "_law_world_here", "_law_points", "_law_many", "_law_book_here", "_law_field", "_law_length", "_law_found", "_law_other", "_law_wide", "_law_due", "_law_by", "_law_turned_here", "_law_left", "_law_sequence", "_law_one", "_law_two"]
theorem sc_law_led_right : FnScope N_law_led_right ["_law_pot_here", "_law_told", "_law_word_here"] (defScope s_law_led_right) := ⟨rfl, rfl, rfl, by decide +kernel, rfl, by decide +kernel, by decide +kernel⟩
def t_law_led_right (K : PySem.W.Frag) : TS :=
  (tSeq (tAsg (tTup (tCons (tDGet (tVar 1) (tC (.str "world"))) (tCons (tDGet (tVar 1) (tC (.str "points"))) (tCons (tDGet (tVar 1) (tC (.str "many"))) tNil)))) (gTup K 3 (gCons (gName 3) (gCons (gName 4) (gCons (gName 5) gNil)))))
  (tSeq (tPar3 6 7 8 (tCons (tCall (sp_law_made K) [] E0 (tCons (tVar 1) tNil)) (tCons (tMake (CF K) (sp_Field_init K) [] E0 (tCons (tDGet (tVar 1) (tC (.str "prime"))) (tCons (tDGet (tVar 1) (tC (.str "modulus"))) tNil))) (tCons (tCB (cLen K) (tCons (tDGet (tVar 1) (tC (.str "points"))) tNil)) tNil))))
  (tSeq (tAsg (tCall (sp_mended K) [] E0 (tCons (tVar 6) (tCons (tVar 2) tNil))) (gName 9))
  (tSeq (tAsg (tCall (sp_law_some K) [] E0 (tCons (tVar 0) (tCons (tVar 3) (tCons (tVar 5) tNil)))) (gName 10))
  (tSeq (tAsg (tIf (tTest (tOp oNotN (tVar 9) (tC .non))) (tSl (rSlL K) (tOp rCat (tVar 9) (tOp rRep (tLst (tCons (tC (.int 0)) tNil)) (tVar 5))) tNoPart (tPart (tVar 5))) (tC .non)) (gName 11))
  (tSeq (tAsg (tIf (tTest (tOp oIsN (tVar 9) (tC .non))) (tC .non) (tCall (sp_law_trimmed K) [] E0 (tCons (tLc (iZip K (tCons (tVar 11) (tCons (tVar 10) tNil))) (gTup K 2 (gCons (gName 17) (gCons (gName 18) gNil))) tYes (tCall (sp_law_plus K) [] E0 (tCons (tVar 3) (tCons (tVar 17) (tCons (tVar 18) (tCons (tC (.int 1)) tNil))))) [17, 18]) tNil))) (gName 12))
  (tSeq (tIfS (tTest (tOp (rNeD K) (tCall (sp_mended K) [] E0 (tCons (tVar 6) (tCons (tCall (sp_law_spoilt K) [] E0 (tCons (tVar 3) (tCons (tVar 2) (tCons (tCall (sp_law_word K) [] E0 (tCons (tVar 3) (tCons (tVar 10) (tCons (tVar 4) tNil)))) tNil)))) tNil))) (tVar 12))) (tRet (tC (.bl false))) tNext)
  (tSeq (tAsg (tOp oAdd (tC (.int 1)) (tCall (sp_law_draw K) [] E0 (tCons (tVar 0) (tCons (tOp oSub (tDGet (tVar 3) (tC (.str "size"))) (tC (.int 1))) tNil)))) (gName 13))
  (tSeq (tAsg (tIf (tTest (tOp oIsN (tVar 9) (tC .non))) (tC .non) (tLc (iList K (tVar 9)) (gName 17) tYes (tCall (sp_law_times K) [] E0 (tCons (tVar 3) (tCons (tVar 13) (tCons (tVar 17) tNil)))) [17])) (gName 12))
  (tSeq (tIfS (tTest (tOp (rNeD K) (tCall (sp_mended K) [] E0 (tCons (tVar 6) (tCons (tLc (iList K (tVar 2)) (gName 17) tYes (tCall (sp_law_times K) [] E0 (tCons (tVar 3) (tCons (tVar 13) (tCons (tVar 17) tNil)))) [17]) tNil))) (tVar 12))) (tRet (tC (.bl false))) tNext)
  (tSeq (tAsg (tMake (CB K) (sp_Book_init K) [] E0 (tCons (tVar 7) (tCons (tLc (iList K (tVar 4)) (gName 17) tYes (tCall (sp_law_turned K) [] E0 (tCons (tVar 3) (tCons (tVar 17) (tCons (tC (.int 1)) tNil)))) [17]) (tCons (tVar 5) tNil)))) (gName 14))
  (tSeq (tAsg (tIf (tTest (tOp oIsN (tVar 9) (tC .non))) (tC .non) (tLc (iList K (tVar 9)) (gName 17) tYes (tCall (sp_law_turned K) [] E0 (tCons (tVar 3) (tCons (tVar 17) (tCons (tC (.int 1)) tNil)))) [17])) (gName 12))
  (tSeq (tIfS (tTest (tOp (rNeD K) (tCall (sp_mended K) [] E0 (tCons (tVar 14) (tCons (tLc (iList K (tVar 2)) (gName 17) tYes (tCall (sp_law_turned K) [] E0 (tCons (tVar 3) (tCons (tVar 17) (tCons (tC (.int 1)) tNil)))) [17]) tNil))) (tVar 12))) (tRet (tC (.bl false))) tNext)
  (tSeq (tPar 15 16 (tCons (tLstRg (tRg1 (tVar 8))) (tCons (tLst tNil) tNil)))
  (tSeq (tWhile (tTest (tOp (rNeD K) (tVar 15) (tLst tNil))) (tDrop (tBM K "list" rAppend (tVar 16) (tCons (tBM K "list" rPopAt (tVar 15) (tCons (tCall (sp_law_draw K) [] E0 (tCons (tVar 0) (tCons (tCB (cLen K) (tCons (tVar 15) tNil)) tNil))) tNil)) tNil))))
  (tRet (tCall (sp_law_moved_right K) [] E0 (tCons (tVar 0) (tCons (tVar 1) (tCons (tVar 2) (tCons (tVar 9) (tCons (tVar 16) (tCons (tVar 13) tNil)))))))))))))))))))))))
theorem ps_law_led_right {f : Addr} {cdv : Value} {A : Around} {outer : List Env} {s : Shared} {H : Hp} {E : XK} (T : Txt K mg) (hr : Room 10 (A.deeper (envOfC "_law_led_right" (defScope s_law_led_right) s.heap.objs.size f cdv))) :
    PSs (cxOf CX0 P w K mg base N_law_led_right "_law_led_right" (defScope s_law_led_right) f cdv A outer s H E).nox (defBody s_law_led_right) (t_law_led_right K) := by
  exact (pss_cons (ps_asg (pe_tup (pa_cons (pe_dget (hu_of hr) (pv 1) pe_str (fun _ _ => rfl)) (pa_cons (pe_dget (hu_of hr) (pv 1) pe_str (fun _ _ => rfl)) (pa_cons (pe_dget (hu_of hr) (pv 1) pe_str (fun _ _ => rfl)) pa_nil)))) (pg_tup (by rfl) (pgs_cons (pg_name (i := 3) sc_law_led_right.nd rfl (Or.inr rfl)) (pgs_cons (pg_name (i := 4) sc_law_led_right.nd rfl (Or.inl rfl)) (pgs_cons (pg_name (i := 5) sc_law_led_right.nd rfl (Or.inl rfl)) pgs_nil)))))
  (pss_cons (ps_par3 (i := 6) (j := 7) (l := 8) (by rfl) sc_law_led_right.nd rfl rfl rfl (by decide) (by decide) (by decide) rfl rfl rfl (pa_cons (C8.pe_c (c_law_made T) hr (by decide) (by rfl) (pa_cons (pv 1) pa_nil)) (pa_cons (C8.pe_mk (c_Field T) hr (by decide) (by rfl) (pa_cons (pe_dget (hu_of hr) (pv 1) pe_str (fun _ _ => rfl)) (pa_cons (pe_dget (hu_of hr) (pv 1) pe_str (fun _ _ => rfl)) pa_nil))) (pa_cons (pe_callB call_len_seq (by rfl) T.b_len PySem.boot_len (pa_cons (pe_dget (hu_of hr) (pv 1) pe_str (fun _ _ => rfl)) pa_nil)) pa_nil))) (by rfl))
  (pss_cons (ps_set (i := 9) sc_law_led_right.nd rfl (Or.inl rfl) (C8.pe_c (c_mended T) hr (by decide) (by rfl) (pa_cons (pv 6) (pa_cons (pv 2) pa_nil))))
  (pss_cons (ps_set (i := 10) sc_law_led_right.nd rfl (Or.inl rfl) (C8.pe_c (c_law_some T) hr (by decide) (by rfl) (pa_cons (pv 0) (pa_cons (pv 3) (pa_cons (pv 5) pa_nil)))))
  (pss_cons (ps_set (i := 11) sc_law_led_right.nd rfl (Or.inl rfl) (pe_ifExp (pt_cmpR op_notN (pv 9) pe_non (nomark _)) (pe_slice sl_list (pe_op op_cat (pv 9) (pe_op op_rep (pe_lst (pa_cons pe_int pa_nil)) (pv 5))) po_none (po_some (pv 5))) pe_non))
  (pss_cons (ps_set (i := 12) sc_law_led_right.nd rfl (Or.inl rfl) (pe_ifExp (pt_cmpR op_isN (pv 9) pe_non (nomark _)) pe_non (C8.pe_c (c_law_trimmed T) hr (by decide) (by rfl) (pa_cons (pe_lc (own := [("_law_one", 17), ("_law_two", 18)]) (g := (gTup K 2 (gCons (gName 17) (gCons (gName 18) gNil)))) (tt := tYes) (te := (tCall (sp_law_plus K) [] E0 (tCons (tVar 3) (tCons (tVar 17) (tCons (tVar 18) (tCons (tC (.int 1)) tNil)))))) (by rfl) sc_law_led_right.nd (pi_zip (by rfl) T.b_zip (pa_cons (pv 11) (pa_cons (pv 10) pa_nil))) (blkOk_by (own := [("_law_one", 17), ("_law_two", 18)]) (N := N_law_led_right) (sc := defScope s_law_led_right) (by decide +kernel)) (fun _ _ _ _ _ => (pg_tup (by rfl) (pgs_cons (pg_name (i := 17) sc_law_led_right.nd rfl (Or.inl rfl)) (pgs_cons (pg_name (i := 18) sc_law_led_right.nd rfl (Or.inl rfl)) pgs_nil)))) (fun _ _ _ _ _ => pts_nil) (fun _ _ _ _ _ => (C8.pe_c (c_law_plus T) hr (by decide) (by rfl) (pa_cons (pv 3) (pa_cons (pv 17) (pa_cons (pv 18) (pa_cons pe_int pa_nil))))))) pa_nil))))
  (pss_cons (ps_if (pt_cmpR (op_neD hr.units) (C8.pe_c (c_mended T) hr (by decide) (by rfl) (pa_cons (pv 6) (pa_cons (C8.pe_c (c_law_spoilt T) hr (by decide) (by rfl) (pa_cons (pv 3) (pa_cons (pv 2) (pa_cons (C8.pe_c (c_law_word T) hr (by decide) (by rfl) (pa_cons (pv 3) (pa_cons (pv 10) (pa_cons (pv 4) pa_nil)))) pa_nil)))) pa_nil))) (pv 12) (nomark _)) (pss_one (ps_ret pe_bl)) pss_nil)
  (pss_cons (ps_set (i := 13) sc_law_led_right.nd rfl (Or.inr rfl) (pe_op op_add pe_int (C8.pe_c (c_law_draw T) hr (by decide) (by rfl) (pa_cons (pv 0) (pa_cons (pe_op op_sub (pe_dget (hu_of hr) (pv 3) pe_str (fun _ _ => rfl)) pe_int) pa_nil)))))
  (pss_cons (ps_set (i := 12) sc_law_led_right.nd rfl (Or.inl rfl) (pe_ifExp (pt_cmpR op_isN (pv 9) pe_non (nomark _)) pe_non (pe_lc (own := [("_law_one", 17)]) (g := (gName 17)) (tt := tYes) (te := (tCall (sp_law_times K) [] E0 (tCons (tVar 3) (tCons (tVar 13) (tCons (tVar 17) tNil))))) (by rfl) sc_law_led_right.nd (pi_list (pv 9)) (blkOk_by (own := [("_law_one", 17)]) (N := N_law_led_right) (sc := defScope s_law_led_right) (by decide +kernel)) (fun _ _ _ _ _ => (pg_name (i := 17) sc_law_led_right.nd rfl (Or.inl rfl))) (fun _ _ _ _ _ => pts_nil) (fun _ _ _ _ _ => (C8.pe_c (c_law_times T) hr (by decide) (by rfl) (pa_cons (pv 3) (pa_cons (pv 13) (pa_cons (pv 17) pa_nil))))))))
  (pss_cons (ps_if (pt_cmpR (op_neD hr.units) (C8.pe_c (c_mended T) hr (by decide) (by rfl) (pa_cons (pv 6) (pa_cons (pe_lc (own := [("_law_one", 17)]) (g := (gName 17)) (tt := tYes) (te := (tCall (sp_law_times K) [] E0 (tCons (tVar 3) (tCons (tVar 13) (tCons (tVar 17) tNil))))) (by rfl) sc_law_led_right.nd (pi_list (pv 2)) (blkOk_by (own := [("_law_one", 17)]) (N := N_law_led_right) (sc := defScope s_law_led_right) (by decide +kernel)) (fun _ _ _ _ _ => (pg_name (i := 17) sc_law_led_right.nd rfl (Or.inl rfl))) (fun _ _ _ _ _ => pts_nil) (fun _ _ _ _ _ => (C8.pe_c (c_law_times T) hr (by decide) (by rfl) (pa_cons (pv 3) (pa_cons (pv 13) (pa_cons (pv 17) pa_nil)))))) pa_nil))) (pv 12) (nomark _)) (pss_one (ps_ret pe_bl)) pss_nil)
  (pss_cons (ps_set (i := 14) sc_law_led_right.nd rfl (Or.inl rfl) (C8.pe_mk (c_Book T) hr (by decide) (by rfl) (pa_cons (pv 7) (pa_cons (pe_lc (own := [("_law_one", 17)]) (g := (gName 17)) (tt := tYes) (te := (tCall (sp_law_turned K) [] E0 (tCons (tVar 3) (tCons (tVar 17) (tCons (tC (.int 1)) tNil))))) (by rfl) sc_law_led_right.nd (pi_list (pv 4)) (blkOk_by (own := [("_law_one", 17)]) (N := N_law_led_right) (sc := defScope s_law_led_right) (by decide +kernel)) (fun _ _ _ _ _ => (pg_name (i := 17) sc_law_led_right.nd rfl (Or.inl rfl))) (fun _ _ _ _ _ => pts_nil) (fun _ _ _ _ _ => (C8.pe_c (c_law_turned T) hr (by decide) (by rfl) (pa_cons (pv 3) (pa_cons (pv 17) (pa_cons pe_int pa_nil)))))) (pa_cons (pv 5) pa_nil)))))
  (pss_cons (ps_set (i := 12) sc_law_led_right.nd rfl (Or.inl rfl) (pe_ifExp (pt_cmpR op_isN (pv 9) pe_non (nomark _)) pe_non (pe_lc (own := [("_law_one", 17)]) (g := (gName 17)) (tt := tYes) (te := (tCall (sp_law_turned K) [] E0 (tCons (tVar 3) (tCons (tVar 17) (tCons (tC (.int 1)) tNil))))) (by rfl) sc_law_led_right.nd (pi_list (pv 9)) (blkOk_by (own := [("_law_one", 17)]) (N := N_law_led_right) (sc := defScope s_law_led_right) (by decide +kernel)) (fun _ _ _ _ _ => (pg_name (i := 17) sc_law_led_right.nd rfl (Or.inl rfl))) (fun _ _ _ _ _ => pts_nil) (fun _ _ _ _ _ => (C8.pe_c (c_law_turned T) hr (by decide) (by rfl) (pa_cons (pv 3) (pa_cons (pv 17) (pa_cons pe_int pa_nil))))))))
  (pss_cons (ps_if (pt_cmpR (op_neD hr.units) (C8.pe_c (c_mended T) hr (by decide) (by rfl) (pa_cons (pv 14) (pa_cons (pe_lc (own := [("_law_one", 17)]) (g := (gName 17)) (tt := tYes) (te := (tCall (sp_law_turned K) [] E0 (tCons (tVar 3) (tCons (tVar 17) (tCons (tC (.int 1)) tNil))))) (by rfl) sc_law_led_right.nd (pi_list (pv 2)) (blkOk_by (own := [("_law_one", 17)]) (N := N_law_led_right) (sc := defScope s_law_led_right) (by decide +kernel)) (fun _ _ _ _ _ => (pg_name (i := 17) sc_law_led_right.nd rfl (Or.inl rfl))) (fun _ _ _ _ _ => pts_nil) (fun _ _ _ _ _ => (C8.pe_c (c_law_turned T) hr (by decide) (by rfl) (pa_cons (pv 3) (pa_cons (pv 17) (pa_cons pe_int pa_nil)))))) pa_nil))) (pv 12) (nomark _)) (pss_one (ps_ret pe_bl)) pss_nil)
  (pss_cons (ps_par (i := 15) (j := 16) (by rfl) sc_law_led_right.nd rfl rfl (by decide) rfl rfl (pa_cons (pe_listRg rfl (by rfl) T.b_list (prg_1 (by rfl) T.b_range (pv 8))) (pa_cons (pe_lst pa_nil) pa_nil)) (by rfl))
  (pss_cons (ps_while PassesOwn.never (pt_cmpR (op_neD hr.units) (pv 15) (pe_lst pa_nil) (nomark _)) (pss_one (ps_expr (pe_bm PySem.F.plainAttrs_list PySem.F.slot_list_append PySem.F.type_list_append mt_append (pv 16) (pa_cons (pe_bm PySem.F.plainAttrs_list PySem.F.slot_list_pop PySem.F.type_list_pop mt_popAt (pv 15) (pa_cons (C8.pe_c (c_law_draw T) hr (by decide) (by rfl) (pa_cons (pv 0) (pa_cons (pe_callB call_len_seq (by rfl) T.b_len PySem.boot_len (pa_cons (pv 15) pa_nil)) pa_nil))) pa_nil)) pa_nil)))))
  (pss_one (ps_ret (C8.pe_c (c_law_moved_right T) hr (by decide) (by rfl) (pa_cons (pv 0) (pa_cons (pv 1) (pa_cons (pv 2) (pa_cons (pv 9) (pa_cons (pv 16) (pa_cons (pv 13) pa_nil))))))))))))))))))))))))
def t_law_led_right_13 (K : PySem.W.Frag) : TS :=
  (tSeq (tPar 15 16 (tCons (tLstRg (tRg1 (tVar 8))) (tCons (tLst tNil) tNil)))
  (tSeq (tWhile (tTest (tOp (rNeD K) (tVar 15) (tLst tNil))) (tDrop (tBM K "list" rAppend (tVar 16) (tCons (tBM K "list" rPopAt (tVar 15) (tCons (tCall (sp_law_draw K) [] E0 (tCons (tVar 0) (tCons (tCB (cLen K) (tCons (tVar 15) tNil)) tNil))) tNil)) tNil))))
  (tRet (tCall (sp_law_moved_right K) [] E0 (tCons (tVar 0) (tCons (tVar 1) (tCons (tVar 2) (tCons (tVar 9) (tCons (tVar 16) (tCons (tVar 13) tNil))))))))))
def t_law_led_right_12 (K : PySem.W.Frag) : TS :=
  (tSeq (tIfS (tTest (tOp (rNeD K) (tCall (sp_mended K) [] E0 (tCons (tVar 14) (tCons (tLc (iList K (tVar 2)) (gName 17) tYes (tCall (sp_law_turned K) [] E0 (tCons (tVar 3) (tCons (tVar 17) (tCons (tC (.int 1)) tNil)))) [17]) tNil))) (tVar 12))) (tRet (tC (.bl false))) tNext)
  (tSeq (tPar 15 16 (tCons (tLstRg (tRg1 (tVar 8))) (tCons (tLst tNil) tNil)))
  (tSeq (tWhile (tTest (tOp (rNeD K) (tVar 15) (tLst tNil))) (tDrop (tBM K "list" rAppend (tVar 16) (tCons (tBM K "list" rPopAt (tVar 15) (tCons (tCall (sp_law_draw K) [] E0 (tCons (tVar 0) (tCons (tCB (cLen K) (tCons (tVar 15) tNil)) tNil))) tNil)) tNil))))
  (tRet (tCall (sp_law_moved_right K) [] E0 (tCons (tVar 0) (tCons (tVar 1) (tCons (tVar 2) (tCons (tVar 9) (tCons (tVar 16) (tCons (tVar 13) tNil)))))))))))
def t_law_led_right_10 (K : PySem.W.Frag) : TS :=
  (tSeq (tAsg (tMake (CB K) (sp_Book_init K) [] E0 (tCons (tVar 7) (tCons (tLc (iList K (tVar 4)) (gName 17) tYes (tCall (sp_law_turned K) [] E0 (tCons (tVar 3) (tCons (tVar 17) (tCons (tC (.int 1)) tNil)))) [17]) (tCons (tVar 5) tNil)))) (gName 14))
  (tSeq (tAsg (tIf (tTest (tOp oIsN (tVar 9) (tC .non))) (tC .non) (tLc (iList K (tVar 9)) (gName 17) tYes (tCall (sp_law_turned K) [] E0 (tCons (tVar 3) (tCons (tVar 17) (tCons (tC (.int 1)) tNil)))) [17])) (gName 12))
  (tSeq (tIfS (tTest (tOp (rNeD K) (tCall (sp_mended K) [] E0 (tCons (tVar 14) (tCons (tLc (iList K (tVar 2)) (gName 17) tYes (tCall (sp_law_turned K) [] E0 (tCons (tVar 3) (tCons (tVar 17) (tCons (tC (.int 1)) tNil)))) [17]) tNil))) (tVar 12))) (tRet (tC (.bl false))) tNext)
  (tSeq (tPar 15 16 (tCons (tLstRg (tRg1 (tVar 8))) (tCons (tLst tNil) tNil)))
  (tSeq (tWhile (tTest (tOp (rNeD K) (tVar 15) (tLst tNil))) (tDrop (tBM K "list" rAppend (tVar 16) (tCons (tBM K "list" rPopAt (tVar 15) (tCons (tCall (sp_law_draw K) [] E0 (tCons (tVar 0) (tCons (tCB (cLen K) (tCons (tVar 15) tNil)) tNil))) tNil)) tNil))))
  (tRet (tCall (sp_law_moved_right K) [] E0 (tCons (tVar 0) (tCons (tVar 1) (tCons (tVar 2) (tCons (tVar 9) (tCons (tVar 16) (tCons (tVar 13) tNil)))))))))))))
def t_law_led_right_9 (K : PySem.W.Frag) : TS :=
  (tSeq (tIfS (tTest (tOp (rNeD K) (tCall (sp_mended K) [] E0 (tCons (tVar 6) (tCons (tLc (iList K (tVar 2)) (gName 17) tYes (tCall (sp_law_times K) [] E0 (tCons (tVar 3) (tCons (tVar 13) (tCons (tVar 17) tNil)))) [17]) tNil))) (tVar 12))) (tRet (tC (.bl false))) tNext)
  (tSeq (tAsg (tMake (CB K) (sp_Book_init K) [] E0 (tCons (tVar 7) (tCons (tLc (iList K (tVar 4)) (gName 17) tYes (tCall (sp_law_turned K) [] E0 (tCons (tVar 3) (tCons (tVar 17) (tCons (tC (.int 1)) tNil)))) [17]) (tCons (tVar 5) tNil)))) (gName 14))
  (tSeq (tAsg (tIf (tTest (tOp oIsN (tVar 9) (tC .non))) (tC .non) (tLc (iList K (tVar 9)) (gName 17) tYes (tCall (sp_law_turned K) [] E0 (tCons (tVar 3) (tCons (tVar 17) (tCons (tC (.int 1)) tNil)))) [17])) (gName 12))
  (tSeq (tIfS (tTest (tOp (rNeD K) (tCall (sp_mended K) [] E0 (tCons (tVar 14) (tCons (tLc (iList K (tVar 2)) (gName 17) tYes (tCall (sp_law_turned K) [] E0 (tCons (tVar 3) (tCons (tVar 17) (tCons (tC (.int 1)) tNil)))) [17]) tNil))) (tVar 12))) (tRet (tC (.bl false))) tNext)
  (tSeq (tPar 15 16 (tCons (tLstRg (tRg1 (tVar 8))) (tCons (tLst tNil) tNil)))
  (tSeq (tWhile (tTest (tOp (rNeD K) (tVar 15) (tLst tNil))) (tDrop (tBM K "list" rAppend (tVar 16) (tCons (tBM K "list" rPopAt (tVar 15) (tCons (tCall (sp_law_draw K) [] E0 (tCons (tVar 0) (tCons (tCB (cLen K) (tCons (tVar 15) tNil)) tNil))) tNil)) tNil))))
  (tRet (tCall (sp_law_moved_right K) [] E0 (tCons (tVar 0) (tCons (tVar 1) (tCons (tVar 2) (tCons (tVar 9) (tCons (tVar 16) (tCons (tVar 13) tNil))))))))))))))
def t_law_led_right_7 (K : PySem.W.Frag) : TS :=
  (tSeq (tAsg (tOp oAdd (tC (.int 1)) (tCall (sp_law_draw K) [] E0 (tCons (tVar 0) (tCons (tOp oSub (tDGet (tVar 3) (tC (.str "size"))) (tC (.int 1))) tNil)))) (gName 13))
  (tSeq (tAsg (tIf (tTest (tOp oIsN (tVar 9) (tC .non))) (tC .non) (tLc (iList K (tVar 9)) (gName 17) tYes (tCall (sp_law_times K) [] E0 (tCons (tVar 3) (tCons (tVar 13) (tCons (tVar 17) tNil)))) [17])) (gName 12))
  (tSeq (tIfS (tTest (tOp (rNeD K) (tCall (sp_mended K) [] E0 (tCons (tVar 6) (tCons (tLc (iList K (tVar 2)) (gName 17) tYes (tCall (sp_law_times K) [] E0 (tCons (tVar 3) (tCons (tVar 13) (tCons (tVar 17) tNil)))) [17]) tNil))) (tVar 12))) (tRet (tC (.bl false))) tNext)
  (tSeq (tAsg (tMake (CB K) (sp_Book_init K) [] E0 (tCons (tVar 7) (tCons (tLc (iList K (tVar 4)) (gName 17) tYes (tCall (sp_law_turned K) [] E0 (tCons (tVar 3) (tCons (tVar 17) (tCons (tC (.int 1)) tNil)))) [17]) (tCons (tVar 5) tNil)))) (gName 14))
  (tSeq (tAsg (tIf (tTest (tOp oIsN (tVar 9) (tC .non))) (tC .non) (tLc (iList K (tVar 9)) (gName 17) tYes (tCall (sp_law_turned K) [] E0 (tCons (tVar 3) (tCons (tVar 17) (tCons (tC (.int 1)) tNil)))) [17])) (gName 12))
  (tSeq (tIfS (tTest (tOp (rNeD K) (tCall (sp_mended K) [] E0 (tCons (tVar 14) (tCons (tLc (iList K (tVar 2)) (gName 17) tYes (tCall (sp_law_turned K) [] E0 (tCons (tVar 3) (tCons (tVar 17) (tCons (tC (.int 1)) tNil)))) [17]) tNil))) (tVar 12))) (tRet (tC (.bl false))) tNext)
  (tSeq (tPar 15 16 (tCons (tLstRg (tRg1 (tVar 8))) (tCons (tLst tNil) tNil)))
  (tSeq (tWhile (tTest (tOp (rNeD K) (tVar 15) (tLst tNil))) (tDrop (tBM K "list" rAppend (tVar 16) (tCons (tBM K "list" rPopAt (tVar 15) (tCons (tCall (sp_law_draw K) [] E0 (tCons (tVar 0) (tCons (tCB (cLen K) (tCons (tVar 15) tNil)) tNil))) tNil)) tNil))))
  (tRet (tCall (sp_law_moved_right K) [] E0 (tCons (tVar 0) (tCons (tVar 1) (tCons (tVar 2) (tCons (tVar 9) (tCons (tVar 16) (tCons (tVar 13) tNil))))))))))))))))
def t_law_led_right_6 (K : PySem.W.Frag) : TS :=
  (tSeq (tIfS (tTest (tOp (rNeD K) (tCall (sp_mended K) [] E0 (tCons (tVar 6) (tCons (tCall (sp_law_spoilt K) [] E0 (tCons (tVar 3) (tCons (tVar 2) (tCons (tCall (sp_law_word K) [] E0 (tCons (tVar 3) (tCons (tVar 10) (tCons (tVar 4) tNil)))) tNil)))) tNil))) (tVar 12))) (tRet (tC (.bl false))) tNext)
  (tSeq (tAsg (tOp oAdd (tC (.int 1)) (tCall (sp_law_draw K) [] E0 (tCons (tVar 0) (tCons (tOp oSub (tDGet (tVar 3) (tC (.str "size"))) (tC (.int 1))) tNil)))) (gName 13))
  (tSeq (tAsg (tIf (tTest (tOp oIsN (tVar 9) (tC .non))) (tC .non) (tLc (iList K (tVar 9)) (gName 17) tYes (tCall (sp_law_times K) [] E0 (tCons (tVar 3) (tCons (tVar 13) (tCons (tVar 17) tNil)))) [17])) (gName 12))
  (tSeq (tIfS (tTest (tOp (rNeD K) (tCall (sp_mended K) [] E0 (tCons (tVar 6) (tCons (tLc (iList K (tVar 2)) (gName 17) tYes (tCall (sp_law_times K) [] E0 (tCons (tVar 3) (tCons (tVar 13) (tCons (tVar 17) tNil)))) [17]) tNil))) (tVar 12))) (tRet (tC (.bl false))) tNext)
  (tSeq (tAsg (tMake (CB K) (sp_Book_init K) [] E0 (tCons (tVar 7) (tCons (tLc (iList K (tVar 4)) (gName 17) tYes (tCall (sp_law_turned K) [] E0 (tCons (tVar 3) (tCons (tVar 17) (tCons (tC (.int 1)) tNil)))) [17]) (tCons (tVar 5) tNil)))) (gName 14))
  (tSeq (tAsg (tIf (tTest (tOp oIsN (tVar 9) (tC .non))) (tC .non) (tLc (iList K (tVar 9)) (gName 17) tYes (tCall (sp_law_turned K) [] E0 (tCons (tVar 3) (tCons (tVar 17) (tCons (tC (.int 1)) tNil)))) [17])) (gName 12))
  (tSeq (tIfS (tTest (tOp (rNeD K) (tCall (sp_mended K) [] E0 (tCons (tVar 14) (tCons (tLc (iList K (tVar 2)) (gName 17) tYes (tCall (sp_law_turned K) [] E0 (tCons (tVar 3) (tCons (tVar 17) (tCons (tC (.int 1)) tNil)))) [17]) tNil))) (tVar 12))) (tRet (tC (.bl false))) tNext)
  (tSeq (tPar 15 16 (tCons (tLstRg (tRg1 (tVar 8))) (tCons (tLst tNil) tNil)))
  (tSeq (tWhile (tTest (tOp (rNeD K) (tVar 15) (tLst tNil))) (tDrop (tBM K "list" rAppend (tVar 16) (tCons (tBM K "list" rPopAt (tVar 15) (tCons (tCall (sp_law_draw K) [] E0 (tCons (tVar 0) (tCons (tCB (cLen K) (tCons (tVar 15) tNil)) tNil))) tNil)) tNil))))
  (tRet (tCall (sp_law_moved_right K) [] E0 (tCons (tVar 0) (tCons (tVar 1) (tCons (tVar 2) (tCons (tVar 9) (tCons (tVar 16) (tCons (tVar 13) tNil)))))))))))))))))
def t_law_led_right_4 (K : PySem.W.Frag) : TS :=
  (tSeq (tAsg (tIf (tTest (tOp oNotN (tVar 9) (tC .non))) (tSl (rSlL K) (tOp rCat (tVar 9) (tOp rRep (tLst (tCons (tC (.int 0)) tNil)) (tVar 5))) tNoPart (tPart (tVar 5))) (tC .non)) (gName 11))
  (tSeq (tAsg (tIf (tTest (tOp oIsN (tVar 9) (tC .non))) (tC .non) (tCall (sp_law_trimmed K) [] E0 (tCons (tLc (iZip K (tCons (tVar 11) (tCons (tVar 10) tNil))) (gTup K 2 (gCons (gName 17) (gCons (gName 18) gNil))) tYes (tCall (sp_law_plus K) [] E0 (tCons (tVar 3) (tCons (tVar 17) (tCons (tVar 18) (tCons (tC (.int 1)) tNil))))) [17, 18]) tNil))) (gName 12))
  (tSeq (tIfS (tTest (tOp (rNeD K) (tCall (sp_mended K) [] E0 (tCons (tVar 6) (tCons (tCall (sp_law_spoilt K) [] E0 (tCons (tVar 3) (tCons (tVar 2) (tCons (tCall (sp_law_word K) [] E0 (tCons (tVar 3) (tCons (tVar 10) (tCons (tVar 4) tNil)))) tNil)))) tNil))) (tVar 12))) (tRet (tC (.bl false))) tNext)
  (tSeq (tAsg (tOp oAdd (tC (.int 1)) (tCall (sp_law_draw K) [] E0 (tCons (tVar 0) (tCons (tOp oSub (tDGet (tVar 3) (tC (.str "size"))) (tC (.int 1))) tNil)))) (gName 13))
  (tSeq (tAsg (tIf (tTest (tOp oIsN (tVar 9) (tC .non))) (tC .non) (tLc (iList K (tVar 9)) (gName 17) tYes (tCall (sp_law_times K) [] E0 (tCons (tVar 3) (tCons (tVar 13) (tCons (tVar 17) tNil)))) [17])) (gName 12))
  (tSeq (tIfS (tTest (tOp (rNeD K) (tCall (sp_mended K) [] E0 (tCons (tVar 6) (tCons (tLc (iList K (tVar 2)) (gName 17) tYes (tCall (sp_law_times K) [] E0 (tCons (tVar 3) (tCons (tVar 13) (tCons (tVar 17) tNil)))) [17]) tNil))) (tVar 12))) (tRet (tC (.bl false))) tNext)
  (tSeq (tAsg (tMake (CB K) (sp_Book_init K) [] E0 (tCons (tVar 7) (tCons (tLc (iList K (tVar 4)) (gName 17) tYes (tCall (sp_law_turned K) [] E0 (tCons (tVar 3) (tCons (tVar 17) (tCons (tC (.int 1)) tNil)))) [17]) (tCons (tVar 5) tNil)))) (gName 14))
  (tSeq (tAsg (tIf (tTest (tOp oIsN (tVar 9) (tC .non))) (tC .non) (tLc (iList K (tVar 9)) (gName 17) tYes (tCall (sp_law_turned K) [] E0 (tCons (tVar 3) (tCons (tVar 17) (tCons (tC (.int 1)) tNil)))) [17])) (gName 12))
  (tSeq (tIfS (tTest (tOp (rNeD K) (tCall (sp_mended K) [] E0 (tCons (tVar 14) (tCons (tLc (iList K (tVar 2)) (gName 17) tYes (tCall (sp_law_turned K) [] E0 (tCons (tVar 3) (tCons (tVar 17) (tCons (tC (.int 1)) tNil)))) [17]) tNil))) (tVar 12))) (tRet (tC (.bl false))) tNext)
  (tSeq (tPar 15 16 (tCons (tLstRg (tRg1 (tVar 8))) (tCons (tLst tNil) tNil)))
  (tSeq (tWhile (tTest (tOp (rNeD K) (tVar 15) (tLst tNil))) (tDrop (tBM K "list" rAppend (tVar 16) (tCons (tBM K "list" rPopAt (tVar 15) (tCons (tCall (sp_law_draw K) [] E0 (tCons (tVar 0) (tCons (tCB (cLen K) (tCons (tVar 15) tNil)) tNil))) tNil)) tNil))))
  (tRet (tCall (sp_law_moved_right K) [] E0 (tCons (tVar 0) (tCons (tVar 1) (tCons (tVar 2) (tCons (tVar 9) (tCons (tVar 16) (tCons (tVar 13) tNil)))))))))))))))))))

theorem led_13 (T : Txt K mg) {H : Hp} {Q : VK} {p t wa pl a b f : Addr} {v : V} {k : Kd} {pts wd : List (El k)} {m : Nat} {o : Option (List (El k))} {w10 w11 w12 w14 : Option V} {y : El k} (st0 : Std H p t wa pl a v pts m wd o) (hM : Mend (El.T k) pts wd m (rch pts m) o) (hb0 : BookAt K H b k pts m) (hf0 : FieldAt K H f k) (hy : y ≠ 0) (ret : ∀ H', But p H H' → PotAt H' p → Q (.bl true) H') :
    t_law_led_right_13 K { nx := fun _ H' => Q .non H', rt := Q } [some (.ref p), some (.ref t), some (.ref a), some (.ref wa), some (.ref pl), some (.int (m : Int)), some (.ref b), some (.ref f), some (.int (pts.length : Int)), some v, w10, w11, w12, some (vE y), w14, none, none, none, none] H := by
  unfold t_law_led_right_13
  have h3 := st0.tol.three
  have hfew := st0.tol.few
  have hind := st0.tol.ind
  have h1m := st0.tol.one
  have h2m := st0.tol.two
  have hn2 := k.n_le
  have hp2 : 1 < k.p := k.p_two
  have hq1 := k.q_le
  have hq2 := k.q_ge
  have hw := st0.len
  have hmle := st0.le
  have hk := st0.hk
  refine ⟨_, rfl, _, rfl, RgOk.of_le (by omega) (by omega) (by omega) (by omega), fun L hL => ⟨Nat.zero_le _, fun S hS => ⟨_, _, rfl, ?_⟩⟩⟩
  have erg : rgV 0 (pts.length : Int) = natV (List.range pts.length) := by
    unfold rgV natV
    rw [show ((pts.length : Int) - 0).toNat = pts.length by omega]
    refine List.map_congr_left fun i _ => ?_
    rw [Int.zero_add]
  rw [erg] at hS ⊢
  have sL := sm_upd hL (o := .lst (natV (List.range pts.length)))
  have sS := sm_upd hS (o := .lst [])
  have nS := sL.free hS
  have hLp := st0.pot.new hL
  have hSp := st0.pot.new nS
  have hLS : L ≠ S := fun e => by rw [← e, upd_same] at hS; cases hS
  refine ⟨fun c σ H' => ∃ lf sqn : List Nat, σ = [some (.ref p), some (.ref t), some (.ref a), some (.ref wa), some (.ref pl), some (.int (m : Int)), some (.ref b), some (.ref f), some (.int (pts.length : Int)), some v, w10, w11, w12, some (vE y), w14, some (.ref L), some (.ref S), none, none] ∧ But p H H' ∧ PotAt H' p ∧ H' L = some (.lst (natV lf)) ∧ H' S = some (.lst (natV sqn)) ∧ (sqn ++ lf).Perm (List.range pts.length) ∧ c = lf.length,
    ⟨_, List.range pts.length, [], rfl, sbut (sL.trans sS) p, st0.pot.same (sL.trans sS), sS _ _ upd_same, upd_same, List.Perm.refl _, rfl⟩, ?_⟩
  rintro c σ H' ⟨lf, sqn, rfl, bt, pt, hL', hS', hpm, rfl⟩
  have hlen : sqn.length + lf.length = pts.length := by simpa using hpm.length_eq
  refine ⟨_, rfl, Nat.zero_le _, fun e he => ?_⟩
  have s2 := sm_upd he (o := .lst [])
  have hL2 := s2 _ _ hL'
  have hS2 := s2 _ _ hS'
  have pt2 := pt.same s2
  have bt2 := bt.trans (sbut s2 p)
  have hLi : (upd H' e (.lst [])) L = some (.lst ((lf.map fun x : Nat => (x : Int)).map vI)) := by rw [hL2]; unfold natV; rw [List.map_map]; rfl
  refine ⟨_, _, dp_dI hLi, dp_nil upd_same, dI_shaped _, nil_shaped, _, rfl, ?_⟩
  generalize upd H' e (.lst []) = H2 at s2 hL2 hS2 pt2 bt2 hLi
  cases lf with
  | nil =>
    refine iteF ?_
    rw [List.append_nil] at hpm
    refine ⟨_, rfl, _, rfl, _, rfl, _, rfl, _, rfl, _, rfl, p, t, wa, pl, a, v, S, k, pts, m, wd, o, sqn, y, rfl, st0.bp bt2 pt2, hM, hS2, hpm, hy, fun H3 b3 p3 => ret H3 (bt2.trans b3) p3⟩
  | cons l0 lr =>
    refine iteT ⟨_, fun σ' H' h => h, ?_⟩
    refine ⟨_, rfl, .inl ⟨rfl, _, SqL.of hS2⟩, _, rfl, .inl ⟨rfl, _, SqL.of hL2⟩, _, rfl, _, rfl, L, _, rfl, .inl (SqL.of hL2), ?_⟩
    have hnl : (natV (l0 :: lr)).length = (l0 :: lr).length := natV_len _
    refine ⟨p, (l0 :: lr).length, by rw [hnl]; rfl, pt2, by simp, by omega, fun H3 u b3 p3 hu => ?_⟩
    have hL3 := b3 _ _ hLp hL2
    have hS3 := b3 _ _ hSp hS2
    refine ⟨L, _, (u : Int), u, vI ((l0 :: lr)[u] : Nat), rfl, rfl, hL3, by omega, by omega, ?_, ?_, ?_⟩
    · unfold seqIndex?
      rw [hnl]
      simp only [List.length_cons] at hu hlen ⊢
      split
      · rename_i hneg; omega
      · simp; omega
    · unfold natV; rw [List.getElem?_map, List.getElem?_eq_getElem hu]; rfl
    refine ⟨S, _, _, rfl, rfl, by rw [upd_ne hLS.symm]; exact hS3, small (by rw [natV_len]; omega), ?_⟩
    refine ⟨((l0 :: lr).eraseIdx u).length, ?_, (l0 :: lr).eraseIdx u, sqn ++ [(l0 :: lr)[u]], rfl, bt_set (bt_set (bt2.trans b3) hL) nS, ?_, ?_, ?_, ?_, rfl⟩
    · rw [List.length_eraseIdx, if_pos hu]; omega
    · obtain ⟨x, z, e, r⟩ := p3.ex
      exact ⟨⟨x, z, by rw [upd_ne hSp.symm, upd_ne hLp.symm]; exact e, r⟩⟩
    · rw [upd_ne hLS, upd_same]; unfold natV; rw [map_erase]
    · rw [upd_same]; simp [natV]
    · refine List.Perm.trans ?_ hpm
      rw [List.append_assoc]
      exact List.Perm.append_left _ (erase_perm _ _ hu)

theorem led_12 (T : Txt K mg) {H : Hp} {Q : VK} {p t wa pl a b f : Addr} {v : V} {k : Kd} {pts wd : List (El k)} {m : Nat} {o : Option (List (El k))} {w10 w11 : Option V} {dv : V} {tb : Addr} {y : El k} (st0 : Std H p t wa pl a v pts m wd o) (hM : Mend (El.T k) pts wd m (rch pts m) o) (hb0 : BookAt K H b k pts m) (hf0 : FieldAt K H f k) (hy : y ≠ 0) (hO : OptAt H (o.map fun g => g.map (El.T k).s) dv) (htb : BookAt K H tb k (pts.map (El.T k).s) m) (ret : ∀ H', But p H H' → PotAt H' p → Q (.bl true) H') :
    t_law_led_right_12 K { nx := fun _ H' => Q .non H', rt := Q } [some (.ref p), some (.ref t), some (.ref a), some (.ref wa), some (.ref pl), some (.int (m : Int)), some (.ref b), some (.ref f), some (.int (pts.length : Int)), some v, w10, w11, some dv, some (vE y), some (.ref tb), none, none, none, none] H := by
  unfold t_law_led_right_12
  have h3 := st0.tol.three
  have hfew := st0.tol.few
  have hind := st0.tol.ind
  have h1m := st0.tol.one
  have h2m := st0.tol.two
  have hn2 := k.n_le
  have hp2 : 1 < k.p := k.p_two
  have hq1 := k.q_le
  have hq2 := k.q_ge
  have hw := st0.len
  have hmle := st0.le
  have hk := st0.hk
  refine ⟨_, rfl, ?_⟩
  refine tlc_list (src := lE wd) (out := lE (wd.map (El.T k).s)) rfl st0.wrd (by rw [lE_len]; omega) (by rw [lE_len, lE_len, List.length_map]) (fun i hi hi' H' N M s q => ⟨rfl, lcY ?_⟩) fun H1 D s1 nD hD => ?_
  · rw [lE_get' hi]
    rw [lE_map_get hi'] at q
    exact ⟨_, rfl, _, rfl, wa, k, _, 1, rfl, st0.wor.same s, q⟩
  refine ⟨tb, D, k, _, m, _, rfl, htb.same s1, hD, by rw [List.length_map, List.length_map]; exact hw, fun H2 o2 v2 s2 hM2 hO2 nN2 => ?_⟩
  rw [rch_eq (xs := pts) (ys := pts.map (El.T k).s) (by rw [List.length_map])] at hM2
  have eo := mend_turn hind hw hk hM hM2
  rw [eo] at hO2
  have s12 := s1.trans s2
  refine ⟨_, rfl, ?_⟩
  refine ne_off hO2 (hO.same s12) ⟨_, rfl, iteF ?_⟩
  exact led_13 T (st0.same s12) hM (hb0.same s12) (hf0.same s12) hy fun H' b q => ret H' ((sbut s12 p).trans b) q

theorem led_10 (T : Txt K mg) {H : Hp} {Q : VK} {p t wa pl a b f : Addr} {v : V} {k : Kd} {pts wd : List (El k)} {m : Nat} {o : Option (List (El k))} {w10 w11 w12 : Option V} {y : El k} (st0 : Std H p t wa pl a v pts m wd o) (hM : Mend (El.T k) pts wd m (rch pts m) o) (hb0 : BookAt K H b k pts m) (hf0 : FieldAt K H f k) (hy : y ≠ 0) (ret : ∀ H', But p H H' → PotAt H' p → Q (.bl true) H') :
    t_law_led_right_10 K { nx := fun _ H' => Q .non H', rt := Q } [some (.ref p), some (.ref t), some (.ref a), some (.ref wa), some (.ref pl), some (.int (m : Int)), some (.ref b), some (.ref f), some (.int (pts.length : Int)), some v, w10, w11, w12, some (vE y), none, none, none, none, none] H := by
  unfold t_law_led_right_10
  have h3 := st0.tol.three
  have hfew := st0.tol.few
  have hind := st0.tol.ind
  have h1m := st0.tol.one
  have h2m := st0.tol.two
  have hn2 := k.n_le
  have hp2 : 1 < k.p := k.p_two
  have hq1 := k.q_le
  have hq2 := k.q_ge
  have hw := st0.len
  have hmle := st0.le
  have hk := st0.hk
  refine ⟨_, rfl, ?_⟩
  refine tlc_list (src := lE pts) (out := lE (pts.map (El.T k).s)) rfl st0.ptl (by rw [lE_len]; omega) (by rw [lE_len, lE_len, List.length_map]) (fun i hi hi' H' N M s q => ⟨rfl, lcY ?_⟩) fun H1 D s1 nD hD => ?_
  · rw [lE_get' hi]
    rw [lE_map_get hi'] at q
    exact ⟨_, rfl, _, rfl, wa, k, _, 1, rfl, st0.wor.same s, q⟩
  refine ⟨_, rfl, ?_⟩
  refine fun x2 d2 n2 nd2 nn2 => ⟨x2, f, D, d2, k, _, m, rfl, upd_same, (hf0.same s1).same (mkS n2 nd2), mkS n2 nd2 _ _ hD, h1m, by rw [List.length_map]; omega, by rw [List.length_map]; omega, indep_turn hind, fun H2 bb2 hb2 => ⟨rfl, ?_⟩⟩
  have s2 := s1.trans (made n2 nd2 bb2)
  have st2 := st0.same s2
  refine ⟨_, rfl, rfl, _, rfl, ?_⟩
  have ho := st2.opt
  cases o with
  | none =>
    have ev : v = .non := ho
    rw [decide_eq_true ev]
    refine iteT ?_
    exact led_12 T st2 hM (hb0.same s2) (hf0.same s2) hy rfl hb2 fun H' b q => ret H' ((sbut s2 p).trans b) q
  | some g =>
    obtain ⟨q, ev, hq⟩ := ho
    have hgl : g.length ≤ m := hM.len
    rw [decide_eq_false (by rw [ev]; intro e; cases e)]
    refine iteF ?_
    refine tlc_list (src := lE g) (out := lE (g.map (El.T k).s)) (by rw [ev]; rfl) hq (by rw [lE_len]; omega) (by rw [lE_len, lE_len, List.length_map]) (fun i hi hi' H' N M s q => ⟨rfl, lcY ?_⟩) fun H3 D3 s3 nD3 hD3 => ?_
    · rw [lE_get' hi]
      rw [lE_map_get hi'] at q
      exact ⟨_, rfl, _, rfl, wa, k, _, 1, rfl, st2.wor.same s, q⟩
    exact led_12 T (st2.same s3) hM ((hb0.same s2).same s3) ((hf0.same s2).same s3) hy ⟨D3, rfl, hD3⟩ (hb2.same s3) fun H' b q => ret H' ((sbut (s2.trans s3) p).trans b) q

theorem led_9 (T : Txt K mg) {H : Hp} {Q : VK} {p t wa pl a b f : Addr} {v : V} {k : Kd} {pts wd : List (El k)} {m : Nat} {o : Option (List (El k))} {w10 w11 : Option V} {dv : V} {y : El k} (st0 : Std H p t wa pl a v pts m wd o) (hM : Mend (El.T k) pts wd m (rch pts m) o) (hb0 : BookAt K H b k pts m) (hf0 : FieldAt K H f k) (hy : y ≠ 0) (hO : OptAt H (o.map fun g => g.map (y * ·)) dv) (ret : ∀ H', But p H H' → PotAt H' p → Q (.bl true) H') :
    t_law_led_right_9 K { nx := fun _ H' => Q .non H', rt := Q } [some (.ref p), some (.ref t), some (.ref a), some (.ref wa), some (.ref pl), some (.int (m : Int)), some (.ref b), some (.ref f), some (.int (pts.length : Int)), some v, w10, w11, some dv, some (vE y), none, none, none, none, none] H := by
  unfold t_law_led_right_9
  have h3 := st0.tol.three
  have hfew := st0.tol.few
  have hind := st0.tol.ind
  have h1m := st0.tol.one
  have h2m := st0.tol.two
  have hn2 := k.n_le
  have hp2 : 1 < k.p := k.p_two
  have hq1 := k.q_le
  have hq2 := k.q_ge
  have hw := st0.len
  have hmle := st0.le
  have hk := st0.hk
  refine ⟨_, rfl, ?_⟩
  refine tlc_list (src := lE wd) (out := lE (wd.map (y * ·))) rfl st0.wrd (by rw [lE_len]; omega) (by rw [lE_len, lE_len, List.length_map]) (fun i hi hi' H' N M s q => ⟨rfl, lcY ?_⟩) fun H1 D s1 nD hD => ?_
  · rw [lE_get' hi]
    rw [lE_map_get hi'] at q
    exact ⟨_, rfl, _, rfl, _, rfl, wa, k, y, _, rfl, st0.wor.same s, q⟩
  refine ⟨b, D, k, _, m, _, rfl, hb0.same s1, hD, by rw [List.length_map]; exact hw, fun H2 o2 v2 s2 hM2 hO2 nN2 => ?_⟩
  have eo := mend_times hy hind hw hk hM hM2
  rw [eo] at hO2
  have s12 := s1.trans s2
  refine ⟨_, rfl, ?_⟩
  refine ne_off hO2 (hO.same s12) ⟨_, rfl, iteF ?_⟩
  exact led_10 T (st0.same s12) hM (hb0.same s12) (hf0.same s12) hy fun H' b q => ret H' ((sbut s12 p).trans b) q

theorem led_7 (T : Txt K mg) {H : Hp} {Q : VK} {p t wa pl a b f : Addr} {v : V} {k : Kd} {pts wd : List (El k)} {m : Nat} {o : Option (List (El k))} {w10 w11 w12 : Option V} (st0 : Std H p t wa pl a v pts m wd o) (hM : Mend (El.T k) pts wd m (rch pts m) o) (hb0 : BookAt K H b k pts m) (hf0 : FieldAt K H f k)  (ret : ∀ H', But p H H' → PotAt H' p → Q (.bl true) H') :
    t_law_led_right_7 K { nx := fun _ H' => Q .non H', rt := Q } [some (.ref p), some (.ref t), some (.ref a), some (.ref wa), some (.ref pl), some (.int (m : Int)), some (.ref b), some (.ref f), some (.int (pts.length : Int)), some v, w10, w11, w12, none, none, none, none, none, none] H := by
  unfold t_law_led_right_7
  have h3 := st0.tol.three
  have hfew := st0.tol.few
  have hind := st0.tol.ind
  have h1m := st0.tol.one
  have h2m := st0.tol.two
  have hn2 := k.n_le
  have hp2 : 1 < k.p := k.p_two
  have hq1 := k.q_le
  have hq2 := k.q_ge
  have hw := st0.len
  have hmle := st0.le
  have hk := st0.hk
  refine ⟨_, rfl, _, rfl, ?_⟩
  refine wl_size st0.wor ?_
  refine ⟨_, _, rfl, rfl, p, k.q - 1, ?_, st0.pot, by omega, by omega, fun H1 u b1 p1 hu => ?_⟩
  · have : (k.q : Int) - 1 = ((k.q - 1 : Nat) : Int) := by omega
    rw [← this]; rfl
  have st1 := st0.bp b1 p1
  have hb1 := hb0.bp h3 st0.pot b1
  have hf1 := hf0.bp st0.pot b1
  refine ⟨_, _, rfl, rfl, ?_⟩
  have hlt : 1 + u < k.q := by omega
  have eu : V.int ((1 : Int) + (u : Int)) = vE (elN k (1 + u)) := by
    rw [vE_elN hlt]
    have : (1 : Int) + (u : Int) = ((1 + u : Nat) : Int) := by omega
    rw [this]
  have hy : elN k (1 + u) ≠ 0 := fun e => by
    have := El.eq_zero.mp e
    rw [elN_v hlt] at this
    omega
  dsimp only
  rw [eu]
  generalize elN k (1 + u) = y at hy
  refine ⟨_, rfl, rfl, _, rfl, ?_⟩
  have ho := st1.opt
  cases o with
  | none =>
    have ev : v = .non := ho
    rw [decide_eq_true ev]
    refine iteT ?_
    exact led_9 T st1 hM hb1 hf1 hy rfl fun H' b q => ret H' (b1.trans b) q
  | some g =>
    obtain ⟨q, ev, hq⟩ := ho
    have hgl : g.length ≤ m := hM.len
    rw [decide_eq_false (by rw [ev]; intro e; cases e)]
    refine iteF ?_
    refine tlc_list (src := lE g) (out := lE (g.map (y * ·))) (by rw [ev]; rfl) hq (by rw [lE_len]; omega) (by rw [lE_len, lE_len, List.length_map]) (fun i hi hi' H' N M s q => ⟨rfl, lcY ?_⟩) fun H3 D3 s3 nD3 hD3 => ?_
    · rw [lE_get' hi]
      rw [lE_map_get hi'] at q
      exact ⟨_, rfl, _, rfl, _, rfl, wa, k, y, _, rfl, st1.wor.same s, q⟩
    exact led_9 T (st1.same s3) hM (hb1.same s3) (hf1.same s3) hy ⟨D3, rfl, hD3⟩ fun H' b q => ret H' ((b1.trans (sbut s3 p)).trans b) q

theorem led_6 (T : Txt K mg) {H : Hp} {Q : VK} {p t wa pl a b f : Addr} {v : V} {k : Kd} {pts wd : List (El k)} {m : Nat} {o : Option (List (El k))} {w11 : Option V} {dv : V} {ot : Addr} {os : List (El k)} (st0 : Std H p t wa pl a v pts m wd o) (hM : Mend (El.T k) pts wd m (rch pts m) o) (hb0 : BookAt K H b k pts m) (hf0 : FieldAt K H f k) (hot : H ot = some (.lst (lE os))) (hol : os.length = m) (hO : OptAt H (o.map fun g => tld (ladd g os)) dv) (ret : ∀ H', But p H H' → PotAt H' p → Q (.bl true) H') :
    t_law_led_right_6 K { nx := fun _ H' => Q .non H', rt := Q } [some (.ref p), some (.ref t), some (.ref a), some (.ref wa), some (.ref pl), some (.int (m : Int)), some (.ref b), some (.ref f), some (.int (pts.length : Int)), some v, some (.ref ot), w11, some dv, none, none, none, none, none, none] H := by
  unfold t_law_led_right_6
  have h3 := st0.tol.three
  have hfew := st0.tol.few
  have hind := st0.tol.ind
  have h1m := st0.tol.one
  have h2m := st0.tol.two
  have hn2 := k.n_le
  have hp2 : 1 < k.p := k.p_two
  have hq1 := k.q_le
  have hq2 := k.q_ge
  have hw := st0.len
  have hmle := st0.le
  have hk := st0.hk
  refine ⟨_, rfl, _, rfl, _, rfl, _, rfl, _, rfl, _, rfl, wa, ot, pl, k, os, pts, rfl, st0.wor, hot, st0.ptl, by omega, fun H1 W1 s1 n1 e1 => ?_⟩
  refine ⟨wa, a, W1, k, wd, _, rfl, st0.wor.same s1, s1 _ _ st0.wrd, e1, by rw [List.length_map]; exact hw, by omega, fun H2 W2 s2 n2 e2 => ?_⟩
  have s12 := s1.trans s2
  refine ⟨b, W2, k, pts, m, _, rfl, hb0.same s12, e2, by simp; omega, fun H3 o3 v3 s3 hM3 hO3 nN3 => ?_⟩
  have eo := mend_plus os (by omega) hind hw hk hM hM3
  rw [eo] at hO3
  have s13 := s12.trans s3
  refine ⟨_, rfl, ?_⟩
  refine ne_off hO3 (hO.same s13) ⟨_, rfl, iteF ?_⟩
  exact led_7 T (st0.same s13) hM (hb0.same s13) (hf0.same s13) fun H' b q => ret H' ((sbut s13 p).trans b) q

theorem led_4 (T : Txt K mg) {H : Hp} {Q : VK} {p t wa pl a b f : Addr} {v : V} {k : Kd} {pts wd : List (El k)} {m : Nat} {o : Option (List (El k))} {ot : Addr} {os : List (El k)} (st0 : Std H p t wa pl a v pts m wd o) (hM : Mend (El.T k) pts wd m (rch pts m) o) (hb0 : BookAt K H b k pts m) (hf0 : FieldAt K H f k) (hot : H ot = some (.lst (lE os))) (hol : os.length = m) (ret : ∀ H', But p H H' → PotAt H' p → Q (.bl true) H') :
    t_law_led_right_4 K { nx := fun _ H' => Q .non H', rt := Q } [some (.ref p), some (.ref t), some (.ref a), some (.ref wa), some (.ref pl), some (.int (m : Int)), some (.ref b), some (.ref f), some (.int (pts.length : Int)), some v, some (.ref ot), none, none, none, none, none, none, none, none] H := by
  unfold t_law_led_right_4
  have h3 := st0.tol.three
  have hfew := st0.tol.few
  have hind := st0.tol.ind
  have h1m := st0.tol.one
  have h2m := st0.tol.two
  have hn2 := k.n_le
  have hp2 : 1 < k.p := k.p_two
  have hq1 := k.q_le
  have hq2 := k.q_ge
  have hw := st0.len
  have hmle := st0.le
  have hk := st0.hk
  refine ⟨_, rfl, rfl, _, rfl, ?_⟩
  have ho := st0.opt
  cases o with
  | none =>
    have ev : v = .non := ho
    rw [decide_eq_true ev]
    refine iteF ?_
    refine ⟨_, rfl, rfl, _, rfl, ?_⟩
    rw [decide_eq_true ev]
    refine iteT ?_
    exact led_6 T st0 hM hb0 hf0 hot hol rfl ret
  | some g =>
    obtain ⟨q, ev, hq⟩ := ho
    have hgl : g.length ≤ m := hM.len
    rw [decide_eq_false (by rw [ev]; intro e; cases e)]
    refine iteT ?_
    refine ⟨_, rfl, Nat.le_trans (Nat.le_refl 1) (by decide), fun z hz => ?_⟩
    have s1 := sm_upd hz (o := .lst [V.int 0])
    refine ⟨_, rfl, z, _, _, rfl, rfl, upd_same, by omega, by omega, small' (by simp; omega), fun z2 hz2 => ?_⟩
    have em : ((m : Nat) : Int).toNat = m := by omega
    rw [em, rep1, ← lE_rep (k := k)]
    have s2 := sm_upd' s1 hz2 (o := .lst (lE (List.replicate m (0 : El k))))
    refine ⟨q, z2, _, _, ev, rfl, s2 _ _ hq, upd_same, small' (by rw [lE_len, lE_len, List.length_replicate]; omega), fun z3 hz3 => ?_⟩
    have eapp : lE g ++ lE (List.replicate m (0 : El k)) = lE (g ++ List.replicate m 0) := by simp [lE]
    rw [eapp]
    have s3 := sm_upd' s2 hz3 (o := .lst (lE (g ++ List.replicate m 0)))
    refine ⟨_, rfl, _, rfl, z3, _, rfl, SqL.of upd_same, fun z4 hz4 => ?_⟩
    rw [cutL_to (by simp)]
    have s4 := sm_upd' s3 hz4 (o := .lst (lE ((g ++ List.replicate m 0).take m)))
    generalize hgg : (g ++ List.replicate m (0 : El k)).take m = gg at s4
    have hgg2 : gg.length = m := by rw [← hgg]; simp
    have hW : ∀ {Hx : Hp} {x : HO}, (upd Hx z4 x) z4 = some x := upd_same
    have hz4c : (upd (upd (upd (upd H z (.lst [V.int 0])) z2 (.lst (lE (List.replicate m (0 : El k))))) z3 (.lst (lE (g ++ List.replicate m 0)))) z4 (.lst (lE gg))) z4 = some (.lst (lE gg)) := upd_same
    generalize upd (upd (upd (upd H z (.lst [V.int 0])) z2 (.lst (lE (List.replicate m (0 : El k))))) z3 (.lst (lE (g ++ List.replicate m 0)))) z4 (.lst (lE gg)) = H4 at s4 hz4c
    have st4 := st0.same s4
    have hot4 := s4 _ _ hot
    refine ⟨_, rfl, rfl, _, rfl, ?_⟩
    rw [decide_eq_false (by rw [ev]; intro e; cases e)]
    refine iteF ?_
    refine ⟨_, rfl, _, rfl, z4, ot, _, _, rfl, SqL.of hz4c, SqL.of hot4, fun D hD => ?_⟩
    refine lc_it (walk_zip (xs := lE gg) (ys := lE os) (n := m) (by rw [lE_len, lE_len]; omega)) (LcP H4 D fun i => lE ((List.zipWith (· + ·) gg os).take i)) (lcp_start hD rfl) (fun i H' _ h => ⟨h.1.seq (SqL.of hz4c), h.1.seq (SqL.of hot4)⟩) ?_ ?_
    · intro i v' H' H'' hi hp yy
      obtain ⟨t', h1, h2, rfl, ht, rfl⟩ := zipE_of yy
      refine pair_tgt upd_same ⟨rfl, lcY ?_⟩
      refine ⟨_, rfl, _, rfl, _, rfl, wa, k, gg[i], os[i], 1, hp2, rfl, (st4.wor.same hp.1).same (sm_upd ht), fun H3 s3 => ?_⟩
      rw [plus_one]
      refine lcp_next hD hp ((sm_upd ht).trans s3) ?_ (small (by rw [lE_len, List.length_take]; simp; omega))
      rw [lE_take (by simp; omega)]
      simp
    intro H5 p5
    have h5 := p5.2
    dsimp only at h5
    rw [List.take_of_length_le (by simp; omega)] at h5
    refine ⟨D, k, _, rfl, h5, fun H6 F s6 n6 e6 => ?_⟩
    have eq : tld (List.zipWith (· + ·) gg os) = tld (ladd g os) := tld_eq fun i => by
      rw [ladd_co]
      by_cases hi : i < m
      · rw [co_lt (by simp; omega), List.getElem_zipWith, ← co_lt (f := os) (by omega), ← co_lt (f := gg) (by omega), ← hgg, co_take hi]
        congr 1
        by_cases hg : i < g.length
        · rw [co_lt hg, co_lt (by simp; omega), List.getElem_append_left hg]
        · rw [co_out (f := g) (by omega), co_lt (by simp; omega), List.getElem_append_right (by omega)]
          simp
      · rw [co_out (by simp; omega), co_out (by omega), co_out (by omega)]
        grind
    rw [eq] at e6
    have s46 := s4.trans (p5.1.trans s6)
    exact led_6 T (st0.same s46) hM (hb0.same s46) (hf0.same s46) (s46 _ _ hot) hol ⟨F, rfl, e6⟩ fun H' b q => ret H' ((sbut s46 p).trans b) q

theorem pure_law_led_right (T : Txt K mg) {vs : List V} {H : Hp} {Q : VK} {E : XK} (h : sp_law_led_right K vs H Q E) : t_law_led_right K { nx := fun _ H' => Q .non H', rt := Q } (L2.start N_law_led_right vs) H := by
  obtain ⟨p, t, a, k, pts, m, wd, rfl, hp, ht, ha, hw, ret⟩ := h
  have h3 := ht.three
  have hfew := ht.few
  have hn2 := k.n_le
  have h2m := ht.two
  refine ⟨_, rfl, ?_⟩
  refine tl_world ht fun wa hwa => ?_
  refine ⟨_, rfl, ?_⟩
  refine tl_points ht fun pl hpl => ?_
  refine ⟨_, rfl, ?_⟩
  refine tl_many ht ?_
  refine ⟨by show 3 ≤ sizeLine; decide, fun z hz => ?_⟩
  refine tri_tgt upd_same ?_
  have s1 := sm_upd hz (o := .tup [.ref wa, .ref pl, .int (m : Int)])
  generalize upd H z (.tup [.ref wa, .ref pl, .int (m : Int)]) = H1 at s1
  refine ⟨_, rfl, t, k, pts, m, rfl, ht.same s1, fun H2 b s2 hb => ?_⟩
  have s12 := s1.trans s2
  have ht2 := ht.same s12
  refine ⟨_, rfl, ?_⟩
  refine tl_prime ht2 ?_
  refine ⟨_, rfl, ?_⟩
  refine tl_modulus ht2 fun ml hml => ?_
  refine fun f df nf ndf nnf => ⟨f, ml, df, k, rfl, upd_same, mkS nf ndf _ _ hml, fun H3 bf hf => ⟨rfl, ?_⟩⟩
  have s3 := made nf ndf bf
  have s13 := s12.trans s3
  refine ⟨_, rfl, ?_⟩
  refine tl_points (ht.same s13) fun pl2 hpl2 => ?_
  refine ⟨pl2, _, rfl, .inl (SqL.of hpl2), _, _, _, rfl, ?_⟩
  rw [lE_len]
  refine ⟨_, rfl, _, rfl, b, a, k, pts, m, wd, rfl, hb.same s3, s13 _ _ ha, hw, fun H4 o v s4 hM hO nv => ?_⟩
  have s14 := s13.trans s4
  have hp3' := hp.same s13
  have st4 : Std H4 p t wa pl a v pts m wd o := ⟨hp.same s14, ht.same s14, hwa.same s14, s14 _ _ hpl, s14 _ _ ha, hw, hO, fun q e => hp3'.new (nv q e)⟩
  have hb4 := (hb.same s3).same s4
  have hf4 := hf.same s4
  refine ⟨_, rfl, _, rfl, _, rfl, p, wa, k, m, rfl, st4.pot, st4.wor, by omega, fun H5 ot os b5 p5 n5 e5 l5 => ?_⟩
  exact led_4 T (st4.bp b5 p5) hM (hb4.bp h3 st4.pot b5) (hf4.bp st4.pot b5) e5 l5 fun H' b' q => ret H' ((sbut s14 p).trans (b5.trans b')) q
theorem len_law_led_right {vs : List V} {H : Hp} {Q : VK} {E : XK} (h : sp_law_led_right K vs H Q E) : vs.length = 3 := by
  obtain ⟨p, t, a, k, pts, m, wd, rfl, _⟩ := h; rfl
theorem c_law_led_right (T : Txt K mg) : C8.Cal P w K mg base 11 "_law_led_right" (sp_law_led_right K) [] :=
  cal_of (k := 10) (ps := ["_law_pot_here", "_law_told", "_law_word_here"]) T.d_law_led_right (fun _ _ _ _ _ _ us hl => match us, hl with | [_, _, _], _ => rfl) sc_law_led_right (fun vs H Q E h => len_law_led_right h) fun f cdv A outer s H vs Q E hr h => ⟨_, ps_law_led_right T hr, pure_law_led_right T h⟩
end
end Tp
namespace Tp
open PySem PySem.Spec PyProof.Rows L2 Gab
section
variable {P : Program} {w : World} {K : PySem.W.Frag} {mg : Str → Option Value} {base : Heap}
def sp_law_right (K : PySem.W.Frag) : Sp := fun vs H Q _ => ∃ (p : Addr), vs = [.ref p] ∧ PotAt H p ∧ ∀ H', Q (.bl true) H'
abbrev N_law_right : List Str := ["_law_pot_here", "_law_told", "_law_world_here", "_law_points", "_law_own", "_law_errors"]
theorem sc_law_right : FnScope N_law_right ["_law_pot_here"] (defScope s_law_right) := ⟨rfl, rfl, rfl, by decide +kernel, rfl, by decide +kernel, by decide +kernel⟩
def t_law_right (K : PySem.W.Frag) : TS :=
  (tSeq (tAsg (tCall (sp_law_book K) [] E0 (tCons (tVar 0) (tCons (tC (.int 3)) (tCons (tC (.int 5)) tNil)))) (gName 1))
  (tSeq (tPar 2 3 (tCons (tDGet (tVar 1) (tC (.str "world"))) (tCons (tDGet (tVar 1) (tC (.str "points"))) tNil)))
  (tSeq (tAsg (tCall (sp_law_word K) [] E0 (tCons (tVar 2) (tCons (tCall (sp_law_some K) [] E0 (tCons (tVar 0) (tCons (tVar 2) (tCons (tDGet (tVar 1) (tC (.str "many"))) tNil)))) (tCons (tVar 3) tNil)))) (gName 4))
  (tSeq (tAsg (tCall (sp_law_within K) [] E0 (tCons (tVar 0) (tCons (tVar 2) (tCons (tCall (sp_law_free K) [] E0 (tCons (tVar 0) (tCons (tVar 2) (tCons (tDGet (tVar 1) (tC (.str "reach"))) tNil)))) (tCons (tCB (cLen K) (tCons (tVar 3) tNil)) tNil))))) (gName 5))
  (tSeq (tIfS (tNot (tB (tCall (sp_law_led_right K) [] E0 (tCons (tVar 0) (tCons (tVar 1) (tCons (tCall (sp_law_spoilt K) [] E0 (tCons (tVar 2) (tCons (tVar 4) (tCons (tVar 5) tNil)))) tNil)))))) (tRet (tC (.bl false))) tNext)
  (tRet (tCall (sp_law_led_right K) [] E0 (tCons (tVar 0) (tCons (tVar 1) (tCons (tCall (sp_law_some K) [] E0 (tCons (tVar 0) (tCons (tVar 2) (tCons (tCB (cLen K) (tCons (tVar 3) tNil)) tNil)))) tNil))))))))))
theorem ps_law_right {f : Addr} {cdv : Value} {A : Around} {outer : List Env} {s : Shared} {H : Hp} {E : XK} (T : Txt K mg) (hr : Room 11 (A.deeper (envOfC "_law_right" (defScope s_law_right) s.heap.objs.size f cdv))) :
    PSs (cxOf CX0 P w K mg base N_law_right "_law_right" (defScope s_law_right) f cdv A outer s H E).nox (defBody s_law_right) (t_law_right K) := by
  exact (pss_cons (ps_set (i := 1) sc_law_right.nd rfl (Or.inl rfl) (C8.pe_c (c_law_book T) hr (by decide) (by rfl) (pa_cons (pv 0) (pa_cons pe_int (pa_cons pe_int pa_nil)))))
  (pss_cons (ps_par (i := 2) (j := 3) (by rfl) sc_law_right.nd rfl rfl (by decide) rfl rfl (pa_cons (pe_dget (hu_of hr) (pv 1) pe_str (fun _ _ => rfl)) (pa_cons (pe_dget (hu_of hr) (pv 1) pe_str (fun _ _ => rfl)) pa_nil)) (by rfl))
  (pss_cons (ps_set (i := 4) sc_law_right.nd rfl (Or.inl rfl) (C8.pe_c (c_law_word T) hr (by decide) (by rfl) (pa_cons (pv 2) (pa_cons (C8.pe_c (c_law_some T) hr (by decide) (by rfl) (pa_cons (pv 0) (pa_cons (pv 2) (pa_cons (pe_dget (hu_of hr) (pv 1) pe_str (fun _ _ => rfl)) pa_nil)))) (pa_cons (pv 3) pa_nil)))))
  (pss_cons (ps_set (i := 5) sc_law_right.nd rfl (Or.inl rfl) (C8.pe_c (c_law_within T) hr (by decide) (by rfl) (pa_cons (pv 0) (pa_cons (pv 2) (pa_cons (C8.pe_c (c_law_free T) hr (by decide) (by rfl) (pa_cons (pv 0) (pa_cons (pv 2) (pa_cons (pe_dget (hu_of hr) (pv 1) pe_str (fun _ _ => rfl)) pa_nil)))) (pa_cons (pe_callB call_len_seq (by rfl) T.b_len PySem.boot_len (pa_cons (pv 3) pa_nil)) pa_nil))))))
  (pss_cons (ps_if (pt_not (pt_val (C8.pe_c (c_law_led_right T) hr (by decide) (by rfl) (pa_cons (pv 0) (pa_cons (pv 1) (pa_cons (C8.pe_c (c_law_spoilt T) hr (by decide) (by rfl) (pa_cons (pv 2) (pa_cons (pv 4) (pa_cons (pv 5) pa_nil)))) pa_nil)))))) (pss_one (ps_ret pe_bl)) pss_nil)
  (pss_one (ps_ret (C8.pe_c (c_law_led_right T) hr (by decide) (by rfl) (pa_cons (pv 0) (pa_cons (pv 1) (pa_cons (C8.pe_c (c_law_some T) hr (by decide) (by rfl) (pa_cons (pv 0) (pa_cons (pv 2) (pa_cons (pe_callB call_len_seq (by rfl) T.b_len PySem.boot_len (pa_cons (pv 3) pa_nil)) pa_nil)))) pa_nil)))))))))))
theorem pure_law_right (T : Txt K mg) {vs : List V} {H : Hp} {Q : VK} {E : XK} (h : sp_law_right K vs H Q E) : t_law_right K { nx := fun _ H' => Q .non H', rt := Q } (L2.start N_law_right vs) H := by
  obtain ⟨p, rfl, hp, ret⟩ := h
  refine ⟨_, rfl, p, rfl, hp, fun H1 t k pts m b1 p1 ht => ?_⟩
  have h3 := ht.three
  have hfew := ht.few
  have hn2 := k.n_le
  have h2m := ht.two
  have hr : rch pts m ≤ 2 := by have := ht.one; unfold rch; omega
  refine ⟨_, rfl, ?_⟩
  refine tl_world ht fun wa hwa => ?_
  refine ⟨_, rfl, ?_⟩
  refine tl_points ht fun pl hpl => ⟨_, _, rfl, ?_⟩
  refine ⟨_, rfl, _, rfl, _, rfl, _, rfl, ?_⟩
  refine tl_many ht ?_
  refine ⟨p, wa, k, m, rfl, p1, hwa, by omega, fun H2 q2 f b2 p2 n2 e2 l2 => ?_⟩
  have ht2 := ht.bp p1 b2
  have hwa2 := hwa.but p1 b2
  have hpl2 := b2 _ _ (p1.ne hpl (by rw [lE_len]; omega)) hpl
  refine ⟨_, rfl, wa, q2, pl, k, f, pts, rfl, hwa2, e2, hpl2, by omega, fun H3 O s3 n3 e3 => ?_⟩
  have ht3 := ht2.same s3
  have hwa3 := hwa2.same s3
  have hpl3 := s3 _ _ hpl2
  have p3 := p2.same s3
  generalize hown : pts.map (W (El.T k) f) = own at e3
  have hol : own.length = pts.length := by rw [← hown, List.length_map]
  refine ⟨_, rfl, _, rfl, _, rfl, _, rfl, _, rfl, ?_⟩
  refine tl_reach ht3 ?_
  refine ⟨p, wa, k, rch pts m, rfl, p3, hwa3, by omega, fun H4 q4 xs b4 p4 n4 e4 l4 i4 => ?_⟩
  have ht4 := ht3.bp p3 b4
  have hwa4 := hwa3.but p3 b4
  have hpl4 := b4 _ _ (p3.ne hpl3 (by rw [lE_len]; omega)) hpl3
  have hO4 := b4 _ _ (p3.ne e3 (by rw [lE_len]; omega)) e3
  refine ⟨_, rfl, pl, _, rfl, .inl (SqL.of hpl4), ?_⟩
  refine ⟨p, wa, q4, k, xs, pts.length, by rw [lE_len]; rfl, p4, hwa4, e4, by omega, by omega, fun H5 q5 es b5 p5 n5 e5 l5 => ?_⟩
  have ht5 := ht4.bp p4 b5
  have hwa5 := hwa4.but p4 b5
  have hpl5 := b5 _ _ (p4.ne hpl4 (by rw [lE_len]; omega)) hpl4
  have hO5 := b5 _ _ (p4.ne hO4 (by rw [lE_len]; omega)) hO4
  refine ⟨_, rfl, _, rfl, _, rfl, _, rfl, _, rfl, wa, O, q5, k, own, es, rfl, hwa5, hO5, e5, by omega, by omega, fun H6 S s6 n6 e6 => ?_⟩
  refine ⟨p, t, S, k, pts, m, _, rfl, p5.same s6, ht5.same s6, e6, by simp; omega, fun H7 b7 p7 => ⟨true, rfl, iteF ?_⟩⟩
  have ht7 := (ht5.same s6).bp (p5.same s6) b7
  have hwa7 := (hwa5.same s6).but (p5.same s6) b7
  have hpl7 := b7 _ _ ((p5.same s6).ne (s6 _ _ hpl5) (by rw [lE_len]; omega)) (s6 _ _ hpl5)
  refine ⟨_, rfl, _, rfl, _, rfl, _, rfl, _, rfl, pl, _, rfl, .inl (SqL.of hpl7), ?_⟩
  refine ⟨p, wa, k, pts.length, by rw [lE_len]; rfl, p7, hwa7, by omega, fun H8 q8 zs b8 p8 n8 e8 l8 => ?_⟩
  exact ⟨p, t, q8, k, pts, m, zs, rfl, p8, ht7.bp p7 b8, e8, l8, fun H9 _ _ => ret H9⟩
theorem len_law_right {vs : List V} {H : Hp} {Q : VK} {E : XK} (h : sp_law_right K vs H Q E) : vs.length = 1 := by
  obtain ⟨p, rfl, _⟩ := h; rfl
theorem c_law_right (T : Txt K mg) : C8.Cal P w K mg base 12 "_law_right" (sp_law_right K) [] :=
  cal_of (k := 11) (ps := ["_law_pot_here"]) T.d_law_right (fun _ _ _ _ _ _ us hl => match us, hl with | [_], _ => rfl) sc_law_right (fun vs H Q E h => len_law_right h) fun f cdv A outer s H vs Q E hr h => ⟨_, ps_law_right T hr, pure_law_right T h⟩
def sp_law (K : PySem.W.Frag) : Sp := fun vs H Q _ => ∃ (a : Addr) (ns : List Int), vs = [.ref a] ∧ SqL K H a (ns.map V.int) ∧ ∀ H', Q (.bl true) H'
abbrev N_law : List Str := ["_law_script"]
theorem sc_law : FnScope N_law ["_law_script"] (defScope s_law) := ⟨rfl, rfl, rfl, by decide +kernel, rfl, by decide +kernel, by decide +kernel⟩
def t_law (K : PySem.W.Frag) : TS :=
  (tRet (tCall (sp_law_right K) [] E0 (tCons (tCall (sp_law_pot K) [] E0 (tCons (tVar 0) (tCons (tC (.int 0)) tNil))) tNil)))
theorem ps_law {f : Addr} {cdv : Value} {A : Around} {outer : List Env} {s : Shared} {H : Hp} {E : XK} (T : Txt K mg) (hr : Room 12 (A.deeper (envOfC "law" (defScope s_law) s.heap.objs.size f cdv))) :
    PSs (cxOf CX0 P w K mg base N_law "law" (defScope s_law) f cdv A outer s H E).nox (defBody s_law) (t_law K) := by
  exact (pss_one (ps_ret (C8.pe_c (c_law_right T) hr (by decide) (by rfl) (pa_cons (C8.pe_c (c_law_pot T) hr (by decide) (by rfl) (pa_cons (pv 0) (pa_cons pe_int pa_nil))) pa_nil))))
theorem pure_law (T : Txt K mg) {vs : List V} {H : Hp} {Q : VK} {E : XK} (h : sp_law K vs H Q E) : t_law K { nx := fun _ H' => Q .non H', rt := Q } (L2.start N_law vs) H := by
  obtain ⟨a, ns, rfl, ha, ret⟩ := h
  refine ⟨_, rfl, a, ns, rfl, ha, fun H1 p s1 hp => ?_⟩
  exact ⟨p, rfl, hp, ret⟩
theorem len_law {vs : List V} {H : Hp} {Q : VK} {E : XK} (h : sp_law K vs H Q E) : vs.length = 1 := by
  obtain ⟨a, ns, rfl, _⟩ := h; rfl
theorem law_ok {f : Addr} {fd : FuncData} (F : FunD K "law" "law" (defArgs s_law) (defBody s_law) (defScope s_law) [] [] f fd) (T : Txt K mg) : FnOk P w K mg base CX0 13 f fd ["_law_script"] (sp_law K) :=
  F.ok (k := 12) sc_law (fun vs H Q E h => len_law h) fun cdv A outer s H vs Q E hr h => ⟨_, (ps_law T hr).nox, pure_law T h⟩
end
end Tp
/-! The end: the law's def, taken from the run, walked. -/
namespace Tp
open PySem PySem.Spec PyProof.Rows L2
theorem facts {P : Program} {w : World} {K : PySem.W.Frag} {h : Heap} {mg : Str → Option Value} {f : Addr} (X : K.In h) (G : h.Ns mainGlobals mg) (hfa : mg ("law" : Str) = some (.ref f)) (c : obsX K = valX) :
    ∃ fd : FuncData, (∀ (s : Shared) (v : Value), BindsTo s fd ⟨[v], []⟩ [("_law_script", v)]) ∧ ∀ base : Heap, K.In base → base.Ns mainGlobals mg → FnOk P w K mg base CX0 13 f fd ["_law_script"] (sp_law K) := by
  obtain ⟨g, fd, F, e⟩ := (law_at X G c).ex
  have e2 := hfa.symm.trans e
  cases e2
  have b := FunD.bindsA (ps := ["_law_script"]) F fun _ _ _ _ _ _ us hl => match us, hl with | [_], _ => rfl
  exact ⟨fd, fun s v => b s [v] rfl, fun base _ _ => law_ok F (txt X G c)⟩
end Tp
open PySem PySem.W PySem.Calls PyProof.Rows
theorem PySem.Challenge.cw_turnpowers_k88_whole_mending_goes_along_holds : PySem.Challenge.rw_turnpowers_k88_whole_mending_goes_along.Holds := by
  w_on; o_law
  refine HandSHeadRun.head_any (r := Tp.R) (q := view Tp.R.prog [110]) (H := Tp.hk) (ob := Tp.ob) (M := 60000) (loose := Tp.names) (d := HandSHeadRun.topDef Tp.R.prog 110) (kwd := []) Tp.ob_eq
    (by kernel_rfl) (fun s => by kernel_rfl) Tp.run (by kernel_rfl) (by kernel_rfl) (by kernel_rfl) (by rfl) (by first | assumption | decide +kernel) (by decide +kernel) ⟨rfl, rfl, rfl, rfl, rfl, by decide +kernel⟩ ?hw ?hc
  case hw => w_witness2
  case hc =>
    refine L2.walk_ofE (l := PySem.Challenge.rw_turnpowers_k88_whole_mending_goes_along) (n := 63) (k := 13) (x := "_law_script") (CX := L2.CX0) rfl (by decide) (by kernel_rfl) ⟨rfl, by decide, by decide⟩ ?F (fun _ _ _ _ z => z)
    intro w mg fa h Y G hmg0
    obtain ⟨K, KX, c⟩ := Y
    have hmg : mg ("law" : PySem.Str) = some (.ref fa) := by
      have e : (HandSHeadRun.topDef Tp.R.prog 110).name = ("law" : PySem.Str) := by kernel_rfl
      rw [← e]
      exact hmg0
    obtain ⟨fd, hb, hF⟩ := Tp.facts (P := (PySem.Challenge.rw_turnpowers_k88_whole_mending_goes_along).prog) (w := w) KX G hmg c
    exact ⟨K, fd, Tp.sp_law K, KX, hb, fun H a ns hl _ hS => ⟨a, ns, rfl, hS, fun _ => rfl⟩, hF⟩
