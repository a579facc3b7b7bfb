import PyProof.Rows.All
import Wide.All
import OpenK.AllK
import Wide.FinOn
import KE.KStateDown
import Lean
import HandS.Base
import HandS.Call
import HandS.Ends
import HandS.More
import HandS.Words
import HandS.WordsExc
import HandS.Defaults
import HandS.Head0
import HandS.Head1
import HandS.Head2
import HandS.HeadEnd
import HandS.HeadHook1
import HandS.HeadHook2
import HandS.ForMost
import HandS.Walk
import HandS.Deep
import HandS.Star
import HandS.IsInst
import HandS.TupAny
import KE.DataCmp
import PyProof.EnumMake
import KE.GoesMore
import HandS.Zip
import HandS.Style
import PyProof.ReprLen
import KE.SortData
import HandS.SortOrd
import HandS.TupSets
import HandS.Strs
import HandS.DictComp
import HandS.Exc
import PyProof.Rows.StrMeet
import PySem.Challenge.RW_actasone_k60_whole_needs_by_all_falls
set_option Elab.async false
set_option linter.all false
set_option maxRecDepth 100000
/-! K60: the defs of the text by places. -/
namespace K60
open PySem PySem.Spec PyProof.Rows L2
def top (i : Nat) : Stmt := PySem.Challenge.pw_actasone_k60_whole_needs_by_all_falls.main.body.getD i (.Pass ⟨0, 0, 0, 0⟩)
abbrev s_is_integer : Stmt := top 4
abbrev s_is_number : Stmt := top 5
abbrev s_is_index : Stmt := top 6
abbrev s_is_among : Stmt := top 7
abbrev s_is_name : Stmt := top 8
abbrev s_is_tuple_of : Stmt := top 9
abbrev s_is_pair : Stmt := top 10
abbrev s_are_rising : Stmt := top 11
abbrev s_is_names : Stmt := top 12
abbrev s_is_names_among : Stmt := top 13
abbrev s_are_sets_among : Stmt := top 14
abbrev s_are_indexes : Stmt := top 15
abbrev s_are_numbers : Stmt := top 16
abbrev s_machine_fault : Stmt := top 17
abbrev s_is_triple_from : Stmt := top 18
abbrev s_trust_fault : Stmt := top 19
abbrev s_is_gap : Stmt := top 20
abbrev s_order_fault : Stmt := top 21
abbrev s_gaps_by : Stmt := top 22
abbrev s_is_triangle : Stmt := top 23
abbrev s_triangle_fault : Stmt := top 24
abbrev s_clocks_fault : Stmt := top 25
abbrev s_are_promises : Stmt := top 26
abbrev s_is_looking : Stmt := top 27
abbrev s_is_waking : Stmt := top 28
abbrev s_is_looking_of : Stmt := top 29
abbrev s_is_waking_of : Stmt := top 30
abbrev s_rules_fault : Stmt := top 31
abbrev s_parts_fault : Stmt := top 32
abbrev s_is_trust : Stmt := top 33
abbrev s_is_book : Stmt := top 34
abbrev s_meets_in : Stmt := top 36
abbrev s_joint_in : Stmt := top 37
abbrev s_houses_in : Stmt := top 38
abbrev s_lots_of : Stmt := top 40
abbrev s_fears_of : Stmt := top 41
abbrev s_is_within : Stmt := top 42
abbrev s_less_by : Stmt := top 43
abbrev s_least_of : Stmt := top 44
abbrev s_greatest_of : Stmt := top 45
abbrev s_is_safe_by : Stmt := top 46
abbrev s_safe_by : Stmt := top 47
abbrev s_falls_by : Stmt := top 48
abbrev s_pairs_in : Stmt := top 49
abbrev s_lot_at : Stmt := top 50
abbrev s_needs_by : Stmt := top 51
abbrev s_first_missed_by : Stmt := top 52
abbrev s_is_met : Stmt := top 53
abbrev s_crossings_by : Stmt := top 54
abbrev s_is_house_of : Stmt := top 56
abbrev s_are_houses_of : Stmt := top 57
abbrev s_want : Stmt := top 63
abbrev s_want_book : Stmt := top 64
abbrev s_want_age : Stmt := top 65
abbrev s_want_trust : Stmt := top 67
abbrev s_want_house : Stmt := top 68
abbrev s_want_lot : Stmt := top 69
abbrev s_needs_of : Stmt := top 71
abbrev s_meets_needs : Stmt := top 72
abbrev s_first_missed : Stmt := top 73
abbrev s_least_lots : Stmt := top 74
abbrev s_fewest_lot : Stmt := top 75
abbrev s_safe_houses : Stmt := top 77
abbrev s_want_rule : Stmt := top 79
abbrev s_gap_in : Stmt := top 81
abbrev s_lasts_in : Stmt := top 82
abbrev s_answer_in : Stmt := top 84
abbrev s_rows_from : Stmt := top 86
abbrev s_rows_in : Stmt := top 87
abbrev s_unlike_from : Stmt := top 89
abbrev s_kept_within : Stmt := top 90
abbrev s_longest_from : Stmt := top 91
abbrev s_least_age_in : Stmt := top 92
abbrev s_moves_in : Stmt := top 93
abbrev s_lasting_in : Stmt := top 95
abbrev s_caught_in : Stmt := top 96
abbrev s_moving_in : Stmt := top 97
abbrev s_lacks_in : Stmt := top 98
abbrev s_rule_lacks : Stmt := top 100
abbrev s_rule_is_right : Stmt := top 101
abbrev s_law_feed : Stmt := top 103
abbrev s_law_draw : Stmt := top 104
abbrev s_law_any : Stmt := top 105
abbrev s_law_same : Stmt := top 106
abbrev s_law_within : Stmt := top 107
abbrev s_law_less : Stmt := top 108
abbrev s_law_subsets : Stmt := top 109
abbrev s_law_guild : Stmt := top 110
abbrev s_law_safe : Stmt := top 111
abbrev s_law_safes : Stmt := top 112
abbrev s_law_minimal : Stmt := top 113
abbrev s_law_needs : Stmt := top 114
abbrev s_law_meets : Stmt := top 115
abbrev s_law_motor : Stmt := top 116
abbrev s_law_least : Stmt := top 117
abbrev s_law_are_needs_right : Stmt := top 118
abbrev s_law_are_asks_right : Stmt := top 119
abbrev s_law_right : Stmt := top 120
abbrev s_law : Stmt := top 121
end K60

set_option maxHeartbeats 0

/-! K60: the head. -/
namespace K60H
open PySem PySem.Spec PyProof.Rows L2 K60
def d_is_integer : He.DefD := ⟨("is_integer", none), "is_integer", "is_integer", defArgs s_is_integer, defBody s_is_integer, defScope s_is_integer, [], []⟩
def d_is_number : He.DefD := ⟨("is_number", none), "is_number", "is_number", defArgs s_is_number, defBody s_is_number, defScope s_is_number, [], []⟩
def d_is_index : He.DefD := ⟨("is_index", none), "is_index", "is_index", defArgs s_is_index, defBody s_is_index, defScope s_is_index, [], []⟩
def d_is_among : He.DefD := ⟨("is_among", none), "is_among", "is_among", defArgs s_is_among, defBody s_is_among, defScope s_is_among, [], []⟩
def d_is_name : He.DefD := ⟨("is_name", none), "is_name", "is_name", defArgs s_is_name, defBody s_is_name, defScope s_is_name, [], []⟩
def d_is_tuple_of : He.DefD := ⟨("is_tuple_of", none), "is_tuple_of", "is_tuple_of", defArgs s_is_tuple_of, defBody s_is_tuple_of, defScope s_is_tuple_of, [], []⟩
def d_are_rising : He.DefD := ⟨("are_rising", none), "are_rising", "are_rising", defArgs s_are_rising, defBody s_are_rising, defScope s_are_rising, [], []⟩
def d_is_names : He.DefD := ⟨("is_names", none), "is_names", "is_names", defArgs s_is_names, defBody s_is_names, defScope s_is_names, [], []⟩
def d_is_names_among : He.DefD := ⟨("is_names_among", none), "is_names_among", "is_names_among", defArgs s_is_names_among, defBody s_is_names_among, defScope s_is_names_among, [], []⟩
def d_are_sets_among : He.DefD := ⟨("are_sets_among", none), "are_sets_among", "are_sets_among", defArgs s_are_sets_among, defBody s_are_sets_among, defScope s_are_sets_among, [], []⟩
def d_are_indexes : He.DefD := ⟨("are_indexes", none), "are_indexes", "are_indexes", defArgs s_are_indexes, defBody s_are_indexes, defScope s_are_indexes, [], []⟩
def d_are_numbers : He.DefD := ⟨("are_numbers", none), "are_numbers", "are_numbers", defArgs s_are_numbers, defBody s_are_numbers, defScope s_are_numbers, [], []⟩
def d_machine_fault : He.DefD := ⟨("machine_fault", none), "machine_fault", "machine_fault", defArgs s_machine_fault, defBody s_machine_fault, defScope s_machine_fault, [], []⟩
def d_is_triple_from : He.DefD := ⟨("is_triple_from", none), "is_triple_from", "is_triple_from", defArgs s_is_triple_from, defBody s_is_triple_from, defScope s_is_triple_from, [], []⟩
def d_trust_fault : He.DefD := ⟨("trust_fault", none), "trust_fault", "trust_fault", defArgs s_trust_fault, defBody s_trust_fault, defScope s_trust_fault, [], []⟩
def d_order_fault : He.DefD := ⟨("order_fault", none), "order_fault", "order_fault", defArgs s_order_fault, defBody s_order_fault, defScope s_order_fault, [], []⟩
def d_gaps_by : He.DefD := ⟨("gaps_by", none), "gaps_by", "gaps_by", defArgs s_gaps_by, defBody s_gaps_by, defScope s_gaps_by, [], []⟩
def d_triangle_fault : He.DefD := ⟨("triangle_fault", none), "triangle_fault", "triangle_fault", defArgs s_triangle_fault, defBody s_triangle_fault, defScope s_triangle_fault, [], []⟩
def d_clocks_fault : He.DefD := ⟨("clocks_fault", none), "clocks_fault", "clocks_fault", defArgs s_clocks_fault, defBody s_clocks_fault, defScope s_clocks_fault, [], []⟩
def d_are_promises : He.DefD := ⟨("are_promises", none), "are_promises", "are_promises", defArgs s_are_promises, defBody s_are_promises, defScope s_are_promises, [], []⟩
def d_is_looking : He.DefD := ⟨("is_looking", none), "is_looking", "is_looking", defArgs s_is_looking, defBody s_is_looking, defScope s_is_looking, [], []⟩
def d_is_looking_of : He.DefD := ⟨("is_looking_of", none), "is_looking_of", "is_looking_of", defArgs s_is_looking_of, defBody s_is_looking_of, defScope s_is_looking_of, [], []⟩
def d_rules_fault : He.DefD := ⟨("rules_fault", none), "rules_fault", "rules_fault", defArgs s_rules_fault, defBody s_rules_fault, defScope s_rules_fault, [], []⟩
def d_parts_fault : He.DefD := ⟨("parts_fault", none), "parts_fault", "parts_fault", defArgs s_parts_fault, defBody s_parts_fault, defScope s_parts_fault, [], []⟩
def d_is_trust : He.DefD := ⟨("is_trust", none), "is_trust", "is_trust", defArgs s_is_trust, defBody s_is_trust, defScope s_is_trust, [], []⟩
def d_is_book : He.DefD := ⟨("is_book", none), "is_book", "is_book", defArgs s_is_book, defBody s_is_book, defScope s_is_book, [], []⟩
def d_meets_in : He.DefD := ⟨("meets_in", none), "meets_in", "meets_in", defArgs s_meets_in, defBody s_meets_in, defScope s_meets_in, [], []⟩
def d_joint_in : He.DefD := ⟨("joint_in", none), "joint_in", "joint_in", defArgs s_joint_in, defBody s_joint_in, defScope s_joint_in, [], []⟩
def d_houses_in : He.DefD := ⟨("houses_in", none), "houses_in", "houses_in", defArgs s_houses_in, defBody s_houses_in, defScope s_houses_in, [], []⟩
def d_lots_of : He.DefD := ⟨("lots_of", none), "lots_of", "lots_of", defArgs s_lots_of, defBody s_lots_of, defScope s_lots_of, [], []⟩
def d_fears_of : He.DefD := ⟨("fears_of", none), "fears_of", "fears_of", defArgs s_fears_of, defBody s_fears_of, defScope s_fears_of, [], []⟩
def d_is_within : He.DefD := ⟨("is_within", none), "is_within", "is_within", defArgs s_is_within, defBody s_is_within, defScope s_is_within, [], []⟩
def d_less_by : He.DefD := ⟨("less_by", none), "less_by", "less_by", defArgs s_less_by, defBody s_less_by, defScope s_less_by, [], []⟩
def d_least_of : He.DefD := ⟨("least_of", none), "least_of", "least_of", defArgs s_least_of, defBody s_least_of, defScope s_least_of, [], []⟩
def d_greatest_of : He.DefD := ⟨("greatest_of", none), "greatest_of", "greatest_of", defArgs s_greatest_of, defBody s_greatest_of, defScope s_greatest_of, [], []⟩
def d_is_safe_by : He.DefD := ⟨("is_safe_by", none), "is_safe_by", "is_safe_by", defArgs s_is_safe_by, defBody s_is_safe_by, defScope s_is_safe_by, [], []⟩
def d_safe_by : He.DefD := ⟨("safe_by", none), "safe_by", "safe_by", defArgs s_safe_by, defBody s_safe_by, defScope s_safe_by, [], []⟩
def d_falls_by : He.DefD := ⟨("falls_by", none), "falls_by", "falls_by", defArgs s_falls_by, defBody s_falls_by, defScope s_falls_by, [], []⟩
def d_pairs_in : He.DefD := ⟨("pairs_in", none), "pairs_in", "pairs_in", defArgs s_pairs_in, defBody s_pairs_in, defScope s_pairs_in, [], []⟩
def d_lot_at : He.DefD := ⟨("lot_at", none), "lot_at", "lot_at", defArgs s_lot_at, defBody s_lot_at, defScope s_lot_at, [], []⟩
def d_needs_by : He.DefD := ⟨("needs_by", none), "needs_by", "needs_by", defArgs s_needs_by, defBody s_needs_by, defScope s_needs_by, [], []⟩
def d_first_missed_by : He.DefD := ⟨("first_missed_by", none), "first_missed_by", "first_missed_by", defArgs s_first_missed_by, defBody s_first_missed_by, defScope s_first_missed_by, [], []⟩
def d_is_met : He.DefD := ⟨("is_met", none), "is_met", "is_met", defArgs s_is_met, defBody s_is_met, defScope s_is_met, [], []⟩
def d_crossings_by : He.DefD := ⟨("crossings_by", none), "crossings_by", "crossings_by", defArgs s_crossings_by, defBody s_crossings_by, defScope s_crossings_by, [], []⟩
def d_is_house_of : He.DefD := ⟨("is_house_of", none), "is_house_of", "is_house_of", defArgs s_is_house_of, defBody s_is_house_of, defScope s_is_house_of, [], []⟩
def d_are_houses_of : He.DefD := ⟨("are_houses_of", none), "are_houses_of", "are_houses_of", defArgs s_are_houses_of, defBody s_are_houses_of, defScope s_are_houses_of, [], []⟩
def d_want : He.DefD := ⟨("want", none), "want", "want", defArgs s_want, defBody s_want, defScope s_want, [.int (-1)], []⟩
def d_want_book : He.DefD := ⟨("want_book", none), "want_book", "want_book", defArgs s_want_book, defBody s_want_book, defScope s_want_book, [.str "book"], []⟩
def d_want_age : He.DefD := ⟨("want_age", none), "want_age", "want_age", defArgs s_want_age, defBody s_want_age, defScope s_want_age, [], []⟩
def d_want_trust : He.DefD := ⟨("want_trust", none), "want_trust", "want_trust", defArgs s_want_trust, defBody s_want_trust, defScope s_want_trust, [.str "trust"], []⟩
def d_want_house : He.DefD := ⟨("want_house", none), "want_house", "want_house", defArgs s_want_house, defBody s_want_house, defScope s_want_house, [.str "house"], []⟩
def d_want_lot : He.DefD := ⟨("want_lot", none), "want_lot", "want_lot", defArgs s_want_lot, defBody s_want_lot, defScope s_want_lot, [.str "lot"], []⟩
def d_needs_of : He.DefD := ⟨("needs_of", none), "needs_of", "needs_of", defArgs s_needs_of, defBody s_needs_of, defScope s_needs_of, [], []⟩
def d_meets_needs : He.DefD := ⟨("meets_needs", none), "meets_needs", "meets_needs", defArgs s_meets_needs, defBody s_meets_needs, defScope s_meets_needs, [], []⟩
def d_first_missed : He.DefD := ⟨("first_missed", none), "first_missed", "first_missed", defArgs s_first_missed, defBody s_first_missed, defScope s_first_missed, [], []⟩
def d_least_lots : He.DefD := ⟨("least_lots", none), "least_lots", "least_lots", defArgs s_least_lots, defBody s_least_lots, defScope s_least_lots, [], []⟩
def d_fewest_lot : He.DefD := ⟨("fewest_lot", none), "fewest_lot", "fewest_lot", defArgs s_fewest_lot, defBody s_fewest_lot, defScope s_fewest_lot, [], []⟩
def d_safe_houses : He.DefD := ⟨("safe_houses", none), "safe_houses", "safe_houses", defArgs s_safe_houses, defBody s_safe_houses, defScope s_safe_houses, [], []⟩
def d_want_rule : He.DefD := ⟨("want_rule", none), "want_rule", "want_rule", defArgs s_want_rule, defBody s_want_rule, defScope s_want_rule, [], []⟩
def d_answer_in : He.DefD := ⟨("answer_in", none), "answer_in", "answer_in", defArgs s_answer_in, defBody s_answer_in, defScope s_answer_in, [], []⟩
def d_rows_from : He.DefD := ⟨("rows_from", none), "rows_from", "rows_from", defArgs s_rows_from, defBody s_rows_from, defScope s_rows_from, [], []⟩
def d_rows_in : He.DefD := ⟨("rows_in", none), "rows_in", "rows_in", defArgs s_rows_in, defBody s_rows_in, defScope s_rows_in, [], []⟩
def d_unlike_from : He.DefD := ⟨("unlike_from", none), "unlike_from", "unlike_from", defArgs s_unlike_from, defBody s_unlike_from, defScope s_unlike_from, [], []⟩
def d_kept_within : He.DefD := ⟨("kept_within", none), "kept_within", "kept_within", defArgs s_kept_within, defBody s_kept_within, defScope s_kept_within, [], []⟩
def d_longest_from : He.DefD := ⟨("longest_from", none), "longest_from", "longest_from", defArgs s_longest_from, defBody s_longest_from, defScope s_longest_from, [], []⟩
def d_least_age_in : He.DefD := ⟨("least_age_in", none), "least_age_in", "least_age_in", defArgs s_least_age_in, defBody s_least_age_in, defScope s_least_age_in, [], []⟩
def d_moves_in : He.DefD := ⟨("moves_in", none), "moves_in", "moves_in", defArgs s_moves_in, defBody s_moves_in, defScope s_moves_in, [], []⟩
def d_lasting_in : He.DefD := ⟨("lasting_in", none), "lasting_in", "lasting_in", defArgs s_lasting_in, defBody s_lasting_in, defScope s_lasting_in, [], []⟩
def d_caught_in : He.DefD := ⟨("caught_in", none), "caught_in", "caught_in", defArgs s_caught_in, defBody s_caught_in, defScope s_caught_in, [], []⟩
def d_moving_in : He.DefD := ⟨("moving_in", none), "moving_in", "moving_in", defArgs s_moving_in, defBody s_moving_in, defScope s_moving_in, [], []⟩
def d_lacks_in : He.DefD := ⟨("lacks_in", none), "lacks_in", "lacks_in", defArgs s_lacks_in, defBody s_lacks_in, defScope s_lacks_in, [], []⟩
def d_rule_lacks : He.DefD := ⟨("rule_lacks", none), "rule_lacks", "rule_lacks", defArgs s_rule_lacks, defBody s_rule_lacks, defScope s_rule_lacks, [], [("age", .int 0)]⟩
def d_rule_is_right : He.DefD := ⟨("rule_is_right", none), "rule_is_right", "rule_is_right", defArgs s_rule_is_right, defBody s_rule_is_right, defScope s_rule_is_right, [], [("age", .int 0)]⟩
def d_law_feed : He.DefD := ⟨("_law_feed", none), "_law_feed", "_law_feed", defArgs s_law_feed, defBody s_law_feed, defScope s_law_feed, [], []⟩
def d_law_draw : He.DefD := ⟨("_law_draw", none), "_law_draw", "_law_draw", defArgs s_law_draw, defBody s_law_draw, defScope s_law_draw, [], []⟩
def d_law_any : He.DefD := ⟨("_law_any", none), "_law_any", "_law_any", defArgs s_law_any, defBody s_law_any, defScope s_law_any, [], []⟩
def d_law_same : He.DefD := ⟨("_law_same", none), "_law_same", "_law_same", defArgs s_law_same, defBody s_law_same, defScope s_law_same, [], []⟩
def d_law_within : He.DefD := ⟨("_law_within", none), "_law_within", "_law_within", defArgs s_law_within, defBody s_law_within, defScope s_law_within, [], []⟩
def d_law_less : He.DefD := ⟨("_law_less", none), "_law_less", "_law_less", defArgs s_law_less, defBody s_law_less, defScope s_law_less, [], []⟩
def d_law_subsets : He.DefD := ⟨("_law_subsets", none), "_law_subsets", "_law_subsets", defArgs s_law_subsets, defBody s_law_subsets, defScope s_law_subsets, [], []⟩
def d_law_guild : He.DefD := ⟨("_law_guild", none), "_law_guild", "_law_guild", defArgs s_law_guild, defBody s_law_guild, defScope s_law_guild, [], []⟩
def d_law_safe : He.DefD := ⟨("_law_safe", none), "_law_safe", "_law_safe", defArgs s_law_safe, defBody s_law_safe, defScope s_law_safe, [], []⟩
def d_law_safes : He.DefD := ⟨("_law_safes", none), "_law_safes", "_law_safes", defArgs s_law_safes, defBody s_law_safes, defScope s_law_safes, [], []⟩
def d_law_minimal : He.DefD := ⟨("_law_minimal", none), "_law_minimal", "_law_minimal", defArgs s_law_minimal, defBody s_law_minimal, defScope s_law_minimal, [], []⟩
def d_law_needs : He.DefD := ⟨("_law_needs", none), "_law_needs", "_law_needs", defArgs s_law_needs, defBody s_law_needs, defScope s_law_needs, [], []⟩
def d_law_meets : He.DefD := ⟨("_law_meets", none), "_law_meets", "_law_meets", defArgs s_law_meets, defBody s_law_meets, defScope s_law_meets, [], []⟩
def d_law_motor : He.DefD := ⟨("_law_motor", none), "_law_motor", "_law_motor", defArgs s_law_motor, defBody s_law_motor, defScope s_law_motor, [], []⟩
def d_law_least : He.DefD := ⟨("_law_least", none), "_law_least", "_law_least", defArgs s_law_least, defBody s_law_least, defScope s_law_least, [], []⟩
def d_law_are_needs_right : He.DefD := ⟨("_law_are_needs_right", none), "_law_are_needs_right", "_law_are_needs_right", defArgs s_law_are_needs_right, defBody s_law_are_needs_right, defScope s_law_are_needs_right, [], []⟩
def d_law_are_asks_right : He.DefD := ⟨("_law_are_asks_right", none), "_law_are_asks_right", "_law_are_asks_right", defArgs s_law_are_asks_right, defBody s_law_are_asks_right, defScope s_law_are_asks_right, [], []⟩
def d_law_right : He.DefD := ⟨("_law_right", none), "_law_right", "_law_right", defArgs s_law_right, defBody s_law_right, defScope s_law_right, [], []⟩
def d_law : He.DefD := ⟨("law", none), "law", "law", defArgs s_law, defBody s_law, defScope s_law, [], []⟩
def fn0 : List He.DefD := [d_is_integer, d_is_number, d_is_index, d_is_among, d_is_name, d_is_tuple_of, d_are_rising, d_is_names, d_is_names_among, d_are_sets_among, d_are_indexes, d_are_numbers, d_machine_fault, d_is_triple_from, d_trust_fault, d_order_fault, d_gaps_by, d_triangle_fault, d_clocks_fault, d_are_promises]
def fn1 : List He.DefD := [d_is_looking, d_is_looking_of, d_rules_fault, d_parts_fault, d_is_trust, d_is_book, d_meets_in, d_joint_in, d_houses_in, d_lots_of, d_fears_of, d_is_within, d_less_by, d_least_of, d_greatest_of, d_is_safe_by, d_safe_by, d_falls_by, d_pairs_in, d_lot_at]
def fn2 : List He.DefD := [d_needs_by, d_first_missed_by, d_is_met, d_crossings_by, d_is_house_of, d_are_houses_of, d_want, d_want_book, d_want_age, d_want_trust, d_want_house, d_want_lot, d_needs_of, d_meets_needs, d_first_missed, d_least_lots, d_fewest_lot, d_safe_houses, d_want_rule, d_answer_in]
def fn3 : List He.DefD := [d_rows_from, d_rows_in, d_unlike_from, d_kept_within, d_longest_from, d_least_age_in, d_moves_in, d_lasting_in, d_caught_in, d_moving_in, d_lacks_in, d_rule_lacks, d_rule_is_right, d_law_feed, d_law_draw, d_law_any, d_law_same, d_law_within, d_law_less, d_law_subsets]
def fn4 : List He.DefD := [d_law_guild, d_law_safe, d_law_safes, d_law_minimal, d_law_needs, d_law_meets, d_law_motor, d_law_least, d_law_are_needs_right, d_law_are_asks_right, d_law_right, d_law]
def fn : List He.DefD := fn0 ++ fn1 ++ fn2 ++ fn3 ++ fn4
def fa0 : List He.Fa := [.glo "is_integer", .glo "is_number", .glo "is_index", .glo "is_among", .glo "is_name", .glo "is_tuple_of", .glo "are_rising", .glo "is_names", .glo "is_names_among", .glo "are_sets_among", .glo "are_indexes", .glo "are_numbers", .glo "machine_fault", .glo "is_triple_from", .glo "trust_fault", .glo "order_fault", .glo "gaps_by", .glo "triangle_fault", .glo "clocks_fault", .glo "are_promises"]
def fa1 : List He.Fa := [.glo "is_looking", .glo "is_looking_of", .glo "rules_fault", .glo "parts_fault", .glo "is_trust", .glo "is_book", .glo "meets_in", .glo "joint_in", .glo "houses_in", .glo "lots_of", .glo "fears_of", .glo "is_within", .glo "less_by", .glo "least_of", .glo "greatest_of", .glo "is_safe_by", .glo "safe_by", .glo "falls_by", .glo "pairs_in", .glo "lot_at"]
def fa2 : List He.Fa := [.glo "needs_by", .glo "first_missed_by", .glo "is_met", .glo "crossings_by", .glo "is_house_of", .glo "are_houses_of", .glo "want", .glo "want_book", .glo "want_age", .glo "want_trust", .glo "want_house", .glo "want_lot", .glo "needs_of", .glo "meets_needs", .glo "first_missed", .glo "least_lots", .glo "fewest_lot", .glo "safe_houses", .glo "want_rule", .glo "answer_in"]
def fa3 : List He.Fa := [.glo "rows_from", .glo "rows_in", .glo "unlike_from", .glo "kept_within", .glo "longest_from", .glo "least_age_in", .glo "moves_in", .glo "lasting_in", .glo "caught_in", .glo "moving_in", .glo "lacks_in", .glo "rule_lacks", .glo "rule_is_right", .glo "_law_feed", .glo "_law_draw", .glo "_law_any", .glo "_law_same", .glo "_law_within", .glo "_law_less", .glo "_law_subsets"]
def fa4 : List He.Fa := [.glo "_law_guild", .glo "_law_safe", .glo "_law_safes", .glo "_law_minimal", .glo "_law_needs", .glo "_law_meets", .glo "_law_motor", .glo "_law_least", .glo "_law_are_needs_right", .glo "_law_are_asks_right", .glo "_law_right", .glo "law", .free "len", .free "any", .free "all", .free "tuple", .free "sorted", .free "set", .free "zip", .free "isinstance"]
def fa5 : List He.Fa := [.free "enumerate", .free "range", .free "list", .free "min", .free "max", .free "repr", .free "dict", .free "int", .free "str", .free "bool", .str "ANY" "any", .str "ALPHABET" "abcdefghijklmnopqrstuvwxyz", .int "MOST_SIGNS" 8]
def fa : List He.Fa := fa0 ++ fa1 ++ fa2 ++ fa3 ++ fa4 ++ fa5
def hnm0 : List PySem.Str := ["ALPHABET", "MOST_SIGNS", "ANY", "is_integer", "is_number", "is_index", "is_among", "is_name", "is_tuple_of", "is_pair", "are_rising", "is_names", "is_names_among", "are_sets_among", "are_indexes", "are_numbers", "machine_fault", "is_triple_from", "trust_fault", "is_gap"]
def hnm1 : List PySem.Str := ["order_fault", "gaps_by", "is_triangle", "triangle_fault", "clocks_fault", "are_promises", "is_looking", "is_waking", "is_looking_of", "is_waking_of", "rules_fault", "parts_fault", "is_trust", "is_book", "meets_in", "joint_in", "houses_in", "lots_of", "fears_of", "is_within"]
def hnm2 : List PySem.Str := ["less_by", "least_of", "greatest_of", "is_safe_by", "safe_by", "falls_by", "pairs_in", "lot_at", "needs_by", "first_missed_by", "is_met", "crossings_by", "is_house_of", "are_houses_of", "CopyError", "BookError", "NotUsable", "want", "want_book", "want_age"]
def hnm3 : List PySem.Str := ["want_trust", "want_house", "want_lot", "needs_of", "meets_needs", "first_missed", "least_lots", "fewest_lot", "safe_houses", "want_rule", "gap_in", "lasts_in", "answer_in", "rows_from", "rows_in", "unlike_from", "kept_within", "longest_from", "least_age_in", "moves_in"]
def hnm4 : List PySem.Str := ["lasting_in", "caught_in", "moving_in", "lacks_in", "rule_lacks", "rule_is_right", "_law_feed", "_law_draw", "_law_any", "_law_same", "_law_within", "_law_less", "_law_subsets", "_law_guild", "_law_safe", "_law_safes", "_law_minimal", "_law_needs", "_law_meets", "_law_motor"]
def hnm5 : List PySem.Str := ["_law_least", "_law_are_needs_right", "_law_are_asks_right", "_law_right"]
def hnm : List PySem.Str := hnm0 ++ hnm1 ++ hnm2 ++ hnm3 ++ hnm4 ++ hnm5
abbrev R : PySem.W.OpenRow := PySem.W.OpenLaw.row PySem.Challenge.rw_actasone_k60_whole_needs_by_all_falls
/-- forced evaluation of a part of the heap -/
def frK {α : Type} : PySem.W.Frag → (PySem.W.Frag → α) → α
  | [], k => k []
  | (a, o) :: r, k => match o with
    | ⟨c, d, dt, sl⟩ => frK r fun r' => HandSHeadRun.frNat a fun a' => k ((a', ⟨c, d, dt, sl⟩) :: r')
theorem frK_eq {α : Type} : ∀ (K : PySem.W.Frag) (k : PySem.W.Frag → α), frK K k = k K
  | [], _ => rfl
  | (a, o) :: r, k => by
    obtain ⟨c, d, dt, sl⟩ := o
    show frK r (fun r' => HandSHeadRun.frNat a fun a' => k ((a', ⟨c, d, dt, sl⟩) :: r')) = _
    rw [frK_eq r, HandSHeadRun.frNat_eq]
def adrs : List Addr := PySem.mainGlobals :: (List.range 661).filter fun a => !(a == PySem.mainGlobals)
/-- the Hook: what stands at the addresses as -/
def hookA (as : List Addr) (fa : List He.Fa) (fn : List He.DefD) : PySem.W.Hook where
  α := He.AlD
  obs := fun s => He.obsD fa fn (He.frG s.heap.get? as)
  val := fun _ => He.valD fn
  says := fun _ h => ∃ K : PySem.W.Frag, K.In h ∧ He.SaysD fa fn K
  of := fun _ _ e => ⟨_, He.frG_in, e⟩
  keeps := fun _ _ _ ⟨K, hK, c⟩ k => ⟨K, PySem.W.Frag.In.keeps hK k, c⟩
abbrev hk : PySem.W.Hook := hookA adrs fa fn
def ob (s : PySem.W.SharedT) : He.AlD := frK (He.frG (HandSHeadRun.getT s) adrs) fun K => He.obsD fa fn K
theorem ob_eq (s : PySem.W.SharedT) : ob s = hk.obs s.abs := by
  have e : HandSHeadRun.getT s = s.abs.heap.get? := funext (HandSHeadRun.getT_eq s)
  unfold ob
  rw [frK_eq, e]
  rfl
theorem run (w : World) : HandSHeadRun.RunEq R (PySem.W.view R.prog [121]) hk ob 6000 hnm w := by
  intro os
  kernel_rfl

end K60H

set_option maxHeartbeats 4000000
/-! K60, the data layer: what a reading evaluates to as data. Own work over HandS. -/
namespace K60
open PySem PySem.Spec PyProof.Rows L2

/-! ### values that read as data, all objects tracked -/
/-- not a machine's table -/
def noM : PyData → Bool
  | .tuple (.tuple (.int _ :: _) :: _) => false
  | _ => true
/-- the look of a machine -/
def isM (ds : List PyData) : Bool := decide (ds.length = 4) && match ds[2]? with
  | some d => !noM d
  | none => false
theorem isM_of {ds : List PyData} (h : ∀ d ∈ ds, noM d = true) : isM ds = false := by
  unfold isM
  cases e : ds[2]? with
  | none => simp
  | some d =>
    have z := h d (List.mem_of_getElem? e)
    simp [z]
theorem isM_len {ds : List PyData} (h : ds.length ≠ 4) : isM ds = false := by
  unfold isM
  rw [decide_eq_false h]
  rfl
/-- a machine's second item is an exact tuple, without a dict of its own -/
def Exa (H : Hp) (xs : List V) : Prop := ∃ a o ys, xs[1]? = some (.ref a) ∧ H a = some (.frz o (.tup ys)) ∧ o.dict = none
mutual
inductive Rp (H : Hp) : V → PyData → Prop
  | non : Rp H .non .none
  | bl (b : Bool) : Rp H (.bl b) (.bool b)
  | int (i : Int) : Rp H (.int i) (.int i)
  | str (x : Str) : Rp H (.str x) (.str x)
  | lst {a : Addr} {xs : List V} {ds : List PyData} : H a = some (.lst xs) → RpL H xs ds → Rp H (.ref a) (.list ds)
  | tup {a : Addr} {xs : List V} {ds : List PyData} : Rd H a (.tup xs) → RpL H xs ds → (isM ds = true → Exa H xs) → Rp H (.ref a) (.tuple ds)
inductive RpL (H : Hp) : List V → List PyData → Prop
  | nil : RpL H [] []
  | cons {v : V} {vs : List V} {d : PyData} {ds : List PyData} : Rp H v d → RpL H vs ds → RpL H (v :: vs) (d :: ds)
end
/-- H' has all that H has -/
def Sub (H H' : Hp) : Prop := ∀ a o, H a = some o → H' a = some o
theorem Sub.refl (H : Hp) : Sub H H := fun _ _ h => h
theorem Sub.trans {H H1 H2 : Hp} (a : Sub H H1) (b : Sub H1 H2) : Sub H H2 := fun x o h => b x o (a x o h)
theorem Rd.mono {H H' : Hp} (e : Sub H H') {a : Addr} {u : HO} : Rd H a u → Rd H' a u
  | .inl h => .inl (e _ _ h)
  | .inr ⟨o, h⟩ => .inr ⟨o, e _ _ h⟩
theorem Exa.mono {H H' : Hp} (e : Sub H H') {xs : List V} : Exa H xs → Exa H' xs := fun ⟨a, o, ys, h1, h2, h3⟩ => ⟨a, o, ys, h1, e _ _ h2, h3⟩
mutual
theorem Rp.mono {H H' : Hp} (e : Sub H H') : ∀ {v : V} {d : PyData}, Rp H v d → Rp H' v d
  | _, _, .non => .non
  | _, _, .bl b => .bl b
  | _, _, .int i => .int i
  | _, _, .str x => .str x
  | _, _, .lst h r => .lst (e _ _ h) (RpL.mono e r)
  | _, _, .tup h r c => .tup (Rd.mono e h) (RpL.mono e r) fun z => (c z).mono e
theorem RpL.mono {H H' : Hp} (e : Sub H H') : ∀ {vs : List V} {ds : List PyData}, RpL H vs ds → RpL H' vs ds
  | _, _, .nil => .nil
  | _, _, .cons h r => .cons (Rp.mono e h) (RpL.mono e r)
end
mutual
theorem Rp.dp {K : PySem.W.Frag} {H : Hp} : ∀ {v : V} {d : PyData}, Rp H v d → Dp K H v d
  | _, _, .non => .non
  | _, _, .bl b => .bl b
  | _, _, .int i => .int i
  | _, _, .str x => .str x
  | _, _, .lst h r => .lst (.inl (.inl h)) (RpL.dp r)
  | _, _, .tup h r _ => .tup (.inl h) (RpL.dp r)
theorem RpL.dp {K : PySem.W.Frag} {H : Hp} : ∀ {vs : List V} {ds : List PyData}, RpL H vs ds → DpAll K H vs ds
  | _, _, .nil => .nil
  | _, _, .cons h r => .cons (Rp.dp h) (RpL.dp r)
end
theorem RpL.len {H : Hp} : ∀ {vs : List V} {ds : List PyData}, RpL H vs ds → vs.length = ds.length
  | _, _, .nil => rfl
  | _, _, .cons _ r => congrArg Nat.succ (RpL.len r)
theorem RpL.at {H : Hp} : ∀ {vs : List V} {ds : List PyData} {i : Nat} {v : V}, RpL H vs ds → vs[i]? = some v → ∃ d, ds[i]? = some d ∧ Rp H v d
  | _, _, _, _, .nil, h => by simp at h
  | _, _, 0, _, .cons r _, h => by
    have e := Option.some.inj h
    subst e
    exact ⟨_, rfl, r⟩
  | _, _, i + 1, v, .cons _ t, h => RpL.at (i := i) (v := v) t h
theorem RpL.get {H : Hp} : ∀ {vs : List V} {ds : List PyData} {i : Nat} {d : PyData}, RpL H vs ds → ds[i]? = some d → ∃ v, vs[i]? = some v ∧ Rp H v d
  | _, _, _, _, .nil, h => by simp at h
  | _, _, 0, _, .cons r _, h => by
    have e := Option.some.inj h
    subst e
    exact ⟨_, rfl, r⟩
  | _, _, i + 1, d, .cons _ t, h => RpL.get (i := i) (d := d) t h
theorem RpL.app {H : Hp} : ∀ {vs us : List V} {ds es : List PyData}, RpL H vs ds → RpL H us es → RpL H (vs ++ us) (ds ++ es)
  | _, _, _, _, .nil, s => s
  | _, _, _, _, .cons r t, s => .cons r (RpL.app t s)
theorem RpL.take {H : Hp} : ∀ {vs : List V} {ds : List PyData} (n : Nat), RpL H vs ds → RpL H (vs.take n) (ds.take n)
  | _, _, 0, _ => .nil
  | _, _, _ + 1, .nil => .nil
  | _, _, n + 1, .cons r t => .cons r (RpL.take n t)
theorem RpL.drop {H : Hp} : ∀ {vs : List V} {ds : List PyData} (n : Nat), RpL H vs ds → RpL H (vs.drop n) (ds.drop n)
  | _, _, 0, r => r
  | _, _, _ + 1, .nil => .nil
  | _, _, n + 1, .cons _ t => RpL.drop n t
section
variable {H : Hp} {v : V} {ds : List PyData} {x : Str} {i : Int} {b : Bool}
theorem Rp.list_inv (h : Rp H v (.list ds)) : ∃ a xs, v = .ref a ∧ H a = some (.lst xs) ∧ RpL H xs ds := by
  cases h with
  | lst h r => exact ⟨_, _, rfl, h, r⟩
theorem Rp.mkT {a : Addr} {xs : List V} (h : H a = some (.tup xs)) (r : RpL H xs ds) (nm : isM ds = false) : Rp H (.ref a) (.tuple ds) := .tup (.inl h) r fun z => by
  rw [nm] at z
  cases z
theorem Rp.tup_inv (h : Rp H v (.tuple ds)) : ∃ a xs, v = .ref a ∧ Rd H a (.tup xs) ∧ RpL H xs ds := by
  cases h with
  | tup h r _ => exact ⟨_, _, rfl, h, r⟩
theorem Rp.exa (h : Rp H v (.tuple ds)) (m : isM ds = true) : ∃ a xs, v = .ref a ∧ Rd H a (.tup xs) ∧ RpL H xs ds ∧ Exa H xs := by
  cases h with
  | tup h r c => exact ⟨_, _, rfl, h, r, c m⟩
theorem Rp.str_inv (h : Rp H v (.str x)) : v = .str x := by cases h; rfl
theorem Rp.int_inv (h : Rp H v (.int i)) : v = .int i := by cases h; rfl
theorem Rp.bool_inv (h : Rp H v (.bool b)) : v = .bl b := by cases h; rfl
theorem Rp.none_inv (h : Rp H v .none) : v = .non := by cases h; rfl
end
theorem RpL.strs {H : Hp} : ∀ {vs : List V} {xs : List Str}, RpL H vs (xs.map PyData.str) → vs = xs.map V.str
  | _, [], .nil => rfl
  | _, x :: xs, .cons h r => by rw [Rp.str_inv h, RpL.strs r]; rfl
theorem RpL.ints {H : Hp} : ∀ {vs : List V} {xs : List Int}, RpL H vs (xs.map PyData.int) → vs = xs.map V.int
  | _, [], .nil => rfl
  | _, x :: xs, .cons h r => by rw [Rp.int_inv h, RpL.ints r]; rfl
theorem RpL.bools {H : Hp} : ∀ {vs : List V} {xs : List Bool}, RpL H vs (xs.map PyData.bool) → vs = xs.map V.bl
  | _, [], .nil => rfl
  | _, x :: xs, .cons h r => by rw [Rp.bool_inv h, RpL.bools r]; rfl
theorem RpL.ofStrs {H : Hp} : ∀ (xs : List Str), RpL H (xs.map V.str) (xs.map PyData.str)
  | [] => .nil
  | x :: xs => .cons (.str x) (RpL.ofStrs xs)
theorem RpL.ofInts {H : Hp} : ∀ (xs : List Int), RpL H (xs.map V.int) (xs.map PyData.int)
  | [] => .nil
  | x :: xs => .cons (.int x) (RpL.ofInts xs)

/-- a table: keys, data -/
inductive RpT (H : Hp) : List (Key × V) → List (Key × PyData) → Prop
  | nil : RpT H [] []
  | cons {k : Key} {v : V} {d : PyData} {vs : List (Key × V)} {ds : List (Key × PyData)} : Rp H v d → RpT H vs ds → RpT H ((k, v) :: vs) ((k, d) :: ds)
theorem RpT.mono {H H' : Hp} (e : Sub H H') : ∀ {vs : List (Key × V)} {ds : List (Key × PyData)}, RpT H vs ds → RpT H' vs ds
  | _, _, .nil => .nil
  | _, _, .cons h r => .cons (Rp.mono e h) (RpT.mono e r)

/-! ### what is hidden: own lists that may change, the feed -/
def hid (H : Hp) (O : List Addr) : Hp := fun a => if a ∈ O then none else H a
theorem hid_get {H : Hp} {O : List Addr} {a : Addr} {o : HO} (h : hid H O a = some o) : H a = some o ∧ a ∉ O := by
  unfold hid at h
  by_cases m : a ∈ O
  · rw [if_pos m] at h
    cases h
  · rw [if_neg m] at h
    exact ⟨h, m⟩
theorem rd_get {H : Hp} {O : List Addr} {a : Addr} {u : HO} (h : Rd (hid H O) a u) : Rd H a u ∧ a ∉ O := by
  rcases h with h | ⟨o, h⟩
  · exact ⟨.inl (hid_get h).1, (hid_get h).2⟩
  · exact ⟨.inr ⟨o, (hid_get h).1⟩, (hid_get h).2⟩
theorem hid_of {H : Hp} {O : List Addr} {a : Addr} {o : HO} (h : H a = some o) (m : a ∉ O) : hid H O a = some o := by
  unfold hid
  rw [if_neg m]
  exact h
theorem hid_sub (H : Hp) (O : List Addr) : Sub (hid H O) H := fun _ _ h => (hid_get h).1
/-- less is hidden -/
theorem hid_less {H : Hp} {O O' : List Addr} (h : ∀ a ∈ O', a ∈ O) : Sub (hid H O) (hid H O') := fun a o e => hid_of (hid_get e).1 fun m => (hid_get e).2 (h a m)
/-- the feed's dict, its list of cells -/
abbrev Fe := Addr × Addr
/-- the law's feed at f -/
def FeedAt (H : Hp) (f : Fe) : Prop := ∃ (ns : List Int) (spot rest count : Int), ns.length ≤ 63 ∧
  H f.1 = some (.dK [(Sum.inr "cells", .ref f.2), (Sum.inr "spot", .int spot), (Sum.inr "rest", .int rest), (Sum.inr "count", .int count)]) ∧ H f.2 = some (.lst (ns.map V.int))
/-- the world of the law: the feed at f, what is hidden is tracked -/
structure Wd (f : Fe) (O : List Addr) (H : Hp) : Prop where
  feed : FeedAt H f
  fO : f.1 ∈ O
  tr : ∀ p ∈ O, H p ≠ none
/-- all but the feed stays, the feed is a feed -/
structure Ext (f : Fe) (H H' : Hp) : Prop where
  keep : ∀ a o, a ≠ f.1 → H a = some o → H' a = some o
  feed : FeedAt H' f
section
variable {f : Fe} {p : Addr} {O : List Addr} {H H' H1 H2 : Hp} {o : HO}
theorem Ext.refl (h : FeedAt H f) : Ext f H H := ⟨fun _ _ _ h => h, h⟩
theorem Wd.refl (w : Wd f O H) : Ext f H H := .refl w.feed
theorem Ext.trans (a : Ext f H H1) (b : Ext f H1 H2) : Ext f H H2 := ⟨fun x o n h => b.keep x o n (a.keep x o n h), b.feed⟩
theorem FeedAt.there (h : FeedAt H f) : H f.1 ≠ none := by
  obtain ⟨ns, i, r, k, _, e, _⟩ := h
  rw [e]
  exact fun z => nomatch z
theorem Wd.ext (w : Wd f O H) (e : Ext f H H') : Wd f O H' := ⟨e.feed, w.fO, fun q hq z => by
  by_cases hf : q = f.1
  · subst hf
    exact e.feed.there z
  · cases h : H q with
    | none => exact w.tr q hq h
    | some o =>
      rw [e.keep q o hf h] at z
      cases z⟩
theorem Ext.hid (e : Ext f H H') (hf : f.1 ∈ O) : Sub (hid H O) (hid H' O) := fun a o h => by
  obtain ⟨h1, h2⟩ := hid_get h
  exact hid_of (e.keep a o (fun z => h2 (by rw [z]; exact hf)) h1) h2
theorem FeedAt.new (h : FeedAt H f) (hp : H p = none) : FeedAt (upd H p o) f := by
  obtain ⟨ns, i, r, k, l, e, e2⟩ := h
  refine ⟨ns, i, r, k, l, ?_, ?_⟩
  · rw [upd_ne (ne_of_none e hp)]
    exact e
  · rw [upd_ne (ne_of_none e2 hp)]
    exact e2
theorem Wd.new (w : Wd f O H) (hp : H p = none) : Ext f H (upd H p o) := ⟨fun a u n h => by
  rw [upd_ne (ne_of_none h hp)]
  exact h, w.feed.new hp⟩
theorem Wd.fresh (w : Wd f O H) (hp : H p = none) : p ∉ O := fun m => w.tr p m hp
/-- a new object under the hidden -/
theorem Wd.hnew (w : Wd f O H) (hp : H p = none) : K60.hid (upd H p o) O p = some o := hid_of upd_same (w.fresh hp)
end

/-! ### what is known of a value; of the slots -/
inductive Sl where
  | no
  | dat (d : PyData)
  | raw (v : V)
  | tab (kvs : List (Key × PyData))
def VR (O : List Addr) (H : Hp) (v : V) : Sl → Prop
  | .no => True
  | .dat d => Rp (hid H O) v d
  | .raw u => v = u
  | .tab kvs => ∃ a vs, v = .ref a ∧ hid H O a = some (.dK vs) ∧ RpT (hid H O) vs kvs
def SR (O : List Addr) (H : Hp) (x : Option V) : Sl → Prop
  | .no => True
  | .dat d => ∃ v, x = some v ∧ Rp (hid H O) v d
  | .raw u => x = some u
  | .tab kvs => ∃ a vs, x = some (.ref a) ∧ hid H O a = some (.dK vs) ∧ RpT (hid H O) vs kvs
theorem VR.sr {O : List Addr} {H : Hp} {v : V} {s : Sl} (h : VR O H v s) : SR O H (some v) s := by
  cases s with
  | no => trivial
  | dat d => exact ⟨v, rfl, h⟩
  | raw u => exact congrArg some h
  | tab kvs =>
    obtain ⟨a, vs, e, h, r⟩ := h
    exact ⟨a, vs, congrArg some e, h, r⟩
theorem VR.mono {O O' : List Addr} {H H' : Hp} {v : V} {s : Sl} (e : Sub (hid H O) (hid H' O')) (h : VR O H v s) : VR O' H' v s := by
  cases s with
  | no => trivial
  | dat d => exact Rp.mono e h
  | raw u => exact h
  | tab kvs =>
    obtain ⟨a, vs, e1, h, r⟩ := h
    exact ⟨a, vs, e1, e _ _ h, r.mono e⟩
theorem SR.mono {O O' : List Addr} {H H' : Hp} {x : Option V} {s : Sl} (e : Sub (hid H O) (hid H' O')) (h : SR O H x s) : SR O' H' x s := by
  cases s with
  | no => trivial
  | dat d =>
    obtain ⟨v, hv, h⟩ := h
    exact ⟨v, hv, Rp.mono e h⟩
  | raw u => exact h
  | tab kvs =>
    obtain ⟨a, vs, e1, h, r⟩ := h
    exact ⟨a, vs, e1, e _ _ h, r.mono e⟩
def VRs (O : List Addr) (H : Hp) : List V → List Sl → Prop
  | [], [] => True
  | v :: vs, s :: ss => VR O H v s ∧ VRs O H vs ss
  | _, _ => False
def EnvR (O : List Addr) (H : Hp) : List (Option V) → List Sl → Prop
  | [], [] => True
  | x :: σ, s :: ρ => SR O H x s ∧ EnvR O H σ ρ
  | _, _ => False
theorem VRs.mono {O O' : List Addr} {H H' : Hp} (e : Sub (hid H O) (hid H' O')) : ∀ {vs : List V} {ss : List Sl}, VRs O H vs ss → VRs O' H' vs ss
  | [], [], _ => trivial
  | _ :: _, _ :: _, h => ⟨h.1.mono e, VRs.mono e h.2⟩
  | [], _ :: _, h => h.elim
  | _ :: _, [], h => h.elim
theorem EnvR.mono {O O' : List Addr} {H H' : Hp} (e : Sub (hid H O) (hid H' O')) : ∀ {σ : List (Option V)} {ρ : List Sl}, EnvR O H σ ρ → EnvR O' H' σ ρ
  | [], [], _ => trivial
  | _ :: _, _ :: _, h => ⟨h.1.mono e, EnvR.mono e h.2⟩
  | [], _ :: _, h => h.elim
  | _ :: _, [], h => h.elim
theorem EnvR.get {O : List Addr} {H : Hp} : ∀ {σ : List (Option V)} {ρ : List Sl} {i : Nat} {s : Sl}, EnvR O H σ ρ → ρ[i]? = some s → ∃ x, σ[i]? = some x ∧ SR O H x s
  | [], [], i, s, _, e => by simp at e
  | x :: σ, t :: ρ, 0, s, h, e => by
    have q := Option.some.inj e
    subst q
    exact ⟨x, rfl, h.1⟩
  | x :: σ, t :: ρ, i + 1, s, h, e => EnvR.get (i := i) (s := s) h.2 e
  | [], _ :: _, _, _, h, _ => h.elim
  | _ :: _, [], _, _, h, _ => h.elim
theorem EnvR.set {O : List Addr} {H : Hp} : ∀ {σ : List (Option V)} {ρ : List Sl} (i : Nat) {x : Option V} {s : Sl}, EnvR O H σ ρ → SR O H x s → EnvR O H (σ.set i x) (ρ.set i s)
  | [], [], _, _, _, _, _ => trivial
  | _ :: _, _ :: _, 0, _, _, h, r => ⟨r, h.2⟩
  | _ :: _, _ :: _, i + 1, _, _, h, r => ⟨h.1, EnvR.set i h.2 r⟩
  | [], _ :: _, _, _, _, h, _ => h.elim
  | _ :: _, [], _, _, _, h, _ => h.elim
theorem EnvR.start {O : List Addr} {H : Hp} {n : Nat} : ∀ {vs : List V} {ss : List Sl}, VRs O H vs ss → EnvR O H (vs.map some ++ List.replicate n none) (ss ++ List.replicate n .no)
  | [], [], _ => by
    show EnvR O H (List.replicate n none) (List.replicate n .no)
    induction n with
    | zero => trivial
    | succ n ih => exact ⟨trivial, ih⟩
  | _ :: _, _ :: _, h => ⟨h.1.sr, EnvR.start h.2⟩
  | [], _ :: _, h => h.elim
  | _ :: _, [], h => h.elim
theorem VRs.len {O : List Addr} {H : Hp} : ∀ {vs : List V} {ss : List Sl}, VRs O H vs ss → vs.length = ss.length
  | [], [], _ => rfl
  | _ :: _, _ :: _, h => congrArg Nat.succ (VRs.len h.2)
  | [], _ :: _, h => h.elim
  | _ :: _, [], h => h.elim
theorem VRs.app {O : List Addr} {H : Hp} : ∀ {vs us : List V} {ss ts : List Sl}, VRs O H vs ss → VRs O H us ts → VRs O H (vs ++ us) (ss ++ ts)
  | [], _, [], _, _, k => k
  | _ :: _, _, _ :: _, _, h, k => ⟨h.1, VRs.app h.2 k⟩
  | [], _, _ :: _, _, h, _ => h.elim
  | _ :: _, _, [], _, h, _ => h.elim
theorem VRs.dats {O : List Addr} {H : Hp} : ∀ {vs : List V} {ds : List PyData}, RpL (hid H O) vs ds → VRs O H vs (ds.map .dat)
  | _, _, .nil => trivial
  | _, _, .cons h r => ⟨h, VRs.dats r⟩
theorem VRs.ofDats {O : List Addr} {H : Hp} : ∀ {vs : List V} {ds : List PyData}, VRs O H vs (ds.map .dat) → RpL (hid H O) vs ds
  | [], [], _ => .nil
  | _ :: _, _ :: _, h => .cons h.1 (VRs.ofDats h.2)
  | [], _ :: _, h => h.elim
  | _ :: _, [], h => h.elim
/-- the slots of a block's own names forgotten -/
def wipeS (ρ : List Sl) : List Nat → List Sl
  | [] => ρ
  | v :: vs => (wipeS ρ vs).set v .no
theorem EnvR.wipe {O : List Addr} {H : Hp} {σ : List (Option V)} {ρ : List Sl} (h : EnvR O H σ ρ) : ∀ vs : List Nat, EnvR O H (L2.wipe σ vs) (wipeS ρ vs)
  | [] => h
  | v :: vs => EnvR.set v (EnvR.wipe h vs) trivial
theorem wipe_set {σ : List (Option V)} {x : Option V} : ∀ {vs : List Nat} {j : Nat}, j ∈ vs → L2.wipe (σ.set j x) vs = L2.wipe σ vs := by
  intro vs
  induction vs generalizing σ with
  | nil => intro j h; cases h
  | cons v vs ih =>
    intro j h
    have comm : ∀ (ws : List Nat) (τ : List (Option V)), v ∉ ws ∨ True := fun _ _ => .inr trivial
    by_cases hj : j ∈ vs
    · show (L2.wipe (σ.set j x) vs).set v none = (L2.wipe σ vs).set v none
      rw [ih hj]
    · have e : j = v := by
        rcases List.mem_cons.mp h with e | e
        · exact e
        · exact absurd e hj
      subst e
      show (L2.wipe (σ.set j x) vs).set j none = (L2.wipe σ vs).set j none
      have aux : ∀ (ws : List Nat) (τ : List (Option V)) (y : Option V), (L2.wipe (τ.set j y) ws).set j none = (L2.wipe τ ws).set j none := by
        intro ws
        induction ws with
        | nil =>
          intro τ y
          show (τ.set j y).set j none = τ.set j none
          rw [List.set_set]
        | cons w ws ih2 =>
          intro τ y
          show ((L2.wipe (τ.set j y) ws).set w none).set j none = ((L2.wipe τ ws).set w none).set j none
          by_cases hw : w = j
          · subst hw
            rw [List.set_set, List.set_set]
            exact ih2 τ y
          · rw [List.set_comm _ _ (Ne.symm (Ne.symm hw)), ih2, List.set_comm _ _ (Ne.symm hw)]
      exact aux vs σ x
theorem wipe_wipe (σ : List (Option V)) : ∀ vs : List Nat, L2.wipe (L2.wipe σ vs) vs = L2.wipe σ vs := by
  intro vs
  have gen : ∀ ws, (∀ w ∈ ws, w ∈ vs) → L2.wipe (L2.wipe σ ws) vs = L2.wipe σ vs := by
    intro ws
    induction ws with
    | nil => intro _; rfl
    | cons w ws ih =>
      intro h
      show L2.wipe ((L2.wipe σ ws).set w none) vs = _
      rw [wipe_set (h w (List.mem_cons_self ..))]
      exact ih fun x hx => h x (List.mem_cons_of_mem _ hx)
  exact gen vs fun _ h => h

/-! ### judgements over what is known -/
/-- an expression: from the slots ρ it ends, with a value of which P is known, nothing lost -/
def DE (f : Fe) (te : TE) (ρ : List Sl) (P : Sl → Prop) : Prop := ∀ (O : List Addr) (σ : L2.St) (H : Hp), Wd f O H → EnvR O H σ ρ → ∀ Q : VK, (∀ v H' s, Ext f H H' → P s → VR O H' v s → Q v H') → te σ H Q
def DT (f : Fe) (tt : TT) (ρ : List Sl) (P : Bool → Prop) : Prop := ∀ (O : List Addr) (σ : L2.St) (H : Hp), Wd f O H → EnvR O H σ ρ → ∀ Q : Bool → Hp → Prop, (∀ b H', Ext f H H' → P b → Q b H') → tt σ H Q
def DA (f : Fe) (ta : TA) (ρ : List Sl) (P : List Sl → Prop) : Prop := ∀ (O : List Addr) (σ : L2.St) (H : Hp), Wd f O H → EnvR O H σ ρ → ∀ Q : List V → Hp → Prop, (∀ vs H' ss, Ext f H H' → P ss → VRs O H' vs ss → Q vs H') → ta σ H Q
def DR2 (f : Fe) (r : R2) (s t : Sl) (P : Sl → Prop) : Prop := ∀ (O : List Addr) (H : Hp) (x y : V), Wd f O H → VR O H x s → VR O H y t → ∀ Q : VK, (∀ v H' u, Ext f H H' → P u → VR O H' v u → Q v H') → r x y H Q
def DR1 (f : Fe) (r : V → Hp → VK → Prop) (s : Sl) (P : Sl → Prop) : Prop := ∀ (O : List Addr) (H : Hp) (x : V), Wd f O H → VR O H x s → ∀ Q : VK, (∀ v H' u, Ext f H H' → P u → VR O H' v u → Q v H') → r x H Q
def DRC (f : Fe) (r : List V → Hp → VK → Prop) (ss : List Sl) (P : Sl → Prop) : Prop := ∀ (O : List Addr) (H : Hp) (vs : List V), Wd f O H → VRs O H vs ss → ∀ Q : VK, (∀ v H' u, Ext f H H' → P u → VR O H' v u → Q v H') → r vs H Q
section
variable {f : Fe} {te ta tb : TE} {tt uu : TT} {tA : TA} {ρ : List Sl} {P P' Pa Pb : Sl → Prop} {B Ba Bb : Bool → Prop} {L : List Sl → Prop} {s t : Sl} {r : R2}
theorem DE.imp (h : DE f te ρ P) (k : ∀ s, P s → P' s) : DE f te ρ P' := fun O σ H w e Q q => h O σ H w e Q fun v H' s x p => q v H' s x (k s p)
theorem DT.imp (h : DT f tt ρ Ba) (k : ∀ b, Ba b → Bb b) : DT f tt ρ Bb := fun O σ H w e Q q => h O σ H w e Q fun v H' x p => q v H' x (k v p)
theorem de_var {i : Nat} (hi : ρ[i]? = some s) (hn : s ≠ .no) (p : P s) : DE f (tVar i) ρ P := fun O σ H w e Q q => by
  obtain ⟨x, hx, r⟩ := e.get hi
  cases s with
  | no => exact absurd rfl hn
  | dat d =>
    obtain ⟨v, rfl, r⟩ := r
    exact ⟨v, hx, q v H (.dat d) w.refl p r⟩
  | raw u => exact ⟨u, by rw [hx]; exact congrArg some r, q u H (.raw u) w.refl p rfl⟩
  | tab kvs =>
    obtain ⟨a, vs, rfl, r⟩ := r
    exact ⟨.ref a, hx, q _ H (.tab kvs) w.refl p ⟨a, vs, rfl, r⟩⟩
theorem dv_var {i : Nat} {d : PyData} (hi : ρ[i]? = some (.dat d)) : DE f (tVar i) ρ (· = .dat d) := de_var hi (fun z => nomatch z) rfl
theorem dv_raw {i : Nat} {v : V} (hi : ρ[i]? = some (.raw v)) : DE f (tVar i) ρ (· = .raw v) := de_var hi (fun z => nomatch z) rfl
theorem dv_int {i : Int} : DE f (tC (.int i)) ρ (· = .dat (.int i)) := fun O σ H w e Q q => q _ H _ w.refl rfl (Rp.int i)
theorem dv_str {x : Str} : DE f (tC (.str x)) ρ (· = .dat (.str x)) := fun O σ H w e Q q => q _ H _ w.refl rfl (Rp.str x)
theorem dv_bl {b : Bool} : DE f (tC (.bl b)) ρ (· = .dat (.bool b)) := fun O σ H w e Q q => q _ H _ w.refl rfl (Rp.bl b)
theorem dv_non : DE f (tC .non) ρ (· = .dat .none) := fun O σ H w e Q q => q _ H _ w.refl rfl Rp.non
/-- two operands -/
theorem de_op (ha : DE f ta ρ Pa) (hb : DE f tb ρ Pb) (hr : ∀ s t, Pa s → Pb t → DR2 f r s t P) : DE f (tOp r ta tb) ρ P := fun O σ H w e Q q =>
  ha O σ H w e _ fun v H1 s x1 p1 r1 => hb O σ H1 (w.ext x1) (e.mono (x1.hid w.fO)) _ fun u H2 t x2 p2 r2 =>
    hr s t p1 p2 O H2 v u ((w.ext x1).ext x2) (r1.mono (x2.hid w.fO)) r2 Q fun y H3 z x3 p3 r3 => q y H3 z ((x1.trans x2).trans x3) p3 r3
theorem dv_op (ha : DE f ta ρ (· = s)) (hb : DE f tb ρ (· = t)) (hr : DR2 f r s t P) : DE f (tOp r ta tb) ρ P := de_op ha hb fun a b ea eb => by
  subst ea eb
  exact hr
theorem de_un {r : V → Hp → VK → Prop} (ha : DE f ta ρ Pa) (hr : ∀ s, Pa s → DR1 f r s P) : DE f (tUn r ta) ρ P := fun O σ H w e Q q =>
  ha O σ H w e _ fun v H1 s x1 p1 r1 => hr s p1 O H1 v (w.ext x1) r1 Q fun y H3 z x3 p3 r3 => q y H3 z (x1.trans x3) p3 r3
/-- argument lists -/
theorem da_nil (p : L []) : DA f tNil ρ L := fun O σ H w e Q q => q [] H [] w.refl p trivial
theorem da_cons {L' : Sl → List Sl → Prop} (ha : DE f ta ρ Pa) (hr : ∀ s, Pa s → DA f tA ρ fun ss => L (s :: ss)) : DA f (tCons ta tA) ρ L := fun O σ H w e Q q =>
  ha O σ H w e _ fun v H1 s x1 p1 r1 => hr s p1 O σ H1 (w.ext x1) (e.mono (x1.hid w.fO)) _ fun vs H2 ss x2 p2 r2 => q (v :: vs) H2 (s :: ss) (x1.trans x2) p2 ⟨r1.mono (x2.hid w.fO), r2⟩
theorem dw_nil : DA f tNil ρ (· = []) := da_nil rfl
theorem dw_cons {ss : List Sl} (ha : DE f ta ρ (· = s)) (hr : DA f tA ρ (· = ss)) : DA f (tCons ta tA) ρ (· = s :: ss) := da_cons (L' := fun _ _ => True) ha fun a ea O σ H w e Q q => by
  subst ea
  exact hr O σ H w e Q fun vs H' ts x p r => q vs H' ts x (congrArg (List.cons a) p) r
/-- *e -/
theorem dw_star {K : PySem.W.Frag} {ds : List PyData} {ss : List Sl} (ha : DE f ta ρ (· = .dat (.list ds))) (hr : DA f tA ρ (· = ss)) : DA f (StX.tStar K ta tA) ρ (· = ds.map .dat ++ ss) := fun O σ H w e Q q =>
  ha O σ H w e _ fun v H1 s x1 p1 r1 => by
    subst p1
    obtain ⟨a, xs, rfl, h, rl⟩ := Rp.list_inv r1
    exact ⟨a, xs, rfl, .inr (.inl (.inl (hid_get h).1)), hr O σ H1 (w.ext x1) (e.mono (x1.hid w.fO)) _ fun vs H2 ts x2 p2 r2 => q _ H2 _ (x1.trans x2) (congrArg (ds.map Sl.dat ++ ·) p2) (VRs.app ((VRs.dats rl).mono (x2.hid w.fO)) r2)⟩
theorem dw_starT {K : PySem.W.Frag} {ds : List PyData} {ss : List Sl} (ha : DE f ta ρ (· = .dat (.tuple ds))) (hr : DA f tA ρ (· = ss)) : DA f (StX.tStar K ta tA) ρ (· = ds.map .dat ++ ss) := fun O σ H w e Q q =>
  ha O σ H w e _ fun v H1 s x1 p1 r1 => by
    subst p1
    obtain ⟨a, xs, rfl, h, rl⟩ := Rp.tup_inv r1
    exact ⟨a, xs, rfl, .inl (.inl (rd_get h).1), hr O σ H1 (w.ext x1) (e.mono (x1.hid w.fO)) _ fun vs H2 ts x2 p2 r2 => q _ H2 _ (x1.trans x2) (congrArg (ds.map Sl.dat ++ ·) p2) (VRs.app ((VRs.dats rl).mono (x2.hid w.fO)) r2)⟩
/-- displays -/
theorem de_tup {ds : List PyData} (ha : DA f tA ρ (· = ds.map .dat)) (hz : ds.length ≤ 10000) (p : P (.dat (.tuple ds))) (nm : isM ds = false := by first | rfl | exact isM_len (by decide)) : DE f (tTup tA) ρ P := fun O σ H w e Q q =>
  ha O σ H w e _ fun vs H1 ss x1 p1 r1 => by
    subst p1
    have rl := VRs.ofDats r1
    refine ⟨by rw [rl.len]; exact Nat.le_trans hz (by decide), fun a ha => ?_⟩
    have w1 := w.ext x1
    exact q _ _ _ (x1.trans (w1.new ha)) p (.mkT (w1.hnew ha) (rl.mono ((w1.new ha).hid w.fO)) nm)
theorem de_lst {ds : List PyData} (ha : DA f tA ρ (· = ds.map .dat)) (hz : ds.length ≤ 10000) (p : P (.dat (.list ds))) : DE f (tLst tA) ρ P := fun O σ H w e Q q =>
  ha O σ H w e _ fun vs H1 ss x1 p1 r1 => by
    subst p1
    have rl := VRs.ofDats r1
    refine ⟨by rw [rl.len]; exact Nat.le_trans hz (by decide), fun a ha => ?_⟩
    have w1 := w.ext x1
    exact q _ _ _ (x1.trans (w1.new ha)) p (.lst (w1.hnew ha) (rl.mono ((w1.new ha).hid w.fO)))
/-- calls of built-ins -/
theorem de_cb {rc : List V → Hp → VK → Prop} (ha : DA f tA ρ L) (hr : ∀ ss, L ss → DRC f rc ss P) : DE f (tCB rc tA) ρ P := fun O σ H w e Q q =>
  ha O σ H w e _ fun vs H1 ss x1 p1 r1 => hr ss p1 O H1 vs (w.ext x1) r1 Q fun y H3 z x3 p3 r3 => q y H3 z (x1.trans x3) p3 r3
theorem dv_cb {rc : List V → Hp → VK → Prop} {ss : List Sl} (ha : DA f tA ρ (· = ss)) (hr : DRC f rc ss P) : DE f (tCB rc tA) ρ P := de_cb ha fun ts e => by
  subst e
  exact hr
/-- tests -/
theorem dt_test (h : DE f te ρ fun s => ∃ b, s = .dat (.bool b) ∧ B b) : DT f (tTest te) ρ B := fun O σ H w e Q q => h O σ H w e _ fun v H1 s x p r => by
  obtain ⟨b, rfl, pb⟩ := p
  exact ⟨b, Rp.bool_inv r, q b H1 x pb⟩
theorem dt_B (h : DE f te ρ fun s => ∃ b, s = .dat (.bool b) ∧ B b) : DT f (tB te) ρ B := fun O σ H w e Q q => h O σ H w e _ fun v H1 s x p r => by
  obtain ⟨b, rfl, pb⟩ := p
  exact ⟨b, Rp.bool_inv r, q b H1 x pb⟩
theorem tv_test {b : Bool} (h : DE f te ρ (· = .dat (.bool b))) : DT f (tTest te) ρ (· = b) := dt_test (h.imp fun s e => ⟨b, e, rfl⟩)
theorem tv_B {b : Bool} (h : DE f te ρ (· = .dat (.bool b))) : DT f (tB te) ρ (· = b) := dt_B (h.imp fun s e => ⟨b, e, rfl⟩)
theorem dt_and (h1 : DT f tt ρ Ba) (h2 : Ba true → DT f uu ρ B) (h3 : Ba false → B false) : DT f (tAnd tt uu) ρ B := fun O σ H w e Q q => h1 O σ H w e _ fun b H1 x p => by
  cases b with
  | true =>
    show uu σ H1 Q
    exact h2 p O σ H1 (w.ext x) (e.mono (x.hid w.fO)) Q fun c H2 y p2 => q c H2 (x.trans y) p2
  | false =>
    show Q false H1
    exact q false H1 x (h3 p)
theorem dt_or (h1 : DT f tt ρ Ba) (h2 : Ba false → DT f uu ρ B) (h3 : Ba true → B true) : DT f (tOr tt uu) ρ B := fun O σ H w e Q q => h1 O σ H w e _ fun b H1 x p => by
  cases b with
  | false =>
    show uu σ H1 Q
    exact h2 p O σ H1 (w.ext x) (e.mono (x.hid w.fO)) Q fun c H2 y p2 => q c H2 (x.trans y) p2
  | true =>
    show Q true H1
    exact q true H1 x (h3 p)
theorem dt_not (h1 : DT f tt ρ fun b => B (!b)) : DT f (tNot tt) ρ B := fun O σ H w e Q q => h1 O σ H w e _ fun b H1 x p => q (!b) H1 x p
theorem tv_and {a b : Bool} (h1 : DT f tt ρ (· = a)) (h2 : a = true → DT f uu ρ (· = b)) : DT f (tAnd tt uu) ρ (· = (a && b)) := by
  cases a with
  | true => exact dt_and h1 (fun _ => h2 rfl) (fun z => nomatch z)
  | false => exact dt_and h1 (fun z => nomatch z) (fun _ => rfl)
theorem tv_or {a b : Bool} (h1 : DT f tt ρ (· = a)) (h2 : a = false → DT f uu ρ (· = b)) : DT f (tOr tt uu) ρ (· = (a || b)) := by
  cases a with
  | false => exact dt_or h1 (fun _ => h2 rfl) (fun z => nomatch z)
  | true => exact dt_or h1 (fun z => nomatch z) (fun _ => rfl)
theorem tv_not {a : Bool} (h1 : DT f tt ρ (· = a)) : DT f (tNot tt) ρ (· = !a) := dt_not (h1.imp fun b e => by rw [e])
theorem de_andV (h1 : DE f ta ρ fun s => ∃ b, s = .dat (.bool b) ∧ Ba b) (h2 : Ba true → DE f tb ρ P) (h3 : Ba false → P (.dat (.bool false))) : DE f (tAndV ta tb) ρ P := fun O σ H w e Q q => h1 O σ H w e _ fun v H1 s x p r => by
  obtain ⟨b, rfl, p⟩ := p
  refine ⟨b, Rp.bool_inv r, ?_⟩
  cases b with
  | true =>
    show tb σ H1 Q
    exact h2 p O σ H1 (w.ext x) (e.mono (x.hid w.fO)) Q fun c H2 u y p2 => q c H2 u (x.trans y) p2
  | false =>
    show Q (.bl false) H1
    exact q _ H1 _ x (h3 p) (Rp.bl false)
theorem de_orV (h1 : DE f ta ρ fun s => ∃ b, s = .dat (.bool b) ∧ Ba b) (h2 : Ba false → DE f tb ρ P) (h3 : Ba true → P (.dat (.bool true))) : DE f (tOrV ta tb) ρ P := fun O σ H w e Q q => h1 O σ H w e _ fun v H1 s x p r => by
  obtain ⟨b, rfl, p⟩ := p
  refine ⟨b, Rp.bool_inv r, ?_⟩
  cases b with
  | false =>
    show tb σ H1 Q
    exact h2 p O σ H1 (w.ext x) (e.mono (x.hid w.fO)) Q fun c H2 u y p2 => q c H2 u (x.trans y) p2
  | true =>
    show Q (.bl true) H1
    exact q _ H1 _ x (h3 p) (Rp.bl true)
theorem vv_and {a b : Bool} (h1 : DE f ta ρ (· = .dat (.bool a))) (h2 : a = true → DE f tb ρ (· = .dat (.bool b))) : DE f (tAndV ta tb) ρ (· = .dat (.bool (a && b))) := by
  refine de_andV (Ba := (· = a)) (h1.imp fun s e => ⟨a, e, rfl⟩) (fun e => ?_) (fun e => ?_)
  · subst e
    exact h2 rfl
  · subst e
    rfl
theorem vv_or {a b : Bool} (h1 : DE f ta ρ (· = .dat (.bool a))) (h2 : a = false → DE f tb ρ (· = .dat (.bool b))) : DE f (tOrV ta tb) ρ (· = .dat (.bool (a || b))) := by
  refine de_orV (Ba := (· = a)) (h1.imp fun s e => ⟨a, e, rfl⟩) (fun e => ?_) (fun e => ?_)
  · subst e
    exact h2 rfl
  · subst e
    rfl
theorem vv_not {a : Bool} (h1 : DE f ta ρ (· = .dat (.bool a))) : DE f (tNotV ta) ρ (· = .dat (.bool (!a))) := fun O σ H w e Q q => h1 O σ H w e _ fun v H1 s x p r => by
  subst p
  exact ⟨a, Rp.bool_inv r, q _ H1 _ x rfl (Rp.bl (!a))⟩
/-- e if t else e' -/
theorem de_if (h : DT f tt ρ B) (h1 : B true → DE f ta ρ P) (h2 : B false → DE f tb ρ P) : DE f (tIf tt ta tb) ρ P := fun O σ H w e Q q => h O σ H w e _ fun b H1 x p => by
  cases b with
  | true =>
    show ta σ H1 Q
    exact h1 p O σ H1 (w.ext x) (e.mono (x.hid w.fO)) Q fun c H2 u y p2 => q c H2 u (x.trans y) p2
  | false =>
    show tb σ H1 Q
    exact h2 p O σ H1 (w.ext x) (e.mono (x.hid w.fO)) Q fun c H2 u y p2 => q c H2 u (x.trans y) p2
end

/-! ### a def's promise over what is known of its arguments -/
def spG {α : Type} (pre : Fe → α → Prop) (args : Fe → α → List Sl) (post : Fe → α → Sl → Prop) : Sp := fun vs H Q _ => ∃ (f : Fe) (O : List Addr) (x : α), pre f x ∧ Wd f O H ∧ VRs O H vs (args f x) ∧
  ∀ v H' s, Ext f H H' → post f x s → VR O H' v s → Q v H'
theorem de_call {α : Type} {f : Fe} {pre : Fe → α → Prop} {args : Fe → α → List Sl} {post : Fe → α → Sl → Prop} {E : XK} {tA : TA} {ρ : List Sl} {P : Sl → Prop} (x : α) (ha : DA f tA ρ (· = args f x)) (hp : pre f x) (hq : ∀ s, post f x s → P s) :
    DE f (tCall (spG pre args post) [] E tA) ρ P := fun O σ H w e Q q => ha O σ H w e _ fun vs H1 ss x1 p1 r1 => by
  subst p1
  rw [List.append_nil]
  exact ⟨f, O, x, hp, w.ext x1, r1, fun v H' s y p r => q v H' s (x1.trans y) (hq s p) r⟩
end K60

set_option maxHeartbeats 4000000
/-! K60, the data layer: walks, comprehensions, statements. -/
namespace K60
open PySem PySem.Spec PyProof.Rows L2

/-- what is not hidden stays -/
def ExtO (O : List Addr) (H H' : Hp) : Prop := ∀ a o, a ∉ O → H a = some o → H' a = some o
theorem Ext.o {f : Fe} {O : List Addr} {H H' : Hp} (e : Ext f H H') (h : f.1 ∈ O) : ExtO O H H' := fun a o n q => e.keep a o (fun z => n (by rw [z]; exact h)) q
theorem ExtO.hid {O O' : List Addr} {H H' : Hp} (e : ExtO O H H') (n : ∀ p ∈ O', p ∉ O → H p = none) : Sub (hid H O) (hid H' O') := fun a o h => by
  obtain ⟨h1, h2⟩ := hid_get h
  refine hid_of (e a o h2 h1) fun m => ?_
  rw [n a m h2] at h1
  cases h1
theorem rd_ext {O : List Addr} {H H' : Hp} {a : Addr} {u : HO} (e : ExtO O H H') (n : a ∉ O) (h : Rd H a u) : Rd H' a u := by
  rcases h with h | ⟨o, h⟩
  · exact .inl (e a _ n h)
  · exact .inr ⟨o, e a _ n h⟩
/-- an iterator's turns: it gives the items -/
structure WalkR (f : Fe) (O : List Addr) (J : It) (H1 : Hp) (items : List Sl) : Prop where
  goes : ∀ i H2, i < items.length → ExtO O H1 H2 → J.go i H2
  stops : ∀ H2, ExtO O H1 H2 → J.stop items.length H2
  yields : ∀ (O' : List Addr) i H2 v H3, i < items.length → (∀ p ∈ O', p ∉ O → H1 p = none) → ExtO O H1 H2 → Wd f O' H2 → J.yld i H2 v H3 → ∃ s, items[i]? = some s ∧ Ext f H2 H3 ∧ VR O' H3 v s
def DI (f : Fe) (wi : TI) (ρ : List Sl) (items : List Sl) : Prop := ∀ (O : List Addr) (σ : L2.St) (H : Hp), Wd f O H → EnvR O H σ ρ → ∀ R : It → Hp → Prop, (∀ J H1, Ext f H H1 → WalkR f O J H1 items → R J H1) → wi σ H R
/-- a target: from ρ to ρ' with s; only slots in vs are stored -/
def DG (f : Fe) (g : TG) (vs : List Nat) (s : Sl) (ρ ρ' : List Sl) : Prop := ∀ (O : List Addr) (σ : L2.St) (H : Hp) (v : V), Wd f O H → EnvR O H σ ρ → VR O H v s → ∀ Q : L2.St → Hp → Prop, (∀ σ', EnvR O H σ' ρ' → L2.wipe σ' vs = L2.wipe σ vs → Q σ' H) → g v σ H Q
def DGs (f : Fe) (g : TGs) (vs : List Nat) (ds : List PyData) (ρ ρ' : List Sl) : Prop := ∀ (O : List Addr) (σ : L2.St) (H : Hp) (us : List V), Wd f O H → EnvR O H σ ρ → RpL (hid H O) us ds → ∀ Q : L2.St → Hp → Prop, (∀ σ', EnvR O H σ' ρ' → L2.wipe σ' vs = L2.wipe σ vs → Q σ' H) → g us σ H Q
section
variable {f : Fe} {ρ ρ' ρ'' : List Sl} {vs : List Nat} {s : Sl} {g : TG} {gs : TGs} {K : PySem.W.Frag} {d : PyData} {ds : List PyData} {te tl : TE} {ta : TA}
theorem dg_name {j : Nat} (hj : j ∈ vs) : DG f (gName j) vs s ρ (ρ.set j s) := fun O σ H v w e r Q q => q _ (e.set j r.sr) (wipe_set hj)
theorem dgs_nil : DGs f gNil vs [] ρ ρ := fun O σ H us w e r Q q => by
  cases r
  exact ⟨rfl, q σ e rfl⟩
theorem dgs_cons (h1 : DG f g vs (.dat d) ρ ρ') (h2 : DGs f gs vs ds ρ' ρ'') : DGs f (gCons g gs) vs (d :: ds) ρ ρ'' := fun O σ H us w e r Q q => by
  cases r with
  | cons r rs => exact ⟨_, _, rfl, h1 O σ H _ w e r _ fun σ1 e1 x1 => h2 O σ1 H _ w e1 rs _ fun σ2 e2 x2 => q σ2 e2 (x2.trans x1)⟩
theorem dg_tup (h : DGs f gs vs ds ρ ρ') : DG f (gTup K ds.length gs) vs (.dat (.tuple ds)) ρ ρ' := fun O σ H v w e r Q q => by
  obtain ⟨a, xs, rfl, ha, rl⟩ := Rp.tup_inv r
  exact ⟨a, xs, rfl, .inl (rd_get ha).1, rl.len, h O σ H xs w e rl Q q⟩
/-- over a list, a tuple -/
theorem di_list (h : DE f tl ρ (· = .dat (.list ds))) : DI f (iList K tl) ρ (ds.map .dat) := fun O σ H w e R q => h O σ H w e _ fun v H1 s x p r => by
  subst p
  obtain ⟨a, xs, rfl, ha, rl⟩ := Rp.list_inv r
  obtain ⟨h1, h2⟩ := hid_get ha
  have st : ∀ H2, ExtO O H1 H2 → SqL K H2 a xs := fun H2 e2 => .inl (.inl (e2 a _ h2 h1))
  have ln := rl.len
  refine ⟨a, rfl, ⟨xs, .inl (.inl h1)⟩, q _ H1 x ⟨fun i H2 hi e2 => ?_, fun H2 e2 => ⟨xs, st H2 e2, by rw [List.length_map]; omega⟩, fun O' i H2 v H3 hi n e2 w2 y => ?_⟩⟩
  · rw [List.length_map] at hi
    exact ⟨xs, xs[i]'(by omega), st H2 e2, List.getElem?_eq_getElem (by omega)⟩
  · obtain ⟨rfl, y⟩ := y
    obtain ⟨d, hd, rd⟩ := rl.at (y xs (st H3 e2))
    exact ⟨.dat d, by rw [List.getElem?_map, hd]; rfl, w2.refl, rd.mono (e2.hid n)⟩
theorem di_tup (h : DE f tl ρ (· = .dat (.tuple ds))) : DI f (iTup K tl) ρ (ds.map .dat) := fun O σ H w e R q => h O σ H w e _ fun v H1 s x p r => by
  subst p
  obtain ⟨a, xs, rfl, ha, rl⟩ := Rp.tup_inv r
  obtain ⟨h1, h2⟩ := rd_get ha
  have st : ∀ H2, ExtO O H1 H2 → SqT K H2 a xs := fun H2 e2 => .inl (rd_ext e2 h2 h1)
  have ln := rl.len
  refine ⟨a, rfl, ⟨xs, .inl h1⟩, q _ H1 x ⟨fun i H2 hi e2 => ?_, fun H2 e2 => ⟨xs, st H2 e2, by rw [List.length_map]; omega⟩, fun O' i H2 v H3 hi n e2 w2 y => ?_⟩⟩
  · rw [List.length_map] at hi
    exact ⟨xs, xs[i]'(by omega), st H2 e2, List.getElem?_eq_getElem (by omega)⟩
  · obtain ⟨rfl, y⟩ := y
    obtain ⟨d, hd, rd⟩ := rl.at (y xs (st H3 e2))
    exact ⟨.dat d, by rw [List.getElem?_map, hd]; rfl, w2.refl, rd.mono (e2.hid n)⟩
/-- over range(n) -/
theorem di_range1 {n : Nat} (h : DA f ta ρ (· = [.dat (.int n)])) (hn : n ≤ 100000) : DI f (iRng1 ta) ρ ((List.range n).map fun i : Nat => Sl.dat (.int (i : Int))) := fun O σ H w e R q => h O σ H w e _ fun us H1 ss x p r => by
  subst p
  match us, r with
  | [v], r =>
    have ev : v = .int (n : Int) := Rp.int_inv r.1
    subst ev
    refine ⟨(n : Int), rfl, by omega, by omega, q _ H1 x ⟨fun i H2 hi e2 => ?_, fun H2 e2 => ?_, fun O' i H2 v H3 hi _ e2 w2 y => ?_⟩⟩
    · show i < (n : Int).toNat
      rw [List.length_map, List.length_range] at hi
      omega
    · show (n : Int).toNat ≤ _
      rw [List.length_map, List.length_range]
      omega
    · obtain ⟨rfl, rfl⟩ := y
      rw [List.length_map, List.length_range] at hi
      refine ⟨.dat (.int (i : Int)), ?_, w2.refl, ?_⟩
      · rw [List.getElem?_map, List.getElem?_range hi]
        rfl
      · have e0 : (0 : Int) + (i : Int) = (i : Int) := Int.zero_add _
        rw [e0]
        exact Rp.int _
/-- over a text's signs -/
theorem di_str {z : Str} (h : DE f te ρ (· = .dat (.str z))) : DI f (iStr te) ρ (z.cps.toList.map fun c => .dat (.str ⟨#[c]⟩)) := fun O σ H w e R q => h O σ H w e _ fun v H1 s x p r => by
  subst p
  refine ⟨z, Rp.str_inv r, q _ H1 x ⟨fun i H2 hi e2 => ?_, fun H2 e2 => ?_, fun O' i H2 v H3 hi _ e2 w2 y => ?_⟩⟩
  · rw [List.length_map, Array.length_toList] at hi
    exact hi
  · show z.cps.size ≤ _
    rw [List.length_map, Array.length_toList]
    exact Nat.le_refl _
  · obtain ⟨rfl, c, hc, rfl⟩ := y
    refine ⟨.dat (.str ⟨#[c]⟩), ?_, w2.refl, Rp.str _⟩
    rw [List.getElem?_map, Array.getElem?_toList, hc]
    rfl
theorem DI.cast {wi : TI} {items items' : List Sl} (h : DI f wi ρ items) (e : items = items') : DI f wi ρ items' := by
  rw [← e]
  exact h
end

/-! ### comprehensions -/
section
variable {f : Fe} {ρ : List Sl} {vs : List Nat} {wi : TI} {g : TG} {tt : TT} {te : TE} {α : Type}
/-- hidden or not, a hidden list's change is not seen -/
theorem hid_upd {H : Hp} {O : List Addr} {p : Addr} {o : HO} (h : p ∈ O) : hid (upd H p o) O = hid H O := by
  funext a
  unfold hid
  by_cases m : a ∈ O
  · rw [if_pos m, if_pos m]
  · rw [if_neg m, if_neg m, upd_ne (fun z => m (by rw [z]; exact h))]
theorem FeedAt.put {H : Hp} {p : Addr} {o : HO} (h : FeedAt H f) (h1 : p ≠ f.1) (h2 : p ≠ f.2) : FeedAt (upd H p o) f := by
  obtain ⟨ns, i, r, k, l, e, e2⟩ := h
  refine ⟨ns, i, r, k, l, ?_, ?_⟩
  · rw [upd_ne (Ne.symm h1)]
    exact e
  · rw [upd_ne (Ne.symm h2)]
    exact e2
theorem FeedAt.cells {H : Hp} (h : FeedAt H f) : H f.2 ≠ none := by
  obtain ⟨ns, i, r, k, _, _, e⟩ := h
  rw [e]
  exact fun z => nomatch z
/-- THE COMPREHENSION, by an invariant over the turn and the list so far -/
theorem de_lcN {enc : α → Sl} {xs : List α} {ρ' : α → List Sl} {P : Sl → Prop} (J : Nat → List PyData → Prop) (hz : xs.length ≤ 100000) (hi : DI f wi ρ (xs.map enc)) (hg : ∀ x ∈ xs, DG f g vs (enc x) (wipeS ρ vs) (ρ' x)) (h0 : J 0 [])
    (hs : ∀ i x acc, xs[i]? = some x → J i acc → ∃ B : Bool → Prop, DT f tt (ρ' x) B ∧ (B true → DE f te (ρ' x) fun s => ∃ d, s = .dat d ∧ J (i + 1) (acc ++ [d])) ∧ (B false → J (i + 1) acc)) (hd : ∀ acc, acc.length ≤ xs.length → J xs.length acc → P (.dat (.list acc))) :
    DE f (tLc wi g tt te vs) ρ P := fun O σ H w e Q q => hi O σ H w e _ fun J1 H1 x1 wk => fun D hD => by
  have w1 := w.ext x1
  have fD : D ≠ f.1 := fun z => w1.feed.there (by rw [← z]; exact hD)
  have cD : D ≠ f.2 := fun z => w1.feed.cells (by rw [← z]; exact hD)
  have nO : D ∉ O := w1.fresh hD
  have new : ∀ p ∈ D :: O, p ∉ O → H1 p = none := fun p hp hn => by
    rcases List.mem_cons.mp hp with z | z
    · rw [z]
      exact hD
    · exact absurd z hn
  have ln : (xs.map enc).length = xs.length := List.length_map ..
  refine ⟨fun i m H' => m = xs.length - i ∧ i ≤ xs.length ∧ ∃ acc ws, J i acc ∧ acc.length ≤ i ∧ Ext f H1 H' ∧ Wd f (D :: O) H' ∧ H' D = some (.lst ws) ∧ RpL (hid H' (D :: O)) ws acc, ⟨xs.length, by simp, Nat.zero_le _, [], [], h0, Nat.le_refl _, w1.new hD, ⟨(w1.new hD).feed, List.mem_cons_of_mem _ w1.fO, fun p hp => ?_⟩, upd_same, .nil⟩, ?_⟩
  · rcases List.mem_cons.mp hp with z | z
    · rw [z, upd_same]
      exact fun z => nomatch z
    · exact (w1.ext (w1.new hD)).tr p z
  · rintro i m H' ⟨rfl, hi', acc, ws, j, al, x2, w2, hw, rw_⟩
    have eo : ExtO O H1 H' := x2.o w1.fO
    by_cases hlt : i < xs.length
    · refine .inr ⟨wk.goes i H' (by rw [ln]; exact hlt) eo, fun H'' => ∃ m', m' < xs.length - i ∧ (m' = xs.length - (i + 1) ∧ i + 1 ≤ xs.length ∧ ∃ acc ws, J (i + 1) acc ∧ acc.length ≤ i + 1 ∧ Ext f H1 H'' ∧ Wd f (D :: O) H'' ∧ H'' D = some (.lst ws) ∧ RpL (hid H'' (D :: O)) ws acc), fun H'' h => h, fun v H3 y => ?_⟩
      obtain ⟨s, hs1, x3, r3⟩ := wk.yields (D :: O) i H' v H3 (by rw [ln]; exact hlt) new eo w2 y
      obtain ⟨x, hx⟩ : ∃ x, xs[i]? = some x := ⟨xs[i], List.getElem?_eq_getElem hlt⟩
      have es : s = enc x := by
        rw [List.getElem?_map, hx] at hs1
        exact (Option.some.inj hs1).symm
      subst es
      have w3 := w2.ext x3
      have sb : Sub (hid H O) (hid H3 (D :: O)) := fun a o h => by
        obtain ⟨h1, h2⟩ := hid_get h
        have h3 := x1.keep a o (fun z => h2 (by rw [z]; exact w.fO)) h1
        refine hid_of (x3.keep a o (fun z => h2 (by rw [z]; exact w.fO)) (eo a o h2 h3)) fun m => ?_
        rcases List.mem_cons.mp m with z | z
        · rw [z, hD] at h3
          cases h3
        · exact h2 z
      refine hg x (List.mem_of_getElem? hx) (D :: O) _ H3 v w3 ((e.mono sb).wipe vs) r3 _ fun σ2 e2 hwp => ⟨by rw [hwp, wipe_wipe], ?_⟩
      obtain ⟨B, ht, h1, h2⟩ := hs i x acc hx j
      refine ht (D :: O) σ2 H3 w3 e2 _ fun b H4 x4 pb => ?_
      have hw4 : H4 D = some (.lst ws) := x4.keep D _ fD (x3.keep D _ fD hw)
      cases b with
      | true =>
        show te σ2 H4 _
        have w4 := w3.ext x4
        refine h1 pb (D :: O) σ2 H4 w4 (e2.mono (x4.hid w3.fO)) _ fun y H5 s x5 p5 r5 => ?_
        obtain ⟨d, rfl, jd⟩ := p5
        have hw5 : H5 D = some (.lst ws) := x5.keep D _ fD hw4
        have w5 := w4.ext x5
        have rl : RpL (hid H5 (D :: O)) ws acc := rw_.mono (((x3.trans x4).trans x5).hid w2.fO)
        have lw := rl.len
        refine ⟨ws, hw5, Nat.lt_of_le_of_lt (by omega : ws.length ≤ 100000) (by decide), xs.length - (i + 1), by omega, rfl, hlt, acc ++ [d], ws ++ [y], jd, ?_, ⟨fun a o n h => ?_, w5.feed.put fD cD⟩, ⟨w5.feed.put fD cD, w5.fO, fun p hp => ?_⟩, upd_same, ?_⟩
        · rw [List.length_append, List.length_singleton]
          omega
        · rw [upd_ne (fun z => by rw [z, hD] at h; cases h)]
          exact x5.keep a o n (x4.keep a o n (x3.keep a o n (x2.keep a o n h)))
        · by_cases z : p = D
          · rw [z, upd_same]
            exact fun z => nomatch z
          · rw [upd_ne z]
            exact w5.tr p hp
        · rw [hid_upd (List.mem_cons_self ..)]
          exact RpL.app rl (.cons r5 .nil)
      | false =>
        show ∃ m', _
        have w4 := w3.ext x4
        exact ⟨xs.length - (i + 1), by omega, rfl, hlt, acc, ws, h2 pb, by omega, (x2.trans x3).trans x4, w4, hw4, rw_.mono ((x3.trans x4).hid w2.fO)⟩
    · have e0 : i = xs.length := by omega
      subst e0
      refine .inl ⟨by have q := wk.stops H' eo; rw [ln] at q; exact q, q _ H' _ (x1.trans x2) (hd acc al j) ?_⟩
      exact .lst (hid_of hw nO) (rw_.mono (hid_less fun a h => List.mem_cons_of_mem _ h))
theorem take_next {l : List α} {i : Nat} {x : α} (h : l[i]? = some x) : l.take (i + 1) = l.take i ++ [x] := by
  rw [List.take_add_one, h]
  rfl
/-- where test and element are known -/
theorem dv_lc {enc : α → Sl} {xs : List α} {ρ' : α → List Sl} {p : α → Bool} {q : α → PyData} (hi : DI f wi ρ (xs.map enc)) (hz : xs.length ≤ 100000) (hg : ∀ x ∈ xs, DG f g vs (enc x) (wipeS ρ vs) (ρ' x))
    (ht : ∀ x ∈ xs, DT f tt (ρ' x) (· = p x)) (he : ∀ x ∈ xs, p x = true → DE f te (ρ' x) (· = .dat (q x))) : DE f (tLc wi g tt te vs) ρ (· = .dat (.list ((xs.filter p).map q))) := by
  refine de_lcN (fun i acc => acc = ((xs.take i).filter p).map q) hz hi hg rfl (fun i x acc hx j => ⟨_, ht x (List.mem_of_getElem? hx), fun hb => ?_, fun hb => ?_⟩) fun acc _ j => ?_
  · refine (he x (List.mem_of_getElem? hx) hb.symm).imp fun s es => ⟨q x, es, ?_⟩
    rw [take_next hx, List.filter_append, List.map_append, ← j]
    show acc ++ [q x] = acc ++ List.map q (List.filter p [x])
    rw [List.filter_cons, if_pos hb.symm]
    rfl
  · rw [take_next hx, List.filter_append, List.map_append, ← j]
    show acc = acc ++ List.map q (List.filter p [x])
    rw [List.filter_cons, if_neg (by rw [← hb]; decide)]
    exact (List.append_nil _).symm
  · rw [j, List.take_length]
theorem dt_yes : DT f tYes ρ (· = true) := fun O σ H w e Q q => q true H w.refl rfl
/-- without a test -/
theorem dv_lc0 {enc : α → Sl} {xs : List α} {ρ' : α → List Sl} {q : α → PyData} (hi : DI f wi ρ (xs.map enc)) (hz : xs.length ≤ 100000) (hg : ∀ x ∈ xs, DG f g vs (enc x) (wipeS ρ vs) (ρ' x))
    (he : ∀ x ∈ xs, DE f te (ρ' x) (· = .dat (q x))) : DE f (tLc wi g tYes te vs) ρ (· = .dat (.list (xs.map q))) := by
  have h := dv_lc (p := fun _ => true) hi hz hg (fun x _ => dt_yes) (fun x hx _ => he x hx)
  rw [List.filter_eq_self.mpr (fun _ _ => rfl)] at h
  exact h
end

/-! ### statements -/
/-- what an own object is -/
inductive Ob where
  | lst (ds : List PyData)
  | dic (kvs : List (Key × PyData))
def ObAt (H : Hp) (O : List Addr) (p : Addr) : Ob → Prop
  | .lst ds => ∃ vs, H p = some (.lst vs) ∧ RpL (hid H O) vs ds
  | .dic kvs => ∃ vs, H p = some (.dK vs) ∧ RpT (hid H O) vs kvs
theorem ObAt.mono {H H' : Hp} {O O' : List Addr} {p : Addr} (k : ∀ o, H p = some o → H' p = some o) (e : Sub (hid H O) (hid H' O')) : ∀ {b : Ob}, ObAt H O p b → ObAt H' O' p b
  | .lst _, ⟨vs, h, r⟩ => ⟨vs, k _ h, r.mono e⟩
  | .dic _, ⟨vs, h, r⟩ => ⟨vs, k _ h, r.mono e⟩
/-- what is known at a point: what is hidden, the own objects, the slots -/
structure Pt where
  O : List Addr
  ω : List (Addr × Ob)
  ρ : List Sl
/-- own lists: made since H0, hidden, apart -/
structure Own (f : Fe) (H0 : Hp) (O : List Addr) (H : Hp) (q : Addr × Ob) : Prop where
  mem : q.1 ∈ O
  n1 : q.1 ≠ f.1
  n2 : q.1 ≠ f.2
  new : H0 q.1 = none
  at_ : ObAt H O q.1 q.2
structure Okp (f : Fe) (O0 : List Addr) (H0 : Hp) (S : Pt) (σ : L2.St) (H : Hp) : Prop where
  wd : Wd f S.O H
  ext : Ext f H0 H
  own : ∀ q ∈ S.ω, Own f H0 S.O H q
  apart : (S.ω.map (·.1)).Nodup
  env : EnvR S.O H σ S.ρ
  outer : ∀ p ∈ O0, p ∈ S.O
/-- from one point to a later one: what was not hidden stays, what is hidden besides is new -/
structure Tr (O : List Addr) (H : Hp) (O' : List Addr) (H' : Hp) : Prop where
  keep : ExtO O H H'
  new : ∀ p ∈ O', p ∉ O → H p = none
theorem Tr.of {f : Fe} {O : List Addr} {H H' : Hp} (x : Ext f H H') (h : f.1 ∈ O) : Tr O H O H' := ⟨x.o h, fun _ a b => absurd a b⟩
theorem Tr.trans {O O1 O2 : List Addr} {H H1 H2 : Hp} (a : Tr O H O1 H1) (b : Tr O1 H1 O2 H2) : Tr O H O2 H2 := by
  refine ⟨fun p o n h => b.keep p o (fun m => ?_) (a.keep p o n h), fun p m n => ?_⟩
  · rw [a.new p m n] at h
    cases h
  · by_cases h1 : p ∈ O1
    · exact a.new p h1 n
    · have h2 := b.new p m h1
      cases h : H p with
      | none => rfl
      | some o =>
        rw [a.keep p o n h] at h2
        cases h2
def DB (f : Fe) (O0 : List Addr) (H0 : Hp) (t : TS) (S : Pt) (N : Pt → Prop) (R : Sl → Prop) : Prop := ∀ (σ : L2.St) (H : Hp) (D : Ends), Okp f O0 H0 S σ H →
  (∀ S' σ' H', N S' → Okp f O0 H0 S' σ' H' → Tr S.O H S'.O H' → D.nx σ' H') → (∀ v H' s, R s → Ext f H0 H' → VR O0 H' v s → D.rt v H') → t D σ H
section
variable {f : Fe} {O0 : List Addr} {H0 : Hp} {t u v : TS} {te ta : TE} {tt : TT} {S S' : Pt} {N M : Pt → Prop} {R : Sl → Prop} {P : Sl → Prop} {B : Bool → Prop} {σ : L2.St} {H H' : Hp}
/-- an expression has run -/
theorem Okp.on (o : Okp f O0 H0 S σ H) (x : Ext f H H') : Okp f O0 H0 S σ H' := ⟨o.wd.ext x, o.ext.trans x, fun q hq => by
  obtain ⟨m, n1, n2, nw, h⟩ := o.own q hq
  exact ⟨m, n1, n2, nw, h.mono (fun u e => x.keep _ u n1 e) (x.hid o.wd.fO)⟩, o.apart, o.env.mono (x.hid o.wd.fO), o.outer⟩
theorem Okp.put (o : Okp f O0 H0 S σ H) {i : Nat} {w : V} {s : Sl} (r : VR S.O H w s) : Okp f O0 H0 ⟨S.O, S.ω, S.ρ.set i s⟩ (σ.set i (some w)) H := ⟨o.wd, o.ext, o.own, o.apart, o.env.set i r.sr, o.outer⟩
/-- from a later state of the same point -/
theorem DB.at_ (h : DB f O0 H0 t S N R) {σ : L2.St} {H H' : Hp} {D : Ends} (o : Okp f O0 H0 S σ H) (x : Ext f H H') (nx : ∀ S' σ' H', N S' → Okp f O0 H0 S' σ' H' → Tr S.O H S'.O H' → D.nx σ' H') (rt : ∀ v H' s, R s → Ext f H0 H' → VR O0 H' v s → D.rt v H') : t D σ H' :=
  h σ H' D (o.on x) (fun S' σ' H2 n o' tr => nx S' σ' H2 n o' ((Tr.of x o.wd.fO).trans tr)) rt
theorem db_seq (h : DB f O0 H0 t S M R) (k : ∀ S', M S' → DB f O0 H0 u S' N R) : DB f O0 H0 (tSeq t u) S N R := fun σ H D o nx rt => h σ H _ o (fun S' σ' H' m o' tr => k S' m σ' H' D o' (fun S2 σ2 H2 n o2 tr2 => nx S2 σ2 H2 n o2 (tr.trans tr2)) rt) rt
theorem db_next (h : N S) : DB f O0 H0 tNext S N R := fun σ H D o nx rt => nx S σ H h o (Tr.of o.wd.refl o.wd.fO)
/-- return e -/
theorem db_ret (h : DE f te S.ρ P) (k : ∀ s, P s → R s) : DB f O0 H0 (tRet te) S N R := fun σ H D o nx rt => h S.O σ H o.wd o.env _ fun w H' s x p r => rt w H' s (k s p) (o.ext.trans x) (r.mono (hid_less o.outer))
theorem db_retv {s : Sl} (h : DE f te S.ρ (· = s)) (k : R s) : DB f O0 H0 (tRet te) S N R := db_ret h fun s e => by
  subst e
  exact k
/-- x = e -/
theorem db_set {i : Nat} (h : DE f te S.ρ P) (k : ∀ s, P s → N ⟨S.O, S.ω, S.ρ.set i s⟩) : DB f O0 H0 (tAsg te (gName i)) S N R := fun σ H D o nx rt => h S.O σ H o.wd o.env _ fun w H' s x p r => nx _ _ H' (k s p) ((o.on x).put r) (Tr.of x o.wd.fO)
theorem qb_set {i : Nat} (h : DE f te S.ρ P) (k : ∀ s, P s → DB f O0 H0 u ⟨S.O, S.ω, S.ρ.set i s⟩ N R) : DB f O0 H0 (tSeq (tAsg te (gName i)) u) S N R := db_seq (M := fun S' => ∃ s, P s ∧ S' = ⟨S.O, S.ω, S.ρ.set i s⟩) (db_set h fun s p => ⟨s, p, rfl⟩) fun S' m => by
  obtain ⟨s, p, rfl⟩ := m
  exact k s p
theorem qb_setv {i : Nat} {s : Sl} (h : DE f te S.ρ (· = s)) (k : DB f O0 H0 u ⟨S.O, S.ω, S.ρ.set i s⟩ N R) : DB f O0 H0 (tSeq (tAsg te (gName i)) u) S N R := qb_set h fun s e => by
  subst e
  exact k
/-- a, b, .. = e -/
theorem db_asg {g : TG} {vs : List Nat} {s : Sl} {ρ' : List Sl} (h : DE f te S.ρ (· = s)) (hg : DG f g vs s S.ρ ρ') (k : N ⟨S.O, S.ω, ρ'⟩) : DB f O0 H0 (tAsg te g) S N R := fun σ H D o nx rt => h S.O σ H o.wd o.env _ fun w H' s' x p r => by
  subst p
  have o' := o.on x
  exact hg S.O σ H' w o'.wd o'.env r _ fun σ' e' _ => nx _ σ' H' k ⟨o'.wd, o'.ext, o'.own, o'.apart, e', o'.outer⟩ (Tr.of x o.wd.fO)
theorem qb_asg {g : TG} {vs : List Nat} {s : Sl} {ρ' : List Sl} (h : DE f te S.ρ (· = s)) (hg : DG f g vs s S.ρ ρ') (k : DB f O0 H0 u ⟨S.O, S.ω, ρ'⟩ N R) : DB f O0 H0 (tSeq (tAsg te g) u) S N R := db_seq (M := (· = ⟨S.O, S.ω, ρ'⟩))
  (db_asg h hg rfl) fun S' m => by
  subst m
  exact k
/-- e as a statement -/
theorem db_drop (h : DE f te S.ρ P) (k : N S) : DB f O0 H0 (tDrop te) S N R := fun σ H D o nx rt => h S.O σ H o.wd o.env _ fun w H' s x p r => nx S σ H' k (o.on x) (Tr.of x o.wd.fO)
theorem qb_drop (h : DE f te S.ρ P) (k : DB f O0 H0 u S N R) : DB f O0 H0 (tSeq (tDrop te) u) S N R := db_seq (M := (· = S)) (db_drop h rfl) fun S' m => by
  subst m
  exact k
/-- if -/
theorem db_if (h : DT f tt S.ρ B) (h1 : B true → DB f O0 H0 t S N R) (h2 : B false → DB f O0 H0 u S N R) : DB f O0 H0 (tIfS tt t u) S N R := fun σ H D o nx rt => h S.O σ H o.wd o.env _ fun b H' x p => by
  cases b with
  | true => exact (h1 p).at_ o x nx rt
  | false => exact (h2 p).at_ o x nx rt
theorem qb_if (h : DT f tt S.ρ B) (h1 : B true → DB f O0 H0 (tSeq t v) S N R) (h2 : B false → DB f O0 H0 (tSeq u v) S N R) : DB f O0 H0 (tSeq (tIfS tt t u) v) S N R := fun σ H D o nx rt => h S.O σ H o.wd o.env _ fun b H' x p => by
  cases b with
  | true => exact (h1 p).at_ o x nx rt
  | false => exact (h2 p).at_ o x nx rt
/-- if t: (what never comes) -/
theorem qb_no (h : DT f tt S.ρ (· = false)) (k : DB f O0 H0 u S N R) : DB f O0 H0 (tSeq (tIfS tt t tNext) u) S N R := qb_if h (fun z => nomatch z) fun _ => k
theorem db_no (h : DT f tt S.ρ (· = false)) (k : N S) : DB f O0 H0 (tIfS tt t tNext) S N R := db_if h (fun z => nomatch z) fun _ => db_next k
theorem db_at {S2 : Pt} (h : S = S2) (k : DB f O0 H0 t S2 N R) : DB f O0 H0 t S N R := by
  rw [h]
  exact k
/-- for: an invariant over the turn -/
theorem db_for {α : Type} {wi : TI} {g : TG} {vs : List Nat} {enc : α → Sl} {xs : List α} (I : Nat → Pt → Prop) (h0 : I 0 S) (hi : DI f wi S.ρ (xs.map enc)) (hO : ∀ i S', I i S' → S'.O = S.O)
    (hs : ∀ i x S', xs[i]? = some x → I i S' → ∃ ρ', DG f g vs (enc x) S'.ρ ρ' ∧ DB f O0 H0 t ⟨S'.O, S'.ω, ρ'⟩ (I (i + 1)) R) (hd : ∀ S', I xs.length S' → N S') :
    DB f O0 H0 (tFor wi g t) S N R := fun σ H D o nx rt => hi S.O σ H o.wd o.env _ fun J1 H1 x1 wk => by
  have ln : (xs.map enc).length = xs.length := List.length_map ..
  have o1 := o.on x1
  refine ⟨fun i m σ' H' => m = xs.length - i ∧ i ≤ xs.length ∧ ∃ S', I i S' ∧ ExtO S.O H1 H' ∧ Okp f O0 H0 S' σ' H', ⟨xs.length, by simp, Nat.zero_le _, S, h0, fun _ _ _ h => h, o1⟩, ?_⟩
  rintro i m σ' H' ⟨rfl, hi', S', is, eo, o2⟩
  have eO := hO i S' is
  by_cases hlt : i < xs.length
  · refine .inr ⟨wk.goes i H' (by rw [ln]; exact hlt) eo, fun σ'' H'' => ∃ m', m' < xs.length - i ∧ (m' = xs.length - (i + 1) ∧ i + 1 ≤ xs.length ∧ ∃ S'', I (i + 1) S'' ∧ ExtO S.O H1 H'' ∧ Okp f O0 H0 S'' σ'' H''), fun σ'' H'' h => h, fun w H3 y => ?_⟩
    obtain ⟨s, hs1, x3, r3⟩ := wk.yields S'.O i H' w H3 (by rw [ln]; exact hlt) (fun p hp hn => absurd (by rw [← eO]; exact hp) hn) eo o2.wd y
    obtain ⟨x, hx⟩ : ∃ x, xs[i]? = some x := ⟨xs[i], List.getElem?_eq_getElem hlt⟩
    have es : s = enc x := by
      rw [List.getElem?_map, hx] at hs1
      exact (Option.some.inj hs1).symm
    subst es
    obtain ⟨ρ', hg, hb⟩ := hs i x S' hx is
    have o3 := o2.on x3
    refine hg S'.O σ' H3 w o3.wd o3.env r3 _ fun σ2 e2 _ => ?_
    have o4 : Okp f O0 H0 ⟨S'.O, S'.ω, ρ'⟩ σ2 H3 := ⟨o3.wd, o3.ext, o3.own, o3.apart, e2, o3.outer⟩
    refine hb σ2 H3 _ o4 (fun S'' σ'' H'' is2 o5 tr => ⟨xs.length - (i + 1), by omega, rfl, hlt, S'', is2, fun a o6 hn h6 => ?_, o5⟩) rt
    have h7 := eo a o6 hn h6
    have h8 := x3.keep a o6 (fun z => hn (by rw [z]; exact o.wd.fO)) h7
    exact tr.keep a o6 (by show a ∉ S'.O; rw [eO]; exact hn) h8
  · have e0 : i = xs.length := by omega
    subst e0
    refine .inl ⟨by have q := wk.stops H' eo; rw [ln] at q; exact q, nx S' σ' H' (hd S' is) o2 ⟨fun a o6 hn h6 => eo a o6 hn (x1.keep a o6 (fun z => hn (by rw [z]; exact o.wd.fO)) h6), fun p hp hn => absurd (by rw [← eO]; exact hp) hn⟩⟩
theorem qb_for {α : Type} {wi : TI} {g : TG} {vs : List Nat} {enc : α → Sl} {xs : List α} (I : Nat → Pt → Prop) (h0 : I 0 S) (hi : DI f wi S.ρ (xs.map enc)) (hO : ∀ i S', I i S' → S'.O = S.O)
    (hs : ∀ i x S', xs[i]? = some x → I i S' → ∃ ρ', DG f g vs (enc x) S'.ρ ρ' ∧ DB f O0 H0 t ⟨S'.O, S'.ω, ρ'⟩ (I (i + 1)) R) (hd : ∀ S', I xs.length S' → DB f O0 H0 u S' N R) :
    DB f O0 H0 (tSeq (tFor wi g t) u) S N R := db_seq (db_for I h0 hi hO hs fun S' h => h) hd
/-- x = []: a list of one's own -/
theorem qb_own {i : Nat} (k : ∀ p, p ∉ S.O → DB f O0 H0 u ⟨p :: S.O, (p, .lst []) :: S.ω, S.ρ.set i (.raw (.ref p))⟩ N R) : DB f O0 H0 (tSeq (tAsg (tLst tNil) (gName i)) u) S N R := fun σ H D o nx rt => by
  refine ⟨Nat.zero_le _, fun p hp => ?_⟩
  have x := o.wd.new (o := .lst []) hp
  have nO := o.wd.fresh hp
  have n1 : p ≠ f.1 := fun z => o.wd.feed.there (by rw [← z]; exact hp)
  have n2 : p ≠ f.2 := fun z => o.wd.feed.cells (by rw [← z]; exact hp)
  have sb : Sub (hid H S.O) (hid (upd H p (.lst [])) (p :: S.O)) := fun a q h => by
    obtain ⟨h1, h2⟩ := hid_get h
    have na : a ≠ p := ne_of_none h1 hp
    refine hid_of (by rw [upd_ne na]; exact h1) fun m => ?_
    rcases List.mem_cons.mp m with z | z
    · exact na z
    · exact h2 z
  refine k p nO _ _ D ⟨⟨x.feed, List.mem_cons_of_mem _ o.wd.fO, fun q hq => ?_⟩, o.ext.trans x, fun q hq => ?_, ?_, (o.env.mono sb).set i rfl, fun q hq => List.mem_cons_of_mem _ (o.outer q hq)⟩ (fun S' σ' H' n o' tr => nx S' σ' H' n o' (Tr.trans ⟨fun a q hn h => x.keep a q (fun z => hn (by rw [z]; exact o.wd.fO)) h, fun q hq hn => ?_⟩ tr)) rt
  · rcases List.mem_cons.mp hq with z | z
    · rw [z, upd_same]
      exact fun z => nomatch z
    · exact (o.wd.ext x).tr q z
  · rcases List.mem_cons.mp hq with z | z
    · subst z
      refine ⟨List.mem_cons_self .., n1, n2, ?_, [], upd_same, .nil⟩
      cases h : H0 p with
      | none => rfl
      | some o1 =>
        rw [o.ext.keep p o1 n1 h] at hp
        cases hp
    · obtain ⟨m, n1, n2, nw, h⟩ := o.own q z
      exact ⟨List.mem_cons_of_mem _ m, n1, n2, nw, h.mono (fun u e => x.keep _ u n1 e) sb⟩
  · refine List.nodup_cons.mpr ⟨fun m => ?_, o.apart⟩
    obtain ⟨q, hq, e⟩ := List.mem_map.mp m
    have h1 := (o.own q hq).mem
    rw [show q.1 = p from e] at h1
    exact nO h1
  · rcases List.mem_cons.mp hq with z | z
    · rw [z]
      exact hp
    · exact absurd z hn
/-- p.append(e), p.extend(e), p one's own -/
theorem db_append {i : Nat} {p : Addr} {ds : List PyData} {ω : List (Addr × Ob)} {K : PySem.W.Frag} {Pd : PyData → Prop} (hi : S.ρ[i]? = some (.raw (.ref p))) (hω : S.ω = (p, .lst ds) :: ω) (h : DE f te S.ρ fun s => ∃ d, s = .dat d ∧ Pd d) (hz : ds.length < 100000)
    (k : ∀ d, Pd d → N ⟨S.O, (p, .lst (ds ++ [d])) :: ω, S.ρ⟩) : DB f O0 H0 (tDrop (tBM K "list" rAppend (tVar i) (tCons te tNil))) S N R := fun σ H D o nx rt => by
  obtain ⟨x, hx, r⟩ := o.env.get hi
  have ex : x = some (.ref p) := r
  subst ex
  have oq := o.own (p, .lst ds) (by rw [hω]; exact List.mem_cons_self ..)
  obtain ⟨m, n1, n2, nw, vs, hv, rl⟩ := oq
  refine ⟨.ref p, hx, .inl ⟨rfl, _, .inl (.inl hv)⟩, h S.O σ H o.wd o.env _ fun y H1 s x1 p1 r1 => ?_⟩
  obtain ⟨d, rfl, pd⟩ := p1
  have hv1 : H1 p = some (.lst vs) := x1.keep _ _ n1 hv
  have o1 := o.on x1
  have rl1 : RpL (hid H1 S.O) vs ds := rl.mono (x1.hid o.wd.fO)
  have ln := rl1.len
  refine ⟨p, vs, y, rfl, rfl, hv1, Nat.lt_of_lt_of_le (by omega : vs.length < 100000) (by decide), ?_⟩
  have hh : hid (upd H1 p (.lst (vs ++ [y]))) S.O = hid H1 S.O := hid_upd m
  refine nx _ σ _ (k d pd) ⟨⟨o1.wd.feed.put n1 n2, o1.wd.fO, fun q hq => ?_⟩, ⟨fun a u n e => ?_, o1.wd.feed.put n1 n2⟩, fun q hq => ?_, ?_, ?_, o1.outer⟩ ⟨fun a u n e => ?_, fun q a b => absurd a b⟩
  · by_cases z : q = p
    · rw [z, upd_same]
      exact fun z => nomatch z
    · rw [upd_ne z]
      exact o1.wd.tr q hq
  · rw [upd_ne (fun z => by rw [z, nw] at e; cases e)]
    exact o1.ext.keep a u n e
  · rcases List.mem_cons.mp hq with z | z
    · subst z
      exact ⟨m, n1, n2, nw, vs ++ [y], upd_same, by rw [hh]; exact RpL.app rl1 (.cons r1 .nil)⟩
    · obtain ⟨m', n1', n2', nw', at'⟩ := o1.own q (by rw [hω]; exact List.mem_cons_of_mem _ z)
      have np : q.1 ≠ p := fun e => by
        have ap := o.apart
        rw [hω] at ap
        exact (List.nodup_cons.mp ap).1 (List.mem_map.mpr ⟨q, z, e⟩)
      exact ⟨m', n1', n2', nw', at'.mono (fun u e => by rw [upd_ne np]; exact e) (by rw [hh]; exact Sub.refl _)⟩
  · have ap := o.apart
    rw [hω] at ap
    exact ap
  · exact EnvR.mono (by rw [hh]; exact Sub.refl _) o1.env
  · rw [upd_ne (fun z => n (by rw [z]; exact m))]
    exact x1.o o.wd.fO a u n e
theorem db_extend {i : Nat} {p : Addr} {ds : List PyData} {ω : List (Addr × Ob)} {K : PySem.W.Frag} {es : List PyData} (hi : S.ρ[i]? = some (.raw (.ref p))) (hω : S.ω = (p, .lst ds) :: ω) (h : DE f te S.ρ (· = .dat (.list es))) (hz : ds.length + es.length ≤ 100000)
    (k : N ⟨S.O, (p, .lst (ds ++ es)) :: ω, S.ρ⟩) : DB f O0 H0 (tDrop (tBM K "list" rExtend (tVar i) (tCons te tNil))) S N R := fun σ H D o nx rt => by
  obtain ⟨x, hx, r⟩ := o.env.get hi
  have ex : x = some (.ref p) := r
  subst ex
  have oq := o.own (p, .lst ds) (by rw [hω]; exact List.mem_cons_self ..)
  obtain ⟨m, n1, n2, nw, vs, hv, rl⟩ := oq
  refine ⟨.ref p, hx, .inl ⟨rfl, _, .inl (.inl hv)⟩, h S.O σ H o.wd o.env _ fun y H1 s x1 p1 r1 => ?_⟩
  subst p1
  obtain ⟨b, zs, rfl, hb, rz⟩ := Rp.list_inv r1
  have hv1 : H1 p = some (.lst vs) := x1.keep _ _ n1 hv
  have o1 := o.on x1
  have rl1 : RpL (hid H1 S.O) vs ds := rl.mono (x1.hid o.wd.fO)
  have ln := rl1.len
  have lz := rz.len
  refine ⟨p, b, vs, zs, rfl, rfl, hv1, (hid_get hb).1, Nat.le_trans (by omega : vs.length + zs.length ≤ 100000) (by decide), ?_⟩
  have hh : hid (upd H1 p (.lst (vs ++ zs))) S.O = hid H1 S.O := hid_upd m
  refine nx _ σ _ k ⟨⟨o1.wd.feed.put n1 n2, o1.wd.fO, fun q hq => ?_⟩, ⟨fun a u n e => ?_, o1.wd.feed.put n1 n2⟩, fun q hq => ?_, ?_, ?_, o1.outer⟩ ⟨fun a u n e => ?_, fun q a b => absurd a b⟩
  · by_cases z : q = p
    · rw [z, upd_same]
      exact fun z => nomatch z
    · rw [upd_ne z]
      exact o1.wd.tr q hq
  · rw [upd_ne (fun z => by rw [z, nw] at e; cases e)]
    exact o1.ext.keep a u n e
  · rcases List.mem_cons.mp hq with z | z
    · subst z
      exact ⟨m, n1, n2, nw, vs ++ zs, upd_same, by rw [hh]; exact RpL.app rl1 rz⟩
    · obtain ⟨m', n1', n2', nw', at'⟩ := o1.own q (by rw [hω]; exact List.mem_cons_of_mem _ z)
      have np : q.1 ≠ p := fun e => by
        have ap := o.apart
        rw [hω] at ap
        exact (List.nodup_cons.mp ap).1 (List.mem_map.mpr ⟨q, z, e⟩)
      exact ⟨m', n1', n2', nw', at'.mono (fun u e => by rw [upd_ne np]; exact e) (by rw [hh]; exact Sub.refl _)⟩
  · have ap := o.apart
    rw [hω] at ap
    exact ap
  · exact EnvR.mono (by rw [hh]; exact Sub.refl _) o1.env
  · rw [upd_ne (fun z => n (by rw [z]; exact m))]
    exact x1.o o.wd.fO a u n e
theorem set_self {α : Type} : ∀ {l : List α} {i : Nat} {x : α}, l[i]? = some x → l.set i x = l
  | [], _, _, h => by simp at h
  | a :: l, 0, x, h => by
    have e := Option.some.inj h
    subst e
    rfl
  | a :: l, i + 1, x, h => by
    show a :: l.set i x = a :: l
    rw [set_self (l := l) (i := i) (x := x) h]
/-- an own list becomes data -/
theorem db_release {i : Nat} {p : Addr} {ds : List PyData} {ω : List (Addr × Ob)} {O' : List Addr} (hO : S.O = p :: O') (hp : p ∉ O') (hω : S.ω = (p, .lst ds) :: ω) (hi : S.ρ[i]? = some (.raw (.ref p))) (ho : ∀ q ∈ O0, q ∈ O')
    (k : DB f O0 H0 t ⟨O', ω, S.ρ.set i (.dat (.list ds))⟩ N R) : DB f O0 H0 t S N R := fun σ H D o nx rt => by
  obtain ⟨x, hx, r⟩ := o.env.get hi
  have ex : x = some (.ref p) := r
  subst ex
  obtain ⟨m, n1, n2, nw, vs, hv, rl⟩ := o.own (p, .lst ds) (by rw [hω]; exact List.mem_cons_self ..)
  have less : ∀ a ∈ O', a ∈ S.O := fun a h => by
    rw [hO]
    exact List.mem_cons_of_mem _ h
  have sb : Sub (hid H S.O) (hid H O') := hid_less less
  refine k σ H D ⟨⟨o.wd.feed, ?_, fun q hq => o.wd.tr q (less q hq)⟩, o.ext, fun q hq => ?_, ?_, ?_, ho⟩ (fun S' σ' H' n o' tr => nx S' σ' H' n o' (Tr.trans ⟨fun _ _ _ h => h, fun q a b => absurd (less q a) b⟩ tr)) rt
  · have h := o.wd.fO
    rw [hO] at h
    rcases List.mem_cons.mp h with z | z
    · exact absurd z.symm n1
    · exact z
  · obtain ⟨m', n1', n2', nw', at'⟩ := o.own q (by rw [hω]; exact List.mem_cons_of_mem _ hq)
    have np : q.1 ≠ p := fun e => by
      have ap := o.apart
      rw [hω] at ap
      exact (List.nodup_cons.mp ap).1 (List.mem_map.mpr ⟨q, hq, e⟩)
    refine ⟨?_, n1', n2', nw', at'.mono (fun _ e => e) sb⟩
    rw [hO] at m'
    rcases List.mem_cons.mp m' with z | z
    · exact absurd z np
    · exact z
  · have ap := o.apart
    rw [hω] at ap
    exact (List.nodup_cons.mp ap).2
  · have e := (o.env.mono sb).set i (x := some (.ref p)) (s := .dat (.list ds)) ⟨_, rfl, .lst (hid_of hv hp) (rl.mono sb)⟩
    rw [set_self hx] at e
    exact e
/-- while: by an invariant that counts down -/
theorem db_while {c : TT} (I : Nat → Pt → Prop) {n : Nat} (h0 : I n S) (hO : ∀ m S', I m S' → S'.O = S.O)
    (hs : ∀ m S', I m S' → ∃ b, DT f c S'.ρ (· = b) ∧ (b = true → ∃ m', m' < m ∧ DB f O0 H0 t S' (I m') R) ∧ (b = false → N S')) : DB f O0 H0 (tWhile c t) S N R := fun σ H D o nx rt => by
  refine ⟨fun m σ' H' => ∃ S', I m S' ∧ Okp f O0 H0 S' σ' H' ∧ Tr S.O H S'.O H', ⟨n, S, h0, o, Tr.of o.wd.refl o.wd.fO⟩, ?_⟩
  rintro m σ' H' ⟨S', is, o', tr⟩
  obtain ⟨b, ht, h1, h2⟩ := hs m S' is
  refine ht S'.O σ' H' o'.wd o'.env _ fun b' H2 x e => ?_
  subst e
  cases b' with
  | true =>
    obtain ⟨m', lt, hb⟩ := h1 rfl
    rw [if_pos rfl]
    refine ⟨fun σ3 H3 => ∃ m', m' < m ∧ ∃ S', I m' S' ∧ Okp f O0 H0 S' σ3 H3 ∧ Tr S.O H S'.O H3, fun _ _ h => h, ?_⟩
    exact hb.at_ o' x (fun S2 σ2 H3 i2 o2 tr2 => ⟨m', lt, S2, i2, o2, tr.trans tr2⟩) rt
  | false =>
    rw [if_neg Bool.false_ne_true]
    exact nx S' σ' H2 (h2 rfl) (o'.on x) (tr.trans (Tr.of x o'.wd.fO))
end
end K60

set_option maxHeartbeats 4000000
/-! K60, the data layer: operators and built-ins by what is known. -/
namespace K60
open PySem PySem.Spec PyProof.Rows L2

abbrev eS : Str → PyData := PyData.str
def eT {α : Type} (f : α → PyData) (xs : List α) : PyData := .tuple (xs.map f)
def eL {α : Type} (f : α → PyData) (xs : List α) : PyData := .list (xs.map f)

/-! ### rules that HandS has not: in over data, < of data, a walk over a list or a tuple -/
def rInA (K : PySem.W.Frag) (neg : Bool) : R2 := fun x y H Q => ∃ d ds, Dp K H x d ∧ SeqAt.shaped d = true ∧ ((Dp K H y (.list ds) ∧ SeqAt.shaped (.list ds) = true) ∨ (Dp K H y (.tuple ds) ∧ SeqAt.shaped (.tuple ds) = true)) ∧ Q (.bl (if neg then !(ds.any fun z => PyData.eqv z d) else ds.any fun z => PyData.eqv z d)) H
def rLtD (K : PySem.W.Frag) : R2 := fun x y H Q => ∃ d e, Dp K H x d ∧ Dp K H y e ∧ PySem.W.alike d e = true ∧ d ≠ .none ∧ d.depth ≤ 60 ∧ Q (.bl (PySem.W.dataLt d e)) H
section
variable {X : Cx}
theorem room_tup {A : Around} {d : PyData} {ds : List PyData} (sd : SeqAt.shaped d = true) (hu : A.units + 65 < cLine) : A.units + 1 + min (PyData.depthAll ds) d.depth < cLine := by
  have h := SeqAt.depth_of_shaped sd
  have h2 : min (PyData.depthAll ds) d.depth ≤ 64 := Nat.le_trans (Nat.min_le_right _ _) h
  omega
theorem op_inA (hu : X.A.units + 65 < cLine) : OpR X (compareOp .In) (rInA X.K false) := by
  intro pins s σ H x y v u Q I rx ry h
  obtain ⟨d, ds, hd, sd, hy, q⟩ := h
  obtain ⟨as, r1⟩ := Dp.reads I d x v hd rx
  rcases hy with ⟨he, se⟩ | ⟨he, se⟩
  · obtain ⟨bs, r2⟩ := Dp.reads I _ y u he ry
    exact SeqAt.in_list_reads r2 r1 (SeqAt.canLay_of_shaped se) (SeqAt.canLay_of_shaped sd) (room_tup sd hu) ⟨.bl _, H, I, rfl, q⟩
  · obtain ⟨bs, r2⟩ := Dp.reads I _ y u he ry
    exact SeqAt.in_tuple_reads r2 r1 (SeqAt.canLay_of_shaped se) (SeqAt.canLay_of_shaped sd) (room_tup sd hu) ⟨.bl _, H, I, rfl, q⟩
theorem op_notInA (hu : X.A.units + 65 < cLine) : OpR X (compareOp .NotIn) (rInA X.K true) := by
  intro pins s σ H x y v u Q I rx ry h
  obtain ⟨d, ds, hd, sd, hy, q⟩ := h
  obtain ⟨as, r1⟩ := Dp.reads I d x v hd rx
  rcases hy with ⟨he, se⟩ | ⟨he, se⟩
  · obtain ⟨bs, r2⟩ := Dp.reads I _ y u he ry
    exact SeqAt.notIn_list_reads r2 r1 (SeqAt.canLay_of_shaped se) (SeqAt.canLay_of_shaped sd) (room_tup sd hu) ⟨.bl _, H, I, rfl, q⟩
  · obtain ⟨bs, r2⟩ := Dp.reads I _ y u he ry
    exact SeqAt.notIn_tuple_reads r2 r1 (SeqAt.canLay_of_shaped se) (SeqAt.canLay_of_shaped sd) (room_tup sd hu) ⟨.bl _, H, I, rfl, q⟩
theorem op_ltD (hu : X.A.units + 65 < cLine) : OpR X (compareOp .Lt) (rLtD X.K) := by
  intro pins s σ H x y v u Q I rx ry h
  obtain ⟨d, e, hd, he, al, nn, dp, q⟩ := h
  obtain ⟨as, r1⟩ := Dp.reads I d x v hd rx
  obtain ⟨bs, r2⟩ := Dp.reads I e y u he ry
  refine PySem.W.lt_data r1 r2 al nn ?_ ⟨.bl _, H, I, rfl, q⟩
  have h2 : min d.depth e.depth ≤ 60 := Nat.le_trans (Nat.min_le_left _ _) dp
  omega
end
/-- a list or a tuple, walked -/
def iSeq (K : PySem.W.Frag) (tl : TE) : TI := fun σ H R => tl σ H fun x H1 => ∃ a, x = .ref a ∧ (((∃ xs, SqL K H1 a xs) ∧ R (Itl K a) H1) ∨ ((∃ xs, SqT K H1 a xs) ∧ R (Itt K a) H1))
theorem pi_seq {X : Cx} {tg l : Expr} {tl : TE} (hl : PE X l tl) : PI X tg l (iSeq X.K tl) := by
  refine ⟨fun pins s σ H R I h => ?_⟩
  refine thn (hl.run pins s σ H _ I h) fun v s1 q0 => ?_
  obtain ⟨x, H1, I1, r1, a, e, q⟩ := q0
  subst e
  cases r1
  rcases q with ⟨⟨xs, hq⟩, q⟩ | ⟨⟨xs, hq⟩, q⟩
  · obtain ⟨its, rv, p, _⟩ := I1.list hq
    refine wpAny_pyIter_list p.isList ⟨s1.heap.objs.size, [s1.heap.objs.size], _, _, H1, rfl, I1.kept (t' := s1.toks) (fun b o e => Heap.get?_push_of_some _ e), turn_list a _, ⟨_, Heap.get?_push_size _ rfl, rfl, rfl⟩, fun b hb => ?_, q⟩
    rw [show b = s1.heap.objs.size by simpa using hb]
    exact I1.fpOk (Nat.le_refl _) (I1.hok.fresh (Nat.le_refl _))
  · obtain ⟨its, rv, p, _⟩ := I1.tuple hq
    refine wpAny_pyIter_tuple (show s1.heap.IsTuple a its.toArray from p) ⟨s1.heap.objs.size, [s1.heap.objs.size], _, _, H1, rfl, I1.kept (t' := s1.toks) (fun b o e => Heap.get?_push_of_some _ e), turn_tuple a _, ⟨_, Heap.get?_push_size _ rfl, rfl, rfl⟩, fun b hb => ?_, q⟩
    rw [show b = s1.heap.objs.size by simpa using hb]
    exact I1.fpOk (Nat.le_refl _) (I1.hok.fresh (Nat.le_refl _))

section
variable {f : Fe} {ρ ρ' : List Sl} {K : PySem.W.Frag} {ds es : List PyData} {tl ta tb te : TE} {tA : TA} {d e : PyData} {P : Sl → Prop} {s t : Sl} {O : List Addr} {H1 : Hp} {a : Addr} {xs : List V}
theorem walkR_list (ha : hid H1 O a = some (.lst xs)) (rl : RpL (hid H1 O) xs ds) : WalkR f O (Itl K a) H1 (ds.map .dat) := by
  obtain ⟨h1, h2⟩ := hid_get ha
  have st : ∀ H2, ExtO O H1 H2 → SqL K H2 a xs := fun H2 e2 => .inl (.inl (e2 a _ h2 h1))
  have ln := rl.len
  refine ⟨fun i H2 hi e2 => ?_, fun H2 e2 => ⟨xs, st H2 e2, by rw [List.length_map]; omega⟩, fun O' i H2 v H3 hi n e2 w2 y => ?_⟩
  · rw [List.length_map] at hi
    exact ⟨xs, xs[i]'(by omega), st H2 e2, List.getElem?_eq_getElem (by omega)⟩
  · obtain ⟨rfl, y⟩ := y
    obtain ⟨d, hd, rd⟩ := rl.at (y xs (st H3 e2))
    exact ⟨.dat d, by rw [List.getElem?_map, hd]; rfl, w2.refl, rd.mono (e2.hid n)⟩
theorem walkR_tup (ha : Rd (hid H1 O) a (.tup xs)) (rl : RpL (hid H1 O) xs ds) : WalkR f O (Itt K a) H1 (ds.map .dat) := by
  obtain ⟨h1, h2⟩ := rd_get ha
  have st : ∀ H2, ExtO O H1 H2 → SqT K H2 a xs := fun H2 e2 => .inl (rd_ext e2 h2 h1)
  have ln := rl.len
  refine ⟨fun i H2 hi e2 => ?_, fun H2 e2 => ⟨xs, st H2 e2, by rw [List.length_map]; omega⟩, fun O' i H2 v H3 hi n e2 w2 y => ?_⟩
  · rw [List.length_map] at hi
    exact ⟨xs, xs[i]'(by omega), st H2 e2, List.getElem?_eq_getElem (by omega)⟩
  · obtain ⟨rfl, y⟩ := y
    obtain ⟨d, hd, rd⟩ := rl.at (y xs (st H3 e2))
    exact ⟨.dat d, by rw [List.getElem?_map, hd]; rfl, w2.refl, rd.mono (e2.hid n)⟩
theorem di_seqL (h : DE f tl ρ (· = .dat (.list ds))) : DI f (iSeq K tl) ρ (ds.map .dat) := fun O σ H w e R q => h O σ H w e _ fun v H1 s x p r => by
  subst p
  obtain ⟨a, xs, rfl, ha, rl⟩ := Rp.list_inv r
  exact ⟨a, rfl, .inl ⟨⟨xs, .inl (.inl (hid_get ha).1)⟩, q _ H1 x (walkR_list ha rl)⟩⟩
theorem di_seqT (h : DE f tl ρ (· = .dat (.tuple ds))) : DI f (iSeq K tl) ρ (ds.map .dat) := fun O σ H w e R q => h O σ H w e _ fun v H1 s x p r => by
  subst p
  obtain ⟨a, xs, rfl, ha, rl⟩ := Rp.tup_inv r
  exact ⟨a, rfl, .inr ⟨⟨xs, .inl (rd_get ha).1⟩, q _ H1 x (walkR_tup ha rl)⟩⟩
/-- typed: over a list, a tuple of encoded things -/
theorem di_L {α : Type} {g : α → PyData} {xs : List α} (h : DE f tl ρ (· = .dat (eL g xs))) : DI f (iSeq K tl) ρ (xs.map fun x => .dat (g x)) := (di_seqL (ds := xs.map g) h).cast (List.map_map ..)
theorem di_T {α : Type} {g : α → PyData} {xs : List α} (h : DE f tl ρ (· = .dat (eT g xs))) : DI f (iSeq K tl) ρ (xs.map fun x => .dat (g x)) := (di_seqT (ds := xs.map g) h).cast (List.map_map ..)

/-! ### operators -/
/-- an operator that makes nothing -/
theorem dr_pure {r : R2} (h : ∀ O H x y, Wd f O H → VR O H x s → VR O H y t → ∃ v u, P u ∧ VR O H v u ∧ ∀ Q : VK, Q v H → r x y H Q) : DR2 f r s t P := fun O H x y w hx hy Q q => by
  obtain ⟨v, u, p, hv, k⟩ := h O H x y w hx hy
  exact k Q (q v H u w.refl p hv)
theorem dr_eq (sd : SeqAt.shaped d = true) (se : SeqAt.shaped e = true) : DR2 f (rEqD K) (.dat d) (.dat e) (· = .dat (.bool (PyData.eqv d e))) := dr_pure fun O H x y w hx hy =>
  ⟨_, _, rfl, Rp.bl _, fun Q q => ⟨d, e, (Rp.mono (hid_sub H O) hx).dp, (Rp.mono (hid_sub H O) hy).dp, sd, se, q⟩⟩
theorem dr_ne (sd : SeqAt.shaped d = true) (se : SeqAt.shaped e = true) : DR2 f (rNeD K) (.dat d) (.dat e) (· = .dat (.bool (!PyData.eqv d e))) := dr_pure fun O H x y w hx hy =>
  ⟨_, _, rfl, Rp.bl _, fun Q q => ⟨d, e, (Rp.mono (hid_sub H O) hx).dp, (Rp.mono (hid_sub H O) hy).dp, sd, se, q⟩⟩
theorem dr_lt (h1 : PySem.W.alike d e = true) (h2 : d ≠ .none) (h3 : d.depth ≤ 60) : DR2 f (rLtD K) (.dat d) (.dat e) (· = .dat (.bool (PySem.W.dataLt d e))) := dr_pure fun O H x y w hx hy =>
  ⟨_, _, rfl, Rp.bl _, fun Q q => ⟨d, e, (Rp.mono (hid_sub H O) hx).dp, (Rp.mono (hid_sub H O) hy).dp, h1, h2, h3, q⟩⟩
theorem dr_inL {neg : Bool} (sd : SeqAt.shaped d = true) (se : SeqAt.shaped (.list ds) = true) : DR2 f (rInA K neg) (.dat d) (.dat (.list ds)) (· = .dat (.bool (if neg then !(ds.any fun z => PyData.eqv z d) else ds.any fun z => PyData.eqv z d))) := dr_pure fun O H x y w hx hy =>
  ⟨_, _, rfl, Rp.bl _, fun Q q => ⟨d, ds, (Rp.mono (hid_sub H O) hx).dp, sd, .inl ⟨(Rp.mono (hid_sub H O) hy).dp, se⟩, q⟩⟩
theorem dr_inT {neg : Bool} (sd : SeqAt.shaped d = true) (se : SeqAt.shaped (.tuple ds) = true) : DR2 f (rInA K neg) (.dat d) (.dat (.tuple ds)) (· = .dat (.bool (if neg then !(ds.any fun z => PyData.eqv z d) else ds.any fun z => PyData.eqv z d))) := dr_pure fun O H x y w hx hy =>
  ⟨_, _, rfl, Rp.bl _, fun Q q => ⟨d, ds, (Rp.mono (hid_sub H O) hx).dp, sd, .inr ⟨(Rp.mono (hid_sub H O) hy).dp, se⟩, q⟩⟩
/-- is None, is not None -/
def isN : PyData → Bool
  | .none => true
  | _ => false
theorem isN_v {H : Hp} {v : V} (h : Rp H v d) : decide (v = .non) = isN d := by
  cases h <;> first | rfl | (exact decide_eq_false (fun z => nomatch z))
theorem dr_isN : DR2 f (fun x y H Q => y = .non ∧ Q (.bl (decide (x = .non))) H) (.dat d) (.dat .none) (· = .dat (.bool (isN d))) := dr_pure fun O H x y w hx hy =>
  ⟨_, _, rfl, Rp.bl _, fun Q q => ⟨Rp.none_inv hy, by rw [isN_v hx]; exact q⟩⟩
theorem dr_notN : DR2 f (fun x y H Q => y = .non ∧ Q (.bl (!decide (x = .non))) H) (.dat d) (.dat .none) (· = .dat (.bool (!isN d))) := dr_pure fun O H x y w hx hy =>
  ⟨_, _, rfl, Rp.bl _, fun Q q => ⟨Rp.none_inv hy, by rw [isN_v hx]; exact q⟩⟩
/-- ints -/
theorem dr_i0i {g : Int → Int → Int} {i j : Int} : DR2 f (rI0 fun i j => .int (g i j)) (.dat (.int i)) (.dat (.int j)) (· = .dat (.int (g i j))) := dr_pure fun O H x y w hx hy =>
  ⟨_, _, rfl, Rp.int _, fun Q q => ⟨i, j, Rp.int_inv hx, Rp.int_inv hy, q⟩⟩
theorem dr_i0b {g : Int → Int → Bool} {i j : Int} : DR2 f (rI0 fun i j => .bl (g i j)) (.dat (.int i)) (.dat (.int j)) (· = .dat (.bool (g i j))) := dr_pure fun O H x y w hx hy =>
  ⟨_, _, rfl, Rp.bl _, fun Q q => ⟨i, j, Rp.int_inv hx, Rp.int_inv hy, q⟩⟩
theorem dr_ii {C : Int → Int → Prop} {g : Int → Int → Int} {i j : Int} (c : C i j) : DR2 f (rI C fun i j => .int (g i j)) (.dat (.int i)) (.dat (.int j)) (· = .dat (.int (g i j))) := dr_pure fun O H x y w hx hy =>
  ⟨_, _, rfl, Rp.int _, fun Q q => ⟨i, j, Rp.int_inv hx, Rp.int_inv hy, c, q⟩⟩
theorem dv_neg {i : Int} (h : DE f ta ρ (· = .dat (.int i))) : DE f (tUn (rU fun i => .int (-i)) ta) ρ (· = .dat (.int (-i))) := de_un h fun s es O H x w r Q q => by
  subst es
  exact ⟨i, Rp.int_inv r, q _ H _ w.refl rfl (Rp.int _)⟩
/-- texts -/
theorem dr_strle {x y : Str} : DR2 f (fun x y H Q => ∃ i j, x = .str i ∧ y = .str j ∧ Q (.bl (!decide (j.cps.toList < i.cps.toList))) H) (.dat (.str x)) (.dat (.str y)) (· = .dat (.bool (!decide (y.cps.toList < x.cps.toList)))) := dr_pure fun O H u v w hx hy =>
  ⟨_, _, rfl, Rp.bl _, fun Q q => ⟨x, y, Rp.str_inv hx, Rp.str_inv hy, q⟩⟩
theorem dr_strin {x y : Str} : DR2 f (fun x y H Q => ∃ i j, x = .str i ∧ y = .str j ∧ Q (.bl (!(Builtin.Str.occurrences j i 0 j.length 1).isEmpty)) H) (.dat (.str x)) (.dat (.str y)) (· = .dat (.bool (!(Builtin.Str.occurrences y x 0 y.length 1).isEmpty))) := dr_pure fun O H u v w hx hy =>
  ⟨_, _, rfl, Rp.bl _, fun Q q => ⟨x, y, Rp.str_inv hx, Rp.str_inv hy, q⟩⟩
/-- an item -/
theorem atI_of {α : Type} {l : List α} {i : Nat} {x : α} (h : l[i]? = some x) : atI l (i : Int) = some x := by
  have hl : i < l.length := (List.getElem?_eq_some_iff.mp h).1
  unfold atI ixN
  rw [if_pos (Int.natCast_nonneg i), if_pos (by omega)]
  exact h
theorem dr_ixL {i : Nat} (h : ds[i]? = some d) : DR2 f (rIx K) (.dat (.list ds)) (.dat (.int (i : Int))) (· = .dat d) := dr_pure fun O H x y w hx hy => by
  obtain ⟨a, xs, rfl, ha, rl⟩ := Rp.list_inv hx
  obtain ⟨v, hv, rv⟩ := rl.get h
  exact ⟨v, .dat d, rfl, rv, fun Q q => .inl ⟨a, xs, (i : Int), v, rfl, Rp.int_inv hy, .inl (.inl (hid_get ha).1), atI_of hv, q⟩⟩
theorem dr_ixT {i : Nat} (h : ds[i]? = some d) : DR2 f (rIx K) (.dat (.tuple ds)) (.dat (.int (i : Int))) (· = .dat d) := dr_pure fun O H x y w hx hy => by
  obtain ⟨a, xs, rfl, ha, rl⟩ := Rp.tup_inv hx
  obtain ⟨v, hv, rv⟩ := rl.get h
  exact ⟨v, .dat d, rfl, rv, fun Q q => .inr (.inl ⟨a, xs, (i : Int), v, rfl, Rp.int_inv hy, .inl (rd_get ha).1, atI_of hv, q⟩)⟩
/-- + of lists, of tuples -/
theorem dr_cat (hz : ds.length + es.length ≤ 100000) : DR2 f rCat (.dat (.list ds)) (.dat (.list es)) (· = .dat (.list (ds ++ es))) := fun O H x y w hx hy Q q => by
  obtain ⟨a, xs, rfl, ha, rl⟩ := Rp.list_inv hx
  obtain ⟨b, ys, rfl, hb, rm⟩ := Rp.list_inv hy
  have l1 := rl.len
  have l2 := rm.len
  refine ⟨a, b, xs, ys, rfl, rfl, (hid_get ha).1, (hid_get hb).1, Nat.le_trans (by omega : xs.length + ys.length ≤ 100000) (by decide), fun p hp => ?_⟩
  exact q _ _ _ (w.new hp) rfl (.lst (w.hnew hp) ((RpL.app rl rm).mono ((w.new hp).hid w.fO)))
theorem dr_catT (hz : ds.length + es.length ≤ 100000) (nm : isM (ds ++ es) = false) : DR2 f (rCatA K) (.dat (.tuple ds)) (.dat (.tuple es)) (· = .dat (.tuple (ds ++ es))) := fun O H x y w hx hy Q q => by
  obtain ⟨a, xs, rfl, ha, rl⟩ := Rp.tup_inv hx
  obtain ⟨b, ys, rfl, hb, rm⟩ := Rp.tup_inv hy
  have l1 := rl.len
  have l2 := rm.len
  refine ⟨a, b, xs, ys, rfl, rfl, .inl (rd_get ha).1, .inl (rd_get hb).1, Nat.le_trans (by omega : xs.length + ys.length ≤ 100000) (by decide), fun e0 => ?_, fun _ e0 => ?_, fun _ _ p hp => ?_⟩
  · subst e0
    cases rl
    exact q _ H _ w.refl rfl hy
  · subst e0
    cases rm
    refine q _ H _ w.refl rfl ?_
    rw [List.append_nil]
    exact hx
  · exact q _ _ _ (w.new hp) rfl (.mkT (w.hnew hp) ((RpL.app rl rm).mono ((w.new hp).hid w.fO)) nm)

/-! ### calls of built-ins -/
theorem drc1 {rc : List V → Hp → VK → Prop} (h : ∀ O H x, Wd f O H → VR O H x s → ∀ Q : VK, (∀ v H' u, Ext f H H' → P u → VR O H' v u → Q v H') → rc [x] H Q) : DRC f rc [s] P := fun O H vs w r Q q => by
  match vs, r with
  | [x], r => exact h O H x w r.1 Q q
abbrev rLenX (K : PySem.W.Frag) : List V → Hp → VK → Prop := fun xs H Q => ∃ x n, xs = [x] ∧ LenV K x H n ∧ Q (.int n) H
theorem rc_lenL : DRC f (rLenX K) [.dat (.list ds)] (· = .dat (.int ds.length)) := drc1 fun O H x w r Q q => by
  obtain ⟨a, xs, rfl, ha, rl⟩ := Rp.list_inv r
  exact ⟨_, xs.length, rfl, .inl ⟨xs, .inl (.inl (hid_get ha).1), rfl⟩, q _ H _ w.refl rfl (by rw [rl.len]; exact Rp.int _)⟩
theorem rc_lenT : DRC f (rLenX K) [.dat (.tuple ds)] (· = .dat (.int ds.length)) := drc1 fun O H x w r Q q => by
  obtain ⟨a, xs, rfl, ha, rl⟩ := Rp.tup_inv r
  exact ⟨_, xs.length, rfl, .inr ⟨xs, .inl (rd_get ha).1, rfl⟩, q _ H _ w.refl rfl (by rw [rl.len]; exact Rp.int _)⟩
theorem rc_lenS {x : Str} (hz : x.length ≤ 100000) : DRC f (rLenX K) [.dat (.str x)] (· = .dat (.int x.length)) := drc1 fun O H v w r Q q => by
  have e := Rp.str_inv r
  subst e
  exact ⟨_, x.length, rfl, ⟨Nat.le_trans hz (by decide), rfl⟩, q _ H _ w.refl rfl (Rp.int _)⟩
theorem rc_any {bs : List Bool} : DRC f (rAny K) [.dat (.list (bs.map PyData.bool))] (· = .dat (.bool (bs.any id))) := drc1 fun O H v w r Q q => by
  obtain ⟨a, xs, rfl, ha, rl⟩ := Rp.list_inv r
  have e := rl.bools
  subst e
  exact ⟨a, bs, rfl, .inl (.inl (hid_get ha).1), q _ H _ w.refl rfl (Rp.bl _)⟩
theorem rc_all {bs : List Bool} : DRC f (rAll K) [.dat (.list (bs.map PyData.bool))] (· = .dat (.bool (bs.all id))) := drc1 fun O H v w r Q q => by
  obtain ⟨a, xs, rfl, ha, rl⟩ := Rp.list_inv r
  have e := rl.bools
  subst e
  exact ⟨a, bs, rfl, .inl (.inl (hid_get ha).1), q _ H _ w.refl rfl (Rp.bl _)⟩
abbrev rTupX (K : PySem.W.Frag) : List V → Hp → VK → Prop := fun xs H Q => ∃ p ys, xs = [.ref p] ∧ ((SqL K H p ys ∧ ∀ l, H l = none → Q (.ref l) (upd H l (.tup ys))) ∨ (SqT K H p ys ∧ Q (.ref p) H))
theorem rc_tupL (nm : isM ds = false) : DRC f (rTupX K) [.dat (.list ds)] (· = .dat (.tuple ds)) := drc1 fun O H v w r Q q => by
  obtain ⟨a, xs, rfl, ha, rl⟩ := Rp.list_inv r
  exact ⟨a, xs, rfl, .inl ⟨.inl (.inl (hid_get ha).1), fun l hl => q _ _ _ (w.new hl) rfl (.mkT (w.hnew hl) (rl.mono ((w.new hl).hid w.fO)) nm)⟩⟩
abbrev rLstX (K : PySem.W.Frag) : List V → Hp → VK → Prop := fun xs H Q => ∃ p ys, xs = [.ref p] ∧ (SqL K H p ys ∨ SqT K H p ys) ∧ ∀ l, H l = none → Q (.ref l) (upd H l (.lst ys))
theorem rc_lstT : DRC f (rLstX K) [.dat (.tuple ds)] (· = .dat (.list ds)) := drc1 fun O H v w r Q q => by
  obtain ⟨a, xs, rfl, ha, rl⟩ := Rp.tup_inv r
  exact ⟨a, xs, rfl, .inr (.inl (rd_get ha).1), fun l hl => q _ _ _ (w.new hl) rfl (.lst (w.hnew hl) (rl.mono ((w.new hl).hid w.fO)))⟩
/-- the least, the greatest of a list of ints: told by what they are -/
theorem rc_min {ns : List Int} {m : Int} (h0 : m ∈ ns) (hm : ∀ y ∈ ns, m ≤ y) : DRC f (rMin K) [.dat (.list (ns.map PyData.int))] (· = .dat (.int m)) := drc1 fun O H v w r Q q => by
  obtain ⟨a, xs, rfl, ha, rl⟩ := Rp.list_inv r
  have e := rl.ints
  subst e
  refine ⟨a, ns, rfl, .inl (.inl (hid_get ha).1), List.length_pos_of_mem h0, fun k hk kle => ?_⟩
  have ek : k = m := Int.le_antisymm (kle m h0) (hm k hk)
  subst ek
  exact q _ H _ w.refl rfl (Rp.int _)
theorem rc_max {ns : List Int} {m : Int} (h0 : m ∈ ns) (hm : ∀ y ∈ ns, y ≤ m) : DRC f (rMax K) [.dat (.list (ns.map PyData.int))] (· = .dat (.int m)) := drc1 fun O H v w r Q q => by
  obtain ⟨a, xs, rfl, ha, rl⟩ := Rp.list_inv r
  have e := rl.ints
  subst e
  refine ⟨a, ns, rfl, .inl (.inl (hid_get ha).1), List.length_pos_of_mem h0, fun k hk kle => ?_⟩
  have ek : k = m := Int.le_antisymm (hm k hk) (kle m h0)
  subst ek
  exact q _ H _ w.refl rfl (Rp.int _)
abbrev rIntX : List V → Hp → VK → Prop := fun xs H Q => (∃ i, xs = [.int i] ∧ Q (.int i) H) ∨ ∃ k, xs = [.bl k] ∧ Q (.int (if k then 1 else 0)) H
theorem rc_int {i : Int} : DRC f rIntX [.dat (.int i)] (· = .dat (.int i)) := drc1 fun O H v w r Q q => by
  have e := Rp.int_inv r
  subst e
  exact .inl ⟨i, rfl, q _ H _ w.refl rfl (Rp.int _)⟩
/-- sorted of texts, by what it is -/
theorem rc_sortS {xs ys : List Str} (h64 : xs.length < 64) (hy : ∀ zs : List Str, zs.Perm xs → sortedS zs = true → zs = ys) : DRC f (rSortedS K) [.dat (eL eS xs)] (· = .dat (eL eS ys)) := drc1 fun O H v w r Q q => by
  obtain ⟨a, vs, rfl, ha, rl⟩ := Rp.list_inv r
  have e := rl.strs
  subst e
  refine ⟨a, xs, rfl, .inl (.inl (hid_get ha).1), h64, fun zs p pm so hp => ?_⟩
  have ez := hy zs pm so
  subst ez
  exact q _ _ _ (w.new hp) rfl (.lst (w.hnew hp) (RpL.ofStrs _))
/-- isinstance -/
def tyD : PyData → Value
  | .none => .type "NoneType"
  | .bool _ => .type "bool"
  | .int _ => .type "int"
  | .str _ => .type "str"
  | .list _ => .type "list"
  | .tuple _ => .type "tuple"
  | .dict _ => .type "dict"
theorem ty_of {H : Hp} {v : V} (h : Rp H v d) : TyX K H v (tyD d) := by
  cases h with
  | non => exact .base .non
  | bl b => exact .base (.bl b)
  | int i => exact .base (.int i)
  | str x => exact .base (.str x)
  | lst h _ => exact .base (.lst h)
  | tup h _ _ =>
    rcases h with h | ⟨o, h⟩
    · exact .base (.tup h)
    · exact .fTuple h
theorem rc_isi {n : String} {b : Bool} (h : PySem.W.kitOne K (tyD d) (.type n) = some b) : DRC f (rIsi K) [.dat d, .raw (.ty n)] (· = .dat (.bool b)) := fun O H vs w r Q q => by
  match vs, r with
  | [x, y], r =>
    have ey : y = .ty n := r.2.1
    subst ey
    exact ⟨x, .ty n, tyD d, .type n, b, rfl, .ty n, ty_of (Rp.mono (hid_sub H O) r.1), h, q _ H _ w.refl rfl (Rp.bl _)⟩
theorem dv_ty {n : String} : DE f (tC (.ty n)) ρ (· = .raw (.ty n)) := fun O σ H w e Q q => q _ H _ w.refl rfl rfl
end
end K60

set_option maxHeartbeats 4000000
/-! K60: enumerate(t), t a tuple. -/
namespace K60
open PySem PySem.Spec PyProof.Rows L2
open AutoSeq1 (wpAny_loadPart')
abbrev tupIter (l : Addr) : Obj := { cls := .type "tuple_iterator", data := .fields #[.ref l, .int 0 0] }
abbrev enumOf (it : Addr) : Obj := { cls := .type "enumerate", data := .fields #[.none, .bool false, .ref it, rawInt 0, .none, .none] }
theorem enum_new (l : Addr) (items : Array Value) (n : Nat) (dct : Option Addr) (sl : Array (Option Value)) :
    Meets (Builtin.«enumerate.__new__» ⟨[.type "enumerate", .ref l], []⟩) (fun _ R s => s.heap.get? l = some { cls := .type "tuple", dict := dct, data := .seq items n, slots := sl } ∧
      R (.ok (.ret (.ref (s.heap.push (tupIter l)).objs.size))) { s with heap := (s.heap.push (tupIter l)).push (enumOf s.heap.objs.size) }) := .of_wp fun prog w A R s h => by
  obtain ⟨hp, g, d, tk, os⟩ := s
  obtain ⟨hl, h⟩ := h
  have hs := sub_enumerate
  have hL : Heap.IsTuple (Shared.heap ⟨hp, g, d, tk, os⟩) l items := ⟨_, hl, rfl, n, rfl⟩
  wp_walk using wpAny_loadPart' hl
  refine wpAny_stack_any fun st => wpAny_pure ?_
  split
  · rename_i c _ _ _ _ _
    cases c == Value.type "enumerate" <;> (wp_walk using wpAny_loadPart' hl, wpAny_pyIter_tuple hL; exact ⟨_, rfl, h⟩)
  · wp_walk using wpAny_loadPart' hl, wpAny_pyIter_tuple hL
    exact ⟨_, rfl, h⟩
section
variable {prog : Program} {w : World} {A : Around} {E : Value → Shared → Prop} {s : Shared}
theorem enum_call {l : Addr} {items : Array Value} {Q : Value → Shared → Prop} (hL : s.heap.IsTuple l items)
    (h : ∀ h', IsEnum h' (s.heap.objs.size + 1) s.heap.objs.size 0 .none → h'.IsTupleIter s.heap.objs.size l 0 → h'.objs.size = s.heap.objs.size + 2 → (∀ b o, s.heap.get? b = some o → h'.get? b = some o) → Q (.ref (s.heap.objs.size + 1)) { s with heap := h' }) :
    wpAny (model prog w) A (call (.type "enumerate") [.ref l]) Q E s := by
  obtain ⟨⟨c, dct, dt, sl⟩, hl, hc, n, hd⟩ := hL
  dsimp only at hc hd
  subst hc hd
  refine callType_new F.called_enumerate (by decide) (F.typeCall_enumerate_1 _) (F.newCall_enumerate_1 _) (fun obj => F.args_object_init_2 obj _) F.entry_enumerate_new (enum_new l items n dct sl) ⟨hl, ?_⟩
  have hz : (s.heap.push (tupIter l)).objs.size = s.heap.objs.size + 1 := Heap.size_push ..
  show _ ∧ _
  rw [hz]
  have he : IsEnum ((s.heap.push (tupIter l)).push (enumOf s.heap.objs.size)) (s.heap.objs.size + 1) s.heap.objs.size 0 .none := by
    have q := Heap.get?_push_size (s.heap.push (tupIter l)) (o := enumOf s.heap.objs.size) rfl
    rw [hz] at q
    exact q
  exact ⟨⟨_, he, rfl⟩, h _ he ⟨_, Heap.get?_push_of_some _ (Heap.get?_push_size _ rfl), rfl, rfl⟩ (by rw [Heap.size_push, hz]) fun b o x => Heap.get?_push_of_some _ (Heap.get?_push_of_some _ x)⟩
end
section
variable {prog : Program} {w : World} {A : Around} {E : Value → Shared → Prop} {s : Shared}
theorem enum_over {e it l : Addr} {c : Int} {i : Nat} {items : Array Value} {old : Value} {Q : Option Value → Shared → Prop} (hh : A.handled = none) (he : IsEnum s.heap e it c old) (hit : s.heap.IsTupleIter it l i) (hl : s.heap.IsTuple l items) (hx : items[i]? = none)
    (hQ : ∀ h', Heap.ExtBut it s.heap h' → Q none { s with heap := h' }) : wpAny (model prog w) A (pyNext (.ref e)) Q E s := by
  have ty : s.TypeIs (.ref e) "enumerate" := ⟨_, he, rfl⟩
  unfold pyNext
  refine wpAny_bind (wpAny_attempt (wpAny_callSpecial?_slot (name := Str.ofString "__next__") ty F.slot_enumerate_next (wpAny_call_entry F.slot_enumerate_next ty F.entry_enumerate_next ?_ (F.args_enumerate_next_1 _))))
  show wpAny _ _ (field (.ref e) 2 >>= _) _ _ _
  refine wpAny_bind (wpAny_field he rfl (x := .ref it) rfl (wpAny_bind (wpAny_nextOf_tuple_end hh hit hl hx fun h' x xb ⟨o, ho, hc⟩ => ?_)))
  exact wpAny_bind (wpAny_isInstance (T := "StopIteration") (b := true) ⟨o, ho, hc⟩ isSubtype_stop (wpAny_pure (hQ _ xb)))
end
/-- the pairs of numbers and items of the tuple at a -/
def Iet (K : PySem.W.Frag) (a : Addr) : It :=
  ⟨fun i H => ∃ (xs : List V) (x : V), SqT K H a xs ∧ xs[i]? = some x, fun i H v H' => ∃ T x, v = .ref T ∧ H T = none ∧ H' = upd H T (.tup [.int (i : Nat), x]) ∧ ∀ xs, SqT K H a xs → xs[i]? = some x, fun i H => ∃ xs : List V, SqT K H a xs ∧ xs.length ≤ i⟩
theorem turn_iet {P : Program} {w : World} {K : PySem.W.Frag} {elts : List Expr} {kk : Nat} {tpos : Pos} {a e it : Addr} (nai : a ≠ it) (nae : a ≠ e) :
    Turn P w K (.Tuple elts kk tpos) (Iet K a) [e, it] e (fun i h => (∃ old, IsEnum h e it ((i : Nat) : Int) old) ∧ h.IsTupleIter it a i ∧ e ≠ it) where
  mem := List.mem_cons_self ..
  obj := fun i h st b hb => by
    obtain ⟨⟨old, he⟩, ⟨o, ho, _, hd⟩, _⟩ := st
    rcases List.mem_cons.mp hb with z | z
    · rw [z]
      exact ⟨_, he, fun v q => nomatch q⟩
    · rw [List.mem_singleton.mp z]
      exact ⟨o, ho, fun v q => by rw [hd] at q; cases q⟩
  keep := fun i h h' ⟨⟨old, he⟩, hi, ne⟩ k => ⟨⟨old, k e (List.mem_cons_self ..) _ he⟩, hi.at fun o q => k it (by simp) o q, ne⟩
  item := by
    intro X hP hw hK hc i pins s σ H E I hf ⟨⟨old, he⟩, hit, hne⟩ ⟨xs, x, hq, hx⟩
    subst hP hw hK
    obtain ⟨its, rv, p, hz⟩ := I.tuple hq
    obtain ⟨u, hu, ru⟩ := rv.get hx
    have le : e < s.heap.objs.size := Heap.lt_size he
    have li : it < s.heap.objs.size := by
      obtain ⟨_, q, _⟩ := hit
      exact Heap.lt_size q
    have hlt : i < its.toArray.size := by
      rw [List.size_toArray]
      exact (List.getElem?_eq_some_iff.mp hu).1
    refine wpAny_pyNext_enum_itemD (Draws.tuple (A := X.A.in1) (by show X.A.handled = none; exact I.ok.hd hc) it a nai its.toArray) he ⟨hit, p⟩ hlt hne (by simp [hne, Ne.symm nae]) fun y h' tk hy ho hst hT hsz hk => ?_
    have ey : y = u := by
      have q : its.toArray[i]? = some u := by simpa using hu
      rw [show its.toArray[i]? = some y from hy] at q
      exact Option.some.inj q
    subst ey
    refine ⟨_, rfl, wpAny_letOwnedTupleGo_enum (s := { s with heap := h', toks := tk + 1 }) ho fun h'' he' sb => ?_⟩
    have hT2 : h''.get? s.heap.objs.size = some { cls := .type "tuple", data := .seq #[.int i tk, y] } := (sb.2 _ (Nat.ne_of_gt le)).trans hT
    have new : ObjOk X.prog X.w (upd H s.heap.objs.size (.tup [.int (i : Nat), x])) h'' s.heap.objs.size (.tup [.int (i : Nat), x]) :=
      ⟨by show 2 ≤ sizeLine; decide, [.int i tk, y], .cons ⟨_, rfl⟩ (.cons ru .nil), ⟨_, hT2, rfl, _, rfl⟩⟩
    have I1 : Inv X pins σ (upd H s.heap.objs.size (.tup [.int (i : Nat), x])) { s with heap := h'', toks := tk + 1 } :=
      I.turnedNew (ch := [e, it]) (fun b ob hb q => (sb.2 b fun z => hb (by simp [z])).trans (hk b ob (fun z => hb (by simp [z])) (fun z => hb (by simp [z])) q)) hf (Nat.le_refl _) new
    refine ⟨.ref s.heap.objs.size, _, I1, rfl, ⟨_, x, rfl, I.hok.fresh (Nat.le_refl _), rfl, fun ys hy => by rw [I.tuple_inj hy hq]; exact hx⟩, ⟨⟨y, ?_⟩, hst.1.at fun o q => (sb.2 it (Ne.symm hne)).trans q, hne⟩, fun b hb => ?_⟩
    · have e1 : ((i + 1 : Nat) : Int) = (i : Int) + 1 := by omega
      rw [e1]
      exact he'
    · have lb : b < s.heap.objs.size := by
        rcases List.mem_cons.mp hb with z | z
        · rw [z]
          exact le
        · rw [List.mem_singleton.mp z]
          exact li
      rw [upd_ne (Nat.ne_of_lt lb)]
      exact (hf b hb).1
  done := by
    intro X hP hw hK hc i pins s σ H E I hf ⟨⟨old, he⟩, hit, hne⟩ ⟨xs, hq, hx⟩
    subst hP hw hK
    obtain ⟨its, rv, p, hz⟩ := I.tuple hq
    obtain ⟨f0, f1, f2, f3, f4, f5⟩ := hf it (by simp)
    have hn : its.toArray.size ≤ i := by
      rw [List.size_toArray, ← rv.length]
      exact hx
    exact enum_over (I.ok.hd hc) he hit p (Array.getElem?_eq_none hn) fun h' eb => ⟨rfl, I.turned (t' := s.toks) (fun b o hb q => eb b o hb q) f0 f1 f3 f4 f5⟩
  self := fun A i s Q E st h => let ⟨⟨_, he⟩, _⟩ := st; wpAny_pyIter_enum he h
/-- enumerate(t) -/
def iEnumT (K : PySem.W.Frag) (ta : TA) : TI := fun σ H R => ta σ H fun vs H1 => ∃ a xs, vs = [.ref a] ∧ SqT K H1 a xs ∧ R (Iet K a) H1
theorem pi_enumT {X : Cx} {e : Expr} {ta : TA} {p pos tpos : Pos} {elts : List Expr} {kk : Nat} (hg : Gl X "enumerate") (hm : X.mg "enumerate" = none) (ha : PA X [e] ta) (hs : starEach [e] X.env = [(false, eval e X.env)] := by rfl) :
    PI X (.Tuple elts kk tpos) (.Call (.Name "enumerate" p) [e] [] pos) (iEnumT X.K ta) := by
  refine ⟨fun pins s σ H R I h => ?_⟩
  refine Call_ (ld_blt I hg hm boot_enumerate (PyProof.Rows.callWith_type1 (thn (ha.run pos pins s σ H _ I h) fun us s1 ⟨vs, H1, I1, r1, a, xs, ex, hq, q⟩ => ?_) hs rfl))
  subst ex
  rw [Vals.ref1 r1]
  obtain ⟨its, rv, p', hz⟩ := I1.tuple hq
  have la : a < s1.heap.objs.size := by
    obtain ⟨o, ho, _⟩ := id p'
    exact Heap.lt_size ho
  refine enum_call p' fun h' he hit hsz hk => wpAny_pyIter_enum he ?_
  refine ⟨s1.heap.objs.size + 1, [s1.heap.objs.size + 1, s1.heap.objs.size], _, _, H1, rfl, I1.kept (t' := s1.toks) hk, turn_iet (a := a) (e := s1.heap.objs.size + 1) (it := s1.heap.objs.size) (Nat.ne_of_lt la) (Nat.ne_of_lt (Nat.lt_succ_of_lt la)), ⟨⟨.none, he⟩, hit, Nat.succ_ne_self _⟩, fun b hb => ?_, q⟩
  have hle : s1.heap.objs.size ≤ b := by
    rcases List.mem_cons.mp hb with z | z
    · rw [z]
      exact Nat.le_succ _
    · rw [List.mem_singleton.mp z]
      exact Nat.le_refl _
  exact I1.fpOk hle (I1.hok.fresh hle)
end K60

set_option maxHeartbeats 4000000
/-! K60, the data layer: defs and their calls. -/
namespace K60
open PySem PySem.Spec PyProof.Rows L2

/-- what the top has written of built-in names and constants -/
structure TB (mg : Str → Option Value) : Prop where
  len_ : mg "len" = none
  any_ : mg "any" = none
  all_ : mg "all" = none
  tuple_ : mg "tuple" = none
  sorted : mg "sorted" = none
  set : mg "set" = none
  zip : mg "zip" = none
  isinstance_ : mg "isinstance" = none
  enumerate : mg "enumerate" = none
  range : mg "range" = none
  list_ : mg "list" = none
  min_ : mg "min" = none
  max_ : mg "max" = none
  repr_ : mg "repr" = none
  dict : mg "dict" = none
  int_ : mg "int" = none
  str_ : mg "str" = none
  bool_ : mg "bool" = none
  any : ∃ t, mg "ANY" = some (.str "any" t)
  alphabet : ∃ t, mg "ALPHABET" = some (.str "abcdefghijklmnopqrstuvwxyz" t)
  most : ∃ t, mg "MOST_SIGNS" = some (.int 8 t)
abbrev rIsNX : R2 := fun x y H Q => y = .non ∧ Q (.bl (decide (x = .non))) H
abbrev rNotNX : R2 := fun x y H Q => y = .non ∧ Q (.bl (!decide (x = .non))) H
abbrev rInSX : R2 := fun x y H Q => ∃ i j, x = .str i ∧ y = .str j ∧ Q (.bl (!(Builtin.Str.occurrences j i 0 j.length 1).isEmpty)) H
abbrev rLeSX : R2 := fun x y H Q => ∃ i j, x = .str i ∧ y = .str j ∧ Q (.bl (!decide (j.cps.toList < i.cps.toList))) H
theorem hu65 {k : Nat} {A : Around} (hr : Room k A) : A.units + 65 < cLine := by
  have h := hr.un
  omega
theorem hu64 {k : Nat} {A : Around} (hr : Room k A) : A.units + 64 < cLine := by
  have h := hr.un
  omega
/-- a def's body has this reading, wherever it is called -/
def BodyOk (P : Program) (w : World) (K : PySem.W.Frag) (mg : Str → Option Value) (base : Heap) (k : Nat) (N : List Str) (q : Str) (st : Stmt) (t : TS) : Prop :=
  ∀ (f : Addr) (cdv : Value) (A : Around) (outer : List Env) (s : Shared) (H : Hp) (E : XK), Room k (A.deeper (envOfC q (defScope st) s.heap.objs.size f cdv)) → PSs (cxOf CX0 P w K mg base N q (defScope st) f cdv A outer s H E).nox (defBody st) t
/-- a def of the text that keeps its promise: by its name -/
def Kn (P : Program) (w : World) (K : PySem.W.Frag) (mg : Str → Option Value) (base : Heap) (x : Str) (ps : List Str) (k : Nat) (sp : Sp) : Prop :=
  ∃ f fd, mg x = some (.ref f) ∧ PySem.W.keepIn K (.ref f) = true ∧ Binds K fd ps [] ∧ FnOk P w K mg base CX0 k f fd ps sp
/-- .. with the last arguments' defaults -/
def KnD (P : Program) (w : World) (K : PySem.W.Frag) (mg : Str → Option Value) (base : Heap) (x : Str) (ps : List Str) (k : Nat) (sp : Sp) (dvs : List V) : Prop :=
  ∃ f fd ds, mg x = some (.ref f) ∧ PySem.W.keepIn K (.ref f) = true ∧ Binds K fd ps ds ∧ Vals dvs ds ∧ FnOk P w K mg base CX0 k f fd ps sp
section
variable {X : Cx} {x : Str} {ps : List Str} {j k : Nat} {sp : Sp} {dvs : List V} {e : Expr} {es : List Expr} {t : TA} {p pos : Pos}
theorem pe_kn (G : Kn X.prog X.w X.K X.mg X.base x ps k sp) (hr : Room j X.A) (hj : k ≤ j) (hg : Gl X x) (ha : PA X (e :: es) t) (hdb : (x == ("__debug__" : Str)) = false := by decide)
    (he : starEach (e :: es) X.env = (false, eval e X.env) :: starEach es X.env := by rfl) (hpl : (backTo pos (starEach es X.env)).any (·.1) = false := by rfl) : PE X (.Call (.Name x p) (e :: es) [] pos) (tCall sp [] E0 t) := by
  obtain ⟨f, fd, hm, kp, hb, F⟩ := G
  exact pe_call F (hr.mono hj) hg hm kp hb .nil pass0 ha hdb he hpl
theorem pe_knD (G : KnD X.prog X.w X.K X.mg X.base x ps k sp dvs) (hr : Room j X.A) (hj : k ≤ j) (hg : Gl X x) (ha : PA X (e :: es) t) (hdb : (x == ("__debug__" : Str)) = false := by decide)
    (he : starEach (e :: es) X.env = (false, eval e X.env) :: starEach es X.env := by rfl) (hpl : (backTo pos (starEach es X.env)).any (·.1) = false := by rfl) : PE X (.Call (.Name x p) (e :: es) [] pos) (tCall sp dvs E0 t) := by
  obtain ⟨f, fd, ds, hm, kp, hb, hd, F⟩ := G
  exact pe_call F (hr.mono hj) hg hm kp hb hd pass0 ha hdb he hpl
theorem pe_const {z : Str} (h : ∃ t, X.mg x = some (.str z t)) (hg : Gl X x) (hd : (x == ("__debug__" : Str)) = false := by decide) : PE X (.Name x pos) (tC (.str z)) := by
  obtain ⟨t, h⟩ := h
  exact pe_glob hg h ⟨t, rfl⟩ hd
theorem pe_constI {i : Int} (h : ∃ t, X.mg x = some (.int i t)) (hg : Gl X x) (hd : (x == ("__debug__" : Str)) = false := by decide) : PE X (.Name x pos) (tC (.int i)) := by
  obtain ⟨t, h⟩ := h
  exact pe_glob hg h ⟨t, rfl⟩ hd
end
/-- the order of tuples of texts -/
def tupLt (a b : List Str) : Prop := PySem.W.dataLt (eT eS a) (eT eS b) = true
/-- THE RULE for a def: its body's reading, and what that brings -/
theorem mk_ok {α : Type} {P : Program} {w : World} {K : PySem.W.Frag} {mg : Str → Option Value} {base : Heap} {x q : Str} {st : Stmt} {dvs : List V} {kws : List (Str × V)} {f : Addr} {fd : FuncData} {N ps : List Str} {k : Nat} {t : TS}
    {pre : Fe → α → Prop} {args : Fe → α → List Sl} {post : Fe → α → Sl → Prop} (F : FunD K x q (defArgs st) (defBody st) (defScope st) dvs kws f fd) (S : FnScope N ps (defScope st)) (hb : BodyOk P w K mg base k N q st t)
    (hl : ∀ f x, pre f x → (args f x).length = ps.length) (hdb : ∀ f O H x, pre f x → DB f O H t ⟨O, [], args f x ++ List.replicate (N.length - ps.length) .no⟩ (fun _ => post f x (.dat .none)) (post f x)) :
    FnOk P w K mg base CX0 (k + 1) f fd ps (spG pre args post) := by
  refine F.ok S (fun vs H Q E h => ?_) (fun cdv A outer s H vs Q E hr h => ⟨t, PSs.nox (hb f cdv A outer s H E hr), ?_⟩)
  · obtain ⟨g, O, x, hp, _, r, _⟩ := h
    rw [r.len]
    exact hl g x hp
  · obtain ⟨g, O, x, hp, wd, r, hq⟩ := h
    have lv : vs.length = ps.length := by rw [r.len]; exact hl g x hp
    refine hdb g O H x hp _ H _ ⟨wd, wd.refl, fun q hq => (nomatch hq), List.nodup_nil, ?_, fun _ h => h⟩ (fun S' σ' H' n o _ => hq _ H' _ ⟨o.ext.keep, o.wd.feed⟩ n Rp.non) fun v H' s p e r => hq v H' s e p r
    unfold L2.start
    rw [lv]
    exact EnvR.start r
end K60

set_option maxHeartbeats 4000000
/-! K60, the data layer: calls by names; defs that are called where no text of an object is under way. -/
namespace K60
open PySem PySem.Spec PyProof.Rows L2

/-! ### calls with keywords -/
def KnK (P : Program) (w : World) (K : PySem.W.Frag) (mg : Str → Option Value) (base : Heap) (x : Str) (ps : List Str) (k : Nat) (sp : Sp) (n : Nat) (ks : List Str) (gV : List V → List V → List V) : Prop :=
  ∃ f fd g, mg x = some (.ref f) ∧ PySem.W.keepIn K (.ref f) = true ∧ KBn K fd ps n ks g gV ∧ FnOk P w K mg base CX0 k f fd ps sp
section
variable {X : Cx} {x : Str} {ps ks : List Str} {j k n : Nat} {sp : Sp} {e : Expr} {es : List Expr} {kws : List Keyword} {t tk : TA} {p pos : Pos} {gV : List V → List V → List V}
theorem pe_knK (G : KnK X.prog X.w X.K X.mg X.base x ps k sp n ks gV) (hr : Room j X.A) (hj : k ≤ j) (hg : Gl X x) (ha : PA X (e :: es) t) (hkw : PK X kws tk) (hall : (backToKw pos (keywordEach kws X.env)).all (·.1.isSome) = true := by rfl)
    (hks : (backToKw pos (keywordEach kws X.env)).filterMap (·.1) = ks := by rfl) (hdb : (x == ("__debug__" : Str)) = false := by decide) (he : starEach (e :: es) X.env = (false, eval e X.env) :: starEach es X.env := by rfl)
    (hpl : ((backTo pos (starEach (e :: es) X.env)).any (·.1) || (backToKw pos (keywordEach kws X.env)).any (·.1.isNone)) = false := by rfl) : PE X (.Call (.Name x p) (e :: es) kws pos) (tCallN n ks.length sp gV E0 t tk) := by
  obtain ⟨f, fd, g, hm, kp, hb, F⟩ := G
  exact pe_callN F (hr.mono hj) hg hm kp hb pass0 ha hkw hall hks hdb he hpl
theorem pe_knK0 (G : KnK X.prog X.w X.K X.mg X.base x ps k sp 0 ks gV) (hr : Room j X.A) (hj : k ≤ j) (hg : Gl X x) (hkw : PK X kws tk) (hall : (backToKw pos (keywordEach kws X.env)).all (·.1.isSome) = true := by rfl)
    (hks : (backToKw pos (keywordEach kws X.env)).filterMap (·.1) = ks := by rfl) (hdb : (x == ("__debug__" : Str)) = false := by decide)
    (hpl : ((backTo pos (starEach [] X.env)).any (·.1) || (backToKw pos (keywordEach kws X.env)).any (·.1.isNone)) = false := by rfl) : PE X (.Call (.Name x p) [] kws pos) (tCallN 0 ks.length sp gV E0 tNil tk) := by
  obtain ⟨f, fd, g, hm, kp, hb, F⟩ := G
  refine ⟨fun pins s σ H Q I h => ?_⟩
  refine wpAny_Call_Name_kw (ld_glob I hg hm ?_ hdb)
  refine PySem.W.callWith_KW0 (h₀ := X.base) I.ok.mod.kin kp hall (thn (hkw.run pos pins s σ H _ I h) fun ws s2 ⟨zs, H2, I2, rz, l1, l2, q2⟩ => ⟨I2.kIn, ?_⟩) hpl
  rw [hks]
  exact run_fnN (us := []) F (hr.mono hj) hb pass0 I2 .nil rz l1 l2 q2
end
section
variable {α : Type} {f : Fe} {pre : Fe → α → Prop} {args : Fe → α → List Sl} {post : Fe → α → Sl → Prop} {E : XK} {tA tk : TA} {ρ : List Sl} {P : Sl → Prop} {n m : Nat} {gV : List V → List V → List V} {ss zs : List Sl}
/-- the values in the parameters' order are known -/
def Order (gV : List V → List V → List V) (ss zs as : List Sl) : Prop := ∀ (O : List Addr) (H : Hp) (vs us : List V), VRs O H vs ss → VRs O H us zs → VRs O H (gV vs us) as
theorem de_callN (x : α) (ha : DA f tA ρ (· = ss)) (hk : DA f tk ρ (· = zs)) (h1 : ss.length = n) (h2 : zs.length = m) (ho : Order gV ss zs (args f x)) (hp : pre f x) (hq : ∀ s, post f x s → P s) :
    DE f (tCallN n m (spG pre args post) gV E tA tk) ρ P := fun O σ H w e Q q => ha O σ H w e _ fun vs H1 ss1 x1 p1 r1 => by
  subst p1
  refine hk O σ H1 (w.ext x1) (e.mono (x1.hid w.fO)) _ fun us H2 zs1 x2 p2 r2 => ?_
  subst p2
  refine ⟨r1.len.trans h1, r2.len.trans h2, f, O, x, hp, (w.ext x1).ext x2, ho O H2 vs us (r1.mono (x2.hid w.fO)) r2, fun v H' s y p r => q v H' s ((x1.trans x2).trans y) (hq s p) r⟩
/-- .. and the last ones by default -/
theorem de_callD {dvs : List V} {ds : List PyData} (x : α) (ha : DA f tA ρ (· = ss)) (hd : ∀ H, RpL H dvs ds) (he : ss ++ ds.map Sl.dat = args f x) (hp : pre f x) (hq : ∀ s, post f x s → P s) :
    DE f (tCall (spG pre args post) dvs E tA) ρ P := fun O σ H w e Q q => ha O σ H w e _ fun vs H1 ss1 x1 p1 r1 => by
  subst p1
  exact ⟨f, O, x, hp, w.ext x1, by rw [← he]; exact VRs.app r1 (VRs.dats (hd _)), fun v H' s y p r => q v H' s (x1.trans y) (hq s p) r⟩
end

/-! ### no object's text is under way -/
/-- the promise of a def, where no text is under way -/
structure FnG (P : Program) (w : World) (K : PySem.W.Frag) (mg : Str → Option Value) (base : Heap) (k : Nat) (f : Addr) (fd : FuncData) (ps : List Str) (sp : Sp) : Prop where
  num : ∀ vs H Q E, sp vs H Q E → vs.length = ps.length
  go : ∀ (A : Around) (outer : List Env) (s : Shared) (H : Hp) (args : Args) (us : List Value) (vs : List V) (Q : VK) (E : XK), A.guards = some [] → Room k A → Env0 P w K mg base A outer s H → BindsTo s fd args (ps.zip us) → Vals vs us → sp vs H Q E →
    codeAny (model P w) A (.call (.ref f) args) (CR CX0 outer P w H s Q E) s
def KnG (P : Program) (w : World) (K : PySem.W.Frag) (mg : Str → Option Value) (base : Heap) (x : Str) (ps : List Str) (k : Nat) (sp : Sp) : Prop :=
  ∃ f fd, mg x = some (.ref f) ∧ PySem.W.keepIn K (.ref f) = true ∧ Binds K fd ps [] ∧ FnG P w K mg base k f fd ps sp
/-- a body's reading, where no text is under way -/
def BodyG (P : Program) (w : World) (K : PySem.W.Frag) (mg : Str → Option Value) (base : Heap) (k : Nat) (N : List Str) (q : Str) (st : Stmt) (t : TS) : Prop :=
  ∀ (f : Addr) (cdv : Value) (A : Around) (outer : List Env) (s : Shared) (H : Hp) (E : XK), A.guards = some [] → Room k (A.deeper (envOfC q (defScope st) s.heap.objs.size f cdv)) → PSs (cxOf CX0 P w K mg base N q (defScope st) f cdv A outer s H E).nox (defBody st) t
theorem pe_knG {X : Cx} {x : Str} {ps : List Str} {j k : Nat} {sp : Sp} {e : Expr} {es : List Expr} {t : TA} {p pos : Pos} (G : KnG X.prog X.w X.K X.mg X.base x ps k sp) (hA : X.A.guards = some []) (hr : Room j X.A) (hj : k ≤ j) (hg : Gl X x) (ha : PA X (e :: es) t) (hdb : (x == ("__debug__" : Str)) = false := by decide)
    (he : starEach (e :: es) X.env = (false, eval e X.env) :: starEach es X.env := by rfl) (hpl : (backTo pos (starEach es X.env)).any (·.1) = false := by rfl) : PE X (.Call (.Name x p) (e :: es) [] pos) (tCall sp [] E0 t) := by
  obtain ⟨f, fd, hm, kp, hb, F⟩ := G
  refine ⟨fun pins s σ H Q I h => ?_⟩
  refine wpAny_Call_Name_kw (ld_glob I hg hm ?_ hdb)
  refine PySem.W.callWith_K (h₀ := X.base) I.ok.mod.kin kp (thn (ha.run pos pins s σ H _ I h) fun us s1 ⟨vs, H1, I1, r, q⟩ => ⟨I1.kIn, ?_⟩) he hpl
  have r2 : Vals (vs ++ []) (us ++ []) := r.append .nil
  have hl : (us ++ []).length = ps.length := by
    rw [← r2.length]
    exact F.num _ _ _ _ q
  refine wpAny_call (codeAny_mono (F.go X.A X.stack s1 H1 ⟨us, []⟩ (us ++ []) (vs ++ []) Q E0 hA (hr.mono hj) I1.env0 (hb s1 us I1.kIn hl) r2 q) fun r s' hq => ?_)
  rcases r with e | fl
  · exact False.elim hq
  · cases fl with
    | ret u => exact I1.after hq
    | _ => exact hq.elim
/-- THE RULE for such a def -/
theorem mk_okG {α : Type} {P : Program} {w : World} {K : PySem.W.Frag} {mg : Str → Option Value} {base : Heap} {x q : Str} {st : Stmt} {dvs : List V} {kws : List (Str × V)} {f : Addr} {fd : FuncData} {N ps : List Str} {k : Nat} {t : TS}
    {pre : Fe → α → Prop} {args : Fe → α → List Sl} {post : Fe → α → Sl → Prop} (F : FunD K x q (defArgs st) (defBody st) (defScope st) dvs kws f fd) (S : FnScope N ps (defScope st)) (hb : BodyG P w K mg base k N q st t)
    (hl : ∀ f x, pre f x → (args f x).length = ps.length) (hdb : ∀ f O H x, pre f x → DB f O H t ⟨O, [], args f x ++ List.replicate (N.length - ps.length) .no⟩ (fun _ => post f x (.dat .none)) (post f x)) :
    FnG P w K mg base (k + 1) f fd ps (spG pre args post) := by
  have num : ∀ vs H Q E, spG pre args post vs H Q E → vs.length = ps.length := fun vs H Q E h => by
    obtain ⟨g, O, x, hp, _, r, _⟩ := h
    rw [r.len]
    exact hl g x hp
  obtain ⟨oc, od, dV, kV, doc, pm, an, cdv, ct, osl, rfl, lk, hcd, _, _⟩ := F.ex
  refine ⟨num, fun A outer s H ar us vs Q E hA hr e0 hbd r hsp => ?_⟩
  have lv := num _ _ _ _ hsp
  have KX : K.In s.heap := e0.mod.kin.keeps fun b o e => (e0.bs b o e).1
  have lim : s.heap.NoLimit := e0.mod.nolimit.keeps fun b o e => (e0.bs b o e).1
  refine codeAny_call_function hr.depth (KX _ _ lk) rfl S.co S.gen rfl (PySem.W.codeRec_of KX hcd) (hbd _ _ _ _ ?_)
  refine wpAny_newFunctionEnv_cells S.kind (fun y hy => ?_) fun env he s1 x1 => ?_
  · rcases S.par y.1 (List.of_mem_zip hy).1 with z | z
    · exact .inl z
    · exact .inr ⟨z, PySem.W.cellsFrom_some _ _ _ (.inl z)⟩
  · subst he
    refine ⟨lim.keeps x1.toInCall.keep, codeAny_func ?_⟩
    have I : Inv (cxOf CX0 P w K mg base N q (defScope st) f cdv A outer s H E) [] (L2.start N vs) H s1 := inv_start S hr.hd e0 lv r x1
    obtain ⟨g, O, x, hp, wd, rr, hq⟩ := hsp
    have lv2 : vs.length = ps.length := lv
    have body : t { nx := fun _ H' => Q .non H', rt := Q } (L2.start N vs) H := by
      refine hdb g O H x hp _ H _ ⟨wd, wd.refl, fun q hq => (nomatch hq), List.nodup_nil, ?_, fun _ h => h⟩ (fun S' σ' H' n o _ => hq _ H' _ ⟨o.ext.keep, o.wd.feed⟩ n Rp.non) fun v H' s p e r => hq v H' s e p r
      unfold L2.start
      rw [lv2]
      exact EnvR.start rr
    refine wpAny_mono ((PSs.nox (hb f cdv A outer s H E hA (hr.deeper _))).run [] s1 (L2.start N vs) H _ I body) (fun fl s' hs => ?_) fun e s' hs => hs
    cases fl with
    | ret u =>
      obtain ⟨v, σ', H', J, rv, q⟩ := hs
      exact ⟨v, H', J.os, J.bare, J.base, J.hok, rv, q⟩
    | next =>
      obtain ⟨σ', H', J, q⟩ := hs
      exact ⟨V.non, H', J.os, J.bare, J.base, J.hok, rfl, q⟩
    | brk =>
      obtain ⟨_, _, _, q⟩ := hs
      exact False.elim q
    | cont =>
      obtain ⟨_, _, _, q⟩ := hs
      exact False.elim q
/-- THE HEAD, for a law that keeps its promise where no text is under way -/
theorem callG {P : Program} {w : World} {K : PySem.W.Frag} {mg mb : Str → Option Value} {k : Nat} {fa a : Addr} {fd : FuncData} {x : Str} {sp : Sp} {s₁ : Shared} {vs : List Value} {ns : List Int}
    (KX : K.In s₁.heap) (hns : s₁.heap.Ns mainGlobals mg) (hb : s₁.heap.Ns builtinsNs mb) (hbb : ∀ x : Str, x ≠ "__name__" → mb x = bootBuiltins x) (hlim : s₁.heap.NoLimit) (hg : s₁.gens = #[])
    (ha : s₁.heap.get? a = some { cls := .type "list", data := .seq vs.toArray }) (hi : IntsAre vs ns) (hl : ns.length ≤ sizeLine) (hr : Room k callerA)
    (F : ∀ base : Heap, K.In base → base.Ns mainGlobals mg → FnG P w K mg base k fa fd [x] sp) (hbind : ∀ (s : Shared) (u : Value), BindsTo s fd ⟨[u], []⟩ [(x, u)])
    (hsp : ∀ H : Hp, Only H → SqL K H a (ns.map V.int) → sp [.ref a] H (fun v _ => v = .bl true) fun _ _ _ => False) :
    codeAny (model P w) callerA (.call (.ref fa) ⟨[.ref a], []⟩) (fun r s' => r = .ok (.ret (.bool true)) ∧ OldK s₁.heap s'.heap ∧ s'.os = s₁.os ∧ AllBare s'.gens) s₁ := by
  have rv := L2.vals_ints hi
  -- H: the script may be tracked, nothing else
  have main : ∀ H : Hp, Only H → SqL K H a (ns.map V.int) → HOk P w H s₁.heap → (∀ b, H b ≠ none → b = a) → (H a ≠ none → K.lookup a = none) →
      codeAny (model P w) callerA (.call (.ref fa) ⟨[.ref a], []⟩) (fun r s' => r = .ok (.ret (.bool true)) ∧ OldK s₁.heap s'.heap ∧ s'.os = s₁.os ∧ AllBare s'.gens) s₁ := fun H hO hS hok hA hK => by
    have only : ∀ {b : Addr} {C : Prop}, (b = a → C) → (H b = none → C) → C := fun {b C} h1 h2 => by
      cases q : H b with
      | none => exact h2 q
      | some u => exact h1 (hA b (by rw [q]; exact fun z => nomatch z))
    have ofNs : ∀ {b : Addr} {m : Str → Option Value}, s₁.heap.Ns b m → (hidT s₁.heap H).Ns b m := fun {b m} ⟨o, es, ep, e, d, r⟩ => by
      refine ⟨o, es, ep, hidT_get e ?_, d, r⟩
      refine only (fun z => ?_) id
      subst z
      rw [ha] at e
      cases e
      cases (show Data.seq vs.toArray _ = Data.dict es ep from d)
    have hKb : K.In (hidT s₁.heap H) := fun b o e => by
      cases q : H b with
      | none => exact hidT_get (KX b o e) q
      | some u =>
        have z := hA b (by rw [q]; exact fun z => nomatch z)
        subst z
        rw [hK (by rw [q]; exact fun z => nomatch z)] at e
        cases e
    obtain ⟨mc, l1, l2⟩ := hlim
    have e0 : Env0 P w K mg (hidT s₁.heap H) callerA [] s₁ H := ⟨rfl, ⟨hKb, ofNs hns, ⟨mb, ofNs hb, hbb⟩, mc, ofNs l1, l2⟩, fun b o e => of_hidT e, Nat.le_of_eq (hidT_size _ _), trivial, fun b hb => absurd (show b ∈ ([] : List Addr) from hb) List.not_mem_nil, hok, .of_eq hg⟩
    refine codeAny_mono ((F _ hKb (ofNs hns)).go callerA [] s₁ H ⟨[.ref a], []⟩ [.ref a] [.ref a] _ _ rfl hr e0 (hbind s₁ (.ref a)) (.cons rfl .nil) (hsp H hO hS)) fun r s' h => ?_
    rcases r with e | fl
    · exact False.elim h
    · cases fl with
      | ret u =>
        obtain ⟨v, H', os, bare, un, hok', r', q⟩ := h
        have q' : v = .bl true := q
        subst q'
        have eu : u = Value.bool true := r'
        subst eu
        refine ⟨rfl, OldK.of_keep fun b o e => ?_, os, bare⟩
        rcases hO b with z | ⟨ob, xs, z⟩
        · exact un.keep b o e z (fun y => absurd (show b ∈ ([] : List Addr) from y) List.not_mem_nil) List.not_mem_nil
        · obtain ⟨e1, _⟩ := hok b _ z
          obtain ⟨e2, _⟩ := hok' b _ (un.frzs b ob _ z)
          rw [e] at e1
          cases e1
          exact e2
      | _ => exact False.elim h
  cases hk : K.lookup a with
  | some o =>
    have e := KX a o hk
    rw [ha] at e
    cases e
    exact main (fun _ => none) (fun _ => .inl rfl) (.inr ⟨_, vs.toArray, _, hk, rfl, rfl, rfl, by rw [List.size_toArray, hi.length]; exact hl, by simpa using rv⟩) (fun b u z => by cases (show (none : Option HO) = some u from z)) (fun b z => absurd rfl z) fun z => absurd rfl z
  | none =>
    have at_ : ∀ b, (if b = a then some (HO.frz { cls := .type "list", data := .seq vs.toArray } (.lst (ns.map V.int))) else none) ≠ none → b = a := fun b z => Classical.byContradiction fun n => z (if_neg n)
    refine main (fun b => if b = a then some (.frz { cls := .type "list", data := .seq vs.toArray } (.lst (ns.map V.int))) else none) (fun b => ?_) (.inl (.inr ⟨{ cls := .type "list", data := .seq vs.toArray }, if_pos rfl⟩)) (fun b u z => ?_) at_ fun _ => hk
    · rcases Classical.em (b = a) with c | c
      · exact .inr ⟨_, _, if_pos c⟩
      · exact .inl (if_neg c)
    · have z2 : (if b = a then some (HO.frz { cls := .type "list", data := .seq vs.toArray } (.lst (ns.map V.int))) else none) = some u := z
      have eb := at_ b (by rw [z2]; exact fun z => nomatch z)
      subst eb
      rw [if_pos rfl] at z2
      cases z2
      exact ⟨ha, by rw [List.length_map]; exact hl, vs, _, rv, ha⟩
theorem walkG {l : PySem.W.OpenLaw} {n k : Nat} {q : Program} {loose : List Str} {XP : (Str → Option Value) → Heap → Prop} {YP : World → Heap → Prop} {d : DefRec} {x : Str}
    (hn : l.most = some n) (hn2 : n ≤ sizeLine) (hdf : d.params.defaults = []) (hr : Room k callerA)
    (F : ∀ (w : World) (mg : Str → Option Value) (fa : Addr) (h : Heap), YP w h → h.Ns mainGlobals mg → mg d.name = some (.ref fa) →
      ∃ (K : PySem.W.Frag) (fd : FuncData) (sp : Sp), K.In h ∧ (∀ (s : Shared) (u : Value), BindsTo s fd ⟨[u], []⟩ [(x, u)]) ∧
        (∀ (H : Hp) (a : Addr) (ns : List Int), ns.length ≤ n → Only H → SqL K H a (ns.map V.int) → sp [.ref a] H (fun v _ => v = .bl true) fun _ _ _ => False) ∧
        ∀ base : Heap, K.In base → base.Ns mainGlobals mg → FnG l.prog w K mg base k fa fd [x] sp) :
    PySem.W.WalkO q loose XP YP l.row.toRowW d [] (fun f vs => PySem.call f vs) := by
  refine Att.attach_call hn hdf fun w s₀ s₁ mg mb fa o pm cd doc a vs ns G Y ho hd hcd hmg hobj hints hlen hg => ?_
  obtain ⟨K, fd, sp, KX, hb, hsp, hF⟩ := F w mg fa _ Y G.T.g hmg
  exact callG KX G.T.g G.T.b G.T.builtins G.T.nolimit hg hobj hints (Nat.le_trans hlen hn2) hr hF hb fun H hO hS => hsp H a ns hlen hO hS
end K60

set_option maxHeartbeats 4000000
/-! K60, the data layer: what else the text does. -/
namespace K60
open PySem PySem.Spec PyProof.Rows L2
section
variable {f : Fe} {ρ ρ' : List Sl} {K : PySem.W.Frag} {ds es : List PyData} {tl ta tb tc te : TE} {tA : TA} {d e : PyData} {P : Sl → Prop} {s t : Sl} {O : List Addr} {H1 : Hp} {a : Addr} {xs : List V}
/-! ### walks that give pairs -/
/-- an iterator that gives new pairs -/
theorem walkR_pairs {J : It} {us vs : List PyData} (go : ∀ i H2, i < us.length → i < vs.length → ExtO O H1 H2 → J.go i H2) (stop : ∀ i H2, us.length ≤ i ∨ vs.length ≤ i → ExtO O H1 H2 → J.stop i H2)
    (yld : ∀ (O' : List Addr) i H2 v H3, (∀ p ∈ O', p ∉ O → H1 p = none) → ExtO O H1 H2 → J.yld i H2 v H3 → ∃ T x y d e, v = .ref T ∧ H2 T = none ∧ H3 = upd H2 T (.tup [x, y]) ∧ us[i]? = some d ∧ vs[i]? = some e ∧ Rp (hid H2 O') x d ∧ Rp (hid H2 O') y e) :
    WalkR f O J H1 ((us.zip vs).map fun p => .dat (.tuple [p.1, p.2])) := by
  have ln : ((us.zip vs).map fun p => Sl.dat (.tuple [p.1, p.2])).length = min us.length vs.length := by
    rw [List.length_map, List.length_zip]
  refine ⟨fun i H2 hi e2 => ?_, fun H2 e2 => ?_, fun O' i H2 v H3 hi nw e2 w2 yy => ?_⟩
  · rw [ln] at hi
    exact go i H2 (by omega) (by omega) e2
  · rw [ln]
    exact stop _ H2 (by omega) e2
  · obtain ⟨T, x, y, d, e, rfl, hT, rfl, hd, he, rd, re⟩ := yld O' i H2 v H3 nw e2 yy
    have x3 := w2.new (o := .tup [x, y]) hT
    refine ⟨.dat (.tuple [d, e]), ?_, x3, .mkT (w2.hnew hT) ((RpL.cons rd (.cons re .nil)).mono (x3.hid w2.fO)) rfl⟩
    have z : (us.zip vs)[i]? = some (d, e) := List.getElem?_zip_eq_some.mpr ⟨hd, he⟩
    rw [List.getElem?_map, z]
    rfl
theorem di_enumT (h : DA f tA ρ (· = [.dat (.tuple ds)])) : DI f (iEnumT K tA) ρ (((List.range ds.length).zip ds).map fun p : Nat × PyData => .dat (.tuple [.int p.1, p.2])) := fun O σ H w e R q => h O σ H w e _ fun us H1 ss x p r => by
  subst p
  match us, r with
  | [v], r =>
    obtain ⟨a, xs, rfl, ha, rl⟩ := Rp.tup_inv r.1
    obtain ⟨h1, h2⟩ := rd_get ha
    have st : ∀ H2, ExtO O H1 H2 → SqT K H2 a xs := fun H2 e2 => .inl (rd_ext e2 h2 h1)
    have ln := rl.len
    have wk := walkR_pairs (f := f) (O := O) (H1 := H1) (J := Iet K a) (us := (List.range ds.length).map fun i : Nat => .int i) (vs := ds)
      (fun i H2 _ hi e2 => ⟨xs, xs[i]'(by omega), st H2 e2, List.getElem?_eq_getElem (by omega)⟩) (fun i H2 hi e2 => ⟨xs, st H2 e2, by rw [List.length_map, List.length_range] at hi; omega⟩) fun O' i H2 v H3 nw e2 y => by
        obtain ⟨T, x, rfl, hT, rfl, y⟩ := y
        have hx := y xs (st H2 e2)
        obtain ⟨d, hd, rd⟩ := rl.at hx
        have hi : i < ds.length := (List.getElem?_eq_some_iff.mp hd).1
        exact ⟨T, _, x, .int (i : Nat), d, rfl, hT, rfl, by rw [List.getElem?_map, List.getElem?_range hi]; rfl, hd, .int _, rd.mono (e2.hid nw)⟩
    refine ⟨a, xs, rfl, .inl h1, q _ H1 x ?_⟩
    rw [List.zip_map_left, List.map_map] at wk
    exact wk
theorem di_zipL (h : DA f tA ρ (· = [.dat (.list ds), .dat (.list es)])) : DI f (RZ.iZipA K tA) ρ ((ds.zip es).map fun p => .dat (.tuple [p.1, p.2])) := fun O σ H w e R q => h O σ H w e _ fun us H1 ss x p r => by
  subst p
  match us, r with
  | [v, u], r =>
    obtain ⟨a, xs, rfl, ha, rl⟩ := Rp.list_inv r.1
    obtain ⟨b, ys, rfl, hb, rm⟩ := Rp.list_inv r.2.1
    have l1 := rl.len
    have l2 := rm.len
    have sa : ∀ H2, ExtO O H1 H2 → SqL K H2 a xs := fun H2 e2 => .inl (.inl (e2 a _ (hid_get ha).2 (hid_get ha).1))
    have sb : ∀ H2, ExtO O H1 H2 → SqL K H2 b ys := fun H2 e2 => .inl (.inl (e2 b _ (hid_get hb).2 (hid_get hb).1))
    refine ⟨a, b, xs, ys, rfl, .inl ⟨.inl (.inl (hid_get ha).1), .inl (.inl (hid_get hb).1), q _ H1 x (walkR_pairs (fun i H2 h1 h2 e2 => ⟨xs, ys, xs[i]'(by omega), ys[i]'(by omega), sa H2 e2, sb H2 e2, List.getElem?_eq_getElem (by omega), List.getElem?_eq_getElem (by omega)⟩)
      (fun i H2 hi e2 => ⟨xs, ys, sa H2 e2, sb H2 e2, by omega⟩) fun O' i H2 v H3 nw e2 yy => ?_)⟩⟩
    obtain ⟨T, x, y, rfl, hT, rfl, hx, hy⟩ := yy
    obtain ⟨d, hd, rd⟩ := rl.at (hx xs (sa H2 e2))
    obtain ⟨e, he, re⟩ := rm.at (hy ys (sb H2 e2))
    exact ⟨T, x, y, d, e, rfl, hT, rfl, hd, he, rd.mono (e2.hid nw), re.mono (e2.hid nw)⟩
theorem di_zipT (h : DA f tA ρ (· = [.dat (.tuple ds), .dat (.tuple es)])) : DI f (RZ.iZipA K tA) ρ ((ds.zip es).map fun p => .dat (.tuple [p.1, p.2])) := fun O σ H w e R q => h O σ H w e _ fun us H1 ss x p r => by
  subst p
  match us, r with
  | [v, u], r =>
    obtain ⟨a, xs, rfl, ha, rl⟩ := Rp.tup_inv r.1
    obtain ⟨b, ys, rfl, hb, rm⟩ := Rp.tup_inv r.2.1
    have l1 := rl.len
    have l2 := rm.len
    have sa : ∀ H2, ExtO O H1 H2 → SqT K H2 a xs := fun H2 e2 => .inl (rd_ext e2 (rd_get ha).2 (rd_get ha).1)
    have sb : ∀ H2, ExtO O H1 H2 → SqT K H2 b ys := fun H2 e2 => .inl (rd_ext e2 (rd_get hb).2 (rd_get hb).1)
    refine ⟨a, b, xs, ys, rfl, .inr ⟨.inl (rd_get ha).1, .inl (rd_get hb).1, q _ H1 x (walkR_pairs (fun i H2 h1 h2 e2 => ⟨xs, ys, xs[i]'(by omega), ys[i]'(by omega), sa H2 e2, sb H2 e2, List.getElem?_eq_getElem (by omega), List.getElem?_eq_getElem (by omega)⟩)
      (fun i H2 hi e2 => ⟨xs, ys, sa H2 e2, sb H2 e2, by omega⟩) fun O' i H2 v H3 nw e2 yy => ?_)⟩⟩
    obtain ⟨T, x, y, rfl, hT, rfl, hx, hy⟩ := yy
    obtain ⟨d, hd, rd⟩ := rl.at (hx xs (sa H2 e2))
    obtain ⟨e, he, re⟩ := rm.at (hy ys (sb H2 e2))
    exact ⟨T, x, y, d, e, rfl, hT, rfl, hd, he, rd.mono (e2.hid nw), re.mono (e2.hid nw)⟩

/-! ### slices; chains -/
def PO' (f : Fe) (to : TO) (ρ : List Sl) (o : Option Int) : Prop := ∀ (O : List Addr) (σ : L2.St) (H : Hp), Wd f O H → EnvR O H σ ρ → ∀ Q : Option Int → Hp → Prop, (∀ H', Ext f H H' → Q o H') → to σ H Q
theorem po_no : PO' f tNoPart ρ none := fun O σ H w e Q q => q H w.refl
theorem po_int {i : Int} (h : DE f te ρ (· = .dat (.int i))) : PO' f (tPart te) ρ (some i) := fun O σ H w e Q q => h O σ H w e _ fun v H1 s x p r => by
  subst p
  exact ⟨i, Rp.int_inv r, q H1 x⟩
def cutD (ds : List PyData) (lo hi : Option Int) : List PyData := (ds.drop (HT.sIx ds.length 0 lo)).take (HT.sIx ds.length ds.length hi - HT.sIx ds.length 0 lo)
theorem RpL.cut {H : Hp} {vs : List V} {ds : List PyData} (r : RpL H vs ds) (lo hi : Option Int) : RpL H (cutV vs lo hi) (cutD ds lo hi) := by
  unfold cutV cutD
  rw [r.len]
  exact (r.drop _).take _
theorem de_slL {to tu : TO} {lo hi : Option Int} (h : DE f te ρ (· = .dat (.list ds))) (h1 : PO' f to ρ lo) (h2 : PO' f tu ρ hi) : DE f (L2.tSl (rSlL K) te to tu) ρ (· = .dat (.list (cutD ds lo hi))) := fun O σ H w e Q q => h O σ H w e _ fun v H1 s x1 p r => by
  subst p
  refine h1 O σ H1 (w.ext x1) (e.mono (x1.hid w.fO)) _ fun H2 x2 => h2 O σ H2 ((w.ext x1).ext x2) ((e.mono (x1.hid w.fO)).mono (x2.hid w.fO)) _ fun H3 x3 => ?_
  have w3 := ((w.ext x1).ext x2).ext x3
  obtain ⟨a, xs, rfl, ha, rl⟩ := Rp.list_inv (Rp.mono ((x2.trans x3).hid w.fO) r)
  exact ⟨a, xs, rfl, .inl (.inl (hid_get ha).1), fun p hp => q _ _ _ (((x1.trans x2).trans x3).trans (w3.new hp)) rfl (.lst (w3.hnew hp) ((rl.cut lo hi).mono ((w3.new hp).hid w.fO)))⟩
theorem de_slT {to tu : TO} {lo hi : Option Int} (nm : isM (cutD ds lo hi) = false) (h : DE f te ρ (· = .dat (.tuple ds))) (h1 : PO' f to ρ lo) (h2 : PO' f tu ρ hi) : DE f (L2.tSl (rSlA K) te to tu) ρ (· = .dat (.tuple (cutD ds lo hi))) := fun O σ H w e Q q => h O σ H w e _ fun v H1 s x1 p r => by
  subst p
  refine h1 O σ H1 (w.ext x1) (e.mono (x1.hid w.fO)) _ fun H2 x2 => h2 O σ H2 ((w.ext x1).ext x2) ((e.mono (x1.hid w.fO)).mono (x2.hid w.fO)) _ fun H3 x3 => ?_
  have w3 := ((w.ext x1).ext x2).ext x3
  have r3 := Rp.mono ((x2.trans x3).hid w.fO) r
  obtain ⟨a, xs, rfl, ha, rl⟩ := Rp.tup_inv r3
  refine ⟨a, xs, rfl, .inl (rd_get ha).1, fun z => q _ H3 _ ((x1.trans x2).trans x3) rfl ?_, fun z p hp => q _ _ _ (((x1.trans x2).trans x3).trans (w3.new hp)) rfl (.mkT (w3.hnew hp) ((rl.cut lo hi).mono ((w3.new hp).hid w.fO)) nm)⟩
  rw [rl.len] at z
  have e2 : cutD ds lo hi = ds := by
    unfold cutD
    rw [z.1, z.2, List.drop_zero, Nat.sub_zero, List.take_length]
  rw [e2]
  exact r3
theorem cut_tail : ∀ ds : List PyData, cutD ds (some 1) none = ds.tail
  | [] => by
    unfold cutD
    simp
  | d :: ds => by
    unfold cutD
    rw [show (1 : Int) = ((1 : Nat) : Int) from rfl, HT.sIx_nat, HT.sIx_none, List.length_cons, Nat.min_eq_left (by omega), List.drop_one, List.tail_cons]
    exact List.take_of_length_le (by omega)
theorem cut_take (ds : List PyData) (k : Nat) : cutD ds none (some (k : Int)) = ds.take k := by
  unfold cutD
  rw [HT.sIx_nat, HT.sIx_none, List.drop_zero, Nat.sub_zero]
  rcases Nat.le_total k ds.length with h | h
  · rw [Nat.min_eq_left h]
  · rw [Nat.min_eq_right h, List.take_length, List.take_of_length_le h]
theorem dv_tailL (h : DE f te ρ (· = .dat (.list ds))) : DE f (L2.tSl (rSlL K) te (tPart (tC (.int 1))) tNoPart) ρ (· = .dat (.list ds.tail)) := by
  have z := de_slL (K := K) h (po_int (dv_int (i := 1))) po_no
  rw [cut_tail] at z
  exact z
theorem dv_tailT (nm : isM ds.tail = false) (h : DE f te ρ (· = .dat (.tuple ds))) : DE f (L2.tSl (rSlA K) te (tPart (tC (.int 1))) tNoPart) ρ (· = .dat (.tuple ds.tail)) := by
  have z := de_slT (K := K) (lo := some 1) (hi := none) (by rw [cut_tail]; exact nm) h (po_int (dv_int (i := 1))) po_no
  rw [cut_tail] at z
  exact z
theorem dv_takeL {k : Nat} (h : DE f te ρ (· = .dat (.list ds))) (hk : DE f ta ρ (· = .dat (.int (k : Int)))) : DE f (L2.tSl (rSlL K) te tNoPart (tPart ta)) ρ (· = .dat (.list (ds.take k))) := by
  have z := de_slL (K := K) h po_no (po_int hk)
  rw [cut_take] at z
  exact z
theorem dv_takeT {k : Nat} (nm : isM (ds.take k) = false) (h : DE f te ρ (· = .dat (.tuple ds))) (hk : DE f ta ρ (· = .dat (.int (k : Int)))) : DE f (L2.tSl (rSlA K) te tNoPart (tPart ta)) ρ (· = .dat (.tuple (ds.take k))) := by
  have z := de_slT (K := K) (lo := none) (hi := some (k : Int)) (by rw [cut_take]; exact nm) h po_no (po_int hk)
  rw [cut_take] at z
  exact z
/-- a < b < c -/
theorem dv_chain {r r' : R2} {u : Sl} {b : Bool} (ha : DE f ta ρ (· = s)) (hb : DE f tb ρ (· = t)) (hr : DR2 f r s t (· = .dat (.bool b))) (h1 : b = true → DE f tc ρ (· = u)) (h2 : b = true → DR2 f r' t u P) (h3 : b = false → P (.dat (.bool false))) : DE f (tChain r r' ta tb tc) ρ P := fun O σ H w e Q q =>
  ha O σ H w e _ fun v H1 s1 x1 p1 r1 => by
    subst p1
    refine hb O σ H1 (w.ext x1) (e.mono (x1.hid w.fO)) _ fun v2 H2 s2 x2 p2 r2 => ?_
    subst p2
    have w2 := (w.ext x1).ext x2
    refine hr O H2 v v2 w2 (r1.mono (x2.hid w.fO)) r2 _ fun v3 H3 s3 x3 p3 r3 => ?_
    subst p3
    refine ⟨b, Rp.bool_inv r3, ?_⟩
    cases b with
    | true =>
      rw [if_pos rfl]
      have w3 := w2.ext x3
      refine h1 rfl O σ H3 w3 (((e.mono (x1.hid w.fO)).mono (x2.hid w.fO)).mono (x3.hid w.fO)) _ fun v4 H4 s4 x4 p4 r4 => ?_
      subst p4
      exact h2 rfl O H4 v2 v4 (w3.ext x4) ((r2.mono (x3.hid w.fO)).mono (x4.hid w.fO)) r4 Q fun v5 H5 s5 x5 p5 r5 => q v5 H5 s5 ((((x1.trans x2).trans x3).trans x4).trans x5) p5 r5
    | false =>
      rw [if_neg Bool.false_ne_true]
      exact q _ H3 _ ((x1.trans x2).trans x3) (h3 rfl) (Rp.bl false)
/-! ### statements -/
variable {O0 : List Addr} {H0 : Hp} {S : Pt} {N : Pt → Prop} {R : Sl → Prop} {u : TS}
theorem db_par {i j : Nat} {L : List Sl → Prop} (ha : DA f tA S.ρ L) (hl : ∀ ss, L ss → ∃ s t, ss = [s, t] ∧ N ⟨S.O, S.ω, (S.ρ.set i s).set j t⟩) : DB f O0 H0 (tPar i j tA) S N R := fun σ H D o nx rt => ha S.O σ H o.wd o.env _ fun vs H' ss x p r => by
  obtain ⟨s, t, rfl, n⟩ := hl ss p
  match vs, r with
  | [v, w], r => exact ⟨v, w, rfl, nx _ _ H' n (((o.on x).put (i := i) r.1).put (i := j) r.2.1) (Tr.of x o.wd.fO)⟩
theorem db_par3 {i j l : Nat} {L : List Sl → Prop} (ha : DA f tA S.ρ L) (hl : ∀ ss, L ss → ∃ s t u, ss = [s, t, u] ∧ N ⟨S.O, S.ω, ((S.ρ.set i s).set j t).set l u⟩) : DB f O0 H0 (tPar3 i j l tA) S N R := fun σ H D o nx rt => ha S.O σ H o.wd o.env _ fun vs H' ss x p r => by
  obtain ⟨s, t, u, rfl, n⟩ := hl ss p
  match vs, r with
  | [v, w, y], r => exact ⟨v, w, y, rfl, nx _ _ H' n ((((o.on x).put (i := i) r.1).put (i := j) r.2.1).put (i := l) r.2.2.1) (Tr.of x o.wd.fO)⟩
theorem qb_par {i j : Nat} {L : List Sl → Prop} (ha : DA f tA S.ρ L) (hl : ∀ ss, L ss → ∃ s t, ss = [s, t] ∧ DB f O0 H0 u ⟨S.O, S.ω, (S.ρ.set i s).set j t⟩ N R) : DB f O0 H0 (tSeq (tPar i j tA) u) S N R :=
  db_seq (M := fun S' => ∃ s t, L [s, t] ∧ S' = ⟨S.O, S.ω, (S.ρ.set i s).set j t⟩) (db_par ha fun ss p => by
    obtain ⟨s, t, rfl, _⟩ := hl ss p
    exact ⟨s, t, rfl, s, t, p, rfl⟩) fun S' m => by
  obtain ⟨s, t, p, rfl⟩ := m
  obtain ⟨s', t', e, k⟩ := hl _ p
  obtain ⟨rfl, e2⟩ := List.cons.inj e
  obtain ⟨rfl, _⟩ := List.cons.inj e2
  exact k
theorem qb_par3 {i j l : Nat} {L : List Sl → Prop} (ha : DA f tA S.ρ L) (hl : ∀ ss, L ss → ∃ s t v, ss = [s, t, v] ∧ DB f O0 H0 u ⟨S.O, S.ω, ((S.ρ.set i s).set j t).set l v⟩ N R) : DB f O0 H0 (tSeq (tPar3 i j l tA) u) S N R :=
  db_seq (M := fun S' => ∃ s t v, L [s, t, v] ∧ S' = ⟨S.O, S.ω, ((S.ρ.set i s).set j t).set l v⟩) (db_par3 ha fun ss p => by
    obtain ⟨s, t, v, rfl, _⟩ := hl ss p
    exact ⟨s, t, v, rfl, s, t, v, p, rfl⟩) fun S' m => by
  obtain ⟨s, t, v, p, rfl⟩ := m
  obtain ⟨s', t', v', e, k⟩ := hl _ p
  obtain ⟨rfl, e2⟩ := List.cons.inj e
  obtain ⟨rfl, e3⟩ := List.cons.inj e2
  obtain ⟨rfl, _⟩ := List.cons.inj e3
  exact k
end
section
variable {f : Fe} {ρ : List Sl} {vs vs1 : List Nat} {wi wi1 : TI} {g g1 : TG} {te : TE} {α β : Type}
/-- THE COMPREHENSION over two walks -/
theorem dv_lc2 {enc : α → Sl} {xs : List α} {ρ' : α → List Sl} {enc1 : α → β → Sl} {ys : α → List β} {ρ2 : α → β → List Sl} {q : α → β → PyData} (hi : DI f wi ρ (xs.map enc)) (hz : xs.length ≤ 100) (hy : ∀ x ∈ xs, (ys x).length ≤ 100)
    (hg : ∀ x ∈ xs, DG f g vs (enc x) (wipeS ρ vs) (ρ' x)) (hi1 : ∀ x ∈ xs, DI f wi1 (ρ' x) ((ys x).map (enc1 x))) (hg1 : ∀ x ∈ xs, ∀ y ∈ ys x, DG f g1 vs1 (enc1 x y) (wipeS (ρ' x) vs1) (ρ2 x y)) (he : ∀ x ∈ xs, ∀ y ∈ ys x, DE f te (ρ2 x y) (· = .dat (q x y))) :
    DE f (tLc2 wi g tYes wi1 g1 tYes te vs vs1) ρ (· = .dat (.list (xs.flatMap fun x => (ys x).map (q x)))) := fun O σ H w e Q kq => hi O σ H w e _ fun J1 H1 x1 wk => fun D hD => by
  have w1 := w.ext x1
  have fD : D ≠ f.1 := fun z => w1.feed.there (by rw [← z]; exact hD)
  have cD : D ≠ f.2 := fun z => w1.feed.cells (by rw [← z]; exact hD)
  have nO : D ∉ O := w1.fresh hD
  have new : ∀ p ∈ D :: O, p ∉ O → H1 p = none := fun p hp hn => by
    rcases List.mem_cons.mp hp with z | z
    · rw [z]
      exact hD
    · exact absurd z hn
  have ln : (xs.map enc).length = xs.length := List.length_map ..
  -- what stands at D in a state
  let At : Hp → List PyData → Prop := fun H' acc => ∃ ws, Ext f H1 H' ∧ Wd f (D :: O) H' ∧ H' D = some (.lst ws) ∧ RpL (hid H' (D :: O)) ws acc
  have step : ∀ {H2 H3 : Hp} {acc : List PyData}, At H2 acc → Ext f H2 H3 → At H3 acc := fun {H2 H3 acc} ⟨ws, x2, w2, hw, r⟩ x3 => ⟨ws, x2.trans x3, w2.ext x3, x3.keep D _ fD hw, r.mono (x3.hid w2.fO)⟩
  refine ⟨fun i m H' => m = xs.length - i ∧ i ≤ xs.length ∧ ∃ acc, acc = ((xs.take i).flatMap fun x => (ys x).map (q x)) ∧ acc.length ≤ 100 * i ∧ At H' acc, ⟨xs.length, by simp, Nat.zero_le _, [], rfl, Nat.zero_le _, [], w1.new hD, ⟨(w1.new hD).feed, List.mem_cons_of_mem _ w1.fO, fun p hp => ?_⟩, upd_same, .nil⟩, ?_⟩
  · rcases List.mem_cons.mp hp with z | z
    · rw [z, upd_same]
      exact fun z => nomatch z
    · exact (w1.ext (w1.new hD)).tr p z
  · rintro i m H' ⟨rfl, hi', acc, ea, al, at_⟩
    obtain ⟨ws, x2, w2, hw, rw_⟩ := id at_
    have eo : ExtO O H1 H' := x2.o w1.fO
    by_cases hlt : i < xs.length
    · refine .inr ⟨wk.goes i H' (by rw [ln]; exact hlt) eo, fun H'' => ∃ m', m' < xs.length - i ∧ (m' = xs.length - (i + 1) ∧ i + 1 ≤ xs.length ∧ ∃ acc, acc = ((xs.take (i + 1)).flatMap fun x => (ys x).map (q x)) ∧ acc.length ≤ 100 * (i + 1) ∧ At H'' acc), fun H'' h => h, fun v H3 y => ?_⟩
      obtain ⟨s, hs1, x3, r3⟩ := wk.yields (D :: O) i H' v H3 (by rw [ln]; exact hlt) new eo w2 y
      obtain ⟨x, hx⟩ : ∃ x, xs[i]? = some x := ⟨xs[i], List.getElem?_eq_getElem hlt⟩
      have mx := List.mem_of_getElem? hx
      have es : s = enc x := by
        rw [List.getElem?_map, hx] at hs1
        exact (Option.some.inj hs1).symm
      subst es
      have w3 := w2.ext x3
      have sb : Sub (hid H O) (hid H3 (D :: O)) := fun a o h => by
        obtain ⟨h1, h2⟩ := hid_get h
        have h3 := x1.keep a o (fun z => h2 (by rw [z]; exact w.fO)) h1
        refine hid_of (x3.keep a o (fun z => h2 (by rw [z]; exact w.fO)) (eo a o h2 h3)) fun m => ?_
        rcases List.mem_cons.mp m with z | z
        · rw [z, hD] at h3
          cases h3
        · exact h2 z
      refine hg x mx (D :: O) _ H3 v w3 ((e.mono sb).wipe vs) r3 _ fun σ2 e2 hwp => ⟨by rw [hwp, wipe_wipe], ?_⟩
      show wi1 σ2 H3 _
      refine hi1 x mx (D :: O) σ2 H3 w3 e2 _ fun J2 H4 x4 wk2 => ?_
      have at4 : At H4 acc := step (step at_ x3) x4
      have w4 := w3.ext x4
      have ln2 : ((ys x).map (enc1 x)).length = (ys x).length := List.length_map ..
      have yb := hy x mx
      refine ⟨fun j k H'' => k = (ys x).length - j ∧ j ≤ (ys x).length ∧ ExtO (D :: O) H4 H'' ∧ At H'' (acc ++ ((ys x).take j).map (q x)), ⟨(ys x).length, by simp, Nat.zero_le _, fun _ _ _ h => h, by rw [List.take_zero, List.map_nil, List.append_nil]; exact at4⟩, ?_⟩
      rintro j k H5 ⟨rfl, hj, eo5, at5⟩
      obtain ⟨us, x5, w5, hu, ru⟩ := id at5
      by_cases hlt2 : j < (ys x).length
      · refine .inr ⟨wk2.goes j H5 (by rw [ln2]; exact hlt2) eo5, fun H'' => ∃ k', k' < (ys x).length - j ∧ (k' = (ys x).length - (j + 1) ∧ j + 1 ≤ (ys x).length ∧ ExtO (D :: O) H4 H'' ∧ At H'' (acc ++ ((ys x).take (j + 1)).map (q x))), fun H'' h => h, fun v2 H6 y2 => ?_⟩
        obtain ⟨s2, hs2, x6, r6⟩ := wk2.yields (D :: O) j H5 v2 H6 (by rw [ln2]; exact hlt2) (fun p hp hn => absurd hp hn) eo5 w5 y2
        obtain ⟨y, hyj⟩ : ∃ y, (ys x)[j]? = some y := ⟨(ys x)[j], List.getElem?_eq_getElem hlt2⟩
        have my := List.mem_of_getElem? hyj
        have es2 : s2 = enc1 x y := by
          rw [List.getElem?_map, hyj] at hs2
          exact (Option.some.inj hs2).symm
        subst es2
        have w6 := w5.ext x6
        have sb6 : Sub (hid H3 (D :: O)) (hid H6 (D :: O)) := fun a o h => by
          obtain ⟨h1, h2⟩ := hid_get h
          have n1 : a ≠ f.1 := fun z => h2 (by rw [z]; exact w3.fO)
          exact hid_of (x6.keep a o n1 (eo5 a o h2 (x4.keep a o n1 h1))) h2
        refine hg1 x mx y my (D :: O) _ H6 v2 w6 ((e2.mono sb6).wipe vs1) r6 _ fun σ3 e3 hwp3 => ⟨by rw [hwp3, wipe_wipe], ?_⟩
        show te σ3 H6 _
        refine he x mx y my (D :: O) σ3 H6 w6 e3 _ fun z H7 s7 x7 p7 r7 => ?_
        subst p7
        obtain ⟨us7, x17, w7, hu7, ru7⟩ := step (step at5 x6) x7
        have l7 := ru7.len
        have lt7 : (acc ++ List.map (q x) (List.take j (ys x))).length ≤ 100 * i + 100 := by
          rw [List.length_append, List.length_map, List.length_take]
          omega
        refine ⟨us7, hu7, Nat.lt_of_le_of_lt (by omega : us7.length ≤ 100000) (by decide), (ys x).length - (j + 1), by omega, rfl, hlt2, fun a o n h => ?_, us7 ++ [z], ⟨fun a o n h => ?_, w7.feed.put fD cD⟩, ⟨w7.feed.put fD cD, w7.fO, fun p hp => ?_⟩, upd_same, ?_⟩
        · have n1 : a ≠ f.1 := fun z => n (by rw [z]; exact w3.fO)
          rw [upd_ne (fun z => n (by rw [z]; exact List.mem_cons_self ..))]
          exact x7.keep a o n1 (x6.keep a o n1 (eo5 a o n h))
        · rw [upd_ne (fun z => by rw [z, hD] at h; cases h)]
          exact x17.keep a o n h
        · by_cases z : p = D
          · rw [z, upd_same]
            exact fun z => nomatch z
          · rw [upd_ne z]
            exact w7.tr p hp
        · rw [hid_upd (List.mem_cons_self ..), take_next hyj, List.map_append, ← List.append_assoc]
          exact RpL.app ru7 (.cons r7 .nil)
      · have ej : j = (ys x).length := by omega
        subst ej
        refine .inl ⟨by have z := wk2.stops H5 eo5; rw [ln2] at z; exact z, xs.length - (i + 1), by omega, rfl, hlt, _, ?_, ?_, at5⟩
        · rw [take_next hx, List.flatMap_append, ← ea, List.take_length]
          show _ = acc ++ List.flatMap _ [x]
          rw [List.flatMap_cons, List.flatMap_nil, List.append_nil]
        · rw [List.length_append, List.length_map, List.length_take, Nat.min_self]
          omega
    · have e0 : i = xs.length := by omega
      subst e0
      rw [List.take_length] at ea
      subst ea
      exact .inl ⟨by have z := wk.stops H' eo; rw [ln] at z; exact z, kq _ H' _ (x1.trans x2) rfl (.lst (hid_of hw nO) (rw_.mono (hid_less fun a h => List.mem_cons_of_mem _ h)))⟩
end
/-! ### repr, where no text is under way -/
structure Shown (d : PyData) : Prop where
  dis : isDisplay d = true
  show_ : d.showable = true
  nd : d.hasDict = false
  dep : d.depth ≤ 60
  short : d.leavesShort 13 = true
  few : d.weight ≤ 2 ^ 20
def rReprD (K : PySem.W.Frag) : List V → Hp → VK → Prop := fun xs H Q => ∃ v d, xs = [v] ∧ Dp K H v d ∧ Shown d ∧ Q (.str d.shown) H
theorem cr_reprD {X : Cx} (hA : X.A.guards = some []) (hu : X.A.units + 65 < cLine) : CallR X (.builtin "repr") (rReprD X.K) := by
  intro pins s σ H xs us Q I r h
  obtain ⟨v, d, rfl, hd, sh, q⟩ := h
  cases r with
  | cons r1 r2 =>
    cases r2
    obtain ⟨as, rd⟩ := Dp.reads I d v _ hd r1
    obtain ⟨a, rfl⟩ := isRef_of_reads rd sh.dis
    have dep := sh.dep
    exact repr_of_reads' rd sh.show_ (PyData.noDict_hsm sh.nd) hA (by omega) (fun _ _ e => e) (fun h' u tk hk => ⟨.str d.shown, H, I.kept (t' := tk) hk, ⟨u, rfl⟩, q⟩) (PyData.shown_fits (by decide) (Nat.le_refl 13) sh.short sh.few)
theorem rc_repr {f : Fe} {K : PySem.W.Frag} {d : PyData} (sh : Shown d) : DRC f (rReprD K) [.dat d] (· = .dat (.str d.shown)) := drc1 fun O H v w r Q q =>
  ⟨v, d, rfl, (Rp.mono (hid_sub H O) r).dp, sh, q _ H _ w.refl rfl (Rp.str _)⟩
end K60

set_option maxHeartbeats 4000000
/-! K60, plain: the order of tuples of texts; a sorted list without doubles. -/
namespace K60
open PySem PySem.Spec PyProof.Rows PySem.W

theorem str_ext {x y : Str} (h : x.cps.toList = y.cps.toList) : x = y := by
  cases x
  cases y
  exact congrArg Str.mk (Array.toList_inj.mp h)
theorem toks_inj : ∀ {a b : List Str}, keyToksAll (a.map PyData.str) = keyToksAll (b.map PyData.str) → a = b
  | [], [], _ => rfl
  | [], y :: b, h => by
    have h1 : keyToksAll [] = keyToksAll (PyData.str y :: b.map PyData.str) := h
    rw [keyToksAll, keyToksAll] at h1
    have h2 := (List.cons.inj h1).1
    cases h2
  | x :: a, [], h => by
    have h1 : keyToksAll (PyData.str x :: a.map PyData.str) = keyToksAll [] := h
    rw [keyToksAll, keyToksAll] at h1
    have h2 := (List.cons.inj h1).1
    cases h2
  | x :: a, y :: b, h => by
    have h1 : keyToksAll (PyData.str x :: a.map PyData.str) = keyToksAll (PyData.str y :: b.map PyData.str) := h
    rw [keyToksAll, keyToksAll, keyToks, keyToks] at h1
    have h2 := (List.cons.inj h1).2
    have h3 := List.cons.inj (show Sum.inr x.cps.toList :: keyToksAll (a.map PyData.str) = Sum.inr y.cps.toList :: keyToksAll (b.map PyData.str) from h2)
    have h4 : x.cps.toList = y.cps.toList := Sum.inr.inj h3.1
    rw [str_ext h4, toks_inj h3.2]
theorem tl_irrefl (a : List Str) : ¬ tupLt a a := by
  unfold tupLt dataLt
  rw [lex_irrefl]
  decide
theorem tl_trans {a b c : List Str} (h1 : tupLt a b) (h2 : tupLt b c) : tupLt a c := lex_trans _ _ _ h1 h2
theorem tl_total {a b : List Str} (h1 : ¬ tupLt a b) (h2 : ¬ tupLt b a) : a = b := by
  unfold tupLt dataLt at h1 h2
  have e := lex_total (O := itemOrd) _ _ (by simpa using h1) (by simpa using h2)
  unfold eT at e
  rw [keyToks, keyToks] at e
  exact toks_inj e
instance (a b : List Str) : Decidable (tupLt a b) := by
  unfold tupLt
  exact inferInstance
/-- x into a rising list -/
def insT (x : List Str) : List (List Str) → List (List Str)
  | [] => [x]
  | y :: l => if tupLt x y then x :: y :: l else if tupLt y x then y :: insT x l else y :: l
def ssort : List (List Str) → List (List Str)
  | [] => []
  | x :: l => insT x (ssort l)
theorem mem_insT {x z : List Str} : ∀ {l : List (List Str)}, z ∈ insT x l ↔ z = x ∨ z ∈ l
  | [] => by simp [insT]
  | y :: l => by
    unfold insT
    by_cases h : tupLt x y
    · rw [if_pos h]
      simp
    · rw [if_neg h]
      by_cases h2 : tupLt y x
      · rw [if_pos h2, List.mem_cons, mem_insT (l := l), List.mem_cons]
        constructor
        · rintro (e | e | e)
          · exact .inr (.inl e)
          · exact .inl e
          · exact .inr (.inr e)
        · rintro (e | e | e)
          · exact .inr (.inl e)
          · exact .inl e
          · exact .inr (.inr e)
      · rw [if_neg h2]
        have e := tl_total h h2
        subst e
        simp
theorem pw_insT {x : List Str} : ∀ {l : List (List Str)}, l.Pairwise tupLt → (insT x l).Pairwise tupLt
  | [], _ => List.pairwise_singleton _ _
  | y :: l, h => by
    obtain ⟨h1, h2⟩ := List.pairwise_cons.mp h
    unfold insT
    by_cases c : tupLt x y
    · rw [if_pos c]
      refine List.pairwise_cons.mpr ⟨fun z hz => ?_, h⟩
      rcases List.mem_cons.mp hz with e | e
      · rw [e]
        exact c
      · exact tl_trans c (h1 z e)
    · rw [if_neg c]
      by_cases c2 : tupLt y x
      · rw [if_pos c2]
        refine List.pairwise_cons.mpr ⟨fun z hz => ?_, pw_insT h2⟩
        rcases mem_insT.mp hz with e | e
        · rw [e]
          exact c2
        · exact h1 z e
      · rw [if_neg c2]
        exact h
theorem mem_ssort {z : List Str} : ∀ {l : List (List Str)}, z ∈ ssort l ↔ z ∈ l
  | [] => Iff.rfl
  | x :: l => by
    unfold ssort
    rw [mem_insT, mem_ssort (l := l), List.mem_cons]
theorem pw_ssort : ∀ l : List (List Str), (ssort l).Pairwise tupLt
  | [] => List.Pairwise.nil
  | x :: l => pw_insT (pw_ssort l)
/-- rising lists of the same are the same -/
theorem rise_ext : ∀ {l m : List (List Str)}, l.Pairwise tupLt → m.Pairwise tupLt → (∀ z, z ∈ l ↔ z ∈ m) → l = m
  | [], [], _, _, _ => rfl
  | [], y :: m, _, _, h => by have := (h y).mpr (List.mem_cons_self ..); cases this
  | x :: l, [], _, _, h => by have := (h x).mp (List.mem_cons_self ..); cases this
  | x :: l, y :: m, h1, h2, h => by
    obtain ⟨a1, a2⟩ := List.pairwise_cons.mp h1
    obtain ⟨b1, b2⟩ := List.pairwise_cons.mp h2
    have e : x = y := by
      rcases List.mem_cons.mp ((h x).mp (List.mem_cons_self ..)) with e | e
      · exact e
      · rcases List.mem_cons.mp ((h y).mpr (List.mem_cons_self ..)) with e2 | e2
        · exact e2.symm
        · exact absurd (tl_trans (a1 y e2) (b1 x e)) (tl_irrefl _)
    subst e
    have ih : l = m := rise_ext a2 b2 fun z => by
      constructor
      · intro hz
        rcases List.mem_cons.mp ((h z).mp (List.mem_cons_of_mem _ hz)) with e | e
        · subst e
          exact absurd (a1 z hz) (tl_irrefl _)
        · exact e
      · intro hz
        rcases List.mem_cons.mp ((h z).mpr (List.mem_cons_of_mem _ hz)) with e | e
        · subst e
          exact absurd (b1 z hz) (tl_irrefl _)
        · exact e
    rw [ih]
theorem ssort_eq {l m : List (List Str)} (h1 : m.Pairwise tupLt) (h : ∀ z, z ∈ m ↔ z ∈ l) : m = ssort l := rise_ext h1 (pw_ssort l) fun z => (h z).trans mem_ssort.symm
theorem nodup_rise {l : List (List Str)} (h : l.Pairwise tupLt) : l.Nodup := h.imp fun {a b} r e => by
  subst e
  exact tl_irrefl _ r
theorem ssort_id {l : List (List Str)} (h : l.Pairwise tupLt) : ssort l = l := (ssort_eq h fun _ => Iff.rfl).symm
/-- pigeons -/
theorem len_le_of {α : Type} [DecidableEq α] : ∀ {l D : List α}, l.Nodup → (∀ x ∈ l, x ∈ D) → l.length ≤ D.length
  | [], _, _, _ => Nat.zero_le _
  | x :: l, D, hn, h => by
    obtain ⟨h1, h2⟩ := List.nodup_cons.mp hn
    have hx := h x (List.mem_cons_self ..)
    have ih := len_le_of (l := l) (D := D.erase x) h2 fun y hy => (List.mem_erase_of_ne (fun e => h1 (by rw [← e]; exact hy))).mpr (h y (List.mem_cons_of_mem _ hy))
    rw [List.length_erase_of_mem hx] at ih
    have hp := List.length_pos_of_mem hx
    rw [List.length_cons]
    omega
theorem ssort_len (l : List (List Str)) : (ssort l).length ≤ l.length := len_le_of (nodup_rise (pw_ssort l)) fun _ h => mem_ssort.mp h

/-! ### sets of names -/
def within (a b : List Str) : Bool := a.all fun x => decide (x ∈ b)
def less (a b : List Str) : List Str := a.filter fun x => !decide (x ∈ b)
def joint (a b : List Str) : List Str := a.filter fun x => decide (x ∈ b)
def meets (a b : List Str) : Bool := a.any fun x => decide (x ∈ b)
def leastOf (L : List (List Str)) : List (List Str) := (ssort L).filter fun one => !((ssort L).any fun late => (decide (late ≠ one)) && within late one)
def greatestOf (L : List (List Str)) : List (List Str) := (ssort L).filter fun one => !((ssort L).any fun late => (decide (late ≠ one)) && within one late)
/-- S is written as the names have it -/
def Can (N S : List Str) : Prop := S = N.filter fun x => decide (x ∈ S)
theorem within_iff {a b : List Str} : within a b = true ↔ ∀ x ∈ a, x ∈ b := by simp [within]
theorem Can.sub {N S : List Str} (h : Can N S) : ∀ x ∈ S, x ∈ N := fun x hx => by
  rw [h] at hx
  exact (List.mem_filter.mp hx).1
theorem Can.ext {N S T : List Str} (h : Can N S) (k : Can N T) (e : ∀ x, x ∈ S ↔ x ∈ T) : S = T := by
  rw [h, k]
  exact List.filter_congr fun x _ => by rw [decide_eq_decide]; exact e x
theorem Can.filter {N S : List Str} (h : Can N S) (p : Str → Bool) : Can N (S.filter p) := by
  unfold Can
  conv => lhs; rw [h]
  rw [List.filter_filter]
  refine List.filter_congr fun x _ => ?_
  by_cases h1 : x ∈ S <;> by_cases h2 : p x = true <;> simp [List.mem_filter, h1, h2]
theorem can_filter (N : List Str) (p : Str → Bool) : Can N (N.filter p) := by
  unfold Can
  refine List.filter_congr fun x hx => ?_
  by_cases h : p x = true <;> simp [List.mem_filter, h, hx]
theorem can_less {N a b : List Str} (h : Can N a) : Can N (less a b) := h.filter _
theorem can_joint {N a b : List Str} (h : Can N a) : Can N (joint a b) := h.filter _
theorem within_refl (a : List Str) : within a a = true := within_iff.mpr fun _ h => h
theorem within_trans {a b c : List Str} (h : within a b = true) (k : within b c = true) : within a c = true := within_iff.mpr fun x hx => within_iff.mp k x (within_iff.mp h x hx)
theorem within_antisymm {N a b : List Str} (ha : Can N a) (hb : Can N b) (h : within a b = true) (k : within b a = true) : a = b := ha.ext hb fun x => ⟨within_iff.mp h x, within_iff.mp k x⟩
theorem within_len {N a b : List Str} (hN : N.Nodup) (ha : Can N a) (hb : Can N b) (h : within a b = true) (ne : a ≠ b) : a.length < b.length := by
  have nd : a.Nodup := by
    rw [ha]
    exact hN.filter _
  have h1 : a.length ≤ b.length := len_le_of nd (within_iff.mp h)
  rcases Nat.lt_or_ge a.length b.length with c | c
  · exact c
  · exfalso
    refine ne (ha.ext hb fun x => ⟨within_iff.mp h x, fun hx => ?_⟩)
    apply Classical.byContradiction
    intro hn
    have h2 : (x :: a).length ≤ b.length := len_le_of (List.nodup_cons.mpr ⟨hn, nd⟩) fun y hy => by
      rcases List.mem_cons.mp hy with e | e
      · rw [e]
        exact hx
      · exact within_iff.mp h y e
    rw [List.length_cons] at h2
    omega
theorem mem_leastOf {L : List (List Str)} {a : List Str} : a ∈ leastOf L ↔ a ∈ L ∧ ∀ b ∈ L, within b a = true → b = a := by
  unfold leastOf
  rw [List.mem_filter, mem_ssort]
  refine and_congr_right fun ha => ?_
  rw [Bool.not_eq_true', List.any_eq_false]
  constructor
  · intro h b hb hw
    have h1 := h b (mem_ssort.mpr hb)
    apply Classical.byContradiction
    intro hn
    exact h1 (by rw [hw, decide_eq_true hn]; rfl)
  · intro h b hb hc
    rw [Bool.and_eq_true, decide_eq_true_eq] at hc
    exact hc.1 (h b (mem_ssort.mp hb) hc.2)
theorem mem_greatestOf {L : List (List Str)} {a : List Str} : a ∈ greatestOf L ↔ a ∈ L ∧ ∀ b ∈ L, within a b = true → b = a := by
  unfold greatestOf
  rw [List.mem_filter, mem_ssort]
  refine and_congr_right fun ha => ?_
  rw [Bool.not_eq_true', List.any_eq_false]
  constructor
  · intro h b hb hw
    have h1 := h b (mem_ssort.mpr hb)
    apply Classical.byContradiction
    intro hn
    exact h1 (by rw [hw, decide_eq_true hn]; rfl)
  · intro h b hb hc
    rw [Bool.and_eq_true, decide_eq_true_eq] at hc
    exact hc.1 (h b (mem_ssort.mp hb) hc.2)
theorem pw_leastOf (L : List (List Str)) : (leastOf L).Pairwise tupLt := (pw_ssort L).filter _
theorem pw_greatestOf (L : List (List Str)) : (greatestOf L).Pairwise tupLt := (pw_ssort L).filter _
/-- below each set a least one; above each a greatest -/
theorem least_below {N : List Str} (hN : N.Nodup) {L : List (List Str)} (hc : ∀ a ∈ L, Can N a) : ∀ (n : Nat) (a : List Str), a.length ≤ n → a ∈ L → ∃ b ∈ leastOf L, within b a = true
  | 0, a, hl, ha => ⟨a, mem_leastOf.mpr ⟨ha, fun b hb hw => by
      have e : a = [] := List.length_eq_zero_iff.mp (Nat.le_zero.mp hl)
      subst e
      cases b with
      | nil => rfl
      | cons x b => exact absurd (within_iff.mp hw x (List.mem_cons_self ..)) (by simp)⟩, within_refl a⟩
  | n + 1, a, hl, ha => by
    by_cases h : ∃ b ∈ L, within b a = true ∧ b ≠ a
    · obtain ⟨b, hb, hw, ne⟩ := h
      have lt := within_len hN (hc b hb) (hc a ha) hw ne
      obtain ⟨c, hc1, hc2⟩ := least_below hN hc n b (by omega) hb
      exact ⟨c, hc1, within_trans hc2 hw⟩
    · refine ⟨a, mem_leastOf.mpr ⟨ha, fun b hb hw => ?_⟩, within_refl a⟩
      apply Classical.byContradiction
      intro ne
      exact h ⟨b, hb, hw, ne⟩
theorem greatest_above {N : List Str} (hN : N.Nodup) {L : List (List Str)} (hc : ∀ a ∈ L, Can N a) : ∀ (n : Nat) (a : List Str), N.length ≤ a.length + n → a ∈ L → ∃ b ∈ greatestOf L, within a b = true
  | n, a, hl, ha => by
    by_cases h : ∃ b ∈ L, within a b = true ∧ a ≠ b
    · obtain ⟨b, hb, hw, ne⟩ := h
      have lt := within_len hN (hc a ha) (hc b hb) hw ne
      have le : b.length ≤ N.length := by
        rw [hc b hb]
        exact List.length_filter_le _ _
      match n, hl with
      | 0, hl => omega
      | n + 1, hl =>
        obtain ⟨c, hc1, hc2⟩ := greatest_above hN hc n b (by omega) hb
        exact ⟨c, hc1, within_trans hw hc2⟩
    · refine ⟨a, mem_greatestOf.mpr ⟨ha, fun b hb hw => ?_⟩, within_refl a⟩
      apply Classical.byContradiction
      intro ne
      exact h ⟨b, hb, hw, fun e => ne e.symm⟩
/-- two families that lie below one another have the same least sets -/
theorem leastOf_eq {N : List Str} (hN : N.Nodup) {A B : List (List Str)} (ha : ∀ a ∈ A, Can N a) (hb : ∀ b ∈ B, Can N b) (h1 : ∀ a ∈ A, ∃ b ∈ B, within b a = true) (h2 : ∀ b ∈ B, ∃ a ∈ A, within a b = true) : leastOf A = leastOf B := by
  have half : ∀ {A B : List (List Str)}, (∀ a ∈ A, Can N a) → (∀ b ∈ B, Can N b) → (∀ a ∈ A, ∃ b ∈ B, within b a = true) → (∀ b ∈ B, ∃ a ∈ A, within a b = true) → ∀ a, a ∈ leastOf A → a ∈ leastOf B := by
    intro A B ha hb h1 h2 a hm
    obtain ⟨m1, m2⟩ := mem_leastOf.mp hm
    obtain ⟨b, hbB, hw⟩ := h1 a m1
    obtain ⟨c, hcA, hw2⟩ := h2 b hbB
    have ec : c = a := m2 c hcA (within_trans hw2 hw)
    subst ec
    have eb : b = c := within_antisymm (hb b hbB) (ha c m1) hw hw2
    subst eb
    refine mem_leastOf.mpr ⟨hbB, fun d hd hwd => ?_⟩
    obtain ⟨e, heA, hwe⟩ := h2 d hd
    have ee : e = b := m2 e heA (within_trans hwe hwd)
    subst ee
    exact within_antisymm (hb d hd) (ha e m1) hwd hwe
  exact rise_ext (pw_leastOf A) (pw_leastOf B) fun z => ⟨half ha hb h1 h2 z, half hb ha h2 h1 z⟩
theorem can_leastOf {N : List Str} {L : List (List Str)} (h : ∀ a ∈ L, Can N a) : ∀ a ∈ leastOf L, Can N a := fun a m => h a (mem_leastOf.mp m).1
end K60

set_option maxHeartbeats 4000000
/-! K60: tuples of texts can be sorted, the empty one too. -/
namespace K60
open PySem PySem.W PySem.Calls PyProof.Rows PySem.SeqAt
section
variable {P : Program} {w : World} {A : Around} {E : Value → Shared → Prop} {s : Shared}
/-- value v is a tuple of the texts k -/
abbrev TupIs (h : Heap) (v : Value) (k : List Str) : Prop := ∃ as, Reads h v (eT eS k) as
theorem alike_strs : ∀ a b : List Str, alikeAll (a.map PyData.str) (b.map PyData.str) = true
  | [], b => by cases b <;> simp [alikeAll]
  | _ :: _, [] => by simp [alikeAll]
  | x :: a, y :: b => by
    show alikeAll (PyData.str x :: a.map PyData.str) (PyData.str y :: b.map PyData.str) = true
    have h := alike_strs a b
    simp only [alikeAll]
    rw [h]
    rfl
theorem alike_tups (a b : List Str) : alike (eT eS a) (eT eS b) = true := by
  show alike (PyData.tuple _) (PyData.tuple _) = true
  simp only [alike]
  exact alike_strs a b
theorem depth_tup (a : List Str) : (eT eS a).depth ≤ 1 := by
  have h : ∀ a : List Str, PyData.depthAll (a.map PyData.str) = 0 := by
    intro a
    induction a with
    | nil => rfl
    | cons x a ih =>
      show max (PyData.str x).depth (PyData.depthAll (a.map PyData.str)) = 0
      rw [ih]
      rfl
  show (PyData.tuple (a.map PyData.str)).depth ≤ 1
  have e : (PyData.tuple (a.map PyData.str)).depth = PyData.depthAll (a.map PyData.str) + 1 := by
    first | rfl | (rw [PyData.depth]; omega)
  rw [e, h a]
  exact Nat.le_refl _
/-- the first items -/
theorem firsts_of : ∀ {vs : List Value} {ks : List (List Str)}, EachIs (TupIs s.heap) vs ks → ∃ fo : List (Option Value), fo.map Option.isSome = ks.map (fun k => !k.isEmpty) ∧ ∀ (E : Value → Shared → Prop) {Q : List (Option Value) → Shared → Prop}, Q fo s → wpAny (model P w) A (vs.mapM firstOfTuple') Q E s
  | _, _, .nil => ⟨[], rfl, fun E Q h => by rw [List.mapM_nil]; exact wpAny_pure h⟩
  | _, _, .cons (a := v) (b := k) (as := vs) (bs := ks) r t => by
    obtain ⟨fo, e, go⟩ := firsts_of t
    obtain ⟨as, r⟩ := r
    have r' : Reads s.heap v (PyData.tuple (k.map PyData.str)) as := r
    cases r' with
    | @tuple a o xs n _ _ ho hc hd hr =>
      have hlen : xs.toList.length = (k.map PyData.str).length := SeqAt.ReadsAll.length _ _ _ hr
      rw [List.length_map] at hlen
      refine ⟨xs[0]? :: fo, ?_, fun E Q h => ?_⟩
      · rw [List.map_cons, List.map_cons, e]
        congr 1
        cases k with
        | nil =>
          have : xs.size = 0 := by simpa using hlen
          rw [Array.getElem?_eq_none (by omega)]
          rfl
        | cons x k =>
          have : 0 < xs.size := by
            have q : xs.size = k.length + 1 := by simpa using hlen
            omega
          rw [Array.getElem?_eq_getElem this]
          rfl
      · rw [List.mapM_cons]
        refine wpAny_bind ?_
        rw [kas_first_eq]
        refine wpAny_bind (Looks.here (show Looks (model P w) s.heap (typeOf (.ref a)) o.cls from (Looks.ld ho).andThen .now) ?_)
        rw [hc, if_neg (by decide)]
        refine wpAny_bind (listItems_at ho hd (wpAny_pure ?_))
        exact wpAny_bind (go E (wpAny_pure h))
/-- one tuple against another by tuple.__lt__ -/
theorem one_tups {b : Bool} {x y : List Str} {u v : Value} {as bs : List Addr} {Q : Bool → Shared → Prop} (ra : Reads s.heap u (eT eS x) as) (rb : Reads s.heap v (eT eS y) bs) (hu : A.units + 1 < cLine) (hq : Q (dataLt (eT eS x) (eT eS y)) s) :
    wpAny (model P w) A (oneLt' b u v) Q E s := by
  have hm : A.units + min (eT eS x).depth (eT eS y).depth < cLine := by
    have h1 := depth_tup x
    have h2 := Nat.min_le_left (eT eS x).depth (eT eS y).depth
    omega
  cases b with
  | false => exact oneLt_alike (fun z => nomatch z) ra rb (alike_tups x y) (fun z => nomatch z) hm hq
  | true =>
    have hal := alike_strs x y
    have ra' : Reads s.heap u (PyData.tuple (x.map PyData.str)) as := ra
    have rb' : Reads s.heap v (PyData.tuple (y.map PyData.str)) bs := rb
    have hm' : A.units + min (PyData.tuple (x.map PyData.str)).depth (PyData.tuple (y.map PyData.str)).depth < cLine := hm
    have hq' : Q (dataLt (PyData.tuple (x.map PyData.str)) (PyData.tuple (y.map PyData.str))) s := hq
    generalize x.map PyData.str = xs at ra' hal hm' hq'
    generalize y.map PyData.str = ys at rb' hal hm' hq'
    cases ra' with
    | @tuple l o is n _ a1 h1 h2 h3 h4 =>
      cases rb' with
      | @tuple l' o' js n' _ b1 k1 k2 k3 k4 =>
        have n1 : is.size = xs.length := by simpa using SeqAt.ReadsAll.length _ _ _ h4
        have n2 : js.size = ys.length := by simpa using SeqAt.ReadsAll.length _ _ _ k4
        rw [dataLt_tuple, ← firstLt_toks xs ys hal, ← n1, ← n2] at hq'
        obtain ⟨ocls, od, odata, osl⟩ := o
        obtain ⟨pcls, pd, pdata, psl⟩ := o'
        dsimp only at h2 h3 k2 k3
        subst h2 h3 k2 k3
        rw [oneLt'_eq, if_pos rfl]
        refine wpAny_bind (wpAny_cRoomFor (SeqAt.room_here hm') ?_)
        refine wpAny_bind (wpAny_callSpecialIfBound?_slot (T := "tuple") ⟨_, h1, rfl⟩ F.slot_tuple_lt (call_meets F.slot_tuple_lt ⟨_, h1, rfl⟩ F.entry_tuple_lt (F.args_tuple_lt_2 _ _)
          (tuple_ltAt l l' is js n n' od pd osl psl (pairEq xs ys) (fun j => dataLt (xs.getD j .none) (ys.getD j .none))) ⟨h1, k1, fun j j1 j2 => ?_, fun j j1 j2 hj => ?_, ?_⟩))
        · have q := eqAt_alikeAll xs ys A.in1 s is.toList js.toList _ _ h4 k4 hal (SeqAt.room_in hm') j (by simpa using j1) (by simpa using j2)
          simpa using q
        · have q := rcLt_alikeAll xs ys A.in1 s is.toList js.toList _ _ h4 k4 hal (SeqAt.room_in hm') j (by simpa using j1) (by simpa using j2) hj
          simpa using q
        · exact wpAny_truthy_bool hq'
/-- their kind, when one is empty -/
theorem kind_tups {vs : List Value} {ks : List (List Str)} (e : EachIs (TupIs s.heap) vs ks) (h2 : 2 ≤ vs.length) (he : ∃ k ∈ ks, k = []) : ∃ kd, (kd = general' ∨ kd = oneType') ∧ ∀ (E : Value → Shared → Prop) {Q : SortKind → Shared → Prop}, Q kd s → wpAny (model P w) A (keyKind' vs.toArray) Q E s := by
  obtain ⟨fo, ef, go⟩ := firsts_of (P := P) (w := w) (A := A) e
  have hall : (fo.toArray.all fun x => x.isSome) = false := by
    obtain ⟨k, hk, rfl⟩ := he
    have m : false ∈ fo.map Option.isSome := by
      rw [ef]
      exact List.mem_map.mpr ⟨[], hk, rfl⟩
    obtain ⟨o, ho, eo⟩ := List.mem_map.mp m
    rw [List.all_toArray, List.all_eq_false]
    exact ⟨o, ho, by rw [eo]; decide⟩
  have ty : ∀ v ∈ vs, Looks (model P w) s.heap (typeOf v) (Value.type "tuple") := fun v hv => by
    obtain ⟨k, hk, as, r⟩ := e.left v hv
    exact looks_reads r
  refine ⟨if (fo.toArray[0]?.bind id).isSome = true then general' else oneType', ?_, fun E' Q h => ?_⟩
  · split
    · exact .inl rfl
    · exact .inr rfl
  · rw [kat_kind_eq, List.mapM_toArray, map_eq_pure_bind]
    refine wpAny_bind (wpAny_bind (go E' (wpAny_pure ?_)))
    rw [if_neg (by rw [hall]; exact Bool.false_ne_true)]
    by_cases c : (fo.toArray[0]?.bind id).isSome = true
    · rw [if_pos c] at h ⊢
      exact wpAny_pure h
    · rw [if_neg c] at h ⊢
      rw [oneTypeOnly'_eq, List.mapM_toArray, map_eq_pure_bind]
      refine wpAny_bind (wpAny_bind (wpAny_bind (kas_mapM (r := Value.type "tuple") _ (fun v hv Q' hq => (ty v hv).here hq) (wpAny_pure ?_))))
      obtain ⟨v, l, rfl⟩ : ∃ v l, vs = v :: l := by
        match vs, h2 with
        | v :: l, _ => exact ⟨v, l, rfl⟩
      have h0 : (List.map (fun _ => Value.type "tuple") (v :: l)).toArray[0]? = some (Value.type "tuple") := by simp
      have h1 : ((List.map (fun _ => Value.type "tuple") (v :: l)).toArray.all fun x => x == Value.type "tuple") = true := by simp
      rw [h0]
      simp only [h1, if_true]
      exact wpAny_pure (wpAny_pure h)
/-- tuples of texts can be sorted -/
theorem sorts_tups {vs : List Value} {ks : List (List Str)} (e : EachIs (TupIs s.heap) vs ks) (hu : A.units + 1 < cLine) : SortsAt P w A s (dataKind s.heap (ks.map (eT eS))) vs := by
  have hal : AllAlike (ks.map (eT eS)) := AllAlike.of alike_tups
  have e' : EachIs (fun v d => ∃ as, Reads s.heap v d as) vs (ks.map (eT eS)) := each_map (R := fun v d => ∃ as, Reads s.heap v d as) (eT eS) e
  by_cases he : ∃ k ∈ ks, k = []
  · refine ⟨fun v hv => ?_, ?_⟩
    · obtain ⟨d, hd, as, r⟩ := e'.left v hv
      exact ⟨_, dataKind_some hal hd r⟩
    · by_cases h2 : 2 ≤ vs.length
      · obtain ⟨kd, hkd, go⟩ := kind_tups (P := P) (w := w) (A := A) e h2 he
        refine ⟨kd, fun E x y a b Q ha hb hq => ?_, fun _ => go⟩
        obtain ⟨d, as, hd, ra, rfl⟩ := dataKind_inv ha
        obtain ⟨d', bs, hd', rb, rfl⟩ := dataKind_inv hb
        obtain ⟨k, _, rfl⟩ := List.mem_map.mp hd
        obtain ⟨k', _, rfl⟩ := List.mem_map.mp hd'
        rcases hkd with rfl | rfl
        · exact one_tups (b := false) ra rb hu hq
        · rw [keyLt'_oneType]
          exact one_tups ra rb hu hq
      · refine ⟨general', fun E x y a b Q ha hb hq => ?_, fun z => absurd z h2⟩
        obtain ⟨d, as, hd, ra, rfl⟩ := dataKind_inv ha
        obtain ⟨d', bs, hd', rb, rfl⟩ := dataKind_inv hb
        obtain ⟨k, _, rfl⟩ := List.mem_map.mp hd
        obtain ⟨k', _, rfl⟩ := List.mem_map.mp hd'
        exact one_tups (b := false) ra rb hu hq
  · refine SortsAt.data e' hal (.inl fun d hd => ?_) fun d hd => ?_
    · obtain ⟨k, hk, rfl⟩ := List.mem_map.mp hd
      cases k with
      | nil => exact absurd ⟨[], hk, rfl⟩ he
      | cons x k => exact ⟨PyData.str x, k.map PyData.str, rfl⟩
    · obtain ⟨k, hk, rfl⟩ := List.mem_map.mp hd
      have := depth_tup k
      omega
end
end K60

set_option maxHeartbeats 4000000
/-! K60: a set of tuples of texts: what set(xs) makes. The table's own laws are the library's. -/
namespace K60
open PySem PySem.Spec PyProof.Rows L2
abbrev KT (P : Program) (w : World) : KeyKind P w Str := PySem.strKind P w
abbrev TupK (P : Program) (w : World) (h : Heap) (k : List Str) (a : Addr) : Prop := IsTupleKey (KT P w) h k a
abbrev hT (P : Program) (w : World) (k : List Str) : Int := tupleKeyHash (KT P w) k
abbrev Ent := Addr × List Str
def entries (P : Program) (w : World) (L : List Ent) : List (Int × Value) := L.map fun p => (hT P w p.2, Value.ref p.1)
section
variable {P : Program} {w : World} {A : Around} {E : Value → Shared → Prop} {s : Shared}
theorem str_items {k : List Str} {vs : List Value} (h : ItemsAre (KT P w) k vs) : ∀ v ∈ vs, ∃ x t, v = Value.str x t := by
  induction h with
  | nil => exact fun v hv => nomatch hv
  | @cons k0 v' ks vs h1 _ ih =>
    intro v hv
    rcases List.mem_cons.mp hv with rfl | hv
    · obtain ⟨t, e⟩ := Value.isStrOf_shape h1
      exact ⟨k0, t, e⟩
    · exact ih v hv
/-- a question that a tuple hands to its items: all give b, so the whole gives b -/
theorem ask_items {q : Value → Sem Bool} {b : Bool} {vs : Array Value} (hv : ∀ v ∈ vs.toList, q v = pure b) {body : Value → Option Bool × PUnit → Sem (ForInStep (Option Bool × PUnit))} {Q : Option Bool × PUnit → Shared → Prop}
    (hb : ∀ v, q v = pure b → ∀ {R : ForInStep (Option Bool × PUnit) → Shared → Prop}, R (.yield (none, ⟨⟩)) s → wpAny (model P w) A (body v (none, ⟨⟩)) R E s) (h : Q (none, ⟨⟩) s) : wpAny (model P w) A (forIn vs (none, ⟨⟩) body) Q E s := by
  rw [← Array.forIn_toList]
  refine wpAny_forIn_list _ (fun rest r s' => r = (none, ⟨⟩) ∧ s' = s ∧ ∀ v ∈ rest, q v = pure b) _ ?_ ?_ _ _ ⟨rfl, rfl, hv⟩
  · rintro v rest r s' ⟨rfl, rfl, ha⟩
    exact hb v (ha v List.mem_cons_self) ⟨rfl, rfl, fun u hu => ha u (List.mem_cons_of_mem _ hu)⟩
  · rintro r s' ⟨rfl, rfl, _⟩
    exact h
theorem classless_str (n : Nat) (x : Str) (t : Tok) : ofAClassStatement n (.str x t) = pure false := by cases n <;> rfl
theorem hashed_str (n : Nat) (x : Str) (t : Tok) : hashByValue n (.str x t) = pure false := by unfold hashByValue <;> rfl
theorem classless_tup {k : List Str} {b : Addr} {Q : Bool → Shared → Prop} (hk : TupK P w s.heap k b) (h : Q false s) : wpAny (model P w) A (ofAClassStatement 8 (.ref b)) Q E s := by
  have ht := hk.typeIs
  obtain ⟨o, is, n, ho, hc, hd, hi⟩ := hk
  unfold ofAClassStatement
  refine wpAny_bind (wpAny_typeOf ht ?_)
  dsimp only
  have e : (("tuple" : String) == "tuple") = true := by decide
  simp only [e, if_true, Bool.not_true, Bool.false_eq_true, if_false]
  show wpAny _ _ (seqItems? (.ref b) >>= _) _ _ s
  refine wpAny_bind (wpAny_seqItems ho hd (wpAny_bind ?_))
  refine ask_items (q := ofAClassStatement 7) (b := false) (fun v hv => ?_) (fun v hv R hR => ?_) (wpAny_pure h)
  · obtain ⟨x, t, rfl⟩ := str_items hi v hv
    exact classless_str 7 x t
  · rw [hv]
    refine wpAny_bind (wpAny_pure ?_)
    simp only [Bool.false_eq_true, if_false]
    exact wpAny_pure hR
/-- a tuple of texts has a hash of its own run, unless it is empty -/
theorem hashed_tup {k : List Str} {b : Addr} {Q : Bool → Shared → Prop} (hk : TupK P w s.heap k b) (h : ∀ c, Q c s) : wpAny (model P w) A (hashByValue 8 (.ref b)) Q E s := by
  have ht := hk.typeIs
  obtain ⟨o, is, n, ho, hc, hd, hi⟩ := hk
  unfold hashByValue
  refine wpAny_bind (wpAny_specialOf ht PySem.F.slot_tuple_hash.lookup ?_)
  show wpAny _ _ (seqItems? (.ref b) >>= _) _ _ s
  refine wpAny_bind (wpAny_seqItems ho hd (wpAny_bind ?_))
  show wpAny _ _ (forIn is _ _) _ _ s
  rw [← Array.forIn_toList]
  have hs := str_items hi
  cases e : is.toList with
  | nil =>
    rw [List.forIn_nil]
    exact wpAny_pure (wpAny_pure (h true))
  | cons v vs =>
    obtain ⟨x, t, rfl⟩ := hs v (by rw [e]; exact List.mem_cons_self)
    rw [List.forIn_cons]
    refine wpAny_bind ?_
    rw [hashed_str]
    refine wpAny_bind (wpAny_pure ?_)
    simp only [Bool.not_false, if_true]
    refine wpAny_pure ?_
    dsimp only
    exact wpAny_pure (wpAny_pure (h false))

/-- a lookup of a tuple among tuples cannot be watched -/
theorem unseen {k : List Str} {b : Addr} {Q : Bool → Shared → Prop} (hk : TupK P w s.heap k b) {ys : List Value} (hy : ∀ y ∈ ys, ∃ k' c, y = Value.ref c ∧ TupK P w s.heap k' c) (h : Q false s) : wpAny (model P w) A (searchCouldBeSeen (.ref b) ys) Q E s := by
  unfold searchCouldBeSeen
  refine wpAny_bind (wpAny_forIn_list _ (fun rest r s' => r = (none, ⟨⟩) ∧ s' = s ∧ ∀ y ∈ rest, ∃ k' c, y = Value.ref c ∧ TupK P w s.heap k' c) _ ?_ ?_ _ _ ⟨rfl, rfl, hy⟩)
  · rintro v rest r s' ⟨rfl, rfl, ha⟩
    obtain ⟨k', c, rfl, hc⟩ := ha v List.mem_cons_self
    have more : ∀ y ∈ rest, ∃ k' c, y = Value.ref c ∧ TupK P w s'.heap k' c := fun u hu => ha u (List.mem_cons_of_mem _ hu)
    dsimp only
    by_cases hv : (b == c || (carriedByValue (.ref b) && carriedByValue (.ref c))) = true
    · exact wp_if_pos hv (wpAny_pure ⟨rfl, rfl, more⟩)
    · refine wp_if_neg hv (wpAny_bind (wpAny_eqIsQuiet_tuple hk ?_))
      simp only [Bool.not_true, Bool.false_eq_true, if_false]
      refine wpAny_bind (wpAny_eqIsQuiet_tuple hc ?_)
      simp only [Bool.not_true, Bool.false_eq_true, if_false]
      refine wpAny_bind (classless_tup hk ?_)
      simp only [Bool.false_eq_true, if_false]
      refine wpAny_bind (classless_tup hc ?_)
      simp only [Bool.false_eq_true, if_false]
      exact wpAny_pure ⟨rfl, rfl, more⟩
  · rintro r s' ⟨rfl, rfl, _⟩
    exact wpAny_pure h

/-! ### the set -/
/-- at a stands a set of the tuples L, in the table t -/
structure Tset (P : Program) (w : World) (h : Heap) (a : Addr) (L : List Ent) (t : SetTable) : Prop where
  ob : ∃ o ep, h.get? a = some o ∧ o.ExactSet ∧ o.data = .set (entries P w L).toArray ep t
  tab : TabOk t (L.map fun p => hT P w p.2)
  nd : (L.map (·.2)).Nodup
  is : ∀ p ∈ L, TupK P w h p.2 p.1
  led : w.params.followText "set-order" = true ∨ t.led = true
  room : L.length * 5 < t.mask * 3
  few : L.length < 64
variable {a : Addr} {L : List Ent} {t : SetTable}
theorem ent_len (L : List Ent) : (entries P w L).toArray.size = L.length := by
  unfold entries
  simp
theorem ent_get {i : Nat} {p : Ent} (h : L[i]? = some p) : (entries P w L).toArray[i]? = some (hT P w p.2, Value.ref p.1) := by
  unfold entries
  rw [List.getElem?_toArray, List.getElem?_map, h]
  rfl
theorem Tset.size (R : Tset P w s.heap a L t) : t.place.size = L.length := by
  have h := R.tab.sz
  rwa [List.length_map] at h
theorem fits_of (hd : t.dummies = #[]) (hz : t.place.size = L.length) (hl : L.length ≤ t.mask) : t.fits (entries P w L).toArray.size = true := by
  rw [ent_len]
  unfold SetTable.fits SetTable.fill
  rw [hd, Bool.and_eq_true, beq_iff_eq, decide_eq_true_eq]
  refine ⟨hz, ?_⟩
  show t.place.size + 0 ≤ t.mask
  omega
theorem Tset.fits (R : Tset P w s.heap a L t) : t.fits (entries P w L).toArray.size = true := fits_of R.tab.dm R.size (by have := R.room; omega)
theorem probe_clean (m : Nat) : ∀ (n : Nat) (p : SetTable.Probe), p.dummy = none → (nth m p n).dummy = none
  | 0, _, h => h
  | n + 1, p, h => probe_clean m n (adv m p) (by unfold adv; split <;> exact h)
/-- the state of the search for k after c steps -/
abbrev stepN (m : Nat) (h : Int) (c : Nat) : SetTable.Probe := nth m (runAt m (SetTable.bits h % (m + 1)) (SetTable.bits h)) c
theorem Tset.find (R : Tset P w s.heap a L t) {x : Addr} {k : List Str} (hx : TupK P w s.heap k x) (hu : A.units < cLine) {N : Nat} (hN : N < 10 * SetTable.turns t.mask) (free : way t.mask (hT P w k) N ∉ t.place.toList) (taken : ∀ c, c < N → way t.mask (hT P w k) c ∈ t.place.toList) {Q : SetFound → Shared → Prop}
    (yes : k ∈ L.map (·.2) → Q (.there none) s) (no : k ∉ L.map (·.2) → Q (.free (way t.mask (hT P w k) N) false) s) : ∀ (f c : Nat) (st : Option SetTable.Probe), st.getD (t.probeStart (hT P w k)) = stepN t.mask (hT P w k) c → c ≤ N → N - c < f →
      (∀ (i : Nat) p, L[i]? = some p → p.2 = k → ∃ d, c ≤ d ∧ d < N ∧ t.place.toList[i]? = some (way t.mask (hT P w k) d)) → wpAny (model P w) A (setSearchFrom a (.ref x) (hT P w k) true f st) Q E s
  | 0, c, st, _, _, z, _ => absurd z (Nat.not_lt_zero _)
  | f + 1, c, st, hst, hc, hf, ahead => by
    obtain ⟨o, ep, ho, hex, hd⟩ := R.ob
    rw [setSearchFrom_succ]
    refine wpAny_bind (wpAny_setState_of ho hd R.fits ?_)
    dsimp only
    refine wp_if_neg (by unfold SetTable.gaveWay; rw [mask_odd R.tab.mok]; decide) ?_
    try refine wpAny_bind (wpAny_pure ?_)
    have fwd : ∀ q, nth t.mask (stepN t.mask (hT P w k) c) q = stepN t.mask (hT P w k) (c + q) := fun q => (nth_add t.mask c _ q).symm
    have fwj : ∀ q, (nth t.mask (stepN t.mask (hT P w k) c) q).j = way t.mask (hT P w k) (c + q) := fun q => congrArg SetTable.Probe.j (fwd q)
    have back : c + (N - c) = N := by omega
    have hash : ∀ (i : Nat) p, L[i]? = some p → (((entries P w L).toArray[i]?).map (fun e : Int × Value => e.1)).getD 0 = hT P w p.2 := fun i p hp => by rw [ent_get hp]; rfl
    -- an entry with this key is not yet passed
    have near : ∀ (q i : Nat) (p : Ent), (∀ k' i', k' < q → t.place.toList[i']? = some (nth t.mask (stepN t.mask (hT P w k) c) k').j → (((entries P w L).toArray[i']?).map (fun e : Int × Value => e.1)).getD 0 ≠ hT P w k) → L[i]? = some p → p.2 = k → ∀ d, c ≤ d → t.place.toList[i]? = some (way t.mask (hT P w k) d) → c + q ≤ d := fun q i p hno hp hk d h1 h2 => by
      rcases Nat.lt_or_ge d (c + q) with z | z
      · exfalso
        refine hno (d - c) i (by omega) (by rw [fwj, show c + (d - c) = d by omega]; exact h2) ?_
        rw [hash i p hp, hk]
      · exact z
    rcases go_spec t R.tab.ris R.tab.dm (fun i => (((entries P w L).toArray[i]?).map (fun e : Int × Value => e.1)).getD 0) (hT P w k) (10 * SetTable.turns t.mask) (N - c) (stepN t.mask (hT P w k) c) (probe_clean _ c _ rfl) (by omega)
      (fun q hq => by rw [fwj]; exact taken (c + q) (by omega)) (by rw [fwj, back]; exact free) with ⟨q, i, hq, hi, hh, hno, hpr⟩ | ⟨hno, hpr⟩
    · rw [fwj] at hi
      have e : t.probe (fun i => (((entries P w L).toArray[i]?).map (fun e : Int × Value => e.1)).getD 0) (hT P w k) (st.getD (t.probeStart (hT P w k))) = some (.candidate (way t.mask (hT P w k) (c + q)) i (stepN t.mask (hT P w k) (c + (q + 1)))) := by
        rw [hst, ← fwj, ← fwd]
        exact hpr
      rw [e]
      dsimp only
      have hil : i < L.length := by
        have z := (List.getElem?_eq_some_iff.mp hi).1
        rwa [Array.length_toList, R.size] at z
      obtain ⟨p, hp⟩ : ∃ p, L[i]? = some p := ⟨L[i], List.getElem?_eq_getElem hil⟩
      have hm : p ∈ L := List.mem_of_getElem? hp
      have hs : t.slot (way t.mask (hT P w k) (c + q)) = .live i := slot_live R.tab.ris hi
      have rest : wpAny (model P w) A (searchRest a (.ref x) (hT P w k) true f (entries P w L).toArray t (way t.mask (hT P w k) (c + q)) i (stepN t.mask (hT P w k) (c + (q + 1)))) Q E s := by
        unfold searchRest
        rw [ent_get hp]
        dsimp only
        refine wpAny_bind (wpAny_holding (wpAny_eqBool_tuple hu (R.is p hm) hx ?_))
        refine wpAny_bind (wpAny_setState_of ho hd R.fits ?_)
        dsimp only
        by_cases hk : p.2 = k
        · exact wp_if_pos (by simp [hk]) (wpAny_pure (yes (List.mem_map.mpr ⟨p, hm, hk⟩)))
        · refine wp_if_neg (by simp [hk]) ?_
          try refine wpAny_bind (wpAny_pure ?_)
          rw [sameMem]
          dsimp only
          simp only [if_true, hs, ent_get hp]
          refine wpAny_bind (wpAny_isSame_ref_self (wpAny_bind (wpAny_pure ?_)))
          simp only [if_true]
          refine wp_if_neg (by simp [hk]) ?_
          refine R.find hx hu hN free taken yes no f (c + (q + 1)) _ rfl (by omega) (by omega) fun i0 p0 h0 hk0 => ?_
          obtain ⟨d, d1, d2, d3⟩ := ahead i0 p0 h0 hk0
          refine ⟨d, ?_, d2, d3⟩
          have le := near q i0 p0 hno h0 hk0 d d1 d3
          rcases Nat.lt_or_ge (c + q) d with z | z
          · omega
          · exfalso
            have ed : d = c + q := by omega
            subst ed
            have s0 := slot_live R.tab.ris d3
            rw [hs] at s0
            injection s0 with s0
            rw [← s0, hp] at h0
            exact hk ((congrArg Prod.snd (Option.some.inj h0)).trans hk0)
      by_cases hl : t.led = true
      · refine wp_if_neg (by simp [hl]) ?_
        try refine wpAny_bind (wpAny_pure ?_)
        exact rest
      · refine wp_if_pos (by simp [hl]) (wpAny_bind (unseen hx (fun y hy => ?_) ?_))
        · obtain ⟨e, he, ee⟩ := List.mem_map.mp hy
          have he2 : e ∈ entries P w L := by
            have z : e ∈ entries P w L ∧ e.1 = hT P w k := by simpa using he
            exact z.1
          obtain ⟨p2, hp2, e2⟩ := List.mem_map.mp he2
          exact ⟨p2.2, p2.1, by rw [← ee, ← e2], R.is p2 hp2⟩
        · refine wp_if_neg (by decide) ?_
          try refine wpAny_bind (wpAny_pure ?_)
          exact rest
    · have e : t.probe (fun i => (((entries P w L).toArray[i]?).map (fun e : Int × Value => e.1)).getD 0) (hT P w k) (st.getD (t.probeStart (hT P w k))) = some (.empty (way t.mask (hT P w k) N) none) := by
        have z := fwj (N - c)
        rw [back] at z
        rw [hst, ← z]
        exact hpr
      rw [e]
      dsimp only
      refine wpAny_pure (no fun hm => ?_)
      obtain ⟨p0, h0, hk0⟩ := List.mem_map.mp hm
      obtain ⟨i0, hi0, e0⟩ := List.getElem_of_mem h0
      have h00 : L[i0]? = some p0 := by rw [List.getElem?_eq_getElem hi0, e0]
      obtain ⟨d, d1, d2, d3⟩ := ahead i0 p0 h00 hk0
      have le := near (N - c) i0 p0 hno h00 hk0 d d1 d3
      omega
theorem Tset.seek (R : Tset P w s.heap a L t) {x : Addr} {k : List Str} (hx : TupK P w s.heap k x) (hu : A.units < cLine) {Q : SetFound → Shared → Prop} (yes : k ∈ L.map (·.2) → Q (.there none) s)
    (no : ∀ N, k ∉ L.map (·.2) → way t.mask (hT P w k) N ∉ t.place.toList → (∀ c, c < N → way t.mask (hT P w k) c ∈ t.place.toList) → Q (.free (way t.mask (hT P w k) N) false) s) : wpAny (model P w) A (setSearch a (.ref x) (hT P w k) true) Q E s := by
  have hr := R.room
  obtain ⟨N, hN, free, taken⟩ := R.tab.first (by rw [List.length_map]; omega) (hT P w k)
  have small : 10 * SetTable.turns t.mask ≤ 1420 := by
    unfold SetTable.turns
    rcases R.tab.mok with e | e | e <;> omega
  unfold setSearch
  refine R.find hx hu hN free taken yes (fun z => no N z free taken) 100000 0 none rfl (Nat.zero_le _) (by omega) fun i p hp hk => ?_
  have hi : (L.map fun p => hT P w p.2)[i]? = some (hT P w k) := by
    rw [List.getElem?_map, hp, ← hk]
    rfl
  have hil : i < t.place.toList.length := by
    rw [Array.length_toList, R.size]
    exact (List.getElem?_eq_some_iff.mp hp).1
  have hj := List.getElem?_eq_getElem hil
  obtain ⟨d, h1, h2⟩ := R.tab.before free hi hj
  exact ⟨d, Nat.zero_le _, h1, by rw [hj, h2]⟩
end
end K60

set_option maxHeartbeats 4000000
/-! K60: a set of tuples of texts: putting in; set(xs); sorted(set(xs)). -/
namespace K60
open PySem PySem.Spec PyProof.Rows L2
section
variable {P : Program} {w : World} {A : Around} {E : Value → Shared → Prop} {s : Shared} {a : Addr} {L : List Ent} {t : SetTable}
theorem key_but {h h' : Heap} {k : List Str} {b : Addr} {o : Obj} {es : Array (Int × Value)} {ep : Nat} (hb : TupK P w h k b) (ho : h.get? a = some o) (hd : o.data = .set es ep t) (sb : Heap.SameBut a h h') : TupK P w h' k b := by
  obtain ⟨u, is, n, hu, hc, du, hi⟩ := hb
  refine ⟨u, is, n, (sb.2 b fun e => ?_).trans hu, hc, du, hi⟩
  subst e
  rw [ho] at hu
  rw [← Option.some.inj hu, hd] at du
  cases du
theorem key_keep {h h' : Heap} {k : List Str} {b : Addr} (x : TupK P w h k b) (hk : ∀ c o, h.get? c = some o → h'.get? c = some o) : TupK P w h' k b := by
  obtain ⟨o, is, n, ho, r⟩ := x
  exact ⟨o, is, n, hk b o ho, r⟩
theorem entries_order (L : List Ent) (order : Array Nat) (hp : order.toList.Perm (List.range L.length)) : ∃ L2, (order.filterMap ((entries P w L).toArray[·]?)) = (entries P w L2).toArray ∧ L2.Perm L ∧
    (L2.map fun p => hT P w p.2) = order.toList.map fun i => ((entries P w L).toArray.map (·.1)).getD i 0 := by
  refine ⟨order.toList.filterMap (fun i => L[i]?), ?_, ?_, ?_⟩
  · apply Array.toList_inj.mp
    rw [Array.toList_filterMap]
    show _ = entries P w _
    unfold entries
    rw [List.map_filterMap]
    congr 1
    funext i
    rw [List.getElem?_toArray, List.getElem?_map]
  · refine (hp.filterMap _).trans ?_
    have e : ∀ n, n ≤ L.length → (List.range n).filterMap (fun i => L[i]?) = L.take n := by
      intro n
      induction n with
      | zero => intro _; rfl
      | succ n ih =>
        intro hn
        rw [List.range_succ, List.filterMap_append, ih (by omega), List.take_succ, List.getElem?_eq_getElem (show n < L.length from hn)]
        rw [List.filterMap_cons_some (List.getElem?_eq_getElem (show n < L.length from hn))]
        rfl
    rw [e _ (Nat.le_refl _), List.take_length]
  · have all : ∀ i ∈ order.toList, i < L.length := fun i hi => List.mem_range.mp (hp.mem_iff.mp hi)
    generalize order.toList = l at all
    induction l with
    | nil => rfl
    | cons i l ih =>
      have hi := all i List.mem_cons_self
      rw [List.filterMap_cons_some (List.getElem?_eq_getElem hi), List.map_cons, List.map_cons, ih fun j hj => all j (List.mem_cons_of_mem _ hj)]
      congr 1
      have e5 : ((entries P w L).toArray.map (·.1))[i]? = some (hT P w (L[i]).2) := by
        rw [Array.getElem?_map, ent_get (List.getElem?_eq_getElem hi)]
        rfl
      rw [Array.getD_eq_getD_getElem?, e5]
      rfl
/-- laid anew -/
theorem relay {o : Obj} {ep : Nat} (ho : s.heap.get? a = some o) (hex : o.ExactSet) (hd : o.data = .set (entries P w L).toArray ep t) (hz : t.place.size = L.length) (hdm : t.dummies = #[]) (hfl : L.length ≤ t.mask)
    (nd : (L.map (·.2)).Nodup) (is : ∀ p ∈ L, TupK P w s.heap p.2 p.1) (ld : w.params.followText "set-order" = true ∨ t.led = true) (few : L.length < 64) {wanted M : Nat}
    (hw : SetTable.sizeAbove wanted - 1 = M) (hM : MaskOk M) (hw2 : SetTable.sizeAbove wanted ≤ 128) (hn : L.length * 5 < M * 3) {Q : Unit → Shared → Prop}
    (hQ : ∀ h' L' t', Heap.SameBut a s.heap h' → Tset P w h' a L' t' → L'.Perm L → Q () { s with heap := h' }) : wpAny (model P w) A (setRelay a wanted) Q E s := by
  obtain ⟨t', order, e, hp, T, em, el, _, ed⟩ := relaid_ok t (hs := (entries P w L).toArray.map (·.1)) (wanted := wanted) hw hM (by rw [Array.size_map, ent_len]; omega)
  rw [Array.size_map, ent_len] at hp
  obtain ⟨L2, r1, r2, r3⟩ := entries_order (P := P) (w := w) L order hp
  rw [← r3] at T
  have l2 := r2.length_eq
  rw [setRelay_eq]
  refine wpAny_bind (wpAny_setState_of ho hd (fits_of hdm hz hfl) ?_)
  dsimp only
  refine wp_if_neg (by rw [sizeLine_eq]; omega) ?_
  try refine wpAny_bind (wpAny_pure ?_)
  rw [e]
  dsimp only
  rw [r1]
  refine wpAny_bind ?_
  refine wp_if_neg (by rw [ent_len, ent_len, l2]; simp) ?_
  try refine wpAny_bind (wpAny_pure ?_)
  try refine wpAny_bind (wpAny_pure ?_)
  refine wpAny_pure ?_
  dsimp only
  refine wpAny_storeSet_of ho hd ?_ (by rw [ent_len, l2, sizeLine_eq]; omega)
  have sb : Heap.SameBut a s.heap (s.heap.update a (Obj.putSet (entries P w L2).toArray t')) := Heap.SameBut.update ..
  exact hQ _ L2 t' sb ⟨⟨_, _, store_at ho hd, ⟨hex.1, hex.2.1, hex.2.2⟩, rfl⟩, T, (r2.map (·.2)).nodup_iff.mpr nd, fun p hpm => key_but (is p (r2.mem_iff.mp hpm)) ho hd sb, by rw [el]; exact ld, by rw [l2, em]; exact hn, by rw [l2]; exact few⟩ r2
/-- one more -/
theorem Tset.add (R : Tset P w s.heap a L t) {x : Addr} {k : List Str} (hx : TupK P w s.heap k x) (hu : A.units < cLine) (hf : L.length + 1 < 64) {Q : Bool → Shared → Prop}
    (hQ : ∀ b h' L' t', Heap.SameBut a s.heap h' → Tset P w h' a L' t' → (k ∈ L.map (·.2) → L' = L) → (k ∉ L.map (·.2) → L'.Perm ((x, k) :: L)) → Q b { s with heap := h' }) :
    wpAny (model P w) A (setAddHashed a (.ref x) (hT P w k)) Q E s := by
  obtain ⟨o, ep, ho, hex, hd⟩ := R.ob
  have hr := R.room
  unfold setAddHashed
  refine wpAny_holding ?_
  rw [show (100000 : Nat) = 99999 + 1 from rfl, setAddHashedIn_succ]
  refine wpAny_bind (wpAny_setState_of ho hd R.fits ?_)
  dsimp only
  refine wp_if_neg (by simp [byScan, Value.scannable]) ?_
  try refine wpAny_bind (wpAny_pure ?_)
  refine wpAny_bind (R.seek hx hu (fun hm => ?_) fun N hm free taken => ?_)
  · dsimp only
    exact wpAny_pure (hQ false s.heap L t (Heap.SameBut.refl a s.heap) R (fun _ => rfl) fun z => absurd hm z)
  · dsimp only
    refine wpAny_bind (wpAny_setState_of ho hd R.fits ?_)
    dsimp only
    obtain ⟨q1, q2, q3, q4, q5, q6, q7, q8, q9⟩ := R.tab.put free taken
    generalize hpt : t.put (way t.mask (hT P w k) N) = pt at q1 q3 q4 q5 q6 q7 q8 q9 ⊢
    obtain ⟨t1, p⟩ := pt
    dsimp only at q1 q3 q4 q5 q6 q7 q8 q9 ⊢
    subst q1
    have pm := put_perm L (SetTable.below t.place (way t.mask (hT P w k) N)) (x, k)
    have hin : SetTable.insertAt (entries P w L).toArray (SetTable.below t.place (way t.mask (hT P w k) N)) (hT P w k, Value.ref x) = (entries P w (L.take (SetTable.below t.place (way t.mask (hT P w k) N)) ++ (x, k) :: L.drop (SetTable.below t.place (way t.mask (hT P w k) N)))).toArray := by
      apply Array.toList_inj.mp
      rw [SetTable.toList_insertAt]
      unfold entries
      rw [List.map_append, List.map_cons, List.map_take, List.map_drop]
    have hhs : (L.take (SetTable.below t.place (way t.mask (hT P w k) N)) ++ (x, k) :: L.drop (SetTable.below t.place (way t.mask (hT P w k) N))).map (fun p => hT P w p.2) = (L.map fun p => hT P w p.2).take (SetTable.below t.place (way t.mask (hT P w k) N)) ++ hT P w k :: (L.map fun p => hT P w p.2).drop (SetTable.below t.place (way t.mask (hT P w k) N)) := by
      rw [List.map_append, List.map_cons, List.map_take, List.map_drop]
    rw [← hhs] at q3
    rw [hin]
    generalize L.take (SetTable.below t.place (way t.mask (hT P w k) N)) ++ (x, k) :: L.drop (SetTable.below t.place (way t.mask (hT P w k) N)) = L1 at pm q3 ⊢
    have l1 : L1.length = L.length + 1 := pm.length_eq
    have nd1 : (L1.map (·.2)).Nodup := (pm.map (·.2)).nodup_iff.mpr (by rw [List.map_cons]; exact List.nodup_cons.mpr ⟨hm, R.nd⟩)
    have q3' : TabOk { t1 with plain := false } (L1.map fun p => hT P w p.2) := ⟨q3.ris, q3.dm, q3.sz, q3.mok, q3.bd, q3.reach⟩
    -- whatever the hash's kind is: the rest is one
    have rest : ∀ t2 : SetTable, TabOk t2 (L1.map fun p => hT P w p.2) → t2.mask = t.mask → t2.led = t.led → t2.fill = L.length + 1 → wpAny (model P w) A (storeSet a (entries P w L1).toArray t2 >>= fun _ => if (!false && t2.tooFull) = true then setRelay a (SetTable.grown ((entries P w L).toArray.size + 1)) >>= fun _ => pure true else pure true) Q E s := fun t2 T2 m2 ld2 f2 => by
      refine wpAny_bind (wpAny_storeSet_of ho hd ?_ (by rw [ent_len, l1, sizeLine_eq]; omega))
      have sb : Heap.SameBut a s.heap (s.heap.update a (Obj.putSet (entries P w L1).toArray t2)) := Heap.SameBut.update ..
      have ho1 := store_at (es' := (entries P w L1).toArray) (t' := t2) ho hd
      generalize s.heap.update a (Obj.putSet (entries P w L1).toArray t2) = h1 at sb ho1 ⊢
      have is1 : ∀ p ∈ L1, TupK P w h1 p.2 p.1 := fun p hp => by
        rcases List.mem_cons.mp (pm.mem_iff.mp hp) with rfl | hp
        · exact key_but hx ho hd sb
        · exact key_but (R.is p hp) ho hd sb
      have led1 : w.params.followText "set-order" = true ∨ t2.led = true := by
        rw [ld2]
        exact R.led
      have z1 : t2.place.size = L1.length := by
        have h := T2.sz
        rwa [List.length_map] at h
      by_cases hfull : t2.tooFull = true
      · rw [if_pos (by simp [hfull])]
        have big : (L.length + 1) * 5 ≥ t.mask * 3 := by
          have h := hfull
          unfold SetTable.tooFull at h
          rw [decide_eq_true_eq, f2, m2] at h
          exact h
        rw [ent_len]
        have go : ∀ M, SetTable.sizeAbove (SetTable.grown (L.length + 1)) - 1 = M → MaskOk M → SetTable.sizeAbove (SetTable.grown (L.length + 1)) ≤ 128 → (L.length + 1) * 5 < M * 3 → L.length + 1 ≤ t.mask →
            wpAny (model P w) A (setRelay a (SetTable.grown (L.length + 1)) >>= fun _ => pure true) Q E { s with heap := h1 } := fun M a1 a2 a3 a4 a5 => by
          refine wpAny_bind (relay (s := { s with heap := h1 }) ho1 ⟨hex.1, hex.2.1, hex.2.2⟩ rfl z1 T2.dm (by rw [l1, m2]; exact a5) nd1 is1 led1 (by rw [l1]; exact hf) a1 a2 a3 (by rw [l1]; exact a4) fun h2 L2 t3 sb2 R2 pm2 => ?_)
          exact wpAny_pure (hQ true h2 L2 t3 (sb.trans sb2) R2 (fun z => absurd z hm) fun _ => pm2.trans pm)
        have which : (t.mask = 7 ∧ L.length = 4) ∨ (t.mask = 31 ∧ L.length = 18) := by
          rcases R.tab.mok with e | e | e <;> rw [e] at big hr <;> omega
        rcases which with ⟨e1, e2⟩ | ⟨e1, e2⟩
        · exact go 31 (by rw [e2, size_20]) (.inr (.inl rfl)) (by rw [e2, size_20]; decide) (by omega) (by omega)
        · exact go 127 (by rw [e2, size_76]) (.inr (.inr rfl)) (by rw [e2, size_76]; decide) (by omega) (by omega)
      · rw [if_neg (by simp [hfull])]
        refine wpAny_pure (hQ true h1 L1 t2 sb ⟨⟨_, _, ho1, ⟨hex.1, hex.2.1, hex.2.2⟩, rfl⟩, T2, nd1, is1, led1, ?_, by rw [l1]; exact hf⟩ (fun z => absurd z hm) fun _ => pm)
        have h := hfull
        unfold SetTable.tooFull at h
        rw [decide_eq_true_eq, f2] at h
        rw [l1]
        omega
    have q9' : t1.fill = L.length + 1 := by
      rw [q9, List.length_map]
    have ends : ∀ c : Bool, wpAny (model P w) A (storeSet a (entries P w L1).toArray (if c = true then t1 else { t1 with plain := false }) >>= fun _ => if (!false && (if c = true then t1 else { t1 with plain := false }).tooFull) = true then setRelay a (SetTable.grown ((entries P w L).toArray.size + 1)) >>= fun _ => pure true else pure true) Q E s := fun c => by
      cases c with
      | true => exact rest t1 q3 q4 q5 q9'
      | false => exact rest { t1 with plain := false } q3' q4 q5 q9'
    by_cases hp1 : t1.plain = true
    · first
        | (refine wpAny_bind ?_; refine wp_if_pos hp1 ?_; exact hashed_tup hx fun c => ends c)
        | exact wp_if_pos hp1 (wpAny_bind (hashed_tup hx fun c => ends c))
    · first
        | (refine wpAny_bind ?_; refine wp_if_neg hp1 ?_; exact wpAny_pure (ends true))
        | exact wp_if_neg hp1 (wpAny_bind (wpAny_pure (ends true)))
end
end K60

set_option maxHeartbeats 6400000
/-! K60: set(xs), sorted(set(xs)) for lists of tuples of texts. -/
namespace K60
open PySem PySem.Spec PyProof.Rows L2
/-- what the first i items have left -/
def Had (ks : List Ent) (i : Nat) (L : List Ent) : Prop := (∀ p ∈ L, p ∈ ks.take i) ∧ (∀ p ∈ ks.take i, p.2 ∈ L.map (·.2)) ∧ L.length ≤ i
theorem had_next {ks L L' : List Ent} {i : Nat} {x : Ent} (g : Had ks i L) (h : ks[i]? = some x) (c1 : x.2 ∈ L.map (·.2) → L' = L) (c2 : x.2 ∉ L.map (·.2) → L'.Perm (x :: L)) : Had ks (i + 1) L' := by
  have e : ks.take (i + 1) = ks.take i ++ [x] := by
    rw [List.take_succ, h]
    rfl
  unfold Had
  rw [e]
  obtain ⟨g1, g2, g3⟩ := g
  by_cases c : x.2 ∈ L.map (·.2)
  · rw [c1 c]
    refine ⟨fun p hp => List.mem_append_left _ (g1 p hp), fun p hp => ?_, by omega⟩
    rcases List.mem_append.mp hp with z | z
    · exact g2 p z
    · rw [List.mem_singleton.mp z]
      exact c
  · have pm := c2 c
    refine ⟨fun p hp => ?_, fun p hp => ?_, ?_⟩
    · rcases List.mem_cons.mp (pm.mem_iff.mp hp) with z | z
      · exact List.mem_append_right _ (List.mem_singleton.mpr z)
      · exact List.mem_append_left _ (g1 p z)
    · rw [(pm.map (·.2)).mem_iff]
      rcases List.mem_append.mp hp with z | z
      · exact List.mem_cons_of_mem _ (g2 p z)
      · rw [List.mem_singleton.mp z]
        exact List.mem_cons_self
    · rw [pm.length_eq, List.length_cons]
      omega
section
variable {P : Program} {w : World} {A : Around} {E : Value → Shared → Prop} {s : Shared}
theorem Tset.keep {h h' : Heap} {a : Addr} {L : List Ent} {t : SetTable} (R : Tset P w h a L t) (ha : ∀ o, h.get? a = some o → h'.get? a = some o) (is : ∀ p ∈ L, TupK P w h' p.2 p.1) : Tset P w h' a L t := by
  obtain ⟨o, ep, ho, r⟩ := R.ob
  exact ⟨⟨o, ep, ha o ho, r⟩, R.tab, R.nd, is, R.led, R.room, R.few⟩
abbrev newSet (w : World) : Obj := { cls := .type "set", dict := none, data := .set #[] 0 (.fresh 0 0 (!w.params.followText "set-order")) }
theorem tset_new {h : Heap} {a : Addr} (ho : h.get? a = some (newSet w)) : Tset P w h a [] (.fresh 0 0 (!w.params.followText "set-order")) where
  ob := ⟨_, _, ho, ⟨rfl, rfl, rfl⟩, rfl⟩
  tab := ⟨List.Pairwise.nil, rfl, rfl, .inl rfl, fun x hx => (nomatch hx), fun i h j hi => (by simp at hi)⟩
  nd := List.nodup_nil
  is := fun p hp => nomatch hp
  led := by
    show _ ∨ (!w.params.followText "set-order") = true
    cases w.params.followText "set-order"
    · exact .inr rfl
    · exact .inl rfl
  room := by
    show 0 * 5 < 7 * 3
    decide
  few := by
    show 0 < 64
    decide
/-- the loop of set.update -/
theorem update_walk {I : Addr} {fp wr : List Addr} {G : Array GenState → Array GenState → Prop} {n : Nat} {Pv : Nat → Value → Prop} {St : Nat → Shared → Prop} {R : Result → Shared → Prop}
    (W : WalksS P w A.in1 I fp wr G n Pv St) {S : Addr} (hS : S ∉ fp) {ks : List Ent} (hn : n = ks.length) (h64 : ks.length < 64) (val : ∀ i v, Pv i v → ∃ p, ks[i]? = some p ∧ v = .ref p.1)
    {h0 : Heap} (hk : ∀ p ∈ ks, TupK P w h0 p.2 p.1) (n0 : h0.get? S = none) (nw : ∀ b ∈ wr, h0.get? b = none) (hu : A.in1.units < cLine)
    (fin : ∀ s' L t, Moved (S :: wr) G s s' → Tset P w s'.heap S L t → Had ks n L → (∀ b o, h0.get? b = some o → s'.heap.get? b = some o) → R (.ok (.ret .none)) s') :
    ∀ (m i : Nat) (s1 : Shared), n - i = m → i ≤ n → St i s1 → (∀ b o, h0.get? b = some o → s1.heap.get? b = some o) → (∃ L t, Tset P w s1.heap S L t ∧ Had ks i L) → (∀ s', Moved (S :: wr) G s1 s' → Moved (S :: wr) G s s') →
      codeAny (model P w) A (.builtin "set.update.loop" ⟨[.ref S, .ref I], []⟩) R s1 := by
  have sw : S ∉ wr := fun h => hS (W.sub _ h)
  have up : ∀ b ∈ wr, b ∈ S :: wr := fun b hb => List.mem_cons_of_mem _ hb
  have stay : ∀ {s1 s2 : Shared}, Moved wr G s1 s2 → (∀ b o, h0.get? b = some o → s1.heap.get? b = some o) → ∀ b o, h0.get? b = some o → s2.heap.get? b = some o := fun hm hp b o e => hm.heap b o (fun hb => by rw [nw b hb] at e; cases e) (hp b o e)
  intro m
  induction m with
  | zero =>
    intro i s1 hm hi hst hp ⟨L, t, T, g⟩ tr
    have ei : i = n := by omega
    subst ei
    refine codeAny_builtin PyProof.Rows.F.entry_set_update_loop ?_
    rw [Around.under_plainId PyProof.Rows.F.plain_set_update_loop _]
    show wpAny _ A.in1 (pyNext (.ref I) >>= _) _ _ s1
    refine wpAny_bind (W.done s1 _ _ hst fun s2 hm2 => ?_)
    show wpAny _ A.in1 (ret Value.none) _ _ s2
    have hp2 := stay hm2 hp
    exact wpAny_pure (fin s2 L t (tr s2 (hm2.mono up)) (T.keep (fun o e => hm2.heap S o sw e) fun p hpL => key_keep (hk p (List.mem_of_mem_take (g.1 p hpL))) hp2) g hp2)
  | succ m ih =>
    intro i s1 hm hi hst hp ⟨L, t, T, g⟩ tr
    have lt : i < n := by omega
    refine codeAny_builtin PyProof.Rows.F.entry_set_update_loop ?_
    rw [Around.under_plainId PyProof.Rows.F.plain_set_update_loop _]
    show wpAny _ A.in1 (pyNext (.ref I) >>= _) _ _ s1
    refine wpAny_bind (W.item i s1 _ _ lt hst fun v s2 hv hst2 hm2 => ?_)
    obtain ⟨p, hpk, rfl⟩ := val i v hv
    have hp2 := stay hm2 hp
    have T2 : Tset P w s2.heap S L t := T.keep (fun o e => hm2.heap S o sw e) fun q hq => key_keep (hk q (List.mem_of_mem_take (g.1 q hq))) hp2
    have hx : TupK P w s2.heap p.2 p.1 := key_keep (hk p (List.mem_of_getElem? hpk)) hp2
    show wpAny _ A.in1 (holding [Value.ref p.1] (setAdd S (.ref p.1)) >>= _) _ _ s2
    refine wpAny_bind (wpAny_holding ?_)
    unfold setAdd
    refine wpAny_holding (wpAny_bind (wpAny_pyHash_tuple hu hx ?_))
    refine Tset.add (s := { s2 with toks := s2.toks + (p.2.length + 1) }) T2 hx hu (by have := g.2.2; omega) fun b h' L' t' sb T3 c1 c2 => ?_
    have hp3 : ∀ b o, h0.get? b = some o → h'.get? b = some o := fun b o e => (sb.2 b fun z => by rw [z, n0] at e; cases e).trans (hp2 b o e)
    refine wpAny_pure ⟨plainId_quiet PyProof.Rows.F.plain_set_update_loop _, ih (i + 1) _ (by omega) lt (W.frame _ s2 _ _ hst2 (Nat.le_add_right _ _) fun b hb o e => ?_) hp3 ⟨L', t', T3, had_next g hpk c1 c2⟩ fun s4 hm4 => tr s4 ?_⟩
    · rw [sb.2 b fun z : b = S => hS (by rw [← z]; exact hb)]
      exact e
    · refine Moved.trans W.gtrans ((hm2.mono up).then_heap (Nat.le_add_right _ _) fun b o hb e => ?_) hm4
      rw [sb.2 b fun z : b = S => hb (by rw [z]; exact List.mem_cons_self)]
      exact e

/-- set(xs), xs a list of tuples of texts -/
theorem set_call {l : Addr} {items : Array Value} {ks : List Ent} {Q : Value → Shared → Prop} (hh : A.handled = none) (hl : s.heap.IsList l items) (hit : items.toList = ks.map fun p => Value.ref p.1) (hk : ∀ p ∈ ks, TupK P w s.heap p.2 p.1) (h64 : ks.length < 64) (hu : A.units + 3 < cLine)
    (h : ∀ (h' : Heap) (tk : Nat) L t, Tset P w h' s.heap.objs.size L t → Had ks ks.length L → (∀ b o, s.heap.get? b = some o → h'.get? b = some o) → Q (.ref s.heap.objs.size) { s with heap := h', toks := tk }) : wpAny (model P w) A (call (.type "set") [.ref l]) Q E s := by
  have nz : items.size = ks.length := by
    have q := congrArg List.length hit
    rwa [Array.length_toList, List.length_map] at q
  obtain ⟨c, tl, hmro⟩ := PySem.F.called_set.mro
  have hmade := PySem.F.called_set.made
  have hsub := PySem.F.called_set.sub
  refine wpAny_call (codeAny_of_tree ?_)
  show wpAny _ _ (callAny (.type "set") _) _ _ _
  refine wpAny_pure ⟨Code.quiet_builtin _ (by decide +kernel), codeAny_builtin PySem.F.entry_type_call ?_⟩
  rw [Around.under_plain (weight_type_call_type "set" [.ref l] []) rfl]
  have h1 := PySem.F.called_set.notType
  have h2 := PySem.F.called_set.canCreate
  have h3 := PySem.F.typeCall_set_1 (.ref l)
  repeat (any_goals (first | assumption | wp_step))
  refine codeAny_mono (code_set_led1 (.ref l) (E := E) (Q₁ := fun r s₁ => r = .ref s.heap.objs.size ∧ s₁ = { s with heap := s.heap.push (newSet w) }) ⟨rfl, rfl⟩) fun r s₁ hr => ?_
  rcases r with e | fl
  · exact hr
  · cases fl with
    | ret r =>
      obtain ⟨rfl, rfl⟩ := hr
      have at0 : (s.heap.push (newSet w)).get? s.heap.objs.size = some (newSet w) := Heap.get?_push_size _ rfl
      have ty : Shared.TypeIs { s with heap := s.heap.push (newSet w) } (.ref s.heap.objs.size) "set" := ⟨_, at0, rfl⟩
      have il := PySem.F.called_set.init.lookup
      have ib := PySem.F.called_set.init.bind (.ref s.heap.objs.size)
      repeat (any_goals (first | assumption | wp_step))
      refine codeAny_mono (codeAny_call_builtin (R := wants (fun r s₂ => r = .none ∧ ∃ h' tk L t, s₂ = { s with heap := h', toks := tk } ∧ Tset P w h' s.heap.objs.size L t ∧ Had ks ks.length L ∧ ∀ b o, s.heap.get? b = some o → h'.get? b = some o) E)
        PySem.F.called_set.init.plain PySem.F.entry_set_init (check_set_init_1 ty ?_)) fun r₂ s₂ hr₂ => ?_
      · obtain ⟨ol, hol, hcl, nl, hdl⟩ := hl
        obtain ⟨ocls, odict, odata, oslots⟩ := ol
        dsimp only at hcl hdl
        subst hcl hdl
        have hol' : (s.heap.push (newSet w)).get? l = some { cls := .type "list", dict := odict, data := .seq items nl, slots := oslots } := Heap.get?_push_of_some _ hol
        have g1 := PySem.F.sub_list_set
        have g2 := PySem.F.sub_list_frozenset
        have g3 : (Value.type "list" == Value.type "dict") = false := by decide
        have il1 : (s.heap.push (newSet w)).IsList l items := ⟨_, hol', rfl, nl, rfl⟩
        unfold Builtin.«set.__init__» noKeywords Builtin.Frozenset.updateFrom
        generalize hPI : pyIter = PI
        wp_walk
        subst hPI
        refine wpAny_pyIter_list il1 (wpAny_bind (wpAny_runValue ?_))
        have ll : l < s.heap.objs.size := Heap.lt_size hol
        have z1 : (s.heap.push (newSet w)).objs.size = s.heap.objs.size + 1 := Heap.size_push ..
        have gone : ∀ b, s.heap.objs.size ≤ b → s.heap.get? b = none := fun b hb => by
          cases q : s.heap.get? b with
          | none => rfl
          | some o => exact absurd (Nat.lt_of_lt_of_le (Heap.lt_size q) hb) (Nat.lt_irrefl _)
        have val : ∀ (i : Nat) (v : Value), items[i]? = some v → ∃ p, ks[i]? = some p ∧ v = .ref p.1 := fun i v hv => by
          rw [← Array.getElem?_toList, hit, List.getElem?_map] at hv
          obtain ⟨p, hp, e⟩ := Option.map_eq_some_iff.mp hv
          exact ⟨p, hp, e.symm⟩
        refine update_walk ((Walks.list (by simp [hh]) _ l (by rw [z1]; exact Nat.ne_of_lt (Nat.lt_succ_of_lt ll)) items).toS) (S := s.heap.objs.size) (by
            rw [z1]
            intro m
            rcases List.mem_cons.mp m with e | m
            · exact Nat.ne_of_lt (Nat.lt_succ_self _) e
            · exact Nat.ne_of_gt ll (List.mem_singleton.mp m)) nz h64 val (h0 := s.heap) hk (gone _ (Nat.le_refl _)) (fun b hb => gone b (by
            rw [List.mem_singleton.mp hb, z1]
            exact Nat.le_succ _)) hu ?fin (items.size - 0) 0 _ (by omega) (Nat.zero_le _) ⟨⟨_, Heap.get?_push_size _ rfl, rfl, rfl⟩, il1.push _⟩ (fun b o e => Heap.get?_push_of_some _ (Heap.get?_push_of_some _ e))
            ⟨[], _, tset_new (Heap.get?_push_of_some _ at0), fun p hp => (nomatch hp), fun p hp => (by simp at hp), Nat.le_refl _⟩ fun s' hm => hm
        case fin =>
          intro s' L t hm T g hp
          obtain ⟨h', g', d', tk', os'⟩ := s'
          have e1 : g' = s.gens := hm.gens
          have e2 : d' = s.drawn := hm.drawn
          have e3 : os' = s.os := hm.os
          subst e1 e2 e3
          rw [nz] at g
          show wpAny _ _ _ _ _ _
          refine wpAny_pure ?_
          show wpAny _ _ (ret Value.none) _ _ _
          exact wpAny_pure ⟨rfl, h', tk', L, t, rfl, T, g, hp⟩
      · rcases r₂ with e | fl₂
        · exact hr₂
        · cases fl₂ with
          | ret r =>
            obtain ⟨rfl, h', tk, L, t, rfl, T, g, hp⟩ := hr₂
            repeat (any_goals (first | assumption | wp_step))
            exact h _ _ _ _ T g hp
          | _ => exact hr₂.elim
    | _ => exact hr.elim
end
end K60

set_option maxHeartbeats 6400000
/-! K60: sorted(set(xs)) for lists of tuples of texts: the rule, and what it gives of data. -/
namespace K60
open PySem PySem.Spec PyProof.Rows L2 PySem.W
theorem perm_map {α β : Type} (f : α → β) : ∀ {l : List α} {m : List β}, m.Perm (l.map f) → ∃ l' : List α, l'.Perm l ∧ m = l'.map f
  | [], m, h => ⟨[], .nil, by rw [List.map_nil] at h; rw [h.eq_nil]; rfl⟩
  | x :: l, m, h => by
    have hx : f x ∈ m := h.mem_iff.mpr (List.mem_cons_self ..)
    obtain ⟨a, b, rfl⟩ := List.append_of_mem hx
    have h1 : (a ++ b).Perm (l.map f) := by
      have h2 : (f x :: (a ++ b)).Perm (f x :: l.map f) := List.perm_middle.symm.trans h
      exact (List.perm_cons (f x)).mp h2
    obtain ⟨l1, p1, e1⟩ := perm_map f h1
    obtain ⟨a1, b1, rfl, rfl, rfl⟩ := List.append_eq_map_iff.mp e1
    exact ⟨a1 ++ x :: b1, List.perm_middle.trans (p1.cons x), by simp⟩
section
variable {P : Program} {w : World} {A : Around} {E : Value → Shared → Prop} {s : Shared}
theorem reads_items {h : Heap} {k : List Str} {vs : List Value} (x : PySem.ItemsAre (KT P w) k vs) : ∃ as, ReadsAll h vs (k.map PyData.str) as := by
  induction x with
  | nil => exact ⟨_, .nil⟩
  | @cons k0 v ks vs h1 _ ih =>
    obtain ⟨t, rfl⟩ := Value.isStrOf_shape h1
    obtain ⟨as, r⟩ := ih
    exact ⟨_, .cons (.str _ _) r⟩
theorem TupK.reads {h : Heap} {k : List Str} {b : Addr} (x : TupK P w h k b) : TupIs h (.ref b) k := by
  obtain ⟨o, is, n, ho, hc, hd, hi⟩ := x
  obtain ⟨as, r⟩ := reads_items (h := h) hi
  exact ⟨_, .tuple ho hc hd r⟩
theorem le_iff (a b : Ent) : dataLe false (fun p : Ent => eT eS p.2) a b = true ↔ ¬ tupLt b.2 a.2 := by
  rw [dataLe_eq]
  show (!dataLt (eT eS b.2) (eT eS a.2)) = true ↔ _
  unfold tupLt
  cases dataLt (eT eS b.2) (eT eS a.2) <;> simp
/-- sorted of a set -/
theorem sorted_tset {a : Addr} {L : List Ent} {t : SetTable} {Q : Value → Shared → Prop} (R : Tset P w s.heap a L t) (hh : A.handled = none) (hu : A.units + 4 < cLine)
    (hQ : ∀ s' p (out : List Value) (c : Nat) (L' : List Ent), (∀ b o, s.heap.get? b = some o → s'.heap.get? b = some o) → s'.gens = s.gens → s'.os = s.os → s.heap.objs.size ≤ p →
      s'.heap.get? p = some (seqObj "list" out.toArray c) → out = L'.map (fun q => Value.ref q.1) → L'.Perm L → (L'.map (·.2)).Pairwise tupLt → Q (.ref p) s') : wpAny (model P w) A (call (.builtin "sorted") [.ref a]) Q E s := by
  obtain ⟨o, ep, ho, hex, hd⟩ := R.ob
  have few := R.few
  refine Calls.call_function_entry kind_sorted plain_sorted entry_sorted (args_sorted1 _) ?_
  unfold Builtin.«sorted»
  refine wpAny_bind (m := checkCount "sorted" 1 1 _) (wpAny_pure ?_)
  refine wpAny_bind (collect_set (A := A.in1) hh ⟨o, ho, hex.1, hd⟩ R.fits (by rw [ent_len]; unfold scanBound; omega) R.tab.ris R.led fun s1 vs k1 hz g1 o1 pm => ?_)
  have he : (entries P w L).toArray.toList.map (·.2) = L.map fun q => Value.ref q.1 := by
    show (entries P w L).map (·.2) = _
    unfold entries
    rw [List.map_map]
    rfl
  rw [he] at pm
  obtain ⟨L1, p1, rfl⟩ := perm_map (fun q : Ent => Value.ref q.1) pm
  have len1 : (L1.map fun q : Ent => Value.ref q.1).length = L.length := by rw [List.length_map, p1.length_eq]
  refine wpAny_bind (wpAny_newList ?_ (by rw [sizeLine_eq]; omega))
  have hoL : (s1.heap.push (seqObj "list" (L1.map fun q : Ent => Value.ref q.1).toArray 0)).get? s1.heap.objs.size = some (seqObj "list" (L1.map fun q : Ent => Value.ref q.1).toArray 0) := Heap.get?_push_size _ rfl
  have old : ∀ b u, s.heap.get? b = some u → (s1.heap.push (seqObj "list" (L1.map fun q : Ent => Value.ref q.1).toArray 0)).get? b = some u := fun b u e => Heap.get?_push_of_some _ (k1 b u e)
  have keep : ∀ b u, s.heap.get? b = some u → (sortingHeap (s1.heap.push (seqObj "list" (L1.map fun q : Ent => Value.ref q.1).toArray 0)) s1.heap.objs.size (L1.map fun q : Ent => Value.ref q.1)).get? b = some u := fun b u e =>
    sortingHeap_old (Nat.ne_of_lt (Heap.lt_size (k1 b u e))) (old b u e)
  have each : ∀ l : List Ent, (∀ q ∈ l, q ∈ L) → EachIs (TupIs (sortingHeap (s1.heap.push (seqObj "list" (L1.map fun q : Ent => Value.ref q.1).toArray 0)) s1.heap.objs.size (L1.map fun q : Ent => Value.ref q.1))) (l.map fun q : Ent => Value.ref q.1) (l.map (·.2)) := by
    intro l
    induction l with
    | nil => exact fun _ => .nil
    | cons q l ih => exact fun h => .cons (TupK.reads (key_keep (R.is q (h q (List.mem_cons_self ..))) keep)) (ih fun r hr => h r (List.mem_cons_of_mem _ hr))
  have each2 : ∀ l : List Ent, EachIs (fun (v : Value) (q : Ent) => v = Value.ref q.1) (l.map fun q : Ent => Value.ref q.1) l := by
    intro l
    induction l with
    | nil => exact .nil
    | cons q l ih => exact .cons rfl ih
  have unEach : ∀ {vs : List Value} {l : List Ent}, EachIs (fun (v : Value) (q : Ent) => v = Value.ref q.1) vs l → vs = l.map fun q => Value.ref q.1 := by
    intro vs l h
    induction h with
    | nil => rfl
    | cons e _ ih => rw [e, ih]; rfl
  have sub1 : ∀ q ∈ L1, q ∈ L := fun q hq => p1.mem_iff.mp hq
  have hu3 : A.units + 3 < cLine := by omega
  refine wpAny_bind (wpAny_holding (wpAny_call_entry slot_list_sort ⟨_, hoL, rfl⟩ entry_list_sort ?body (args_list_sort _)))
  case body =>
    refine list_sort_vals (s := { s1 with heap := s1.heap.push (seqObj "list" (L1.map fun q : Ent => Value.ref q.1).toArray 0) }) hoL (sorts_tups (s := { s1 with heap := sortingHeap (s1.heap.push (seqObj "list" (L1.map fun q : Ent => Value.ref q.1).toArray 0)) s1.heap.objs.size (L1.map fun q : Ent => Value.ref q.1) }) (each L1 sub1) hu3) (by rw [len1, sizeLine_eq]; omega) ⟨_, rfl, ?_⟩
    have hm : List.map (eT eS) (List.map (fun q : Ent => q.2) L1) = L1.map fun q : Ent => eT eS q.2 := by
      rw [List.map_map]
      rfl
    rw [hm]
    have er : EachIs (fun (v : Value) (q : Ent) => ∃ as, Reads (sortingHeap (s1.heap.push (seqObj "list" (L1.map fun q : Ent => Value.ref q.1).toArray 0)) s1.heap.objs.size (L1.map fun q : Ent => Value.ref q.1)) v (eT eS q.2) as) (L1.map fun q : Ent => Value.ref q.1) L1 := by
      have gen : ∀ l : List Ent, (∀ q ∈ l, q ∈ L) → EachIs (fun (v : Value) (q : Ent) => ∃ as, Reads (sortingHeap (s1.heap.push (seqObj "list" (L1.map fun q : Ent => Value.ref q.1).toArray 0)) s1.heap.objs.size (L1.map fun q : Ent => Value.ref q.1)) v (eT eS q.2) as) (l.map fun q : Ent => Value.ref q.1) l := by
        intro l
        induction l with
        | nil => exact fun _ => .nil
        | cons q l ih => exact fun h => .cons (TupK.reads (key_keep (R.is q (h q (List.mem_cons_self ..))) keep)) (ih fun r hr => h r (List.mem_cons_of_mem _ hr))
      exact gen L1 sub1
    have so := sortVals_data (enc := fun q : Ent => eT eS q.2) false (each2 L1) er (AllAlike.of fun p q => alike_tups p.2 q.2)
    have eo := unEach so
    rw [eo]
    have pL : (L1.mergeSort (dataLe false fun q : Ent => eT eS q.2)).Perm L1 := List.mergeSort_perm _ _
    have hs : (L1.mergeSort (dataLe false fun q : Ent => eT eS q.2)).Pairwise fun a b => dataLe false (fun q : Ent => eT eS q.2) a b = true := List.pairwise_mergeSort (fun a b c h1 h2 => by
      rw [le_iff] at h1 h2 ⊢
      intro h3
      by_cases z : tupLt a.2 b.2
      · exact h2 (tl_trans h3 z)
      · have e := tl_total z h1
        rw [e] at h3
        exact h2 h3) (fun a b => by
      by_cases z : tupLt b.2 a.2
      · have z2 : dataLe false (fun q : Ent => eT eS q.2) b a = true := (le_iff _ _).mpr fun z3 => tl_irrefl _ (tl_trans z z3)
        rw [z2]
        simp
      · have z2 : dataLe false (fun q : Ent => eT eS q.2) a b = true := (le_iff _ _).mpr z
        rw [z2]
        simp) L1
    generalize L1.mergeSort (dataLe false fun q : Ent => eT eS q.2) = L2 at pL hs
    have nd2 : (L2.map (·.2)).Nodup := ((pL.trans p1).map (·.2)).nodup_iff.mpr R.nd
    have up : (L2.map (·.2)).Pairwise tupLt := by
      rw [List.pairwise_map]
      refine (hs.and (List.pairwise_map.mp nd2)).imp fun {a b} h => ?_
      have h1 := (le_iff a b).mp h.1
      by_cases z : tupLt a.2 b.2
      · exact z
      · exact absurd (tl_total z h1) h.2
    obtain ⟨c, hc⟩ := sortedHeap_at (vs := L1.map fun q : Ent => Value.ref q.1) (out := (L2.map fun q : Ent => Value.ref q.1).toArray) hoL
    refine wpAny_pure ⟨_, rfl, hQ _ s1.heap.objs.size _ c L2 (fun b u e => ?_) g1 o1 hz hc rfl (pL.trans p1) up⟩
    have q := k1 b u e
    show (sortedHeap _ _ _ _).get? b = some u
    rw [sortedHeap_old (Nat.ne_of_lt (Heap.lt_size q)) (by rw [size_push']; exact Nat.lt_succ_of_lt (Heap.lt_size q))]
    exact Heap.get?_push_of_some _ q
/-! ### the rule -/
/-- the set at a, but for the tuples themselves -/
def Tcore (P : Program) (w : World) (h : Heap) (a : Addr) (L : List Ent) : Prop := ∃ t, (∃ o ep, h.get? a = some o ∧ o.ExactSet ∧ o.data = .set (entries P w L).toArray ep t) ∧ TabOk t (L.map fun p => hT P w p.2) ∧ (L.map (·.2)).Nodup ∧
  (w.params.followText "set-order" = true ∨ t.led = true) ∧ L.length * 5 < t.mask * 3 ∧ L.length < 64
def tsetO (P : Program) (w : World) (a : Addr) (L : List Ent) : HO := .ext fun h => Tcore P w h a L
theorem Tset.core {h : Heap} {a : Addr} {L : List Ent} {t : SetTable} (R : Tset P w h a L t) : Tcore P w h a L := ⟨t, R.ob, R.tab, R.nd, R.led, R.room, R.few⟩
theorem tsetO_ok {H : Hp} {h : Heap} {a : Addr} {L : List Ent} (R : Tcore P w h a L) : ObjOk P w H h a (tsetO P w a L) := by
  obtain ⟨t, ⟨o, ep, ho, r⟩, q⟩ := id R
  refine ⟨R, ⟨o, ho⟩, fun h1 h2 p k => ?_⟩
  obtain ⟨t', ⟨o', ep', ho', r'⟩, q'⟩ := p
  exact ⟨t', ⟨o', ep', k o' ho', r'⟩, q'⟩
theorem vals_strs_items : ∀ {k : List Str} {us : List Value}, Vals (k.map V.str) us → PySem.ItemsAre (KT P w) k us
  | [], _, .nil => .nil
  | x :: k, _, .cons r t => by
    obtain ⟨tk, rfl⟩ := r
    exact .cons (strKind_is P w x tk) (vals_strs_items t)
theorem vals_refs (L : List Ent) : Vals (L.map fun p => V.ref p.1) (L.map fun p => Value.ref p.1) := by
  induction L with
  | nil => exact .nil
  | cons p L ih => exact .cons rfl ih
theorem refs_vals : ∀ {L : List Ent} {us : List Value}, Vals (L.map fun p => V.ref p.1) us → us = L.map fun p => Value.ref p.1
  | [], _, .nil => rfl
  | p :: L, _, .cons r t => by
    cases r
    rw [refs_vals t]
    rfl
end
section
variable {X : Cx}
theorem inv_key {pins : List (Addr × Obj)} {σ : L2.St} {H : Hp} {s : Shared} {b : Addr} {k : List Str} (I : Inv X pins σ H s) (h : SqT X.K H b (k.map V.str)) : TupK X.prog X.w s.heap k b := by
  obtain ⟨its, r, ⟨o, ho, hc, n, hd⟩, _⟩ := I.tuple h
  exact ⟨o, its.toArray, n, ho, hc, hd, by simpa using vals_strs_items r⟩
def rSetT (K : PySem.W.Frag) (P : Program) (w : World) : List V → Hp → VK → Prop := fun xs H Q => ∃ (l : Addr) (ks : List Ent), xs = [.ref l] ∧ SqL K H l (ks.map fun p => .ref p.1) ∧ (∀ p ∈ ks, SqT K H p.1 (p.2.map V.str)) ∧ ks.length < 64 ∧
  ∀ a L, H a = none → (∀ p ∈ L, p ∈ ks) → (∀ p ∈ ks, p.2 ∈ L.map (·.2)) → Q (.ref a) (upd H a (tsetO P w a L))
theorem cr_setT (hc : X.calm = true) (hu : X.A.units + 64 < cLine) : CallR X (.type "set") (rSetT X.K X.prog X.w) := by
  intro pins s σ H xs us Q I r h
  obtain ⟨l, ks, rfl, hl, hk, hf, q⟩ := h
  rw [Vals.ref1 r]
  obtain ⟨its, rv, pl, hz⟩ := I.list hl
  have hn : H s.heap.objs.size = none := I.hok.fresh (Nat.le_refl _)
  refine set_call (P := X.prog) (w := X.w) (ks := ks) (I.ok.hd hc) pl.isList (by simpa using refs_vals rv) (fun p hp => inv_key I (hk p hp)) hf (by omega) fun h' tk L t R g k => ?_
  refine ⟨.ref s.heap.objs.size, upd H s.heap.objs.size (tsetO X.prog X.w s.heap.objs.size L), I.laid (t' := tk) k (Nat.le_refl _) (tsetO_ok R.core), rfl, q _ L hn (fun p hp => List.mem_of_mem_take (g.1 p hp)) fun p hp => g.2.1 p (by rw [List.take_length]; exact hp)⟩
def rSortedT2 (K : PySem.W.Frag) (P : Program) (w : World) : List V → Hp → VK → Prop := fun vs H Q => ∃ (a : Addr) (L : List Ent), vs = [V.ref a] ∧ H a = some (tsetO P w a L) ∧ (∀ p ∈ L, SqT K H p.1 (p.2.map V.str)) ∧
  ∀ (L' : List Ent) (p : Addr), L'.Perm L → (L'.map (·.2)).Pairwise tupLt → H p = none → Q (.ref p) (upd H p (.lst (L'.map fun q => V.ref q.1)))
theorem cr_sortedT2 (hc : X.calm = true) (hu : X.A.units + 64 < cLine) : CallR X (.builtin "sorted") (rSortedT2 X.K X.prog X.w) := by
  intro pins s σ H vs us Q I r h
  obtain ⟨a, L, rfl, ha, hk, q⟩ := h
  obtain ⟨t, h1, h2, h3, h4, h5, h6⟩ : Tcore X.prog X.w s.heap a L := (I.hok a _ ha).1
  rw [Vals.ref1 r]
  refine sorted_tset ⟨h1, h2, h3, fun p hp => inv_key I (hk p hp), h4, h5, h6⟩ (I.ok.hd hc) (by omega) fun s' p out c L' k g o hp hg hout pm up => ?_
  subst hout
  have hlen : (L'.map fun q => V.ref q.1).length ≤ sizeLine := by
    rw [List.length_map, pm.length_eq, sizeLine_eq]
    omega
  have hn : H p = none := I.hok.fresh hp
  have J : Inv X pins σ (upd H p (.lst (L'.map fun q => V.ref q.1))) { s with heap := s'.heap, gens := s'.gens, drawn := s'.drawn, toks := s'.toks } :=
    I.call (ch := []) (Un.laid k hp hn) (I.hok.laid k hp ⟨hlen, _, c, vals_refs L', hg⟩) (by rw [g]; exact I.bare) (fun _ z => nomatch z)
  have e : s' = { s with heap := s'.heap, gens := s'.gens, drawn := s'.drawn, toks := s'.toks } := by
    cases s'
    cases s
    cases o
    rfl
  rw [e]
  exact ⟨.ref p, _, J, rfl, q L' p pm up hn⟩
end
section
variable {f : Fe} {ρ : List Sl} {K : PySem.W.Frag} {P : Program} {w : World} {tA : TA}
/-- a list of tuples of texts: its items by address -/
theorem ents_of {H : Hp} : ∀ {vs : List V} {xs : List (List Str)}, RpL H vs (xs.map (eT eS)) → ∃ ks : List Ent, vs = ks.map (fun p => .ref p.1) ∧ ks.map (·.2) = xs ∧ ∀ p ∈ ks, Rd H p.1 (.tup (p.2.map V.str))
  | _, [], .nil => ⟨[], rfl, rfl, fun p hp => nomatch hp⟩
  | _, x :: xs, .cons r t => by
    obtain ⟨ks, e1, e2, e3⟩ := ents_of t
    obtain ⟨a, us, rfl, ha, rl⟩ := Rp.tup_inv r
    have eu := rl.strs
    subst eu
    refine ⟨(a, x) :: ks, by rw [e1]; rfl, by rw [← e2]; rfl, fun p hp => ?_⟩
    rcases List.mem_cons.mp hp with e | hp
    · rw [e]
      exact ha
    · exact e3 p hp
theorem ents_to {H : Hp} : ∀ {ks : List Ent}, (∀ p ∈ ks, Rd H p.1 (.tup (p.2.map V.str))) → RpL H (ks.map fun p => .ref p.1) ((ks.map (·.2)).map (eT eS))
  | [], _ => .nil
  | p :: ks, h => .cons (.tup (h p (List.mem_cons_self ..)) (RpL.ofStrs p.2) fun z => by rw [isM_of fun d hd => by obtain ⟨x, _, rfl⟩ := List.mem_map.mp hd; rfl] at z; cases z) (ents_to fun q hq => h q (List.mem_cons_of_mem _ hq))
theorem dv_sortSet {xs : List (List Str)} (ha : DA f tA ρ (· = [.dat (eL (eT eS) xs)])) (hz : xs.length < 64) : DE f (tCB (rSortedT2 K P w) (tCons (tCB (rSetT K P w) tA) tNil)) ρ (· = .dat (eL (eT eS) (ssort xs))) := fun O σ H wd e Q q =>
  ha O σ H wd e _ fun vs H1 ss x1 p1 r1 => by
    subst p1
    match vs, r1 with
    | [v], r1 =>
      obtain ⟨l, us, rfl, hl, rl⟩ := Rp.list_inv r1.1
      obtain ⟨ks, rfl, ek, hk⟩ := ents_of rl
      have w1 := wd.ext x1
      refine ⟨l, ks, rfl, .inl (.inl (hid_get hl).1), fun p hp => .inl (rd_get (hk p hp)).1, by rw [← List.length_map (f := fun p : Ent => p.2), ek]; exact hz, fun a L na s1 s2 => ?_⟩
      have x2 := w1.new (o := tsetO P w a L) na
      have w2 := w1.ext x2
      have hk2 : ∀ p ∈ ks, Rd (hid (upd H1 a (tsetO P w a L)) O) p.1 (.tup (p.2.map V.str)) := fun p hp => Rd.mono (x2.hid wd.fO) (hk p hp)
      show rSortedT2 K P w [.ref a] _ Q
      refine ⟨a, L, rfl, upd_same, fun p hp => .inl (rd_get (hk2 p (s1 p hp))).1, fun L' p pm up np => ?_⟩
      have x3 := w2.new (o := .lst (L'.map fun q => V.ref q.1)) np
      have eq : L'.map (·.2) = ssort xs := ssort_eq up fun z => by
        rw [← ek]
        constructor
        · intro hz
          obtain ⟨p, hp, rfl⟩ := List.mem_map.mp hz
          exact List.mem_map.mpr ⟨p, s1 p (pm.mem_iff.mp hp), rfl⟩
        · intro hz
          obtain ⟨p, hp, rfl⟩ := List.mem_map.mp hz
          exact ((pm.map (·.2)).mem_iff).mpr (s2 p hp)
      refine q _ _ _ ((x1.trans x2).trans x3) rfl ?_
      show Rp _ _ (.list ((ssort xs).map (eT eS)))
      rw [← eq]
      exact .lst (w2.hnew np) (ents_to fun p hp => Rd.mono (x3.hid wd.fO) (hk2 p (s1 p (pm.mem_iff.mp hp))))
end
end K60

set_option maxHeartbeats 4000000
/-! K60, the data layer: what never runs; a new dict walked; the parameters' order. -/
namespace K60
open PySem PySem.Spec PyProof.Rows L2
/-- what never runs -/
def tNev : TE := fun _ _ _ => False
def tNevT : TT := fun _ _ _ => False
section
variable {X : Cx} {tg e : Expr} {td : TE}
theorem pe_nev : PE X e tNev := ⟨fun _ _ _ _ _ _ h => h.elim⟩
theorem pt_nev : PT X e tNevT := ⟨fun _ _ _ _ _ _ h => h.elim⟩
/-- the keys of a dict that only this walk knows -/
def iKeysF (td : TE) : TI := fun σ H R => td σ H fun x H1 => ∃ d kvs, x = .ref d ∧ H1 d = some (.dK kvs) ∧ ∀ o, R (Itk d o kvs) (upd H1 d (.frz o (.dK kvs)))
theorem pi_keysF (he : PE X e td) : PI X tg e (iKeysF td) := by
  refine ⟨fun pins s σ H R I h => ?_⟩
  refine thn (he.run pins s σ H _ I h) fun u s1 ⟨x, H1, I1, rx, d, kvs, ex, hd, q⟩ => ?_
  subst ex
  have eu : u = Value.ref d := rx
  subst eu
  obtain ⟨o, I2⟩ := I1.lock hd trivial
  obtain ⟨hs, hg, hx, es, ep, vs, hdt, hsz, kv, hm⟩ := I2.frzK (kvs := kvs) upd_same
  refine iter_keys hs hg hx hdt (pi_one (tk := s1.toks) I2 _ (turn_keys _ hdt) ⟨_, Heap.get?_push_size _ rfl, rfl, ?_⟩ (q o))
  rw [hsz]
  rfl
end
theorem hu1of {k : Nat} {A : Around} (hr : Room k A) : A.units + 1 < cLine := by
  have h := hr.un
  omega
/-- a slice of a list or a tuple -/
def rSlQ (K : PySem.W.Frag) : V → Option Int → Option Int → Hp → VK → Prop := fun x lo hi H Q => rSlL K x lo hi H Q ∨ rSlA K x lo hi H Q
theorem sl_any {X : Cx} : SlR X (rSlQ X.K) := by
  intro pins s σ H x v vl vu lo hi sl Q I rx hs pl pu h
  rcases h with h | h
  · exact sl_list pins s σ H x v vl vu lo hi sl Q I rx hs pl pu h
  · exact sl_tupA pins s σ H x v vl vu lo hi sl Q I rx hs pl pu h
section
variable {f : Fe} {ρ : List Sl} {K : PySem.W.Frag} {te : TE} {ds : List PyData}
theorem de_slQ {b : Bool} {to tu : TO} {lo hi : Option Int} (nm : isM (cutD ds lo hi) = false) (h : DE f te ρ (· = .dat (if b then .tuple ds else .list ds))) (h1 : PO' f to ρ lo) (h2 : PO' f tu ρ hi) : DE f (L2.tSl (rSlQ K) te to tu) ρ (· = .dat (if b then .tuple (cutD ds lo hi) else .list (cutD ds lo hi))) := fun O σ H w e Q q => h O σ H w e _ fun v H1 s x1 p r => by
  subst p
  refine h1 O σ H1 (w.ext x1) (e.mono (x1.hid w.fO)) _ fun H2 x2 => h2 O σ H2 ((w.ext x1).ext x2) ((e.mono (x1.hid w.fO)).mono (x2.hid w.fO)) _ fun H3 x3 => ?_
  have w3 := ((w.ext x1).ext x2).ext x3
  have x13 := (x1.trans x2).trans x3
  cases b with
  | true =>
    have r3 : Rp (hid H3 O) v (.tuple ds) := Rp.mono ((x2.trans x3).hid w.fO) r
    obtain ⟨a, xs, rfl, ha, rl⟩ := Rp.tup_inv r3
    refine .inr ⟨a, xs, rfl, .inl (rd_get ha).1, fun z => q _ H3 _ x13 rfl ?_, fun z p hp => q _ _ _ (x13.trans (w3.new hp)) rfl (.mkT (w3.hnew hp) ((rl.cut lo hi).mono ((w3.new hp).hid w.fO)) nm)⟩
    rw [rl.len] at z
    have e2 : cutD ds lo hi = ds := by
      unfold cutD
      rw [z.1, z.2, List.drop_zero, Nat.sub_zero, List.take_length]
    rw [e2]
    exact r3
  | false =>
    obtain ⟨a, xs, rfl, ha, rl⟩ := Rp.list_inv (Rp.mono ((x2.trans x3).hid w.fO) r)
    exact .inl ⟨a, xs, rfl, .inl (.inl (hid_get ha).1), fun p hp => q _ _ _ (x13.trans (w3.new hp)) rfl (.lst (w3.hnew hp) ((rl.cut lo hi).mono ((w3.new hp).hid w.fO)))⟩
theorem dv_tailQ {b : Bool} (nm : isM ds.tail = false) (h : DE f te ρ (· = .dat (if b then .tuple ds else .list ds))) : DE f (L2.tSl (rSlQ K) te (tPart (tC (.int 1))) tNoPart) ρ (· = .dat (if b then .tuple ds.tail else .list ds.tail)) := by
  have z := de_slQ (K := K) (lo := some 1) (hi := none) (by rw [cut_tail]; exact nm) h (po_int (dv_int (i := 1))) po_no
  rw [cut_tail] at z
  exact z
end
/-- dict(list of pairs) -/
def rDictX (K : PySem.W.Frag) : List V → Hp → VK → Prop := fun xs H Q => ∃ (a : Addr) (ps : List Addr) (kvs : List (Key × V)), xs = [.ref a] ∧ SqL K H a (ps.map V.ref) ∧ Paired (fun p kv => SqT K H p [kV kv.1, kv.2]) ps kvs ∧ ∀ p, H p = none → Q (.ref p) (upd H p (.dK (mergeK [] kvs)))
/-- t.index(x) -/
def rTupIdx (K : PySem.W.Frag) : V → List V → Hp → VK → Prop := fun x xs H Q => ∃ p, ∃ ys : List Str, ∃ z j, x = .ref p ∧ xs = [.str z] ∧ SqT K H p (ys.map V.str) ∧ ys[j]? = some z ∧ (∀ m, m < j → ys[m]? ≠ some z) ∧ Q (.int (j : Nat)) H
/-! ### the parameters' order -/
def gApp : List V → List V → List V := fun vs zs => vs ++ zs
def gSw : List V → List V → List V
  | [], [a, b] => [b, a]
  | _, _ => []
def gRb : List V → List V → List V
  | [], [a, b, c] => [b, a, c]
  | _, _ => []
def gRev : List V → List V → List V
  | [], [a, b, c] => [c, b, a]
  | _, _ => []
/-! ### exact tuples -/
/-- a tuple display whose object is known -/
def tTupX (t : TA) : TE := fun σ H Q => t σ H fun xs H1 => xs.length ≤ sizeLine ∧ ∀ p o, H1 p = none → o.dict = none → Q (.ref p) (upd H1 p (.frz o (.tup xs)))
/-- t.index(x), t known -/
def tIdxX (K : PySem.W.Frag) (to : TE) (t : TA) : TE := fun σ H Q => to σ H fun x H1 => ∃ a o ys, x = .ref a ∧ H1 a = some (.frz o (.tup ys)) ∧ o.dict = none ∧ t σ H1 fun xs H2 => rTupIdx K x xs H2 Q
section
variable {X : Cx} {e o : Expr} {es : List Expr} {to : TE} {t : TA} {pos apos cpos : Pos}
theorem pe_tupX {x1} (h : PA X es t) : PE X (.Tuple es x1 pos) (tTupX t) := by
  refine ⟨fun pins s σ H Q I hq => ?_⟩
  refine wpAny_Tuple_spliced (thn (h.run pos pins s σ H _ I hq) fun us s1 ⟨xs, H1, I1, r, z, q⟩ => ⟨by rw [← r.length]; exact z, ?_⟩)
  have hf : H1 s1.heap.objs.size = none := I1.hok.fresh (Nat.le_refl _)
  refine ⟨.ref s1.heap.objs.size, upd H1 s1.heap.objs.size (.frz { cls := .type "tuple", data := .seq us.toArray } (.tup xs)), I1.laid (t' := s1.toks) (fun b u e => Heap.get?_push_of_some _ e) (Nat.le_refl _) ?_, rfl, q _ _ hf rfl⟩
  exact ⟨Heap.get?_push_size _ rfl, z, us, r, ⟨_, Heap.get?_push_size _ rfl, rfl, _, rfl⟩⟩
theorem pe_idxX (ho : PE X o to) (ha : PA X [e] t) (hbase : attributeBase o "index" X.env (eval o X.env) = eval o X.env := by rfl)
    (hfew : ((backTo cpos (starEach [e] X.env)).all (fun x => !x.1) && (backToKw cpos (keywordEach [] X.env)).all (fun x => x.1.isSome) && decide (([e] : List Expr).length + ([] : List Keyword).length + (if ([] : List Keyword).isEmpty then 0 else 1) < 30)) = true := by rfl)
    (hline : (apos.endLine == cpos.line) = true := by rfl) (hs : starEach [e] X.env = (false, eval e X.env) :: starEach [] X.env := by rfl) (hplain : (backTo cpos (starEach [] X.env)).any (·.1) = false := by rfl) : PE X (.Call (.Attribute o "index" apos) [e] [] cpos) (tIdxX X.K to t) := by
  refine ⟨fun pins s σ H Q I h => ?_⟩
  refine wpAny_Call_method_late hbase hfew hline rfl (thn (ho.run pins s σ H _ I h) fun v s1 ⟨x, H1, I1, r1, a, ob, ys, ex, ha1, hd, q1⟩ => ?_)
  subst ex
  have ev : v = Value.ref a := r1
  subst ev
  obtain ⟨g1, _, its, _, ⟨o2, g2, c2, _⟩⟩ := I1.hok a _ ha1
  rw [g1] at g2
  cases g2
  refine ⟨"tuple", "tuple.index", PySem.F.plainAttrs_tuple, PySem.F.slot_tuple_index, PySem.F.type_tuple_index, ⟨_, g1, c2⟩, fun b eb => ?_, ?_⟩
  · cases eb
    exact ⟨_, g1, hd⟩
  · have hA := ha.run cpos pins s1 σ H1 _ I1 q1
    rw [hs] at hA ⊢
    refine Calls.callWith_builtin (by show (false || (backTo cpos (starEach [] X.env)).any (·.1)) = false; rw [hplain]; rfl) (Calls.evalArgs_plain ?_)
    exact thn hA fun us s2 ⟨vs, H2, I2, r2, q2⟩ => mt_tup_index pins s2 σ H2 (.ref a) vs (.ref a) us Q I2 rfl r2 q2
end
section
variable {f : Fe} {ρ : List Sl} {K : PySem.W.Frag} {te ta : TE} {tA : TA}
/-- the look of a machine at its place, by a text -/
theorem dv_idx {ds : List PyData} {xs : List Str} {x : Str} {j : Nat} (h : DE f te ρ (· = .dat (.tuple ds))) (hm : isM ds = true) (h1 : ds[1]? = some (.tuple (xs.map .str))) (ha : DA f tA ρ (· = [.dat (.str x)])) (hj : xs[j]? = some x) (hn : ∀ m, m < j → xs[m]? ≠ some x) :
    DE f (tIdxX K (tOp (rIx K) te (tC (.int 1))) tA) ρ (· = .dat (.int (j : Int))) := fun O σ H w e Q q => h O σ H w e _ fun v H1 s x1 p1 r1 => by
  subst p1
  obtain ⟨a, us, rfl, hr, rl, a1, o, ys, e1, e2, e3⟩ := Rp.exa r1 hm
  obtain ⟨v1, g1, g2⟩ := rl.get h1
  rw [e1] at g1
  have ev := Option.some.inj g1
  subst ev
  obtain ⟨a2, us2, ea, hr2, rl2⟩ := Rp.tup_inv g2
  cases ea
  have eu : us2 = ys := by
    rcases hr2 with z | ⟨o', z⟩
    · rw [e2] at z
      cases z
    · rw [e2] at z
      cases z
      rfl
  subst eu
  have es := rl2.strs
  subst es
  show rIx K (.ref a) (.int 1) H1 _
  have eH := (hid_get e2).1
  refine .inr (.inl ⟨a, us, 1, .ref a1, rfl, rfl, .inl (rd_get hr).1, atI_of (i := 1) e1, a1, o, _, rfl, eH, e3, ha O σ H1 (w.ext x1) (e.mono (x1.hid w.fO)) _ fun zs H2 ss x2 p2 r2 => ?_⟩)
  subst p2
  match zs, r2 with
  | [z], r2 =>
    have ez := Rp.str_inv r2.1
    subst ez
    have e2' := x2.hid w.fO _ _ e2
    exact ⟨a1, xs, x, j, rfl, rfl, .inl (.inr ⟨o, (hid_get e2').1⟩), hj, hn, q _ H2 _ (x1.trans x2) rfl (Rp.int _)⟩
end
end K60

set_option maxHeartbeats 4000000
/-! K60, the data layer: the rules by kinds of data. -/
namespace K60
open PySem PySem.Spec PyProof.Rows L2
abbrev eI : Int → PyData := PyData.int
abbrev eB : Bool → PyData := PyData.bool
abbrev eSet : List Str → PyData := eT eS
abbrev eSets : List (List Str) → PyData := eT eSet
def ok (x : Str) : Prop := PyData.strOk x = true
/-- what can be compared, at most n deep -/
structure Lay (n : Nat) (d : PyData) : Prop where
  can : d.canLay0 = true
  dep : d.depth ≤ n
theorem Lay.shaped {n : Nat} {d : PyData} (h : Lay n d) (hn : n ≤ 64 := by decide) : SeqAt.shaped d = true := by
  unfold SeqAt.shaped
  rw [h.can, decide_eq_true (Nat.le_trans h.dep hn)]
  rfl
theorem Lay.mono {m n : Nat} {d : PyData} (h : Lay m d) (k : m ≤ n) : Lay n d := ⟨h.can, Nat.le_trans h.dep k⟩
theorem lay_S {x : Str} (h : ok x) : Lay 0 (eS x) := ⟨h, Nat.le_refl _⟩
theorem lay_I {i : Int} : Lay 0 (eI i) := ⟨rfl, Nat.le_refl _⟩
theorem lay_B {b : Bool} : Lay 0 (eB b) := ⟨rfl, Nat.le_refl _⟩
theorem lay_N : Lay 0 .none := ⟨rfl, Nat.le_refl _⟩
theorem lay_all {n : Nat} : ∀ {ds : List PyData}, (∀ d ∈ ds, Lay n d) → PyData.canLayAll0 ds = true ∧ PyData.depthAll ds ≤ n
  | [], _ => ⟨rfl, Nat.zero_le _⟩
  | d :: ds, h => by
    obtain ⟨h1, h2⟩ := lay_all (n := n) (ds := ds) fun x hx => h x (List.mem_cons_of_mem _ hx)
    have h0 := h d (List.mem_cons_self ..)
    refine ⟨?_, ?_⟩
    · rw [PyData.canLayAll0, h0.can, h1]
      rfl
    · rw [PyData.depthAll]
      exact Nat.max_le.mpr ⟨h0.dep, h2⟩
theorem lay_tup {n : Nat} {ds : List PyData} (h : ∀ d ∈ ds, Lay n d) : Lay (n + 1) (.tuple ds) := by
  obtain ⟨h1, h2⟩ := lay_all h
  refine ⟨?_, ?_⟩
  · rw [PyData.canLay0]
    exact h1
  · rw [PyData.depth]
    exact Nat.succ_le_succ h2
theorem lay_lst {n : Nat} {ds : List PyData} (h : ∀ d ∈ ds, Lay n d) : Lay (n + 1) (.list ds) := by
  obtain ⟨h1, h2⟩ := lay_all h
  refine ⟨?_, ?_⟩
  · rw [PyData.canLay0]
    exact h1
  · rw [PyData.depth]
    exact Nat.succ_le_succ h2
theorem lay_T {α : Type} {n : Nat} {g : α → PyData} {xs : List α} (h : ∀ x ∈ xs, Lay n (g x)) : Lay (n + 1) (eT g xs) := lay_tup fun d hd => by
  obtain ⟨x, hx, rfl⟩ := List.mem_map.mp hd
  exact h x hx
theorem lay_L {α : Type} {n : Nat} {g : α → PyData} {xs : List α} (h : ∀ x ∈ xs, Lay n (g x)) : Lay (n + 1) (eL g xs) := lay_lst fun d hd => by
  obtain ⟨x, hx, rfl⟩ := List.mem_map.mp hd
  exact h x hx
theorem lay_set {a : List Str} (h : ∀ x ∈ a, ok x) : Lay 1 (eSet a) := lay_T fun x hx => lay_S (h x hx)
theorem lay_sets {L : List (List Str)} (h : ∀ a ∈ L, ∀ x ∈ a, ok x) : Lay 2 (eSets L) := lay_T fun a ha => lay_set (h a ha)
/-! ### equal -/
theorem eqv_S (x y : Str) : PyData.eqv (eS x) (eS y) = decide (x = y) := by
  show (x == y) = _
  rw [Bool.eq_iff_iff, beq_iff_eq, decide_eq_true_eq]
theorem eqv_I (x y : Int) : PyData.eqv (eI x) (eI y) = decide (x = y) := by
  show (x == y) = _
  rw [Bool.eq_iff_iff, beq_iff_eq, decide_eq_true_eq]
theorem eqvAll_of {α : Type} [DecidableEq α] {g : α → PyData} (h : ∀ x y, PyData.eqv (g x) (g y) = decide (x = y)) : ∀ xs ys : List α, PyData.eqvAll (xs.map g) (ys.map g) = decide (xs = ys)
  | [], [] => rfl
  | [], y :: ys => rfl
  | x :: xs, [] => rfl
  | x :: xs, y :: ys => by
    show (PyData.eqv (g x) (g y) && PyData.eqvAll (xs.map g) (ys.map g)) = _
    rw [h, eqvAll_of h xs ys, ← Bool.decide_and]
    exact decide_eq_decide.mpr (by rw [List.cons.injEq])
theorem eqv_T {α : Type} [DecidableEq α] {g : α → PyData} (h : ∀ x y, PyData.eqv (g x) (g y) = decide (x = y)) (xs ys : List α) : PyData.eqv (eT g xs) (eT g ys) = decide (xs = ys) := eqvAll_of h xs ys
theorem eqv_L {α : Type} [DecidableEq α] {g : α → PyData} (h : ∀ x y, PyData.eqv (g x) (g y) = decide (x = y)) (xs ys : List α) : PyData.eqv (eL g xs) (eL g ys) = decide (xs = ys) := eqvAll_of h xs ys
theorem eqv_set (a b : List Str) : PyData.eqv (eSet a) (eSet b) = decide (a = b) := eqv_T eqv_S a b
theorem any_of {α : Type} [DecidableEq α] {g : α → PyData} (h : ∀ x y, PyData.eqv (g x) (g y) = decide (x = y)) (xs : List α) (x : α) : ((xs.map g).any fun z => PyData.eqv z (g x)) = decide (x ∈ xs) := by
  rw [List.any_map, Bool.eq_iff_iff, List.any_eq_true, decide_eq_true_eq]
  constructor
  · rintro ⟨y, hy, e⟩
    have e2 : PyData.eqv (g y) (g x) = true := e
    rw [h, decide_eq_true_eq] at e2
    rw [← e2]
    exact hy
  · intro hx
    exact ⟨x, hx, by show PyData.eqv (g x) (g x) = true; rw [h, decide_eq_true_eq]⟩
section
variable {f : Fe} {ρ : List Sl} {K : PySem.W.Frag} {α : Type} {g : α → PyData} {O : List Addr} {H : Hp} {x y : Str} {xs ys : List Str} {L : List (List Str)} {P : Sl → Prop}
theorem DR2.cast {r : R2} {s t : Sl} {u v : Sl} (h : DR2 f r s t (· = u)) (e : u = v) : DR2 f r s t (· = v) := by
  rw [← e]
  exact h
theorem DRC.cast {r : List V → Hp → VK → Prop} {ss : List Sl} {u v : Sl} (h : DRC f r ss (· = u)) (e : u = v) : DRC f r ss (· = v) := by
  rw [← e]
  exact h
theorem DE.cast {te : TE} {u v : Sl} (h : DE f te ρ (· = u)) (e : u = v) : DE f te ρ (· = v) := by
  rw [← e]
  exact h
theorem DA.cast {ta : TA} {u v : List Sl} (h : DA f ta ρ (· = u)) (e : u = v) : DA f ta ρ (· = v) := by
  rw [← e]
  exact h
/-- x in xs, of texts -/
theorem in_ST (hx : ok x) (h : ∀ z ∈ xs, ok z) : DR2 f (rInA K false) (.dat (eS x)) (.dat (eSet xs)) (· = .dat (eB (decide (x ∈ xs)))) := (dr_inT (lay_S hx).shaped (lay_set h).shaped).cast (by rw [any_of eqv_S]; rfl)
theorem in_SL (hx : ok x) (h : ∀ z ∈ xs, ok z) : DR2 f (rInA K false) (.dat (eS x)) (.dat (eL eS xs)) (· = .dat (eB (decide (x ∈ xs)))) := (dr_inL (lay_S hx).shaped (lay_L fun z hz => lay_S (h z hz)).shaped).cast (by rw [any_of eqv_S]; rfl)
theorem ni_ST (hx : ok x) (h : ∀ z ∈ xs, ok z) : DR2 f (rInA K true) (.dat (eS x)) (.dat (eSet xs)) (· = .dat (eB (!decide (x ∈ xs)))) := (dr_inT (lay_S hx).shaped (lay_set h).shaped).cast (by rw [any_of eqv_S]; rfl)
theorem ni_SL (hx : ok x) (h : ∀ z ∈ xs, ok z) : DR2 f (rInA K true) (.dat (eS x)) (.dat (eL eS xs)) (· = .dat (eB (!decide (x ∈ xs)))) := (dr_inL (lay_S hx).shaped (lay_L fun z hz => lay_S (h z hz)).shaped).cast (by rw [any_of eqv_S]; rfl)
theorem in_setT {a : List Str} (hx : ∀ z ∈ a, ok z) (h : ∀ b ∈ L, ∀ z ∈ b, ok z) : DR2 f (rInA K false) (.dat (eSet a)) (.dat (eSets L)) (· = .dat (eB (decide (a ∈ L)))) := (dr_inT (lay_set hx).shaped (lay_sets h).shaped).cast (by rw [any_of eqv_set]; exact congrArg (fun b => Sl.dat (eB b)) (by simp))
theorem in_IL {i : Int} {is : List Int} : DR2 f (rInA K false) (.dat (eI i)) (.dat (eL eI is)) (· = .dat (eB (decide (i ∈ is)))) := (dr_inL lay_I.shaped (lay_L fun z hz => lay_I).shaped).cast (by rw [any_of eqv_I]; rfl)
theorem eq_S (hx : ok x) (hy : ok y) : DR2 f (rEqD K) (.dat (eS x)) (.dat (eS y)) (· = .dat (eB (decide (x = y)))) := (dr_eq (lay_S hx).shaped (lay_S hy).shaped).cast (by rw [eqv_S])
theorem ne_S (hx : ok x) (hy : ok y) : DR2 f (rNeD K) (.dat (eS x)) (.dat (eS y)) (· = .dat (eB (!decide (x = y)))) := (dr_ne (lay_S hx).shaped (lay_S hy).shaped).cast (by rw [eqv_S])
theorem eq_I {i j : Int} : DR2 f (rEqD K) (.dat (eI i)) (.dat (eI j)) (· = .dat (eB (decide (i = j)))) := (dr_eq lay_I.shaped lay_I.shaped).cast (by rw [eqv_I])
theorem ne_I {i j : Int} : DR2 f (rNeD K) (.dat (eI i)) (.dat (eI j)) (· = .dat (eB (!decide (i = j)))) := (dr_ne lay_I.shaped lay_I.shaped).cast (by rw [eqv_I])
theorem eq_set (hx : ∀ z ∈ xs, ok z) (hy : ∀ z ∈ ys, ok z) : DR2 f (rEqD K) (.dat (eSet xs)) (.dat (eSet ys)) (· = .dat (eB (decide (xs = ys)))) := (dr_eq (lay_set hx).shaped (lay_set hy).shaped).cast (by rw [eqv_set])
theorem ne_set (hx : ∀ z ∈ xs, ok z) (hy : ∀ z ∈ ys, ok z) : DR2 f (rNeD K) (.dat (eSet xs)) (.dat (eSet ys)) (· = .dat (eB (!decide (xs = ys)))) := (dr_ne (lay_set hx).shaped (lay_set hy).shaped).cast (by rw [eqv_set])
/-- == [], != [], == () -/
theorem eqv_nilL (ds : List PyData) : PyData.eqv (.list ds) (.list []) = ds.isEmpty := by cases ds <;> rfl
theorem eqv_nilT (ds : List PyData) : PyData.eqv (.tuple ds) (.tuple []) = ds.isEmpty := by cases ds <;> rfl
theorem eq_nilL {n : Nat} {ds : List PyData} (h : Lay n (.list ds)) (hn : n ≤ 64 := by decide) : DR2 f (rEqD K) (.dat (.list ds)) (.dat (.list [])) (· = .dat (eB ds.isEmpty)) := (dr_eq (h.shaped hn) rfl).cast (by rw [eqv_nilL])
theorem ne_nilL {n : Nat} {ds : List PyData} (h : Lay n (.list ds)) (hn : n ≤ 64 := by decide) : DR2 f (rNeD K) (.dat (.list ds)) (.dat (.list [])) (· = .dat (eB (!ds.isEmpty))) := (dr_ne (h.shaped hn) rfl).cast (by rw [eqv_nilL])
theorem eq_nilT {n : Nat} {ds : List PyData} (h : Lay n (.tuple ds)) (hn : n ≤ 64 := by decide) : DR2 f (rEqD K) (.dat (.tuple ds)) (.dat (.tuple [])) (· = .dat (eB ds.isEmpty)) := (dr_eq (h.shaped hn) rfl).cast (by rw [eqv_nilT])
/-- built-ins over encoded lists -/
theorem len_L {zs : List α} : DRC f (rLenX K) [.dat (eL g zs)] (· = .dat (eI zs.length)) := rc_lenL.cast (by rw [List.length_map])
theorem len_T {zs : List α} : DRC f (rLenX K) [.dat (eT g zs)] (· = .dat (eI zs.length)) := rc_lenT.cast (by rw [List.length_map])
theorem all_L {zs : List α} {p : α → Bool} : DRC f (rAll K) [.dat (eL (fun z => eB (p z)) zs)] (· = .dat (eB (zs.all p))) := by
  have h := rc_all (f := f) (K := K) (bs := zs.map p)
  rw [List.map_map, List.all_map] at h
  exact h
theorem any_L {zs : List α} {p : α → Bool} : DRC f (rAny K) [.dat (eL (fun z => eB (p z)) zs)] (· = .dat (eB (zs.any p))) := by
  have h := rc_any (f := f) (K := K) (bs := zs.map p)
  rw [List.map_map, List.any_map] at h
  exact h
theorem isM_map {zs : List α} (h : ∀ z, noM (g z) = true) : isM (zs.map g) = false := isM_of fun d hd => by
  obtain ⟨z, _, rfl⟩ := List.mem_map.mp hd
  exact h z
theorem noM_set (a : List Str) : noM (eSet a) = true := by cases a <;> rfl
theorem noM_ints (a : List Int) : noM (eT eI a) = true := by cases a <;> rfl
theorem noM_sets (L : List (List Str)) : noM (eSets L) = true := by
  cases L with
  | nil => rfl
  | cons a L => cases a <;> rfl
theorem tup_L {zs : List α} (nm : ∀ z, noM (g z) = true := by first | (intro _; rfl) | exact noM_set | exact noM_sets | exact noM_ints) : DRC f (rTupX K) [.dat (eL g zs)] (· = .dat (eT g zs)) := rc_tupL (isM_map nm)
theorem lst_T {zs : List α} : DRC f (rLstX K) [.dat (eT g zs)] (· = .dat (eL g zs)) := rc_lstT
theorem ix_T {zs : List α} {i : Nat} {z : α} (h : zs[i]? = some z) : DR2 f (rIx K) (.dat (eT g zs)) (.dat (.int (i : Int))) (· = .dat (g z)) := dr_ixT (by rw [List.getElem?_map, h]; rfl)
theorem ix_L {zs : List α} {i : Nat} {z : α} (h : zs[i]? = some z) : DR2 f (rIx K) (.dat (eL g zs)) (.dat (.int (i : Int))) (· = .dat (g z)) := dr_ixL (by rw [List.getElem?_map, h]; rfl)
/-- comprehensions of encoded things: filter, map -/
theorem lc_fm {wi : TI} {gt : TG} {tt : TT} {te : TE} {vs : List Nat} {enc : α → Sl} {zs : List α} {ρ' : α → List Sl} {p : α → Bool} {q : α → PyData} (hi : DI f wi ρ (zs.map enc)) (hz : zs.length ≤ 100000) (hg : ∀ z ∈ zs, DG f gt vs (enc z) (wipeS ρ vs) (ρ' z))
    (ht : ∀ z ∈ zs, DT f tt (ρ' z) (· = p z)) (he : ∀ z ∈ zs, p z = true → DE f te (ρ' z) (· = .dat (q z))) : DE f (tLc wi gt tt te vs) ρ (· = .dat (eL q (zs.filter p))) := dv_lc hi hz hg ht he
theorem lc_m {wi : TI} {gt : TG} {te : TE} {vs : List Nat} {enc : α → Sl} {zs : List α} {ρ' : α → List Sl} {q : α → PyData} (hi : DI f wi ρ (zs.map enc)) (hz : zs.length ≤ 100000) (hg : ∀ z ∈ zs, DG f gt vs (enc z) (wipeS ρ vs) (ρ' z))
    (he : ∀ z ∈ zs, DE f te (ρ' z) (· = .dat (q z))) : DE f (tLc wi gt tYes te vs) ρ (· = .dat (eL q zs)) := dv_lc0 hi hz hg he
end
end K60

set_option maxHeartbeats 4000000
/-! K60, the data layer: expressions that ask one's own objects; one's own dicts. -/
namespace K60
open PySem PySem.Spec PyProof.Rows L2
theorem RpT.mem {H : Hp} : ∀ {vs : List (Key × V)} {kvs : List (Key × PyData)} {k : Key}, RpT H vs kvs → ((valV vs k).isSome = true ↔ k ∈ kvs.map (·.1))
  | _, _, _, .nil => by simp [valV]
  | _, _, k, .cons (k := k0) r t => by
    by_cases e : k0 = k
    · subst e
      simp [valV]
    · have ih := RpT.mem (k := k) t
      rw [valV_neg (p := (k0, _)) e, ih]
      simp [Ne.symm e]
theorem RpT.len {H : Hp} : ∀ {vs : List (Key × V)} {kvs : List (Key × PyData)}, RpT H vs kvs → vs.length = kvs.length
  | _, _, .nil => rfl
  | _, _, .cons _ t => congrArg Nat.succ (RpT.len t)
theorem RpT.get {H : Hp} : ∀ {vs : List (Key × V)} {kvs : List (Key × PyData)} {k : Key}, RpT H vs kvs → k ∈ kvs.map (·.1) → ∃ v d, valV vs k = some v ∧ (k, d) ∈ kvs ∧ Rp H v d
  | _, _, _, .nil, h => by simp at h
  | _, (_, _) :: kvs, k, .cons (k := k0) (v := v0) (d := d0) r t, h => by
    by_cases e : k0 = k
    · subst e
      exact ⟨v0, d0, by simp [valV], List.mem_cons_self .., r⟩
    · have hk : k ∈ kvs.map (·.1) := by
        rcases List.mem_cons.mp h with z | z
        · exact absurd z.symm e
        · exact z
      obtain ⟨v, d, h1, h2, h3⟩ := RpT.get (k := k) t hk
      exact ⟨v, d, by rw [valV_neg (p := (k0, v0)) e]; exact h1, List.mem_cons_of_mem _ h2, h3⟩
theorem dgetI {H : Hp} {a : Addr} {vs : List (Key × V)} {k : Int} (e : H a = some (.dK vs)) : DGet H a (.int k) (valV vs (Sum.inl k)) := DGet.k (k := Sum.inl k) e
theorem dputI {H : Hp} {a : Addr} {vs : List (Key × V)} {k : Int} {v : V} (e : H a = some (.dK vs)) (hl : vs.length < sizeLine) : DPut H a (.int k) v (upd H a (.dK (putK vs (Sum.inl k) v))) := DPut.k (k := Sum.inl k) e hl
abbrev iK (k : Int) : Key := Sum.inl k
theorem RpT.put {H : Hp} {v : V} {d : PyData} {k : Key} (rv : Rp H v d) : ∀ {vs : List (Key × V)} {kvs : List (Key × PyData)}, RpT H vs kvs → k ∉ kvs.map (·.1) → RpT H (putK vs k v) (kvs ++ [(k, d)]) := fun {vs kvs} t n => by
  have no : (vs.any fun kv => decide (kv.1 = k)) = false := by
    clear rv
    induction t with
    | nil => rfl
    | cons r t ih =>
      rw [List.any_cons, ih (fun m => n (List.mem_cons_of_mem _ m)), Bool.or_false, decide_eq_false_iff_not]
      exact fun e => n (by rw [← e]; exact List.mem_cons_self ..)
  have e : putK vs k v = vs ++ [(k, v)] := by
    unfold putK
    rw [no]
    rfl
  rw [e]
  clear no e n
  induction t with
  | nil => exact .cons rv .nil
  | cons r t ih => exact .cons r ih
section
variable {f : Fe} {O0 : List Addr} {H0 : Hp} {t u v : TS} {te ta tb : TE} {tt : TT} {tA : TA} {S S' : Pt} {N M : Pt → Prop} {R : Sl → Prop} {P : Sl → Prop} {B : Bool → Prop} {σ : L2.St} {H H' : Hp} {K : PySem.W.Frag} {p : Addr} {ds : List PyData} {kvs : List (Key × PyData)}
/-- an expression at a point -/
def DEo (f : Fe) (O0 : List Addr) (H0 : Hp) (S : Pt) (te : TE) (P : Sl → Prop) : Prop := ∀ (σ : L2.St) (H : Hp), Okp f O0 H0 S σ H → ∀ Q : VK, (∀ v H' s, Ext f H H' → P s → VR S.O H' v s → Q v H') → te σ H Q
def DTo (f : Fe) (O0 : List Addr) (H0 : Hp) (S : Pt) (tt : TT) (B : Bool → Prop) : Prop := ∀ (σ : L2.St) (H : Hp), Okp f O0 H0 S σ H → ∀ Q : Bool → Hp → Prop, (∀ b H', Ext f H H' → B b → Q b H') → tt σ H Q
theorem DE.o (h : DE f te S.ρ P) : DEo f O0 H0 S te P := fun σ H o => h S.O σ H o.wd o.env
theorem Okp.get {b : Ob} (o : Okp f O0 H0 S σ H) (h : (p, b) ∈ S.ω) : p ≠ f.1 ∧ ObAt H S.O p b := ⟨(o.own _ h).n1, (o.own _ h).at_⟩
/-- a slot that has an own object -/
theorem deo_len {i : Nat} (hi : S.ρ[i]? = some (.raw (.ref p))) (hp : (p, .lst ds) ∈ S.ω) : DEo f O0 H0 S (tCB (rLenX K) (tCons (tVar i) tNil)) (· = .dat (.int ds.length)) := fun σ H o Q q => by
  obtain ⟨x, hx, r⟩ := o.env.get hi
  have ex : x = some (.ref p) := r
  subst ex
  obtain ⟨_, vs, hv, rl⟩ := o.get hp
  exact ⟨.ref p, hx, .ref p, vs.length, rfl, .inl ⟨vs, .inl (.inl hv), rfl⟩, q _ H _ o.wd.refl rfl (by rw [rl.len]; exact Rp.int _)⟩
theorem deo_ix {i k : Nat} {d : PyData} (hi : S.ρ[i]? = some (.raw (.ref p))) (hp : (p, .lst ds) ∈ S.ω) (h : DE f tb S.ρ (· = .dat (.int (k : Int)))) (hd : ds[k]? = some d) : DEo f O0 H0 S (tOp (rIx K) (tVar i) tb) (· = .dat d) := fun σ H o Q q => by
  obtain ⟨x, hx, r⟩ := o.env.get hi
  have ex : x = some (.ref p) := r
  subst ex
  obtain ⟨n1, vs, hv, rl⟩ := o.get hp
  refine ⟨.ref p, hx, h S.O σ H o.wd o.env _ fun y H1 s x1 p1 r1 => ?_⟩
  subst p1
  obtain ⟨v, h1, h2⟩ := (rl.mono (x1.hid o.wd.fO)).get hd
  exact .inl ⟨p, vs, (k : Int), v, rfl, Rp.int_inv r1, .inl (.inl (x1.keep _ _ n1 hv)), atI_of h1, q _ H1 _ x1 rfl h2⟩
theorem dto_test {b : Bool} (h : DEo f O0 H0 S te (· = .dat (.bool b))) : DTo f O0 H0 S (tTest te) (· = b) := fun σ H o Q q => h σ H o _ fun v H1 s x p r => by
  subst p
  exact ⟨b, Rp.bool_inv r, q b H1 x rfl⟩
theorem deo_op {r : R2} {s t : Sl} (ha : DE f ta S.ρ (· = s)) (hb : DEo f O0 H0 S tb (· = t)) (hr : DR2 f r s t P) : DEo f O0 H0 S (tOp r ta tb) P := fun σ H o Q q => ha S.O σ H o.wd o.env _ fun v H1 s1 x1 p1 r1 => by
  subst p1
  refine hb σ H1 (o.on x1) _ fun u H2 s2 x2 p2 r2 => ?_
  subst p2
  exact hr S.O H2 v u ((o.on x1).on x2).wd (r1.mono (x2.hid o.wd.fO)) r2 Q fun y H3 z x3 p3 r3 => q y H3 z ((x1.trans x2).trans x3) p3 r3
theorem db_setO {i : Nat} (h : DEo f O0 H0 S te P) (k : ∀ s, P s → N ⟨S.O, S.ω, S.ρ.set i s⟩) : DB f O0 H0 (tAsg te (gName i)) S N R := fun σ H D o nx rt => h σ H o _ fun w H' s x p r => nx _ _ H' (k s p) ((o.on x).put r) (Tr.of x o.wd.fO)
theorem qb_setO {i : Nat} {s : Sl} (h : DEo f O0 H0 S te (· = s)) (k : DB f O0 H0 u ⟨S.O, S.ω, S.ρ.set i s⟩ N R) : DB f O0 H0 (tSeq (tAsg te (gName i)) u) S N R := db_seq (M := (· = ⟨S.O, S.ω, S.ρ.set i s⟩)) (db_setO h fun s' e => by subst e; rfl) fun S' m => by
  subst m
  exact k
theorem db_ifO (h : DTo f O0 H0 S tt B) (h1 : B true → DB f O0 H0 t S N R) (h2 : B false → DB f O0 H0 u S N R) : DB f O0 H0 (tIfS tt t u) S N R := fun σ H D o nx rt => h σ H o _ fun b H' x p => by
  cases b with
  | true => exact (h1 p).at_ o x nx rt
  | false => exact (h2 p).at_ o x nx rt
theorem db_whileO {c : TT} (I : Nat → Pt → Prop) {n : Nat} (h0 : I n S)
    (hs : ∀ m S', I m S' → ∃ b, DTo f O0 H0 S' c (· = b) ∧ (b = true → ∃ m', m' < m ∧ DB f O0 H0 t S' (I m') R) ∧ (b = false → N S')) : DB f O0 H0 (tWhile c t) S N R := fun σ H D o nx rt => by
  refine ⟨fun m σ' H' => ∃ S', I m S' ∧ Okp f O0 H0 S' σ' H' ∧ Tr S.O H S'.O H', ⟨n, S, h0, o, Tr.of o.wd.refl o.wd.fO⟩, ?_⟩
  rintro m σ' H' ⟨S', is, o', tr⟩
  obtain ⟨b, ht, h1, h2⟩ := hs m S' is
  refine ht σ' H' o' _ fun b' H2 x e => ?_
  subst e
  cases b' with
  | true =>
    obtain ⟨m', lt, hb⟩ := h1 rfl
    rw [if_pos rfl]
    refine ⟨fun σ3 H3 => ∃ m', m' < m ∧ ∃ S', I m' S' ∧ Okp f O0 H0 S' σ3 H3 ∧ Tr S.O H S'.O H3, fun _ _ h => h, ?_⟩
    exact hb.at_ o' x (fun S2 σ2 H3 i2 o2 tr2 => ⟨m', lt, S2, i2, o2, tr.trans tr2⟩) rt
  | false =>
    rw [if_neg Bool.false_ne_true]
    exact nx S' σ' H2 (h2 rfl) (o'.on x) (tr.trans (Tr.of x o'.wd.fO))
/-- y not in d -/
theorem dto_notin {i j : Nat} {k : Int} {b : Bool} (hi : S.ρ[i]? = some (.raw (.ref p))) (hp : (p, .dic kvs) ∈ S.ω) (hj : S.ρ[j]? = some (.dat (.int k))) (hb : b = true ↔ iK k ∉ kvs.map (·.1)) : DTo f O0 H0 S (tB (tDNotIn (tVar j) (tVar i))) (· = b) := fun σ H o Q q => by
  obtain ⟨x, hx, r⟩ := o.env.get hi
  have ex : x = some (.ref p) := r
  subst ex
  obtain ⟨y, hy, vy, rfl, ry⟩ := o.env.get hj
  have ey := Rp.int_inv ry
  subst ey
  obtain ⟨n1, vs, hv, rl⟩ := o.get hp
  refine ⟨.int k, hy, .ref p, hx, p, valV vs (Sum.inl k), rfl, dgetI hv, _, rfl, q _ H o.wd.refl ?_⟩
  have z := rl.mem (k := iK k)
  show (!(valV vs (Sum.inl k)).isSome) = b
  rw [Bool.eq_iff_iff, hb, ← z]
  simp
/-- d[y] -/
theorem deo_dget {i j : Nat} {k : Int} (hi : S.ρ[i]? = some (.raw (.ref p))) (hp : (p, .dic kvs) ∈ S.ω) (hj : S.ρ[j]? = some (.dat (.int k))) (hk : iK k ∈ kvs.map (·.1)) : DEo f O0 H0 S (tDGet (tVar i) (tVar j)) (fun s => ∃ d, s = .dat d ∧ (Sum.inl k, d) ∈ kvs) := fun σ H o Q q => by
  obtain ⟨x, hx, r⟩ := o.env.get hi
  have ex : x = some (.ref p) := r
  subst ex
  obtain ⟨y, hy, vy, rfl, ry⟩ := o.env.get hj
  have ey := Rp.int_inv ry
  subst ey
  obtain ⟨n1, vs, hv, rl⟩ := o.get hp
  obtain ⟨v, d, e1, e2, e3⟩ := rl.get hk
  exact ⟨.ref p, hx, .int k, hy, p, v, rfl, by rw [← e1]; exact dgetI hv, q v H _ o.wd.refl ⟨d, rfl, e2⟩ e3⟩
/-- (*e, x) -/
theorem deo_star {j : Nat} {d : PyData} (h : DEo f O0 H0 S te fun s => ∃ ds, s = .dat (.tuple ds) ∧ ds.length ≤ 2) (hj : S.ρ[j]? = some (.dat d)) : DEo f O0 H0 S (tTup (StX.tStar K te (tCons (tVar j) tNil))) (fun s => ∃ ds, s = .dat (.tuple ds) ∧ ∃ ds', ds = ds' ++ [d] ∧ ds'.length ≤ 2) := fun σ H o Q q => h σ H o _ fun v H1 s x1 p1 r1 => by
  obtain ⟨ds, rfl, l⟩ := p1
  have o1 := o.on x1
  obtain ⟨a, xs, rfl, ha, rl⟩ := Rp.tup_inv r1
  obtain ⟨y, hy, vy, rfl, ry⟩ := o1.env.get hj
  have ln := rl.len
  refine ⟨a, xs, rfl, .inl (.inl (rd_get ha).1), vy, hy, ?_, fun b hb => ?_⟩
  · show (xs ++ [vy]).length ≤ _
    rw [List.length_append, List.length_singleton]
    exact Nat.le_trans (by omega : xs.length + 1 ≤ 10000) (by decide)
  · have x2 := o1.wd.new (o := .tup (xs ++ [vy])) hb
    exact q _ _ _ (x1.trans x2) ⟨ds ++ [d], rfl, ds, rfl, l⟩ (.mkT (o1.wd.hnew hb) ((rl.app (.cons ry .nil)).mono (x2.hid o.wd.fO)) (isM_len (by rw [List.length_append, List.length_singleton]; omega)))
/-- a new own object -/
theorem Okp.born {o' : HO} {b : Ob} {i : Nat} (o : Okp f O0 H0 S σ H) (hp : H p = none) (ha : ObAt (upd H p o') (p :: S.O) p b) : Okp f O0 H0 ⟨p :: S.O, (p, b) :: S.ω, S.ρ.set i (.raw (.ref p))⟩ (σ.set i (some (.ref p))) (upd H p o') ∧ Tr S.O H (p :: S.O) (upd H p o') ∧ p ∉ S.O := by
  have x := o.wd.new (o := o') hp
  have nO := o.wd.fresh hp
  have n1 : p ≠ f.1 := fun z => o.wd.feed.there (by rw [← z]; exact hp)
  have n2 : p ≠ f.2 := fun z => o.wd.feed.cells (by rw [← z]; exact hp)
  have sb : Sub (hid H S.O) (hid (upd H p o') (p :: S.O)) := fun a q h => by
    obtain ⟨h1, h2⟩ := hid_get h
    have na : a ≠ p := ne_of_none h1 hp
    refine hid_of (by rw [upd_ne na]; exact h1) fun m => ?_
    rcases List.mem_cons.mp m with z | z
    · exact na z
    · exact h2 z
  have nw : H0 p = none := by
    cases h : H0 p with
    | none => rfl
    | some o1 =>
      rw [o.ext.keep p o1 n1 h] at hp
      cases hp
  refine ⟨⟨⟨x.feed, List.mem_cons_of_mem _ o.wd.fO, fun q hq => ?_⟩, o.ext.trans x, fun q hq => ?_, ?_, (o.env.mono sb).set i rfl, fun q hq => List.mem_cons_of_mem _ (o.outer q hq)⟩, ⟨fun a q hn h => x.keep a q (fun z => hn (by rw [z]; exact o.wd.fO)) h, fun q hq hn => ?_⟩, nO⟩
  · rcases List.mem_cons.mp hq with z | z
    · rw [z, upd_same]
      exact fun z => nomatch z
    · exact (o.wd.ext x).tr q z
  · rcases List.mem_cons.mp hq with z | z
    · subst z
      exact ⟨List.mem_cons_self .., n1, n2, nw, ha⟩
    · obtain ⟨m, n1, n2, nw, h⟩ := o.own q z
      exact ⟨List.mem_cons_of_mem _ m, n1, n2, nw, h.mono (fun u e => x.keep _ u n1 e) sb⟩
  · refine List.nodup_cons.mpr ⟨fun m => ?_, o.apart⟩
    obtain ⟨q, hq, e⟩ := List.mem_map.mp m
    have h1 := (o.own q hq).mem
    rw [show q.1 = p from e] at h1
    exact nO h1
  · rcases List.mem_cons.mp hq with z | z
    · rw [z]
      exact hp
    · exact absurd z hn
/-- x = [e] -/
theorem qb_ownL {i : Nat} {d : PyData} (h : DE f te S.ρ (· = .dat d)) (k : ∀ p, p ∉ S.O → DB f O0 H0 u ⟨p :: S.O, (p, .lst [d]) :: S.ω, S.ρ.set i (.raw (.ref p))⟩ N R) : DB f O0 H0 (tSeq (tAsg (tLst (tCons te tNil)) (gName i)) u) S N R := fun σ H D o nx rt => h S.O σ H o.wd o.env _ fun w H1 s x1 p1 r1 => by
  subst p1
  have o1 := o.on x1
  refine ⟨(by decide : 1 ≤ sizeLine), fun p hp => ?_⟩
  have x2 := o1.wd.new (o := .lst [w]) hp
  have nO := o1.wd.fresh hp
  have sb : Sub (hid H1 S.O) (hid (upd H1 p (.lst [w])) (p :: S.O)) := fun a q h => by
    obtain ⟨h1, h2⟩ := hid_get h
    have na : a ≠ p := ne_of_none h1 hp
    refine hid_of (by rw [upd_ne na]; exact h1) fun m => ?_
    rcases List.mem_cons.mp m with z | z
    · exact na z
    · exact h2 z
  obtain ⟨o2, tr, _⟩ := o1.born (i := i) (o' := .lst [w]) (b := .lst [d]) hp ⟨[w], upd_same, .cons (Rp.mono sb r1) .nil⟩
  exact k p nO _ _ D o2 (fun S' σ' H' n o' tr' => nx S' σ' H' n o' (((Tr.of x1 o.wd.fO).trans tr).trans tr')) rt
/-- x = {k: ()} -/
theorem qb_ownD {i j : Nat} {k : Int} (hj : S.ρ[j]? = some (.dat (.int k))) (kk : ∀ p, p ∉ S.O → DB f O0 H0 u ⟨p :: S.O, (p, .dic [(Sum.inl k, .tuple [])]) :: S.ω, S.ρ.set i (.raw (.ref p))⟩ N R) : DB f O0 H0 (tSeq (tAsg (tDisp [(tVar j, tTup tNil)]) (gName i)) u) S N R := fun σ H D o nx rt => fun p hp => by
  obtain ⟨y, hy, vy, rfl, ry⟩ := o.env.get hj
  have ey := Rp.int_inv ry
  subst ey
  refine ⟨.int k, hy, Nat.zero_le _, fun a ha => ⟨?_, [(Sum.inl k, .ref a)], rfl, Nat.le_of_ble_eq_true rfl, ?_⟩⟩
  · show upd (upd H p (.dK [])) a (.tup []) p = some (.dK [])
    have na : p ≠ a := fun z => by
      rw [z, upd_same] at ha
      cases ha
    rw [upd_ne na]
    exact upd_same
  · have na : a ≠ p := fun z => by
      rw [z, upd_same] at ha
      cases ha
    have ha0 : H a = none := by
      rw [upd_ne na] at ha
      exact ha
    -- as if the tuple had come first
    have eq : upd (upd (upd H p (.dK [])) a (.tup [])) p (.dK (mergeK [] [(Sum.inl k, .ref a)])) = upd (upd H a (.tup [])) p (.dK [(Sum.inl k, .ref a)]) := by
      funext b
      unfold upd
      by_cases e : b = p
      · simp [e]
        rfl
      · simp [e]
    rw [eq]
    have x1 := o.wd.new (o := .tup []) ha0
    have o1 := o.on x1
    have hp1 : upd H a (.tup []) p = none := by
      rw [upd_ne (Ne.symm na)]
      exact hp
    have sb : hid (upd (upd H a (.tup [])) p (.dK [(Sum.inl k, .ref a)])) (p :: S.O) a = some (.tup []) := hid_of (by rw [upd_ne na]; exact upd_same) fun m => by
      rcases List.mem_cons.mp m with z | z
      · exact na z
      · exact o.wd.fresh ha0 z
    obtain ⟨o2, tr, nO⟩ := o1.born (i := i) (o' := .dK [(Sum.inl k, .ref a)]) (b := .dic [(Sum.inl k, .tuple [])]) hp1 ⟨_, upd_same, .cons (.mkT sb .nil rfl) .nil⟩
    exact kk p nO _ _ D o2 (fun S' σ' H' n o' tr' => nx S' σ' H' n o' (((Tr.of x1 o.wd.fO).trans tr).trans tr')) rt
/-- x = [e], by hand -/
theorem raw_ownL {i : Nat} {d : PyData} {D : Ends} (h : DE f te S.ρ (· = .dat d)) (o : Okp f O0 H0 S σ H) (k : ∀ p σ' H', p ∉ S.O → Okp f O0 H0 ⟨p :: S.O, (p, .lst [d]) :: S.ω, S.ρ.set i (.raw (.ref p))⟩ σ' H' → u D σ' H') : tSeq (tAsg (tLst (tCons te tNil)) (gName i)) u D σ H := h S.O σ H o.wd o.env _ fun w H1 s x1 p1 r1 => by
  subst p1
  have o1 := o.on x1
  refine ⟨(by decide : 1 ≤ sizeLine), fun p hp => ?_⟩
  have x2 := o1.wd.new (o := .lst [w]) hp
  have nO := o1.wd.fresh hp
  have sb : Sub (hid H1 S.O) (hid (upd H1 p (.lst [w])) (p :: S.O)) := fun a q h => by
    obtain ⟨h1, h2⟩ := hid_get h
    have na : a ≠ p := ne_of_none h1 hp
    refine hid_of (by rw [upd_ne na]; exact h1) fun m => ?_
    rcases List.mem_cons.mp m with z | z
    · exact na z
    · exact h2 z
  obtain ⟨o2, tr, _⟩ := o1.born (i := i) (o' := .lst [w]) (b := .lst [d]) hp ⟨[w], upd_same, .cons (Rp.mono sb r1) .nil⟩
  exact k p _ _ nO o2
/-- x = {k: ()}, by hand -/
theorem raw_ownD {i j : Nat} {k : Int} {D : Ends} (hj : S.ρ[j]? = some (.dat (.int k))) (o : Okp f O0 H0 S σ H) (kk : ∀ p σ' H', p ∉ S.O → Okp f O0 H0 ⟨p :: S.O, (p, .dic [(iK k, .tuple [])]) :: S.ω, S.ρ.set i (.raw (.ref p))⟩ σ' H' → u D σ' H') : tSeq (tAsg (tDisp [(tVar j, tTup tNil)]) (gName i)) u D σ H := fun p hp => by
  obtain ⟨y, hy, vy, rfl, ry⟩ := o.env.get hj
  have ey := Rp.int_inv ry
  subst ey
  refine ⟨.int k, hy, Nat.zero_le _, fun a ha => ⟨?_, [(Sum.inl k, .ref a)], rfl, Nat.le_of_ble_eq_true rfl, ?_⟩⟩
  · show upd (upd H p (.dK [])) a (.tup []) p = some (.dK [])
    have na : p ≠ a := fun z => by
      rw [z, upd_same] at ha
      cases ha
    rw [upd_ne na]
    exact upd_same
  · have na : a ≠ p := fun z => by
      rw [z, upd_same] at ha
      cases ha
    have ha0 : H a = none := by
      rw [upd_ne na] at ha
      exact ha
    -- as if the tuple had come first
    have eq : upd (upd (upd H p (.dK [])) a (.tup [])) p (.dK (mergeK [] [(Sum.inl k, .ref a)])) = upd (upd H a (.tup [])) p (.dK [(Sum.inl k, .ref a)]) := by
      funext b
      unfold upd
      by_cases e : b = p
      · simp [e]
        rfl
      · simp [e]
    rw [eq]
    have x1 := o.wd.new (o := .tup []) ha0
    have o1 := o.on x1
    have hp1 : upd H a (.tup []) p = none := by
      rw [upd_ne (Ne.symm na)]
      exact hp
    have sb : hid (upd (upd H a (.tup [])) p (.dK [(Sum.inl k, .ref a)])) (p :: S.O) a = some (.tup []) := hid_of (by rw [upd_ne na]; exact upd_same) fun m => by
      rcases List.mem_cons.mp m with z | z
      · exact na z
      · exact o.wd.fresh ha0 z
    obtain ⟨o2, tr, nO⟩ := o1.born (i := i) (o' := .dK [(Sum.inl k, .ref a)]) (b := .dic [(Sum.inl k, .tuple [])]) hp1 ⟨_, upd_same, .cons (.mkT sb .nil rfl) .nil⟩
    exact kk p _ _ nO o2
/-- d[k] = e, d one's own, k not there -/
theorem db_dput {i j : Nat} {k : Int} {ω1 ω2 : List (Addr × Ob)} {Pd : PyData → Prop} (hi : S.ρ[i]? = some (.raw (.ref p))) (hω : S.ω = ω1 ++ (p, .dic kvs) :: ω2) (hj : S.ρ[j]? = some (.dat (.int k))) (hk : iK k ∉ kvs.map (·.1)) (hz : kvs.length ≤ 1000) (h : DEo f O0 H0 S te fun s => ∃ d, s = .dat d ∧ Pd d)
    (kn : ∀ d, Pd d → N ⟨S.O, ω1 ++ (p, .dic (kvs ++ [(Sum.inl k, d)])) :: ω2, S.ρ⟩) : DB f O0 H0 (sDPut (tVar i) (tVar j) te) S N R := fun σ H D o nx rt => h σ H o _ fun w H1 s x1 p1 r1 => by
  obtain ⟨d, rfl, pd⟩ := p1
  have o1 := o.on x1
  obtain ⟨x, hx, r⟩ := o1.env.get hi
  have ex : x = some (.ref p) := r
  subst ex
  obtain ⟨y, hy, vy, rfl, ry⟩ := o1.env.get hj
  have ey := Rp.int_inv ry
  subst ey
  have hm : (p, Ob.dic kvs) ∈ S.ω := by
    rw [hω]
    exact List.mem_append_right _ (List.mem_cons_self ..)
  obtain ⟨m, n1, n2, nw, vs, hv, rl⟩ := o1.own _ hm
  have hl : vs.length ≤ 1000 := by
    rw [rl.len]
    exact hz
  have hh : hid (upd H1 p (.dK (putK vs (Sum.inl k) w))) S.O = hid H1 S.O := hid_upd m
  refine ⟨.ref p, hx, .int k, hy, p, _, rfl, dputI hv (Nat.lt_of_le_of_lt hl (by decide)), nx _ σ _ (kn d pd) ⟨⟨o1.wd.feed.put n1 n2, o1.wd.fO, fun q hq => ?_⟩, ⟨fun a u n e => ?_, o1.wd.feed.put n1 n2⟩, fun q hq => ?_, ?_, ?_, o1.outer⟩ ⟨fun a u n e => ?_, fun q a b => absurd a b⟩⟩
  · by_cases z : q = p
    · rw [z, upd_same]
      exact fun z => nomatch z
    · rw [upd_ne z]
      exact o1.wd.tr q hq
  · rw [upd_ne (fun z => by rw [z, nw] at e; cases e)]
    exact o1.ext.keep a u n e
  · have cs : q = (p, Ob.dic (kvs ++ [(Sum.inl k, d)])) ∨ (q ∈ S.ω ∧ q.1 ≠ p) := by
      have ap := o.apart
      rw [hω, List.map_append, List.map_cons] at ap
      obtain ⟨a1, a2, a3⟩ := List.nodup_append.mp ap
      have nn := (List.nodup_cons.mp a2).1
      rcases List.mem_append.mp hq with z | z
      · exact .inr ⟨by rw [hω]; exact List.mem_append_left _ z, a3 _ (List.mem_map.mpr ⟨q, z, rfl⟩) p (List.mem_cons_self ..)⟩
      · rcases List.mem_cons.mp z with z | z
        · exact .inl z
        · exact .inr ⟨by rw [hω]; exact List.mem_append_right _ (List.mem_cons_of_mem _ z), fun e => nn (List.mem_map.mpr ⟨q, z, e⟩)⟩
    rcases cs with z | ⟨z, np⟩
    · subst z
      exact ⟨m, n1, n2, nw, putK vs (Sum.inl k) w, upd_same, by rw [hh]; exact RpT.put r1 rl hk⟩
    · obtain ⟨m', n1', n2', nw', at'⟩ := o1.own q z
      exact ⟨m', n1', n2', nw', at'.mono (fun u e => by rw [upd_ne np]; exact e) (by rw [hh]; exact Sub.refl _)⟩
  · have ap := o.apart
    rw [hω, List.map_append, List.map_cons] at ap
    rw [List.map_append, List.map_cons]
    exact ap
  · exact EnvR.mono (by rw [hh]; exact Sub.refl _) o1.env
  · rw [upd_ne (fun z => n (by rw [z]; exact m))]
    exact x1.o o.wd.fO a u n e
/-- one statement of a body, by hand -/
theorem raw_seq {D : Ends} (h : DB f O0 H0 t S M fun _ => False) (o : Okp f O0 H0 S σ H) (k : ∀ S' σ' H', M S' → Okp f O0 H0 S' σ' H' → u D σ' H') : tSeq t u D σ H := h σ H _ o (fun S' σ' H' m o' _ => k S' σ' H' m o') fun v H' s z => z.elim
end
end K60

set_option maxHeartbeats 4000000
/-! K60, the plain law: trusts, needs, what meets them; the program's way and the law's way agree. -/
namespace K60
open PySem PySem.Spec PyProof.Rows PySem.W

abbrev Row := Str × List (List Str) × List (List Str)
abbrev Tru := List Row
def lotsAt (T : Tru) (h : Str) : List (List Str) := match T.filter (fun r => decide (r.1 = h)) with
  | r :: _ => r.2.1
  | [] => []
def fearsAt (T : Tru) (h : Str) : List (List Str) := match T.filter (fun r => decide (r.1 = h)) with
  | r :: _ => r.2.2
  | [] => []
def namesOf (T : Tru) : List Str := T.map fun r => r.1
def fallsBy (T : Tru) (h q : Str) : List (List Str) := greatestOf ((fearsAt T h).flatMap fun a => (fearsAt T q).map fun b => joint a b)
def pairsIn (T : Tru) : List (Str × Nat) := T.flatMap fun r => (List.range r.2.1.length).map fun k => (r.1, k)
def lotAt (T : Tru) (p : Str × Nat) : List Str := ((lotsAt T p.1)[p.2]?).getD []
def needsL (T : Tru) (h : Str) (ps : List (Str × Nat)) : List (List Str) := ps.flatMap fun p => if p.1 = h then [] else (fallsBy T h p.1).map fun g => less (lotAt T p) g
def needsBy (T : Tru) (h : Str) : List (List Str) := leastOf (needsL T h (pairsIn T))
def isSafe (T : Tru) (h : Str) (S : List Str) : Bool := !decide (h ∈ S) && (fearsAt T h).any fun g => within S g
def safeBy (T : Tru) (S : List Str) : List Str := (namesOf T).filter fun h => isSafe T h S
/-- the law's own -/
def subsets (N : List Str) : List (List Str) := N.foldl (fun F n => F ++ F.map fun S => S ++ [n]) [[]]
def safeR (r : Row) (S : List Str) : Bool := !decide (r.1 ∈ S) && !(r.2.2.filter fun g => within S g).isEmpty
def safeL (T : Tru) (S : List Str) : List Str := (T.filter fun r => safeR r S).map fun r => r.1
def safesL (T : Tru) : List (List Str × List Str) := ((subsets (namesOf T)).map fun S => (S, safeL T S)).filter fun p => !p.2.isEmpty
def lawOne (T : Tru) (h : Str) (p : List Str × List Str) : List (List Str) := T.flatMap fun r => if h ∈ p.2 ∧ r.1 ∈ p.2 ∧ r.1 ≠ h then r.2.1.map fun l => less l p.1 else []
def lawNeeds (T : Tru) (ss : List (List Str × List Str)) (h : Str) : List (List Str) := leastOf (ss.flatMap fun p => lawOne T h p)
def lawMeets (needs : List (List Str)) (S : List Str) : Bool := (needs.filter fun one => (joint one S).isEmpty).isEmpty
def lawLeast (needs : List (List Str)) (N : List Str) : List (List Str) := leastOf ((subsets N).filter fun S => lawMeets needs S)
/-- the program's crossings -/
def addN (N lot : List Str) (x : Str) : List Str := N.filter fun y => decide (y ∈ lot ∨ y = x)
def lateX (N need : List Str) (F : List (List Str)) : List (List Str) := F.flatMap fun lot => if (joint need lot).isEmpty = false then [lot] else need.map fun x => addN N lot x
def crossL (N : List Str) (needs : List (List Str)) : List (List Str) := needs.foldl (fun F need => leastOf (lateX N need F)) [[]]

def NMS : List (List Str) := [["a", "b"], ["a", "b", "c"], ["a", "b", "c", "d"], ["east", "n"], ["east", "n", "west"], ["east", "n", "west", "zz"], ["ada", "bo"], ["ada", "bo", "cy"], ["ada", "bo", "cy", "di"]]
structure TOk (N : List Str) (T : Tru) : Prop where
  mem : N ∈ NMS
  names : namesOf T = N
  lots : ∀ r ∈ T, r.2.1 ≠ [] ∧ r.2.1.length ≤ 4 ∧ (∀ l ∈ r.2.1, Can N l ∧ l ≠ []) ∧ r.2.1.Pairwise tupLt
  fears : ∀ r ∈ T, r.2.2 ≠ [] ∧ r.2.2.length ≤ 4 ∧ (∀ g ∈ r.2.2, Can N g ∧ r.1 ∉ g) ∧ r.2.2.Pairwise tupLt
theorem nms_nodup : ∀ N ∈ NMS, N.Nodup := by decide +kernel
theorem TOk.nodup {N : List Str} {T : Tru} (t : TOk N T) : N.Nodup := nms_nodup N t.mem
/-! ### all sets of names -/
theorem mem_subs : ∀ {N : List Str} {F : List (List Str)} {S : List Str}, S ∈ N.foldl (fun F n => F ++ F.map fun S => S ++ [n]) F ↔ ∃ A ∈ F, ∃ B, B.Sublist N ∧ S = A ++ B
  | [], F, S => by
    constructor
    · intro h
      exact ⟨S, h, [], .slnil, (List.append_nil S).symm⟩
    · rintro ⟨A, hA, B, hB, e⟩
      have : B = [] := List.sublist_nil.mp hB
      subst this
      rw [List.append_nil] at e
      rw [e]
      exact hA
  | n :: N, F, S => by
    rw [List.foldl_cons, mem_subs (N := N)]
    constructor
    · rintro ⟨A, hA, B, hB, e⟩
      rcases List.mem_append.mp hA with h | h
      · exact ⟨A, h, B, hB.cons n, e⟩
      · obtain ⟨A', h', rfl⟩ := List.mem_map.mp h
        exact ⟨A', h', n :: B, hB.cons_cons n, by rw [e, List.append_assoc]; rfl⟩
    · rintro ⟨A, hA, B, hB, e⟩
      cases hB with
      | cons _ h => exact ⟨A, List.mem_append_left _ hA, B, h, e⟩
      | cons_cons _ h =>
        rename_i B'
        exact ⟨A ++ [n], List.mem_append_right _ (List.mem_map.mpr ⟨A, hA, rfl⟩), B', h, by rw [e, List.append_assoc]; rfl⟩
theorem sub_can : ∀ {N S : List Str}, N.Nodup → S.Sublist N → Can N S
  | [], S, _, h => by
    have e := List.sublist_nil.mp h
    subst e
    rfl
  | n :: N, S, hn, h => by
    obtain ⟨h1, h2⟩ := List.nodup_cons.mp hn
    cases h with
    | cons _ h =>
      have ih := sub_can h2 h
      have nS : n ∉ S := fun m => h1 (h.subset m)
      unfold Can
      rw [List.filter_cons, if_neg (by simpa using nS)]
      exact ih
    | cons_cons _ h =>
      rename_i S'
      have ih := sub_can h2 h
      unfold Can
      rw [List.filter_cons, if_pos (by simp)]
      have e : S' = N.filter fun x => decide (x ∈ n :: S') := by
        conv => lhs; rw [ih]
        refine List.filter_congr fun x hx => ?_
        have nx : x ≠ n := fun e => h1 (by rw [← e]; exact hx)
        simp [nx]
      rw [← e]
theorem mem_subsets {N S : List Str} (hN : N.Nodup) : S ∈ subsets N ↔ Can N S := by
  unfold subsets
  rw [mem_subs]
  constructor
  · rintro ⟨A, hA, B, hB, e⟩
    have eA : A = [] := by simpa using hA
    subst eA
    rw [e]
    exact sub_can hN hB
  · intro h
    exact ⟨[], List.mem_singleton.mpr rfl, S, by rw [h]; exact List.filter_sublist, rfl⟩
theorem can_nil (N : List Str) : Can N [] := by
  unfold Can
  simp
/-! ### the rows -/
theorem row_at {T : Tru} (hn : (namesOf T).Nodup) {r : Row} (hr : r ∈ T) : T.filter (fun q => decide (q.1 = r.1)) = [r] := by
  induction T with
  | nil => cases hr
  | cons q T ih =>
    obtain ⟨h1, h2⟩ := List.nodup_cons.mp (show (q.1 :: namesOf T).Nodup from hn)
    rcases List.mem_cons.mp hr with e | e
    · subst e
      rw [List.filter_cons, if_pos (by simp)]
      have e2 : T.filter (fun q => decide (q.1 = r.1)) = [] := List.filter_eq_nil_iff.mpr fun x hx => by
        simp only [decide_eq_true_eq]
        exact fun e => h1 (List.mem_map.mpr ⟨x, hx, e⟩)
      rw [e2]
    · have ne : q.1 ≠ r.1 := fun e' => h1 (List.mem_map.mpr ⟨r, e, e'.symm⟩)
      rw [List.filter_cons, if_neg (by simpa using ne)]
      exact ih h2 e
theorem lots_row {T : Tru} (hn : (namesOf T).Nodup) {r : Row} (hr : r ∈ T) : lotsAt T r.1 = r.2.1 := by
  unfold lotsAt
  rw [row_at hn hr]
theorem fears_row {T : Tru} (hn : (namesOf T).Nodup) {r : Row} (hr : r ∈ T) : fearsAt T r.1 = r.2.2 := by
  unfold fearsAt
  rw [row_at hn hr]
section
variable {N : List Str} {T : Tru} (t : TOk N T)
include t
theorem TOk.nd : (namesOf T).Nodup := by
  rw [t.names]
  exact t.nodup
theorem TOk.row {h : Str} (hh : h ∈ N) : ∃ r ∈ T, r.1 = h := by
  rw [← t.names] at hh
  obtain ⟨r, hr, e⟩ := List.mem_map.mp hh
  exact ⟨r, hr, e⟩
theorem safe_row {r : Row} (hr : r ∈ T) (S : List Str) : isSafe T r.1 S = safeR r S := by
  unfold isSafe safeR
  rw [fears_row t.nd hr]
  congr 1
  rw [Bool.eq_iff_iff, List.any_eq_true, Bool.not_eq_true', ← Bool.not_eq_true, List.isEmpty_iff]
  constructor
  · rintro ⟨g, hg, hw⟩ e
    have : g ∈ r.2.2.filter fun g => within S g := List.mem_filter.mpr ⟨hg, hw⟩
    rw [e] at this
    cases this
  · intro h
    cases e : r.2.2.filter fun g => within S g with
    | nil => exact absurd e h
    | cons g l =>
      have hg : g ∈ r.2.2.filter fun g => within S g := by
        rw [e]
        exact List.mem_cons_self ..
      exact ⟨g, (List.mem_filter.mp hg).1, (List.mem_filter.mp hg).2⟩
/-- who is safe: both ways -/
theorem safe_eq (S : List Str) : safeBy T S = safeL T S := by
  unfold safeBy safeL namesOf
  rw [List.filter_map]
  congr 1
  exact List.filter_congr fun r hr => safe_row t hr S
theorem mem_safeL {S : List Str} {r : Row} (hr : r ∈ T) : r.1 ∈ safeL T S ↔ safeR r S = true := by
  unfold safeL
  constructor
  · intro h
    obtain ⟨q, hq, e⟩ := List.mem_map.mp h
    obtain ⟨q1, q2⟩ := List.mem_filter.mp hq
    have a := row_at t.nd hr
    have b := row_at t.nd q1
    rw [e, a] at b
    have e2 := (List.cons.inj b).1
    rw [e2]
    exact q2
  · intro h
    exact List.mem_map.mpr ⟨r, List.mem_filter.mpr ⟨hr, h⟩, rfl⟩
theorem safeR_iff {r : Row} (hr : r ∈ T) {S : List Str} : safeR r S = true ↔ ∃ g ∈ r.2.2, within S g = true := by
  unfold safeR
  constructor
  · intro h
    have h2 := (Bool.and_eq_true_iff.mp h).2
    cases e : r.2.2.filter fun g => within S g with
    | nil =>
      rw [e] at h2
      cases h2
    | cons g l =>
      have hg : g ∈ r.2.2.filter fun g => within S g := by
        rw [e]
        exact List.mem_cons_self ..
      exact ⟨g, (List.mem_filter.mp hg).1, (List.mem_filter.mp hg).2⟩
  · rintro ⟨g, hg, hw⟩
    have n : r.1 ∉ S := fun m => ((t.fears r hr).2.2.1 g hg).2 (within_iff.mp hw _ m)
    have m : g ∈ r.2.2.filter fun g => within S g := List.mem_filter.mpr ⟨hg, hw⟩
    rw [decide_eq_false n, Bool.not_false, Bool.true_and]
    cases e : r.2.2.filter fun g => within S g with
    | nil =>
      rw [e] at m
      cases m
    | cons g l => rfl
theorem can_falls {h q : Str} (hh : h ∈ N) (hq : q ∈ N) : ∀ g ∈ (fearsAt T h).flatMap fun a => (fearsAt T q).map fun b => joint a b, Can N g ∧ h ∉ g ∧ q ∉ g := fun g hg => by
  obtain ⟨r, hr, rfl⟩ := t.row hh
  obtain ⟨r', hr', rfl⟩ := t.row hq
  rw [fears_row t.nd hr, fears_row t.nd hr'] at hg
  obtain ⟨a, ha, hb⟩ := List.mem_flatMap.mp hg
  obtain ⟨b, hb2, rfl⟩ := List.mem_map.mp hb
  obtain ⟨c1, c2⟩ := (t.fears r hr).2.2.1 a ha
  obtain ⟨d1, d2⟩ := (t.fears r' hr').2.2.1 b hb2
  refine ⟨can_joint c1, fun m => c2 (List.mem_filter.mp m).1, fun m => ?_⟩
  have := (List.mem_filter.mp m).2
  exact d2 (by simpa using this)
theorem mem_pairs {p : Str × Nat} : p ∈ pairsIn T ↔ ∃ r ∈ T, r.1 = p.1 ∧ p.2 < r.2.1.length := by
  unfold pairsIn
  rw [List.mem_flatMap]
  constructor
  · rintro ⟨r, hr, h⟩
    obtain ⟨k, hk, rfl⟩ := List.mem_map.mp h
    exact ⟨r, hr, rfl, List.mem_range.mp hk⟩
  · rintro ⟨r, hr, e, hk⟩
    exact ⟨r, hr, List.mem_map.mpr ⟨p.2, List.mem_range.mpr hk, by rw [e]⟩⟩
theorem lot_pair {r : Row} (hr : r ∈ T) {k : Nat} (hk : k < r.2.1.length) : lotAt T (r.1, k) = r.2.1[k] := by
  unfold lotAt
  rw [lots_row t.nd hr, List.getElem?_eq_getElem hk]
  rfl
theorem needs_can {h : Str} (hh : h ∈ N) : ∀ a ∈ needsL T h (pairsIn T), Can N a := fun a ha => by
  obtain ⟨p, hp, hb⟩ := List.mem_flatMap.mp ha
  obtain ⟨r, hr, e, hk⟩ := (mem_pairs t).mp hp
  obtain ⟨q, k⟩ := p
  dsimp only at e hk hb
  subst e
  by_cases c : r.1 = h
  · rw [if_pos c] at hb
    cases hb
  · rw [if_neg c] at hb
    obtain ⟨g, hg, rfl⟩ := List.mem_map.mp hb
    rw [lot_pair t hr hk]
    exact can_less ((t.lots r hr).2.2.1 _ (List.getElem_mem hk)).1
/-- THE NEEDS: over the greatest falls, or over all sets that can lie -/
theorem needs_eq {h : Str} (hh : h ∈ N) : lawNeeds T (safesL T) h = needsBy T h := by
  unfold lawNeeds needsBy
  have cl : ∀ a ∈ (safesL T).flatMap fun p => lawOne T h p, Can N a := fun a ha => by
    obtain ⟨p, hp, hb⟩ := List.mem_flatMap.mp ha
    obtain ⟨r, hr, hb⟩ := List.mem_flatMap.mp hb
    by_cases c : h ∈ p.2 ∧ r.1 ∈ p.2 ∧ r.1 ≠ h
    · rw [if_pos c] at hb
      obtain ⟨l, hl, rfl⟩ := List.mem_map.mp hb
      exact can_less ((t.lots r hr).2.2.1 l hl).1
    · rw [if_neg c] at hb
      cases hb
  obtain ⟨rh, hrh, eh⟩ := t.row hh
  refine leastOf_eq t.nodup cl (needs_can t hh) (fun a ha => ?_) fun b hb => ?_
  · obtain ⟨p, hp, hb⟩ := List.mem_flatMap.mp ha
    obtain ⟨r, hr, hb⟩ := List.mem_flatMap.mp hb
    by_cases c : h ∈ p.2 ∧ r.1 ∈ p.2 ∧ r.1 ≠ h
    · rw [if_pos c] at hb
      obtain ⟨l, hl, rfl⟩ := List.mem_map.mp hb
      obtain ⟨c1, c2, c3⟩ := c
      obtain ⟨m1, m2⟩ := List.mem_filter.mp hp
      obtain ⟨S, hS, eS⟩ := List.mem_map.mp m1
      rw [← eS] at c1 c2 ⊢
      dsimp only at c1 c2 ⊢
      rw [← eh] at c1
      obtain ⟨g1, hg1, hw1⟩ := (safeR_iff t hrh).mp ((mem_safeL t hrh).mp c1)
      obtain ⟨g2, hg2, hw2⟩ := (safeR_iff t hr).mp ((mem_safeL t hr).mp c2)
      have hN : r.1 ∈ N := by
        rw [← t.names]
        exact List.mem_map.mpr ⟨r, hr, rfl⟩
      have hj : joint g1 g2 ∈ (fearsAt T h).flatMap fun a => (fearsAt T r.1).map fun b => joint a b := by
        rw [← eh, fears_row t.nd hrh, fears_row t.nd hr]
        exact List.mem_flatMap.mpr ⟨g1, hg1, List.mem_map.mpr ⟨g2, hg2, rfl⟩⟩
      obtain ⟨g, hg, hwg⟩ := greatest_above t.nodup (fun a ha => (can_falls t hh hN a ha).1) N.length _ (by omega) hj
      obtain ⟨k, hk, ek⟩ := List.getElem_of_mem hl
      refine ⟨less l g, List.mem_flatMap.mpr ⟨(r.1, k), (mem_pairs t).mpr ⟨r, hr, rfl, hk⟩, ?_⟩, ?_⟩
      · dsimp only
        rw [if_neg c3]
        exact List.mem_map.mpr ⟨g, hg, by rw [lot_pair t hr hk, ek]⟩
      · refine within_iff.mpr fun x hx => ?_
        obtain ⟨x1, x2⟩ := List.mem_filter.mp hx
        refine List.mem_filter.mpr ⟨x1, ?_⟩
        have nx : x ∉ g := by simpa using x2
        have nS : x ∉ S := fun m => nx (within_iff.mp hwg x (List.mem_filter.mpr ⟨within_iff.mp hw1 x m, by simpa using within_iff.mp hw2 x m⟩))
        simpa using nS
    · rw [if_neg c] at hb
      cases hb
  · obtain ⟨p, hp, hb⟩ := List.mem_flatMap.mp hb
    obtain ⟨r, hr, e, hk⟩ := (mem_pairs t).mp hp
    obtain ⟨q, k⟩ := p
    dsimp only at e hk hb
    subst e
    by_cases c : r.1 = h
    · rw [if_pos c] at hb
      cases hb
    · rw [if_neg c] at hb
      obtain ⟨g, hg, rfl⟩ := List.mem_map.mp hb
      have hN : r.1 ∈ N := by
        rw [← t.names]
        exact List.mem_map.mpr ⟨r, hr, rfl⟩
      have hg1 := (mem_greatestOf.mp hg).1
      obtain ⟨cg, _, _⟩ := can_falls t hh hN g hg1
      rw [← eh, fears_row t.nd hrh, fears_row t.nd hr] at hg1
      obtain ⟨a, ha, hb⟩ := List.mem_flatMap.mp hg1
      obtain ⟨b, hb, e2⟩ := List.mem_map.mp hb
      have s1 : safeR rh g = true := (safeR_iff t hrh).mpr ⟨a, ha, within_iff.mpr fun x hx => by rw [← e2] at hx; exact (List.mem_filter.mp hx).1⟩
      have s2 : safeR r g = true := (safeR_iff t hr).mpr ⟨b, hb, within_iff.mpr fun x hx => by rw [← e2] at hx; simpa using (List.mem_filter.mp hx).2⟩
      have m1 := (mem_safeL t hrh).mpr s1
      have m2 := (mem_safeL t hr).mpr s2
      have ne : (safeL T g).isEmpty = false := by
        cases e3 : safeL T g with
        | nil =>
          rw [e3] at m1
          cases m1
        | cons x l => rfl
      refine ⟨less (lotAt T (r.1, k)) g, List.mem_flatMap.mpr ⟨(g, safeL T g), List.mem_filter.mpr ⟨List.mem_map.mpr ⟨g, ?_, rfl⟩, by rw [ne]; rfl⟩, List.mem_flatMap.mpr ⟨r, hr, ?_⟩⟩, within_refl _⟩
      · rw [t.names]
        exact (mem_subsets t.nodup).mpr cg
      · dsimp only
        rw [if_pos ⟨by rw [← eh]; exact m1, m2, c⟩]
        exact List.mem_map.mpr ⟨r.2.1[k], List.getElem_mem hk, by rw [lot_pair t hr hk]⟩
theorem can_needs {h : Str} (hh : h ∈ N) : ∀ a ∈ needsBy T h, Can N a := can_leastOf (needs_can t hh)
end
/-! ### what meets them -/
theorem meets_iff {needs : List (List Str)} {S : List Str} : lawMeets needs S = true ↔ ∀ a ∈ needs, joint a S ≠ [] := by
  unfold lawMeets
  rw [List.isEmpty_iff, List.filter_eq_nil_iff]
  constructor
  · intro h a ha e
    exact h a ha (by rw [e]; rfl)
  · intro h a ha e
    exact h a ha (List.isEmpty_iff.mp e)
theorem joint_ne {a S : List Str} : joint a S ≠ [] ↔ ∃ x ∈ a, x ∈ S := by
  constructor
  · intro h
    cases e : joint a S with
    | nil => exact absurd e h
    | cons x l =>
      have hx : x ∈ joint a S := by
        rw [e]
        exact List.mem_cons_self ..
      exact ⟨x, (List.mem_filter.mp hx).1, by simpa using (List.mem_filter.mp hx).2⟩
  · rintro ⟨x, h1, h2⟩ e
    have hx : x ∈ joint a S := List.mem_filter.mpr ⟨h1, by simpa using h2⟩
    rw [e] at hx
    cases hx
theorem can_addN (N lot : List Str) (x : Str) : Can N (addN N lot x) := can_filter N _
theorem late_can {N need : List Str} {F : List (List Str)} (hF : ∀ S ∈ F, Can N S) : ∀ S ∈ lateX N need F, Can N S := fun S hS => by
  obtain ⟨lot, hl, hb⟩ := List.mem_flatMap.mp hS
  by_cases c : (joint need lot).isEmpty = false
  · rw [if_pos c] at hb
    rw [List.mem_singleton.mp hb]
    exact hF lot hl
  · rw [if_neg c] at hb
    obtain ⟨x, hx, rfl⟩ := List.mem_map.mp hb
    exact can_addN N lot x
theorem lawMeets_app {P : List (List Str)} {need S : List Str} : lawMeets (P ++ [need]) S = true ↔ lawMeets P S = true ∧ joint need S ≠ [] := by
  rw [meets_iff, meets_iff]
  constructor
  · intro h
    exact ⟨fun a ha => h a (List.mem_append_left _ ha), h need (List.mem_append_right _ (List.mem_singleton.mpr rfl))⟩
  · rintro ⟨h1, h2⟩ a ha
    rcases List.mem_append.mp ha with m | m
    · exact h1 a m
    · rw [List.mem_singleton.mp m]
      exact h2
theorem joint_mono {a S S' : List Str} (h : ∀ x ∈ S, x ∈ S') (k : joint a S ≠ []) : joint a S' ≠ [] := by
  obtain ⟨x, h1, h2⟩ := joint_ne.mp k
  exact joint_ne.mpr ⟨x, h1, h x h2⟩
theorem cross_step {N need : List Str} (hN : N.Nodup) (hneed : ∀ x ∈ need, x ∈ N) (P : List (List Str)) : leastOf (lateX N need (lawLeast P N)) = lawLeast (P ++ [need]) N := by
  have cF : ∀ S ∈ (subsets N).filter (fun S => lawMeets P S), Can N S := fun S h => (mem_subsets hN).mp (List.mem_filter.mp h).1
  have cL : ∀ S ∈ lawLeast P N, Can N S := can_leastOf cF
  unfold lawLeast at cL ⊢
  refine leastOf_eq hN (late_can cL) (fun S h => (mem_subsets hN).mp (List.mem_filter.mp h).1) (fun a ha => ?_) fun S hS => ?_
  · refine ⟨a, List.mem_filter.mpr ⟨(mem_subsets hN).mpr (late_can cL a ha), ?_⟩, within_refl a⟩
    obtain ⟨lot, hl, hb⟩ := List.mem_flatMap.mp ha
    have ml := (List.mem_filter.mp (mem_leastOf.mp hl).1).2
    by_cases c : (joint need lot).isEmpty = false
    · rw [if_pos c] at hb
      rw [List.mem_singleton.mp hb]
      exact lawMeets_app.mpr ⟨ml, fun e => by rw [e] at c; cases c⟩
    · rw [if_neg c] at hb
      obtain ⟨x, hx, rfl⟩ := List.mem_map.mp hb
      have cl := cL lot hl
      have up : ∀ y ∈ lot, y ∈ addN N lot x := fun y hy => List.mem_filter.mpr ⟨cl.sub y hy, by simp [hy]⟩
      refine lawMeets_app.mpr ⟨meets_iff.mpr fun b hb => joint_mono up (meets_iff.mp ml b hb), joint_ne.mpr ⟨x, hx, List.mem_filter.mpr ⟨hneed x hx, by simp⟩⟩⟩
  · obtain ⟨h1, h2⟩ := List.mem_filter.mp hS
    obtain ⟨m1, m2⟩ := lawMeets_app.mp h2
    obtain ⟨lot, hl, hw⟩ := least_below hN cF S.length S (Nat.le_refl _) (List.mem_filter.mpr ⟨h1, m1⟩)
    have cl := cL lot hl
    by_cases c : (joint need lot).isEmpty = false
    · exact ⟨lot, List.mem_flatMap.mpr ⟨lot, hl, by rw [if_pos c]; exact List.mem_singleton.mpr rfl⟩, hw⟩
    · obtain ⟨x, hx, hxS⟩ := joint_ne.mp m2
      refine ⟨addN N lot x, List.mem_flatMap.mpr ⟨lot, hl, by rw [if_neg c]; exact List.mem_map.mpr ⟨x, hx, rfl⟩⟩, within_iff.mpr fun y hy => ?_⟩
      have hy2 := (List.mem_filter.mp hy).2
      rw [decide_eq_true_eq] at hy2
      rcases hy2 with e | e
      · exact within_iff.mp hw y e
      · rw [e]
        exact hxS
theorem least_none (N : List Str) (hN : N.Nodup) : lawLeast [] N = [[]] := by
  refine rise_ext (pw_leastOf _) (List.pairwise_singleton _ _) fun z => ?_
  unfold lawLeast
  rw [mem_leastOf, List.mem_singleton]
  have h0 : ([] : List Str) ∈ (subsets N).filter fun S => lawMeets [] S := List.mem_filter.mpr ⟨(mem_subsets hN).mpr (can_nil N), rfl⟩
  constructor
  · rintro ⟨_, h⟩
    exact (h [] h0 rfl).symm
  · intro e
    subst e
    refine ⟨h0, fun b _ hw => ?_⟩
    cases b with
    | nil => rfl
    | cons x l => exact absurd (within_iff.mp hw x (List.mem_cons_self ..)) (by simp)
theorem cross_from {N : List Str} (hN : N.Nodup) : ∀ (needs P : List (List Str)), (∀ a ∈ needs, ∀ x ∈ a, x ∈ N) → needs.foldl (fun F need => leastOf (lateX N need F)) (lawLeast P N) = lawLeast (P ++ needs) N
  | [], P, _ => by
    rw [List.append_nil]
    rfl
  | a :: needs, P, h => by
    rw [List.foldl_cons, cross_step hN (h a (List.mem_cons_self ..)) P, cross_from hN needs (P ++ [a]) fun b hb => h b (List.mem_cons_of_mem _ hb), List.append_assoc]
    rfl
/-- THE LEAST LOTS: need by need, or among all sets -/
theorem cross_eq {N : List Str} (hN : N.Nodup) {needs : List (List Str)} (h : ∀ a ∈ needs, Can N a) : crossL N needs = lawLeast needs N := by
  have e := cross_from hN needs [] fun a ha => (h a ha).sub
  rw [least_none N hN] at e
  exact e
theorem cross_take {N : List Str} (hN : N.Nodup) {needs : List (List Str)} (h : ∀ a ∈ needs, Can N a) (i : Nat) : crossL N (needs.take i) = lawLeast (needs.take i) N := cross_eq hN fun a ha => h a (List.mem_of_mem_take ha)
/-! ### sizes -/
theorem sum_le {α : Type} [DecidableEq α] (f : α → Nat) : ∀ {l D : List α}, l.Nodup → (∀ x ∈ l, x ∈ D) → (l.map f).sum ≤ (D.map f).sum
  | [], _, _, _ => Nat.zero_le _
  | x :: l, D, hn, h => by
    obtain ⟨h1, h2⟩ := List.nodup_cons.mp hn
    have hx := h x (List.mem_cons_self ..)
    have ih := sum_le f (l := l) (D := D.erase x) h2 fun y hy => (List.mem_erase_of_ne (fun e => h1 (by rw [← e]; exact hy))).mpr (h y (List.mem_cons_of_mem _ hy))
    have e : (D.map f).sum = f x + ((D.erase x).map f).sum := by
      have p := List.perm_cons_erase hx
      rw [(p.map f).sum_nat, List.map_cons, List.sum_cons]
    rw [List.map_cons, List.sum_cons, e]
    omega
theorem flat_len {α β : Type} (g : α → List β) (l : List α) : (l.flatMap g).length = (l.map fun x => (g x).length).sum := by
  rw [List.length_flatMap]
theorem sum_le_map {α : Type} {f g : α → Nat} : ∀ {l : List α}, (∀ x ∈ l, f x ≤ g x) → (l.map f).sum ≤ (l.map g).sum
  | [], _ => Nat.le_refl _
  | x :: l, h => by
    have h1 := h x (List.mem_cons_self ..)
    have h2 := sum_le_map (l := l) fun y hy => h y (List.mem_cons_of_mem _ hy)
    rw [List.map_cons, List.map_cons, List.sum_cons, List.sum_cons]
    omega
theorem subs_len : ∀ N ∈ NMS, (subsets N).length ≤ 16 := by decide +kernel
theorem late_size : ∀ N ∈ NMS, ∀ need ∈ subsets N, ((subsets N).map fun lot => if (joint need lot).isEmpty = false then 1 else need.length).sum ≤ 20 := by decide +kernel
theorem late_len {N need : List Str} (hN : N ∈ NMS) (hneed : Can N need) {F : List (List Str)} (hF : F.Nodup) (hc : ∀ S ∈ F, Can N S) : (lateX N need F).length ≤ 20 := by
  have nd := nms_nodup N hN
  refine Nat.le_trans ?_ (late_size N hN need ((mem_subsets nd).mpr hneed))
  refine Nat.le_trans ?_ (sum_le (fun lot => if (joint need lot).isEmpty = false then 1 else need.length) hF fun S hS => (mem_subsets nd).mpr (hc S hS))
  unfold lateX
  rw [flat_len]
  refine sum_le_map fun lot _ => ?_
  by_cases c : (joint need lot).isEmpty = false
  · rw [if_pos c, if_pos c]
    exact Nat.le_refl _
  · rw [if_neg c, if_neg c, List.length_map]
    exact Nat.le_refl _
theorem falls_size : ∀ N ∈ NMS, ∀ h ∈ N, ∀ q ∈ N, h ≠ q → ((subsets N).filter fun g => decide (h ∉ g) && decide (q ∉ g)).length ≤ 4 := by decide +kernel
theorem names_len : ∀ N ∈ NMS, ∀ h ∈ N, (N.filter fun q => decide (q ≠ h)).length ≤ 3 := by decide +kernel
theorem law_size : ∀ N ∈ NMS, ∀ h ∈ N, ((subsets N).map fun S => if h ∈ S then 0 else 4 * (N.filter fun q => decide (q ≠ h) && decide (q ∉ S)).length).sum ≤ 48 := by decide +kernel
section
variable {N : List Str} {T : Tru} (t : TOk N T)
include t
theorem falls_len {h q : Str} (hh : h ∈ N) (hq : q ∈ N) (ne : h ≠ q) : (fallsBy T h q).length ≤ 4 := by
  refine Nat.le_trans (len_le_of (nodup_rise (pw_greatestOf _)) fun g hg => ?_) (falls_size N t.mem h hh q hq ne)
  obtain ⟨c1, c2, c3⟩ := can_falls t hh hq g (mem_greatestOf.mp hg).1
  exact List.mem_filter.mpr ⟨(mem_subsets t.nodup).mpr c1, by simp [c2, c3]⟩
theorem fears_len {h : Str} (hh : h ∈ N) : (fearsAt T h).length ≤ 4 := by
  obtain ⟨r, hr, rfl⟩ := t.row hh
  rw [fears_row t.nd hr]
  exact (t.fears r hr).2.1
theorem joints_len {h q : Str} (hh : h ∈ N) (hq : q ∈ N) : ((fearsAt T h).flatMap fun a => (fearsAt T q).map fun b => joint a b).length ≤ 16 := by
  rw [flat_len]
  have h1 := fears_len t hh
  have h2 := fears_len t hq
  have e : ((fearsAt T h).map fun a => ((fearsAt T q).map fun b => joint a b).length).sum ≤ ((fearsAt T h).map fun _ => 4).sum := sum_le_map fun a _ => by
    rw [List.length_map]
    exact h2
  rw [List.map_const', List.sum_replicate_nat] at e
  omega
omit t in
theorem sum_if {α : Type} (p : α → Bool) (c : Nat) : ∀ l : List α, (l.map fun x => if p x = true then c else 0).sum = c * (l.filter p).length
  | [] => by simp
  | x :: l => by
    rw [List.map_cons, List.sum_cons, sum_if p c l, List.filter_cons]
    by_cases h : p x = true
    · rw [if_pos h, if_pos h, List.length_cons, Nat.mul_succ]
      omega
    · rw [if_neg h, if_neg h]
      omega
theorem needs_len {h : Str} (hh : h ∈ N) : (needsL T h (pairsIn T)).length ≤ 48 := by
  have e1 : (needsL T h (pairsIn T)).length = (T.map fun r => if decide (r.1 ≠ h) = true then r.2.1.length * (fallsBy T h r.1).length else 0).sum := by
    unfold needsL pairsIn
    rw [List.flatMap_assoc, flat_len]
    congr 1
    refine List.map_congr_left fun r hr => ?_
    rw [List.flatMap_map, flat_len]
    by_cases c : r.1 = h
    · rw [if_neg (by simp [c])]
      have : ((List.range r.2.1.length).map fun x => (if (r.1, x).1 = h then ([] : List (List Str)) else (fallsBy T h (r.1, x).1).map fun g => less (lotAt T (r.1, x)) g).length) = (List.range r.2.1.length).map fun _ => 0 := List.map_congr_left fun x _ => by rw [if_pos c]; rfl
      rw [this, List.map_const', List.sum_replicate_nat]
      omega
    · rw [if_pos (by simp [c])]
      have : ((List.range r.2.1.length).map fun x => (if (r.1, x).1 = h then ([] : List (List Str)) else (fallsBy T h (r.1, x).1).map fun g => less (lotAt T (r.1, x)) g).length) = (List.range r.2.1.length).map fun _ => (fallsBy T h r.1).length := List.map_congr_left fun x _ => by rw [if_neg c, List.length_map]
      rw [this, List.map_const', List.sum_replicate_nat, List.length_range]
  have e2 : (T.map fun r => if decide (r.1 ≠ h) = true then r.2.1.length * (fallsBy T h r.1).length else 0).sum ≤ (T.map fun r => if decide (r.1 ≠ h) = true then 16 else 0).sum := sum_le_map fun r hr => by
    by_cases c : r.1 = h
    · rw [if_neg (by simp [c])]
      exact Nat.zero_le _
    · rw [if_pos (by simp [c]), if_pos (by simp [c])]
      have hN : r.1 ∈ N := by
        rw [← t.names]
        exact List.mem_map.mpr ⟨r, hr, rfl⟩
      have h1 := falls_len t hh hN fun e => c e.symm
      have h2 := (t.lots r hr).2.1
      have h3 : r.2.1.length * (fallsBy T h r.1).length ≤ 4 * 4 := Nat.mul_le_mul h2 h1
      omega
  have e3 := sum_if (fun r : Row => decide (r.1 ≠ h)) 16 T
  have e4 : (T.filter fun r => decide (r.1 ≠ h)).length = (N.filter fun q => decide (q ≠ h)).length := by
    rw [← t.names]
    unfold namesOf
    rw [List.filter_map, List.length_map]
    rfl
  have e5 := names_len N t.mem h hh
  rw [e1]
  refine Nat.le_trans e2 ?_
  rw [e3, e4]
  omega
theorem law_len {h : Str} (hh : h ∈ N) : ((safesL T).flatMap fun p => lawOne T h p).length ≤ 48 := by
  refine Nat.le_trans ?_ (law_size N t.mem h hh)
  rw [flat_len]
  obtain ⟨rh, hrh, eh⟩ := t.row hh
  have one : ∀ S, (lawOne T h (S, safeL T S)).length ≤ if h ∈ S then 0 else 4 * (N.filter fun q => decide (q ≠ h) && decide (q ∉ S)).length := fun S => by
    unfold lawOne
    rw [flat_len]
    by_cases c : h ∈ S
    · rw [if_pos c]
      have n : h ∉ safeL T S := fun m => by
        rw [← eh] at m
        have := (mem_safeL t hrh).mp m
        unfold safeR at this
        rw [eh, decide_eq_true c] at this
        cases this
      have e : (T.map fun r => (if h ∈ safeL T S ∧ r.1 ∈ safeL T S ∧ r.1 ≠ h then r.2.1.map fun l => less l S else []).length) = T.map fun _ => 0 := List.map_congr_left fun r _ => by rw [if_neg (fun z => n z.1)]; rfl
      show (T.map fun r => (if h ∈ safeL T S ∧ r.1 ∈ safeL T S ∧ r.1 ≠ h then r.2.1.map fun l => less l S else []).length).sum ≤ 0
      rw [e, List.map_const', List.sum_replicate_nat]
      omega
    · rw [if_neg c]
      have e2 : (T.map fun r => (if h ∈ safeL T S ∧ r.1 ∈ safeL T S ∧ r.1 ≠ h then r.2.1.map fun l => less l S else []).length).sum ≤ (T.map fun r => if (decide (r.1 ≠ h) && decide (r.1 ∉ S)) = true then 4 else 0).sum := sum_le_map fun r hr => by
        by_cases c2 : h ∈ safeL T S ∧ r.1 ∈ safeL T S ∧ r.1 ≠ h
        · rw [if_pos c2, List.length_map]
          have c3 := (mem_safeL t hr).mp c2.2.1
          unfold safeR at c3
          have c4 := (Bool.and_eq_true_iff.mp c3).1
          have c5 : r.1 ∉ S := by simpa using c4
          rw [if_pos (by simp [c2.2.2, c5])]
          exact (t.lots r hr).2.1
        · rw [if_neg c2]
          exact Nat.zero_le _
      have e3 := sum_if (fun r : Row => decide (r.1 ≠ h) && decide (r.1 ∉ S)) 4 T
      have e4 : (T.filter fun r => decide (r.1 ≠ h) && decide (r.1 ∉ S)).length = (N.filter fun q => decide (q ≠ h) && decide (q ∉ S)).length := by
        rw [← t.names]
        unfold namesOf
        rw [List.filter_map, List.length_map]
        rfl
      refine Nat.le_trans e2 ?_
      rw [e3, e4]
      exact Nat.le_refl _
  have sub : ((safesL T).map fun p => (lawOne T h p).length).sum ≤ ((subsets N).map fun S => (lawOne T h (S, safeL T S)).length).sum := by
    unfold safesL
    rw [t.names]
    generalize subsets N = L
    induction L with
    | nil => exact Nat.le_refl _
    | cons S L ih =>
      rw [List.map_cons, List.filter_cons]
      by_cases c : (!(S, safeL T S).2.isEmpty) = true
      · rw [if_pos c, List.map_cons, List.map_cons, List.sum_cons, List.sum_cons]
        omega
      · rw [if_neg c, List.map_cons, List.sum_cons]
        omega
  exact Nat.le_trans sub (sum_le_map fun S _ => one S)
end
end K60

set_option maxHeartbeats 4000000
/-! K60: what each def promises. -/
namespace K60
open PySem PySem.Spec PyProof.Rows L2

def spV {α : Type} (pre : α → Prop) (args : α → List PyData) (res : α → PyData) : Sp := spG (fun _ x => pre x) (fun _ x => (args x).map Sl.dat) (fun _ x s => s = .dat (res x))
abbrev eRow (r : Row) : PyData := .tuple [.str r.1, eSets r.2.1, eSets r.2.2]
abbrev eTru : Tru → PyData := eT eRow
abbrev ePair (p : Str × Nat) : PyData := .tuple [.str p.1, .int p.2]
abbrev ePS (p : List Str × List Str) : PyData := .tuple [eSet p.1, eL eS p.2]
def eOpt {α : Type} (g : α → PyData) : Option α → PyData
  | some x => g x
  | none => .none
def eSeq {α : Type} (b : Bool) (g : α → PyData) (xs : List α) : PyData := if b then eT g xs else eL g xs
/-- names that come -/
def NAMES : List Str := ["a", "b", "c", "d", "east", "n", "west", "zz", "ada", "bo", "cy", "di", "off", "on", "hold", "turn", "no", "yes", "lit", "new", "still"]
def strLt (a b : Str) : Prop := PySem.W.dataLt (.str a) (.str b) = true
instance (a b : Str) : Decidable (strLt a b) := by
  unfold strLt
  exact inferInstance
structure Good (xs : List Str) : Prop where
  nm : ∀ x ∈ xs, x ∈ NAMES
  up : xs.Pairwise strLt
  few : xs.length ≤ 100
def Rise (ds : List PyData) : Prop := ds.length ≤ 100 ∧ (∀ d ∈ ds, noM d = true) ∧ ∀ i d e, ds[i]? = some d → ds[i + 1]? = some e → PySem.W.alike d e = true ∧ d ≠ .none ∧ d.depth ≤ 60 ∧ PySem.W.dataLt d e = true
/-! ### machines, asks, books -/
structure Mach where
  letters : List Str
  looks : List Str
  moves : List (List Int)
  answers : List (List Int)
abbrev eInts : List Int → PyData := eT eI
abbrev eMach (m : Mach) : PyData := .tuple [eSet m.letters, eSet m.looks, eT eInts m.moves, eT eInts m.answers]
structure MOk (m : Mach) : Prop where
  l : Good m.letters
  l2 : 2 ≤ m.letters.length
  k : Good m.looks
  k1 : 1 ≤ m.looks.length
  m1 : m.moves ≠ []
  mf : m.moves.length ≤ 100
  mr : ∀ r ∈ m.moves, r.length = m.letters.length ∧ ∀ x ∈ r, 0 ≤ x ∧ x < (m.moves.length : Int)
  al : m.answers.length = m.moves.length
  ar : ∀ r ∈ m.answers, r.length = m.looks.length ∧ ∀ x ∈ r, 0 ≤ x
structure Ask where
  house : Str
  looks : List Str
  lot : List Str
abbrev eAsk (a : Ask) : PyData := .tuple [.str a.house, eSet a.looks, eSet a.lot, .str "any", .tuple []]
structure AForm (a : Ask) : Prop where
  h : a.house ∈ NAMES
  k : Good a.looks
  k1 : a.looks ≠ []
  l : Good a.lot
structure AOk (m : Mach) (N : List Str) (a : Ask) : Prop where
  form : AForm a
  hN : a.house ∈ N
  km : ∀ x ∈ a.looks, x ∈ m.looks
  lN : Can N a.lot
structure Book where
  m : Mach
  T : Tru
  asks : List Ask
abbrev eBook (b : Book) : PyData := .tuple [eMach b.m, eTru b.T, .tuple [], eT eAsk b.asks, .tuple []]
/-- the three machines, with what moves -/
def M0 : Mach := ⟨["off", "on"], ["lit"], [[0, 1], [0, 1]], [[0], [1]]⟩
def M1 : Mach := ⟨["hold", "turn"], ["lit"], [[0, 1], [1, 0]], [[0], [1]]⟩
def M2 : Mach := ⟨["no", "yes"], ["new", "still"], [[0, 1], [0, 1]], [[0, 5], [1, 5]]⟩
def machOf : Nat → Mach
  | 0 => M0
  | 1 => M1
  | _ => M2
def movesOf : Nat → List Str
  | 0 => ["lit"]
  | 1 => ["lit"]
  | _ => ["new"]
structure BOk (N : List Str) (b : Book) : Prop where
  t : TOk N b.T
  j : ∃ j, b.m = machOf j
  a : ∀ a ∈ b.asks, AOk b.m N a
  few : b.asks.length ≤ 100
def TGood (T : Tru) : Prop := ∃ N, TOk N T
def BGood (b : Book) : Prop := ∃ N, BOk N b

/-! ### kinds -/
def isInt : PyData → Bool
  | .int _ => true
  | _ => false
def sp_is_integer : Sp := spV (fun d : PyData => (∃ i, d = .int i) ∨ ∃ x, d = .str x) (fun d => [d]) fun d => eB (isInt d)
def sp_is_number : Sp := spV (fun _ : Int => True) (fun i => [.int i]) fun i => eB (decide (0 ≤ i))
def sp_is_index : Sp := spV (fun _ : Int × Int => True) (fun p => [.int p.1, .int p.2]) fun p => eB (decide (0 ≤ p.1) && decide (p.1 < p.2))
def sp_is_among : Sp := spV (fun p : Str × List Str => ok p.1 ∧ ∀ x ∈ p.2, ok x) (fun p => [.str p.1, eSet p.2]) fun p => eB (decide (p.1 ∈ p.2))
def sp_is_name : Sp := spV (fun x : Str => x ∈ NAMES) (fun x => [.str x]) fun _ => eB true
def sp_is_tuple_of : Sp := spV (fun _ : List PyData × Int => True) (fun p => [.tuple p.1, .int p.2]) fun p => eB (decide ((p.1.length : Int) = p.2))
def sp_are_rising : Sp := spV (fun x : List PyData × Bool => Rise x.1) (fun x => [if x.2 then .tuple x.1 else .list x.1]) fun _ => eB true
def sp_is_names : Sp := spV (fun xs : List Str => Good xs) (fun xs => [eSet xs]) fun _ => eB true
def sp_is_names_among : Sp := spV (fun p : List Str × List Str × Bool => Good p.1 ∧ (∀ x ∈ p.1, x ∈ p.2.1) ∧ ∀ x ∈ p.2.1, ok x) (fun p => [eSet p.1, eSeq p.2.2 eS p.2.1]) fun _ => eB true
def sp_are_sets_among : Sp := spV (fun p : List (List Str) × List Str => p.1 ≠ [] ∧ p.1.length ≤ 100 ∧ (∀ s ∈ p.1, Good s ∧ ∀ x ∈ s, x ∈ p.2) ∧ p.1.Pairwise tupLt ∧ ∀ x ∈ p.2, ok x) (fun p => [eSets p.1, eL eS p.2]) fun _ => eB true
def sp_are_indexes : Sp := spV (fun p : List Int × Int × Int => p.1.length ≤ 100 ∧ (p.1.length : Int) = p.2.1 ∧ ∀ x ∈ p.1, 0 ≤ x ∧ x < p.2.2) (fun p => [eInts p.1, .int p.2.1, .int p.2.2]) fun _ => eB true
def sp_are_numbers : Sp := spV (fun p : List Int × Int => p.1.length ≤ 100 ∧ (p.1.length : Int) = p.2 ∧ ∀ x ∈ p.1, 0 ≤ x) (fun p => [eInts p.1, .int p.2]) fun _ => eB true
def sp_machine_fault : Sp := spV (fun m : Mach => MOk m) (fun m => [eMach m]) fun _ => .none
def sp_is_triple_from : Sp := spV (fun r : Row => r.1 ∈ NAMES) (fun r => [eRow r]) fun _ => eB true
def sp_trust_fault : Sp := spV (fun T : Tru => TGood T) (fun T => [eTru T]) fun _ => .none
def sp_order_fault : Sp := spV (fun _ : PyData => True) (fun d => [d, .tuple []]) fun _ => .none
def sp_gaps_by : Sp := spG (fun _ (_ : Unit) => True) (fun _ _ => [.dat (.tuple [])]) fun _ _ s => s = .no
def sp_triangle_fault : Sp := spV (fun _ : Unit => True) (fun _ => [.tuple []]) fun _ => .none
def sp_clocks_fault : Sp := spV (fun _ : PyData => True) (fun d => [d, .tuple []]) fun _ => .none
def sp_are_promises : Sp := spV (fun _ : Unit => True) (fun _ => [.tuple [], .str "any"]) fun _ => eB true
def sp_is_looking : Sp := spV (fun a : Ask => AForm a) (fun a => [eAsk a]) fun _ => eB true
def sp_is_looking_of : Sp := spV (fun p : Mach × List Str × Ask => MOk p.1 ∧ (∀ x ∈ p.2.1, ok x) ∧ AOk p.1 p.2.1 p.2.2) (fun p => [eMach p.1, eL eS p.2.1, eAsk p.2.2]) fun _ => eB true
def sp_rules_fault : Sp := spV (fun p : Mach × List Str × List Ask => MOk p.1 ∧ (∀ x ∈ p.2.1, ok x) ∧ p.2.2.length ≤ 100 ∧ ∀ a ∈ p.2.2, AOk p.1 p.2.1 a) (fun p => [eMach p.1, eL eS p.2.1, eT eAsk p.2.2, .tuple []]) fun _ => .none
def sp_parts_fault : Sp := spV (fun b : Book => BGood b) (fun b => [eBook b]) fun _ => .none
def sp_is_trust : Sp := spV (fun T : Tru => TGood T) (fun T => [eTru T]) fun _ => eB true
def sp_is_book : Sp := spV (fun b : Book => BGood b) (fun b => [eBook b]) fun _ => eB true
/-! ### sets, trusts -/
abbrev Few (a : List Str) : Prop := a.length ≤ 1000 ∧ ∀ x ∈ a, ok x
def sp_meets_in : Sp := spV (fun p : List Str × List Str => Few p.1 ∧ Few p.2) (fun p => [eSet p.1, eSet p.2]) fun p => eB (meets p.1 p.2)
def sp_joint_in : Sp := spV (fun p : List Str × List Str => Few p.1 ∧ Few p.2) (fun p => [eSet p.1, eSet p.2]) fun p => eSet (joint p.1 p.2)
def sp_houses_in : Sp := spV (fun T : Tru => T.length ≤ 100) (fun T => [eTru T]) fun T => eSet (namesOf T)
abbrev TH (p : Tru × Str) : Prop := ∃ N, TOk N p.1 ∧ p.2 ∈ N
def sp_lots_of : Sp := spV TH (fun p => [eTru p.1, .str p.2]) fun p => eSets (lotsAt p.1 p.2)
def sp_fears_of : Sp := spV TH (fun p => [eTru p.1, .str p.2]) fun p => eSets (fearsAt p.1 p.2)
def sp_is_within : Sp := spV (fun p : List Str × List Str => Few p.1 ∧ Few p.2) (fun p => [eSet p.1, eSet p.2]) fun p => eB (within p.1 p.2)
def sp_less_by : Sp := spV (fun p : List Str × List Str => Few p.1 ∧ Few p.2) (fun p => [eSet p.1, eSet p.2]) fun p => eSet (less p.1 p.2)
abbrev Fam (L : List (List Str)) : Prop := L.length < 64 ∧ ∀ s ∈ L, Few s
def sp_least_of : Sp := spV Fam (fun L => [eL eSet L]) fun L => eSets (leastOf L)
def sp_greatest_of : Sp := spV Fam (fun L => [eL eSet L]) fun L => eSets (greatestOf L)
def sp_is_safe_by : Sp := spV (fun p : Tru × Str × List Str => (∃ N, TOk N p.1 ∧ p.2.1 ∈ N) ∧ Few p.2.2) (fun p => [eTru p.1, .str p.2.1, eSet p.2.2]) fun p => eB (isSafe p.1 p.2.1 p.2.2)
def sp_safe_by : Sp := spV (fun p : Tru × List Str => TGood p.1 ∧ Few p.2) (fun p => [eTru p.1, eSet p.2]) fun p => eSet (safeBy p.1 p.2)
def sp_falls_by : Sp := spV (fun p : Tru × Str × Str => (∃ N, TOk N p.1 ∧ p.2.1 ∈ N ∧ p.2.2 ∈ N) ∧ p.2.1 ≠ p.2.2) (fun p => [eTru p.1, .str p.2.1, .str p.2.2]) fun p => eSets (fallsBy p.1 p.2.1 p.2.2)
def sp_pairs_in : Sp := spV TGood (fun T => [eTru T]) fun T => eL ePair (pairsIn T)
def sp_lot_at : Sp := spV (fun p : Tru × Str × Nat => TGood p.1 ∧ p.2 ∈ pairsIn p.1) (fun p => [eTru p.1, ePair p.2]) fun p => eSet (lotAt p.1 p.2)
def sp_needs_by : Sp := spV TH (fun p => [eTru p.1, .str p.2]) fun p => eSets (needsBy p.1 p.2)
abbrev NSs (L : List (List Str)) : Prop := L.length ≤ 100 ∧ ∀ s ∈ L, Few s
def missedBy (needs : List (List Str)) (lot : List Str) : Option (List Str) := needs.find? fun n => (joint n lot).isEmpty
def sp_first_missed_by : Sp := spV (fun p : List (List Str) × List Str => NSs p.1 ∧ Few p.2) (fun p => [eSets p.1, eSet p.2]) fun p => eOpt eSet (missedBy p.1 p.2)
def sp_is_met : Sp := spV (fun p : List (List Str) × List Str => NSs p.1 ∧ Few p.2) (fun p => [eSets p.1, eSet p.2]) fun p => eB (missedBy p.1 p.2).isNone
def sp_crossings_by : Sp := spV (fun p : List Str × List (List Str) => p.1 ∈ NMS ∧ p.2.length ≤ 100 ∧ ∀ a ∈ p.2, Can p.1 a) (fun p => [eSets p.2]) fun p => eSets (crossL p.1 p.2)
def sp_is_house_of : Sp := spV TH (fun p => [eTru p.1, .str p.2]) fun _ => eB true
def sp_are_houses_of : Sp := spV (fun p : Tru × List Str => ∃ N, TOk N p.1 ∧ Can N p.2) (fun p => [eTru p.1, eSet p.2]) fun _ => eB true
/-! ### wants -/
def sp_want : Sp := spV (fun _ : Str × Int => True) (fun p => [.bool true, .str p.1, .int p.2]) fun _ => .none
def sp_want_book : Sp := spV (fun p : Book × Str => BGood p.1) (fun p => [eBook p.1, .str p.2]) fun _ => .none
def sp_want_age : Sp := spV (fun b : Book => BGood b) (fun b => [eBook b, .int 0]) fun _ => .none
def sp_want_trust : Sp := spV (fun p : Tru × Str => TGood p.1) (fun p => [eTru p.1, .str p.2]) fun _ => .none
def sp_want_house : Sp := spV (fun p : Tru × Str × Str => ∃ N, TOk N p.1 ∧ p.2.1 ∈ N) (fun p => [eTru p.1, .str p.2.1, .str p.2.2]) fun _ => .none
def sp_want_lot : Sp := spV (fun p : Tru × List Str × Str => ∃ N, TOk N p.1 ∧ Can N p.2.1) (fun p => [eTru p.1, eSet p.2.1, .str p.2.2]) fun _ => .none
/-! ### needs, falls -/
abbrev THL (p : Tru × Str × List Str) : Prop := ∃ N, TOk N p.1 ∧ p.2.1 ∈ N ∧ Can N p.2.2
def sp_needs_of : Sp := spV TH (fun p => [eTru p.1, .str p.2]) fun p => eSets (needsBy p.1 p.2)
def sp_meets_needs : Sp := spV THL (fun p => [eTru p.1, .str p.2.1, eSet p.2.2]) fun p => eB (missedBy (needsBy p.1 p.2.1) p.2.2).isNone
def sp_first_missed : Sp := spV THL (fun p => [eTru p.1, .str p.2.1, eSet p.2.2]) fun p => eOpt eSet (missedBy (needsBy p.1 p.2.1) p.2.2)
def lotsMet (T : Tru) (h : Str) : List (List Str) := crossL (namesOf T) (needsBy T h)
def sp_least_lots : Sp := spV TH (fun p => [eTru p.1, .str p.2]) fun p => eSets (lotsMet p.1 p.2)
def fewOf (L : List (List Str)) : Option (List Str) := L.find? fun a => L.all fun b => decide (a.length ≤ b.length)
def sp_fewest_lot : Sp := spV TH (fun p => [eTru p.1, .str p.2]) fun p => eOpt eSet (fewOf (lotsMet p.1 p.2))
def sp_safe_houses : Sp := spV (fun p : Tru × List Str => ∃ N, TOk N p.1 ∧ Can N p.2) (fun p => [eTru p.1, eSet p.2]) fun p => eSet (safeBy p.1 p.2)
/-! ### rules -/
abbrev BK (p : Book × Nat) : Prop := BGood p.1 ∧ p.2 < p.1.asks.length
def askAt (b : Book) (k : Nat) : Ask := (b.asks[k]?).getD ⟨"", [], []⟩
def sp_want_rule : Sp := spV BK (fun p => [eBook p.1, .int p.2]) fun _ => .none
def sp_lasting_in : Sp := spV BK (fun p => [eBook p.1, .int p.2]) fun _ => .tuple []
def sp_caught_in : Sp := spV (fun p : (Book × Nat) × List Str => BK p.1 ∧ Few p.2) (fun p => [eBook p.1.1, .int p.1.2, eSet p.2]) fun p => eB (meets p.2 (askAt p.1.1 p.1.2).lot)
def movesM (m : Mach) (x : Str) : Bool := decide (x ∈ (if m.looks.length = 1 then ["lit"] else ["new"] : List Str))
def sp_moves_in : Sp := spV (fun p : Mach × Str => (∃ j, p.1 = machOf j) ∧ p.2 ∈ p.1.looks) (fun p => [eMach p.1, .str p.2, .int 0]) fun p => eB (movesM p.1 p.2)
def movingB (b : Book) (k : Nat) : Option Str := (askAt b k).looks.find? fun x => movesM b.m x
def sp_moving_in : Sp := spV BK (fun p => [eBook p.1, .int p.2, .int 0]) fun p => eOpt eS (movingB p.1 p.2)
def lacksB (b : Book) (k : Nat) : List (List Str) := match movingB b k with
  | some _ => (needsBy b.T (askAt b k).house).filter fun n => !meets n (askAt b k).lot
  | none => []
def sp_lacks_in : Sp := spV BK (fun p => [eBook p.1, .int p.2, .int 0]) fun p => eSets (lacksB p.1 p.2)
def sp_rule_lacks : Sp := spV BK (fun p => [eBook p.1, .int p.2, .int 0]) fun p => eSets (lacksB p.1 p.2)
def sp_rule_is_right : Sp := spV BK (fun p => [eBook p.1, .int p.2, .int 0]) fun p => eB (lacksB p.1 p.2).isEmpty
/-! ### the machine's walk -/
def sp_answer_in : Sp := spV (fun p : Nat × Nat × Str => p.2.1 < 2 ∧ p.2.2 ∈ (machOf p.1).looks) (fun p => [eMach (machOf p.1), .int p.2.1, .str p.2.2]) fun p => .int ((((machOf p.1).answers[p.2.1]?).getD [])[(machOf p.1).looks.idxOf p.2.2]?.getD 0)
/-- a new dict with the two states, the start first -/
def spRows {α : Type} (pre : α → Prop) (args : α → List PyData) (st : α → Nat) : Sp := fun vs H Q _ => ∃ (f : Fe) (O : List Addr) (x : α), pre x ∧ Wd f O H ∧ VRs O H vs ((args x).map Sl.dat) ∧
  ∀ (d : Addr) (u v : V) H', Ext f H H' → H d = none → d ∉ O → H' d = some (.dK [(Sum.inl (st x : Int), u), (Sum.inl (1 - (st x : Int)), v)]) → Q (.ref d) H'
def sp_rows_from : Sp := spRows (fun p : Nat × Nat => p.2 < 2) (fun p => [eMach (machOf p.1), .int p.2]) fun p => p.2
def sp_rows_in : Sp := spRows (fun _ : Nat => True) (fun j => [eMach (machOf j)]) fun _ => 0
def unlikeM (j s : Nat) (x : Str) : List Int := if x = "still" then [] else [1 - (s : Int)]
abbrev MSL (p : Nat × Nat × Str) : Prop := p.2.1 < 2 ∧ p.2.2 ∈ (machOf p.1).looks
def sp_unlike_from : Sp := spV MSL (fun p => [eMach (machOf p.1), .str p.2.2, .int p.2.1]) fun p => eL eI (unlikeM p.1 p.2.1 p.2.2)
def sp_kept_within : Sp := spV (fun p : Nat × Nat => p.2 < 2) (fun p => [eMach (machOf p.1), eL eI [1 - (p.2 : Int)], eL eI [1 - (p.2 : Int)]]) fun p => eL eI [1 - (p.2 : Int)]
def sp_longest_from : Sp := spV MSL (fun p => [eMach (machOf p.1), .str p.2.2, .int p.2.1]) fun p => if p.2.2 = "still" then .int 0 else .none
def sp_least_age_in : Sp := spV (fun p : Nat × Str => p.2 ∈ (machOf p.1).looks) (fun p => [eMach (machOf p.1), .str p.2]) fun p => if p.2 = "still" then .int 0 else .none
/-! ### the law's own -/
/-- the script at a -/
abbrev Script (K : PySem.W.Frag) (H : Hp) (a : Addr) (ns : List Int) : Prop := ns.length ≤ 100000 ∧ SqL K H a (ns.map V.int)
def sp_law_feed (K : PySem.W.Frag) : Sp := fun vs H Q _ => ∃ a ns, vs = [.ref a] ∧ Script K H a ns ∧ ∀ H' D c, (∀ b o, H b = some o → H' b = some o) → H D = none → FeedAt H' (D, c) → Q (.ref D) H'
def sp_law_right (K : PySem.W.Frag) : Sp := fun vs H Q _ => ∃ a ns, vs = [.ref a] ∧ Script K H a ns ∧ ∀ H', Q (.bl true) H'
def sp_law (K : PySem.W.Frag) : Sp := fun vs H Q _ => ∃ a ns, vs = [.ref a] ∧ Script K H a ns ∧ ∀ H', Q (.bl true) H'
def sp_law_draw : Sp := spG (fun _ (n : Int) => 0 < n ∧ n < 1000000) (fun f n => [.raw (.ref f.1), .dat (.int n)]) fun _ n s => ∃ r, s = .dat (.int r) ∧ 0 ≤ r ∧ r < n
def sp_law_any : Sp := spG (fun _ (p : List PyData × Bool) => p.1 ≠ [] ∧ p.1.length ≤ 1000) (fun f p => [.raw (.ref f.1), .dat (if p.2 then .tuple p.1 else .list p.1)]) fun _ p s => ∃ d ∈ p.1, s = .dat d
def sp_law_same : Sp := spV Shown (fun d => [d, d]) fun _ => eB true
def sp_law_within : Sp := spV (fun p : List Str × List Str => Few p.1 ∧ Few p.2) (fun p => [eSet p.1, eSet p.2]) fun p => eB (within p.1 p.2)
def sp_law_less : Sp := spV (fun p : List Str × List Str => Few p.1 ∧ Few p.2) (fun p => [eSet p.1, eSet p.2]) fun p => eSet (less p.1 p.2)
def sp_law_subsets : Sp := spV (fun p : List Str × Bool => p.1.length ≤ 4) (fun p => [eSeq p.2 eS p.1]) fun p => eL eSet (subsets p.1)
def sp_law_guild : Sp := spG (fun _ (_ : Unit) => True) (fun f _ => [.raw (.ref f.1), .dat (.int 4)]) fun _ _ s => ∃ N T, TOk N T ∧ s = .dat (eTru T)
def sp_law_safe : Sp := spV (fun p : Tru × List Str => TGood p.1 ∧ Few p.2) (fun p => [eTru p.1, eSet p.2]) fun p => eL eS (safeL p.1 p.2)
def sp_law_safes : Sp := spV TGood (fun T => [eTru T]) fun T => eL ePS (safesL T)
def sp_law_minimal : Sp := spV Fam (fun L => [eL eSet L]) fun L => eSets (leastOf L)
def sp_law_needs : Sp := spV TH (fun p => [eTru p.1, eL ePS (safesL p.1), .str p.2]) fun p => eSets (lawNeeds p.1 (safesL p.1) p.2)
def sp_law_meets : Sp := spV (fun p : List (List Str) × List Str × Bool => NSs p.1 ∧ Few p.2.1) (fun p => [eSeq p.2.2 eSet p.1, eSet p.2.1]) fun p => eB (lawMeets p.1 p.2.1)
def sp_law_motor : Sp := spG (fun _ (_ : Unit) => True) (fun f _ => [.raw (.ref f.1)]) fun _ _ s => ∃ j, s = .dat (.tuple [eMach (machOf j), eSet (movesOf j)])
def sp_law_least : Sp := spV (fun p : List (List Str) × List Str => NSs p.1 ∧ p.2 ∈ NMS) (fun p => [eSets p.1, eSet p.2]) fun p => eSets (lawLeast p.1 p.2)
def sp_law_are_needs_right : Sp := spG (fun _ (p : Tru × Str) => TH p) (fun f p => [.raw (.ref f.1), .dat (eTru p.1), .dat (eSet (namesOf p.1)), .dat (.str p.2), .dat (eSets (needsBy p.1 p.2))]) fun _ _ s => s = .dat (eB true)
def sp_law_are_asks_right : Sp := spG (fun _ (T : Tru) => TGood T) (fun f T => [.raw (.ref f.1), .dat (eTru T), .dat (eSet (namesOf T)), .tab ((namesOf T).map fun h => (Sum.inr h, eSets (needsBy T h)))]) fun _ _ s => s = .dat (eB true)
end K60

set_option maxHeartbeats 4000000
namespace K60
open PySem PySem.Spec PyProof.Rows L2
section
variable {P : Program} {w : World} {K : PySem.W.Frag} {mg : Str → Option Value} {base : Heap}

/-! is_integer: 0 thing -/
abbrev N_is_integer : List Str := ["thing"]
abbrev P_is_integer : List Str := ["thing"]
theorem sc_is_integer : FnScope N_is_integer P_is_integer (defScope s_is_integer) := ⟨rfl, rfl, rfl, by decide +kernel, rfl, by decide +kernel, by decide +kernel⟩
def t_is_integer (P : Program) (w : World) (K : PySem.W.Frag) : TS := (tRet (tAndV (tCB (rIsi K) (tCons (tVar 0) (tCons (tC (.ty "int")) tNil))) (tNotV (tCB (rIsi K) (tCons (tVar 0) (tCons (tC (.ty "bool")) tNil))))))
theorem pe_is_integer (T : TB mg)  : BodyOk P w K mg base 0 N_is_integer "is_integer" s_is_integer (t_is_integer P w K) := by
  intro f cdv A outer s H E hr
  have hu : _ + 65 < cLine := hu65 hr
  have hu1 : _ + 64 < cLine := hu64 hr
  have hu2 : _ + 1 < cLine := hu1of hr
  have sc := sc_is_integer
  exact (pss_one (ps_ret (pe_and (pe_callB call_isi (by rfl) T.isinstance_ (by decide +kernel) (pa_cons (pv 0) (pa_cons (pe_bltn (by rfl) T.int_ (by decide +kernel) rfl) pa_nil))) (pe_one (pe_not (pe_callB call_isi (by rfl) T.isinstance_ (by decide +kernel) (pa_cons (pv 0) (pa_cons (pe_bltn (by rfl) T.bool_ (by decide +kernel) rfl) pa_nil))))))))

/-! is_number: 0 thing -/
abbrev N_is_number : List Str := ["thing"]
abbrev P_is_number : List Str := ["thing"]
theorem sc_is_number : FnScope N_is_number P_is_number (defScope s_is_number) := ⟨rfl, rfl, rfl, by decide +kernel, rfl, by decide +kernel, by decide +kernel⟩
def t_is_number (P : Program) (w : World) (K : PySem.W.Frag) : TS := (tRet (tAndV (tCall (sp_is_integer) [] E0 (tCons (tVar 0) tNil)) (tOp (rI0 fun i j => .bl (decide (j ≤ i))) (tVar 0) (tC (.int 0)))))
theorem pe_is_number (T : TB mg) (G_is_integer : Kn P w K mg base "is_integer" P_is_integer 1 (sp_is_integer)) : BodyOk P w K mg base 1 N_is_number "is_number" s_is_number (t_is_number P w K) := by
  intro f cdv A outer s H E hr
  have hu : _ + 65 < cLine := hu65 hr
  have hu1 : _ + 64 < cLine := hu64 hr
  have hu2 : _ + 1 < cLine := hu1of hr
  have sc := sc_is_number
  exact (pss_one (ps_ret (pe_and (pe_kn G_is_integer hr (by decide) (by rfl) (pa_cons (pv 0) pa_nil)) (pe_one (pe_cmpR op_ge (pv 0) pe_int (nomark _))))))

/-! is_index: 0 thing, 1 many -/
abbrev N_is_index : List Str := ["thing", "many"]
abbrev P_is_index : List Str := ["thing", "many"]
theorem sc_is_index : FnScope N_is_index P_is_index (defScope s_is_index) := ⟨rfl, rfl, rfl, by decide +kernel, rfl, by decide +kernel, by decide +kernel⟩
def t_is_index (P : Program) (w : World) (K : PySem.W.Frag) : TS := (tRet (tAndV (tCall (sp_is_number) [] E0 (tCons (tVar 0) tNil)) (tOp (rI0 fun i j => .bl (decide (i < j))) (tVar 0) (tVar 1))))
theorem pe_is_index (T : TB mg) (G_is_number : Kn P w K mg base "is_number" P_is_number 2 (sp_is_number)) : BodyOk P w K mg base 2 N_is_index "is_index" s_is_index (t_is_index P w K) := by
  intro f cdv A outer s H E hr
  have hu : _ + 65 < cLine := hu65 hr
  have hu1 : _ + 64 < cLine := hu64 hr
  have hu2 : _ + 1 < cLine := hu1of hr
  have sc := sc_is_index
  exact (pss_one (ps_ret (pe_and (pe_kn G_is_number hr (by decide) (by rfl) (pa_cons (pv 0) pa_nil)) (pe_one (pe_cmpR op_lt (pv 0) (pv 1) (nomark _))))))

/-! is_among: 0 thing, 1 names -/
abbrev N_is_among : List Str := ["thing", "names"]
abbrev P_is_among : List Str := ["thing", "names"]
theorem sc_is_among : FnScope N_is_among P_is_among (defScope s_is_among) := ⟨rfl, rfl, rfl, by decide +kernel, rfl, by decide +kernel, by decide +kernel⟩
def t_is_among (P : Program) (w : World) (K : PySem.W.Frag) : TS := (tRet (tAndV (tCB (rIsi K) (tCons (tVar 0) (tCons (tC (.ty "str")) tNil))) (tOp (rInA K false) (tVar 0) (tVar 1))))
theorem pe_is_among (T : TB mg)  : BodyOk P w K mg base 0 N_is_among "is_among" s_is_among (t_is_among P w K) := by
  intro f cdv A outer s H E hr
  have hu : _ + 65 < cLine := hu65 hr
  have hu1 : _ + 64 < cLine := hu64 hr
  have hu2 : _ + 1 < cLine := hu1of hr
  have sc := sc_is_among
  exact (pss_one (ps_ret (pe_and (pe_callB call_isi (by rfl) T.isinstance_ (by decide +kernel) (pa_cons (pv 0) (pa_cons (pe_bltn (by rfl) T.str_ (by decide +kernel) rfl) pa_nil))) (pe_one (pe_cmpR (op_inA hu) (pv 0) (pv 1) (by rfl))))))

/-! is_name: 0 thing, 1 sign -/
abbrev N_is_name : List Str := ["thing", "sign"]
abbrev P_is_name : List Str := ["thing"]
theorem sc_is_name : FnScope N_is_name P_is_name (defScope s_is_name) := ⟨rfl, rfl, rfl, by decide +kernel, rfl, by decide +kernel, by decide +kernel⟩
def t_is_name (P : Program) (w : World) (K : PySem.W.Frag) : TS := (tSeq (tIfS (tOr (tNot (tB (tCB (rIsi K) (tCons (tVar 0) (tCons (tC (.ty "str")) tNil))))) (tTest (tOp (rEqD K) (tVar 0) (tC (.str "any"))))) tNever tNext) (tRet (tAndV (tChain (rI0 fun i j => .bl (decide (i ≤ j))) (rI0 fun i j => .bl (decide (i ≤ j))) (tC (.int 1)) (tCB (rLenX K) (tCons (tVar 0) tNil)) (tC (.int 8))) (tCB (rAll K) (tCons (tLc (iStr (tVar 0)) (gName 1) tYes (tOp rInSX (tVar 1) (tC (.str "abcdefghijklmnopqrstuvwxyz"))) [1]) tNil)))))
theorem pe_is_name (T : TB mg)  : BodyOk P w K mg base 0 N_is_name "is_name" s_is_name (t_is_name P w K) := by
  intro f cdv A outer s H E hr
  have hu : _ + 65 < cLine := hu65 hr
  have hu1 : _ + 64 < cLine := hu64 hr
  have hu2 : _ + 1 < cLine := hu1of hr
  have sc := sc_is_name
  exact (pss_cons (ps_if (PW.pt (pw_or (pt_not (pt_val (pe_callB call_isi (by rfl) T.isinstance_ (by decide +kernel) (pa_cons (pv 0) (pa_cons (pe_bltn (by rfl) T.str_ (by decide +kernel) rfl) pa_nil))))) (pw_or1 (pt_cmpR (op_eqD hu1) (pv 0) (pe_const T.any rfl) (nomark _))))) pss_never pss_nil) (pss_one (ps_ret (pe_and (pe_chain op_le op_le pe_int (pe_callB call_len (by rfl) T.len_ (by decide +kernel) (pa_cons (pv 0) pa_nil)) (pe_constI T.most rfl)) (pe_one (pe_callB (cr_all rfl) (by rfl) T.all_ (by decide +kernel) (pa_cons (pe_lc (own := [("sign", 1)]) rfl sc.nd (pi_str (pv 0)) (blkOk_by (by first | rfl | decide +kernel)) (fun _ _ _ _ _ => (pg_name (i := 1) sc.nd rfl (by first | exact .inl rfl | exact .inr rfl))) (fun _ _ _ _ _ => pts_nil) (fun _ _ _ _ _ => (pe_cmpR op_in_str (pv 1) (pe_const T.alphabet rfl) (by rfl)))) pa_nil)))))))

/-! is_tuple_of: 0 thing, 1 many -/
abbrev N_is_tuple_of : List Str := ["thing", "many"]
abbrev P_is_tuple_of : List Str := ["thing", "many"]
theorem sc_is_tuple_of : FnScope N_is_tuple_of P_is_tuple_of (defScope s_is_tuple_of) := ⟨rfl, rfl, rfl, by decide +kernel, rfl, by decide +kernel, by decide +kernel⟩
def t_is_tuple_of (P : Program) (w : World) (K : PySem.W.Frag) : TS := (tRet (tAndV (tCB (rIsi K) (tCons (tVar 0) (tCons (tC (.ty "tuple")) tNil))) (tOp (rEqD K) (tCB (rLenX K) (tCons (tVar 0) tNil)) (tVar 1))))
theorem pe_is_tuple_of (T : TB mg)  : BodyOk P w K mg base 0 N_is_tuple_of "is_tuple_of" s_is_tuple_of (t_is_tuple_of P w K) := by
  intro f cdv A outer s H E hr
  have hu : _ + 65 < cLine := hu65 hr
  have hu1 : _ + 64 < cLine := hu64 hr
  have hu2 : _ + 1 < cLine := hu1of hr
  have sc := sc_is_tuple_of
  exact (pss_one (ps_ret (pe_and (pe_callB call_isi (by rfl) T.isinstance_ (by decide +kernel) (pa_cons (pv 0) (pa_cons (pe_bltn (by rfl) T.tuple_ (by decide +kernel) rfl) pa_nil))) (pe_one (pe_cmpR (op_eqD hu1) (pe_callB call_len (by rfl) T.len_ (by decide +kernel) (pa_cons (pv 0) pa_nil)) (pv 1) (nomark _))))))

/-! are_rising: 0 parts, 1 one, 2 other -/
abbrev N_are_rising : List Str := ["parts", "one", "other"]
abbrev P_are_rising : List Str := ["parts"]
theorem sc_are_rising : FnScope N_are_rising P_are_rising (defScope s_are_rising) := ⟨rfl, rfl, rfl, by decide +kernel, rfl, by decide +kernel, by decide +kernel⟩
def t_are_rising (P : Program) (w : World) (K : PySem.W.Frag) : TS := (tRet (tCB (rAll K) (tCons (tLc (RZ.iZipA K (tCons (tVar 0) (tCons (L2.tSl (rSlQ K) (tVar 0) (tPart (tC (.int 1))) tNoPart) tNil))) (gTup K 2 (gCons (gName 1) (gCons (gName 2) gNil))) tYes (tOp (rLtD K) (tVar 1) (tVar 2)) [1, 2]) tNil)))
theorem pe_are_rising (T : TB mg)  : BodyOk P w K mg base 0 N_are_rising "are_rising" s_are_rising (t_are_rising P w K) := by
  intro f cdv A outer s H E hr
  have hu : _ + 65 < cLine := hu65 hr
  have hu1 : _ + 64 < cLine := hu64 hr
  have hu2 : _ + 1 < cLine := hu1of hr
  have sc := sc_are_rising
  exact (pss_one (ps_ret (pe_callB (cr_all rfl) (by rfl) T.all_ (by decide +kernel) (pa_cons (pe_lc (own := [("one", 1), ("other", 2)]) rfl sc.nd (RZ.pi_zipA (by rfl) T.zip (pa_cons (pv 0) (pa_cons (pe_slice sl_any (pv 0) (po_some pe_int) po_none) pa_nil))) (blkOk_by (by first | rfl | decide +kernel)) (fun _ _ _ _ _ => (pg_tup rfl (pgs_cons (pg_name (i := 1) sc.nd rfl (by first | exact .inl rfl | exact .inr rfl)) (pgs_cons (pg_name (i := 2) sc.nd rfl (by first | exact .inl rfl | exact .inr rfl)) pgs_nil)))) (fun _ _ _ _ _ => pts_nil) (fun _ _ _ _ _ => (pe_cmpR (op_ltD hu) (pv 1) (pv 2) (nomark _)))) pa_nil))))

/-! is_names: 0 thing, 1 name -/
abbrev N_is_names : List Str := ["thing", "name"]
abbrev P_is_names : List Str := ["thing"]
theorem sc_is_names : FnScope N_is_names P_is_names (defScope s_is_names) := ⟨rfl, rfl, rfl, by decide +kernel, rfl, by decide +kernel, by decide +kernel⟩
def t_is_names (P : Program) (w : World) (K : PySem.W.Frag) : TS := (tRet (tAndV (tCB (rIsi K) (tCons (tVar 0) (tCons (tC (.ty "tuple")) tNil))) (tAndV (tCB (rAll K) (tCons (tLc (iSeq K (tVar 0)) (gName 1) tYes (tCall (sp_is_name) [] E0 (tCons (tVar 1) tNil)) [1]) tNil)) (tCall (sp_are_rising) [] E0 (tCons (tVar 0) tNil)))))
theorem pe_is_names (T : TB mg) (G_is_name : Kn P w K mg base "is_name" P_is_name 1 (sp_is_name)) (G_are_rising : Kn P w K mg base "are_rising" P_are_rising 1 (sp_are_rising)) : BodyOk P w K mg base 1 N_is_names "is_names" s_is_names (t_is_names P w K) := by
  intro f cdv A outer s H E hr
  have hu : _ + 65 < cLine := hu65 hr
  have hu1 : _ + 64 < cLine := hu64 hr
  have hu2 : _ + 1 < cLine := hu1of hr
  have sc := sc_is_names
  exact (pss_one (ps_ret (pe_and (pe_callB call_isi (by rfl) T.isinstance_ (by decide +kernel) (pa_cons (pv 0) (pa_cons (pe_bltn (by rfl) T.tuple_ (by decide +kernel) rfl) pa_nil))) (pe_and (pe_callB (cr_all rfl) (by rfl) T.all_ (by decide +kernel) (pa_cons (pe_lc (own := [("name", 1)]) rfl sc.nd (pi_seq (pv 0)) (blkOk_by (by first | rfl | decide +kernel)) (fun _ _ _ _ _ => (pg_name (i := 1) sc.nd rfl (by first | exact .inl rfl | exact .inr rfl))) (fun _ _ _ _ _ => pts_nil) (fun _ _ _ _ _ => (pe_kn G_is_name hr (by decide) (by rfl) (pa_cons (pv 1) pa_nil)))) pa_nil)) (pe_one (pe_kn G_are_rising hr (by decide) (by rfl) (pa_cons (pv 0) pa_nil)))))))

/-! is_names_among: 0 thing, 1 names, 2 name -/
abbrev N_is_names_among : List Str := ["thing", "names", "name"]
abbrev P_is_names_among : List Str := ["thing", "names"]
theorem sc_is_names_among : FnScope N_is_names_among P_is_names_among (defScope s_is_names_among) := ⟨rfl, rfl, rfl, by decide +kernel, rfl, by decide +kernel, by decide +kernel⟩
def t_is_names_among (P : Program) (w : World) (K : PySem.W.Frag) : TS := (tRet (tAndV (tCall (sp_is_names) [] E0 (tCons (tVar 0) tNil)) (tCB (rAll K) (tCons (tLc (iSeq K (tVar 0)) (gName 2) tYes (tOp (rInA K false) (tVar 2) (tVar 1)) [2]) tNil))))
theorem pe_is_names_among (T : TB mg) (G_is_names : Kn P w K mg base "is_names" P_is_names 2 (sp_is_names)) : BodyOk P w K mg base 2 N_is_names_among "is_names_among" s_is_names_among (t_is_names_among P w K) := by
  intro f cdv A outer s H E hr
  have hu : _ + 65 < cLine := hu65 hr
  have hu1 : _ + 64 < cLine := hu64 hr
  have hu2 : _ + 1 < cLine := hu1of hr
  have sc := sc_is_names_among
  exact (pss_one (ps_ret (pe_and (pe_kn G_is_names hr (by decide) (by rfl) (pa_cons (pv 0) pa_nil)) (pe_one (pe_callB (cr_all rfl) (by rfl) T.all_ (by decide +kernel) (pa_cons (pe_lc (own := [("name", 2)]) rfl sc.nd (pi_seq (pv 0)) (blkOk_by (by first | rfl | decide +kernel)) (fun _ _ _ _ _ => (pg_name (i := 2) sc.nd rfl (by first | exact .inl rfl | exact .inr rfl))) (fun _ _ _ _ _ => pts_nil) (fun _ _ _ _ _ => (pe_cmpR (op_inA hu) (pv 2) (pv 1) (by rfl)))) pa_nil))))))

/-! are_sets_among: 0 thing, 1 names, 2 one -/
abbrev N_are_sets_among : List Str := ["thing", "names", "one"]
abbrev P_are_sets_among : List Str := ["thing", "names"]
theorem sc_are_sets_among : FnScope N_are_sets_among P_are_sets_among (defScope s_are_sets_among) := ⟨rfl, rfl, rfl, by decide +kernel, rfl, by decide +kernel, by decide +kernel⟩
def t_are_sets_among (P : Program) (w : World) (K : PySem.W.Frag) : TS := (tSeq (tIfS (tOr (tNot (tB (tCB (rIsi K) (tCons (tVar 0) (tCons (tC (.ty "tuple")) tNil))))) (tTest (tOp (rEqD K) (tCB (rLenX K) (tCons (tVar 0) tNil)) (tC (.int 0))))) tNever tNext) (tRet (tAndV (tCB (rAll K) (tCons (tLc (iSeq K (tVar 0)) (gName 2) tYes (tCall (sp_is_names_among) [] E0 (tCons (tVar 2) (tCons (tVar 1) tNil))) [2]) tNil)) (tCall (sp_are_rising) [] E0 (tCons (tVar 0) tNil)))))
theorem pe_are_sets_among (T : TB mg) (G_is_names_among : Kn P w K mg base "is_names_among" P_is_names_among 3 (sp_is_names_among)) (G_are_rising : Kn P w K mg base "are_rising" P_are_rising 1 (sp_are_rising)) : BodyOk P w K mg base 3 N_are_sets_among "are_sets_among" s_are_sets_among (t_are_sets_among P w K) := by
  intro f cdv A outer s H E hr
  have hu : _ + 65 < cLine := hu65 hr
  have hu1 : _ + 64 < cLine := hu64 hr
  have hu2 : _ + 1 < cLine := hu1of hr
  have sc := sc_are_sets_among
  exact (pss_cons (ps_if (PW.pt (pw_or (pt_not (pt_val (pe_callB call_isi (by rfl) T.isinstance_ (by decide +kernel) (pa_cons (pv 0) (pa_cons (pe_bltn (by rfl) T.tuple_ (by decide +kernel) rfl) pa_nil))))) (pw_or1 (pt_cmpR (op_eqD hu1) (pe_callB call_len (by rfl) T.len_ (by decide +kernel) (pa_cons (pv 0) pa_nil)) pe_int (nomark _))))) pss_never pss_nil) (pss_one (ps_ret (pe_and (pe_callB (cr_all rfl) (by rfl) T.all_ (by decide +kernel) (pa_cons (pe_lc (own := [("one", 2)]) rfl sc.nd (pi_seq (pv 0)) (blkOk_by (by first | rfl | decide +kernel)) (fun _ _ _ _ _ => (pg_name (i := 2) sc.nd rfl (by first | exact .inl rfl | exact .inr rfl))) (fun _ _ _ _ _ => pts_nil) (fun _ _ _ _ _ => (pe_kn G_is_names_among hr (by decide) (by rfl) (pa_cons (pv 2) (pa_cons (pv 1) pa_nil))))) pa_nil)) (pe_one (pe_kn G_are_rising hr (by decide) (by rfl) (pa_cons (pv 0) pa_nil)))))))

/-! are_indexes: 0 thing, 1 size, 2 many, 3 one -/
abbrev N_are_indexes : List Str := ["thing", "size", "many", "one"]
abbrev P_are_indexes : List Str := ["thing", "size", "many"]
theorem sc_are_indexes : FnScope N_are_indexes P_are_indexes (defScope s_are_indexes) := ⟨rfl, rfl, rfl, by decide +kernel, rfl, by decide +kernel, by decide +kernel⟩
def t_are_indexes (P : Program) (w : World) (K : PySem.W.Frag) : TS := (tRet (tAndV (tCall (sp_is_tuple_of) [] E0 (tCons (tVar 0) (tCons (tVar 1) tNil))) (tCB (rAll K) (tCons (tLc (iSeq K (tVar 0)) (gName 3) tYes (tCall (sp_is_index) [] E0 (tCons (tVar 3) (tCons (tVar 2) tNil))) [3]) tNil))))
theorem pe_are_indexes (T : TB mg) (G_is_tuple_of : Kn P w K mg base "is_tuple_of" P_is_tuple_of 1 (sp_is_tuple_of)) (G_is_index : Kn P w K mg base "is_index" P_is_index 3 (sp_is_index)) : BodyOk P w K mg base 3 N_are_indexes "are_indexes" s_are_indexes (t_are_indexes P w K) := by
  intro f cdv A outer s H E hr
  have hu : _ + 65 < cLine := hu65 hr
  have hu1 : _ + 64 < cLine := hu64 hr
  have hu2 : _ + 1 < cLine := hu1of hr
  have sc := sc_are_indexes
  exact (pss_one (ps_ret (pe_and (pe_kn G_is_tuple_of hr (by decide) (by rfl) (pa_cons (pv 0) (pa_cons (pv 1) pa_nil))) (pe_one (pe_callB (cr_all rfl) (by rfl) T.all_ (by decide +kernel) (pa_cons (pe_lc (own := [("one", 3)]) rfl sc.nd (pi_seq (pv 0)) (blkOk_by (by first | rfl | decide +kernel)) (fun _ _ _ _ _ => (pg_name (i := 3) sc.nd rfl (by first | exact .inl rfl | exact .inr rfl))) (fun _ _ _ _ _ => pts_nil) (fun _ _ _ _ _ => (pe_kn G_is_index hr (by decide) (by rfl) (pa_cons (pv 3) (pa_cons (pv 2) pa_nil))))) pa_nil))))))

/-! are_numbers: 0 thing, 1 size, 2 one -/
abbrev N_are_numbers : List Str := ["thing", "size", "one"]
abbrev P_are_numbers : List Str := ["thing", "size"]
theorem sc_are_numbers : FnScope N_are_numbers P_are_numbers (defScope s_are_numbers) := ⟨rfl, rfl, rfl, by decide +kernel, rfl, by decide +kernel, by decide +kernel⟩
def t_are_numbers (P : Program) (w : World) (K : PySem.W.Frag) : TS := (tRet (tAndV (tCall (sp_is_tuple_of) [] E0 (tCons (tVar 0) (tCons (tVar 1) tNil))) (tCB (rAll K) (tCons (tLc (iSeq K (tVar 0)) (gName 2) tYes (tCall (sp_is_number) [] E0 (tCons (tVar 2) tNil)) [2]) tNil))))
theorem pe_are_numbers (T : TB mg) (G_is_tuple_of : Kn P w K mg base "is_tuple_of" P_is_tuple_of 1 (sp_is_tuple_of)) (G_is_number : Kn P w K mg base "is_number" P_is_number 2 (sp_is_number)) : BodyOk P w K mg base 2 N_are_numbers "are_numbers" s_are_numbers (t_are_numbers P w K) := by
  intro f cdv A outer s H E hr
  have hu : _ + 65 < cLine := hu65 hr
  have hu1 : _ + 64 < cLine := hu64 hr
  have hu2 : _ + 1 < cLine := hu1of hr
  have sc := sc_are_numbers
  exact (pss_one (ps_ret (pe_and (pe_kn G_is_tuple_of hr (by decide) (by rfl) (pa_cons (pv 0) (pa_cons (pv 1) pa_nil))) (pe_one (pe_callB (cr_all rfl) (by rfl) T.all_ (by decide +kernel) (pa_cons (pe_lc (own := [("one", 2)]) rfl sc.nd (pi_seq (pv 0)) (blkOk_by (by first | rfl | decide +kernel)) (fun _ _ _ _ _ => (pg_name (i := 2) sc.nd rfl (by first | exact .inl rfl | exact .inr rfl))) (fun _ _ _ _ _ => pts_nil) (fun _ _ _ _ _ => (pe_kn G_is_number hr (by decide) (by rfl) (pa_cons (pv 2) pa_nil)))) pa_nil))))))

/-! machine_fault: 0 thing, 1 letters, 2 looks, 3 moves, 4 answers, 5 state, 6 goals, 7 numbers -/
abbrev N_machine_fault : List Str := ["thing", "letters", "looks", "moves", "answers", "state", "goals", "numbers"]
abbrev P_machine_fault : List Str := ["thing"]
theorem sc_machine_fault : FnScope N_machine_fault P_machine_fault (defScope s_machine_fault) := ⟨rfl, rfl, rfl, by decide +kernel, rfl, by decide +kernel, by decide +kernel⟩
def t_machine_fault (P : Program) (w : World) (K : PySem.W.Frag) : TS := (tSeq (tIfS (tNot (tB (tCall (sp_is_tuple_of) [] E0 (tCons (tVar 0) (tCons (tC (.int 4)) tNil))))) tNever tNext) (tSeq (tAsg (tVar 0) (gTup K 4 (gCons (gName 1) (gCons (gName 2) (gCons (gName 3) (gCons (gName 4) gNil)))))) (tSeq (tIfS (tOr (tNot (tB (tCall (sp_is_names) [] E0 (tCons (tVar 1) tNil)))) (tTest (tOp (rI0 fun i j => .bl (decide (i < j))) (tCB (rLenX K) (tCons (tVar 1) tNil)) (tC (.int 2))))) tNever tNext) (tSeq (tIfS (tOr (tNot (tB (tCall (sp_is_names) [] E0 (tCons (tVar 2) tNil)))) (tTest (tOp (rI0 fun i j => .bl (decide (i < j))) (tCB (rLenX K) (tCons (tVar 2) tNil)) (tC (.int 1))))) tNever tNext) (tSeq (tIfS (tOr (tNot (tB (tCB (rIsi K) (tCons (tVar 3) (tCons (tC (.ty "tuple")) tNil))))) (tTest (tOp (rEqD K) (tCB (rLenX K) (tCons (tVar 3) tNil)) (tC (.int 0))))) tNever tNext) (tSeq (tFor (iEnumT K (tCons (tVar 3) tNil)) (gTup K 2 (gCons (gName 5) (gCons (gName 6) gNil))) (tIfS (tNot (tB (tCall (sp_are_indexes) [] E0 (tCons (tVar 6) (tCons (tCB (rLenX K) (tCons (tVar 1) tNil)) (tCons (tCB (rLenX K) (tCons (tVar 3) tNil)) tNil)))))) tNever tNext)) (tSeq (tIfS (tNot (tB (tCall (sp_is_tuple_of) [] E0 (tCons (tVar 4) (tCons (tCB (rLenX K) (tCons (tVar 3) tNil)) tNil))))) tNever tNext) (tSeq (tFor (iEnumT K (tCons (tVar 4) tNil)) (gTup K 2 (gCons (gName 5) (gCons (gName 7) gNil))) (tIfS (tNot (tB (tCall (sp_are_numbers) [] E0 (tCons (tVar 7) (tCons (tCB (rLenX K) (tCons (tVar 2) tNil)) tNil))))) tNever tNext)) (tRet (tC .non))))))))))
theorem pe_machine_fault (T : TB mg) (G_is_tuple_of : Kn P w K mg base "is_tuple_of" P_is_tuple_of 1 (sp_is_tuple_of)) (G_is_names : Kn P w K mg base "is_names" P_is_names 2 (sp_is_names)) (G_are_indexes : Kn P w K mg base "are_indexes" P_are_indexes 4 (sp_are_indexes)) (G_are_numbers : Kn P w K mg base "are_numbers" P_are_numbers 3 (sp_are_numbers)) : BodyOk P w K mg base 4 N_machine_fault "machine_fault" s_machine_fault (t_machine_fault P w K) := by
  intro f cdv A outer s H E hr
  have hu : _ + 65 < cLine := hu65 hr
  have hu1 : _ + 64 < cLine := hu64 hr
  have hu2 : _ + 1 < cLine := hu1of hr
  have sc := sc_machine_fault
  exact (pss_cons (ps_if (pt_not (pt_val (pe_kn G_is_tuple_of hr (by decide) (by rfl) (pa_cons (pv 0) (pa_cons pe_int pa_nil))))) pss_never pss_nil) (pss_cons (ps_asg (pv 0) (pg_tup rfl (pgs_cons (pg_name (i := 1) sc.nd rfl (by first | exact .inl rfl | exact .inr rfl)) (pgs_cons (pg_name (i := 2) sc.nd rfl (by first | exact .inl rfl | exact .inr rfl)) (pgs_cons (pg_name (i := 3) sc.nd rfl (by first | exact .inl rfl | exact .inr rfl)) (pgs_cons (pg_name (i := 4) sc.nd rfl (by first | exact .inl rfl | exact .inr rfl)) pgs_nil)))))) (pss_cons (ps_if (PW.pt (pw_or (pt_not (pt_val (pe_kn G_is_names hr (by decide) (by rfl) (pa_cons (pv 1) pa_nil)))) (pw_or1 (pt_cmpR op_lt (pe_callB call_len (by rfl) T.len_ (by decide +kernel) (pa_cons (pv 1) pa_nil)) pe_int (nomark _))))) pss_never pss_nil) (pss_cons (ps_if (PW.pt (pw_or (pt_not (pt_val (pe_kn G_is_names hr (by decide) (by rfl) (pa_cons (pv 2) pa_nil)))) (pw_or1 (pt_cmpR op_lt (pe_callB call_len (by rfl) T.len_ (by decide +kernel) (pa_cons (pv 2) pa_nil)) pe_int (nomark _))))) pss_never pss_nil) (pss_cons (ps_if (PW.pt (pw_or (pt_not (pt_val (pe_callB call_isi (by rfl) T.isinstance_ (by decide +kernel) (pa_cons (pv 3) (pa_cons (pe_bltn (by rfl) T.tuple_ (by decide +kernel) rfl) pa_nil))))) (pw_or1 (pt_cmpR (op_eqD hu1) (pe_callB call_len (by rfl) T.len_ (by decide +kernel) (pa_cons (pv 3) pa_nil)) pe_int (nomark _))))) pss_never pss_nil) (pss_cons (ps_for PassesOwn.never rfl (pi_enumT (by rfl) T.enumerate (pa_cons (pv 3) pa_nil)) (pg_tup rfl (pgs_cons (pg_name (i := 5) sc.nd rfl (by first | exact .inl rfl | exact .inr rfl)) (pgs_cons (pg_name (i := 6) sc.nd rfl (by first | exact .inl rfl | exact .inr rfl)) pgs_nil))) (pss_one (ps_if (pt_not (pt_val (pe_kn G_are_indexes hr (by decide) (by rfl) (pa_cons (pv 6) (pa_cons (pe_callB call_len (by rfl) T.len_ (by decide +kernel) (pa_cons (pv 1) pa_nil)) (pa_cons (pe_callB call_len (by rfl) T.len_ (by decide +kernel) (pa_cons (pv 3) pa_nil)) pa_nil)))))) pss_never pss_nil))) (pss_cons (ps_if (pt_not (pt_val (pe_kn G_is_tuple_of hr (by decide) (by rfl) (pa_cons (pv 4) (pa_cons (pe_callB call_len (by rfl) T.len_ (by decide +kernel) (pa_cons (pv 3) pa_nil)) pa_nil))))) pss_never pss_nil) (pss_cons (ps_for PassesOwn.never rfl (pi_enumT (by rfl) T.enumerate (pa_cons (pv 4) pa_nil)) (pg_tup rfl (pgs_cons (pg_name (i := 5) sc.nd rfl (by first | exact .inl rfl | exact .inr rfl)) (pgs_cons (pg_name (i := 7) sc.nd rfl (by first | exact .inl rfl | exact .inr rfl)) pgs_nil))) (pss_one (ps_if (pt_not (pt_val (pe_kn G_are_numbers hr (by decide) (by rfl) (pa_cons (pv 7) (pa_cons (pe_callB call_len (by rfl) T.len_ (by decide +kernel) (pa_cons (pv 2) pa_nil)) pa_nil))))) pss_never pss_nil))) (pss_one (ps_ret pe_non))))))))))

/-! is_triple_from: 0 thing -/
abbrev N_is_triple_from : List Str := ["thing"]
abbrev P_is_triple_from : List Str := ["thing"]
theorem sc_is_triple_from : FnScope N_is_triple_from P_is_triple_from (defScope s_is_triple_from) := ⟨rfl, rfl, rfl, by decide +kernel, rfl, by decide +kernel, by decide +kernel⟩
def t_is_triple_from (P : Program) (w : World) (K : PySem.W.Frag) : TS := (tRet (tAndV (tCall (sp_is_tuple_of) [] E0 (tCons (tVar 0) (tCons (tC (.int 3)) tNil))) (tCall (sp_is_name) [] E0 (tCons (tOp (rIx K) (tVar 0) (tC (.int 0))) tNil))))
theorem pe_is_triple_from (T : TB mg) (G_is_tuple_of : Kn P w K mg base "is_tuple_of" P_is_tuple_of 1 (sp_is_tuple_of)) (G_is_name : Kn P w K mg base "is_name" P_is_name 1 (sp_is_name)) : BodyOk P w K mg base 1 N_is_triple_from "is_triple_from" s_is_triple_from (t_is_triple_from P w K) := by
  intro f cdv A outer s H E hr
  have hu : _ + 65 < cLine := hu65 hr
  have hu1 : _ + 64 < cLine := hu64 hr
  have hu2 : _ + 1 < cLine := hu1of hr
  have sc := sc_is_triple_from
  exact (pss_one (ps_ret (pe_and (pe_kn G_is_tuple_of hr (by decide) (by rfl) (pa_cons (pv 0) (pa_cons pe_int pa_nil))) (pe_one (pe_kn G_is_name hr (by decide) (by rfl) (pa_cons (pe_ix ix_seq (pv 0) pe_int (fun _ _ => rfl)) pa_nil))))))

/-! trust_fault: 0 thing, 1 k, 2 one, 3 houses, 4 house, 5 lots, 6 fears, 7 other -/
abbrev N_trust_fault : List Str := ["thing", "k", "one", "houses", "house", "lots", "fears", "other"]
abbrev P_trust_fault : List Str := ["thing"]
theorem sc_trust_fault : FnScope N_trust_fault P_trust_fault (defScope s_trust_fault) := ⟨rfl, rfl, rfl, by decide +kernel, rfl, by decide +kernel, by decide +kernel⟩
def t_trust_fault (P : Program) (w : World) (K : PySem.W.Frag) : TS := (tSeq (tIfS (tOr (tNot (tB (tCB (rIsi K) (tCons (tVar 0) (tCons (tC (.ty "tuple")) tNil))))) (tTest (tOp (rEqD K) (tCB (rLenX K) (tCons (tVar 0) tNil)) (tC (.int 0))))) tNever tNext) (tSeq (tFor (iEnumT K (tCons (tVar 0) tNil)) (gTup K 2 (gCons (gName 1) (gCons (gName 2) gNil))) (tIfS (tOr (tNot (tB (tCall (sp_is_triple_from) [] E0 (tCons (tVar 2) tNil)))) (tAnd (tTest (tOp (rI0 fun i j => .bl (decide (j < i))) (tVar 1) (tC (.int 0)))) (tTest (tOp rLeSX (tOp (rIx K) (tVar 2) (tC (.int 0))) (tOp (rIx K) (tOp (rIx K) (tVar 0) (tOp (rI0 fun i j => .int (i - j)) (tVar 1) (tC (.int 1)))) (tC (.int 0))))))) tNever tNext)) (tSeq (tAsg (tLc (iSeq K (tVar 0)) (gName 2) tYes (tOp (rIx K) (tVar 2) (tC (.int 0))) [2]) (gName 3)) (tSeq (tFor (iEnumT K (tCons (tVar 0) tNil)) (gTup K 2 (gCons (gName 1) (gCons (gTup K 3 (gCons (gName 4) (gCons (gName 5) (gCons (gName 6) gNil)))) gNil))) (tSeq (tIfS (tOr (tNot (tB (tCall (sp_are_sets_among) [] E0 (tCons (tVar 5) (tCons (tVar 3) tNil))))) (tTest (tOp (rInA K false) (tTup tNil) (tVar 5)))) tNever tNext) (tIfS (tNot (tB (tCall (sp_are_sets_among) [] E0 (tCons (tVar 6) (tCons (tLc (iSeq K (tVar 3)) (gName 7) (tTest (tOp (rNeD K) (tVar 7) (tVar 4))) (tVar 7) [7]) tNil))))) tNever tNext))) (tRet (tC .non))))))
theorem pe_trust_fault (T : TB mg) (G_is_triple_from : Kn P w K mg base "is_triple_from" P_is_triple_from 2 (sp_is_triple_from)) (G_are_sets_among : Kn P w K mg base "are_sets_among" P_are_sets_among 4 (sp_are_sets_among)) : BodyOk P w K mg base 4 N_trust_fault "trust_fault" s_trust_fault (t_trust_fault P w K) := by
  intro f cdv A outer s H E hr
  have hu : _ + 65 < cLine := hu65 hr
  have hu1 : _ + 64 < cLine := hu64 hr
  have hu2 : _ + 1 < cLine := hu1of hr
  have sc := sc_trust_fault
  exact (pss_cons (ps_if (PW.pt (pw_or (pt_not (pt_val (pe_callB call_isi (by rfl) T.isinstance_ (by decide +kernel) (pa_cons (pv 0) (pa_cons (pe_bltn (by rfl) T.tuple_ (by decide +kernel) rfl) pa_nil))))) (pw_or1 (pt_cmpR (op_eqD hu1) (pe_callB call_len (by rfl) T.len_ (by decide +kernel) (pa_cons (pv 0) pa_nil)) pe_int (nomark _))))) pss_never pss_nil) (pss_cons (ps_for PassesOwn.never rfl (pi_enumT (by rfl) T.enumerate (pa_cons (pv 0) pa_nil)) (pg_tup rfl (pgs_cons (pg_name (i := 1) sc.nd rfl (by first | exact .inl rfl | exact .inr rfl)) (pgs_cons (pg_name (i := 2) sc.nd rfl (by first | exact .inl rfl | exact .inr rfl)) pgs_nil))) (pss_one (ps_if (PW.pt (pw_or (pt_not (pt_val (pe_kn G_is_triple_from hr (by decide) (by rfl) (pa_cons (pv 2) pa_nil)))) (pw_or1 (PW.pt (pw_and (pt_cmpR op_gt (pv 1) pe_int (nomark _)) (pw_and1 (pt_cmpR op_le_str (pe_ix ix_seq (pv 2) pe_int (fun _ _ => rfl)) (pe_ix ix_seq (pe_ix ix_seq (pv 0) (pe_op op_sub (pv 1) pe_int) (fun _ _ => rfl)) pe_int (fun _ _ => rfl)) (nomark _)))))))) pss_never pss_nil))) (pss_cons (ps_setLc (i := 3) (own := [("one", 2)]) rfl sc.nd rfl rfl (sw_true rfl rfl rfl (by decide +kernel)) (pi_seq (pv 0)) (blkOk_by (by first | rfl | decide +kernel)) (fun _ _ _ _ _ => (pg_name (i := 2) sc.nd rfl (by first | exact .inl rfl | exact .inr rfl))) (fun _ _ _ _ _ => pts_nil) (fun _ _ _ _ _ => (pe_ix ix_seq (pv 2) pe_int (fun _ _ => rfl)))) (pss_cons (ps_for PassesOwn.never rfl (pi_enumT (by rfl) T.enumerate (pa_cons (pv 0) pa_nil)) (pg_tup rfl (pgs_cons (pg_name (i := 1) sc.nd rfl (by first | exact .inl rfl | exact .inr rfl)) (pgs_cons (pg_tup rfl (pgs_cons (pg_name (i := 4) sc.nd rfl (by first | exact .inl rfl | exact .inr rfl)) (pgs_cons (pg_name (i := 5) sc.nd rfl (by first | exact .inl rfl | exact .inr rfl)) (pgs_cons (pg_name (i := 6) sc.nd rfl (by first | exact .inl rfl | exact .inr rfl)) pgs_nil)))) pgs_nil))) (pss_cons (ps_if (PW.pt (pw_or (pt_not (pt_val (pe_kn G_are_sets_among hr (by decide) (by rfl) (pa_cons (pv 5) (pa_cons (pv 3) pa_nil))))) (pw_or1 (pt_cmpR (op_inA hu) (pe_tup pa_nil) (pv 5) (by rfl))))) pss_never pss_nil) (pss_one (ps_if (pt_not (pt_val (pe_kn G_are_sets_among hr (by decide) (by rfl) (pa_cons (pv 6) (pa_cons (pe_lc (own := [("other", 7)]) rfl sc.nd (pi_seq (pv 3)) (blkOk_by (by first | rfl | decide +kernel)) (fun _ _ _ _ _ => (pg_name (i := 7) sc.nd rfl (by first | exact .inl rfl | exact .inr rfl))) (fun _ _ _ _ _ => (pts_one (pt_cmpR (op_neD hu1) (pv 7) (pv 4) (nomark _)))) (fun _ _ _ _ _ => (pv 7))) pa_nil))))) pss_never pss_nil)))) (pss_one (ps_ret pe_non))))))

/-! order_fault: 0 houses, 1 thing, 2 k, 3 one -/
abbrev N_order_fault : List Str := ["houses", "thing", "k", "one"]
abbrev P_order_fault : List Str := ["houses", "thing"]
theorem sc_order_fault : FnScope N_order_fault P_order_fault (defScope s_order_fault) := ⟨rfl, rfl, rfl, by decide +kernel, rfl, by decide +kernel, by decide +kernel⟩
def t_order_fault (P : Program) (w : World) (K : PySem.W.Frag) : TS := (tSeq (tIfS (tNot (tB (tCB (rIsi K) (tCons (tVar 1) (tCons (tC (.ty "tuple")) tNil))))) tNever tNext) (tSeq (tFor (iEnumT K (tCons (tVar 1) tNil)) (gTup K 2 (gCons (gName 2) (gCons (gName 3) gNil))) tNever) (tRet (tC .non))))
theorem pe_order_fault (T : TB mg)  : BodyOk P w K mg base 2 N_order_fault "order_fault" s_order_fault (t_order_fault P w K) := by
  intro f cdv A outer s H E hr
  have hu : _ + 65 < cLine := hu65 hr
  have hu1 : _ + 64 < cLine := hu64 hr
  have hu2 : _ + 1 < cLine := hu1of hr
  have sc := sc_order_fault
  exact (pss_cons (ps_if (pt_not (pt_val (pe_callB call_isi (by rfl) T.isinstance_ (by decide +kernel) (pa_cons (pv 1) (pa_cons (pe_bltn (by rfl) T.tuple_ (by decide +kernel) rfl) pa_nil))))) pss_never pss_nil) (pss_cons (ps_for PassesOwn.never rfl (pi_enumT (by rfl) T.enumerate (pa_cons (pv 1) pa_nil)) (pg_tup rfl (pgs_cons (pg_name (i := 2) sc.nd rfl (by first | exact .inl rfl | exact .inr rfl)) (pgs_cons (pg_name (i := 3) sc.nd rfl (by first | exact .inl rfl | exact .inr rfl)) pgs_nil))) pss_never) (pss_one (ps_ret pe_non))))

/-! gaps_by: 0 clocks, 1 here, 2 there, 3 gap -/
abbrev N_gaps_by : List Str := ["clocks", "here", "there", "gap"]
abbrev P_gaps_by : List Str := ["clocks"]
theorem sc_gaps_by : FnScope N_gaps_by P_gaps_by (defScope s_gaps_by) := ⟨rfl, rfl, rfl, by decide +kernel, rfl, by decide +kernel, by decide +kernel⟩
def t_gaps_by (P : Program) (w : World) (K : PySem.W.Frag) : TS := (tRet (tDc (iSeq K (tVar 0)) (gTup K 3 (gCons (gName 1) (gCons (gName 2) (gCons (gName 3) gNil)))) tYes (tTup (tCons (tVar 1) (tCons (tVar 2) tNil))) (tVar 3) [1, 2, 3]))
theorem pe_gaps_by (T : TB mg)  : BodyOk P w K mg base 0 N_gaps_by "gaps_by" s_gaps_by (t_gaps_by P w K) := by
  intro f cdv A outer s H E hr
  have hu : _ + 65 < cLine := hu65 hr
  have hu1 : _ + 64 < cLine := hu64 hr
  have hu2 : _ + 1 < cLine := hu1of hr
  have sc := sc_gaps_by
  exact (pss_one (ps_ret (pe_dc (own := [("here", 1), ("there", 2), ("gap", 3)]) rfl sc.nd (pi_seq (pv 0)) (blkOk_by (by first | rfl | decide +kernel)) (fun _ _ _ _ _ => (pg_tup rfl (pgs_cons (pg_name (i := 1) sc.nd rfl (by first | exact .inl rfl | exact .inr rfl)) (pgs_cons (pg_name (i := 2) sc.nd rfl (by first | exact .inl rfl | exact .inr rfl)) (pgs_cons (pg_name (i := 3) sc.nd rfl (by first | exact .inl rfl | exact .inr rfl)) pgs_nil))))) (fun _ _ _ _ _ => pts_nil) (fun _ _ _ _ _ => (pe_tup (pa_cons (pv 1) (pa_cons (pv 2) pa_nil)))) (fun _ _ _ _ _ => (pv 3)))))

/-! triangle_fault: 0 thing, 1 gaps, 2 names, 3 one, 4 here, 5 over, 6 there -/
abbrev N_triangle_fault : List Str := ["thing", "gaps", "names", "one", "here", "over", "there"]
abbrev P_triangle_fault : List Str := ["thing"]
theorem sc_triangle_fault : FnScope N_triangle_fault P_triangle_fault (defScope s_triangle_fault) := ⟨rfl, rfl, rfl, by decide +kernel, rfl, by decide +kernel, by decide +kernel⟩
def t_triangle_fault (P : Program) (w : World) (K : PySem.W.Frag) : TS := (tSeq (tAsg (tCall (sp_gaps_by) [] E0 (tCons (tVar 0) tNil)) (gName 1)) (tSeq (tAsg (tCB (rSortedT2 K P w) (tCons (tCB (rSetT K P w) (tCons (tOp rCat (tLc (iSeq K (tVar 0)) (gName 3) tYes (tOp (rIx K) (tVar 3) (tC (.int 0))) [3]) (tLc (iSeq K (tVar 0)) (gName 3) tYes (tOp (rIx K) (tVar 3) (tC (.int 1))) [3])) tNil)) tNil)) (gName 2)) (tSeq (tFor (iSeq K (tVar 2)) (gName 4) tNever) (tRet (tC .non)))))
theorem pe_triangle_fault (T : TB mg) (G_gaps_by : Kn P w K mg base "gaps_by" P_gaps_by 1 (sp_gaps_by)) : BodyOk P w K mg base 1 N_triangle_fault "triangle_fault" s_triangle_fault (t_triangle_fault P w K) := by
  intro f cdv A outer s H E hr
  have hu : _ + 65 < cLine := hu65 hr
  have hu1 : _ + 64 < cLine := hu64 hr
  have hu2 : _ + 1 < cLine := hu1of hr
  have sc := sc_triangle_fault
  exact (pss_cons (ps_set (i := 1) sc.nd rfl (.inl rfl) (pe_kn G_gaps_by hr (by decide) (by rfl) (pa_cons (pv 0) pa_nil))) (pss_cons (ps_set (i := 2) sc.nd rfl (.inl rfl) (pe_callB (cr_sortedT2 rfl hu1) (by rfl) T.sorted (by decide +kernel) (pa_cons (pe_callTy (cr_setT rfl hu1) (by rfl) T.set (by decide +kernel) (pa_cons (pe_op op_cat (pe_lc (own := [("one", 3)]) rfl sc.nd (pi_seq (pv 0)) (blkOk_by (by first | rfl | decide +kernel)) (fun _ _ _ _ _ => (pg_name (i := 3) sc.nd rfl (by first | exact .inl rfl | exact .inr rfl))) (fun _ _ _ _ _ => pts_nil) (fun _ _ _ _ _ => (pe_ix ix_seq (pv 3) pe_int (fun _ _ => rfl)))) (pe_lc (own := [("one", 3)]) rfl sc.nd (pi_seq (pv 0)) (blkOk_by (by first | rfl | decide +kernel)) (fun _ _ _ _ _ => (pg_name (i := 3) sc.nd rfl (by first | exact .inl rfl | exact .inr rfl))) (fun _ _ _ _ _ => pts_nil) (fun _ _ _ _ _ => (pe_ix ix_seq (pv 3) pe_int (fun _ _ => rfl))))) pa_nil)) pa_nil))) (pss_cons (ps_for PassesOwn.never rfl (pi_seq (pv 2)) (pg_name (i := 4) sc.nd rfl (by first | exact .inl rfl | exact .inr rfl)) pss_never) (pss_one (ps_ret pe_non)))))

/-! clocks_fault: 0 houses, 1 thing, 2 fault, 3 three -/
abbrev N_clocks_fault : List Str := ["houses", "thing", "fault", "three"]
abbrev P_clocks_fault : List Str := ["houses", "thing"]
theorem sc_clocks_fault : FnScope N_clocks_fault P_clocks_fault (defScope s_clocks_fault) := ⟨rfl, rfl, rfl, by decide +kernel, rfl, by decide +kernel, by decide +kernel⟩
def t_clocks_fault (P : Program) (w : World) (K : PySem.W.Frag) : TS := (tSeq (tAsg (tCall (sp_order_fault) [] E0 (tCons (tVar 0) (tCons (tVar 1) tNil))) (gName 2)) (tSeq (tIfS (tTest (tOp rNotNX (tVar 2) (tC .non))) tNever tNext) (tSeq (tAsg (tCall (sp_triangle_fault) [] E0 (tCons (tVar 1) tNil)) (gName 3)) (tRet (tIf (tTest (tOp rNotNX (tVar 3) (tC .non))) (tTup (tCons (tC (.str "triangle")) (tCons (tVar 3) tNil))) (tC .non))))))
theorem pe_clocks_fault (T : TB mg) (G_order_fault : Kn P w K mg base "order_fault" P_order_fault 3 (sp_order_fault)) (G_triangle_fault : Kn P w K mg base "triangle_fault" P_triangle_fault 2 (sp_triangle_fault)) : BodyOk P w K mg base 3 N_clocks_fault "clocks_fault" s_clocks_fault (t_clocks_fault P w K) := by
  intro f cdv A outer s H E hr
  have hu : _ + 65 < cLine := hu65 hr
  have hu1 : _ + 64 < cLine := hu64 hr
  have hu2 : _ + 1 < cLine := hu1of hr
  have sc := sc_clocks_fault
  exact (pss_cons (ps_set (i := 2) sc.nd rfl (.inl rfl) (pe_kn G_order_fault hr (by decide) (by rfl) (pa_cons (pv 0) (pa_cons (pv 1) pa_nil)))) (pss_cons (ps_if (pt_cmpR op_notN (pv 2) pe_non (nomark _)) pss_never pss_nil) (pss_cons (ps_set (i := 3) sc.nd rfl (.inl rfl) (pe_kn G_triangle_fault hr (by decide) (by rfl) (pa_cons (pv 1) pa_nil))) (pss_one (ps_ret (pe_ifExp (pt_cmpR op_notN (pv 3) pe_non (nomark _)) (pe_tup (pa_cons pe_str (pa_cons (pv 3) pa_nil))) pe_non))))))

/-! are_promises: 0 thing, 1 end, 2 one -/
abbrev N_are_promises : List Str := ["thing", "end", "one"]
abbrev P_are_promises : List Str := ["thing", "end"]
theorem sc_are_promises : FnScope N_are_promises P_are_promises (defScope s_are_promises) := ⟨rfl, rfl, rfl, by decide +kernel, rfl, by decide +kernel, by decide +kernel⟩
def t_are_promises (P : Program) (w : World) (K : PySem.W.Frag) : TS := (tSeq (tIfS (tOr (tNot (tB (tCB (rIsi K) (tCons (tVar 0) (tCons (tC (.ty "tuple")) tNil))))) (tNot (tB (tCB (rAll K) (tCons (tLc (iSeq K (tVar 0)) (gName 2) tYes tNev [2]) tNil))))) tNever tNext) (tSeq (tIfS (tNot (tB (tCB (rAll K) (tCons (tLc (iSeq K (tVar 0)) (gName 2) tYes (tAndV (tCall (sp_is_name) [] E0 (tCons (tOp (rIx K) (tVar 2) (tC (.int 0))) tNil)) (tCall (sp_is_integer) [] E0 (tCons (tOp (rIx K) (tVar 2) (tC (.int 1))) tNil))) [2]) tNil)))) tNever tNext) (tRet (tAndV (tCall (sp_are_rising) [] E0 (tCons (tLc (iSeq K (tVar 0)) (gName 2) tYes (tOp (rIx K) (tVar 2) (tC (.int 0))) [2]) tNil)) (tOrV (tOp (rEqD K) (tCB (rLenX K) (tCons (tVar 0) tNil)) (tC (.int 0))) (tOp (rNeD K) (tVar 1) (tC (.str "any"))))))))
theorem pe_are_promises (T : TB mg) (G_is_name : Kn P w K mg base "is_name" P_is_name 1 (sp_is_name)) (G_is_integer : Kn P w K mg base "is_integer" P_is_integer 1 (sp_is_integer)) (G_are_rising : Kn P w K mg base "are_rising" P_are_rising 1 (sp_are_rising)) : BodyOk P w K mg base 2 N_are_promises "are_promises" s_are_promises (t_are_promises P w K) := by
  intro f cdv A outer s H E hr
  have hu : _ + 65 < cLine := hu65 hr
  have hu1 : _ + 64 < cLine := hu64 hr
  have hu2 : _ + 1 < cLine := hu1of hr
  have sc := sc_are_promises
  exact (pss_cons (ps_if (PW.pt (pw_or (pt_not (pt_val (pe_callB call_isi (by rfl) T.isinstance_ (by decide +kernel) (pa_cons (pv 0) (pa_cons (pe_bltn (by rfl) T.tuple_ (by decide +kernel) rfl) pa_nil))))) (pw_or1 (pt_not (pt_val (pe_callB (cr_all rfl) (by rfl) T.all_ (by decide +kernel) (pa_cons (pe_lc (own := [("one", 2)]) rfl sc.nd (pi_seq (pv 0)) (blkOk_by (by first | rfl | decide +kernel)) (fun _ _ _ _ _ => (pg_name (i := 2) sc.nd rfl (by first | exact .inl rfl | exact .inr rfl))) (fun _ _ _ _ _ => pts_nil) (fun _ _ _ _ _ => pe_nev)) pa_nil))))))) pss_never pss_nil) (pss_cons (ps_if (pt_not (pt_val (pe_callB (cr_all rfl) (by rfl) T.all_ (by decide +kernel) (pa_cons (pe_lc (own := [("one", 2)]) rfl sc.nd (pi_seq (pv 0)) (blkOk_by (by first | rfl | decide +kernel)) (fun _ _ _ _ _ => (pg_name (i := 2) sc.nd rfl (by first | exact .inl rfl | exact .inr rfl))) (fun _ _ _ _ _ => pts_nil) (fun _ _ _ _ _ => (pe_and (pe_kn G_is_name hr (by decide) (by rfl) (pa_cons (pe_ix ix_seq (pv 2) pe_int (fun _ _ => rfl)) pa_nil)) (pe_one (pe_kn G_is_integer hr (by decide) (by rfl) (pa_cons (pe_ix ix_seq (pv 2) pe_int (fun _ _ => rfl)) pa_nil)))))) pa_nil)))) pss_never pss_nil) (pss_one (ps_ret (pe_and (pe_kn G_are_rising hr (by decide) (by rfl) (pa_cons (pe_lc (own := [("one", 2)]) rfl sc.nd (pi_seq (pv 0)) (blkOk_by (by first | rfl | decide +kernel)) (fun _ _ _ _ _ => (pg_name (i := 2) sc.nd rfl (by first | exact .inl rfl | exact .inr rfl))) (fun _ _ _ _ _ => pts_nil) (fun _ _ _ _ _ => (pe_ix ix_seq (pv 2) pe_int (fun _ _ => rfl)))) pa_nil)) (pe_one (pe_or (pe_cmpR (op_eqD hu1) (pe_callB call_len (by rfl) T.len_ (by decide +kernel) (pa_cons (pv 0) pa_nil)) pe_int (nomark _)) (pe_one (pe_cmpR (op_neD hu1) (pv 1) (pe_const T.any rfl) (nomark _))))))))))

/-! is_looking: 0 thing -/
abbrev N_is_looking : List Str := ["thing"]
abbrev P_is_looking : List Str := ["thing"]
theorem sc_is_looking : FnScope N_is_looking P_is_looking (defScope s_is_looking) := ⟨rfl, rfl, rfl, by decide +kernel, rfl, by decide +kernel, by decide +kernel⟩
def t_is_looking (P : Program) (w : World) (K : PySem.W.Frag) : TS := (tSeq (tIfS (tOr (tNot (tB (tCall (sp_is_tuple_of) [] E0 (tCons (tVar 0) (tCons (tC (.int 5)) tNil))))) (tOr (tNot (tB (tCall (sp_is_name) [] E0 (tCons (tOp (rIx K) (tVar 0) (tC (.int 0))) tNil)))) (tOr (tNot (tB (tCall (sp_is_names) [] E0 (tCons (tOp (rIx K) (tVar 0) (tC (.int 1))) tNil)))) (tTest (tOp (rEqD K) (tCB (rLenX K) (tCons (tOp (rIx K) (tVar 0) (tC (.int 1))) tNil)) (tC (.int 0))))))) tNever tNext) (tSeq (tIfS (tOr (tNot (tB (tCall (sp_is_names) [] E0 (tCons (tOp (rIx K) (tVar 0) (tC (.int 2))) tNil)))) (tNot (tOr (tB (tCall (sp_is_integer) [] E0 (tCons (tOp (rIx K) (tVar 0) (tC (.int 3))) tNil))) (tB (tCall (sp_is_among) [] E0 (tCons (tOp (rIx K) (tVar 0) (tC (.int 3))) (tCons (tTup (tCons (tC (.str "any")) tNil)) tNil))))))) tNever tNext) (tRet (tCall (sp_are_promises) [] E0 (tCons (tOp (rIx K) (tVar 0) (tC (.int 4))) (tCons (tOp (rIx K) (tVar 0) (tC (.int 3))) tNil))))))
theorem pe_is_looking (T : TB mg) (G_is_tuple_of : Kn P w K mg base "is_tuple_of" P_is_tuple_of 1 (sp_is_tuple_of)) (G_is_name : Kn P w K mg base "is_name" P_is_name 1 (sp_is_name)) (G_is_names : Kn P w K mg base "is_names" P_is_names 2 (sp_is_names)) (G_is_integer : Kn P w K mg base "is_integer" P_is_integer 1 (sp_is_integer)) (G_is_among : Kn P w K mg base "is_among" P_is_among 1 (sp_is_among)) (G_are_promises : Kn P w K mg base "are_promises" P_are_promises 3 (sp_are_promises)) : BodyOk P w K mg base 3 N_is_looking "is_looking" s_is_looking (t_is_looking P w K) := by
  intro f cdv A outer s H E hr
  have hu : _ + 65 < cLine := hu65 hr
  have hu1 : _ + 64 < cLine := hu64 hr
  have hu2 : _ + 1 < cLine := hu1of hr
  have sc := sc_is_looking
  exact (pss_cons (ps_if (PW.pt (pw_or (pt_not (pt_val (pe_kn G_is_tuple_of hr (by decide) (by rfl) (pa_cons (pv 0) (pa_cons pe_int pa_nil))))) (pw_or (pt_not (pt_val (pe_kn G_is_name hr (by decide) (by rfl) (pa_cons (pe_ix ix_seq (pv 0) pe_int (fun _ _ => rfl)) pa_nil)))) (pw_or (pt_not (pt_val (pe_kn G_is_names hr (by decide) (by rfl) (pa_cons (pe_ix ix_seq (pv 0) pe_int (fun _ _ => rfl)) pa_nil)))) (pw_or1 (pt_cmpR (op_eqD hu1) (pe_callB call_len (by rfl) T.len_ (by decide +kernel) (pa_cons (pe_ix ix_seq (pv 0) pe_int (fun _ _ => rfl)) pa_nil)) pe_int (nomark _))))))) pss_never pss_nil) (pss_cons (ps_if (PW.pt (pw_or (pt_not (pt_val (pe_kn G_is_names hr (by decide) (by rfl) (pa_cons (pe_ix ix_seq (pv 0) pe_int (fun _ _ => rfl)) pa_nil)))) (pw_or1 (pt_not (PW.pt (pw_or (pt_val (pe_kn G_is_integer hr (by decide) (by rfl) (pa_cons (pe_ix ix_seq (pv 0) pe_int (fun _ _ => rfl)) pa_nil))) (pw_or1 (pt_val (pe_kn G_is_among hr (by decide) (by rfl) (pa_cons (pe_ix ix_seq (pv 0) pe_int (fun _ _ => rfl)) (pa_cons (pe_tup (pa_cons (pe_const T.any rfl) pa_nil)) pa_nil))))))))))) pss_never pss_nil) (pss_one (ps_ret (pe_kn G_are_promises hr (by decide) (by rfl) (pa_cons (pe_ix ix_seq (pv 0) pe_int (fun _ _ => rfl)) (pa_cons (pe_ix ix_seq (pv 0) pe_int (fun _ _ => rfl)) pa_nil)))))))

/-! is_looking_of: 0 machine, 1 houses, 2 thing, 3 own, 4 house, 5 until -/
abbrev N_is_looking_of : List Str := ["machine", "houses", "thing", "own", "house", "until"]
abbrev P_is_looking_of : List Str := ["machine", "houses", "thing"]
theorem sc_is_looking_of : FnScope N_is_looking_of P_is_looking_of (defScope s_is_looking_of) := ⟨rfl, rfl, rfl, by decide +kernel, rfl, by decide +kernel, by decide +kernel⟩
def t_is_looking_of (P : Program) (w : World) (K : PySem.W.Frag) : TS := (tSeq (tIfS (tOr (tNot (tB (tCall (sp_is_looking) [] E0 (tCons (tVar 2) tNil)))) (tNot (tB (tCall (sp_is_names_among) [] E0 (tCons (tOp (rIx K) (tVar 2) (tC (.int 1))) (tCons (tOp (rIx K) (tVar 0) (tC (.int 1))) tNil)))))) tNever tNext) (tSeq (tAsg (tLst (tCons (tOp (rIx K) (tVar 2) (tC (.int 0))) (StX.tStar K (tOp (rIx K) (tVar 2) (tC (.int 2))) (StX.tStar K (tLc (iSeq K (tOp (rIx K) (tVar 2) (tC (.int 4)))) (gTup K 2 (gCons (gName 4) (gCons (gName 5) gNil))) tYes (tVar 4) [4, 5]) tNil)))) (gName 3)) (tRet (tCB (rAll K) (tCons (tLc (iSeq K (tVar 3)) (gName 4) tYes (tOp (rInA K false) (tVar 4) (tVar 1)) [4]) tNil)))))
theorem pe_is_looking_of (T : TB mg) (G_is_looking : Kn P w K mg base "is_looking" P_is_looking 4 (sp_is_looking)) (G_is_names_among : Kn P w K mg base "is_names_among" P_is_names_among 3 (sp_is_names_among)) : BodyOk P w K mg base 4 N_is_looking_of "is_looking_of" s_is_looking_of (t_is_looking_of P w K) := by
  intro f cdv A outer s H E hr
  have hu : _ + 65 < cLine := hu65 hr
  have hu1 : _ + 64 < cLine := hu64 hr
  have hu2 : _ + 1 < cLine := hu1of hr
  have sc := sc_is_looking_of
  exact (pss_cons (ps_if (PW.pt (pw_or (pt_not (pt_val (pe_kn G_is_looking hr (by decide) (by rfl) (pa_cons (pv 2) pa_nil)))) (pw_or1 (pt_not (pt_val (pe_kn G_is_names_among hr (by decide) (by rfl) (pa_cons (pe_ix ix_seq (pv 2) pe_int (fun _ _ => rfl)) (pa_cons (pe_ix ix_seq (pv 0) pe_int (fun _ _ => rfl)) pa_nil)))))))) pss_never pss_nil) (pss_cons (ps_set (i := 3) sc.nd rfl (.inl rfl) (pe_lst (pa_cons (pe_ix ix_seq (pv 2) pe_int (fun _ _ => rfl)) (StX.pa_star (pe_ix ix_seq (pv 2) pe_int (fun _ _ => rfl)) (StX.pa_star (pe_lc (own := [("house", 4), ("until", 5)]) rfl sc.nd (pi_seq (pe_ix ix_seq (pv 2) pe_int (fun _ _ => rfl))) (blkOk_by (by first | rfl | decide +kernel)) (fun _ _ _ _ _ => (pg_tup rfl (pgs_cons (pg_name (i := 4) sc.nd rfl (by first | exact .inl rfl | exact .inr rfl)) (pgs_cons (pg_name (i := 5) sc.nd rfl (by first | exact .inl rfl | exact .inr rfl)) pgs_nil)))) (fun _ _ _ _ _ => pts_nil) (fun _ _ _ _ _ => (pv 4))) pa_nil))))) (pss_one (ps_ret (pe_callB (cr_all rfl) (by rfl) T.all_ (by decide +kernel) (pa_cons (pe_lc (own := [("house", 4)]) rfl sc.nd (pi_seq (pv 3)) (blkOk_by (by first | rfl | decide +kernel)) (fun _ _ _ _ _ => (pg_name (i := 4) sc.nd rfl (by first | exact .inl rfl | exact .inr rfl))) (fun _ _ _ _ _ => pts_nil) (fun _ _ _ _ _ => (pe_cmpR (op_inA hu) (pv 4) (pv 1) (by rfl)))) pa_nil))))))

/-! rules_fault: 0 machine, 1 houses, 2 looking, 3 waking, 4 k, 5 one -/
abbrev N_rules_fault : List Str := ["machine", "houses", "looking", "waking", "k", "one"]
abbrev P_rules_fault : List Str := ["machine", "houses", "looking", "waking"]
theorem sc_rules_fault : FnScope N_rules_fault P_rules_fault (defScope s_rules_fault) := ⟨rfl, rfl, rfl, by decide +kernel, rfl, by decide +kernel, by decide +kernel⟩
def t_rules_fault (P : Program) (w : World) (K : PySem.W.Frag) : TS := (tSeq (tIfS (tNot (tB (tCB (rIsi K) (tCons (tVar 2) (tCons (tC (.ty "tuple")) tNil))))) tNever tNext) (tSeq (tFor (iEnumT K (tCons (tVar 2) tNil)) (gTup K 2 (gCons (gName 4) (gCons (gName 5) gNil))) (tIfS (tNot (tB (tCall (sp_is_looking_of) [] E0 (tCons (tVar 0) (tCons (tVar 1) (tCons (tVar 5) tNil)))))) tNever tNext)) (tSeq (tIfS (tNot (tB (tCB (rIsi K) (tCons (tVar 3) (tCons (tC (.ty "tuple")) tNil))))) tNever tNext) (tSeq (tFor (iEnumT K (tCons (tVar 3) tNil)) (gTup K 2 (gCons (gName 4) (gCons (gName 5) gNil))) tNever) (tRet (tC .non))))))
theorem pe_rules_fault (T : TB mg) (G_is_looking_of : Kn P w K mg base "is_looking_of" P_is_looking_of 5 (sp_is_looking_of)) : BodyOk P w K mg base 5 N_rules_fault "rules_fault" s_rules_fault (t_rules_fault P w K) := by
  intro f cdv A outer s H E hr
  have hu : _ + 65 < cLine := hu65 hr
  have hu1 : _ + 64 < cLine := hu64 hr
  have hu2 : _ + 1 < cLine := hu1of hr
  have sc := sc_rules_fault
  exact (pss_cons (ps_if (pt_not (pt_val (pe_callB call_isi (by rfl) T.isinstance_ (by decide +kernel) (pa_cons (pv 2) (pa_cons (pe_bltn (by rfl) T.tuple_ (by decide +kernel) rfl) pa_nil))))) pss_never pss_nil) (pss_cons (ps_for PassesOwn.never rfl (pi_enumT (by rfl) T.enumerate (pa_cons (pv 2) pa_nil)) (pg_tup rfl (pgs_cons (pg_name (i := 4) sc.nd rfl (by first | exact .inl rfl | exact .inr rfl)) (pgs_cons (pg_name (i := 5) sc.nd rfl (by first | exact .inl rfl | exact .inr rfl)) pgs_nil))) (pss_one (ps_if (pt_not (pt_val (pe_kn G_is_looking_of hr (by decide) (by rfl) (pa_cons (pv 0) (pa_cons (pv 1) (pa_cons (pv 5) pa_nil)))))) pss_never pss_nil))) (pss_cons (ps_if (pt_not (pt_val (pe_callB call_isi (by rfl) T.isinstance_ (by decide +kernel) (pa_cons (pv 3) (pa_cons (pe_bltn (by rfl) T.tuple_ (by decide +kernel) rfl) pa_nil))))) pss_never pss_nil) (pss_cons (ps_for PassesOwn.never rfl (pi_enumT (by rfl) T.enumerate (pa_cons (pv 3) pa_nil)) (pg_tup rfl (pgs_cons (pg_name (i := 4) sc.nd rfl (by first | exact .inl rfl | exact .inr rfl)) (pgs_cons (pg_name (i := 5) sc.nd rfl (by first | exact .inl rfl | exact .inr rfl)) pgs_nil))) pss_never) (pss_one (ps_ret pe_non))))))

/-! parts_fault: 0 thing, 1 machine, 2 trust, 3 clocks, 4 looking, 5 waking, 6 fault, 7 houses, 8 one -/
abbrev N_parts_fault : List Str := ["thing", "machine", "trust", "clocks", "looking", "waking", "fault", "houses", "one"]
abbrev P_parts_fault : List Str := ["thing"]
theorem sc_parts_fault : FnScope N_parts_fault P_parts_fault (defScope s_parts_fault) := ⟨rfl, rfl, rfl, by decide +kernel, rfl, by decide +kernel, by decide +kernel⟩
def t_parts_fault (P : Program) (w : World) (K : PySem.W.Frag) : TS := (tSeq (tIfS (tNot (tB (tCall (sp_is_tuple_of) [] E0 (tCons (tVar 0) (tCons (tC (.int 5)) tNil))))) tNever tNext) (tSeq (tAsg (tVar 0) (gTup K 5 (gCons (gName 1) (gCons (gName 2) (gCons (gName 3) (gCons (gName 4) (gCons (gName 5) gNil))))))) (tSeq (tAsg (tCall (sp_machine_fault) [] E0 (tCons (tVar 1) tNil)) (gName 6)) (tSeq (tIfS (tTest (tOp rNotNX (tVar 6) (tC .non))) tNever tNext) (tSeq (tAsg (tCall (sp_trust_fault) [] E0 (tCons (tVar 2) tNil)) (gName 6)) (tSeq (tIfS (tTest (tOp rNotNX (tVar 6) (tC .non))) tNever tNext) (tSeq (tAsg (tLc (iSeq K (tVar 2)) (gName 8) tYes (tOp (rIx K) (tVar 8) (tC (.int 0))) [8]) (gName 7)) (tSeq (tAsg (tCall (sp_clocks_fault) [] E0 (tCons (tVar 7) (tCons (tVar 3) tNil))) (gName 6)) (tSeq (tIfS (tTest (tOp rNotNX (tVar 6) (tC .non))) tNever tNext) (tRet (tCall (sp_rules_fault) [] E0 (tCons (tVar 1) (tCons (tVar 7) (tCons (tVar 4) (tCons (tVar 5) tNil)))))))))))))))
theorem pe_parts_fault (T : TB mg) (G_is_tuple_of : Kn P w K mg base "is_tuple_of" P_is_tuple_of 1 (sp_is_tuple_of)) (G_machine_fault : Kn P w K mg base "machine_fault" P_machine_fault 5 (sp_machine_fault)) (G_trust_fault : Kn P w K mg base "trust_fault" P_trust_fault 5 (sp_trust_fault)) (G_clocks_fault : Kn P w K mg base "clocks_fault" P_clocks_fault 4 (sp_clocks_fault)) (G_rules_fault : Kn P w K mg base "rules_fault" P_rules_fault 6 (sp_rules_fault)) : BodyOk P w K mg base 6 N_parts_fault "parts_fault" s_parts_fault (t_parts_fault P w K) := by
  intro f cdv A outer s H E hr
  have hu : _ + 65 < cLine := hu65 hr
  have hu1 : _ + 64 < cLine := hu64 hr
  have hu2 : _ + 1 < cLine := hu1of hr
  have sc := sc_parts_fault
  exact (pss_cons (ps_if (pt_not (pt_val (pe_kn G_is_tuple_of hr (by decide) (by rfl) (pa_cons (pv 0) (pa_cons pe_int pa_nil))))) pss_never pss_nil) (pss_cons (ps_asg (pv 0) (pg_tup rfl (pgs_cons (pg_name (i := 1) sc.nd rfl (by first | exact .inl rfl | exact .inr rfl)) (pgs_cons (pg_name (i := 2) sc.nd rfl (by first | exact .inl rfl | exact .inr rfl)) (pgs_cons (pg_name (i := 3) sc.nd rfl (by first | exact .inl rfl | exact .inr rfl)) (pgs_cons (pg_name (i := 4) sc.nd rfl (by first | exact .inl rfl | exact .inr rfl)) (pgs_cons (pg_name (i := 5) sc.nd rfl (by first | exact .inl rfl | exact .inr rfl)) pgs_nil))))))) (pss_cons (ps_set (i := 6) sc.nd rfl (.inl rfl) (pe_kn G_machine_fault hr (by decide) (by rfl) (pa_cons (pv 1) pa_nil))) (pss_cons (ps_if (pt_cmpR op_notN (pv 6) pe_non (nomark _)) pss_never pss_nil) (pss_cons (ps_set (i := 6) sc.nd rfl (.inl rfl) (pe_kn G_trust_fault hr (by decide) (by rfl) (pa_cons (pv 2) pa_nil))) (pss_cons (ps_if (pt_cmpR op_notN (pv 6) pe_non (nomark _)) pss_never pss_nil) (pss_cons (ps_setLc (i := 7) (own := [("one", 8)]) rfl sc.nd rfl rfl (sw_true rfl rfl rfl (by decide +kernel)) (pi_seq (pv 2)) (blkOk_by (by first | rfl | decide +kernel)) (fun _ _ _ _ _ => (pg_name (i := 8) sc.nd rfl (by first | exact .inl rfl | exact .inr rfl))) (fun _ _ _ _ _ => pts_nil) (fun _ _ _ _ _ => (pe_ix ix_seq (pv 8) pe_int (fun _ _ => rfl)))) (pss_cons (ps_set (i := 6) sc.nd rfl (.inl rfl) (pe_kn G_clocks_fault hr (by decide) (by rfl) (pa_cons (pv 7) (pa_cons (pv 3) pa_nil)))) (pss_cons (ps_if (pt_cmpR op_notN (pv 6) pe_non (nomark _)) pss_never pss_nil) (pss_one (ps_ret (pe_kn G_rules_fault hr (by decide) (by rfl) (pa_cons (pv 1) (pa_cons (pv 7) (pa_cons (pv 4) (pa_cons (pv 5) pa_nil))))))))))))))))

/-! is_trust: 0 thing -/
abbrev N_is_trust : List Str := ["thing"]
abbrev P_is_trust : List Str := ["thing"]
theorem sc_is_trust : FnScope N_is_trust P_is_trust (defScope s_is_trust) := ⟨rfl, rfl, rfl, by decide +kernel, rfl, by decide +kernel, by decide +kernel⟩
def t_is_trust (P : Program) (w : World) (K : PySem.W.Frag) : TS := (tRet (tOp rIsNX (tCall (sp_trust_fault) [] E0 (tCons (tVar 0) tNil)) (tC .non)))
theorem pe_is_trust (T : TB mg) (G_trust_fault : Kn P w K mg base "trust_fault" P_trust_fault 5 (sp_trust_fault)) : BodyOk P w K mg base 5 N_is_trust "is_trust" s_is_trust (t_is_trust P w K) := by
  intro f cdv A outer s H E hr
  have hu : _ + 65 < cLine := hu65 hr
  have hu1 : _ + 64 < cLine := hu64 hr
  have hu2 : _ + 1 < cLine := hu1of hr
  have sc := sc_is_trust
  exact (pss_one (ps_ret (pe_cmpR op_isN (pe_kn G_trust_fault hr (by decide) (by rfl) (pa_cons (pv 0) pa_nil)) pe_non (nomark _))))

/-! is_book: 0 thing -/
abbrev N_is_book : List Str := ["thing"]
abbrev P_is_book : List Str := ["thing"]
theorem sc_is_book : FnScope N_is_book P_is_book (defScope s_is_book) := ⟨rfl, rfl, rfl, by decide +kernel, rfl, by decide +kernel, by decide +kernel⟩
def t_is_book (P : Program) (w : World) (K : PySem.W.Frag) : TS := (tRet (tOp rIsNX (tCall (sp_parts_fault) [] E0 (tCons (tVar 0) tNil)) (tC .non)))
theorem pe_is_book (T : TB mg) (G_parts_fault : Kn P w K mg base "parts_fault" P_parts_fault 7 (sp_parts_fault)) : BodyOk P w K mg base 7 N_is_book "is_book" s_is_book (t_is_book P w K) := by
  intro f cdv A outer s H E hr
  have hu : _ + 65 < cLine := hu65 hr
  have hu1 : _ + 64 < cLine := hu64 hr
  have hu2 : _ + 1 < cLine := hu1of hr
  have sc := sc_is_book
  exact (pss_one (ps_ret (pe_cmpR op_isN (pe_kn G_parts_fault hr (by decide) (by rfl) (pa_cons (pv 0) pa_nil)) pe_non (nomark _))))

/-! meets_in: 0 one, 1 other, 2 name -/
abbrev N_meets_in : List Str := ["one", "other", "name"]
abbrev P_meets_in : List Str := ["one", "other"]
theorem sc_meets_in : FnScope N_meets_in P_meets_in (defScope s_meets_in) := ⟨rfl, rfl, rfl, by decide +kernel, rfl, by decide +kernel, by decide +kernel⟩
def t_meets_in (P : Program) (w : World) (K : PySem.W.Frag) : TS := (tRet (tCB (rAny K) (tCons (tLc (iSeq K (tVar 0)) (gName 2) tYes (tOp (rInA K false) (tVar 2) (tVar 1)) [2]) tNil)))
theorem pe_meets_in (T : TB mg)  : BodyOk P w K mg base 0 N_meets_in "meets_in" s_meets_in (t_meets_in P w K) := by
  intro f cdv A outer s H E hr
  have hu : _ + 65 < cLine := hu65 hr
  have hu1 : _ + 64 < cLine := hu64 hr
  have hu2 : _ + 1 < cLine := hu1of hr
  have sc := sc_meets_in
  exact (pss_one (ps_ret (pe_callB (cr_any rfl) (by rfl) T.any_ (by decide +kernel) (pa_cons (pe_lc (own := [("name", 2)]) rfl sc.nd (pi_seq (pv 0)) (blkOk_by (by first | rfl | decide +kernel)) (fun _ _ _ _ _ => (pg_name (i := 2) sc.nd rfl (by first | exact .inl rfl | exact .inr rfl))) (fun _ _ _ _ _ => pts_nil) (fun _ _ _ _ _ => (pe_cmpR (op_inA hu) (pv 2) (pv 1) (by rfl)))) pa_nil))))

/-! joint_in: 0 one, 1 other, 2 name -/
abbrev N_joint_in : List Str := ["one", "other", "name"]
abbrev P_joint_in : List Str := ["one", "other"]
theorem sc_joint_in : FnScope N_joint_in P_joint_in (defScope s_joint_in) := ⟨rfl, rfl, rfl, by decide +kernel, rfl, by decide +kernel, by decide +kernel⟩
def t_joint_in (P : Program) (w : World) (K : PySem.W.Frag) : TS := (tRet (tCB (rTupX K) (tCons (tLc (iSeq K (tVar 0)) (gName 2) (tTest (tOp (rInA K false) (tVar 2) (tVar 1))) (tVar 2) [2]) tNil)))
theorem pe_joint_in (T : TB mg)  : BodyOk P w K mg base 0 N_joint_in "joint_in" s_joint_in (t_joint_in P w K) := by
  intro f cdv A outer s H E hr
  have hu : _ + 65 < cLine := hu65 hr
  have hu1 : _ + 64 < cLine := hu64 hr
  have hu2 : _ + 1 < cLine := hu1of hr
  have sc := sc_joint_in
  exact (pss_one (ps_ret (pe_callTy call_tuple_of (by rfl) T.tuple_ (by decide +kernel) (pa_cons (pe_lc (own := [("name", 2)]) rfl sc.nd (pi_seq (pv 0)) (blkOk_by (by first | rfl | decide +kernel)) (fun _ _ _ _ _ => (pg_name (i := 2) sc.nd rfl (by first | exact .inl rfl | exact .inr rfl))) (fun _ _ _ _ _ => (pts_one (pt_cmpR (op_inA hu) (pv 2) (pv 1) (by rfl)))) (fun _ _ _ _ _ => (pv 2))) pa_nil))))

/-! houses_in: 0 trust, 1 triple -/
abbrev N_houses_in : List Str := ["trust", "triple"]
abbrev P_houses_in : List Str := ["trust"]
theorem sc_houses_in : FnScope N_houses_in P_houses_in (defScope s_houses_in) := ⟨rfl, rfl, rfl, by decide +kernel, rfl, by decide +kernel, by decide +kernel⟩
def t_houses_in (P : Program) (w : World) (K : PySem.W.Frag) : TS := (tRet (tCB (rTupX K) (tCons (tLc (iSeq K (tVar 0)) (gName 1) tYes (tOp (rIx K) (tVar 1) (tC (.int 0))) [1]) tNil)))
theorem pe_houses_in (T : TB mg)  : BodyOk P w K mg base 0 N_houses_in "houses_in" s_houses_in (t_houses_in P w K) := by
  intro f cdv A outer s H E hr
  have hu : _ + 65 < cLine := hu65 hr
  have hu1 : _ + 64 < cLine := hu64 hr
  have hu2 : _ + 1 < cLine := hu1of hr
  have sc := sc_houses_in
  exact (pss_one (ps_ret (pe_callTy call_tuple_of (by rfl) T.tuple_ (by decide +kernel) (pa_cons (pe_lc (own := [("triple", 1)]) rfl sc.nd (pi_seq (pv 0)) (blkOk_by (by first | rfl | decide +kernel)) (fun _ _ _ _ _ => (pg_name (i := 1) sc.nd rfl (by first | exact .inl rfl | exact .inr rfl))) (fun _ _ _ _ _ => pts_nil) (fun _ _ _ _ _ => (pe_ix ix_seq (pv 1) pe_int (fun _ _ => rfl)))) pa_nil))))

/-! lots_of: 0 trust, 1 house, 2 row -/
abbrev N_lots_of : List Str := ["trust", "house", "row"]
abbrev P_lots_of : List Str := ["trust", "house"]
theorem sc_lots_of : FnScope N_lots_of P_lots_of (defScope s_lots_of) := ⟨rfl, rfl, rfl, by decide +kernel, rfl, by decide +kernel, by decide +kernel⟩
def t_lots_of (P : Program) (w : World) (K : PySem.W.Frag) : TS := (tRet (tOp (rIx K) (tOp (rIx K) (tLc (iSeq K (tVar 0)) (gName 2) (tTest (tOp (rEqD K) (tOp (rIx K) (tVar 2) (tC (.int 0))) (tVar 1))) (tVar 2) [2]) (tC (.int 0))) (tC (.int 1))))
theorem pe_lots_of (T : TB mg)  : BodyOk P w K mg base 0 N_lots_of "lots_of" s_lots_of (t_lots_of P w K) := by
  intro f cdv A outer s H E hr
  have hu : _ + 65 < cLine := hu65 hr
  have hu1 : _ + 64 < cLine := hu64 hr
  have hu2 : _ + 1 < cLine := hu1of hr
  have sc := sc_lots_of
  exact (pss_one (ps_ret (pe_ix ix_seq (pe_ix ix_seq (pe_lc (own := [("row", 2)]) rfl sc.nd (pi_seq (pv 0)) (blkOk_by (by first | rfl | decide +kernel)) (fun _ _ _ _ _ => (pg_name (i := 2) sc.nd rfl (by first | exact .inl rfl | exact .inr rfl))) (fun _ _ _ _ _ => (pts_one (pt_cmpR (op_eqD hu1) (pe_ix ix_seq (pv 2) pe_int (fun _ _ => rfl)) (pv 1) (nomark _)))) (fun _ _ _ _ _ => (pv 2))) pe_int (fun _ _ => rfl)) pe_int (fun _ _ => rfl))))

/-! fears_of: 0 trust, 1 house, 2 row -/
abbrev N_fears_of : List Str := ["trust", "house", "row"]
abbrev P_fears_of : List Str := ["trust", "house"]
theorem sc_fears_of : FnScope N_fears_of P_fears_of (defScope s_fears_of) := ⟨rfl, rfl, rfl, by decide +kernel, rfl, by decide +kernel, by decide +kernel⟩
def t_fears_of (P : Program) (w : World) (K : PySem.W.Frag) : TS := (tRet (tOp (rIx K) (tOp (rIx K) (tLc (iSeq K (tVar 0)) (gName 2) (tTest (tOp (rEqD K) (tOp (rIx K) (tVar 2) (tC (.int 0))) (tVar 1))) (tVar 2) [2]) (tC (.int 0))) (tC (.int 2))))
theorem pe_fears_of (T : TB mg)  : BodyOk P w K mg base 0 N_fears_of "fears_of" s_fears_of (t_fears_of P w K) := by
  intro f cdv A outer s H E hr
  have hu : _ + 65 < cLine := hu65 hr
  have hu1 : _ + 64 < cLine := hu64 hr
  have hu2 : _ + 1 < cLine := hu1of hr
  have sc := sc_fears_of
  exact (pss_one (ps_ret (pe_ix ix_seq (pe_ix ix_seq (pe_lc (own := [("row", 2)]) rfl sc.nd (pi_seq (pv 0)) (blkOk_by (by first | rfl | decide +kernel)) (fun _ _ _ _ _ => (pg_name (i := 2) sc.nd rfl (by first | exact .inl rfl | exact .inr rfl))) (fun _ _ _ _ _ => (pts_one (pt_cmpR (op_eqD hu1) (pe_ix ix_seq (pv 2) pe_int (fun _ _ => rfl)) (pv 1) (nomark _)))) (fun _ _ _ _ _ => (pv 2))) pe_int (fun _ _ => rfl)) pe_int (fun _ _ => rfl))))

/-! is_within: 0 one, 1 other, 2 house -/
abbrev N_is_within : List Str := ["one", "other", "house"]
abbrev P_is_within : List Str := ["one", "other"]
theorem sc_is_within : FnScope N_is_within P_is_within (defScope s_is_within) := ⟨rfl, rfl, rfl, by decide +kernel, rfl, by decide +kernel, by decide +kernel⟩
def t_is_within (P : Program) (w : World) (K : PySem.W.Frag) : TS := (tRet (tCB (rAll K) (tCons (tLc (iSeq K (tVar 0)) (gName 2) tYes (tOp (rInA K false) (tVar 2) (tVar 1)) [2]) tNil)))
theorem pe_is_within (T : TB mg)  : BodyOk P w K mg base 0 N_is_within "is_within" s_is_within (t_is_within P w K) := by
  intro f cdv A outer s H E hr
  have hu : _ + 65 < cLine := hu65 hr
  have hu1 : _ + 64 < cLine := hu64 hr
  have hu2 : _ + 1 < cLine := hu1of hr
  have sc := sc_is_within
  exact (pss_one (ps_ret (pe_callB (cr_all rfl) (by rfl) T.all_ (by decide +kernel) (pa_cons (pe_lc (own := [("house", 2)]) rfl sc.nd (pi_seq (pv 0)) (blkOk_by (by first | rfl | decide +kernel)) (fun _ _ _ _ _ => (pg_name (i := 2) sc.nd rfl (by first | exact .inl rfl | exact .inr rfl))) (fun _ _ _ _ _ => pts_nil) (fun _ _ _ _ _ => (pe_cmpR (op_inA hu) (pv 2) (pv 1) (by rfl)))) pa_nil))))

/-! less_by: 0 lot, 1 fall, 2 house -/
abbrev N_less_by : List Str := ["lot", "fall", "house"]
abbrev P_less_by : List Str := ["lot", "fall"]
theorem sc_less_by : FnScope N_less_by P_less_by (defScope s_less_by) := ⟨rfl, rfl, rfl, by decide +kernel, rfl, by decide +kernel, by decide +kernel⟩
def t_less_by (P : Program) (w : World) (K : PySem.W.Frag) : TS := (tRet (tCB (rTupX K) (tCons (tLc (iSeq K (tVar 0)) (gName 2) (tTest (tOp (rInA K true) (tVar 2) (tVar 1))) (tVar 2) [2]) tNil)))
theorem pe_less_by (T : TB mg)  : BodyOk P w K mg base 0 N_less_by "less_by" s_less_by (t_less_by P w K) := by
  intro f cdv A outer s H E hr
  have hu : _ + 65 < cLine := hu65 hr
  have hu1 : _ + 64 < cLine := hu64 hr
  have hu2 : _ + 1 < cLine := hu1of hr
  have sc := sc_less_by
  exact (pss_one (ps_ret (pe_callTy call_tuple_of (by rfl) T.tuple_ (by decide +kernel) (pa_cons (pe_lc (own := [("house", 2)]) rfl sc.nd (pi_seq (pv 0)) (blkOk_by (by first | rfl | decide +kernel)) (fun _ _ _ _ _ => (pg_name (i := 2) sc.nd rfl (by first | exact .inl rfl | exact .inr rfl))) (fun _ _ _ _ _ => (pts_one (pt_cmpR (op_notInA hu) (pv 2) (pv 1) (by rfl)))) (fun _ _ _ _ _ => (pv 2))) pa_nil))))

/-! least_of: 0 sets, 1 some, 2 found, 3 one, 4 late -/
abbrev N_least_of : List Str := ["sets", "some", "found", "one", "late"]
abbrev P_least_of : List Str := ["sets"]
theorem sc_least_of : FnScope N_least_of P_least_of (defScope s_least_of) := ⟨rfl, rfl, rfl, by decide +kernel, rfl, by decide +kernel, by decide +kernel⟩
def t_least_of (P : Program) (w : World) (K : PySem.W.Frag) : TS := (tSeq (tAsg (tCB (rSortedT2 K P w) (tCons (tCB (rSetT K P w) (tCons (tVar 0) tNil)) tNil)) (gName 1)) (tSeq (tAsg (tLc (iSeq K (tVar 1)) (gName 3) (tNot (tB (tCB (rAny K) (tCons (tLc (iSeq K (tVar 1)) (gName 4) tYes (tAndV (tOp (rNeD K) (tVar 4) (tVar 3)) (tCall (sp_is_within) [] E0 (tCons (tVar 4) (tCons (tVar 3) tNil)))) [4]) tNil)))) (tVar 3) [3]) (gName 2)) (tRet (tCB (rTupX K) (tCons (tVar 2) tNil)))))
theorem pe_least_of (T : TB mg) (G_is_within : Kn P w K mg base "is_within" P_is_within 1 (sp_is_within)) : BodyOk P w K mg base 1 N_least_of "least_of" s_least_of (t_least_of P w K) := by
  intro f cdv A outer s H E hr
  have hu : _ + 65 < cLine := hu65 hr
  have hu1 : _ + 64 < cLine := hu64 hr
  have hu2 : _ + 1 < cLine := hu1of hr
  have sc := sc_least_of
  exact (pss_cons (ps_set (i := 1) sc.nd rfl (.inr rfl) (pe_callB (cr_sortedT2 rfl hu1) (by rfl) T.sorted (by decide +kernel) (pa_cons (pe_callTy (cr_setT rfl hu1) (by rfl) T.set (by decide +kernel) (pa_cons (pv 0) pa_nil)) pa_nil))) (pss_cons (ps_setLc (i := 2) (own := [("one", 3)]) rfl sc.nd rfl rfl (sw_true rfl rfl rfl (by decide +kernel)) (pi_seq (pv 1)) (blkOk_by (by first | rfl | decide +kernel)) (fun _ _ _ _ _ => (pg_name (i := 3) sc.nd rfl (by first | exact .inl rfl | exact .inr rfl))) (fun _ _ _ _ _ => (pts_one (pt_not (pt_val (pe_callB (cr_any rfl) (by rfl) T.any_ (by decide +kernel) (pa_cons (pe_lc (own := [("late", 4)]) rfl sc.nd (pi_seq (pv 1)) (blkOk_by (by first | rfl | decide +kernel)) (fun _ _ _ _ _ => (pg_name (i := 4) sc.nd rfl (by first | exact .inl rfl | exact .inr rfl))) (fun _ _ _ _ _ => pts_nil) (fun _ _ _ _ _ => (pe_and (pe_cmpR (op_neD hu1) (pv 4) (pv 3) (nomark _)) (pe_one (pe_kn G_is_within hr (by decide) (by rfl) (pa_cons (pv 4) (pa_cons (pv 3) pa_nil))))))) pa_nil)))))) (fun _ _ _ _ _ => (pv 3))) (pss_one (ps_ret (pe_callTy call_tuple_of (by rfl) T.tuple_ (by decide +kernel) (pa_cons (pv 2) pa_nil))))))

/-! greatest_of: 0 sets, 1 some, 2 found, 3 one, 4 late -/
abbrev N_greatest_of : List Str := ["sets", "some", "found", "one", "late"]
abbrev P_greatest_of : List Str := ["sets"]
theorem sc_greatest_of : FnScope N_greatest_of P_greatest_of (defScope s_greatest_of) := ⟨rfl, rfl, rfl, by decide +kernel, rfl, by decide +kernel, by decide +kernel⟩
def t_greatest_of (P : Program) (w : World) (K : PySem.W.Frag) : TS := (tSeq (tAsg (tCB (rSortedT2 K P w) (tCons (tCB (rSetT K P w) (tCons (tVar 0) tNil)) tNil)) (gName 1)) (tSeq (tAsg (tLc (iSeq K (tVar 1)) (gName 3) (tNot (tB (tCB (rAny K) (tCons (tLc (iSeq K (tVar 1)) (gName 4) tYes (tAndV (tOp (rNeD K) (tVar 4) (tVar 3)) (tCall (sp_is_within) [] E0 (tCons (tVar 3) (tCons (tVar 4) tNil)))) [4]) tNil)))) (tVar 3) [3]) (gName 2)) (tRet (tCB (rTupX K) (tCons (tVar 2) tNil)))))
theorem pe_greatest_of (T : TB mg) (G_is_within : Kn P w K mg base "is_within" P_is_within 1 (sp_is_within)) : BodyOk P w K mg base 1 N_greatest_of "greatest_of" s_greatest_of (t_greatest_of P w K) := by
  intro f cdv A outer s H E hr
  have hu : _ + 65 < cLine := hu65 hr
  have hu1 : _ + 64 < cLine := hu64 hr
  have hu2 : _ + 1 < cLine := hu1of hr
  have sc := sc_greatest_of
  exact (pss_cons (ps_set (i := 1) sc.nd rfl (.inr rfl) (pe_callB (cr_sortedT2 rfl hu1) (by rfl) T.sorted (by decide +kernel) (pa_cons (pe_callTy (cr_setT rfl hu1) (by rfl) T.set (by decide +kernel) (pa_cons (pv 0) pa_nil)) pa_nil))) (pss_cons (ps_setLc (i := 2) (own := [("one", 3)]) rfl sc.nd rfl rfl (sw_true rfl rfl rfl (by decide +kernel)) (pi_seq (pv 1)) (blkOk_by (by first | rfl | decide +kernel)) (fun _ _ _ _ _ => (pg_name (i := 3) sc.nd rfl (by first | exact .inl rfl | exact .inr rfl))) (fun _ _ _ _ _ => (pts_one (pt_not (pt_val (pe_callB (cr_any rfl) (by rfl) T.any_ (by decide +kernel) (pa_cons (pe_lc (own := [("late", 4)]) rfl sc.nd (pi_seq (pv 1)) (blkOk_by (by first | rfl | decide +kernel)) (fun _ _ _ _ _ => (pg_name (i := 4) sc.nd rfl (by first | exact .inl rfl | exact .inr rfl))) (fun _ _ _ _ _ => pts_nil) (fun _ _ _ _ _ => (pe_and (pe_cmpR (op_neD hu1) (pv 4) (pv 3) (nomark _)) (pe_one (pe_kn G_is_within hr (by decide) (by rfl) (pa_cons (pv 3) (pa_cons (pv 4) pa_nil))))))) pa_nil)))))) (fun _ _ _ _ _ => (pv 3))) (pss_one (ps_ret (pe_callTy call_tuple_of (by rfl) T.tuple_ (by decide +kernel) (pa_cons (pv 2) pa_nil))))))

/-! is_safe_by: 0 trust, 1 house, 2 fall, 3 fear -/
abbrev N_is_safe_by : List Str := ["trust", "house", "fall", "fear"]
abbrev P_is_safe_by : List Str := ["trust", "house", "fall"]
theorem sc_is_safe_by : FnScope N_is_safe_by P_is_safe_by (defScope s_is_safe_by) := ⟨rfl, rfl, rfl, by decide +kernel, rfl, by decide +kernel, by decide +kernel⟩
def t_is_safe_by (P : Program) (w : World) (K : PySem.W.Frag) : TS := (tRet (tAndV (tOp (rInA K true) (tVar 1) (tVar 2)) (tCB (rAny K) (tCons (tLc (iSeq K (tCall (sp_fears_of) [] E0 (tCons (tVar 0) (tCons (tVar 1) tNil)))) (gName 3) tYes (tCall (sp_is_within) [] E0 (tCons (tVar 2) (tCons (tVar 3) tNil))) [3]) tNil))))
theorem pe_is_safe_by (T : TB mg) (G_fears_of : Kn P w K mg base "fears_of" P_fears_of 1 (sp_fears_of)) (G_is_within : Kn P w K mg base "is_within" P_is_within 1 (sp_is_within)) : BodyOk P w K mg base 1 N_is_safe_by "is_safe_by" s_is_safe_by (t_is_safe_by P w K) := by
  intro f cdv A outer s H E hr
  have hu : _ + 65 < cLine := hu65 hr
  have hu1 : _ + 64 < cLine := hu64 hr
  have hu2 : _ + 1 < cLine := hu1of hr
  have sc := sc_is_safe_by
  exact (pss_one (ps_ret (pe_and (pe_cmpR (op_notInA hu) (pv 1) (pv 2) (by rfl)) (pe_one (pe_callB (cr_any rfl) (by rfl) T.any_ (by decide +kernel) (pa_cons (pe_lc (own := [("fear", 3)]) rfl sc.nd (pi_seq (pe_kn G_fears_of hr (by decide) (by rfl) (pa_cons (pv 0) (pa_cons (pv 1) pa_nil)))) (blkOk_by (by first | rfl | decide +kernel)) (fun _ _ _ _ _ => (pg_name (i := 3) sc.nd rfl (by first | exact .inl rfl | exact .inr rfl))) (fun _ _ _ _ _ => pts_nil) (fun _ _ _ _ _ => (pe_kn G_is_within hr (by decide) (by rfl) (pa_cons (pv 2) (pa_cons (pv 3) pa_nil))))) pa_nil))))))

/-! safe_by: 0 trust, 1 fall, 2 house -/
abbrev N_safe_by : List Str := ["trust", "fall", "house"]
abbrev P_safe_by : List Str := ["trust", "fall"]
theorem sc_safe_by : FnScope N_safe_by P_safe_by (defScope s_safe_by) := ⟨rfl, rfl, rfl, by decide +kernel, rfl, by decide +kernel, by decide +kernel⟩
def t_safe_by (P : Program) (w : World) (K : PySem.W.Frag) : TS := (tRet (tCB (rTupX K) (tCons (tLc (iSeq K (tCall (sp_houses_in) [] E0 (tCons (tVar 0) tNil))) (gName 2) (tB (tCall (sp_is_safe_by) [] E0 (tCons (tVar 0) (tCons (tVar 2) (tCons (tVar 1) tNil))))) (tVar 2) [2]) tNil)))
theorem pe_safe_by (T : TB mg) (G_houses_in : Kn P w K mg base "houses_in" P_houses_in 1 (sp_houses_in)) (G_is_safe_by : Kn P w K mg base "is_safe_by" P_is_safe_by 2 (sp_is_safe_by)) : BodyOk P w K mg base 2 N_safe_by "safe_by" s_safe_by (t_safe_by P w K) := by
  intro f cdv A outer s H E hr
  have hu : _ + 65 < cLine := hu65 hr
  have hu1 : _ + 64 < cLine := hu64 hr
  have hu2 : _ + 1 < cLine := hu1of hr
  have sc := sc_safe_by
  exact (pss_one (ps_ret (pe_callTy call_tuple_of (by rfl) T.tuple_ (by decide +kernel) (pa_cons (pe_lc (own := [("house", 2)]) rfl sc.nd (pi_seq (pe_kn G_houses_in hr (by decide) (by rfl) (pa_cons (pv 0) pa_nil))) (blkOk_by (by first | rfl | decide +kernel)) (fun _ _ _ _ _ => (pg_name (i := 2) sc.nd rfl (by first | exact .inl rfl | exact .inr rfl))) (fun _ _ _ _ _ => (pts_one (pt_val (pe_kn G_is_safe_by hr (by decide) (by rfl) (pa_cons (pv 0) (pa_cons (pv 2) (pa_cons (pv 1) pa_nil))))))) (fun _ _ _ _ _ => (pv 2))) pa_nil))))

/-! falls_by: 0 trust, 1 house, 2 other, 3 found, 4 one, 5 late -/
abbrev N_falls_by : List Str := ["trust", "house", "other", "found", "one", "late"]
abbrev P_falls_by : List Str := ["trust", "house", "other"]
theorem sc_falls_by : FnScope N_falls_by P_falls_by (defScope s_falls_by) := ⟨rfl, rfl, rfl, by decide +kernel, rfl, by decide +kernel, by decide +kernel⟩
def t_falls_by (P : Program) (w : World) (K : PySem.W.Frag) : TS := (tSeq (tIfS (tTest (tOp (rEqD K) (tVar 1) (tVar 2))) (tRet (tCall (sp_greatest_of) [] E0 (tCons (tCall (sp_fears_of) [] E0 (tCons (tVar 0) (tCons (tVar 1) tNil))) tNil))) tNext) (tSeq (tAsg (tLc2 (iSeq K (tCall (sp_fears_of) [] E0 (tCons (tVar 0) (tCons (tVar 1) tNil)))) (gName 4) tYes (iSeq K (tCall (sp_fears_of) [] E0 (tCons (tVar 0) (tCons (tVar 2) tNil)))) (gName 5) tYes (tCall (sp_joint_in) [] E0 (tCons (tVar 4) (tCons (tVar 5) tNil))) [4, 5] [5]) (gName 3)) (tRet (tCall (sp_greatest_of) [] E0 (tCons (tVar 3) tNil)))))
theorem pe_falls_by (T : TB mg) (G_fears_of : Kn P w K mg base "fears_of" P_fears_of 1 (sp_fears_of)) (G_greatest_of : Kn P w K mg base "greatest_of" P_greatest_of 2 (sp_greatest_of)) (G_joint_in : Kn P w K mg base "joint_in" P_joint_in 1 (sp_joint_in)) : BodyOk P w K mg base 2 N_falls_by "falls_by" s_falls_by (t_falls_by P w K) := by
  intro f cdv A outer s H E hr
  have hu : _ + 65 < cLine := hu65 hr
  have hu1 : _ + 64 < cLine := hu64 hr
  have hu2 : _ + 1 < cLine := hu1of hr
  have sc := sc_falls_by
  exact (pss_cons (ps_if (pt_cmpR (op_eqD hu1) (pv 1) (pv 2) (nomark _)) (pss_one (ps_ret (pe_kn G_greatest_of hr (by decide) (by rfl) (pa_cons (pe_kn G_fears_of hr (by decide) (by rfl) (pa_cons (pv 0) (pa_cons (pv 1) pa_nil))) pa_nil)))) pss_nil) (pss_cons (ps_setLc2 (i := 3) (own := [("one", 4), ("late", 5)]) (vs1 := [5]) rfl sc.nd rfl rfl (sw_true rfl rfl rfl (by decide +kernel)) (pi_seq (pe_kn G_fears_of hr (by decide) (by rfl) (pa_cons (pv 0) (pa_cons (pv 1) pa_nil)))) (blkOk_by (by first | rfl | decide +kernel)) (by decide) (fun _ _ _ _ _ => (pg_name (i := 4) sc.nd rfl (by first | exact .inl rfl | exact .inr rfl))) (fun _ _ _ _ _ => pts_nil) (fun _ _ _ _ _ => (pi_seq (pe_kn G_fears_of hr (by decide) (by rfl) (pa_cons (pv 0) (pa_cons (pv 2) pa_nil))))) (fun _ _ _ _ _ => (pg_name (i := 5) sc.nd rfl (by first | exact .inl rfl | exact .inr rfl))) (fun _ _ _ _ _ => pts_nil) (fun _ _ _ _ _ => (pe_kn G_joint_in hr (by decide) (by rfl) (pa_cons (pv 4) (pa_cons (pv 5) pa_nil))))) (pss_one (ps_ret (pe_kn G_greatest_of hr (by decide) (by rfl) (pa_cons (pv 3) pa_nil))))))

/-! pairs_in: 0 trust, 1 house, 2 lots, 3 fears, 4 k -/
abbrev N_pairs_in : List Str := ["trust", "house", "lots", "fears", "k"]
abbrev P_pairs_in : List Str := ["trust"]
theorem sc_pairs_in : FnScope N_pairs_in P_pairs_in (defScope s_pairs_in) := ⟨rfl, rfl, rfl, by decide +kernel, rfl, by decide +kernel, by decide +kernel⟩
def t_pairs_in (P : Program) (w : World) (K : PySem.W.Frag) : TS := (tRet (tLc2 (iSeq K (tVar 0)) (gTup K 3 (gCons (gName 1) (gCons (gName 2) (gCons (gName 3) gNil)))) tYes (iRng1 (tCons (tCB (rLenX K) (tCons (tVar 2) tNil)) tNil)) (gName 4) tYes (tTup (tCons (tVar 1) (tCons (tVar 4) tNil))) [1, 2, 3, 4] [4]))
theorem pe_pairs_in (T : TB mg)  : BodyOk P w K mg base 0 N_pairs_in "pairs_in" s_pairs_in (t_pairs_in P w K) := by
  intro f cdv A outer s H E hr
  have hu : _ + 65 < cLine := hu65 hr
  have hu1 : _ + 64 < cLine := hu64 hr
  have hu2 : _ + 1 < cLine := hu1of hr
  have sc := sc_pairs_in
  exact (pss_one (ps_ret (pe_lc2 (own := [("house", 1), ("lots", 2), ("fears", 3), ("k", 4)]) (vs1 := [4]) rfl sc.nd (pi_seq (pv 0)) (blkOk_by (by first | rfl | decide +kernel)) (by decide) (fun _ _ _ _ _ => (pg_tup rfl (pgs_cons (pg_name (i := 1) sc.nd rfl (by first | exact .inl rfl | exact .inr rfl)) (pgs_cons (pg_name (i := 2) sc.nd rfl (by first | exact .inl rfl | exact .inr rfl)) (pgs_cons (pg_name (i := 3) sc.nd rfl (by first | exact .inl rfl | exact .inr rfl)) pgs_nil))))) (fun _ _ _ _ _ => pts_nil) (fun _ _ _ _ _ => (pi_range1 (by rfl) T.range (pa_cons (pe_callB call_len (by rfl) T.len_ (by decide +kernel) (pa_cons (pv 2) pa_nil)) pa_nil))) (fun _ _ _ _ _ => (pg_name (i := 4) sc.nd rfl (by first | exact .inl rfl | exact .inr rfl))) (fun _ _ _ _ _ => pts_nil) (fun _ _ _ _ _ => (pe_tup (pa_cons (pv 1) (pa_cons (pv 4) pa_nil)))))))

/-! lot_at: 0 trust, 1 pair -/
abbrev N_lot_at : List Str := ["trust", "pair"]
abbrev P_lot_at : List Str := ["trust", "pair"]
theorem sc_lot_at : FnScope N_lot_at P_lot_at (defScope s_lot_at) := ⟨rfl, rfl, rfl, by decide +kernel, rfl, by decide +kernel, by decide +kernel⟩
def t_lot_at (P : Program) (w : World) (K : PySem.W.Frag) : TS := (tRet (tOp (rIx K) (tCall (sp_lots_of) [] E0 (tCons (tVar 0) (tCons (tOp (rIx K) (tVar 1) (tC (.int 0))) tNil))) (tOp (rIx K) (tVar 1) (tC (.int 1)))))
theorem pe_lot_at (T : TB mg) (G_lots_of : Kn P w K mg base "lots_of" P_lots_of 1 (sp_lots_of)) : BodyOk P w K mg base 1 N_lot_at "lot_at" s_lot_at (t_lot_at P w K) := by
  intro f cdv A outer s H E hr
  have hu : _ + 65 < cLine := hu65 hr
  have hu1 : _ + 64 < cLine := hu64 hr
  have hu2 : _ + 1 < cLine := hu1of hr
  have sc := sc_lot_at
  exact (pss_one (ps_ret (pe_ix ix_seq (pe_kn G_lots_of hr (by decide) (by rfl) (pa_cons (pv 0) (pa_cons (pe_ix ix_seq (pv 1) pe_int (fun _ _ => rfl)) pa_nil))) (pe_ix ix_seq (pv 1) pe_int (fun _ _ => rfl)) (fun _ _ => rfl))))

/-! needs_by: 0 trust, 1 house, 2 found, 3 pair, 4 fall -/
abbrev N_needs_by : List Str := ["trust", "house", "found", "pair", "fall"]
abbrev P_needs_by : List Str := ["trust", "house"]
theorem sc_needs_by : FnScope N_needs_by P_needs_by (defScope s_needs_by) := ⟨rfl, rfl, rfl, by decide +kernel, rfl, by decide +kernel, by decide +kernel⟩
def t_needs_by (P : Program) (w : World) (K : PySem.W.Frag) : TS := (tSeq (tAsg (tLst tNil) (gName 2)) (tSeq (tFor (iSeq K (tCall (sp_pairs_in) [] E0 (tCons (tVar 0) tNil))) (gName 3) (tIfS (tTest (tOp (rNeD K) (tOp (rIx K) (tVar 3) (tC (.int 0))) (tVar 1))) (tDrop (tBM K "list" rExtend (tVar 2) (tCons (tLc (iSeq K (tCall (sp_falls_by) [] E0 (tCons (tVar 0) (tCons (tVar 1) (tCons (tOp (rIx K) (tVar 3) (tC (.int 0))) tNil))))) (gName 4) tYes (tCall (sp_less_by) [] E0 (tCons (tCall (sp_lot_at) [] E0 (tCons (tVar 0) (tCons (tVar 3) tNil))) (tCons (tVar 4) tNil))) [4]) tNil))) tNext)) (tRet (tCall (sp_least_of) [] E0 (tCons (tVar 2) tNil)))))
theorem pe_needs_by (T : TB mg) (G_pairs_in : Kn P w K mg base "pairs_in" P_pairs_in 1 (sp_pairs_in)) (G_falls_by : Kn P w K mg base "falls_by" P_falls_by 3 (sp_falls_by)) (G_lot_at : Kn P w K mg base "lot_at" P_lot_at 2 (sp_lot_at)) (G_less_by : Kn P w K mg base "less_by" P_less_by 1 (sp_less_by)) (G_least_of : Kn P w K mg base "least_of" P_least_of 2 (sp_least_of)) : BodyOk P w K mg base 3 N_needs_by "needs_by" s_needs_by (t_needs_by P w K) := by
  intro f cdv A outer s H E hr
  have hu : _ + 65 < cLine := hu65 hr
  have hu1 : _ + 64 < cLine := hu64 hr
  have hu2 : _ + 1 < cLine := hu1of hr
  have sc := sc_needs_by
  exact (pss_cons (ps_set (i := 2) sc.nd rfl (.inl rfl) (pe_lst pa_nil)) (pss_cons (ps_for PassesOwn.never rfl (pi_seq (pe_kn G_pairs_in hr (by decide) (by rfl) (pa_cons (pv 0) pa_nil))) (pg_name (i := 3) sc.nd rfl (by first | exact .inl rfl | exact .inr rfl)) (pss_one (ps_if (pt_cmpR (op_neD hu1) (pe_ix ix_seq (pv 3) pe_int (fun _ _ => rfl)) (pv 1) (nomark _)) (pss_one (ps_expr (pe_bm PySem.F.plainAttrs_list PySem.F.slot_list_extend PySem.F.type_list_extend mt_extend (pv 2) (pa_cons (pe_lc (own := [("fall", 4)]) rfl sc.nd (pi_seq (pe_kn G_falls_by hr (by decide) (by rfl) (pa_cons (pv 0) (pa_cons (pv 1) (pa_cons (pe_ix ix_seq (pv 3) pe_int (fun _ _ => rfl)) pa_nil))))) (blkOk_by (by first | rfl | decide +kernel)) (fun _ _ _ _ _ => (pg_name (i := 4) sc.nd rfl (by first | exact .inl rfl | exact .inr rfl))) (fun _ _ _ _ _ => pts_nil) (fun _ _ _ _ _ => (pe_kn G_less_by hr (by decide) (by rfl) (pa_cons (pe_kn G_lot_at hr (by decide) (by rfl) (pa_cons (pv 0) (pa_cons (pv 3) pa_nil))) (pa_cons (pv 4) pa_nil))))) pa_nil)))) pss_nil))) (pss_one (ps_ret (pe_kn G_least_of hr (by decide) (by rfl) (pa_cons (pv 2) pa_nil))))))

/-! first_missed_by: 0 needs, 1 lot, 2 need -/
abbrev N_first_missed_by : List Str := ["needs", "lot", "need"]
abbrev P_first_missed_by : List Str := ["needs", "lot"]
theorem sc_first_missed_by : FnScope N_first_missed_by P_first_missed_by (defScope s_first_missed_by) := ⟨rfl, rfl, rfl, by decide +kernel, rfl, by decide +kernel, by decide +kernel⟩
def t_first_missed_by (P : Program) (w : World) (K : PySem.W.Frag) : TS := (tSeq (tFor (iSeq K (tVar 0)) (gName 2) (tIfS (tTest (tOp (rEqD K) (tCB (rLenX K) (tCons (tCall (sp_joint_in) [] E0 (tCons (tVar 2) (tCons (tVar 1) tNil))) tNil)) (tC (.int 0)))) (tRet (tVar 2)) tNext)) (tRet (tC .non)))
theorem pe_first_missed_by (T : TB mg) (G_joint_in : Kn P w K mg base "joint_in" P_joint_in 1 (sp_joint_in)) : BodyOk P w K mg base 1 N_first_missed_by "first_missed_by" s_first_missed_by (t_first_missed_by P w K) := by
  intro f cdv A outer s H E hr
  have hu : _ + 65 < cLine := hu65 hr
  have hu1 : _ + 64 < cLine := hu64 hr
  have hu2 : _ + 1 < cLine := hu1of hr
  have sc := sc_first_missed_by
  exact (pss_cons (ps_for PassesOwn.never rfl (pi_seq (pv 0)) (pg_name (i := 2) sc.nd rfl (by first | exact .inl rfl | exact .inr rfl)) (pss_one (ps_if (pt_cmpR (op_eqD hu1) (pe_callB call_len (by rfl) T.len_ (by decide +kernel) (pa_cons (pe_kn G_joint_in hr (by decide) (by rfl) (pa_cons (pv 2) (pa_cons (pv 1) pa_nil))) pa_nil)) pe_int (nomark _)) (pss_one (ps_ret (pv 2))) pss_nil))) (pss_one (ps_ret pe_non)))

/-! is_met: 0 needs, 1 lot -/
abbrev N_is_met : List Str := ["needs", "lot"]
abbrev P_is_met : List Str := ["needs", "lot"]
theorem sc_is_met : FnScope N_is_met P_is_met (defScope s_is_met) := ⟨rfl, rfl, rfl, by decide +kernel, rfl, by decide +kernel, by decide +kernel⟩
def t_is_met (P : Program) (w : World) (K : PySem.W.Frag) : TS := (tRet (tOp rIsNX (tCall (sp_first_missed_by) [] E0 (tCons (tVar 0) (tCons (tVar 1) tNil))) (tC .non)))
theorem pe_is_met (T : TB mg) (G_first_missed_by : Kn P w K mg base "first_missed_by" P_first_missed_by 2 (sp_first_missed_by)) : BodyOk P w K mg base 2 N_is_met "is_met" s_is_met (t_is_met P w K) := by
  intro f cdv A outer s H E hr
  have hu : _ + 65 < cLine := hu65 hr
  have hu1 : _ + 64 < cLine := hu64 hr
  have hu2 : _ + 1 < cLine := hu1of hr
  have sc := sc_is_met
  exact (pss_one (ps_ret (pe_cmpR op_isN (pe_kn G_first_missed_by hr (by decide) (by rfl) (pa_cons (pv 0) (pa_cons (pv 1) pa_nil))) pe_non (nomark _))))

/-! crossings_by: 0 needs, 1 found, 2 need, 3 late, 4 lot, 5 house -/
abbrev N_crossings_by : List Str := ["needs", "found", "need", "late", "lot", "house"]
abbrev P_crossings_by : List Str := ["needs"]
theorem sc_crossings_by : FnScope N_crossings_by P_crossings_by (defScope s_crossings_by) := ⟨rfl, rfl, rfl, by decide +kernel, rfl, by decide +kernel, by decide +kernel⟩
def t_crossings_by (P : Program) (w : World) (K : PySem.W.Frag) : TS := (tSeq (tAsg (tLst (tCons (tTup tNil) tNil)) (gName 1)) (tSeq (tFor (iSeq K (tVar 0)) (gName 2) (tSeq (tAsg (tLst tNil) (gName 3)) (tSeq (tFor (iSeq K (tVar 1)) (gName 4) (tIfS (tTest (tOp (rI0 fun i j => .bl (decide (j < i))) (tCB (rLenX K) (tCons (tCall (sp_joint_in) [] E0 (tCons (tVar 2) (tCons (tVar 4) tNil))) tNil)) (tC (.int 0)))) (tDrop (tBM K "list" rAppend (tVar 3) (tCons (tVar 4) tNil))) (tDrop (tBM K "list" rExtend (tVar 3) (tCons (tLc (iSeq K (tVar 2)) (gName 5) tYes (tCB (rTupX K) (tCons (tCB (rSortedS K) (tCons (tLst (StX.tStar K (tVar 4) (tCons (tVar 5) tNil))) tNil)) tNil)) [5]) tNil))))) (tAsg (tCB (rLstX K) (tCons (tCall (sp_least_of) [] E0 (tCons (tVar 3) tNil)) tNil)) (gName 1))))) (tRet (tCB (rTupX K) (tCons (tVar 1) tNil)))))
theorem pe_crossings_by (T : TB mg) (G_joint_in : Kn P w K mg base "joint_in" P_joint_in 1 (sp_joint_in)) (G_least_of : Kn P w K mg base "least_of" P_least_of 2 (sp_least_of)) : BodyOk P w K mg base 2 N_crossings_by "crossings_by" s_crossings_by (t_crossings_by P w K) := by
  intro f cdv A outer s H E hr
  have hu : _ + 65 < cLine := hu65 hr
  have hu1 : _ + 64 < cLine := hu64 hr
  have hu2 : _ + 1 < cLine := hu1of hr
  have sc := sc_crossings_by
  exact (pss_cons (ps_set (i := 1) sc.nd rfl (.inl rfl) (pe_lst (pa_cons (pe_tup pa_nil) pa_nil))) (pss_cons (ps_for PassesOwn.never rfl (pi_seq (pv 0)) (pg_name (i := 2) sc.nd rfl (by first | exact .inl rfl | exact .inr rfl)) (pss_cons (ps_set (i := 3) sc.nd rfl (.inl rfl) (pe_lst pa_nil)) (pss_cons (ps_for PassesOwn.never rfl (pi_seq (pv 1)) (pg_name (i := 4) sc.nd rfl (by first | exact .inl rfl | exact .inr rfl)) (pss_one (ps_if (pt_cmpR op_gt (pe_callB call_len (by rfl) T.len_ (by decide +kernel) (pa_cons (pe_kn G_joint_in hr (by decide) (by rfl) (pa_cons (pv 2) (pa_cons (pv 4) pa_nil))) pa_nil)) pe_int (nomark _)) (pss_one (ps_expr (pe_bm PySem.F.plainAttrs_list PySem.F.slot_list_append PySem.F.type_list_append mt_append (pv 3) (pa_cons (pv 4) pa_nil)))) (pss_one (ps_expr (pe_bm PySem.F.plainAttrs_list PySem.F.slot_list_extend PySem.F.type_list_extend mt_extend (pv 3) (pa_cons (pe_lc (own := [("house", 5)]) rfl sc.nd (pi_seq (pv 2)) (blkOk_by (by first | rfl | decide +kernel)) (fun _ _ _ _ _ => (pg_name (i := 5) sc.nd rfl (by first | exact .inl rfl | exact .inr rfl))) (fun _ _ _ _ _ => pts_nil) (fun _ _ _ _ _ => (pe_callTy call_tuple_of (by rfl) T.tuple_ (by decide +kernel) (pa_cons (pe_callB cr_sortedS (by rfl) T.sorted (by decide +kernel) (pa_cons (pe_lst (StX.pa_star (pv 4) (pa_cons (pv 5) pa_nil))) pa_nil)) pa_nil)))) pa_nil))))))) (pss_one (ps_set (i := 1) sc.nd rfl (.inl rfl) (pe_callTy call_list_of (by rfl) T.list_ (by decide +kernel) (pa_cons (pe_kn G_least_of hr (by decide) (by rfl) (pa_cons (pv 3) pa_nil)) pa_nil))))))) (pss_one (ps_ret (pe_callTy call_tuple_of (by rfl) T.tuple_ (by decide +kernel) (pa_cons (pv 1) pa_nil))))))

/-! is_house_of: 0 trust, 1 thing -/
abbrev N_is_house_of : List Str := ["trust", "thing"]
abbrev P_is_house_of : List Str := ["trust", "thing"]
theorem sc_is_house_of : FnScope N_is_house_of P_is_house_of (defScope s_is_house_of) := ⟨rfl, rfl, rfl, by decide +kernel, rfl, by decide +kernel, by decide +kernel⟩
def t_is_house_of (P : Program) (w : World) (K : PySem.W.Frag) : TS := (tRet (tCall (sp_is_among) [] E0 (tCons (tVar 1) (tCons (tCall (sp_houses_in) [] E0 (tCons (tVar 0) tNil)) tNil))))
theorem pe_is_house_of (T : TB mg) (G_houses_in : Kn P w K mg base "houses_in" P_houses_in 1 (sp_houses_in)) (G_is_among : Kn P w K mg base "is_among" P_is_among 1 (sp_is_among)) : BodyOk P w K mg base 1 N_is_house_of "is_house_of" s_is_house_of (t_is_house_of P w K) := by
  intro f cdv A outer s H E hr
  have hu : _ + 65 < cLine := hu65 hr
  have hu1 : _ + 64 < cLine := hu64 hr
  have hu2 : _ + 1 < cLine := hu1of hr
  have sc := sc_is_house_of
  exact (pss_one (ps_ret (pe_kn G_is_among hr (by decide) (by rfl) (pa_cons (pv 1) (pa_cons (pe_kn G_houses_in hr (by decide) (by rfl) (pa_cons (pv 0) pa_nil)) pa_nil)))))

/-! are_houses_of: 0 trust, 1 thing -/
abbrev N_are_houses_of : List Str := ["trust", "thing"]
abbrev P_are_houses_of : List Str := ["trust", "thing"]
theorem sc_are_houses_of : FnScope N_are_houses_of P_are_houses_of (defScope s_are_houses_of) := ⟨rfl, rfl, rfl, by decide +kernel, rfl, by decide +kernel, by decide +kernel⟩
def t_are_houses_of (P : Program) (w : World) (K : PySem.W.Frag) : TS := (tRet (tCall (sp_is_names_among) [] E0 (tCons (tVar 1) (tCons (tCall (sp_houses_in) [] E0 (tCons (tVar 0) tNil)) tNil))))
theorem pe_are_houses_of (T : TB mg) (G_houses_in : Kn P w K mg base "houses_in" P_houses_in 1 (sp_houses_in)) (G_is_names_among : Kn P w K mg base "is_names_among" P_is_names_among 3 (sp_is_names_among)) : BodyOk P w K mg base 3 N_are_houses_of "are_houses_of" s_are_houses_of (t_are_houses_of P w K) := by
  intro f cdv A outer s H E hr
  have hu : _ + 65 < cLine := hu65 hr
  have hu1 : _ + 64 < cLine := hu64 hr
  have hu2 : _ + 1 < cLine := hu1of hr
  have sc := sc_are_houses_of
  exact (pss_one (ps_ret (pe_kn G_is_names_among hr (by decide) (by rfl) (pa_cons (pv 1) (pa_cons (pe_kn G_houses_in hr (by decide) (by rfl) (pa_cons (pv 0) pa_nil)) pa_nil)))))

/-! want: 0 is_fit, 1 name, 2 at -/
abbrev N_want : List Str := ["is_fit", "name", "at"]
abbrev P_want : List Str := ["is_fit", "name", "at"]
theorem sc_want : FnScope N_want P_want (defScope s_want) := ⟨rfl, rfl, rfl, by decide +kernel, rfl, by decide +kernel, by decide +kernel⟩
def t_want (P : Program) (w : World) (K : PySem.W.Frag) : TS := (tIfS (tNot (tB (tVar 0))) tNever tNext)
theorem pe_want (T : TB mg)  : BodyOk P w K mg base 0 N_want "want" s_want (t_want P w K) := by
  intro f cdv A outer s H E hr
  have hu : _ + 65 < cLine := hu65 hr
  have hu1 : _ + 64 < cLine := hu64 hr
  have hu2 : _ + 1 < cLine := hu1of hr
  have sc := sc_want
  exact (pss_one (ps_if (pt_not (pt_val (pv 0))) pss_never pss_nil))

/-! want_book: 0 value, 1 name -/
abbrev N_want_book : List Str := ["value", "name"]
abbrev P_want_book : List Str := ["value", "name"]
theorem sc_want_book : FnScope N_want_book P_want_book (defScope s_want_book) := ⟨rfl, rfl, rfl, by decide +kernel, rfl, by decide +kernel, by decide +kernel⟩
def t_want_book (P : Program) (w : World) (K : PySem.W.Frag) : TS := (tDrop (tCall (sp_want) [.int (-1)] E0 (tCons (tCall (sp_is_book) [] E0 (tCons (tVar 0) tNil)) (tCons (tVar 1) tNil))))
theorem pe_want_book (T : TB mg) (G_is_book : Kn P w K mg base "is_book" P_is_book 8 (sp_is_book)) (D_want : KnD P w K mg base "want" P_want 1 (sp_want) [.int (-1)]) : BodyOk P w K mg base 8 N_want_book "want_book" s_want_book (t_want_book P w K) := by
  intro f cdv A outer s H E hr
  have hu : _ + 65 < cLine := hu65 hr
  have hu1 : _ + 64 < cLine := hu64 hr
  have hu2 : _ + 1 < cLine := hu1of hr
  have sc := sc_want_book
  exact (pss_one (ps_expr (pe_knD D_want hr (by decide) (by rfl) (pa_cons (pe_kn G_is_book hr (by decide) (by rfl) (pa_cons (pv 0) pa_nil)) (pa_cons (pv 1) pa_nil)))))

/-! want_age: 0 book, 1 age -/
abbrev N_want_age : List Str := ["book", "age"]
abbrev P_want_age : List Str := ["book", "age"]
theorem sc_want_age : FnScope N_want_age P_want_age (defScope s_want_age) := ⟨rfl, rfl, rfl, by decide +kernel, rfl, by decide +kernel, by decide +kernel⟩
def t_want_age (P : Program) (w : World) (K : PySem.W.Frag) : TS := (tDrop (tCall (sp_want) [.int (-1)] E0 (tCons (tAndV (tCall (sp_is_number) [] E0 (tCons (tVar 1) tNil)) (tOrV (tOp (rEqD K) (tVar 1) (tC (.int 0))) (tOp (rEqD K) (tCB (rLenX K) (tCons (tOp (rIx K) (tVar 0) (tC (.int 4))) tNil)) (tC (.int 0))))) (tCons (tC (.str "age")) tNil))))
theorem pe_want_age (T : TB mg) (G_is_number : Kn P w K mg base "is_number" P_is_number 2 (sp_is_number)) (D_want : KnD P w K mg base "want" P_want 1 (sp_want) [.int (-1)]) : BodyOk P w K mg base 2 N_want_age "want_age" s_want_age (t_want_age P w K) := by
  intro f cdv A outer s H E hr
  have hu : _ + 65 < cLine := hu65 hr
  have hu1 : _ + 64 < cLine := hu64 hr
  have hu2 : _ + 1 < cLine := hu1of hr
  have sc := sc_want_age
  exact (pss_one (ps_expr (pe_knD D_want hr (by decide) (by rfl) (pa_cons (pe_and (pe_kn G_is_number hr (by decide) (by rfl) (pa_cons (pv 1) pa_nil)) (pe_one (pe_or (pe_cmpR (op_eqD hu1) (pv 1) pe_int (nomark _)) (pe_one (pe_cmpR (op_eqD hu1) (pe_callB call_len (by rfl) T.len_ (by decide +kernel) (pa_cons (pe_ix ix_seq (pv 0) pe_int (fun _ _ => rfl)) pa_nil)) pe_int (nomark _)))))) (pa_cons pe_str pa_nil)))))

/-! want_trust: 0 trust, 1 name -/
abbrev N_want_trust : List Str := ["trust", "name"]
abbrev P_want_trust : List Str := ["trust", "name"]
theorem sc_want_trust : FnScope N_want_trust P_want_trust (defScope s_want_trust) := ⟨rfl, rfl, rfl, by decide +kernel, rfl, by decide +kernel, by decide +kernel⟩
def t_want_trust (P : Program) (w : World) (K : PySem.W.Frag) : TS := (tDrop (tCall (sp_want) [.int (-1)] E0 (tCons (tCall (sp_is_trust) [] E0 (tCons (tVar 0) tNil)) (tCons (tVar 1) tNil))))
theorem pe_want_trust (T : TB mg) (G_is_trust : Kn P w K mg base "is_trust" P_is_trust 6 (sp_is_trust)) (D_want : KnD P w K mg base "want" P_want 1 (sp_want) [.int (-1)]) : BodyOk P w K mg base 6 N_want_trust "want_trust" s_want_trust (t_want_trust P w K) := by
  intro f cdv A outer s H E hr
  have hu : _ + 65 < cLine := hu65 hr
  have hu1 : _ + 64 < cLine := hu64 hr
  have hu2 : _ + 1 < cLine := hu1of hr
  have sc := sc_want_trust
  exact (pss_one (ps_expr (pe_knD D_want hr (by decide) (by rfl) (pa_cons (pe_kn G_is_trust hr (by decide) (by rfl) (pa_cons (pv 0) pa_nil)) (pa_cons (pv 1) pa_nil)))))

/-! want_house: 0 trust, 1 house, 2 name -/
abbrev N_want_house : List Str := ["trust", "house", "name"]
abbrev P_want_house : List Str := ["trust", "house", "name"]
theorem sc_want_house : FnScope N_want_house P_want_house (defScope s_want_house) := ⟨rfl, rfl, rfl, by decide +kernel, rfl, by decide +kernel, by decide +kernel⟩
def t_want_house (P : Program) (w : World) (K : PySem.W.Frag) : TS := (tDrop (tCall (sp_want) [.int (-1)] E0 (tCons (tCall (sp_is_house_of) [] E0 (tCons (tVar 0) (tCons (tVar 1) tNil))) (tCons (tVar 2) tNil))))
theorem pe_want_house (T : TB mg) (G_is_house_of : Kn P w K mg base "is_house_of" P_is_house_of 2 (sp_is_house_of)) (D_want : KnD P w K mg base "want" P_want 1 (sp_want) [.int (-1)]) : BodyOk P w K mg base 2 N_want_house "want_house" s_want_house (t_want_house P w K) := by
  intro f cdv A outer s H E hr
  have hu : _ + 65 < cLine := hu65 hr
  have hu1 : _ + 64 < cLine := hu64 hr
  have hu2 : _ + 1 < cLine := hu1of hr
  have sc := sc_want_house
  exact (pss_one (ps_expr (pe_knD D_want hr (by decide) (by rfl) (pa_cons (pe_kn G_is_house_of hr (by decide) (by rfl) (pa_cons (pv 0) (pa_cons (pv 1) pa_nil))) (pa_cons (pv 2) pa_nil)))))

/-! want_lot: 0 trust, 1 lot, 2 name -/
abbrev N_want_lot : List Str := ["trust", "lot", "name"]
abbrev P_want_lot : List Str := ["trust", "lot", "name"]
theorem sc_want_lot : FnScope N_want_lot P_want_lot (defScope s_want_lot) := ⟨rfl, rfl, rfl, by decide +kernel, rfl, by decide +kernel, by decide +kernel⟩
def t_want_lot (P : Program) (w : World) (K : PySem.W.Frag) : TS := (tDrop (tCall (sp_want) [.int (-1)] E0 (tCons (tCall (sp_are_houses_of) [] E0 (tCons (tVar 0) (tCons (tVar 1) tNil))) (tCons (tVar 2) tNil))))
theorem pe_want_lot (T : TB mg) (G_are_houses_of : Kn P w K mg base "are_houses_of" P_are_houses_of 4 (sp_are_houses_of)) (D_want : KnD P w K mg base "want" P_want 1 (sp_want) [.int (-1)]) : BodyOk P w K mg base 4 N_want_lot "want_lot" s_want_lot (t_want_lot P w K) := by
  intro f cdv A outer s H E hr
  have hu : _ + 65 < cLine := hu65 hr
  have hu1 : _ + 64 < cLine := hu64 hr
  have hu2 : _ + 1 < cLine := hu1of hr
  have sc := sc_want_lot
  exact (pss_one (ps_expr (pe_knD D_want hr (by decide) (by rfl) (pa_cons (pe_kn G_are_houses_of hr (by decide) (by rfl) (pa_cons (pv 0) (pa_cons (pv 1) pa_nil))) (pa_cons (pv 2) pa_nil)))))

/-! needs_of: 0 trust, 1 house -/
abbrev N_needs_of : List Str := ["trust", "house"]
abbrev P_needs_of : List Str := ["trust", "house"]
theorem sc_needs_of : FnScope N_needs_of P_needs_of (defScope s_needs_of) := ⟨rfl, rfl, rfl, by decide +kernel, rfl, by decide +kernel, by decide +kernel⟩
def t_needs_of (P : Program) (w : World) (K : PySem.W.Frag) : TS := (tSeq (tDrop (tCall (sp_want_trust) [.str "trust"] E0 (tCons (tVar 0) tNil))) (tSeq (tDrop (tCall (sp_want_house) [.str "house"] E0 (tCons (tVar 0) (tCons (tVar 1) tNil)))) (tRet (tCall (sp_needs_by) [] E0 (tCons (tVar 0) (tCons (tVar 1) tNil))))))
theorem pe_needs_of (T : TB mg) (D_want_trust : KnD P w K mg base "want_trust" P_want_trust 7 (sp_want_trust) [.str "trust"]) (D_want_house : KnD P w K mg base "want_house" P_want_house 3 (sp_want_house) [.str "house"]) (G_needs_by : Kn P w K mg base "needs_by" P_needs_by 4 (sp_needs_by)) : BodyOk P w K mg base 7 N_needs_of "needs_of" s_needs_of (t_needs_of P w K) := by
  intro f cdv A outer s H E hr
  have hu : _ + 65 < cLine := hu65 hr
  have hu1 : _ + 64 < cLine := hu64 hr
  have hu2 : _ + 1 < cLine := hu1of hr
  have sc := sc_needs_of
  exact (pss_cons (ps_expr (pe_knD D_want_trust hr (by decide) (by rfl) (pa_cons (pv 0) pa_nil))) (pss_cons (ps_expr (pe_knD D_want_house hr (by decide) (by rfl) (pa_cons (pv 0) (pa_cons (pv 1) pa_nil)))) (pss_one (ps_ret (pe_kn G_needs_by hr (by decide) (by rfl) (pa_cons (pv 0) (pa_cons (pv 1) pa_nil)))))))

/-! meets_needs: 0 trust, 1 house, 2 lot -/
abbrev N_meets_needs : List Str := ["trust", "house", "lot"]
abbrev P_meets_needs : List Str := ["trust", "house", "lot"]
theorem sc_meets_needs : FnScope N_meets_needs P_meets_needs (defScope s_meets_needs) := ⟨rfl, rfl, rfl, by decide +kernel, rfl, by decide +kernel, by decide +kernel⟩
def t_meets_needs (P : Program) (w : World) (K : PySem.W.Frag) : TS := (tSeq (tDrop (tCall (sp_want_trust) [.str "trust"] E0 (tCons (tVar 0) tNil))) (tSeq (tDrop (tCall (sp_want_house) [.str "house"] E0 (tCons (tVar 0) (tCons (tVar 1) tNil)))) (tSeq (tDrop (tCall (sp_want_lot) [.str "lot"] E0 (tCons (tVar 0) (tCons (tVar 2) tNil)))) (tRet (tCall (sp_is_met) [] E0 (tCons (tCall (sp_needs_by) [] E0 (tCons (tVar 0) (tCons (tVar 1) tNil))) (tCons (tVar 2) tNil)))))))
theorem pe_meets_needs (T : TB mg) (D_want_trust : KnD P w K mg base "want_trust" P_want_trust 7 (sp_want_trust) [.str "trust"]) (D_want_house : KnD P w K mg base "want_house" P_want_house 3 (sp_want_house) [.str "house"]) (D_want_lot : KnD P w K mg base "want_lot" P_want_lot 5 (sp_want_lot) [.str "lot"]) (G_needs_by : Kn P w K mg base "needs_by" P_needs_by 4 (sp_needs_by)) (G_is_met : Kn P w K mg base "is_met" P_is_met 3 (sp_is_met)) : BodyOk P w K mg base 7 N_meets_needs "meets_needs" s_meets_needs (t_meets_needs P w K) := by
  intro f cdv A outer s H E hr
  have hu : _ + 65 < cLine := hu65 hr
  have hu1 : _ + 64 < cLine := hu64 hr
  have hu2 : _ + 1 < cLine := hu1of hr
  have sc := sc_meets_needs
  exact (pss_cons (ps_expr (pe_knD D_want_trust hr (by decide) (by rfl) (pa_cons (pv 0) pa_nil))) (pss_cons (ps_expr (pe_knD D_want_house hr (by decide) (by rfl) (pa_cons (pv 0) (pa_cons (pv 1) pa_nil)))) (pss_cons (ps_expr (pe_knD D_want_lot hr (by decide) (by rfl) (pa_cons (pv 0) (pa_cons (pv 2) pa_nil)))) (pss_one (ps_ret (pe_kn G_is_met hr (by decide) (by rfl) (pa_cons (pe_kn G_needs_by hr (by decide) (by rfl) (pa_cons (pv 0) (pa_cons (pv 1) pa_nil))) (pa_cons (pv 2) pa_nil))))))))

/-! first_missed: 0 trust, 1 house, 2 lot -/
abbrev N_first_missed : List Str := ["trust", "house", "lot"]
abbrev P_first_missed : List Str := ["trust", "house", "lot"]
theorem sc_first_missed : FnScope N_first_missed P_first_missed (defScope s_first_missed) := ⟨rfl, rfl, rfl, by decide +kernel, rfl, by decide +kernel, by decide +kernel⟩
def t_first_missed (P : Program) (w : World) (K : PySem.W.Frag) : TS := (tSeq (tDrop (tCall (sp_want_trust) [.str "trust"] E0 (tCons (tVar 0) tNil))) (tSeq (tDrop (tCall (sp_want_house) [.str "house"] E0 (tCons (tVar 0) (tCons (tVar 1) tNil)))) (tSeq (tDrop (tCall (sp_want_lot) [.str "lot"] E0 (tCons (tVar 0) (tCons (tVar 2) tNil)))) (tRet (tCall (sp_first_missed_by) [] E0 (tCons (tCall (sp_needs_by) [] E0 (tCons (tVar 0) (tCons (tVar 1) tNil))) (tCons (tVar 2) tNil)))))))
theorem pe_first_missed (T : TB mg) (D_want_trust : KnD P w K mg base "want_trust" P_want_trust 7 (sp_want_trust) [.str "trust"]) (D_want_house : KnD P w K mg base "want_house" P_want_house 3 (sp_want_house) [.str "house"]) (D_want_lot : KnD P w K mg base "want_lot" P_want_lot 5 (sp_want_lot) [.str "lot"]) (G_needs_by : Kn P w K mg base "needs_by" P_needs_by 4 (sp_needs_by)) (G_first_missed_by : Kn P w K mg base "first_missed_by" P_first_missed_by 2 (sp_first_missed_by)) : BodyOk P w K mg base 7 N_first_missed "first_missed" s_first_missed (t_first_missed P w K) := by
  intro f cdv A outer s H E hr
  have hu : _ + 65 < cLine := hu65 hr
  have hu1 : _ + 64 < cLine := hu64 hr
  have hu2 : _ + 1 < cLine := hu1of hr
  have sc := sc_first_missed
  exact (pss_cons (ps_expr (pe_knD D_want_trust hr (by decide) (by rfl) (pa_cons (pv 0) pa_nil))) (pss_cons (ps_expr (pe_knD D_want_house hr (by decide) (by rfl) (pa_cons (pv 0) (pa_cons (pv 1) pa_nil)))) (pss_cons (ps_expr (pe_knD D_want_lot hr (by decide) (by rfl) (pa_cons (pv 0) (pa_cons (pv 2) pa_nil)))) (pss_one (ps_ret (pe_kn G_first_missed_by hr (by decide) (by rfl) (pa_cons (pe_kn G_needs_by hr (by decide) (by rfl) (pa_cons (pv 0) (pa_cons (pv 1) pa_nil))) (pa_cons (pv 2) pa_nil))))))))

/-! least_lots: 0 trust, 1 house -/
abbrev N_least_lots : List Str := ["trust", "house"]
abbrev P_least_lots : List Str := ["trust", "house"]
theorem sc_least_lots : FnScope N_least_lots P_least_lots (defScope s_least_lots) := ⟨rfl, rfl, rfl, by decide +kernel, rfl, by decide +kernel, by decide +kernel⟩
def t_least_lots (P : Program) (w : World) (K : PySem.W.Frag) : TS := (tSeq (tDrop (tCall (sp_want_trust) [.str "trust"] E0 (tCons (tVar 0) tNil))) (tSeq (tDrop (tCall (sp_want_house) [.str "house"] E0 (tCons (tVar 0) (tCons (tVar 1) tNil)))) (tRet (tCall (sp_crossings_by) [] E0 (tCons (tCall (sp_needs_by) [] E0 (tCons (tVar 0) (tCons (tVar 1) tNil))) tNil)))))
theorem pe_least_lots (T : TB mg) (D_want_trust : KnD P w K mg base "want_trust" P_want_trust 7 (sp_want_trust) [.str "trust"]) (D_want_house : KnD P w K mg base "want_house" P_want_house 3 (sp_want_house) [.str "house"]) (G_needs_by : Kn P w K mg base "needs_by" P_needs_by 4 (sp_needs_by)) (G_crossings_by : Kn P w K mg base "crossings_by" P_crossings_by 3 (sp_crossings_by)) : BodyOk P w K mg base 7 N_least_lots "least_lots" s_least_lots (t_least_lots P w K) := by
  intro f cdv A outer s H E hr
  have hu : _ + 65 < cLine := hu65 hr
  have hu1 : _ + 64 < cLine := hu64 hr
  have hu2 : _ + 1 < cLine := hu1of hr
  have sc := sc_least_lots
  exact (pss_cons (ps_expr (pe_knD D_want_trust hr (by decide) (by rfl) (pa_cons (pv 0) pa_nil))) (pss_cons (ps_expr (pe_knD D_want_house hr (by decide) (by rfl) (pa_cons (pv 0) (pa_cons (pv 1) pa_nil)))) (pss_one (ps_ret (pe_kn G_crossings_by hr (by decide) (by rfl) (pa_cons (pe_kn G_needs_by hr (by decide) (by rfl) (pa_cons (pv 0) (pa_cons (pv 1) pa_nil))) pa_nil))))))

/-! fewest_lot: 0 trust, 1 house, 2 lots, 3 fewest, 4 lot -/
abbrev N_fewest_lot : List Str := ["trust", "house", "lots", "fewest", "lot"]
abbrev P_fewest_lot : List Str := ["trust", "house"]
theorem sc_fewest_lot : FnScope N_fewest_lot P_fewest_lot (defScope s_fewest_lot) := ⟨rfl, rfl, rfl, by decide +kernel, rfl, by decide +kernel, by decide +kernel⟩
def t_fewest_lot (P : Program) (w : World) (K : PySem.W.Frag) : TS := (tSeq (tDrop (tCall (sp_want_trust) [.str "trust"] E0 (tCons (tVar 0) tNil))) (tSeq (tDrop (tCall (sp_want_house) [.str "house"] E0 (tCons (tVar 0) (tCons (tVar 1) tNil)))) (tSeq (tAsg (tCall (sp_crossings_by) [] E0 (tCons (tCall (sp_needs_by) [] E0 (tCons (tVar 0) (tCons (tVar 1) tNil))) tNil)) (gName 2)) (tSeq (tIfS (tTest (tOp (rEqD K) (tCB (rLenX K) (tCons (tVar 2) tNil)) (tC (.int 0)))) (tRet (tC .non)) tNext) (tSeq (tAsg (tCB (rMin K) (tCons (tLc (iSeq K (tVar 2)) (gName 4) tYes (tCB (rLenX K) (tCons (tVar 4) tNil)) [4]) tNil)) (gName 3)) (tRet (tOp (rIx K) (tLc (iSeq K (tVar 2)) (gName 4) (tTest (tOp (rEqD K) (tCB (rLenX K) (tCons (tVar 4) tNil)) (tVar 3))) (tVar 4) [4]) (tC (.int 0)))))))))
theorem pe_fewest_lot (T : TB mg) (D_want_trust : KnD P w K mg base "want_trust" P_want_trust 7 (sp_want_trust) [.str "trust"]) (D_want_house : KnD P w K mg base "want_house" P_want_house 3 (sp_want_house) [.str "house"]) (G_needs_by : Kn P w K mg base "needs_by" P_needs_by 4 (sp_needs_by)) (G_crossings_by : Kn P w K mg base "crossings_by" P_crossings_by 3 (sp_crossings_by)) : BodyOk P w K mg base 7 N_fewest_lot "fewest_lot" s_fewest_lot (t_fewest_lot P w K) := by
  intro f cdv A outer s H E hr
  have hu : _ + 65 < cLine := hu65 hr
  have hu1 : _ + 64 < cLine := hu64 hr
  have hu2 : _ + 1 < cLine := hu1of hr
  have sc := sc_fewest_lot
  exact (pss_cons (ps_expr (pe_knD D_want_trust hr (by decide) (by rfl) (pa_cons (pv 0) pa_nil))) (pss_cons (ps_expr (pe_knD D_want_house hr (by decide) (by rfl) (pa_cons (pv 0) (pa_cons (pv 1) pa_nil)))) (pss_cons (ps_set (i := 2) sc.nd rfl (.inl rfl) (pe_kn G_crossings_by hr (by decide) (by rfl) (pa_cons (pe_kn G_needs_by hr (by decide) (by rfl) (pa_cons (pv 0) (pa_cons (pv 1) pa_nil))) pa_nil))) (pss_cons (ps_if (pt_cmpR (op_eqD hu1) (pe_callB call_len (by rfl) T.len_ (by decide +kernel) (pa_cons (pv 2) pa_nil)) pe_int (nomark _)) (pss_one (ps_ret pe_non)) pss_nil) (pss_cons (ps_set (i := 3) sc.nd rfl (.inr rfl) (pe_callB (cr_min rfl) (by rfl) T.min_ (by decide +kernel) (pa_cons (pe_lc (own := [("lot", 4)]) rfl sc.nd (pi_seq (pv 2)) (blkOk_by (by first | rfl | decide +kernel)) (fun _ _ _ _ _ => (pg_name (i := 4) sc.nd rfl (by first | exact .inl rfl | exact .inr rfl))) (fun _ _ _ _ _ => pts_nil) (fun _ _ _ _ _ => (pe_callB call_len (by rfl) T.len_ (by decide +kernel) (pa_cons (pv 4) pa_nil)))) pa_nil))) (pss_one (ps_ret (pe_ix ix_seq (pe_lc (own := [("lot", 4)]) rfl sc.nd (pi_seq (pv 2)) (blkOk_by (by first | rfl | decide +kernel)) (fun _ _ _ _ _ => (pg_name (i := 4) sc.nd rfl (by first | exact .inl rfl | exact .inr rfl))) (fun _ _ _ _ _ => (pts_one (pt_cmpR (op_eqD hu1) (pe_callB call_len (by rfl) T.len_ (by decide +kernel) (pa_cons (pv 4) pa_nil)) (pv 3) (nomark _)))) (fun _ _ _ _ _ => (pv 4))) pe_int (fun _ _ => rfl)))))))))

/-! safe_houses: 0 trust, 1 fall -/
abbrev N_safe_houses : List Str := ["trust", "fall"]
abbrev P_safe_houses : List Str := ["trust", "fall"]
theorem sc_safe_houses : FnScope N_safe_houses P_safe_houses (defScope s_safe_houses) := ⟨rfl, rfl, rfl, by decide +kernel, rfl, by decide +kernel, by decide +kernel⟩
def t_safe_houses (P : Program) (w : World) (K : PySem.W.Frag) : TS := (tSeq (tDrop (tCall (sp_want_trust) [.str "trust"] E0 (tCons (tVar 0) tNil))) (tSeq (tDrop (tCall (sp_want_lot) [] E0 (tCons (tVar 0) (tCons (tVar 1) (tCons (tC (.str "fall")) tNil))))) (tRet (tCall (sp_safe_by) [] E0 (tCons (tVar 0) (tCons (tVar 1) tNil))))))
theorem pe_safe_houses (T : TB mg) (D_want_trust : KnD P w K mg base "want_trust" P_want_trust 7 (sp_want_trust) [.str "trust"]) (G_want_lot : Kn P w K mg base "want_lot" P_want_lot 5 (sp_want_lot)) (G_safe_by : Kn P w K mg base "safe_by" P_safe_by 3 (sp_safe_by)) : BodyOk P w K mg base 7 N_safe_houses "safe_houses" s_safe_houses (t_safe_houses P w K) := by
  intro f cdv A outer s H E hr
  have hu : _ + 65 < cLine := hu65 hr
  have hu1 : _ + 64 < cLine := hu64 hr
  have hu2 : _ + 1 < cLine := hu1of hr
  have sc := sc_safe_houses
  exact (pss_cons (ps_expr (pe_knD D_want_trust hr (by decide) (by rfl) (pa_cons (pv 0) pa_nil))) (pss_cons (ps_expr (pe_kn G_want_lot hr (by decide) (by rfl) (pa_cons (pv 0) (pa_cons (pv 1) (pa_cons pe_str pa_nil))))) (pss_one (ps_ret (pe_kn G_safe_by hr (by decide) (by rfl) (pa_cons (pv 0) (pa_cons (pv 1) pa_nil)))))))

/-! want_rule: 0 book, 1 rule -/
abbrev N_want_rule : List Str := ["book", "rule"]
abbrev P_want_rule : List Str := ["book", "rule"]
theorem sc_want_rule : FnScope N_want_rule P_want_rule (defScope s_want_rule) := ⟨rfl, rfl, rfl, by decide +kernel, rfl, by decide +kernel, by decide +kernel⟩
def t_want_rule (P : Program) (w : World) (K : PySem.W.Frag) : TS := (tSeq (tDrop (tCall (sp_want_book) [.str "book"] E0 (tCons (tVar 0) tNil))) (tDrop (tCall (sp_want) [.int (-1)] E0 (tCons (tCall (sp_is_index) [] E0 (tCons (tVar 1) (tCons (tCB (rLenX K) (tCons (tOp (rIx K) (tVar 0) (tC (.int 3))) tNil)) tNil))) (tCons (tC (.str "rule")) tNil)))))
theorem pe_want_rule (T : TB mg) (D_want_book : KnD P w K mg base "want_book" P_want_book 9 (sp_want_book) [.str "book"]) (G_is_index : Kn P w K mg base "is_index" P_is_index 3 (sp_is_index)) (D_want : KnD P w K mg base "want" P_want 1 (sp_want) [.int (-1)]) : BodyOk P w K mg base 9 N_want_rule "want_rule" s_want_rule (t_want_rule P w K) := by
  intro f cdv A outer s H E hr
  have hu : _ + 65 < cLine := hu65 hr
  have hu1 : _ + 64 < cLine := hu64 hr
  have hu2 : _ + 1 < cLine := hu1of hr
  have sc := sc_want_rule
  exact (pss_cons (ps_expr (pe_knD D_want_book hr (by decide) (by rfl) (pa_cons (pv 0) pa_nil))) (pss_one (ps_expr (pe_knD D_want hr (by decide) (by rfl) (pa_cons (pe_kn G_is_index hr (by decide) (by rfl) (pa_cons (pv 1) (pa_cons (pe_callB call_len (by rfl) T.len_ (by decide +kernel) (pa_cons (pe_ix ix_seq (pv 0) pe_int (fun _ _ => rfl)) pa_nil)) pa_nil))) (pa_cons pe_str pa_nil))))))

/-! answer_in: 0 machine, 1 state, 2 look -/
abbrev N_answer_in : List Str := ["machine", "state", "look"]
abbrev P_answer_in : List Str := ["machine", "state", "look"]
theorem sc_answer_in : FnScope N_answer_in P_answer_in (defScope s_answer_in) := ⟨rfl, rfl, rfl, by decide +kernel, rfl, by decide +kernel, by decide +kernel⟩
def t_answer_in (P : Program) (w : World) (K : PySem.W.Frag) : TS := (tRet (tOp (rIx K) (tOp (rIx K) (tOp (rIx K) (tVar 0) (tC (.int 3))) (tVar 1)) (tIdxX K (tOp (rIx K) (tVar 0) (tC (.int 1))) (tCons (tVar 2) tNil))))
theorem pe_answer_in (T : TB mg)  : BodyOk P w K mg base 0 N_answer_in "answer_in" s_answer_in (t_answer_in P w K) := by
  intro f cdv A outer s H E hr
  have hu : _ + 65 < cLine := hu65 hr
  have hu1 : _ + 64 < cLine := hu64 hr
  have hu2 : _ + 1 < cLine := hu1of hr
  have sc := sc_answer_in
  exact (pss_one (ps_ret (pe_ix ix_seq (pe_ix ix_seq (pe_ix ix_seq (pv 0) pe_int (fun _ _ => rfl)) (pv 1) (fun _ _ => rfl)) (pe_idxX (pe_ix ix_seq (pv 0) pe_int (fun _ _ => rfl)) (pa_cons (pv 2) pa_nil)) (fun _ _ => rfl))))

/-! rows_from: 0 machine, 1 state, 2 found, 3 waiting, 4 spot, 5 here, 6 k, 7 letter, 8 goal -/
abbrev N_rows_from : List Str := ["machine", "state", "found", "waiting", "spot", "here", "k", "letter", "goal"]
abbrev P_rows_from : List Str := ["machine", "state"]
theorem sc_rows_from : FnScope N_rows_from P_rows_from (defScope s_rows_from) := ⟨rfl, rfl, rfl, by decide +kernel, rfl, by decide +kernel, by decide +kernel⟩
def t_rows_from (P : Program) (w : World) (K : PySem.W.Frag) : TS := (tSeq (tAsg (tDisp [((tVar 1), (tTup tNil))]) (gName 2)) (tSeq (tAsg (tLst (tCons (tVar 1) tNil)) (gName 3)) (tSeq (tAsg (tC (.int 0)) (gName 4)) (tSeq (tWhile (tTest (tOp (rI0 fun i j => .bl (decide (i < j))) (tVar 4) (tCB (rLenX K) (tCons (tVar 3) tNil)))) (tSeq (tAsg (tOp (rIx K) (tVar 3) (tVar 4)) (gName 5)) (tSeq (tAsg (tOp (rI0 fun i j => .int (i + j)) (tVar 4) (tC (.int 1))) (gName 4)) (tFor (iEnumT K (tCons (tOp (rIx K) (tVar 0) (tC (.int 0))) tNil)) (gTup K 2 (gCons (gName 6) (gCons (gName 7) gNil))) (tSeq (tAsg (tOp (rIx K) (tOp (rIx K) (tOp (rIx K) (tVar 0) (tC (.int 2))) (tVar 5)) (tVar 6)) (gName 8)) (tIfS (tB (tDNotIn (tVar 8) (tVar 2))) (tSeq (sDPut (tVar 2) (tVar 8) (tTup (StX.tStar K (tDGet (tVar 2) (tVar 5)) (tCons (tVar 7) tNil)))) (tDrop (tBM K "list" rAppend (tVar 3) (tCons (tVar 8) tNil)))) tNext)))))) (tRet (tVar 2))))))
theorem pe_rows_from (T : TB mg)  : BodyOk P w K mg base 0 N_rows_from "rows_from" s_rows_from (t_rows_from P w K) := by
  intro f cdv A outer s H E hr
  have hu : _ + 65 < cLine := hu65 hr
  have hu1 : _ + 64 < cLine := hu64 hr
  have hu2 : _ + 1 < cLine := hu1of hr
  have sc := sc_rows_from
  exact (pss_cons (ps_set (i := 2) sc.nd rfl (.inl rfl) (pe_disp (pps_cons (pv 1) (pe_tup pa_nil) pps_nil) rfl rfl (by simp) (by decide))) (pss_cons (ps_set (i := 3) sc.nd rfl (.inl rfl) (pe_lst (pa_cons (pv 1) pa_nil))) (pss_cons (ps_set (i := 4) sc.nd rfl (.inl rfl) pe_int) (pss_cons (ps_while PassesOwn.never (pt_cmpR op_lt (pv 4) (pe_callB call_len (by rfl) T.len_ (by decide +kernel) (pa_cons (pv 3) pa_nil)) (nomark _)) (pss_cons (ps_set (i := 5) sc.nd rfl (.inl rfl) (pe_ix ix_seq (pv 3) (pv 4) (fun _ _ => rfl))) (pss_cons (ps_set (i := 4) sc.nd rfl (.inl rfl) (pe_op op_add (pv 4) pe_int)) (pss_one (ps_for PassesOwn.never rfl (pi_enumT (by rfl) T.enumerate (pa_cons (pe_ix ix_seq (pv 0) pe_int (fun _ _ => rfl)) pa_nil)) (pg_tup rfl (pgs_cons (pg_name (i := 6) sc.nd rfl (by first | exact .inl rfl | exact .inr rfl)) (pgs_cons (pg_name (i := 7) sc.nd rfl (by first | exact .inl rfl | exact .inr rfl)) pgs_nil))) (pss_cons (ps_set (i := 8) sc.nd rfl (.inl rfl) (pe_ix ix_seq (pe_ix ix_seq (pe_ix ix_seq (pv 0) pe_int (fun _ _ => rfl)) (pv 5) (fun _ _ => rfl)) (pv 6) (fun _ _ => rfl))) (pss_one (ps_if (pt_cmp (pc_dnotin hu2 (pv 8) (pv 2)) (by rfl)) (pss_cons (ps_dput hu2 (pv 2) (pv 8) (pe_tup (StX.pa_star (pe_dget hu2 (pv 2) (pv 5) (fun _ _ => rfl)) (pa_cons (pv 7) pa_nil))) rfl) (pss_one (ps_expr (pe_bm PySem.F.plainAttrs_list PySem.F.slot_list_append PySem.F.type_list_append mt_append (pv 3) (pa_cons (pv 8) pa_nil))))) pss_nil)))))))) (pss_one (ps_ret (pv 2)))))))

/-! rows_in: 0 machine -/
abbrev N_rows_in : List Str := ["machine"]
abbrev P_rows_in : List Str := ["machine"]
theorem sc_rows_in : FnScope N_rows_in P_rows_in (defScope s_rows_in) := ⟨rfl, rfl, rfl, by decide +kernel, rfl, by decide +kernel, by decide +kernel⟩
def t_rows_in (P : Program) (w : World) (K : PySem.W.Frag) : TS := (tRet (tCall (sp_rows_from) [] E0 (tCons (tVar 0) (tCons (tC (.int 0)) tNil))))
theorem pe_rows_in (T : TB mg) (G_rows_from : Kn P w K mg base "rows_from" P_rows_from 1 (sp_rows_from)) : BodyOk P w K mg base 1 N_rows_in "rows_in" s_rows_in (t_rows_in P w K) := by
  intro f cdv A outer s H E hr
  have hu : _ + 65 < cLine := hu65 hr
  have hu1 : _ + 64 < cLine := hu64 hr
  have hu2 : _ + 1 < cLine := hu1of hr
  have sc := sc_rows_in
  exact (pss_one (ps_ret (pe_kn G_rows_from hr (by decide) (by rfl) (pa_cons (pv 0) (pa_cons pe_int pa_nil)))))

/-! unlike_from: 0 machine, 1 look, 2 state, 3 own, 4 goal -/
abbrev N_unlike_from : List Str := ["machine", "look", "state", "own", "goal"]
abbrev P_unlike_from : List Str := ["machine", "look", "state"]
theorem sc_unlike_from : FnScope N_unlike_from P_unlike_from (defScope s_unlike_from) := ⟨rfl, rfl, rfl, by decide +kernel, rfl, by decide +kernel, by decide +kernel⟩
def t_unlike_from (P : Program) (w : World) (K : PySem.W.Frag) : TS := (tSeq (tAsg (tCall (sp_answer_in) [] E0 (tCons (tVar 0) (tCons (tVar 2) (tCons (tVar 1) tNil)))) (gName 3)) (tRet (tLc (iKeysF (tCall (sp_rows_from) [] E0 (tCons (tVar 0) (tCons (tVar 2) tNil)))) (gName 4) (tTest (tOp (rNeD K) (tCall (sp_answer_in) [] E0 (tCons (tVar 0) (tCons (tVar 4) (tCons (tVar 1) tNil)))) (tVar 3))) (tVar 4) [4])))
theorem pe_unlike_from (T : TB mg) (G_answer_in : Kn P w K mg base "answer_in" P_answer_in 1 (sp_answer_in)) (G_rows_from : Kn P w K mg base "rows_from" P_rows_from 1 (sp_rows_from)) : BodyOk P w K mg base 1 N_unlike_from "unlike_from" s_unlike_from (t_unlike_from P w K) := by
  intro f cdv A outer s H E hr
  have hu : _ + 65 < cLine := hu65 hr
  have hu1 : _ + 64 < cLine := hu64 hr
  have hu2 : _ + 1 < cLine := hu1of hr
  have sc := sc_unlike_from
  exact (pss_cons (ps_set (i := 3) sc.nd rfl (.inr rfl) (pe_kn G_answer_in hr (by decide) (by rfl) (pa_cons (pv 0) (pa_cons (pv 2) (pa_cons (pv 1) pa_nil))))) (pss_one (ps_ret (pe_lc (own := [("goal", 4)]) rfl sc.nd (pi_keysF (pe_kn G_rows_from hr (by decide) (by rfl) (pa_cons (pv 0) (pa_cons (pv 2) pa_nil)))) (blkOk_by (by first | rfl | decide +kernel)) (fun _ _ _ _ _ => (pg_name (i := 4) sc.nd rfl (by first | exact .inl rfl | exact .inr rfl))) (fun _ _ _ _ _ => (pts_one (pt_cmpR (op_neD hu1) (pe_kn G_answer_in hr (by decide) (by rfl) (pa_cons (pv 0) (pa_cons (pv 4) (pa_cons (pv 1) pa_nil)))) (pv 3) (nomark _)))) (fun _ _ _ _ _ => (pv 4))))))

/-! kept_within: 0 machine, 1 some, 2 late, 3 state, 4 goal -/
abbrev N_kept_within : List Str := ["machine", "some", "late", "state", "goal"]
abbrev P_kept_within : List Str := ["machine", "some", "late"]
theorem sc_kept_within : FnScope N_kept_within P_kept_within (defScope s_kept_within) := ⟨rfl, rfl, rfl, by decide +kernel, rfl, by decide +kernel, by decide +kernel⟩
def t_kept_within (P : Program) (w : World) (K : PySem.W.Frag) : TS := (tRet (tLc (iSeq K (tVar 1)) (gName 3) (tB (tCB (rAny K) (tCons (tLc (iSeq K (tOp (rIx K) (tOp (rIx K) (tVar 0) (tC (.int 2))) (tVar 3))) (gName 4) tYes (tOp (rInA K false) (tVar 4) (tVar 2)) [4]) tNil))) (tVar 3) [3]))
theorem pe_kept_within (T : TB mg)  : BodyOk P w K mg base 0 N_kept_within "kept_within" s_kept_within (t_kept_within P w K) := by
  intro f cdv A outer s H E hr
  have hu : _ + 65 < cLine := hu65 hr
  have hu1 : _ + 64 < cLine := hu64 hr
  have hu2 : _ + 1 < cLine := hu1of hr
  have sc := sc_kept_within
  exact (pss_one (ps_ret (pe_lc (own := [("state", 3)]) rfl sc.nd (pi_seq (pv 1)) (blkOk_by (by first | rfl | decide +kernel)) (fun _ _ _ _ _ => (pg_name (i := 3) sc.nd rfl (by first | exact .inl rfl | exact .inr rfl))) (fun _ _ _ _ _ => (pts_one (pt_val (pe_callB (cr_any rfl) (by rfl) T.any_ (by decide +kernel) (pa_cons (pe_lc (own := [("goal", 4)]) rfl sc.nd (pi_seq (pe_ix ix_seq (pe_ix ix_seq (pv 0) pe_int (fun _ _ => rfl)) (pv 3) (fun _ _ => rfl))) (blkOk_by (by first | rfl | decide +kernel)) (fun _ _ _ _ _ => (pg_name (i := 4) sc.nd rfl (by first | exact .inl rfl | exact .inr rfl))) (fun _ _ _ _ _ => pts_nil) (fun _ _ _ _ _ => (pe_cmpR (op_inA hu) (pv 4) (pv 2) (by rfl)))) pa_nil))))) (fun _ _ _ _ _ => (pv 3)))))

/-! longest_from: 0 machine, 1 look, 2 state, 3 some, 4 late, 5 many, 6 nearer -/
abbrev N_longest_from : List Str := ["machine", "look", "state", "some", "late", "many", "nearer"]
abbrev P_longest_from : List Str := ["machine", "look", "state"]
theorem sc_longest_from : FnScope N_longest_from P_longest_from (defScope s_longest_from) := ⟨rfl, rfl, rfl, by decide +kernel, rfl, by decide +kernel, by decide +kernel⟩
def t_longest_from (P : Program) (w : World) (K : PySem.W.Frag) : TS := (tSeq (tAsg (tCall (sp_unlike_from) [] E0 (tCons (tVar 0) (tCons (tVar 1) (tCons (tVar 2) tNil)))) (gName 3)) (tSeq (tPar 4 5 (tCons (tVar 3) (tCons (tC (.int 0)) tNil))) (tSeq (tWhile (tTest (tOp (rI0 fun i j => .bl (decide (j < i))) (tCB (rLenX K) (tCons (tVar 4) tNil)) (tC (.int 0)))) (tSeq (tAsg (tOp (rI0 fun i j => .int (i + j)) (tVar 5) (tC (.int 1))) (gName 5)) (tSeq (tAsg (tCall (sp_kept_within) [] E0 (tCons (tVar 0) (tCons (tVar 3) (tCons (tVar 4) tNil)))) (gName 6)) (tSeq (tIfS (tTest (tOp (rEqD K) (tVar 6) (tVar 4))) (tRet (tC .non)) tNext) (tAsg (tVar 6) (gName 4)))))) (tRet (tVar 5)))))
theorem pe_longest_from (T : TB mg) (G_unlike_from : Kn P w K mg base "unlike_from" P_unlike_from 2 (sp_unlike_from)) (G_kept_within : Kn P w K mg base "kept_within" P_kept_within 1 (sp_kept_within)) : BodyOk P w K mg base 2 N_longest_from "longest_from" s_longest_from (t_longest_from P w K) := by
  intro f cdv A outer s H E hr
  have hu : _ + 65 < cLine := hu65 hr
  have hu1 : _ + 64 < cLine := hu64 hr
  have hu2 : _ + 1 < cLine := hu1of hr
  have sc := sc_longest_from
  exact (pss_cons (ps_set (i := 3) sc.nd rfl (.inl rfl) (pe_kn G_unlike_from hr (by decide) (by rfl) (pa_cons (pv 0) (pa_cons (pv 1) (pa_cons (pv 2) pa_nil))))) (pss_cons (ps_par (i := 4) (j := 5) rfl sc.nd rfl rfl (by decide) rfl rfl (pa_cons (pv 3) (pa_cons pe_int pa_nil)) (by rfl)) (pss_cons (ps_while PassesOwn.never (pt_cmpR op_gt (pe_callB call_len (by rfl) T.len_ (by decide +kernel) (pa_cons (pv 4) pa_nil)) pe_int (nomark _)) (pss_cons (ps_set (i := 5) sc.nd rfl (.inl rfl) (pe_op op_add (pv 5) pe_int)) (pss_cons (ps_set (i := 6) sc.nd rfl (.inl rfl) (pe_kn G_kept_within hr (by decide) (by rfl) (pa_cons (pv 0) (pa_cons (pv 3) (pa_cons (pv 4) pa_nil))))) (pss_cons (ps_if (pt_cmpR (op_eqD hu1) (pv 6) (pv 4) (nomark _)) (pss_one (ps_ret pe_non)) pss_nil) (pss_one (ps_set (i := 4) sc.nd rfl (.inl rfl) (pv 6))))))) (pss_one (ps_ret (pv 5))))))

/-! least_age_in: 0 machine, 1 look, 2 found, 3 state, 4 many -/
abbrev N_least_age_in : List Str := ["machine", "look", "found", "state", "many"]
abbrev P_least_age_in : List Str := ["machine", "look"]
theorem sc_least_age_in : FnScope N_least_age_in P_least_age_in (defScope s_least_age_in) := ⟨rfl, rfl, rfl, by decide +kernel, rfl, by decide +kernel, by decide +kernel⟩
def t_least_age_in (P : Program) (w : World) (K : PySem.W.Frag) : TS := (tSeq (tAsg (tLc (iKeysF (tCall (sp_rows_in) [] E0 (tCons (tVar 0) tNil))) (gName 3) tYes (tCall (sp_longest_from) [] E0 (tCons (tVar 0) (tCons (tVar 1) (tCons (tVar 3) tNil)))) [3]) (gName 2)) (tSeq (tIfS (tTest (tOp (rInA K false) (tC .non) (tVar 2))) (tRet (tC .non)) tNext) (tRet (tCB (rMax K) (tCons (tLst (tCons (tC (.int 0)) (StX.tStar K (tLc (iSeq K (tVar 2)) (gName 4) (tTest (tOp rNotNX (tVar 4) (tC .non))) (tVar 4) [4]) tNil))) tNil)))))
theorem pe_least_age_in (T : TB mg) (G_rows_in : Kn P w K mg base "rows_in" P_rows_in 2 (sp_rows_in)) (G_longest_from : Kn P w K mg base "longest_from" P_longest_from 3 (sp_longest_from)) : BodyOk P w K mg base 3 N_least_age_in "least_age_in" s_least_age_in (t_least_age_in P w K) := by
  intro f cdv A outer s H E hr
  have hu : _ + 65 < cLine := hu65 hr
  have hu1 : _ + 64 < cLine := hu64 hr
  have hu2 : _ + 1 < cLine := hu1of hr
  have sc := sc_least_age_in
  exact (pss_cons (ps_setLc (i := 2) (own := [("state", 3)]) rfl sc.nd rfl rfl (sw_true rfl rfl rfl (by decide +kernel)) (pi_keysF (pe_kn G_rows_in hr (by decide) (by rfl) (pa_cons (pv 0) pa_nil))) (blkOk_by (by first | rfl | decide +kernel)) (fun _ _ _ _ _ => (pg_name (i := 3) sc.nd rfl (by first | exact .inl rfl | exact .inr rfl))) (fun _ _ _ _ _ => pts_nil) (fun _ _ _ _ _ => (pe_kn G_longest_from hr (by decide) (by rfl) (pa_cons (pv 0) (pa_cons (pv 1) (pa_cons (pv 3) pa_nil)))))) (pss_cons (ps_if (pt_cmpR (op_inA hu) pe_non (pv 2) (by rfl)) (pss_one (ps_ret pe_non)) pss_nil) (pss_one (ps_ret (pe_callB (cr_max rfl) (by rfl) T.max_ (by decide +kernel) (pa_cons (pe_lst (pa_cons pe_int (StX.pa_star (pe_lc (own := [("many", 4)]) rfl sc.nd (pi_seq (pv 2)) (blkOk_by (by first | rfl | decide +kernel)) (fun _ _ _ _ _ => (pg_name (i := 4) sc.nd rfl (by first | exact .inl rfl | exact .inr rfl))) (fun _ _ _ _ _ => (pts_one (pt_cmpR op_notN (pv 4) pe_non (nomark _)))) (fun _ _ _ _ _ => (pv 4))) pa_nil))) pa_nil))))))

/-! moves_in: 0 machine, 1 look, 2 age, 3 least -/
abbrev N_moves_in : List Str := ["machine", "look", "age", "least"]
abbrev P_moves_in : List Str := ["machine", "look", "age"]
theorem sc_moves_in : FnScope N_moves_in P_moves_in (defScope s_moves_in) := ⟨rfl, rfl, rfl, by decide +kernel, rfl, by decide +kernel, by decide +kernel⟩
def t_moves_in (P : Program) (w : World) (K : PySem.W.Frag) : TS := (tSeq (tAsg (tCall (sp_least_age_in) [] E0 (tCons (tVar 0) (tCons (tVar 1) tNil))) (gName 3)) (tRet (tOrV (tOp rIsNX (tVar 3) (tC .non)) (tOp (rI0 fun i j => .bl (decide (i < j))) (tVar 2) (tVar 3)))))
theorem pe_moves_in (T : TB mg) (G_least_age_in : Kn P w K mg base "least_age_in" P_least_age_in 4 (sp_least_age_in)) : BodyOk P w K mg base 4 N_moves_in "moves_in" s_moves_in (t_moves_in P w K) := by
  intro f cdv A outer s H E hr
  have hu : _ + 65 < cLine := hu65 hr
  have hu1 : _ + 64 < cLine := hu64 hr
  have hu2 : _ + 1 < cLine := hu1of hr
  have sc := sc_moves_in
  exact (pss_cons (ps_set (i := 3) sc.nd rfl (.inl rfl) (pe_kn G_least_age_in hr (by decide) (by rfl) (pa_cons (pv 0) (pa_cons (pv 1) pa_nil)))) (pss_one (ps_ret (pe_or (pe_cmpR op_isN (pv 3) pe_non (nomark _)) (pe_one (pe_cmpR op_lt (pv 2) (pv 3) (nomark _)))))))

/-! lasting_in: 0 book, 1 rule, 2 house, 3 looks, 4 lot, 5 end, 6 promises, 7 promise -/
abbrev N_lasting_in : List Str := ["book", "rule", "house", "looks", "lot", "end", "promises", "promise"]
abbrev P_lasting_in : List Str := ["book", "rule"]
theorem sc_lasting_in : FnScope N_lasting_in P_lasting_in (defScope s_lasting_in) := ⟨rfl, rfl, rfl, by decide +kernel, rfl, by decide +kernel, by decide +kernel⟩
def t_lasting_in (P : Program) (w : World) (K : PySem.W.Frag) : TS := (tSeq (tAsg (tOp (rIx K) (tOp (rIx K) (tVar 0) (tC (.int 3))) (tVar 1)) (gTup K 5 (gCons (gName 2) (gCons (gName 3) (gCons (gName 4) (gCons (gName 5) (gCons (gName 6) gNil))))))) (tRet (tCB (rTupX K) (tCons (tLc (iSeq K (tVar 6)) (gName 7) tNevT (tOp (rIx K) (tVar 7) (tC (.int 0))) [7]) tNil))))
theorem pe_lasting_in (T : TB mg)  : BodyOk P w K mg base 2 N_lasting_in "lasting_in" s_lasting_in (t_lasting_in P w K) := by
  intro f cdv A outer s H E hr
  have hu : _ + 65 < cLine := hu65 hr
  have hu1 : _ + 64 < cLine := hu64 hr
  have hu2 : _ + 1 < cLine := hu1of hr
  have sc := sc_lasting_in
  exact (pss_cons (ps_asg (pe_ix ix_seq (pe_ix ix_seq (pv 0) pe_int (fun _ _ => rfl)) (pv 1) (fun _ _ => rfl)) (pg_tup rfl (pgs_cons (pg_name (i := 2) sc.nd rfl (by first | exact .inl rfl | exact .inr rfl)) (pgs_cons (pg_name (i := 3) sc.nd rfl (by first | exact .inl rfl | exact .inr rfl)) (pgs_cons (pg_name (i := 4) sc.nd rfl (by first | exact .inl rfl | exact .inr rfl)) (pgs_cons (pg_name (i := 5) sc.nd rfl (by first | exact .inl rfl | exact .inr rfl)) (pgs_cons (pg_name (i := 6) sc.nd rfl (by first | exact .inl rfl | exact .inr rfl)) pgs_nil))))))) (pss_one (ps_ret (pe_callTy call_tuple_of (by rfl) T.tuple_ (by decide +kernel) (pa_cons (pe_lc (own := [("promise", 7)]) rfl sc.nd (pi_seq (pv 6)) (blkOk_by (by first | rfl | decide +kernel)) (fun _ _ _ _ _ => (pg_name (i := 7) sc.nd rfl (by first | exact .inl rfl | exact .inr rfl))) (fun _ _ _ _ _ => (pts_one pt_nev)) (fun _ _ _ _ _ => (pe_ix ix_seq (pv 7) pe_int (fun _ _ => rfl)))) pa_nil)))))

/-! caught_in: 0 book, 1 rule, 2 need -/
abbrev N_caught_in : List Str := ["book", "rule", "need"]
abbrev P_caught_in : List Str := ["book", "rule", "need"]
theorem sc_caught_in : FnScope N_caught_in P_caught_in (defScope s_caught_in) := ⟨rfl, rfl, rfl, by decide +kernel, rfl, by decide +kernel, by decide +kernel⟩
def t_caught_in (P : Program) (w : World) (K : PySem.W.Frag) : TS := (tRet (tOrV (tCall (sp_meets_in) [] E0 (tCons (tVar 2) (tCons (tOp (rIx K) (tOp (rIx K) (tOp (rIx K) (tVar 0) (tC (.int 3))) (tVar 1)) (tC (.int 2))) tNil))) (tCall (sp_meets_in) [] E0 (tCons (tVar 2) (tCons (tCall (sp_lasting_in) [] E0 (tCons (tVar 0) (tCons (tVar 1) tNil))) tNil)))))
theorem pe_caught_in (T : TB mg) (G_meets_in : Kn P w K mg base "meets_in" P_meets_in 1 (sp_meets_in)) (G_lasting_in : Kn P w K mg base "lasting_in" P_lasting_in 3 (sp_lasting_in)) : BodyOk P w K mg base 3 N_caught_in "caught_in" s_caught_in (t_caught_in P w K) := by
  intro f cdv A outer s H E hr
  have hu : _ + 65 < cLine := hu65 hr
  have hu1 : _ + 64 < cLine := hu64 hr
  have hu2 : _ + 1 < cLine := hu1of hr
  have sc := sc_caught_in
  exact (pss_one (ps_ret (pe_or (pe_kn G_meets_in hr (by decide) (by rfl) (pa_cons (pv 2) (pa_cons (pe_ix ix_seq (pe_ix ix_seq (pe_ix ix_seq (pv 0) pe_int (fun _ _ => rfl)) (pv 1) (fun _ _ => rfl)) pe_int (fun _ _ => rfl)) pa_nil))) (pe_one (pe_kn G_meets_in hr (by decide) (by rfl) (pa_cons (pv 2) (pa_cons (pe_kn G_lasting_in hr (by decide) (by rfl) (pa_cons (pv 0) (pa_cons (pv 1) pa_nil))) pa_nil)))))))

/-! moving_in: 0 book, 1 rule, 2 age, 3 found, 4 look -/
abbrev N_moving_in : List Str := ["book", "rule", "age", "found", "look"]
abbrev P_moving_in : List Str := ["book", "rule", "age"]
theorem sc_moving_in : FnScope N_moving_in P_moving_in (defScope s_moving_in) := ⟨rfl, rfl, rfl, by decide +kernel, rfl, by decide +kernel, by decide +kernel⟩
def t_moving_in (P : Program) (w : World) (K : PySem.W.Frag) : TS := (tSeq (tAsg (tLc (iSeq K (tOp (rIx K) (tOp (rIx K) (tOp (rIx K) (tVar 0) (tC (.int 3))) (tVar 1)) (tC (.int 1)))) (gName 4) (tB (tCall (sp_moves_in) [] E0 (tCons (tOp (rIx K) (tVar 0) (tC (.int 0))) (tCons (tVar 4) (tCons (tVar 2) tNil))))) (tVar 4) [4]) (gName 3)) (tRet (tIf (tTest (tOp (rI0 fun i j => .bl (decide (j < i))) (tCB (rLenX K) (tCons (tVar 3) tNil)) (tC (.int 0)))) (tOp (rIx K) (tVar 3) (tC (.int 0))) (tC .non))))
theorem pe_moving_in (T : TB mg) (G_moves_in : Kn P w K mg base "moves_in" P_moves_in 5 (sp_moves_in)) : BodyOk P w K mg base 5 N_moving_in "moving_in" s_moving_in (t_moving_in P w K) := by
  intro f cdv A outer s H E hr
  have hu : _ + 65 < cLine := hu65 hr
  have hu1 : _ + 64 < cLine := hu64 hr
  have hu2 : _ + 1 < cLine := hu1of hr
  have sc := sc_moving_in
  exact (pss_cons (ps_setLc (i := 3) (own := [("look", 4)]) rfl sc.nd rfl rfl (sw_true rfl rfl rfl (by decide +kernel)) (pi_seq (pe_ix ix_seq (pe_ix ix_seq (pe_ix ix_seq (pv 0) pe_int (fun _ _ => rfl)) (pv 1) (fun _ _ => rfl)) pe_int (fun _ _ => rfl))) (blkOk_by (by first | rfl | decide +kernel)) (fun _ _ _ _ _ => (pg_name (i := 4) sc.nd rfl (by first | exact .inl rfl | exact .inr rfl))) (fun _ _ _ _ _ => (pts_one (pt_val (pe_kn G_moves_in hr (by decide) (by rfl) (pa_cons (pe_ix ix_seq (pv 0) pe_int (fun _ _ => rfl)) (pa_cons (pv 4) (pa_cons (pv 2) pa_nil))))))) (fun _ _ _ _ _ => (pv 4))) (pss_one (ps_ret (pe_ifExp (pt_cmpR op_gt (pe_callB call_len (by rfl) T.len_ (by decide +kernel) (pa_cons (pv 3) pa_nil)) pe_int (nomark _)) (pe_ix ix_seq (pv 3) pe_int (fun _ _ => rfl)) pe_non))))

/-! lacks_in: 0 book, 1 rule, 2 age, 3 needs, 4 need -/
abbrev N_lacks_in : List Str := ["book", "rule", "age", "needs", "need"]
abbrev P_lacks_in : List Str := ["book", "rule", "age"]
theorem sc_lacks_in : FnScope N_lacks_in P_lacks_in (defScope s_lacks_in) := ⟨rfl, rfl, rfl, by decide +kernel, rfl, by decide +kernel, by decide +kernel⟩
def t_lacks_in (P : Program) (w : World) (K : PySem.W.Frag) : TS := (tSeq (tIfS (tTest (tOp rIsNX (tCall (sp_moving_in) [] E0 (tCons (tVar 0) (tCons (tVar 1) (tCons (tVar 2) tNil)))) (tC .non))) (tRet (tTup tNil)) tNext) (tSeq (tAsg (tCall (sp_needs_by) [] E0 (tCons (tOp (rIx K) (tVar 0) (tC (.int 1))) (tCons (tOp (rIx K) (tOp (rIx K) (tOp (rIx K) (tVar 0) (tC (.int 3))) (tVar 1)) (tC (.int 0))) tNil))) (gName 3)) (tRet (tCB (rTupX K) (tCons (tLc (iSeq K (tVar 3)) (gName 4) (tNot (tB (tCall (sp_caught_in) [] E0 (tCons (tVar 0) (tCons (tVar 1) (tCons (tVar 4) tNil)))))) (tVar 4) [4]) tNil)))))
theorem pe_lacks_in (T : TB mg) (G_moving_in : Kn P w K mg base "moving_in" P_moving_in 6 (sp_moving_in)) (G_needs_by : Kn P w K mg base "needs_by" P_needs_by 4 (sp_needs_by)) (G_caught_in : Kn P w K mg base "caught_in" P_caught_in 4 (sp_caught_in)) : BodyOk P w K mg base 6 N_lacks_in "lacks_in" s_lacks_in (t_lacks_in P w K) := by
  intro f cdv A outer s H E hr
  have hu : _ + 65 < cLine := hu65 hr
  have hu1 : _ + 64 < cLine := hu64 hr
  have hu2 : _ + 1 < cLine := hu1of hr
  have sc := sc_lacks_in
  exact (pss_cons (ps_if (pt_cmpR op_isN (pe_kn G_moving_in hr (by decide) (by rfl) (pa_cons (pv 0) (pa_cons (pv 1) (pa_cons (pv 2) pa_nil)))) pe_non (nomark _)) (pss_one (ps_ret (pe_tup pa_nil))) pss_nil) (pss_cons (ps_set (i := 3) sc.nd rfl (.inl rfl) (pe_kn G_needs_by hr (by decide) (by rfl) (pa_cons (pe_ix ix_seq (pv 0) pe_int (fun _ _ => rfl)) (pa_cons (pe_ix ix_seq (pe_ix ix_seq (pe_ix ix_seq (pv 0) pe_int (fun _ _ => rfl)) (pv 1) (fun _ _ => rfl)) pe_int (fun _ _ => rfl)) pa_nil)))) (pss_one (ps_ret (pe_callTy call_tuple_of (by rfl) T.tuple_ (by decide +kernel) (pa_cons (pe_lc (own := [("need", 4)]) rfl sc.nd (pi_seq (pv 3)) (blkOk_by (by first | rfl | decide +kernel)) (fun _ _ _ _ _ => (pg_name (i := 4) sc.nd rfl (by first | exact .inl rfl | exact .inr rfl))) (fun _ _ _ _ _ => (pts_one (pt_not (pt_val (pe_kn G_caught_in hr (by decide) (by rfl) (pa_cons (pv 0) (pa_cons (pv 1) (pa_cons (pv 4) pa_nil)))))))) (fun _ _ _ _ _ => (pv 4))) pa_nil))))))

/-! rule_lacks: 0 book, 1 rule, 2 age -/
abbrev N_rule_lacks : List Str := ["book", "rule", "age"]
abbrev P_rule_lacks : List Str := ["book", "rule", "age"]
theorem sc_rule_lacks : FnScope N_rule_lacks P_rule_lacks (defScope s_rule_lacks) := ⟨rfl, rfl, rfl, by decide +kernel, rfl, by decide +kernel, by decide +kernel⟩
def t_rule_lacks (P : Program) (w : World) (K : PySem.W.Frag) : TS := (tSeq (tDrop (tCall (sp_want_rule) [] E0 (tCons (tVar 0) (tCons (tVar 1) tNil)))) (tSeq (tDrop (tCall (sp_want_age) [] E0 (tCons (tVar 0) (tCons (tVar 2) tNil)))) (tRet (tCall (sp_lacks_in) [] E0 (tCons (tVar 0) (tCons (tVar 1) (tCons (tVar 2) tNil)))))))
theorem pe_rule_lacks (T : TB mg) (G_want_rule : Kn P w K mg base "want_rule" P_want_rule 10 (sp_want_rule)) (G_want_age : Kn P w K mg base "want_age" P_want_age 3 (sp_want_age)) (G_lacks_in : Kn P w K mg base "lacks_in" P_lacks_in 7 (sp_lacks_in)) : BodyOk P w K mg base 10 N_rule_lacks "rule_lacks" s_rule_lacks (t_rule_lacks P w K) := by
  intro f cdv A outer s H E hr
  have hu : _ + 65 < cLine := hu65 hr
  have hu1 : _ + 64 < cLine := hu64 hr
  have hu2 : _ + 1 < cLine := hu1of hr
  have sc := sc_rule_lacks
  exact (pss_cons (ps_expr (pe_kn G_want_rule hr (by decide) (by rfl) (pa_cons (pv 0) (pa_cons (pv 1) pa_nil)))) (pss_cons (ps_expr (pe_kn G_want_age hr (by decide) (by rfl) (pa_cons (pv 0) (pa_cons (pv 2) pa_nil)))) (pss_one (ps_ret (pe_kn G_lacks_in hr (by decide) (by rfl) (pa_cons (pv 0) (pa_cons (pv 1) (pa_cons (pv 2) pa_nil))))))))

/-! rule_is_right: 0 book, 1 rule, 2 age -/
abbrev N_rule_is_right : List Str := ["book", "rule", "age"]
abbrev P_rule_is_right : List Str := ["book", "rule", "age"]
theorem sc_rule_is_right : FnScope N_rule_is_right P_rule_is_right (defScope s_rule_is_right) := ⟨rfl, rfl, rfl, by decide +kernel, rfl, by decide +kernel, by decide +kernel⟩
def t_rule_is_right (P : Program) (w : World) (K : PySem.W.Frag) : TS := (tRet (tOp (rEqD K) (tCallN 2 (List.length (α := Str) ["age"]) (sp_rule_lacks) gApp E0 (tCons (tVar 0) (tCons (tVar 1) tNil)) (tCons (tVar 2) tNil)) (tTup tNil)))
theorem pe_rule_is_right (T : TB mg) (K2_rule_lacks : KnK P w K mg base "rule_lacks" P_rule_lacks 11 (sp_rule_lacks) 2 ["age"] gApp) : BodyOk P w K mg base 11 N_rule_is_right "rule_is_right" s_rule_is_right (t_rule_is_right P w K) := by
  intro f cdv A outer s H E hr
  have hu : _ + 65 < cLine := hu65 hr
  have hu1 : _ + 64 < cLine := hu64 hr
  have hu2 : _ + 1 < cLine := hu1of hr
  have sc := sc_rule_is_right
  exact (pss_one (ps_ret (pe_cmpR (op_eqD hu1) (pe_knK K2_rule_lacks hr (by decide) (by rfl) (pa_cons (pv 0) (pa_cons (pv 1) pa_nil)) (pk_cons (pv 2) pk_nil)) (pe_tup pa_nil) (nomark _))))

/-! _law_feed: 0 _law_script, 1 _law_cell -/
abbrev N_law_feed : List Str := ["_law_script", "_law_cell"]
abbrev P_law_feed : List Str := ["_law_script"]
theorem sc_law_feed : FnScope N_law_feed P_law_feed (defScope s_law_feed) := ⟨rfl, rfl, rfl, by decide +kernel, rfl, by decide +kernel, by decide +kernel⟩
def t_law_feed (P : Program) (w : World) (K : PySem.W.Frag) : TS := (tRet (tDisp [((tC (.str "cells")), (tLc (iSeq K (L2.tSl (rSlL K) (tVar 0) tNoPart (tPart (tC (.int 63))))) (gName 1) tYes (tCB (rIntX) (tCons (tVar 1) tNil)) [1])), ((tC (.str "spot")), (tC (.int 0))), ((tC (.str "rest")), (tC (.int 0))), ((tC (.str "count")), (tC (.int 0)))]))
theorem pe_law_feed (T : TB mg)  : BodyOk P w K mg base 0 N_law_feed "_law_feed" s_law_feed (t_law_feed P w K) := by
  intro f cdv A outer s H E hr
  have hu : _ + 65 < cLine := hu65 hr
  have hu1 : _ + 64 < cLine := hu64 hr
  have hu2 : _ + 1 < cLine := hu1of hr
  have sc := sc_law_feed
  exact (pss_one (ps_ret (pe_disp (pps_cons pe_str (pe_lc (own := [("_law_cell", 1)]) rfl sc.nd (pi_seq (pe_slice sl_list (pv 0) po_none (po_some pe_int))) (blkOk_by (by first | rfl | decide +kernel)) (fun _ _ _ _ _ => (pg_name (i := 1) sc.nd rfl (by first | exact .inl rfl | exact .inr rfl))) (fun _ _ _ _ _ => pts_nil) (fun _ _ _ _ _ => (pe_callTy call_int1 (by rfl) T.int_ (by decide +kernel) (pa_cons (pv 1) pa_nil)))) (pps_cons pe_str pe_int (pps_cons pe_str pe_int (pps_cons pe_str pe_int pps_nil)))) rfl rfl (by simp) (by decide))))

/-! _law_draw: 0 _law_feed_here, 1 _law_many, 2 _law_figure, 3 _law_spot, 4 _law_cells, 5 _law_cell, 6 _law_mixed -/
abbrev N_law_draw : List Str := ["_law_feed_here", "_law_many", "_law_figure", "_law_spot", "_law_cells", "_law_cell", "_law_mixed"]
abbrev P_law_draw : List Str := ["_law_feed_here", "_law_many"]
theorem sc_law_draw : FnScope N_law_draw P_law_draw (defScope s_law_draw) := ⟨rfl, rfl, rfl, by decide +kernel, rfl, by decide +kernel, by decide +kernel⟩
def t_law_draw (P : Program) (w : World) (K : PySem.W.Frag) : TS := (tSeq (sDPut (tVar 0) (tC (.str "count")) (tOp (rI0 fun i j => .int (i + j)) (tDGet (tVar 0) (tC (.str "count"))) (tC (.int 1)))) (tSeq (tIfS (tTest (tOp (rI0 fun i j => .bl (decide (j < i))) (tDGet (tVar 0) (tC (.str "rest"))) (tC (.int 0)))) (tSeq (tAsg (tOp (rI (fun _ j => j ≠ 0) fun i j => .int (i.fmod j)) (tCB (rIntX) (tCons (tDGet (tVar 0) (tC (.str "rest"))) tNil)) (tVar 1)) (gName 2)) (tSeq (sDPut (tVar 0) (tC (.str "rest")) (tOp (rI CDivN fun i j => .int (i.fdiv j)) (tDGet (tVar 0) (tC (.str "rest"))) (tVar 1))) (tRet (tVar 2)))) tNext) (tSeq (tPar 3 4 (tCons (tDGet (tVar 0) (tC (.str "spot"))) (tCons (tDGet (tVar 0) (tC (.str "cells"))) tNil))) (tSeq (sDPut (tVar 0) (tC (.str "spot")) (tOp (rI0 fun i j => .int (i + j)) (tVar 3) (tC (.int 1)))) (tSeq (tAsg (tIf (tTest (tOp (rNeD K) (tVar 4) (tLst tNil))) (tOp (rIx K) (tVar 4) (tOp (rI (fun _ j => j ≠ 0) fun i j => .int (i.fmod j)) (tCB (rIntX) (tCons (tVar 3) tNil)) (tCB (rLenX K) (tCons (tVar 4) tNil)))) (tC (.int 900757))) (gName 5)) (tSeq (tIfS (tAnd (tTest (tOp (rI0 fun i j => .bl (decide (j ≤ i))) (tVar 5) (tOp (rI CPow fun i j => .int (i ^ j.toNat)) (tC (.int 10)) (tC (.int 18))))) (tTest (tOp (rI0 fun i j => .bl (decide (i < j))) (tVar 3) (tCB (rLenX K) (tCons (tVar 4) tNil))))) (tSeq (sDPut (tVar 0) (tC (.str "rest")) (tOp (rI CDivN fun i j => .int (i.fdiv j)) (tVar 5) (tVar 1))) (tRet (tOp (rI (fun _ j => j ≠ 0) fun i j => .int (i.fmod j)) (tCB (rIntX) (tCons (tVar 5) tNil)) (tVar 1)))) tNext) (tSeq (tAsg (tOp (rI (fun _ j => j ≠ 0) fun i j => .int (i.fmod j)) (tCB (rIntX) (tCons (tOp (rI0 fun i j => .int (i + j)) (tOp (rI0 fun i j => .int (i + j)) (tOp (rI CMul fun i j => .int (i * j)) (tOp (rI (fun _ j => j ≠ 0) fun i j => .int (i.fmod j)) (tCB (rIntX) (tCons (tVar 5) tNil)) (tC (.int 1000000007))) (tC (.int 7))) (tOp (rI CMul fun i j => .int (i * j)) (tC (.int 117421)) (tDGet (tVar 0) (tC (.str "count"))))) (tC (.int 2837))) tNil)) (tC (.int 2147482747))) (gName 6)) (tSeq (tAsg (tOp (rI (fun _ j => j ≠ 0) fun i j => .int (i.fmod j)) (tCB (rIntX) (tCons (tOp (rI0 fun i j => .int (i + j)) (tOp (rI0 fun i j => .int (i + j)) (tOp (rI CMul fun i j => .int (i * j)) (tVar 6) (tVar 6)) (tOp (rI CMul fun i j => .int (i * j)) (tC (.int 9646199)) (tDGet (tVar 0) (tC (.str "count"))))) (tC (.int 5641))) tNil)) (tC (.int 2147482003))) (gName 6)) (tRet (tOp (rI (fun _ j => j ≠ 0) fun i j => .int (i.fmod j)) (tCB (rIntX) (tCons (tOp (rI CDivN fun i j => .int (i.fdiv j)) (tOp (rI (fun _ j => j ≠ 0) fun i j => .int (i.fmod j)) (tCB (rIntX) (tCons (tOp (rI0 fun i j => .int (i + j)) (tOp (rI CMul fun i j => .int (i * j)) (tVar 6) (tVar 6)) (tOp (rI CMul fun i j => .int (i * j)) (tC (.int 3271)) (tVar 6))) tNil)) (tC (.int 2147481871))) (tC (.int 16))) tNil)) (tVar 1)))))))))))
theorem pe_law_draw (T : TB mg)  : BodyOk P w K mg base 0 N_law_draw "_law_draw" s_law_draw (t_law_draw P w K) := by
  intro f cdv A outer s H E hr
  have hu : _ + 65 < cLine := hu65 hr
  have hu1 : _ + 64 < cLine := hu64 hr
  have hu2 : _ + 1 < cLine := hu1of hr
  have sc := sc_law_draw
  exact (pss_cons (ps_dput hu2 (pv 0) pe_str (pe_op op_add (pe_dget hu2 (pv 0) pe_str (fun _ _ => rfl)) pe_int) rfl) (pss_cons (ps_if (pt_cmpR op_gt (pe_dget hu2 (pv 0) pe_str (fun _ _ => rfl)) pe_int (nomark _)) (pss_cons (ps_set (i := 2) sc.nd rfl (.inl rfl) (pe_op op_modN (pe_callTy call_int1 (by rfl) T.int_ (by decide +kernel) (pa_cons (pe_dget hu2 (pv 0) pe_str (fun _ _ => rfl)) pa_nil)) (pv 1))) (pss_cons (ps_dput hu2 (pv 0) pe_str (pe_op op_fdivN (pe_dget hu2 (pv 0) pe_str (fun _ _ => rfl)) (pv 1)) rfl) (pss_one (ps_ret (pv 2))))) pss_nil) (pss_cons (ps_par (i := 3) (j := 4) rfl sc.nd rfl rfl (by decide) rfl rfl (pa_cons (pe_dget hu2 (pv 0) pe_str (fun _ _ => rfl)) (pa_cons (pe_dget hu2 (pv 0) pe_str (fun _ _ => rfl)) pa_nil)) (by rfl)) (pss_cons (ps_dput hu2 (pv 0) pe_str (pe_op op_add (pv 3) pe_int) rfl) (pss_cons (ps_set (i := 5) sc.nd rfl (.inl rfl) (pe_ifExp (pt_cmpR (op_neD hu1) (pv 4) (pe_lst pa_nil) (nomark _)) (pe_ix ix_seq (pv 4) (pe_op op_modN (pe_callTy call_int1 (by rfl) T.int_ (by decide +kernel) (pa_cons (pv 3) pa_nil)) (pe_callB call_len (by rfl) T.len_ (by decide +kernel) (pa_cons (pv 4) pa_nil))) (fun _ _ => rfl)) pe_int)) (pss_cons (ps_if (PW.pt (pw_and (pt_cmpR op_ge (pv 5) (pe_op op_pow pe_int pe_int) (nomark _)) (pw_and1 (pt_cmpR op_lt (pv 3) (pe_callB call_len (by rfl) T.len_ (by decide +kernel) (pa_cons (pv 4) pa_nil)) (nomark _))))) (pss_cons (ps_dput hu2 (pv 0) pe_str (pe_op op_fdivN (pv 5) (pv 1)) rfl) (pss_one (ps_ret (pe_op op_modN (pe_callTy call_int1 (by rfl) T.int_ (by decide +kernel) (pa_cons (pv 5) pa_nil)) (pv 1))))) pss_nil) (pss_cons (ps_set (i := 6) sc.nd rfl (.inl rfl) (pe_op op_modN (pe_callTy call_int1 (by rfl) T.int_ (by decide +kernel) (pa_cons (pe_op op_add (pe_op op_add (pe_op op_mul (pe_op op_modN (pe_callTy call_int1 (by rfl) T.int_ (by decide +kernel) (pa_cons (pv 5) pa_nil)) pe_int) pe_int) (pe_op op_mul pe_int (pe_dget hu2 (pv 0) pe_str (fun _ _ => rfl)))) pe_int) pa_nil)) pe_int)) (pss_cons (ps_set (i := 6) sc.nd rfl (.inl rfl) (pe_op op_modN (pe_callTy call_int1 (by rfl) T.int_ (by decide +kernel) (pa_cons (pe_op op_add (pe_op op_add (pe_op op_mul (pv 6) (pv 6)) (pe_op op_mul pe_int (pe_dget hu2 (pv 0) pe_str (fun _ _ => rfl)))) pe_int) pa_nil)) pe_int)) (pss_one (ps_ret (pe_op op_modN (pe_callTy call_int1 (by rfl) T.int_ (by decide +kernel) (pa_cons (pe_op op_fdivN (pe_op op_modN (pe_callTy call_int1 (by rfl) T.int_ (by decide +kernel) (pa_cons (pe_op op_add (pe_op op_mul (pv 6) (pv 6)) (pe_op op_mul pe_int (pv 6))) pa_nil)) pe_int) pe_int) pa_nil)) (pv 1))))))))))))

/-! _law_any: 0 _law_feed_here, 1 _law_some -/
abbrev N_law_any : List Str := ["_law_feed_here", "_law_some"]
abbrev P_law_any : List Str := ["_law_feed_here", "_law_some"]
theorem sc_law_any : FnScope N_law_any P_law_any (defScope s_law_any) := ⟨rfl, rfl, rfl, by decide +kernel, rfl, by decide +kernel, by decide +kernel⟩
def t_law_any (P : Program) (w : World) (K : PySem.W.Frag) : TS := (tRet (tOp (rIx K) (tVar 1) (tCall (sp_law_draw) [] E0 (tCons (tVar 0) (tCons (tCB (rLenX K) (tCons (tVar 1) tNil)) tNil)))))
theorem pe_law_any (T : TB mg) (G_law_draw : Kn P w K mg base "_law_draw" P_law_draw 1 (sp_law_draw)) : BodyOk P w K mg base 1 N_law_any "_law_any" s_law_any (t_law_any P w K) := by
  intro f cdv A outer s H E hr
  have hu : _ + 65 < cLine := hu65 hr
  have hu1 : _ + 64 < cLine := hu64 hr
  have hu2 : _ + 1 < cLine := hu1of hr
  have sc := sc_law_any
  exact (pss_one (ps_ret (pe_ix ix_seq (pv 1) (pe_kn G_law_draw hr (by decide) (by rfl) (pa_cons (pv 0) (pa_cons (pe_callB call_len (by rfl) T.len_ (by decide +kernel) (pa_cons (pv 1) pa_nil)) pa_nil))) (fun _ _ => rfl))))

/-! _law_same: 0 _law_told, 1 _law_due -/
abbrev N_law_same : List Str := ["_law_told", "_law_due"]
abbrev P_law_same : List Str := ["_law_told", "_law_due"]
theorem sc_law_same : FnScope N_law_same P_law_same (defScope s_law_same) := ⟨rfl, rfl, rfl, by decide +kernel, rfl, by decide +kernel, by decide +kernel⟩
def t_law_same (P : Program) (w : World) (K : PySem.W.Frag) : TS := (tRet (tOp L2.rEq (tCB (rReprD K) (tCons (tVar 0) tNil)) (tCB (rReprD K) (tCons (tVar 1) tNil))))
theorem pe_law_same (T : TB mg)  : BodyG P w K mg base 0 N_law_same "_law_same" s_law_same (t_law_same P w K) := by
  intro f cdv A outer s H E hA hr
  have hu : _ + 65 < cLine := hu65 hr
  have hu1 : _ + 64 < cLine := hu64 hr
  have hu2 : _ + 1 < cLine := hu1of hr
  have sc := sc_law_same
  exact (pss_one (ps_ret (pe_cmpR op_eq (pe_callB (cr_reprD hA hu) (by rfl) T.repr_ (by decide +kernel) (pa_cons (pv 0) pa_nil)) (pe_callB (cr_reprD hA hu) (by rfl) T.repr_ (by decide +kernel) (pa_cons (pv 1) pa_nil)) (nomark _))))

/-! _law_within: 0 _law_some, 1 _law_other, 2 _law_name -/
abbrev N_law_within : List Str := ["_law_some", "_law_other", "_law_name"]
abbrev P_law_within : List Str := ["_law_some", "_law_other"]
theorem sc_law_within : FnScope N_law_within P_law_within (defScope s_law_within) := ⟨rfl, rfl, rfl, by decide +kernel, rfl, by decide +kernel, by decide +kernel⟩
def t_law_within (P : Program) (w : World) (K : PySem.W.Frag) : TS := (tRet (tOp (rEqD K) (tLc (iSeq K (tVar 0)) (gName 2) (tTest (tOp (rInA K true) (tVar 2) (tVar 1))) (tVar 2) [2]) (tLst tNil)))
theorem pe_law_within (T : TB mg)  : BodyOk P w K mg base 0 N_law_within "_law_within" s_law_within (t_law_within P w K) := by
  intro f cdv A outer s H E hr
  have hu : _ + 65 < cLine := hu65 hr
  have hu1 : _ + 64 < cLine := hu64 hr
  have hu2 : _ + 1 < cLine := hu1of hr
  have sc := sc_law_within
  exact (pss_one (ps_ret (pe_cmpR (op_eqD hu1) (pe_lc (own := [("_law_name", 2)]) rfl sc.nd (pi_seq (pv 0)) (blkOk_by (by first | rfl | decide +kernel)) (fun _ _ _ _ _ => (pg_name (i := 2) sc.nd rfl (by first | exact .inl rfl | exact .inr rfl))) (fun _ _ _ _ _ => (pts_one (pt_cmpR (op_notInA hu) (pv 2) (pv 1) (by rfl)))) (fun _ _ _ _ _ => (pv 2))) (pe_lst pa_nil) (nomark _))))

/-! _law_less: 0 _law_some, 1 _law_other, 2 _law_name -/
abbrev N_law_less : List Str := ["_law_some", "_law_other", "_law_name"]
abbrev P_law_less : List Str := ["_law_some", "_law_other"]
theorem sc_law_less : FnScope N_law_less P_law_less (defScope s_law_less) := ⟨rfl, rfl, rfl, by decide +kernel, rfl, by decide +kernel, by decide +kernel⟩
def t_law_less (P : Program) (w : World) (K : PySem.W.Frag) : TS := (tRet (tCB (rTupX K) (tCons (tLc (iSeq K (tVar 0)) (gName 2) (tTest (tOp (rInA K true) (tVar 2) (tVar 1))) (tVar 2) [2]) tNil)))
theorem pe_law_less (T : TB mg)  : BodyOk P w K mg base 0 N_law_less "_law_less" s_law_less (t_law_less P w K) := by
  intro f cdv A outer s H E hr
  have hu : _ + 65 < cLine := hu65 hr
  have hu1 : _ + 64 < cLine := hu64 hr
  have hu2 : _ + 1 < cLine := hu1of hr
  have sc := sc_law_less
  exact (pss_one (ps_ret (pe_callTy call_tuple_of (by rfl) T.tuple_ (by decide +kernel) (pa_cons (pe_lc (own := [("_law_name", 2)]) rfl sc.nd (pi_seq (pv 0)) (blkOk_by (by first | rfl | decide +kernel)) (fun _ _ _ _ _ => (pg_name (i := 2) sc.nd rfl (by first | exact .inl rfl | exact .inr rfl))) (fun _ _ _ _ _ => (pts_one (pt_cmpR (op_notInA hu) (pv 2) (pv 1) (by rfl)))) (fun _ _ _ _ _ => (pv 2))) pa_nil))))

/-! _law_subsets: 0 _law_names, 1 _law_found, 2 _law_name, 3 _law_some -/
abbrev N_law_subsets : List Str := ["_law_names", "_law_found", "_law_name", "_law_some"]
abbrev P_law_subsets : List Str := ["_law_names"]
theorem sc_law_subsets : FnScope N_law_subsets P_law_subsets (defScope s_law_subsets) := ⟨rfl, rfl, rfl, by decide +kernel, rfl, by decide +kernel, by decide +kernel⟩
def t_law_subsets (P : Program) (w : World) (K : PySem.W.Frag) : TS := (tSeq (tAsg (tLst (tCons (tTup tNil) tNil)) (gName 1)) (tSeq (tFor (iSeq K (tVar 0)) (gName 2) (tAsg (tOp rCat (tVar 1) (tLc (iSeq K (tVar 1)) (gName 3) tYes (tOp (rCatA K) (tVar 3) (tTup (tCons (tVar 2) tNil))) [3])) (gName 1))) (tRet (tVar 1))))
theorem pe_law_subsets (T : TB mg)  : BodyOk P w K mg base 0 N_law_subsets "_law_subsets" s_law_subsets (t_law_subsets P w K) := by
  intro f cdv A outer s H E hr
  have hu : _ + 65 < cLine := hu65 hr
  have hu1 : _ + 64 < cLine := hu64 hr
  have hu2 : _ + 1 < cLine := hu1of hr
  have sc := sc_law_subsets
  exact (pss_cons (ps_set (i := 1) sc.nd rfl (.inl rfl) (pe_lst (pa_cons (pe_tup pa_nil) pa_nil))) (pss_cons (ps_for PassesOwn.never rfl (pi_seq (pv 0)) (pg_name (i := 2) sc.nd rfl (by first | exact .inl rfl | exact .inr rfl)) (pss_one (ps_set (i := 1) sc.nd rfl (.inl rfl) (pe_op op_cat (pv 1) (pe_lc (own := [("_law_some", 3)]) rfl sc.nd (pi_seq (pv 1)) (blkOk_by (by first | rfl | decide +kernel)) (fun _ _ _ _ _ => (pg_name (i := 3) sc.nd rfl (by first | exact .inl rfl | exact .inr rfl))) (fun _ _ _ _ _ => pts_nil) (fun _ _ _ _ _ => (pe_op op_catA (pv 3) (pe_tup (pa_cons (pv 2) pa_nil))))))))) (pss_one (ps_ret (pv 1)))))

/-! _law_guild: 0 _law_feed_here, 1 _law_most, 2 _law_some, 3 _law_names, 4 _law_pool, 5 _law_found, 6 _law_easy, 7 _law_large, 8 _law_one, 9 _law_name, 10 _law_rest, 11 _law_own, 12 _law_scares, 13 _law_other, 14 _law_k -/
abbrev N_law_guild : List Str := ["_law_feed_here", "_law_most", "_law_some", "_law_names", "_law_pool", "_law_found", "_law_easy", "_law_large", "_law_one", "_law_name", "_law_rest", "_law_own", "_law_scares", "_law_other", "_law_k"]
abbrev P_law_guild : List Str := ["_law_feed_here", "_law_most"]
theorem sc_law_guild : FnScope N_law_guild P_law_guild (defScope s_law_guild) := ⟨rfl, rfl, rfl, by decide +kernel, rfl, by decide +kernel, by decide +kernel⟩
def t_law_guild (P : Program) (w : World) (K : PySem.W.Frag) : TS := (tSeq (tAsg (tLst (tCons (tTup (tCons (tC (.str "a")) (tCons (tC (.str "b")) (tCons (tC (.str "c")) (tCons (tC (.str "d")) tNil))))) (tCons (tTup (tCons (tC (.str "east")) (tCons (tC (.str "n")) (tCons (tC (.str "west")) (tCons (tC (.str "zz")) tNil))))) (tCons (tTup (tCons (tC (.str "ada")) (tCons (tC (.str "bo")) (tCons (tC (.str "cy")) (tCons (tC (.str "di")) tNil))))) tNil)))) (gName 2)) (tSeq (tAsg (L2.tSl (rSlA K) (tCall (sp_law_any) [] E0 (tCons (tVar 0) (tCons (tVar 2) tNil))) tNoPart (tPart (tCall (sp_law_any) [] E0 (tCons (tVar 0) (tCons (tLst (tCons (tC (.int 2)) (tCons (tC (.int 3)) (tCons (tC (.int 3)) (tCons (tC (.int 3)) (tCons (tVar 1) tNil)))))) tNil))))) (gName 3)) (tSeq (tAsg (tTup (tCons (L2.tSl (rSlL K) (tCall (sp_law_subsets) [] E0 (tCons (tVar 3) tNil)) (tPart (tC (.int 1))) tNoPart) (tCons (tLst tNil) tNil))) (gTup K 2 (gCons (gName 4) (gCons (gName 5) gNil)))) (tSeq (tPar 6 7 (tCons (tOp (rEqD K) (tCall (sp_law_draw) [] E0 (tCons (tVar 0) (tCons (tC (.int 2)) tNil))) (tC (.int 0))) (tCons (tLc (iSeq K (tVar 4)) (gName 8) (tTest (tOp (rEqD K) (tCB (rLenX K) (tCons (tVar 8) tNil)) (tOp (rI0 fun i j => .int (i + j)) (tOp (rI CDivN fun i j => .int (i.fdiv j)) (tCB (rLenX K) (tCons (tVar 3) tNil)) (tC (.int 2))) (tC (.int 1))))) (tVar 8) [8]) tNil))) (tSeq (tFor (iSeq K (tVar 3)) (gName 9) (tSeq (tAsg (tTup (tCons (tCall (sp_law_less) [] E0 (tCons (tVar 3) (tCons (tTup (tCons (tVar 9) tNil)) tNil))) (tCons (tLst tNil) tNil))) (gTup K 2 (gCons (gName 10) (gCons (gName 11) gNil)))) (tSeq (tIfS (tB (tVar 6)) (tSeq (tAsg (tLc (iSeq K (tVar 7)) (gName 8) (tTest (tOp (rI0 fun i j => .bl (decide (j < i))) (tCall (sp_law_draw) [] E0 (tCons (tVar 0) (tCons (tC (.int 4)) tNil))) (tC (.int 0)))) (tVar 8) [8]) (gName 11)) (tAsg (tLc (iSeq K (tVar 10)) (gName 13) (tTest (tOp (rEqD K) (tCall (sp_law_draw) [] E0 (tCons (tVar 0) (tCons (tC (.int 2)) tNil))) (tC (.int 0)))) (tTup (tCons (tVar 13) tNil)) [13]) (gName 12))) (tSeq (tAsg (tLc (iRng1 (tCons (tOp (rI0 fun i j => .int (i + j)) (tC (.int 1)) (tCall (sp_law_draw) [] E0 (tCons (tVar 0) (tCons (tC (.int 2)) tNil)))) tNil)) (gName 14) tYes (tCall (sp_law_any) [] E0 (tCons (tVar 0) (tCons (tVar 4) tNil))) [14]) (gName 11)) (tAsg (tLc (iRng1 (tCons (tCall (sp_law_draw) [] E0 (tCons (tVar 0) (tCons (tC (.int 3)) tNil))) tNil)) (gName 14) tYes (tCall (sp_law_any) [] E0 (tCons (tVar 0) (tCons (tCall (sp_law_subsets) [] E0 (tCons (tVar 10) tNil)) tNil))) [14]) (gName 12)))) (tSeq (tPar 11 12 (tCons (tIf (tTest (tOp (rNeD K) (tVar 11) (tLst tNil))) (tVar 11) (tLst (tCons (tVar 3) tNil))) (tCons (tIf (tTest (tOp (rNeD K) (tVar 12) (tLst tNil))) (tVar 12) (tLst (tCons (tTup tNil) tNil))) tNil))) (tDrop (tBM K "list" rAppend (tVar 5) (tCons (tTup (tCons (tVar 9) (tCons (tCB (rTupX K) (tCons (tCB (rSortedT2 K P w) (tCons (tCB (rSetT K P w) (tCons (tVar 11) tNil)) tNil)) tNil)) (tCons (tCB (rTupX K) (tCons (tCB (rSortedT2 K P w) (tCons (tCB (rSetT K P w) (tCons (tVar 12) tNil)) tNil)) tNil)) tNil)))) tNil))))))) (tRet (tCB (rTupX K) (tCons (tVar 5) tNil))))))))
theorem pe_law_guild (T : TB mg) (G_law_any : Kn P w K mg base "_law_any" P_law_any 2 (sp_law_any)) (G_law_subsets : Kn P w K mg base "_law_subsets" P_law_subsets 1 (sp_law_subsets)) (G_law_draw : Kn P w K mg base "_law_draw" P_law_draw 1 (sp_law_draw)) (G_law_less : Kn P w K mg base "_law_less" P_law_less 1 (sp_law_less)) : BodyOk P w K mg base 2 N_law_guild "_law_guild" s_law_guild (t_law_guild P w K) := by
  intro f cdv A outer s H E hr
  have hu : _ + 65 < cLine := hu65 hr
  have hu1 : _ + 64 < cLine := hu64 hr
  have hu2 : _ + 1 < cLine := hu1of hr
  have sc := sc_law_guild
  exact (pss_cons (ps_set (i := 2) sc.nd rfl (.inl rfl) (pe_lst (pa_cons (pe_tup (pa_cons pe_str (pa_cons pe_str (pa_cons pe_str (pa_cons pe_str pa_nil))))) (pa_cons (pe_tup (pa_cons pe_str (pa_cons pe_str (pa_cons pe_str (pa_cons pe_str pa_nil))))) (pa_cons (pe_tup (pa_cons pe_str (pa_cons pe_str (pa_cons pe_str (pa_cons pe_str pa_nil))))) pa_nil))))) (pss_cons (ps_set (i := 3) sc.nd rfl (.inr rfl) (pe_slice sl_tupA (pe_kn G_law_any hr (by decide) (by rfl) (pa_cons (pv 0) (pa_cons (pv 2) pa_nil))) po_none (po_some (pe_kn G_law_any hr (by decide) (by rfl) (pa_cons (pv 0) (pa_cons (pe_lst (pa_cons pe_int (pa_cons pe_int (pa_cons pe_int (pa_cons pe_int (pa_cons (pv 1) pa_nil)))))) pa_nil)))))) (pss_cons (ps_asg (pe_tup (pa_cons (pe_slice sl_list (pe_kn G_law_subsets hr (by decide) (by rfl) (pa_cons (pv 3) pa_nil)) (po_some pe_int) po_none) (pa_cons (pe_lst pa_nil) pa_nil))) (pg_tup rfl (pgs_cons (pg_name (i := 4) sc.nd rfl (by first | exact .inl rfl | exact .inr rfl)) (pgs_cons (pg_name (i := 5) sc.nd rfl (by first | exact .inl rfl | exact .inr rfl)) pgs_nil)))) (pss_cons (ps_par (i := 6) (j := 7) rfl sc.nd rfl rfl (by decide) rfl rfl (pa_cons (pe_cmpR (op_eqD hu1) (pe_kn G_law_draw hr (by decide) (by rfl) (pa_cons (pv 0) (pa_cons pe_int pa_nil))) pe_int (nomark _)) (pa_cons (pe_lc (own := [("_law_one", 8)]) rfl sc.nd (pi_seq (pv 4)) (blkOk_by (by first | rfl | decide +kernel)) (fun _ _ _ _ _ => (pg_name (i := 8) sc.nd rfl (by first | exact .inl rfl | exact .inr rfl))) (fun _ _ _ _ _ => (pts_one (pt_cmpR (op_eqD hu1) (pe_callB call_len (by rfl) T.len_ (by decide +kernel) (pa_cons (pv 8) pa_nil)) (pe_op op_add (pe_op op_fdivN (pe_callB call_len (by rfl) T.len_ (by decide +kernel) (pa_cons (pv 3) pa_nil)) pe_int) pe_int) (nomark _)))) (fun _ _ _ _ _ => (pv 8))) pa_nil)) (by rfl)) (pss_cons (ps_for PassesOwn.never rfl (pi_seq (pv 3)) (pg_name (i := 9) sc.nd rfl (by first | exact .inl rfl | exact .inr rfl)) (pss_cons (ps_asg (pe_tup (pa_cons (pe_kn G_law_less hr (by decide) (by rfl) (pa_cons (pv 3) (pa_cons (pe_tup (pa_cons (pv 9) pa_nil)) pa_nil))) (pa_cons (pe_lst pa_nil) pa_nil))) (pg_tup rfl (pgs_cons (pg_name (i := 10) sc.nd rfl (by first | exact .inl rfl | exact .inr rfl)) (pgs_cons (pg_name (i := 11) sc.nd rfl (by first | exact .inl rfl | exact .inr rfl)) pgs_nil)))) (pss_cons (ps_if (pt_val (pv 6)) (pss_cons (ps_setLc (i := 11) (own := [("_law_one", 8)]) rfl sc.nd rfl rfl (sw_true rfl rfl rfl (by decide +kernel)) (pi_seq (pv 7)) (blkOk_by (by first | rfl | decide +kernel)) (fun _ _ _ _ _ => (pg_name (i := 8) sc.nd rfl (by first | exact .inl rfl | exact .inr rfl))) (fun _ _ _ _ _ => (pts_one (pt_cmpR op_gt (pe_kn G_law_draw hr (by decide) (by rfl) (pa_cons (pv 0) (pa_cons pe_int pa_nil))) pe_int (nomark _)))) (fun _ _ _ _ _ => (pv 8))) (pss_one (ps_setLc (i := 12) (own := [("_law_other", 13)]) rfl sc.nd rfl rfl (sw_true rfl rfl rfl (by decide +kernel)) (pi_seq (pv 10)) (blkOk_by (by first | rfl | decide +kernel)) (fun _ _ _ _ _ => (pg_name (i := 13) sc.nd rfl (by first | exact .inl rfl | exact .inr rfl))) (fun _ _ _ _ _ => (pts_one (pt_cmpR (op_eqD hu1) (pe_kn G_law_draw hr (by decide) (by rfl) (pa_cons (pv 0) (pa_cons pe_int pa_nil))) pe_int (nomark _)))) (fun _ _ _ _ _ => (pe_tup (pa_cons (pv 13) pa_nil)))))) (pss_cons (ps_setLc (i := 11) (own := [("_law_k", 14)]) rfl sc.nd rfl rfl (sw_true rfl rfl rfl (by decide +kernel)) (pi_range1 (by rfl) T.range (pa_cons (pe_op op_add pe_int (pe_kn G_law_draw hr (by decide) (by rfl) (pa_cons (pv 0) (pa_cons pe_int pa_nil)))) pa_nil)) (blkOk_by (by first | rfl | decide +kernel)) (fun _ _ _ _ _ => (pg_name (i := 14) sc.nd rfl (by first | exact .inl rfl | exact .inr rfl))) (fun _ _ _ _ _ => pts_nil) (fun _ _ _ _ _ => (pe_kn G_law_any hr (by decide) (by rfl) (pa_cons (pv 0) (pa_cons (pv 4) pa_nil))))) (pss_one (ps_setLc (i := 12) (own := [("_law_k", 14)]) rfl sc.nd rfl rfl (sw_true rfl rfl rfl (by decide +kernel)) (pi_range1 (by rfl) T.range (pa_cons (pe_kn G_law_draw hr (by decide) (by rfl) (pa_cons (pv 0) (pa_cons pe_int pa_nil))) pa_nil)) (blkOk_by (by first | rfl | decide +kernel)) (fun _ _ _ _ _ => (pg_name (i := 14) sc.nd rfl (by first | exact .inl rfl | exact .inr rfl))) (fun _ _ _ _ _ => pts_nil) (fun _ _ _ _ _ => (pe_kn G_law_any hr (by decide) (by rfl) (pa_cons (pv 0) (pa_cons (pe_kn G_law_subsets hr (by decide) (by rfl) (pa_cons (pv 10) pa_nil)) pa_nil)))))))) (pss_cons (ps_par (i := 11) (j := 12) rfl sc.nd rfl rfl (by decide) rfl rfl (pa_cons (pe_ifExp (pt_cmpR (op_neD hu1) (pv 11) (pe_lst pa_nil) (nomark _)) (pv 11) (pe_lst (pa_cons (pv 3) pa_nil))) (pa_cons (pe_ifExp (pt_cmpR (op_neD hu1) (pv 12) (pe_lst pa_nil) (nomark _)) (pv 12) (pe_lst (pa_cons (pe_tup pa_nil) pa_nil))) pa_nil)) (by rfl)) (pss_one (ps_expr (pe_bm PySem.F.plainAttrs_list PySem.F.slot_list_append PySem.F.type_list_append mt_append (pv 5) (pa_cons (pe_tup (pa_cons (pv 9) (pa_cons (pe_callTy call_tuple_of (by rfl) T.tuple_ (by decide +kernel) (pa_cons (pe_callB (cr_sortedT2 rfl hu1) (by rfl) T.sorted (by decide +kernel) (pa_cons (pe_callTy (cr_setT rfl hu1) (by rfl) T.set (by decide +kernel) (pa_cons (pv 11) pa_nil)) pa_nil)) pa_nil)) (pa_cons (pe_callTy call_tuple_of (by rfl) T.tuple_ (by decide +kernel) (pa_cons (pe_callB (cr_sortedT2 rfl hu1) (by rfl) T.sorted (by decide +kernel) (pa_cons (pe_callTy (cr_setT rfl hu1) (by rfl) T.set (by decide +kernel) (pa_cons (pv 12) pa_nil)) pa_nil)) pa_nil)) pa_nil)))) pa_nil)))))))) (pss_one (ps_ret (pe_callTy call_tuple_of (by rfl) T.tuple_ (by decide +kernel) (pa_cons (pv 5) pa_nil)))))))))

/-! _law_safe: 0 _law_guild_here, 1 _law_some, 2 _law_found, 3 _law_name, 4 _law_own, 5 _law_scares, 6 _law_one -/
abbrev N_law_safe : List Str := ["_law_guild_here", "_law_some", "_law_found", "_law_name", "_law_own", "_law_scares", "_law_one"]
abbrev P_law_safe : List Str := ["_law_guild_here", "_law_some"]
theorem sc_law_safe : FnScope N_law_safe P_law_safe (defScope s_law_safe) := ⟨rfl, rfl, rfl, by decide +kernel, rfl, by decide +kernel, by decide +kernel⟩
def t_law_safe (P : Program) (w : World) (K : PySem.W.Frag) : TS := (tSeq (tAsg (tLst tNil) (gName 2)) (tSeq (tFor (iSeq K (tVar 0)) (gTup K 3 (gCons (gName 3) (gCons (gName 4) (gCons (gName 5) gNil)))) (tIfS (tAnd (tTest (tOp (rInA K true) (tVar 3) (tVar 1))) (tTest (tOp (rNeD K) (tLc (iSeq K (tVar 5)) (gName 6) (tB (tCall (sp_law_within) [] E0 (tCons (tVar 1) (tCons (tVar 6) tNil)))) (tVar 6) [6]) (tLst tNil)))) (tDrop (tBM K "list" rAppend (tVar 2) (tCons (tVar 3) tNil))) tNext)) (tRet (tVar 2))))
theorem pe_law_safe (T : TB mg) (G_law_within : Kn P w K mg base "_law_within" P_law_within 1 (sp_law_within)) : BodyOk P w K mg base 1 N_law_safe "_law_safe" s_law_safe (t_law_safe P w K) := by
  intro f cdv A outer s H E hr
  have hu : _ + 65 < cLine := hu65 hr
  have hu1 : _ + 64 < cLine := hu64 hr
  have hu2 : _ + 1 < cLine := hu1of hr
  have sc := sc_law_safe
  exact (pss_cons (ps_set (i := 2) sc.nd rfl (.inl rfl) (pe_lst pa_nil)) (pss_cons (ps_for PassesOwn.never rfl (pi_seq (pv 0)) (pg_tup rfl (pgs_cons (pg_name (i := 3) sc.nd rfl (by first | exact .inl rfl | exact .inr rfl)) (pgs_cons (pg_name (i := 4) sc.nd rfl (by first | exact .inl rfl | exact .inr rfl)) (pgs_cons (pg_name (i := 5) sc.nd rfl (by first | exact .inl rfl | exact .inr rfl)) pgs_nil)))) (pss_one (ps_if (PW.pt (pw_and (pt_cmpR (op_notInA hu) (pv 3) (pv 1) (by rfl)) (pw_and1 (pt_cmpR (op_neD hu1) (pe_lc (own := [("_law_one", 6)]) rfl sc.nd (pi_seq (pv 5)) (blkOk_by (by first | rfl | decide +kernel)) (fun _ _ _ _ _ => (pg_name (i := 6) sc.nd rfl (by first | exact .inl rfl | exact .inr rfl))) (fun _ _ _ _ _ => (pts_one (pt_val (pe_kn G_law_within hr (by decide) (by rfl) (pa_cons (pv 1) (pa_cons (pv 6) pa_nil)))))) (fun _ _ _ _ _ => (pv 6))) (pe_lst pa_nil) (nomark _))))) (pss_one (ps_expr (pe_bm PySem.F.plainAttrs_list PySem.F.slot_list_append PySem.F.type_list_append mt_append (pv 2) (pa_cons (pv 3) pa_nil)))) pss_nil))) (pss_one (ps_ret (pv 2)))))

/-! _law_safes: 0 _law_guild_here, 1 _law_names, 2 _law_one, 3 _law_found, 4 _law_some, 5 _law_pair -/
abbrev N_law_safes : List Str := ["_law_guild_here", "_law_names", "_law_one", "_law_found", "_law_some", "_law_pair"]
abbrev P_law_safes : List Str := ["_law_guild_here"]
theorem sc_law_safes : FnScope N_law_safes P_law_safes (defScope s_law_safes) := ⟨rfl, rfl, rfl, by decide +kernel, rfl, by decide +kernel, by decide +kernel⟩
def t_law_safes (P : Program) (w : World) (K : PySem.W.Frag) : TS := (tSeq (tAsg (tLc (iSeq K (tVar 0)) (gName 2) tYes (tOp (rIx K) (tVar 2) (tC (.int 0))) [2]) (gName 1)) (tSeq (tAsg (tLc (iSeq K (tCall (sp_law_subsets) [] E0 (tCons (tVar 1) tNil))) (gName 4) tYes (tTup (tCons (tVar 4) (tCons (tCall (sp_law_safe) [] E0 (tCons (tVar 0) (tCons (tVar 4) tNil))) tNil))) [4]) (gName 3)) (tRet (tLc (iSeq K (tVar 3)) (gName 5) (tTest (tOp (rNeD K) (tOp (rIx K) (tVar 5) (tC (.int 1))) (tLst tNil))) (tVar 5) [5]))))
theorem pe_law_safes (T : TB mg) (G_law_subsets : Kn P w K mg base "_law_subsets" P_law_subsets 1 (sp_law_subsets)) (G_law_safe : Kn P w K mg base "_law_safe" P_law_safe 2 (sp_law_safe)) : BodyOk P w K mg base 2 N_law_safes "_law_safes" s_law_safes (t_law_safes P w K) := by
  intro f cdv A outer s H E hr
  have hu : _ + 65 < cLine := hu65 hr
  have hu1 : _ + 64 < cLine := hu64 hr
  have hu2 : _ + 1 < cLine := hu1of hr
  have sc := sc_law_safes
  exact (pss_cons (ps_setLc (i := 1) (own := [("_law_one", 2)]) rfl sc.nd rfl rfl (sw_true rfl rfl rfl (by decide +kernel)) (pi_seq (pv 0)) (blkOk_by (by first | rfl | decide +kernel)) (fun _ _ _ _ _ => (pg_name (i := 2) sc.nd rfl (by first | exact .inl rfl | exact .inr rfl))) (fun _ _ _ _ _ => pts_nil) (fun _ _ _ _ _ => (pe_ix ix_seq (pv 2) pe_int (fun _ _ => rfl)))) (pss_cons (ps_setLc (i := 3) (own := [("_law_some", 4)]) rfl sc.nd rfl rfl (sw_true rfl rfl rfl (by decide +kernel)) (pi_seq (pe_kn G_law_subsets hr (by decide) (by rfl) (pa_cons (pv 1) pa_nil))) (blkOk_by (by first | rfl | decide +kernel)) (fun _ _ _ _ _ => (pg_name (i := 4) sc.nd rfl (by first | exact .inl rfl | exact .inr rfl))) (fun _ _ _ _ _ => pts_nil) (fun _ _ _ _ _ => (pe_tup (pa_cons (pv 4) (pa_cons (pe_kn G_law_safe hr (by decide) (by rfl) (pa_cons (pv 0) (pa_cons (pv 4) pa_nil))) pa_nil))))) (pss_one (ps_ret (pe_lc (own := [("_law_pair", 5)]) rfl sc.nd (pi_seq (pv 3)) (blkOk_by (by first | rfl | decide +kernel)) (fun _ _ _ _ _ => (pg_name (i := 5) sc.nd rfl (by first | exact .inl rfl | exact .inr rfl))) (fun _ _ _ _ _ => (pts_one (pt_cmpR (op_neD hu1) (pe_ix ix_seq (pv 5) pe_int (fun _ _ => rfl)) (pe_lst pa_nil) (nomark _)))) (fun _ _ _ _ _ => (pv 5)))))))

/-! _law_minimal: 0 _law_sets, 1 _law_some, 2 _law_one, 3 _law_far -/
abbrev N_law_minimal : List Str := ["_law_sets", "_law_some", "_law_one", "_law_far"]
abbrev P_law_minimal : List Str := ["_law_sets"]
theorem sc_law_minimal : FnScope N_law_minimal P_law_minimal (defScope s_law_minimal) := ⟨rfl, rfl, rfl, by decide +kernel, rfl, by decide +kernel, by decide +kernel⟩
def t_law_minimal (P : Program) (w : World) (K : PySem.W.Frag) : TS := (tSeq (tAsg (tCB (rSortedT2 K P w) (tCons (tCB (rSetT K P w) (tCons (tVar 0) tNil)) tNil)) (gName 1)) (tRet (tCB (rTupX K) (tCons (tLc (iSeq K (tVar 1)) (gName 2) (tTest (tOp (rEqD K) (tLc (iSeq K (tVar 1)) (gName 3) (tAnd (tTest (tOp (rNeD K) (tVar 3) (tVar 2))) (tB (tCall (sp_law_within) [] E0 (tCons (tVar 3) (tCons (tVar 2) tNil))))) (tVar 3) [3]) (tLst tNil))) (tVar 2) [2]) tNil))))
theorem pe_law_minimal (T : TB mg) (G_law_within : Kn P w K mg base "_law_within" P_law_within 1 (sp_law_within)) : BodyOk P w K mg base 1 N_law_minimal "_law_minimal" s_law_minimal (t_law_minimal P w K) := by
  intro f cdv A outer s H E hr
  have hu : _ + 65 < cLine := hu65 hr
  have hu1 : _ + 64 < cLine := hu64 hr
  have hu2 : _ + 1 < cLine := hu1of hr
  have sc := sc_law_minimal
  exact (pss_cons (ps_set (i := 1) sc.nd rfl (.inr rfl) (pe_callB (cr_sortedT2 rfl hu1) (by rfl) T.sorted (by decide +kernel) (pa_cons (pe_callTy (cr_setT rfl hu1) (by rfl) T.set (by decide +kernel) (pa_cons (pv 0) pa_nil)) pa_nil))) (pss_one (ps_ret (pe_callTy call_tuple_of (by rfl) T.tuple_ (by decide +kernel) (pa_cons (pe_lc (own := [("_law_one", 2)]) rfl sc.nd (pi_seq (pv 1)) (blkOk_by (by first | rfl | decide +kernel)) (fun _ _ _ _ _ => (pg_name (i := 2) sc.nd rfl (by first | exact .inl rfl | exact .inr rfl))) (fun _ _ _ _ _ => (pts_one (pt_cmpR (op_eqD hu1) (pe_lc (own := [("_law_far", 3)]) rfl sc.nd (pi_seq (pv 1)) (blkOk_by (by first | rfl | decide +kernel)) (fun _ _ _ _ _ => (pg_name (i := 3) sc.nd rfl (by first | exact .inl rfl | exact .inr rfl))) (fun _ _ _ _ _ => (pts_one (PW.pt (pw_and (pt_cmpR (op_neD hu1) (pv 3) (pv 2) (nomark _)) (pw_and1 (pt_val (pe_kn G_law_within hr (by decide) (by rfl) (pa_cons (pv 3) (pa_cons (pv 2) pa_nil))))))))) (fun _ _ _ _ _ => (pv 3))) (pe_lst pa_nil) (nomark _)))) (fun _ _ _ _ _ => (pv 2))) pa_nil)))))

/-! _law_needs: 0 _law_guild_here, 1 _law_safes_here, 2 _law_name, 3 _law_found, 4 _law_some, 5 _law_fine, 6 _law_other, 7 _law_own, 8 _law_scares, 9 _law_one -/
abbrev N_law_needs : List Str := ["_law_guild_here", "_law_safes_here", "_law_name", "_law_found", "_law_some", "_law_fine", "_law_other", "_law_own", "_law_scares", "_law_one"]
abbrev P_law_needs : List Str := ["_law_guild_here", "_law_safes_here", "_law_name"]
theorem sc_law_needs : FnScope N_law_needs P_law_needs (defScope s_law_needs) := ⟨rfl, rfl, rfl, by decide +kernel, rfl, by decide +kernel, by decide +kernel⟩
def t_law_needs (P : Program) (w : World) (K : PySem.W.Frag) : TS := (tSeq (tAsg (tLst tNil) (gName 3)) (tSeq (tFor (iSeq K (tVar 1)) (gTup K 2 (gCons (gName 4) (gCons (gName 5) gNil))) (tFor (iSeq K (tVar 0)) (gTup K 3 (gCons (gName 6) (gCons (gName 7) (gCons (gName 8) gNil)))) (tIfS (tAnd (tTest (tOp (rInA K false) (tVar 2) (tVar 5))) (tAnd (tTest (tOp (rInA K false) (tVar 6) (tVar 5))) (tTest (tOp (rNeD K) (tVar 6) (tVar 2))))) (tAsg (tOp rCat (tVar 3) (tLc (iSeq K (tVar 7)) (gName 9) tYes (tCall (sp_law_less) [] E0 (tCons (tVar 9) (tCons (tVar 4) tNil))) [9])) (gName 3)) tNext))) (tRet (tCall (sp_law_minimal) [] E0 (tCons (tVar 3) tNil)))))
theorem pe_law_needs (T : TB mg) (G_law_less : Kn P w K mg base "_law_less" P_law_less 1 (sp_law_less)) (G_law_minimal : Kn P w K mg base "_law_minimal" P_law_minimal 2 (sp_law_minimal)) : BodyOk P w K mg base 2 N_law_needs "_law_needs" s_law_needs (t_law_needs P w K) := by
  intro f cdv A outer s H E hr
  have hu : _ + 65 < cLine := hu65 hr
  have hu1 : _ + 64 < cLine := hu64 hr
  have hu2 : _ + 1 < cLine := hu1of hr
  have sc := sc_law_needs
  exact (pss_cons (ps_set (i := 3) sc.nd rfl (.inl rfl) (pe_lst pa_nil)) (pss_cons (ps_for PassesOwn.never rfl (pi_seq (pv 1)) (pg_tup rfl (pgs_cons (pg_name (i := 4) sc.nd rfl (by first | exact .inl rfl | exact .inr rfl)) (pgs_cons (pg_name (i := 5) sc.nd rfl (by first | exact .inl rfl | exact .inr rfl)) pgs_nil))) (pss_one (ps_for PassesOwn.never rfl (pi_seq (pv 0)) (pg_tup rfl (pgs_cons (pg_name (i := 6) sc.nd rfl (by first | exact .inl rfl | exact .inr rfl)) (pgs_cons (pg_name (i := 7) sc.nd rfl (by first | exact .inl rfl | exact .inr rfl)) (pgs_cons (pg_name (i := 8) sc.nd rfl (by first | exact .inl rfl | exact .inr rfl)) pgs_nil)))) (pss_one (ps_if (PW.pt (pw_and (pt_cmpR (op_inA hu) (pv 2) (pv 5) (by rfl)) (pw_and (pt_cmpR (op_inA hu) (pv 6) (pv 5) (by rfl)) (pw_and1 (pt_cmpR (op_neD hu1) (pv 6) (pv 2) (nomark _)))))) (pss_one (ps_set (i := 3) sc.nd rfl (.inl rfl) (pe_op op_cat (pv 3) (pe_lc (own := [("_law_one", 9)]) rfl sc.nd (pi_seq (pv 7)) (blkOk_by (by first | rfl | decide +kernel)) (fun _ _ _ _ _ => (pg_name (i := 9) sc.nd rfl (by first | exact .inl rfl | exact .inr rfl))) (fun _ _ _ _ _ => pts_nil) (fun _ _ _ _ _ => (pe_kn G_law_less hr (by decide) (by rfl) (pa_cons (pv 9) (pa_cons (pv 4) pa_nil)))))))) pss_nil))))) (pss_one (ps_ret (pe_kn G_law_minimal hr (by decide) (by rfl) (pa_cons (pv 3) pa_nil))))))

/-! _law_meets: 0 _law_needs_here, 1 _law_some, 2 _law_one, 3 _law_name -/
abbrev N_law_meets : List Str := ["_law_needs_here", "_law_some", "_law_one", "_law_name"]
abbrev P_law_meets : List Str := ["_law_needs_here", "_law_some"]
theorem sc_law_meets : FnScope N_law_meets P_law_meets (defScope s_law_meets) := ⟨rfl, rfl, rfl, by decide +kernel, rfl, by decide +kernel, by decide +kernel⟩
def t_law_meets (P : Program) (w : World) (K : PySem.W.Frag) : TS := (tRet (tOp (rEqD K) (tLc (iSeq K (tVar 0)) (gName 2) (tTest (tOp (rEqD K) (tLc (iSeq K (tVar 2)) (gName 3) (tTest (tOp (rInA K false) (tVar 3) (tVar 1))) (tVar 3) [3]) (tLst tNil))) (tVar 2) [2]) (tLst tNil)))
theorem pe_law_meets (T : TB mg)  : BodyOk P w K mg base 0 N_law_meets "_law_meets" s_law_meets (t_law_meets P w K) := by
  intro f cdv A outer s H E hr
  have hu : _ + 65 < cLine := hu65 hr
  have hu1 : _ + 64 < cLine := hu64 hr
  have hu2 : _ + 1 < cLine := hu1of hr
  have sc := sc_law_meets
  exact (pss_one (ps_ret (pe_cmpR (op_eqD hu1) (pe_lc (own := [("_law_one", 2)]) rfl sc.nd (pi_seq (pv 0)) (blkOk_by (by first | rfl | decide +kernel)) (fun _ _ _ _ _ => (pg_name (i := 2) sc.nd rfl (by first | exact .inl rfl | exact .inr rfl))) (fun _ _ _ _ _ => (pts_one (pt_cmpR (op_eqD hu1) (pe_lc (own := [("_law_name", 3)]) rfl sc.nd (pi_seq (pv 2)) (blkOk_by (by first | rfl | decide +kernel)) (fun _ _ _ _ _ => (pg_name (i := 3) sc.nd rfl (by first | exact .inl rfl | exact .inr rfl))) (fun _ _ _ _ _ => (pts_one (pt_cmpR (op_inA hu) (pv 3) (pv 1) (by rfl)))) (fun _ _ _ _ _ => (pv 3))) (pe_lst pa_nil) (nomark _)))) (fun _ _ _ _ _ => (pv 2))) (pe_lst pa_nil) (nomark _))))

/-! _law_motor: 0 _law_feed_here, 1 _law_lamp, 2 _law_turn, 3 _law_two -/
abbrev N_law_motor : List Str := ["_law_feed_here", "_law_lamp", "_law_turn", "_law_two"]
abbrev P_law_motor : List Str := ["_law_feed_here"]
theorem sc_law_motor : FnScope N_law_motor P_law_motor (defScope s_law_motor) := ⟨rfl, rfl, rfl, by decide +kernel, rfl, by decide +kernel, by decide +kernel⟩
def t_law_motor (P : Program) (w : World) (K : PySem.W.Frag) : TS := (tSeq (tAsg (tTup (tCons (tTup (tCons (tC (.str "off")) (tCons (tC (.str "on")) tNil))) (tCons (tTupX (tCons (tC (.str "lit")) tNil)) (tCons (tTup (tCons (tTup (tCons (tC (.int 0)) (tCons (tC (.int 1)) tNil))) (tCons (tTup (tCons (tC (.int 0)) (tCons (tC (.int 1)) tNil))) tNil))) (tCons (tTup (tCons (tTup (tCons (tC (.int 0)) tNil)) (tCons (tTup (tCons (tC (.int 1)) tNil)) tNil))) tNil))))) (gName 1)) (tSeq (tAsg (tTup (tCons (tTup (tCons (tC (.str "hold")) (tCons (tC (.str "turn")) tNil))) (tCons (tTupX (tCons (tC (.str "lit")) tNil)) (tCons (tTup (tCons (tTup (tCons (tC (.int 0)) (tCons (tC (.int 1)) tNil))) (tCons (tTup (tCons (tC (.int 1)) (tCons (tC (.int 0)) tNil))) tNil))) (tCons (tTup (tCons (tTup (tCons (tC (.int 0)) tNil)) (tCons (tTup (tCons (tC (.int 1)) tNil)) tNil))) tNil))))) (gName 2)) (tSeq (tAsg (tTup (tCons (tTup (tCons (tC (.str "no")) (tCons (tC (.str "yes")) tNil))) (tCons (tTupX (tCons (tC (.str "new")) (tCons (tC (.str "still")) tNil))) (tCons (tTup (tCons (tTup (tCons (tC (.int 0)) (tCons (tC (.int 1)) tNil))) (tCons (tTup (tCons (tC (.int 0)) (tCons (tC (.int 1)) tNil))) tNil))) (tCons (tTup (tCons (tTup (tCons (tC (.int 0)) (tCons (tC (.int 5)) tNil))) (tCons (tTup (tCons (tC (.int 1)) (tCons (tC (.int 5)) tNil))) tNil))) tNil))))) (gName 3)) (tRet (tCall (sp_law_any) [] E0 (tCons (tVar 0) (tCons (tLst (tCons (tTup (tCons (tVar 1) (tCons (tTupX (tCons (tC (.str "lit")) tNil)) tNil))) (tCons (tTup (tCons (tVar 2) (tCons (tTupX (tCons (tC (.str "lit")) tNil)) tNil))) (tCons (tTup (tCons (tVar 3) (tCons (tTup (tCons (tC (.str "new")) tNil)) tNil))) tNil)))) tNil)))))))
theorem pe_law_motor (T : TB mg) (G_law_any : Kn P w K mg base "_law_any" P_law_any 2 (sp_law_any)) : BodyOk P w K mg base 2 N_law_motor "_law_motor" s_law_motor (t_law_motor P w K) := by
  intro f cdv A outer s H E hr
  have hu : _ + 65 < cLine := hu65 hr
  have hu1 : _ + 64 < cLine := hu64 hr
  have hu2 : _ + 1 < cLine := hu1of hr
  have sc := sc_law_motor
  exact (pss_cons (ps_set (i := 1) sc.nd rfl (.inl rfl) (pe_tup (pa_cons (pe_tup (pa_cons pe_str (pa_cons pe_str pa_nil))) (pa_cons (pe_tupX (pa_cons pe_str pa_nil)) (pa_cons (pe_tup (pa_cons (pe_tup (pa_cons pe_int (pa_cons pe_int pa_nil))) (pa_cons (pe_tup (pa_cons pe_int (pa_cons pe_int pa_nil))) pa_nil))) (pa_cons (pe_tup (pa_cons (pe_tup (pa_cons pe_int pa_nil)) (pa_cons (pe_tup (pa_cons pe_int pa_nil)) pa_nil))) pa_nil)))))) (pss_cons (ps_set (i := 2) sc.nd rfl (.inl rfl) (pe_tup (pa_cons (pe_tup (pa_cons pe_str (pa_cons pe_str pa_nil))) (pa_cons (pe_tupX (pa_cons pe_str pa_nil)) (pa_cons (pe_tup (pa_cons (pe_tup (pa_cons pe_int (pa_cons pe_int pa_nil))) (pa_cons (pe_tup (pa_cons pe_int (pa_cons pe_int pa_nil))) pa_nil))) (pa_cons (pe_tup (pa_cons (pe_tup (pa_cons pe_int pa_nil)) (pa_cons (pe_tup (pa_cons pe_int pa_nil)) pa_nil))) pa_nil)))))) (pss_cons (ps_set (i := 3) sc.nd rfl (.inl rfl) (pe_tup (pa_cons (pe_tup (pa_cons pe_str (pa_cons pe_str pa_nil))) (pa_cons (pe_tupX (pa_cons pe_str (pa_cons pe_str pa_nil))) (pa_cons (pe_tup (pa_cons (pe_tup (pa_cons pe_int (pa_cons pe_int pa_nil))) (pa_cons (pe_tup (pa_cons pe_int (pa_cons pe_int pa_nil))) pa_nil))) (pa_cons (pe_tup (pa_cons (pe_tup (pa_cons pe_int (pa_cons pe_int pa_nil))) (pa_cons (pe_tup (pa_cons pe_int (pa_cons pe_int pa_nil))) pa_nil))) pa_nil)))))) (pss_one (ps_ret (pe_kn G_law_any hr (by decide) (by rfl) (pa_cons (pv 0) (pa_cons (pe_lst (pa_cons (pe_tup (pa_cons (pv 1) (pa_cons (pe_tupX (pa_cons pe_str pa_nil)) pa_nil))) (pa_cons (pe_tup (pa_cons (pv 2) (pa_cons (pe_tupX (pa_cons pe_str pa_nil)) pa_nil))) (pa_cons (pe_tup (pa_cons (pv 3) (pa_cons (pe_tup (pa_cons pe_str pa_nil)) pa_nil))) pa_nil)))) pa_nil))))))))

/-! _law_least: 0 _law_needs_here, 1 _law_names, 2 _law_some -/
abbrev N_law_least : List Str := ["_law_needs_here", "_law_names", "_law_some"]
abbrev P_law_least : List Str := ["_law_needs_here", "_law_names"]
theorem sc_law_least : FnScope N_law_least P_law_least (defScope s_law_least) := ⟨rfl, rfl, rfl, by decide +kernel, rfl, by decide +kernel, by decide +kernel⟩
def t_law_least (P : Program) (w : World) (K : PySem.W.Frag) : TS := (tRet (tCall (sp_law_minimal) [] E0 (tCons (tLc (iSeq K (tCall (sp_law_subsets) [] E0 (tCons (tVar 1) tNil))) (gName 2) (tB (tCall (sp_law_meets) [] E0 (tCons (tVar 0) (tCons (tVar 2) tNil)))) (tVar 2) [2]) tNil)))
theorem pe_law_least (T : TB mg) (G_law_subsets : Kn P w K mg base "_law_subsets" P_law_subsets 1 (sp_law_subsets)) (G_law_meets : Kn P w K mg base "_law_meets" P_law_meets 1 (sp_law_meets)) (G_law_minimal : Kn P w K mg base "_law_minimal" P_law_minimal 2 (sp_law_minimal)) : BodyOk P w K mg base 2 N_law_least "_law_least" s_law_least (t_law_least P w K) := by
  intro f cdv A outer s H E hr
  have hu : _ + 65 < cLine := hu65 hr
  have hu1 : _ + 64 < cLine := hu64 hr
  have hu2 : _ + 1 < cLine := hu1of hr
  have sc := sc_law_least
  exact (pss_one (ps_ret (pe_kn G_law_minimal hr (by decide) (by rfl) (pa_cons (pe_lc (own := [("_law_some", 2)]) rfl sc.nd (pi_seq (pe_kn G_law_subsets hr (by decide) (by rfl) (pa_cons (pv 1) pa_nil))) (blkOk_by (by first | rfl | decide +kernel)) (fun _ _ _ _ _ => (pg_name (i := 2) sc.nd rfl (by first | exact .inl rfl | exact .inr rfl))) (fun _ _ _ _ _ => (pts_one (pt_val (pe_kn G_law_meets hr (by decide) (by rfl) (pa_cons (pv 0) (pa_cons (pv 2) pa_nil)))))) (fun _ _ _ _ _ => (pv 2))) pa_nil))))

/-! _law_are_needs_right: 0 _law_feed_here, 1 _law_guild_here, 2 _law_names, 3 _law_name, 4 _law_needs_here, 5 _law_told, 6 _law_least_here, 7 _law_few, 8 _law_one, 9 _law_lap, 10 _law_some, 11 _law_missed -/
abbrev N_law_are_needs_right : List Str := ["_law_feed_here", "_law_guild_here", "_law_names", "_law_name", "_law_needs_here", "_law_told", "_law_least_here", "_law_few", "_law_one", "_law_lap", "_law_some", "_law_missed"]
abbrev P_law_are_needs_right : List Str := ["_law_feed_here", "_law_guild_here", "_law_names", "_law_name", "_law_needs_here"]
theorem sc_law_are_needs_right : FnScope N_law_are_needs_right P_law_are_needs_right (defScope s_law_are_needs_right) := ⟨rfl, rfl, rfl, by decide +kernel, rfl, by decide +kernel, by decide +kernel⟩
def t_law_are_needs_right (P : Program) (w : World) (K : PySem.W.Frag) : TS := (tSeq (tAsg (tLst (tCons (tCall (sp_needs_of) [] E0 (tCons (tVar 1) (tCons (tVar 3) tNil))) (tCons (tCallN 0 (List.length (α := Str) ["house", "trust"]) (sp_needs_of) gSw E0 tNil (tCons (tVar 3) (tCons (tVar 1) tNil))) tNil))) (gName 5)) (tSeq (tAsg (tCall (sp_law_least) [] E0 (tCons (tVar 4) (tCons (tVar 2) tNil))) (gName 6)) (tSeq (tIfS (tNot (tB (tCall (sp_law_same) [] E0 (tCons (tOp rCat (tVar 5) (tLst (tCons (tCall (sp_least_lots) [] E0 (tCons (tVar 1) (tCons (tVar 3) tNil))) tNil))) (tCons (tLst (tCons (tVar 4) (tCons (tVar 4) (tCons (tVar 6) tNil)))) tNil))))) tNever tNext) (tSeq (tAsg (tCall (sp_fewest_lot) [] E0 (tCons (tVar 1) (tCons (tVar 3) tNil))) (gName 7)) (tSeq (tIfS (tTest (tOp (rEqD K) (tVar 6) (tTup tNil))) (tRet (tOp rIsNX (tVar 7) (tC .non))) tNext) (tSeq (tIfS (tOr (tTest (tOp (rInA K true) (tCB (rReprD K) (tCons (tVar 7) tNil)) (tLc (iSeq K (tVar 6)) (gName 8) tYes (tCB (rReprD K) (tCons (tVar 8) tNil)) [8]))) (tTest (tOp (rNeD K) (tCB (rLenX K) (tCons (tVar 7) tNil)) (tCB (rMin K) (tCons (tLc (iSeq K (tVar 6)) (gName 8) tYes (tCB (rLenX K) (tCons (tVar 8) tNil)) [8]) tNil))))) tNever tNext) (tSeq (tFor (iRng1 (tCons (tC (.int 2)) tNil)) (gName 9) (tSeq (tAsg (tCB (rTupX K) (tCons (tLc (iSeq K (tVar 2)) (gName 8) (tTest (tOp (rEqD K) (tCall (sp_law_draw) [] E0 (tCons (tVar 0) (tCons (tC (.int 2)) tNil))) (tC (.int 0)))) (tVar 8) [8]) tNil)) (gName 10)) (tSeq (tAsg (tLc (iSeq K (tVar 4)) (gName 8) (tNot (tB (tCall (sp_law_meets) [] E0 (tCons (tLst (tCons (tVar 8) tNil)) (tCons (tVar 10) tNil))))) (tVar 8) [8]) (gName 11)) (tSeq (tAsg (tLst (tCons (tCall (sp_meets_needs) [] E0 (tCons (tVar 1) (tCons (tVar 3) (tCons (tVar 10) tNil)))) (tCons (tCallN 0 (List.length (α := Str) ["lot", "house", "trust"]) (sp_first_missed) gRev E0 tNil (tCons (tVar 10) (tCons (tVar 3) (tCons (tVar 1) tNil)))) tNil))) (gName 5)) (tIfS (tNot (tB (tCall (sp_law_same) [] E0 (tCons (tVar 5) (tCons (tLst (tCons (tOp (rEqD K) (tVar 11) (tLst tNil)) (tCons (tIf (tTest (tOp (rNeD K) (tVar 11) (tLst tNil))) (tOp (rIx K) (tVar 11) (tC (.int 0))) (tC .non)) tNil))) tNil))))) tNever tNext))))) (tRet (tC (.bl true))))))))))
theorem pe_law_are_needs_right (T : TB mg) (K0_needs_of : KnK P w K mg base "needs_of" P_needs_of 8 (sp_needs_of) 0 ["house", "trust"] gSw) (G_needs_of : Kn P w K mg base "needs_of" P_needs_of 8 (sp_needs_of)) (G_law_least : Kn P w K mg base "_law_least" P_law_least 3 (sp_law_least)) (G_least_lots : Kn P w K mg base "least_lots" P_least_lots 8 (sp_least_lots)) (G_law_same : KnG P w K mg base "_law_same" P_law_same 1 (sp_law_same)) (G_fewest_lot : Kn P w K mg base "fewest_lot" P_fewest_lot 8 (sp_fewest_lot)) (G_law_draw : Kn P w K mg base "_law_draw" P_law_draw 1 (sp_law_draw)) (G_law_meets : Kn P w K mg base "_law_meets" P_law_meets 1 (sp_law_meets)) (K0_first_missed : KnK P w K mg base "first_missed" P_first_missed 8 (sp_first_missed) 0 ["lot", "house", "trust"] gRev) (G_meets_needs : Kn P w K mg base "meets_needs" P_meets_needs 8 (sp_meets_needs)) : BodyG P w K mg base 8 N_law_are_needs_right "_law_are_needs_right" s_law_are_needs_right (t_law_are_needs_right P w K) := by
  intro f cdv A outer s H E hA hr
  have hu : _ + 65 < cLine := hu65 hr
  have hu1 : _ + 64 < cLine := hu64 hr
  have hu2 : _ + 1 < cLine := hu1of hr
  have sc := sc_law_are_needs_right
  exact (pss_cons (ps_set (i := 5) sc.nd rfl (.inl rfl) (pe_lst (pa_cons (pe_kn G_needs_of hr (by decide) (by rfl) (pa_cons (pv 1) (pa_cons (pv 3) pa_nil))) (pa_cons (pe_knK0 K0_needs_of hr (by decide) (by rfl) (pk_cons (pv 3) (pk_cons (pv 1) pk_nil))) pa_nil)))) (pss_cons (ps_set (i := 6) sc.nd rfl (.inl rfl) (pe_kn G_law_least hr (by decide) (by rfl) (pa_cons (pv 4) (pa_cons (pv 2) pa_nil)))) (pss_cons (ps_if (pt_not (pt_val (pe_knG G_law_same hA hr (by decide) (by rfl) (pa_cons (pe_op op_cat (pv 5) (pe_lst (pa_cons (pe_kn G_least_lots hr (by decide) (by rfl) (pa_cons (pv 1) (pa_cons (pv 3) pa_nil))) pa_nil))) (pa_cons (pe_lst (pa_cons (pv 4) (pa_cons (pv 4) (pa_cons (pv 6) pa_nil)))) pa_nil))))) pss_never pss_nil) (pss_cons (ps_set (i := 7) sc.nd rfl (.inl rfl) (pe_kn G_fewest_lot hr (by decide) (by rfl) (pa_cons (pv 1) (pa_cons (pv 3) pa_nil)))) (pss_cons (ps_if (pt_cmpR (op_eqD hu1) (pv 6) (pe_tup pa_nil) (nomark _)) (pss_one (ps_ret (pe_cmpR op_isN (pv 7) pe_non (nomark _)))) pss_nil) (pss_cons (ps_if (PW.pt (pw_or (pt_cmpR (op_notInA hu) (pe_callB (cr_reprD hA hu) (by rfl) T.repr_ (by decide +kernel) (pa_cons (pv 7) pa_nil)) (pe_lc (own := [("_law_one", 8)]) rfl sc.nd (pi_seq (pv 6)) (blkOk_by (by first | rfl | decide +kernel)) (fun _ _ _ _ _ => (pg_name (i := 8) sc.nd rfl (by first | exact .inl rfl | exact .inr rfl))) (fun _ _ _ _ _ => pts_nil) (fun _ _ _ _ _ => (pe_callB (cr_reprD hA hu) (by rfl) T.repr_ (by decide +kernel) (pa_cons (pv 8) pa_nil)))) (by rfl)) (pw_or1 (pt_cmpR (op_neD hu1) (pe_callB call_len (by rfl) T.len_ (by decide +kernel) (pa_cons (pv 7) pa_nil)) (pe_callB (cr_min rfl) (by rfl) T.min_ (by decide +kernel) (pa_cons (pe_lc (own := [("_law_one", 8)]) rfl sc.nd (pi_seq (pv 6)) (blkOk_by (by first | rfl | decide +kernel)) (fun _ _ _ _ _ => (pg_name (i := 8) sc.nd rfl (by first | exact .inl rfl | exact .inr rfl))) (fun _ _ _ _ _ => pts_nil) (fun _ _ _ _ _ => (pe_callB call_len (by rfl) T.len_ (by decide +kernel) (pa_cons (pv 8) pa_nil)))) pa_nil)) (nomark _))))) pss_never pss_nil) (pss_cons (ps_for PassesOwn.never rfl (pi_range1 (by rfl) T.range (pa_cons pe_int pa_nil)) (pg_name (i := 9) sc.nd rfl (by first | exact .inl rfl | exact .inr rfl)) (pss_cons (ps_set (i := 10) sc.nd rfl (.inr rfl) (pe_callTy call_tuple_of (by rfl) T.tuple_ (by decide +kernel) (pa_cons (pe_lc (own := [("_law_one", 8)]) rfl sc.nd (pi_seq (pv 2)) (blkOk_by (by first | rfl | decide +kernel)) (fun _ _ _ _ _ => (pg_name (i := 8) sc.nd rfl (by first | exact .inl rfl | exact .inr rfl))) (fun _ _ _ _ _ => (pts_one (pt_cmpR (op_eqD hu1) (pe_kn G_law_draw hr (by decide) (by rfl) (pa_cons (pv 0) (pa_cons pe_int pa_nil))) pe_int (nomark _)))) (fun _ _ _ _ _ => (pv 8))) pa_nil))) (pss_cons (ps_setLc (i := 11) (own := [("_law_one", 8)]) rfl sc.nd rfl rfl (sw_true rfl rfl rfl (by decide +kernel)) (pi_seq (pv 4)) (blkOk_by (by first | rfl | decide +kernel)) (fun _ _ _ _ _ => (pg_name (i := 8) sc.nd rfl (by first | exact .inl rfl | exact .inr rfl))) (fun _ _ _ _ _ => (pts_one (pt_not (pt_val (pe_kn G_law_meets hr (by decide) (by rfl) (pa_cons (pe_lst (pa_cons (pv 8) pa_nil)) (pa_cons (pv 10) pa_nil))))))) (fun _ _ _ _ _ => (pv 8))) (pss_cons (ps_set (i := 5) sc.nd rfl (.inl rfl) (pe_lst (pa_cons (pe_kn G_meets_needs hr (by decide) (by rfl) (pa_cons (pv 1) (pa_cons (pv 3) (pa_cons (pv 10) pa_nil)))) (pa_cons (pe_knK0 K0_first_missed hr (by decide) (by rfl) (pk_cons (pv 10) (pk_cons (pv 3) (pk_cons (pv 1) pk_nil)))) pa_nil)))) (pss_one (ps_if (pt_not (pt_val (pe_knG G_law_same hA hr (by decide) (by rfl) (pa_cons (pv 5) (pa_cons (pe_lst (pa_cons (pe_cmpR (op_eqD hu1) (pv 11) (pe_lst pa_nil) (nomark _)) (pa_cons (pe_ifExp (pt_cmpR (op_neD hu1) (pv 11) (pe_lst pa_nil) (nomark _)) (pe_ix ix_seq (pv 11) pe_int (fun _ _ => rfl)) pe_non) pa_nil))) pa_nil))))) pss_never pss_nil)))))) (pss_one (ps_ret pe_bl)))))))))

/-! _law_are_asks_right: 0 _law_feed_here, 1 _law_guild_here, 2 _law_names, 3 _law_table, 4 _law_motor_here, 5 _law_moving, 6 _law_asks_in, 7 _law_lap, 8 _law_share, 9 _law_asked, 10 _law_one, 11 _law_shown, 12 _law_look, 13 _law_whole, 14 _law_k, 15 _law_needs_here, 16 _law_due, 17 _law_told -/
abbrev N_law_are_asks_right : List Str := ["_law_feed_here", "_law_guild_here", "_law_names", "_law_table", "_law_motor_here", "_law_moving", "_law_asks_in", "_law_lap", "_law_share", "_law_asked", "_law_one", "_law_shown", "_law_look", "_law_whole", "_law_k", "_law_needs_here", "_law_due", "_law_told"]
abbrev P_law_are_asks_right : List Str := ["_law_feed_here", "_law_guild_here", "_law_names", "_law_table"]
theorem sc_law_are_asks_right : FnScope N_law_are_asks_right P_law_are_asks_right (defScope s_law_are_asks_right) := ⟨rfl, rfl, rfl, by decide +kernel, rfl, by decide +kernel, by decide +kernel⟩
def t_law_are_asks_right (P : Program) (w : World) (K : PySem.W.Frag) : TS := (tSeq (tAsg (tCall (sp_law_motor) [] E0 (tCons (tVar 0) tNil)) (gTup K 2 (gCons (gName 4) (gCons (gName 5) gNil)))) (tSeq (tAsg (tLst tNil) (gName 6)) (tSeq (tFor (iRng1 (tCons (tC (.int 3)) tNil)) (gName 7) (tSeq (tAsg (tCall (sp_law_any) [] E0 (tCons (tVar 0) (tCons (tLst (tCons (tC (.int 1)) (tCons (tC (.int 2)) (tCons (tC (.int 2)) (tCons (tC (.int 4)) tNil))))) tNil))) (gName 8)) (tSeq (tAsg (tCB (rTupX K) (tCons (tLc (iSeq K (tVar 2)) (gName 10) (tTest (tOp (rEqD K) (tCall (sp_law_draw) [] E0 (tCons (tVar 0) (tCons (tVar 8) tNil))) (tC (.int 0)))) (tVar 10) [10]) tNil)) (gName 9)) (tSeq (tAsg (tLc (iSeq K (tOp (rIx K) (tVar 4) (tC (.int 1)))) (gName 12) (tTest (tOp (rI0 fun i j => .bl (decide (j < i))) (tCall (sp_law_draw) [] E0 (tCons (tVar 0) (tCons (tC (.int 3)) tNil))) (tC (.int 0)))) (tVar 12) [12]) (gName 11)) (tDrop (tBM K "list" rAppend (tVar 6) (tCons (tTup (tCons (tCall (sp_law_any) [] E0 (tCons (tVar 0) (tCons (tVar 2) tNil))) (tCons (tIf (tTest (tOp (rNeD K) (tVar 11) (tLst tNil))) (tCB (rTupX K) (tCons (tVar 11) tNil)) (L2.tSl (rSlA K) (tOp (rIx K) (tVar 4) (tC (.int 1))) tNoPart (tPart (tC (.int 1))))) (tCons (tVar 9) (tCons (tC (.str "any")) (tCons (tTup tNil) tNil)))))) tNil))))))) (tSeq (tAsg (tTup (tCons (tVar 4) (tCons (tVar 1) (tCons (tTup tNil) (tCons (tCB (rTupX K) (tCons (tVar 6) tNil)) (tCons (tTup tNil) tNil)))))) (gName 13)) (tSeq (tFor (iRng1 (tCons (tC (.int 3)) tNil)) (gName 14) (tSeq (tPar 15 16 (tCons (tDGet (tVar 3) (tOp (rIx K) (tOp (rIx K) (tVar 6) (tVar 14)) (tC (.int 0)))) (tCons (tTup tNil) tNil))) (tSeq (tIfS (tTest (tOp (rNeD K) (tLc (iSeq K (tOp (rIx K) (tOp (rIx K) (tVar 6) (tVar 14)) (tC (.int 1)))) (gName 12) (tTest (tOp (rInA K false) (tVar 12) (tVar 5))) (tVar 12) [12]) (tLst tNil))) (tAsg (tCB (rTupX K) (tCons (tLc (iSeq K (tVar 15)) (gName 10) (tNot (tB (tCall (sp_law_meets) [] E0 (tCons (tLst (tCons (tVar 10) tNil)) (tCons (tOp (rIx K) (tOp (rIx K) (tVar 6) (tVar 14)) (tC (.int 2))) tNil))))) (tVar 10) [10]) tNil)) (gName 16)) tNext) (tSeq (tAsg (tLst (tCons (tCall (sp_rule_lacks) [.int 0] E0 (tCons (tVar 13) (tCons (tVar 14) tNil))) (tCons (tCall (sp_rule_is_right) [.int 0] E0 (tCons (tVar 13) (tCons (tVar 14) tNil))) (tCons (tCallN 0 (List.length (α := Str) ["rule", "book", "age"]) (sp_rule_is_right) gRb E0 tNil (tCons (tVar 14) (tCons (tVar 13) (tCons (tC (.int 0)) tNil)))) tNil)))) (gName 17)) (tIfS (tNot (tB (tCall (sp_law_same) [] E0 (tCons (tVar 17) (tCons (tLst (tCons (tVar 16) (tCons (tOp (rEqD K) (tVar 16) (tTup tNil)) (tCons (tOp (rEqD K) (tVar 16) (tTup tNil)) tNil)))) tNil))))) tNever tNext))))) (tRet (tC (.bl true))))))))
theorem pe_law_are_asks_right (T : TB mg) (G_law_motor : Kn P w K mg base "_law_motor" P_law_motor 3 (sp_law_motor)) (G_law_any : Kn P w K mg base "_law_any" P_law_any 2 (sp_law_any)) (G_law_draw : Kn P w K mg base "_law_draw" P_law_draw 1 (sp_law_draw)) (G_law_meets : Kn P w K mg base "_law_meets" P_law_meets 1 (sp_law_meets)) (K0_rule_is_right : KnK P w K mg base "rule_is_right" P_rule_is_right 12 (sp_rule_is_right) 0 ["rule", "book", "age"] gRb) (D_rule_is_right : KnD P w K mg base "rule_is_right" P_rule_is_right 12 (sp_rule_is_right) [.int 0]) (D_rule_lacks : KnD P w K mg base "rule_lacks" P_rule_lacks 11 (sp_rule_lacks) [.int 0]) (G_law_same : KnG P w K mg base "_law_same" P_law_same 1 (sp_law_same)) : BodyG P w K mg base 12 N_law_are_asks_right "_law_are_asks_right" s_law_are_asks_right (t_law_are_asks_right P w K) := by
  intro f cdv A outer s H E hA hr
  have hu : _ + 65 < cLine := hu65 hr
  have hu1 : _ + 64 < cLine := hu64 hr
  have hu2 : _ + 1 < cLine := hu1of hr
  have sc := sc_law_are_asks_right
  exact (pss_cons (ps_asg (pe_kn G_law_motor hr (by decide) (by rfl) (pa_cons (pv 0) pa_nil)) (pg_tup rfl (pgs_cons (pg_name (i := 4) sc.nd rfl (by first | exact .inl rfl | exact .inr rfl)) (pgs_cons (pg_name (i := 5) sc.nd rfl (by first | exact .inl rfl | exact .inr rfl)) pgs_nil)))) (pss_cons (ps_set (i := 6) sc.nd rfl (.inr rfl) (pe_lst pa_nil)) (pss_cons (ps_for PassesOwn.never rfl (pi_range1 (by rfl) T.range (pa_cons pe_int pa_nil)) (pg_name (i := 7) sc.nd rfl (by first | exact .inl rfl | exact .inr rfl)) (pss_cons (ps_set (i := 8) sc.nd rfl (.inr rfl) (pe_kn G_law_any hr (by decide) (by rfl) (pa_cons (pv 0) (pa_cons (pe_lst (pa_cons pe_int (pa_cons pe_int (pa_cons pe_int (pa_cons pe_int pa_nil))))) pa_nil)))) (pss_cons (ps_set (i := 9) sc.nd rfl (.inl rfl) (pe_callTy call_tuple_of (by rfl) T.tuple_ (by decide +kernel) (pa_cons (pe_lc (own := [("_law_one", 10)]) rfl sc.nd (pi_seq (pv 2)) (blkOk_by (by first | rfl | decide +kernel)) (fun _ _ _ _ _ => (pg_name (i := 10) sc.nd rfl (by first | exact .inl rfl | exact .inr rfl))) (fun _ _ _ _ _ => (pts_one (pt_cmpR (op_eqD hu1) (pe_kn G_law_draw hr (by decide) (by rfl) (pa_cons (pv 0) (pa_cons (pv 8) pa_nil))) pe_int (nomark _)))) (fun _ _ _ _ _ => (pv 10))) pa_nil))) (pss_cons (ps_setLc (i := 11) (own := [("_law_look", 12)]) rfl sc.nd rfl rfl (sw_true rfl rfl rfl (by decide +kernel)) (pi_seq (pe_ix ix_seq (pv 4) pe_int (fun _ _ => rfl))) (blkOk_by (by first | rfl | decide +kernel)) (fun _ _ _ _ _ => (pg_name (i := 12) sc.nd rfl (by first | exact .inl rfl | exact .inr rfl))) (fun _ _ _ _ _ => (pts_one (pt_cmpR op_gt (pe_kn G_law_draw hr (by decide) (by rfl) (pa_cons (pv 0) (pa_cons pe_int pa_nil))) pe_int (nomark _)))) (fun _ _ _ _ _ => (pv 12))) (pss_one (ps_expr (pe_bm PySem.F.plainAttrs_list PySem.F.slot_list_append PySem.F.type_list_append mt_append (pv 6) (pa_cons (pe_tup (pa_cons (pe_kn G_law_any hr (by decide) (by rfl) (pa_cons (pv 0) (pa_cons (pv 2) pa_nil))) (pa_cons (pe_ifExp (pt_cmpR (op_neD hu1) (pv 11) (pe_lst pa_nil) (nomark _)) (pe_callTy call_tuple_of (by rfl) T.tuple_ (by decide +kernel) (pa_cons (pv 11) pa_nil)) (pe_slice sl_tupA (pe_ix ix_seq (pv 4) pe_int (fun _ _ => rfl)) po_none (po_some pe_int))) (pa_cons (pv 9) (pa_cons pe_str (pa_cons (pe_tup pa_nil) pa_nil)))))) pa_nil)))))))) (pss_cons (ps_set (i := 13) sc.nd rfl (.inl rfl) (pe_tup (pa_cons (pv 4) (pa_cons (pv 1) (pa_cons (pe_tup pa_nil) (pa_cons (pe_callTy call_tuple_of (by rfl) T.tuple_ (by decide +kernel) (pa_cons (pv 6) pa_nil)) (pa_cons (pe_tup pa_nil) pa_nil))))))) (pss_cons (ps_for PassesOwn.never rfl (pi_range1 (by rfl) T.range (pa_cons pe_int pa_nil)) (pg_name (i := 14) sc.nd rfl (by first | exact .inl rfl | exact .inr rfl)) (pss_cons (ps_par (i := 15) (j := 16) rfl sc.nd rfl rfl (by decide) rfl rfl (pa_cons (pe_dget hu2 (pv 3) (pe_ix ix_seq (pe_ix ix_seq (pv 6) (pv 14) (fun _ _ => rfl)) pe_int (fun _ _ => rfl)) (fun _ _ => rfl)) (pa_cons (pe_tup pa_nil) pa_nil)) (by rfl)) (pss_cons (ps_if (pt_cmpR (op_neD hu1) (pe_lc (own := [("_law_look", 12)]) rfl sc.nd (pi_seq (pe_ix ix_seq (pe_ix ix_seq (pv 6) (pv 14) (fun _ _ => rfl)) pe_int (fun _ _ => rfl))) (blkOk_by (by first | rfl | decide +kernel)) (fun _ _ _ _ _ => (pg_name (i := 12) sc.nd rfl (by first | exact .inl rfl | exact .inr rfl))) (fun _ _ _ _ _ => (pts_one (pt_cmpR (op_inA hu) (pv 12) (pv 5) (by rfl)))) (fun _ _ _ _ _ => (pv 12))) (pe_lst pa_nil) (nomark _)) (pss_one (ps_set (i := 16) sc.nd rfl (.inl rfl) (pe_callTy call_tuple_of (by rfl) T.tuple_ (by decide +kernel) (pa_cons (pe_lc (own := [("_law_one", 10)]) rfl sc.nd (pi_seq (pv 15)) (blkOk_by (by first | rfl | decide +kernel)) (fun _ _ _ _ _ => (pg_name (i := 10) sc.nd rfl (by first | exact .inl rfl | exact .inr rfl))) (fun _ _ _ _ _ => (pts_one (pt_not (pt_val (pe_kn G_law_meets hr (by decide) (by rfl) (pa_cons (pe_lst (pa_cons (pv 10) pa_nil)) (pa_cons (pe_ix ix_seq (pe_ix ix_seq (pv 6) (pv 14) (fun _ _ => rfl)) pe_int (fun _ _ => rfl)) pa_nil))))))) (fun _ _ _ _ _ => (pv 10))) pa_nil)))) pss_nil) (pss_cons (ps_set (i := 17) sc.nd rfl (.inl rfl) (pe_lst (pa_cons (pe_knD D_rule_lacks hr (by decide) (by rfl) (pa_cons (pv 13) (pa_cons (pv 14) pa_nil))) (pa_cons (pe_knD D_rule_is_right hr (by decide) (by rfl) (pa_cons (pv 13) (pa_cons (pv 14) pa_nil))) (pa_cons (pe_knK0 K0_rule_is_right hr (by decide) (by rfl) (pk_cons (pv 14) (pk_cons (pv 13) (pk_cons pe_int pk_nil)))) pa_nil))))) (pss_one (ps_if (pt_not (pt_val (pe_knG G_law_same hA hr (by decide) (by rfl) (pa_cons (pv 17) (pa_cons (pe_lst (pa_cons (pv 16) (pa_cons (pe_cmpR (op_eqD hu1) (pv 16) (pe_tup pa_nil) (nomark _)) (pa_cons (pe_cmpR (op_eqD hu1) (pv 16) (pe_tup pa_nil) (nomark _)) pa_nil)))) pa_nil))))) pss_never pss_nil)))))) (pss_one (ps_ret pe_bl)))))))

/-! _law_right: 0 _law_script, 1 _law_feed_here, 2 _law_guild_here, 3 _law_kept, 4 _law_names, 5 _law_safes_here, 6 _law_one, 7 _law_table, 8 _law_name, 9 _law_some -/
abbrev N_law_right : List Str := ["_law_script", "_law_feed_here", "_law_guild_here", "_law_kept", "_law_names", "_law_safes_here", "_law_one", "_law_table", "_law_name", "_law_some"]
abbrev P_law_right : List Str := ["_law_script"]
theorem sc_law_right : FnScope N_law_right P_law_right (defScope s_law_right) := ⟨rfl, rfl, rfl, by decide +kernel, rfl, by decide +kernel, by decide +kernel⟩
def t_law_right (P : Program) (w : World) (K : PySem.W.Frag) : TS := (tSeq (tAsg (tCall (sp_law_feed K) [] E0 (tCons (tVar 0) tNil)) (gName 1)) (tSeq (tAsg (tCall (sp_law_guild) [] E0 (tCons (tVar 1) (tCons (tC (.int 4)) tNil))) (gName 2)) (tSeq (tAsg (tTup (tCons (tCB (rReprD K) (tCons (tVar 2) tNil)) (tCons (tCB (rTupX K) (tCons (tLc (iSeq K (tVar 2)) (gName 6) tYes (tOp (rIx K) (tVar 6) (tC (.int 0))) [6]) tNil)) (tCons (tCall (sp_law_safes) [] E0 (tCons (tVar 2) tNil)) tNil)))) (gTup K 3 (gCons (gName 3) (gCons (gName 4) (gCons (gName 5) gNil))))) (tSeq (tAsg (tCB (rDictX K) (tCons (tLc (iSeq K (tVar 4)) (gName 8) tYes (tTup (tCons (tVar 8) (tCons (tCall (sp_law_needs) [] E0 (tCons (tVar 2) (tCons (tVar 5) (tCons (tVar 8) tNil)))) tNil))) [8]) tNil)) (gName 7)) (tSeq (tAsg (tCB (rTupX K) (tCons (tLc (iSeq K (tVar 4)) (gName 8) (tTest (tOp (rEqD K) (tCall (sp_law_draw) [] E0 (tCons (tVar 1) (tCons (tC (.int 3)) tNil))) (tC (.int 0)))) (tVar 8) [8]) tNil)) (gName 9)) (tSeq (tIfS (tNot (tB (tCall (sp_law_same) [] E0 (tCons (tCall (sp_safe_houses) [] E0 (tCons (tVar 2) (tCons (tVar 9) tNil))) (tCons (tCB (rTupX K) (tCons (tCall (sp_law_safe) [] E0 (tCons (tVar 2) (tCons (tVar 9) tNil))) tNil)) tNil))))) tNever tNext) (tSeq (tFor (iSeq K (tVar 4)) (gName 8) (tIfS (tNot (tB (tCall (sp_law_are_needs_right) [] E0 (tCons (tVar 1) (tCons (tVar 2) (tCons (tVar 4) (tCons (tVar 8) (tCons (tDGet (tVar 7) (tVar 8)) tNil)))))))) tNever tNext)) (tRet (tAndV (tCall (sp_law_are_asks_right) [] E0 (tCons (tVar 1) (tCons (tVar 2) (tCons (tVar 4) (tCons (tVar 7) tNil))))) (tOp L2.rEq (tCB (rReprD K) (tCons (tVar 2) tNil)) (tVar 3)))))))))))
theorem pe_law_right (T : TB mg) (G_law_feed : Kn P w K mg base "_law_feed" P_law_feed 1 (sp_law_feed K)) (G_law_guild : Kn P w K mg base "_law_guild" P_law_guild 3 (sp_law_guild)) (G_law_safes : Kn P w K mg base "_law_safes" P_law_safes 3 (sp_law_safes)) (G_law_needs : Kn P w K mg base "_law_needs" P_law_needs 3 (sp_law_needs)) (G_law_draw : Kn P w K mg base "_law_draw" P_law_draw 1 (sp_law_draw)) (G_law_safe : Kn P w K mg base "_law_safe" P_law_safe 2 (sp_law_safe)) (G_safe_houses : Kn P w K mg base "safe_houses" P_safe_houses 8 (sp_safe_houses)) (G_law_same : KnG P w K mg base "_law_same" P_law_same 1 (sp_law_same)) (G_law_are_needs_right : KnG P w K mg base "_law_are_needs_right" P_law_are_needs_right 9 (sp_law_are_needs_right)) (G_law_are_asks_right : KnG P w K mg base "_law_are_asks_right" P_law_are_asks_right 13 (sp_law_are_asks_right)) : BodyG P w K mg base 13 N_law_right "_law_right" s_law_right (t_law_right P w K) := by
  intro f cdv A outer s H E hA hr
  have hu : _ + 65 < cLine := hu65 hr
  have hu1 : _ + 64 < cLine := hu64 hr
  have hu2 : _ + 1 < cLine := hu1of hr
  have sc := sc_law_right
  exact (pss_cons (ps_set (i := 1) sc.nd rfl (.inr rfl) (pe_kn G_law_feed hr (by decide) (by rfl) (pa_cons (pv 0) pa_nil))) (pss_cons (ps_set (i := 2) sc.nd rfl (.inr rfl) (pe_kn G_law_guild hr (by decide) (by rfl) (pa_cons (pv 1) (pa_cons pe_int pa_nil)))) (pss_cons (ps_asg (pe_tup (pa_cons (pe_callB (cr_reprD hA hu) (by rfl) T.repr_ (by decide +kernel) (pa_cons (pv 2) pa_nil)) (pa_cons (pe_callTy call_tuple_of (by rfl) T.tuple_ (by decide +kernel) (pa_cons (pe_lc (own := [("_law_one", 6)]) rfl sc.nd (pi_seq (pv 2)) (blkOk_by (by first | rfl | decide +kernel)) (fun _ _ _ _ _ => (pg_name (i := 6) sc.nd rfl (by first | exact .inl rfl | exact .inr rfl))) (fun _ _ _ _ _ => pts_nil) (fun _ _ _ _ _ => (pe_ix ix_seq (pv 6) pe_int (fun _ _ => rfl)))) pa_nil)) (pa_cons (pe_kn G_law_safes hr (by decide) (by rfl) (pa_cons (pv 2) pa_nil)) pa_nil)))) (pg_tup rfl (pgs_cons (pg_name (i := 3) sc.nd rfl (by first | exact .inl rfl | exact .inr rfl)) (pgs_cons (pg_name (i := 4) sc.nd rfl (by first | exact .inl rfl | exact .inr rfl)) (pgs_cons (pg_name (i := 5) sc.nd rfl (by first | exact .inl rfl | exact .inr rfl)) pgs_nil))))) (pss_cons (ps_set (i := 7) sc.nd rfl (.inl rfl) (pe_callTy (call_dictP rfl) (by rfl) T.dict (by decide +kernel) (pa_cons (pe_lc (own := [("_law_name", 8)]) rfl sc.nd (pi_seq (pv 4)) (blkOk_by (by first | rfl | decide +kernel)) (fun _ _ _ _ _ => (pg_name (i := 8) sc.nd rfl (by first | exact .inl rfl | exact .inr rfl))) (fun _ _ _ _ _ => pts_nil) (fun _ _ _ _ _ => (pe_tup (pa_cons (pv 8) (pa_cons (pe_kn G_law_needs hr (by decide) (by rfl) (pa_cons (pv 2) (pa_cons (pv 5) (pa_cons (pv 8) pa_nil)))) pa_nil))))) pa_nil))) (pss_cons (ps_set (i := 9) sc.nd rfl (.inl rfl) (pe_callTy call_tuple_of (by rfl) T.tuple_ (by decide +kernel) (pa_cons (pe_lc (own := [("_law_name", 8)]) rfl sc.nd (pi_seq (pv 4)) (blkOk_by (by first | rfl | decide +kernel)) (fun _ _ _ _ _ => (pg_name (i := 8) sc.nd rfl (by first | exact .inl rfl | exact .inr rfl))) (fun _ _ _ _ _ => (pts_one (pt_cmpR (op_eqD hu1) (pe_kn G_law_draw hr (by decide) (by rfl) (pa_cons (pv 1) (pa_cons pe_int pa_nil))) pe_int (nomark _)))) (fun _ _ _ _ _ => (pv 8))) pa_nil))) (pss_cons (ps_if (pt_not (pt_val (pe_knG G_law_same hA hr (by decide) (by rfl) (pa_cons (pe_kn G_safe_houses hr (by decide) (by rfl) (pa_cons (pv 2) (pa_cons (pv 9) pa_nil))) (pa_cons (pe_callTy call_tuple_of (by rfl) T.tuple_ (by decide +kernel) (pa_cons (pe_kn G_law_safe hr (by decide) (by rfl) (pa_cons (pv 2) (pa_cons (pv 9) pa_nil))) pa_nil)) pa_nil))))) pss_never pss_nil) (pss_cons (ps_for PassesOwn.never rfl (pi_seq (pv 4)) (pg_name (i := 8) sc.nd rfl (by first | exact .inl rfl | exact .inr rfl)) (pss_one (ps_if (pt_not (pt_val (pe_knG G_law_are_needs_right hA hr (by decide) (by rfl) (pa_cons (pv 1) (pa_cons (pv 2) (pa_cons (pv 4) (pa_cons (pv 8) (pa_cons (pe_dget hu2 (pv 7) (pv 8) (fun _ _ => rfl)) pa_nil)))))))) pss_never pss_nil))) (pss_one (ps_ret (pe_and (pe_knG G_law_are_asks_right hA hr (by decide) (by rfl) (pa_cons (pv 1) (pa_cons (pv 2) (pa_cons (pv 4) (pa_cons (pv 7) pa_nil))))) (pe_one (pe_cmpR op_eq (pe_callB (cr_reprD hA hu) (by rfl) T.repr_ (by decide +kernel) (pa_cons (pv 2) pa_nil)) (pv 3) (nomark _)))))))))))))

/-! law: 0 _law_script -/
abbrev N_law : List Str := ["_law_script"]
abbrev P_law : List Str := ["_law_script"]
theorem sc_law : FnScope N_law P_law (defScope s_law) := ⟨rfl, rfl, rfl, by decide +kernel, rfl, by decide +kernel, by decide +kernel⟩
def t_law (P : Program) (w : World) (K : PySem.W.Frag) : TS := (tRet (tCall (sp_law_right K) [] E0 (tCons (tVar 0) tNil)))
theorem pe_law (T : TB mg) (G_law_right : KnG P w K mg base "_law_right" P_law_right 14 (sp_law_right K)) : BodyG P w K mg base 14 N_law "law" s_law (t_law P w K) := by
  intro f cdv A outer s H E hA hr
  have hu : _ + 65 < cLine := hu65 hr
  have hu1 : _ + 64 < cLine := hu64 hr
  have hu2 : _ + 1 < cLine := hu1of hr
  have sc := sc_law
  exact (pss_one (ps_try_thru0 (pss_one (ps_ret (pe_knG G_law_right hA hr (by decide) (by rfl) (pa_cons (pv 0) pa_nil))))))

end
end K60

set_option maxHeartbeats 4000000
/-! K60, plain: what comes is small and in order. -/
namespace K60
open PySem PySem.Spec PyProof.Rows
theorem ok_names : ∀ x ∈ NAMES, ok x := by
  unfold ok
  decide +kernel
theorem good_subs : ∀ N ∈ NMS, ∀ S ∈ subsets N, (∀ x ∈ S, x ∈ NAMES) ∧ S.Pairwise strLt ∧ S.length ≤ 4 := by decide +kernel
theorem nms_len : ∀ N ∈ NMS, 2 ≤ N.length ∧ N.length ≤ 4 := by decide +kernel
section
variable {N : List Str} {S : List Str} {T : Tru}
theorem can_self (N : List Str) : Can N N := by
  unfold Can
  rw [List.filter_eq_self.mpr]
  intro x hx
  exact decide_eq_true hx
theorem can_facts (hN : N ∈ NMS) (h : Can N S) : (∀ x ∈ S, x ∈ NAMES) ∧ S.Pairwise strLt ∧ S.length ≤ 4 := good_subs N hN S ((mem_subsets (nms_nodup N hN)).mpr h)
theorem can_good (hN : N ∈ NMS) (h : Can N S) : Good S := by
  obtain ⟨a, b, c⟩ := can_facts hN h
  exact ⟨a, b, by omega⟩
theorem can_few (hN : N ∈ NMS) (h : Can N S) : Few S := by
  obtain ⟨a, b, c⟩ := can_facts hN h
  exact ⟨by omega, fun x hx => ok_names x (a x hx)⟩
theorem nm_ok (hN : N ∈ NMS) {x : Str} (h : x ∈ N) : ok x := ok_names x ((can_facts hN (can_self N)).1 x h)
theorem nm_names (hN : N ∈ NMS) {x : Str} (h : x ∈ N) : x ∈ NAMES := (can_facts hN (can_self N)).1 x h
theorem TOk.few (t : TOk N T) : T.length ≤ 4 := by
  have h := nms_len N t.mem
  have e : T.length = N.length := by
    rw [← t.names]
    exact (List.length_map ..).symm
  omega
theorem TOk.inN (t : TOk N T) {r : Row} (hr : r ∈ T) : r.1 ∈ N := by
  rw [← t.names]
  exact List.mem_map.mpr ⟨r, hr, rfl⟩
theorem TOk.okr (t : TOk N T) {r : Row} (hr : r ∈ T) : ok r.1 := nm_ok t.mem (t.inN hr)
theorem TOk.lotsC (t : TOk N T) {h : Str} (hh : h ∈ N) : ∀ l ∈ lotsAt T h, Can N l := fun l hl => by
  obtain ⟨r, hr, rfl⟩ := t.row hh
  rw [lots_row t.nd hr] at hl
  exact ((t.lots r hr).2.2.1 l hl).1
theorem TOk.fearsC (t : TOk N T) {h : Str} (hh : h ∈ N) : ∀ l ∈ fearsAt T h, Can N l := fun l hl => by
  obtain ⟨r, hr, rfl⟩ := t.row hh
  rw [fears_row t.nd hr] at hl
  exact ((t.fears r hr).2.2.1 l hl).1
theorem TOk.lotsL (t : TOk N T) {h : Str} (hh : h ∈ N) : (lotsAt T h).length ≤ 4 := by
  obtain ⟨r, hr, rfl⟩ := t.row hh
  rw [lots_row t.nd hr]
  exact (t.lots r hr).2.1
/-- a pair's lot -/
theorem TOk.lot (t : TOk N T) {p : Str × Nat} (hp : p ∈ pairsIn T) : p.1 ∈ N ∧ (lotsAt T p.1)[p.2]? = some (lotAt T p) ∧ Can N (lotAt T p) := by
  obtain ⟨r, hr, e, hk⟩ := (mem_pairs t).mp hp
  obtain ⟨q, k⟩ := p
  dsimp only at e hk
  subst e
  have h1 : (lotsAt T r.1)[k]? = some (lotAt T (r.1, k)) := by
    rw [lot_pair t hr hk, lots_row t.nd hr]
    exact List.getElem?_eq_getElem hk
  exact ⟨t.inN hr, h1, t.lotsC (t.inN hr) _ (List.mem_of_getElem? h1)⟩
end
end K60

set_option maxHeartbeats 4000000
/-! K60, plain: the three machines. -/
namespace K60
open PySem PySem.Spec PyProof.Rows
theorem mach_cases : ∀ j, machOf j = M0 ∨ machOf j = M1 ∨ machOf j = M2
  | 0 => .inl rfl
  | 1 => .inr (.inl rfl)
  | _ + 2 => .inr (.inr rfl)
/-- what is true of all three -/
theorem mach_all {p : Mach → Prop} (h0 : p M0) (h1 : p M1) (h2 : p M2) (j : Nat) : p (machOf j) := by
  rcases mach_cases j with e | e | e <;> rw [e] <;> assumption
theorem rows_facts (j : Nat) : (machOf j).letters.length = 2 ∧ ∀ s : Nat, s < 2 → ((machOf j).moves[s]?).any (fun row => decide (row.length = 2) && row.all (fun g => decide (g = (s : Int)) || decide (g = 1 - (s : Int))) && decide ((1 - (s : Int)) ∈ row) && decide ((s : Int) ∈ row)) = true :=
  mach_all (p := fun m => m.letters.length = 2 ∧ ∀ s : Nat, s < 2 → (m.moves[s]?).any (fun row => decide (row.length = 2) && row.all (fun g => decide (g = (s : Int)) || decide (g = 1 - (s : Int))) && decide ((1 - (s : Int)) ∈ row) && decide ((s : Int) ∈ row)) = true) (by decide +kernel) (by decide +kernel) (by decide +kernel) j
theorem rows_at (j : Nat) {s : Nat} (hs : s < 2) : ∃ row, (machOf j).moves[s]? = some row ∧ row.length = 2 ∧ (∀ g ∈ row, g = (s : Int) ∨ g = 1 - (s : Int)) ∧ (1 - (s : Int)) ∈ row ∧ (s : Int) ∈ row := by
  have h := (rows_facts j).2 s hs
  cases e : (machOf j).moves[s]? with
  | none =>
    rw [e] at h
    cases h
  | some row =>
    rw [e] at h
    have h' : (decide (row.length = 2) && row.all (fun g => decide (g = (s : Int)) || decide (g = 1 - (s : Int))) && decide ((1 - (s : Int)) ∈ row) && decide ((s : Int) ∈ row)) = true := h
    simp only [Bool.and_eq_true, decide_eq_true_eq, List.all_eq_true, Bool.or_eq_true] at h'
    exact ⟨row, rfl, h'.1.1.1, h'.1.1.2, h'.1.2, h'.2⟩
theorem ans_facts (j : Nat) : ∀ x ∈ (machOf j).looks, ∀ s : Nat, s < 2 → (((machOf j).answers[s]?).bind fun r => r[(machOf j).looks.idxOf x]?).isSome = true :=
  mach_all (p := fun m => ∀ x ∈ m.looks, ∀ s : Nat, s < 2 → ((m.answers[s]?).bind fun r => r[m.looks.idxOf x]?).isSome = true) (by decide +kernel) (by decide +kernel) (by decide +kernel) j
def ansM (m : Mach) (s : Nat) (x : Str) : Int := (((m.answers[s]?).getD [])[m.looks.idxOf x]?).getD 0
theorem ans_at (j : Nat) {s : Nat} (hs : s < 2) {x : Str} (hx : x ∈ (machOf j).looks) : ∃ row, (machOf j).answers[s]? = some row ∧ row[(machOf j).looks.idxOf x]? = some (ansM (machOf j) s x) := by
  have h := ans_facts j x hx s hs
  cases e : (machOf j).answers[s]? with
  | none =>
    rw [e] at h
    cases h
  | some row =>
    rw [e] at h
    refine ⟨row, rfl, ?_⟩
    unfold ansM
    rw [e]
    cases e2 : row[(machOf j).looks.idxOf x]? with
    | none =>
      have h' : (row[(machOf j).looks.idxOf x]?).isSome = true := h
      rw [e2] at h'
      cases h'
    | some v =>
      show some v = some ((row[(machOf j).looks.idxOf x]?).getD 0)
      rw [e2]
      rfl
theorem unlike_facts (j : Nat) : ∀ x ∈ (machOf j).looks, ∀ s : Nat, s < 2 → ([(s : Int), 1 - (s : Int)].filter fun g => !decide (ansM (machOf j) g.toNat x = ansM (machOf j) s x)) = unlikeM j s x :=
  mach_all (p := fun m => ∀ x ∈ m.looks, ∀ s : Nat, s < 2 → ([(s : Int), 1 - (s : Int)].filter fun g => !decide (ansM m g.toNat x = ansM m s x)) = unlikeM 0 s x) (by decide +kernel) (by decide +kernel) (by decide +kernel) j
theorem moves_facts (j : Nat) : ∀ x ∈ (machOf j).looks, movesM (machOf j) x = !decide (x = "still") :=
  mach_all (p := fun m => ∀ x ∈ m.looks, movesM m x = !decide (x = "still")) (by decide +kernel) (by decide +kernel) (by decide +kernel) j
theorem looks_names (j : Nat) : ∀ x ∈ (machOf j).looks, x ∈ NAMES := mach_all (p := fun m => ∀ x ∈ m.looks, x ∈ NAMES) (by decide +kernel) (by decide +kernel) (by decide +kernel) j
end K60

set_option maxHeartbeats 4000000
/-! K60: what the defs of sets keep. -/
namespace K60
open PySem PySem.Spec PyProof.Rows L2
/-- a def of the text -/
abbrev Fd (K : PySem.W.Frag) (x : Str) (st : Stmt) (dvs : List V) (kws : List (Str × V)) (f : Addr) (fd : FuncData) : Prop := FunD K x x (defArgs st) (defBody st) (defScope st) dvs kws f fd
theorem dv_call {α : Type} {pre : α → Prop} {args : α → List PyData} {res : α → PyData} {f : Fe} {E : XK} {tA : TA} {ρ : List Sl} (x : α) (ha : DA f tA ρ (· = (args x).map Sl.dat)) (hp : pre x) : DE f (tCall (spV pre args res) [] E tA) ρ (· = .dat (res x)) := de_call x ha hp fun s e => e
theorem dv_callD {α : Type} {pre : α → Prop} {args : α → List PyData} {res : α → PyData} {f : Fe} {E : XK} {tA : TA} {ρ : List Sl} {ss : List Sl} {dvs : List V} {ds : List PyData} (x : α) (ha : DA f tA ρ (· = ss)) (hd : ∀ H, RpL H dvs ds) (he : ss ++ ds.map Sl.dat = (args x).map Sl.dat) (hp : pre x) :
    DE f (tCall (spV pre args res) dvs E tA) ρ (· = .dat (res x)) := de_callD x ha hd he hp fun s e => e
theorem dv_callN {α : Type} {pre : α → Prop} {args : α → List PyData} {res : α → PyData} {f : Fe} {E : XK} {tA tk : TA} {ρ : List Sl} {n m : Nat} {gV : List V → List V → List V} {ss zs : List Sl} (x : α) (ha : DA f tA ρ (· = ss)) (hk : DA f tk ρ (· = zs)) (h1 : ss.length = n) (h2 : zs.length = m)
    (ho : Order gV ss zs ((args x).map Sl.dat)) (hp : pre x) : DE f (tCallN n m (spV pre args res) gV E tA tk) ρ (· = .dat (res x)) := de_callN x ha hk h1 h2 ho hp fun s e => e
theorem few_le {a : List Str} (h : Few a) : a.length ≤ 100000 := Nat.le_trans h.1 (by decide)
theorem le_big {n : Nat} (h : n ≤ 1000) : n ≤ 100000 := Nat.le_trans h (by decide)
theorem few_sub {a b : List Str} (h : Few b) (hl : a.length ≤ b.length) (hs : ∀ x ∈ a, x ∈ b) : Few a := ⟨Nat.le_trans hl h.1, fun x hx => h.2 x (hs x hx)⟩
theorem ne_setd {f : Fe} {K : PySem.W.Frag} {xs ys : List Str} (hx : ∀ z ∈ xs, ok z) (hy : ∀ z ∈ ys, ok z) : DR2 f (rNeD K) (.dat (eSet xs)) (.dat (eSet ys)) (· = .dat (eB (decide (xs ≠ ys)))) := (ne_set hx hy).cast (by rw [decide_not])
section
variable {P : Program} {w : World} {K : PySem.W.Frag} {mg : Str → Option Value} {base : Heap} {f : Addr} {fd : FuncData}
theorem fn_meets_in (T : TB mg) (F : Fd K "meets_in" s_meets_in [] [] f fd) : FnOk P w K mg base CX0 1 f fd P_meets_in sp_meets_in := mk_ok F sc_meets_in (pe_meets_in T) (fun _ _ _ => rfl) fun f O H x hp => by
  obtain ⟨a, b⟩ := x
  obtain ⟨h1, h2⟩ := hp
  exact db_retv (dv_cb (dw_cons (lc_m (q := fun z => eB (decide (z ∈ b))) (di_T (dv_var rfl)) (few_le h1) (fun z hz => dg_name (by decide)) fun z hz => dv_op (dv_var rfl) (dv_var rfl) (in_ST (h1.2 z hz) h2.2)) dw_nil) any_L) rfl
theorem fn_joint_in (T : TB mg) (F : Fd K "joint_in" s_joint_in [] [] f fd) : FnOk P w K mg base CX0 1 f fd P_joint_in sp_joint_in := mk_ok F sc_joint_in (pe_joint_in T) (fun _ _ _ => rfl) fun f O H x hp => by
  obtain ⟨a, b⟩ := x
  obtain ⟨h1, h2⟩ := hp
  exact db_retv (dv_cb (dw_cons (lc_fm (q := eS) (p := fun z => decide (z ∈ b)) (di_T (dv_var rfl)) (few_le h1) (fun z hz => dg_name (by decide)) (fun z hz => tv_test (dv_op (dv_var rfl) (dv_var rfl) (in_ST (h1.2 z hz) h2.2))) fun z hz _ => dv_var rfl) dw_nil) tup_L) rfl
theorem fn_is_within (T : TB mg) (F : Fd K "is_within" s_is_within [] [] f fd) : FnOk P w K mg base CX0 1 f fd P_is_within sp_is_within := mk_ok F sc_is_within (pe_is_within T) (fun _ _ _ => rfl) fun f O H x hp => by
  obtain ⟨a, b⟩ := x
  obtain ⟨h1, h2⟩ := hp
  exact db_retv (dv_cb (dw_cons (lc_m (q := fun z => eB (decide (z ∈ b))) (di_T (dv_var rfl)) (few_le h1) (fun z hz => dg_name (by decide)) fun z hz => dv_op (dv_var rfl) (dv_var rfl) (in_ST (h1.2 z hz) h2.2)) dw_nil) all_L) rfl
theorem fn_less_by (T : TB mg) (F : Fd K "less_by" s_less_by [] [] f fd) : FnOk P w K mg base CX0 1 f fd P_less_by sp_less_by := mk_ok F sc_less_by (pe_less_by T) (fun _ _ _ => rfl) fun f O H x hp => by
  obtain ⟨a, b⟩ := x
  obtain ⟨h1, h2⟩ := hp
  exact db_retv (dv_cb (dw_cons (lc_fm (q := eS) (p := fun z => !decide (z ∈ b)) (di_T (dv_var rfl)) (few_le h1) (fun z hz => dg_name (by decide)) (fun z hz => tv_test (dv_op (dv_var rfl) (dv_var rfl) (ni_ST (h1.2 z hz) h2.2))) fun z hz _ => dv_var rfl) dw_nil) tup_L) rfl
theorem ssort_le {L : List (List Str)} (h : L.length < 64) : (ssort L).length ≤ 100000 := by
  have := ssort_len L
  omega
theorem fn_least_of (T : TB mg) (G : Kn P w K mg base "is_within" P_is_within 1 sp_is_within) (F : Fd K "least_of" s_least_of [] [] f fd) : FnOk P w K mg base CX0 2 f fd P_least_of sp_least_of := mk_ok F sc_least_of (pe_least_of T G) (fun _ _ _ => rfl) fun f O H L hp => by
  obtain ⟨h1, h2⟩ := hp
  have h3 : ∀ s ∈ ssort L, Few s := fun s hs => h2 s (mem_ssort.mp hs)
  exact qb_setv (dv_sortSet (dw_cons (dv_var rfl) dw_nil) h1) (qb_setv (lc_fm (p := fun one => !((ssort L).any fun late => decide (late ≠ one) && within late one)) (q := eSet) (di_L (dv_var rfl)) (ssort_le h1) (fun z hz => dg_name (by decide))
    (fun one ho => tv_not (tv_B (dv_cb (dw_cons (lc_m (q := fun late => eB (decide (late ≠ one) && within late one)) (di_L (dv_var rfl)) (ssort_le h1) (fun z hz => dg_name (by decide)) fun late hl => vv_and (dv_op (dv_var rfl) (dv_var rfl) (ne_setd (h3 late hl).2 (h3 one ho).2)) fun _ => dv_call (late, one) (dw_cons (dv_var rfl) (dw_cons (dv_var rfl) dw_nil)) ⟨h3 late hl, h3 one ho⟩) dw_nil) any_L)))
    fun one ho _ => dv_var rfl) (db_retv (dv_cb (dw_cons (dv_var rfl) dw_nil) tup_L) rfl))
theorem fn_greatest_of (T : TB mg) (G : Kn P w K mg base "is_within" P_is_within 1 sp_is_within) (F : Fd K "greatest_of" s_greatest_of [] [] f fd) : FnOk P w K mg base CX0 2 f fd P_greatest_of sp_greatest_of := mk_ok F sc_greatest_of (pe_greatest_of T G) (fun _ _ _ => rfl) fun f O H L hp => by
  obtain ⟨h1, h2⟩ := hp
  have h3 : ∀ s ∈ ssort L, Few s := fun s hs => h2 s (mem_ssort.mp hs)
  exact qb_setv (dv_sortSet (dw_cons (dv_var rfl) dw_nil) h1) (qb_setv (lc_fm (p := fun one => !((ssort L).any fun late => decide (late ≠ one) && within one late)) (q := eSet) (di_L (dv_var rfl)) (ssort_le h1) (fun z hz => dg_name (by decide))
    (fun one ho => tv_not (tv_B (dv_cb (dw_cons (lc_m (q := fun late => eB (decide (late ≠ one) && within one late)) (di_L (dv_var rfl)) (ssort_le h1) (fun z hz => dg_name (by decide)) fun late hl => vv_and (dv_op (dv_var rfl) (dv_var rfl) (ne_setd (h3 late hl).2 (h3 one ho).2)) fun _ => dv_call (one, late) (dw_cons (dv_var rfl) (dw_cons (dv_var rfl) dw_nil)) ⟨h3 one ho, h3 late hl⟩) dw_nil) any_L)))
    fun one ho _ => dv_var rfl) (db_retv (dv_cb (dw_cons (dv_var rfl) dw_nil) tup_L) rfl))
end
end K60

set_option maxHeartbeats 4000000
/-! K60: what the defs of trusts keep. -/
namespace K60
open PySem PySem.Spec PyProof.Rows L2
section
variable {f : Fe} {ρ : List Sl} {K : PySem.W.Frag} {te ta : TE} {ds : List PyData} {d : PyData}
theorem dv_ixT (i : Nat) (h : DE f te ρ (· = .dat (.tuple ds))) (hd : ds[i]? = some d) : DE f (tOp (rIx K) te (tC (.int (i : Int)))) ρ (· = .dat d) := dv_op h dv_int (dr_ixT hd)
theorem dv_ixL (i : Nat) (h : DE f te ρ (· = .dat (.list ds))) (hd : ds[i]? = some d) : DE f (tOp (rIx K) te (tC (.int (i : Int)))) ρ (· = .dat d) := dv_op h dv_int (dr_ixL hd)
end
theorem DT.cast {f : Fe} {tt : TT} {ρ : List Sl} {b c : Bool} (h : DT f tt ρ (· = b)) (e : b = c) : DT f tt ρ (· = c) := by
  rw [← e]
  exact h
theorem rows_one {N : List Str} {T : Tru} (t : TOk N T) {h : Str} (hh : h ∈ N) : ∃ r ∈ T, r.1 = h ∧ (T.filter fun r => decide (r.1 = h)) = [r] := by
  obtain ⟨r, hr, rfl⟩ := t.row hh
  exact ⟨r, hr, rfl, row_at t.nd hr⟩
section
variable {P : Program} {w : World} {K : PySem.W.Frag} {mg : Str → Option Value} {base : Heap} {f : Addr} {fd : FuncData}
theorem fn_houses_in (T : TB mg) (F : Fd K "houses_in" s_houses_in [] [] f fd) : FnOk P w K mg base CX0 1 f fd P_houses_in sp_houses_in := mk_ok F sc_houses_in (pe_houses_in T) (fun _ _ _ => rfl) fun f O H x hp => by
  exact db_retv (dv_cb (dw_cons (lc_m (q := fun r : Row => eS r.1) (di_T (dv_var rfl)) (Nat.le_trans hp (by decide)) (fun z hz => dg_name (by decide)) fun z hz => dv_ixT 0 (dv_var rfl) rfl) dw_nil) tup_L) (by
    show Sl.dat (.tuple _) = Sl.dat (.tuple _)
    unfold namesOf
    rw [List.map_map]
    rfl)
theorem fn_lots_of (T : TB mg) (F : Fd K "lots_of" s_lots_of [] [] f fd) : FnOk P w K mg base CX0 1 f fd P_lots_of sp_lots_of := mk_ok F sc_lots_of (pe_lots_of T) (fun _ _ _ => rfl) fun f O H x hp => by
  obtain ⟨tr, h⟩ := x
  obtain ⟨N, (t : TOk N tr), (hh : h ∈ N)⟩ := hp
  obtain ⟨r, hr, e, fe⟩ := rows_one t hh
  refine db_retv (dv_ixT 1 (dv_ixL 0 ((lc_fm (p := fun r : Row => decide (r.1 = h)) (q := eRow) (di_T (dv_var rfl)) (Nat.le_trans t.few (by decide)) (fun z hz => dg_name (by decide)) (fun z hz => tv_test (dv_op (dv_ixT 0 (dv_var rfl) rfl) (dv_var rfl) (eq_S (t.okr hz) (nm_ok t.mem hh)))) fun z hz _ => dv_var rfl).cast (v := .dat (.list [eRow r])) (by rw [fe]; rfl)) rfl) rfl) ?_
  show Sl.dat (eSets r.2.1) = Sl.dat (eSets (lotsAt tr h))
  rw [← e, lots_row t.nd hr]
theorem fn_fears_of (T : TB mg) (F : Fd K "fears_of" s_fears_of [] [] f fd) : FnOk P w K mg base CX0 1 f fd P_fears_of sp_fears_of := mk_ok F sc_fears_of (pe_fears_of T) (fun _ _ _ => rfl) fun f O H x hp => by
  obtain ⟨tr, h⟩ := x
  obtain ⟨N, (t : TOk N tr), (hh : h ∈ N)⟩ := hp
  obtain ⟨r, hr, e, fe⟩ := rows_one t hh
  refine db_retv (dv_ixT 2 (dv_ixL 0 ((lc_fm (p := fun r : Row => decide (r.1 = h)) (q := eRow) (di_T (dv_var rfl)) (Nat.le_trans t.few (by decide)) (fun z hz => dg_name (by decide)) (fun z hz => tv_test (dv_op (dv_ixT 0 (dv_var rfl) rfl) (dv_var rfl) (eq_S (t.okr hz) (nm_ok t.mem hh)))) fun z hz _ => dv_var rfl).cast (v := .dat (.list [eRow r])) (by rw [fe]; rfl)) rfl) rfl) ?_
  show Sl.dat (eSets r.2.2) = Sl.dat (eSets (fearsAt tr h))
  rw [← e, fears_row t.nd hr]
theorem fn_is_safe_by (T : TB mg) (G1 : Kn P w K mg base "is_within" P_is_within 1 sp_is_within) (G2 : Kn P w K mg base "fears_of" P_fears_of 1 sp_fears_of) (F : Fd K "is_safe_by" s_is_safe_by [] [] f fd) : FnOk P w K mg base CX0 2 f fd P_is_safe_by sp_is_safe_by := mk_ok F sc_is_safe_by (pe_is_safe_by T G2 G1) (fun _ _ _ => rfl) fun f O H x hp => by
  obtain ⟨tr, h, fall⟩ := x
  dsimp only at hp
  obtain ⟨⟨N, t, hh⟩, fw⟩ := hp
  exact db_retv (vv_and (dv_op (dv_var rfl) (dv_var rfl) (ni_ST (nm_ok t.mem hh) fw.2)) fun _ => dv_cb (dw_cons (lc_m (q := fun fear => eB (within fall fear)) (di_T (dv_call (tr, h) (dw_cons (dv_var rfl) (dw_cons (dv_var rfl) dw_nil)) ⟨N, t, hh⟩)) (Nat.le_trans (fears_len t hh) (by decide)) (fun z hz => dg_name (by decide))
    fun fear hf => dv_call (fall, fear) (dw_cons (dv_var rfl) (dw_cons (dv_var rfl) dw_nil)) ⟨fw, can_few t.mem (t.fearsC hh fear hf)⟩) dw_nil) any_L) rfl
theorem fn_safe_by (T : TB mg) (G1 : Kn P w K mg base "houses_in" P_houses_in 1 sp_houses_in) (G2 : Kn P w K mg base "is_safe_by" P_is_safe_by 2 sp_is_safe_by) (F : Fd K "safe_by" s_safe_by [] [] f fd) : FnOk P w K mg base CX0 3 f fd P_safe_by sp_safe_by := mk_ok F sc_safe_by (pe_safe_by T G1 G2) (fun _ _ _ => rfl) fun f O H x hp => by
  obtain ⟨tr, fall⟩ := x
  dsimp only at hp
  obtain ⟨⟨N, t⟩, fw⟩ := hp
  have le : (namesOf tr).length ≤ 100000 := by
    rw [t.names]
    have := nms_len N t.mem
    omega
  exact db_retv (dv_cb (dw_cons (lc_fm (q := eS) (p := fun h => isSafe tr h fall) (di_T (dv_call tr (dw_cons (dv_var rfl) dw_nil) (Nat.le_trans t.few (by decide)))) le (fun z hz => dg_name (by decide))
    (fun h hh => tv_B (dv_call (tr, h, fall) (dw_cons (dv_var rfl) (dw_cons (dv_var rfl) (dw_cons (dv_var rfl) dw_nil))) ⟨⟨N, t, by rw [← t.names]; exact hh⟩, fw⟩)) fun z hz _ => dv_var rfl) dw_nil) tup_L) rfl
theorem fn_falls_by (T : TB mg) (G1 : Kn P w K mg base "fears_of" P_fears_of 1 sp_fears_of) (G2 : Kn P w K mg base "greatest_of" P_greatest_of 2 sp_greatest_of) (G3 : Kn P w K mg base "joint_in" P_joint_in 1 sp_joint_in) (F : Fd K "falls_by" s_falls_by [] [] f fd) : FnOk P w K mg base CX0 3 f fd P_falls_by sp_falls_by := mk_ok F sc_falls_by (pe_falls_by T G1 G2 G3) (fun _ _ _ => rfl) fun f O H x hp => by
  obtain ⟨tr, h, q⟩ := x
  dsimp only at hp
  obtain ⟨⟨N, t, hh, hq⟩, ne⟩ := hp
  have el : ((fearsAt tr h).flatMap fun a => (fearsAt tr q).map fun b => eSet (joint a b)) = ((fearsAt tr h).flatMap fun a => (fearsAt tr q).map fun b => joint a b).map eSet := by
    rw [List.map_flatMap]
    simp only [List.map_map]
    rfl
  have fa : ∀ a ∈ fearsAt tr h, Few a := fun a ha => can_few t.mem (t.fearsC hh a ha)
  have fb : ∀ a ∈ fearsAt tr q, Few a := fun a ha => can_few t.mem (t.fearsC hq a ha)
  have hj : ∀ s ∈ (fearsAt tr h).flatMap fun a => (fearsAt tr q).map fun b => joint a b, Few s := fun s hs => can_few t.mem (can_falls t hh hq s hs).1
  exact qb_no ((tv_test (dv_op (dv_var rfl) (dv_var rfl) (eq_S (nm_ok t.mem hh) (nm_ok t.mem hq)))).cast (decide_eq_false ne)) (qb_setv ((dv_lc2 (q := fun a b => eSet (joint a b)) (di_T (dv_call (tr, h) (dw_cons (dv_var rfl) (dw_cons (dv_var rfl) dw_nil)) ⟨N, t, hh⟩)) (Nat.le_trans (fears_len t hh) (by decide)) (fun a _ => Nat.le_trans (fears_len t hq) (by decide))
    (fun a ha => dg_name (by decide)) (fun a ha => di_T (dv_call (tr, q) (dw_cons (dv_var rfl) (dw_cons (dv_var rfl) dw_nil)) ⟨N, t, hq⟩)) (fun a ha b hb => dg_name (by decide)) fun a ha b hb => dv_call (a, b) (dw_cons (dv_var rfl) (dw_cons (dv_var rfl) dw_nil)) ⟨fa a ha, fb b hb⟩).cast (congrArg (fun l => Sl.dat (.list l)) el))
    (db_retv (dv_call ((fearsAt tr h).flatMap fun a => (fearsAt tr q).map fun b => joint a b) (dw_cons (dv_var rfl) dw_nil) ⟨Nat.lt_of_le_of_lt (joints_len t hh hq) (by decide), hj⟩) rfl))
theorem fn_pairs_in (T : TB mg) (F : Fd K "pairs_in" s_pairs_in [] [] f fd) : FnOk P w K mg base CX0 1 f fd P_pairs_in sp_pairs_in := mk_ok F sc_pairs_in (pe_pairs_in T) (fun _ _ _ => rfl) fun f O H tr hp => by
  obtain ⟨N, t⟩ := hp
  have el : (tr.flatMap fun r => (List.range r.2.1.length).map fun k => ePair (r.1, k)) = (pairsIn tr).map ePair := by
    unfold pairsIn
    rw [List.map_flatMap]
    simp only [List.map_map]
    rfl
  have lots : ∀ r ∈ tr, r.2.1.length ≤ 4 := fun r hr => (t.lots r hr).2.1
  exact db_retv ((dv_lc2 (enc1 := fun (r : Row) (k : Nat) => Sl.dat (.int (k : Int))) (ys := fun r : Row => List.range r.2.1.length) (q := fun r k => ePair (r.1, k)) (di_T (dv_var rfl)) (Nat.le_trans t.few (by decide)) (fun r hr => by rw [List.length_range]; exact Nat.le_trans (lots r hr) (by decide))
    (fun r hr => dg_tup (ds := [.str r.1, eSets r.2.1, eSets r.2.2]) (dgs_cons (dg_name (by decide)) (dgs_cons (dg_name (by decide)) (dgs_cons (dg_name (by decide)) dgs_nil)))) (fun r hr => di_range1 (dw_cons (dv_cb (dw_cons (dv_var rfl) dw_nil) len_T) dw_nil) (Nat.le_trans (lots r hr) (by decide))) (fun r hr k hk => dg_name (by decide))
    fun r hr k hk => de_tup (ds := [.str r.1, .int (k : Int)]) (dw_cons (dv_var rfl) (dw_cons (dv_var rfl) dw_nil)) (Nat.le_of_ble_eq_true rfl) rfl).cast (congrArg (fun l => Sl.dat (.list l)) el)) rfl
theorem fn_lot_at (T : TB mg) (G : Kn P w K mg base "lots_of" P_lots_of 1 sp_lots_of) (F : Fd K "lot_at" s_lot_at [] [] f fd) : FnOk P w K mg base CX0 2 f fd P_lot_at sp_lot_at := mk_ok F sc_lot_at (pe_lot_at T G) (fun _ _ _ => rfl) fun f O H x hp => by
  obtain ⟨tr, p⟩ := x
  dsimp only at hp
  obtain ⟨⟨N, t⟩, hp⟩ := hp
  obtain ⟨h1, h2, h3⟩ := t.lot hp
  exact db_retv (dv_op (dv_call (tr, p.1) (dw_cons (dv_var rfl) (dw_cons (dv_ixT 0 (dv_var rfl) rfl) dw_nil)) ⟨N, t, h1⟩) (dv_ixT 1 (dv_var rfl) rfl) (ix_T h2)) rfl
end
end K60

set_option maxHeartbeats 4000000
/-! K60: what the defs of needs keep. -/
namespace K60
open PySem PySem.Spec PyProof.Rows L2
theorem flat_next {α β : Type} {g : α → List β} {l : List α} {i : Nat} {x : α} (h : l[i]? = some x) : (l.take (i + 1)).flatMap g = (l.take i).flatMap g ++ g x := by
  rw [take_next h, List.flatMap_append, List.flatMap_cons, List.flatMap_nil, List.append_nil]
theorem flat_le {α β : Type} {g : α → List β} {l : List α} (i : Nat) : ((l.take i).flatMap g).length ≤ (l.flatMap g).length := by
  conv => rhs; rw [← List.take_append_drop i l]
  rw [List.flatMap_append, List.length_append]
  omega
section
variable {P : Program} {w : World} {K : PySem.W.Frag} {mg : Str → Option Value} {base : Heap} {f : Addr} {fd : FuncData}
theorem fn_needs_by (T : TB mg) (G1 : Kn P w K mg base "pairs_in" P_pairs_in 1 sp_pairs_in) (G2 : Kn P w K mg base "falls_by" P_falls_by 3 sp_falls_by) (G3 : Kn P w K mg base "lot_at" P_lot_at 2 sp_lot_at) (G4 : Kn P w K mg base "less_by" P_less_by 1 sp_less_by) (G5 : Kn P w K mg base "least_of" P_least_of 2 sp_least_of)
    (F : Fd K "needs_by" s_needs_by [] [] f fd) : FnOk P w K mg base CX0 4 f fd P_needs_by sp_needs_by := mk_ok F sc_needs_by (pe_needs_by T G1 G2 G3 G4 G5) (fun _ _ _ => rfl) fun f O H x hp => by
  obtain ⟨tr, h⟩ := x
  obtain ⟨N, (t : TOk N tr), (hh : h ∈ N)⟩ := hp
  have nl := needs_len t hh
  refine qb_own fun p hp => ?_
  refine qb_for (vs := [3]) (xs := pairsIn tr) (fun i S' => ∃ s3, S' = ⟨p :: O, [(p, .lst ((needsL tr h ((pairsIn tr).take i)).map eSet))], [.dat (eTru tr), .dat (eS h), .raw (.ref p), s3, .no]⟩) ⟨.no, rfl⟩ (di_L (dv_call tr (dw_cons (dv_var rfl) dw_nil) ⟨N, t⟩)) (fun i S' m => by obtain ⟨_, rfl⟩ := m; rfl) ?_ ?_
  · rintro i q S' hq ⟨s3, rfl⟩
    have mq := List.mem_of_getElem? hq
    obtain ⟨q1, q2, q3⟩ := t.lot mq
    refine ⟨_, dg_name (by decide), db_if (tv_test (dv_op (dv_ixT 0 (dv_var rfl) rfl) (dv_var rfl) (ne_S (nm_ok t.mem q1) (nm_ok t.mem hh)))) (fun c => ?_) fun c => ?_⟩
    · have ne : h ≠ q.1 := fun e => by rw [e] at c; simp at c
      have fl := falls_len t hh q1 ne
      have gc : ∀ g ∈ fallsBy tr h q.1, Can N g := fun g hg => (can_falls t hh q1 g (mem_greatestOf.mp hg).1).1
      refine db_extend rfl rfl (lc_m (q := fun g => eSet (less (lotAt tr q) g)) (di_T (dv_call (tr, h, q.1) (dw_cons (dv_var rfl) (dw_cons (dv_var rfl) (dw_cons (dv_ixT 0 (dv_var rfl) rfl) dw_nil))) ⟨⟨N, t, hh, q1⟩, ne⟩)) (by show (fallsBy tr h q.1).length ≤ _; omega) (fun g hg => dg_name (by decide))
        fun g hg => dv_call (lotAt tr q, g) (dw_cons (dv_call (tr, q) (dw_cons (dv_var rfl) (dw_cons (dv_var rfl) dw_nil)) ⟨⟨N, t⟩, mq⟩) (dw_cons (dv_var rfl) dw_nil)) ⟨can_few t.mem q3, can_few t.mem (gc g hg)⟩) ?_ ⟨.dat (ePair q), ?_⟩
      · rw [List.length_map, List.length_map]
        have := flat_le (g := fun p : Str × Nat => if p.1 = h then [] else (fallsBy tr h p.1).map fun g => less (lotAt tr p) g) (l := pairsIn tr) i
        unfold needsL at nl ⊢
        have fl' : (fallsBy (tr, h, q.1).1 (tr, h, q.1).2.1 (tr, h, q.1).2.2).length ≤ 4 := fl
        omega
      · have e : needsL tr h ((pairsIn tr).take (i + 1)) = needsL tr h ((pairsIn tr).take i) ++ (fallsBy tr h q.1).map fun g => less (lotAt tr q) g := by
          unfold needsL
          rw [flat_next hq, if_neg (Ne.symm ne)]
        rw [e, List.map_append, List.map_map]
        rfl
    · have eq : q.1 = h := by simpa using c
      refine db_next ⟨.dat (ePair q), ?_⟩
      have e : needsL tr h ((pairsIn tr).take (i + 1)) = needsL tr h ((pairsIn tr).take i) := by
        unfold needsL
        rw [flat_next hq, if_pos eq, List.append_nil]
      rw [e]
      rfl
  · rintro S' ⟨s3, rfl⟩
    rw [List.take_length]
    have can := needs_can t hh
    exact db_release (i := 2) rfl hp rfl rfl (fun _ h => h) (db_retv (dv_call (needsL tr h (pairsIn tr)) (dw_cons (dv_var rfl) dw_nil) ⟨by omega, fun s hs => can_few t.mem (can s hs)⟩) rfl)
theorem fn_first_missed_by (T : TB mg) (G1 : Kn P w K mg base "joint_in" P_joint_in 1 sp_joint_in) (F : Fd K "first_missed_by" s_first_missed_by [] [] f fd) : FnOk P w K mg base CX0 2 f fd P_first_missed_by sp_first_missed_by := mk_ok F sc_first_missed_by (pe_first_missed_by T G1) (fun _ _ _ => rfl) fun f O H x hp => by
  obtain ⟨needs, lot⟩ := x
  obtain ⟨⟨n1, n2⟩, fl⟩ := hp
  dsimp only at n1 n2 fl
  refine qb_for (vs := [2]) (xs := needs) (fun i S' => (∀ n ∈ needs.take i, (joint n lot).isEmpty = false) ∧ ∃ s2, S' = ⟨O, [], [.dat (eSets needs), .dat (eSet lot), s2]⟩) ⟨fun n hn => (by simp at hn), .no, rfl⟩ (di_T (dv_var rfl)) (fun i S' m => by obtain ⟨_, _, rfl⟩ := m; rfl) ?_ ?_
  · rintro i n S' hn ⟨m, s2, rfl⟩
    have fn := n2 n (List.mem_of_getElem? hn)
    refine ⟨_, dg_name (by decide), db_if (tv_test (dv_op (dv_cb (dw_cons (dv_call (n, lot) (dw_cons (dv_var rfl) (dw_cons (dv_var rfl) dw_nil)) ⟨fn, fl⟩) dw_nil) len_T) dv_int eq_I)) (fun c => db_retv (dv_var rfl) ?_) fun c => db_next ⟨fun k hk => ?_, _, rfl⟩⟩
    · have e : joint n lot = [] := by
        have z : ((joint n lot).length : Int) = 0 := of_decide_eq_true c.symm
        exact List.length_eq_zero_iff.mp (by omega)
      have z : missedBy needs lot = some n := by
        unfold missedBy
        rw [List.find?_eq_some_iff_getElem]
        refine ⟨by rw [e]; rfl, i, (List.getElem?_eq_some_iff.mp hn).1, (List.getElem?_eq_some_iff.mp hn).2, fun j hj => ?_⟩
        have hl : j < needs.length := Nat.lt_trans hj (List.getElem?_eq_some_iff.mp hn).1
        rw [m needs[j] (List.mem_take_iff_getElem.mpr ⟨j, by omega, rfl⟩)]
        rfl
      show Sl.dat (eSet n) = Sl.dat (eOpt eSet (missedBy needs lot))
      rw [z]
      rfl
    · rw [take_next hn] at hk
      rcases List.mem_append.mp hk with z | z
      · exact m k z
      · rw [List.mem_singleton.mp z]
        have z : ¬ ((joint n lot).length : Int) = 0 := of_decide_eq_false c.symm
        cases e : joint n lot with
        | nil => exact absurd (by rw [e]; rfl) z
        | cons _ _ => rfl
  · rintro S' ⟨m, s2, rfl⟩
    rw [List.take_length] at m
    refine db_retv dv_non ?_
    have z : missedBy needs lot = none := by
      unfold missedBy
      rw [List.find?_eq_none]
      intro n hn
      rw [m n hn]
      exact Bool.false_ne_true
    show Sl.dat .none = Sl.dat (eOpt eSet (missedBy needs lot))
    rw [z]
    rfl
theorem isN_opt {α : Type} {g : α → PyData} (h : ∀ x, isN (g x) = false) : ∀ o : Option α, isN (eOpt g o) = o.isNone
  | some x => h x
  | none => rfl
theorem fn_is_met (T : TB mg) (G1 : Kn P w K mg base "first_missed_by" P_first_missed_by 2 sp_first_missed_by) (F : Fd K "is_met" s_is_met [] [] f fd) : FnOk P w K mg base CX0 3 f fd P_is_met sp_is_met := mk_ok F sc_is_met (pe_is_met T G1) (fun _ _ _ => rfl) fun f O H x hp => by
  refine db_retv (dv_op (dv_call x (dw_cons (dv_var rfl) (dw_cons (dv_var rfl) dw_nil)) hp) dv_non dr_isN) ?_
  show Sl.dat (.bool (isN (eOpt eSet (missedBy x.1 x.2)))) = _
  rw [isN_opt fun _ => rfl]
end
end K60

set_option maxHeartbeats 4000000
/-! K60: the crossings; the questions to a trust. -/
namespace K60
open PySem PySem.Spec PyProof.Rows L2
theorem strLt_iff {a b : Str} : strLt a b ↔ a.cps.toList < b.cps.toList := by
  unfold strLt
  rw [PySem.W.dataLt_str, decide_eq_true_eq]
theorem risingS_le : ∀ {x : Str} {zs : List Str}, risingS x zs = true → (∀ z ∈ zs, ¬ strLt z x) ∧ zs.Pairwise (fun a b => ¬ strLt b a)
  | x, [], _ => ⟨fun z hz => (nomatch hz), List.Pairwise.nil⟩
  | x, z :: zs, h => by
    have h' : (!ltCps z.cps.toList x.cps.toList && risingS z zs) = true := h
    obtain ⟨h1, h2⟩ := Bool.and_eq_true_iff.mp h'
    rw [ltCps_eq, Bool.not_eq_true', decide_eq_false_iff_not] at h1
    obtain ⟨a1, a2⟩ := risingS_le h2
    have h0 : ¬ strLt z x := fun c => h1 (strLt_iff.mp c)
    refine ⟨fun y hy => ?_, List.pairwise_cons.mpr ⟨a1, a2⟩⟩
    rcases List.mem_cons.mp hy with rfl | hy
    · exact h0
    · intro c
      have b1 := a1 y hy
      rw [strLt_iff] at b1 c h0
      exact h0 (List.lt_of_le_of_lt (List.not_lt.mp b1) c)
theorem sortedS_le : ∀ {zs : List Str}, sortedS zs = true → zs.Pairwise (fun a b => ¬ strLt b a)
  | [], _ => List.Pairwise.nil
  | x :: zs, h => List.pairwise_cons.mpr (risingS_le h)
theorem str_total {a b : Str} (h1 : ¬ strLt a b) (h2 : ¬ strLt b a) : a = b := by
  rw [strLt_iff] at h1 h2
  exact str_ext (List.le_antisymm (List.not_lt.mp h2) (List.not_lt.mp h1))
theorem str_asymm {a b : Str} (h1 : strLt a b) : ¬ strLt b a := by
  rw [strLt_iff] at h1 ⊢
  exact List.lt_asymm h1
/-- sorted([*lot, x]) -/
theorem sort_add {N lot : List Str} {x : Str} (hN : N ∈ NMS) (hl : Can N lot) (hx : x ∈ N) (nx : x ∉ lot) (zs : List Str) (pm : zs.Perm (lot ++ [x])) (so : sortedS zs = true) : zs = addN N lot x := by
  have cg := can_good hN (can_addN N lot x)
  have nd : N.Nodup := nms_nodup N hN
  have pn : (lot ++ [x]).Perm (addN N lot x) := by
    have n1 : (lot ++ [x]).Nodup := by
      rw [List.nodup_append]
      refine ⟨by rw [hl]; exact nd.filter _, List.pairwise_singleton _ x, fun a ha b hb => ?_⟩
      rw [List.mem_singleton.mp hb]
      exact fun e => nx (by rw [← e]; exact ha)
    refine (List.perm_ext_iff_of_nodup n1 (nd.filter _)).mpr fun y => ?_
    rw [List.mem_append, List.mem_singleton]
    rw [List.mem_filter, decide_eq_true_eq]
    constructor
    · rintro (h | h)
      · exact ⟨hl.sub y h, .inl h⟩
      · exact ⟨by rw [h]; exact hx, .inr h⟩
    · exact fun h => h.2
  exact List.Perm.eq_of_pairwise (le := fun a b => ¬ strLt b a) (fun a b _ _ h1 h2 => str_total h2 h1) (sortedS_le so) (cg.up.imp fun h => str_asymm h) (pm.trans pn)
theorem cross_can {N : List Str} (hN : N ∈ NMS) {needs : List (List Str)} (h : ∀ a ∈ needs, Can N a) (i : Nat) : (crossL N (needs.take i)).Nodup ∧ ∀ S ∈ crossL N (needs.take i), Can N S := by
  rw [cross_take (nms_nodup N hN) h]
  exact ⟨nodup_rise (pw_leastOf _), fun S hS => (mem_subsets (nms_nodup N hN)).mp (List.mem_filter.mp (mem_leastOf.mp hS).1).1⟩
theorem cross_next {N : List Str} {needs : List (List Str)} {i : Nat} {n : List Str} (h : needs[i]? = some n) : crossL N (needs.take (i + 1)) = leastOf (lateX N n (crossL N (needs.take i))) := by
  unfold crossL
  rw [take_next h, List.foldl_append]
  rfl
theorem cross_len {N : List Str} (hN : N ∈ NMS) {needs : List (List Str)} (h : ∀ a ∈ needs, Can N a) (i : Nat) : (crossL N (needs.take i)).length ≤ 16 := by
  obtain ⟨a, b⟩ := cross_can hN h i
  exact Nat.le_trans (len_le_of a fun S hS => (mem_subsets (nms_nodup N hN)).mpr (b S hS)) (subs_len N hN)
section
variable {P : Program} {w : World} {K : PySem.W.Frag} {mg : Str → Option Value} {base : Heap} {f : Addr} {fd : FuncData}
theorem fn_crossings_by (T : TB mg) (G1 : Kn P w K mg base "joint_in" P_joint_in 1 sp_joint_in) (G2 : Kn P w K mg base "least_of" P_least_of 2 sp_least_of) (F : Fd K "crossings_by" s_crossings_by [] [] f fd) : FnOk P w K mg base CX0 3 f fd P_crossings_by sp_crossings_by := mk_ok F sc_crossings_by (pe_crossings_by T G1 G2) (fun _ _ _ => rfl) fun f O H x hp => by
  obtain ⟨N, needs⟩ := x
  obtain ⟨(hN : N ∈ NMS), (nl : needs.length ≤ 100), (nc : ∀ a ∈ needs, Can N a)⟩ := hp
  refine qb_setv (de_lst (ds := [eSet []]) (dw_cons (de_tup (ds := []) dw_nil (Nat.zero_le _) rfl) dw_nil) (by decide) rfl) ?_
  refine qb_for (vs := [2]) (xs := needs) (fun i S' => ∃ s2 s3 s4, S' = ⟨O, [], [.dat (eSets needs), .dat (eL eSet (crossL N (needs.take i))), s2, s3, s4, .no]⟩) ⟨.no, .no, .no, rfl⟩ (di_T (dv_var rfl)) (fun i S' m => by obtain ⟨_, _, _, rfl⟩ := m; rfl) ?_ ?_
  · rintro i n S' hn ⟨s2, s3, s4, rfl⟩
    have cn := nc n (List.mem_of_getElem? hn)
    have fn := can_few hN cn
    obtain ⟨nd, cc⟩ := cross_can hN nc i
    have ll := late_len hN cn nd cc
    have cl := cross_len hN nc i
    have step := cross_next (N := N) hn
    generalize crossL N (needs.take i) = C at nd cc ll cl step ⊢
    refine ⟨_, dg_name (by decide), qb_own fun p hp => ?_⟩
    refine qb_for (vs := [4]) (xs := C) (fun j S' => ∃ s4, S' = ⟨p :: O, [(p, .lst ((lateX N n (C.take j)).map eSet))], [.dat (eSets needs), .dat (eL eSet C), .dat (eSet n), .raw (.ref p), s4, .no]⟩) ⟨s4, rfl⟩ (di_L (dv_var rfl)) (fun j S' m => by obtain ⟨_, rfl⟩ := m; rfl) ?_ ?_
    · rintro j lot S' hj ⟨s5, rfl⟩
      have ml := List.mem_of_getElem? hj
      have clot := cc lot ml
      have flot := can_few hN clot
      have le1 : (lateX N n (C.take j)).length ≤ 20 := Nat.le_trans (flat_le (g := fun lot => if (joint n lot).isEmpty = false then [lot] else n.map fun x => addN N lot x) j) ll
      have nxt : lateX N n (C.take (j + 1)) = lateX N n (C.take j) ++ if (joint n lot).isEmpty = false then [lot] else n.map fun x => addN N lot x := flat_next hj
      refine ⟨_, dg_name (by decide), db_if (tv_test (dv_op (dv_cb (dw_cons (dv_call (n, lot) (dw_cons (dv_var rfl) (dw_cons (dv_var rfl) dw_nil)) ⟨fn, flot⟩) dw_nil) len_T) dv_int dr_i0b)) (fun c => ?_) fun c => ?_⟩
      · have c2 : (joint n lot).isEmpty = false := by
          have z : (0 : Int) < ((joint n lot).length : Int) := of_decide_eq_true c.symm
          cases e : joint n lot with
          | nil =>
            rw [e] at z
            exact absurd z (by decide)
          | cons _ _ => rfl
        refine db_append (Pd := (· = eSet lot)) rfl rfl ((dv_var (d := eSet lot) rfl).imp fun s e => ⟨_, e, rfl⟩) (by rw [List.length_map]; omega) fun d e => ⟨.dat (eSet lot), ?_⟩
        subst e
        rw [nxt, if_pos c2, List.map_append]
        rfl
      · have c2 : ¬ (joint n lot).isEmpty = false := by
          have z : ¬ (0 : Int) < ((joint n lot).length : Int) := of_decide_eq_false c.symm
          cases e : joint n lot with
          | nil => exact fun z => nomatch z
          | cons a b =>
            rw [e] at z
            exact absurd (by rw [List.length_cons]; omega) z
        have apart : ∀ x ∈ n, x ∉ lot := fun x hx hm => by
          have e : joint n lot ≠ [] := joint_ne.mpr ⟨x, hx, hm⟩
          cases q : joint n lot with
          | nil => exact e q
          | cons a b =>
            rw [q] at c2
            exact c2 rfl
        refine db_extend rfl rfl (lc_m (q := fun x => eSet (addN N lot x)) (di_T (dv_var rfl)) (few_le fn) (fun x hx => dg_name (by decide)) fun x hx => dv_cb (dw_cons (dv_cb (dw_cons (de_lst (ds := (lot ++ [x]).map eS) ((dw_starT (dv_var rfl) (dw_cons (dv_var rfl) dw_nil)).cast (by rw [List.map_append, List.map_append]; rfl)) ?_ rfl) dw_nil) (rc_sortS ?_ fun zs pm so => sort_add hN clot (cn.sub x hx) (apart x hx) zs pm so)) dw_nil) tup_L) ?_ ⟨.dat (eSet lot), ?_⟩
        · have := flot.1
          rw [List.length_map, List.length_append, List.length_singleton]
          omega
        · have := (can_facts hN clot).2.2
          rw [List.length_append, List.length_singleton]
          omega
        · have := fn.1
          rw [List.length_map, List.length_map]
          omega
        · rw [nxt, if_neg c2, List.map_append, List.map_map]
          rfl
    · rintro S' ⟨s5, rfl⟩
      rw [List.take_length]
      refine db_release (i := 3) rfl hp rfl rfl (fun _ h => h) (db_set (dv_cb (dw_cons (dv_call (lateX N n C) (dw_cons (dv_var rfl) dw_nil) ⟨by omega, fun s hs => can_few hN (late_can cc s hs)⟩) dw_nil) lst_T) fun s e => ⟨.dat (eSet n), .dat (eL eSet (lateX N n C)), s5, ?_⟩)
      subst e
      rw [step]
      rfl
  · rintro S' ⟨s2, s3, s4, rfl⟩
    rw [List.take_length]
    exact db_retv (dv_cb (dw_cons (dv_var rfl) dw_nil) tup_L) rfl
end
end K60

set_option maxHeartbeats 4000000
/-! K60: what the defs of kinds keep. -/
namespace K60
open PySem PySem.Spec PyProof.Rows L2
section
variable {f : Fe} {ρ : List Sl} {K : PySem.W.Frag} {te ta : TE} {tt uu : TT} {d : PyData} {b c : Bool}
theorem tv_yes (h : DE f te ρ (· = .dat (eB b))) (e : b = true) : DT f (tB te) ρ (· = true) := (tv_B h).cast e
theorem tf_not (h : DT f tt ρ (· = true)) : DT f (tNot tt) ρ (· = false) := (tv_not h).cast rfl
theorem tf_or (h1 : DT f tt ρ (· = false)) (h2 : DT f uu ρ (· = false)) : DT f (tOr tt uu) ρ (· = false) := (tv_or h1 fun _ => h2).cast rfl
theorem tf_test (h : DE f te ρ (· = .dat (eB b))) (e : b = false) : DT f (tTest te) ρ (· = false) := (tv_test h).cast e
theorem vt_and (h1 : DE f ta ρ (· = .dat (eB true))) (h2 : DE f te ρ (· = .dat (eB true))) : DE f (tAndV ta te) ρ (· = .dat (eB true)) := (vv_and h1 fun _ => h2).cast rfl
/-- isinstance of a value in a slot -/
theorem dv_isi {i : Nat} {n : String} (hi : ρ[i]? = some (.dat d)) (h : PySem.W.kitOne K (tyD d) (.type n) = some b) : DE f (tCB (rIsi K) (tCons (tVar i) (tCons (tC (.ty n)) tNil))) ρ (· = .dat (eB b)) := dv_cb (dw_cons (dv_var hi) (dw_cons dv_ty dw_nil)) (rc_isi h)
end
theorem names_any : ∀ x ∈ NAMES, x ≠ "any" := by decide +kernel
theorem names_size : ∀ x ∈ NAMES, 1 ≤ x.length ∧ x.length ≤ 8 := by decide +kernel
theorem names_signs : ∀ x ∈ NAMES, (x.cps.toList.all fun c => !(Builtin.Str.occurrences "abcdefghijklmnopqrstuvwxyz" ⟨#[c]⟩ 0 (Str.length "abcdefghijklmnopqrstuvwxyz") 1).isEmpty) = true := by decide +kernel
theorem ok_any : ok "any" := by
  unfold ok
  decide +kernel
theorem rise_strs {xs : List Str} (h : xs.Pairwise strLt) (hl : xs.length ≤ 100) : Rise (xs.map eS) := by
  refine ⟨by rw [List.length_map]; exact hl, fun d hd => by obtain ⟨x, _, rfl⟩ := List.mem_map.mp hd; rfl, fun i d e hd he => ?_⟩
  rw [List.getElem?_map] at hd he
  obtain ⟨x, hx, rfl⟩ := Option.map_eq_some_iff.mp hd
  obtain ⟨y, hy, rfl⟩ := Option.map_eq_some_iff.mp he
  refine ⟨by simp [PySem.W.alike], fun z => (nomatch z), Nat.zero_le _, ?_⟩
  obtain ⟨h1, rfl⟩ := List.getElem?_eq_some_iff.mp hx
  obtain ⟨h2, rfl⟩ := List.getElem?_eq_some_iff.mp hy
  exact List.pairwise_iff_getElem.mp h i (i + 1) h1 h2 (Nat.lt_succ_self _)
theorem rise_sets {L : List (List Str)} (h : L.Pairwise tupLt) (hl : L.length ≤ 100) : Rise (L.map eSet) := by
  refine ⟨by rw [List.length_map]; exact hl, fun d hd => by obtain ⟨x, _, rfl⟩ := List.mem_map.mp hd; exact noM_set x, fun i d e hd he => ?_⟩
  rw [List.getElem?_map] at hd he
  obtain ⟨x, hx, rfl⟩ := Option.map_eq_some_iff.mp hd
  obtain ⟨y, hy, rfl⟩ := Option.map_eq_some_iff.mp he
  refine ⟨alike_tups x y, fun z => (nomatch z), Nat.le_trans (depth_tup x) (by decide), ?_⟩
  obtain ⟨h1, rfl⟩ := List.getElem?_eq_some_iff.mp hx
  obtain ⟨h2, rfl⟩ := List.getElem?_eq_some_iff.mp hy
  exact List.pairwise_iff_getElem.mp h i (i + 1) h1 h2 (Nat.lt_succ_self _)
section
variable {P : Program} {w : World} {K : PySem.W.Frag} {mg : Str → Option Value} {base : Heap} {f : Addr} {fd : FuncData}
theorem fn_is_integer (T : TB mg) (F : Fd K "is_integer" s_is_integer [] [] f fd) : FnOk P w K mg base CX0 1 f fd P_is_integer sp_is_integer := mk_ok F sc_is_integer (pe_is_integer T) (fun _ _ _ => rfl) fun f O H d hp => by
  rcases hp with ⟨i, rfl⟩ | ⟨x, rfl⟩
  · exact db_retv (vv_and (b := true) (dv_isi (b := true) rfl rfl) fun _ => (vv_not (dv_isi (b := false) rfl rfl)).cast rfl) rfl
  · exact db_retv (vv_and (b := true) (dv_isi (b := false) rfl rfl) fun z => nomatch z) rfl
theorem fn_is_number (T : TB mg) (G1 : Kn P w K mg base "is_integer" P_is_integer 1 sp_is_integer) (F : Fd K "is_number" s_is_number [] [] f fd) : FnOk P w K mg base CX0 2 f fd P_is_number sp_is_number := mk_ok F sc_is_number (pe_is_number T G1) (fun _ _ _ => rfl) fun f O H i hp =>
  db_retv (vv_and (dv_call (.int i) (dw_cons (dv_var rfl) dw_nil) (.inl ⟨i, rfl⟩)) fun _ => dv_op (dv_var rfl) dv_int dr_i0b) rfl
theorem fn_is_index (T : TB mg) (G1 : Kn P w K mg base "is_number" P_is_number 2 sp_is_number) (F : Fd K "is_index" s_is_index [] [] f fd) : FnOk P w K mg base CX0 3 f fd P_is_index sp_is_index := mk_ok F sc_is_index (pe_is_index T G1) (fun _ _ _ => rfl) fun f O H x hp =>
  db_retv (vv_and (dv_call x.1 (dw_cons (dv_var rfl) dw_nil) trivial) fun _ => dv_op (dv_var rfl) (dv_var rfl) dr_i0b) rfl
theorem fn_is_among (T : TB mg) (F : Fd K "is_among" s_is_among [] [] f fd) : FnOk P w K mg base CX0 1 f fd P_is_among sp_is_among := mk_ok F sc_is_among (pe_is_among T) (fun _ _ _ => rfl) fun f O H x hp =>
  db_retv (vv_and (b := decide (x.1 ∈ x.2)) (dv_isi (b := true) rfl rfl) fun _ => dv_op (dv_var rfl) (dv_var rfl) (in_ST hp.1 hp.2)) rfl
theorem fn_is_name (T : TB mg) (F : Fd K "is_name" s_is_name [] [] f fd) : FnOk P w K mg base CX0 1 f fd P_is_name sp_is_name := mk_ok F sc_is_name (pe_is_name T) (fun _ _ _ => rfl) fun f O H x hp => by
  obtain ⟨h1, h2⟩ := names_size x hp
  have sg := names_signs x hp
  exact qb_no (tf_or (tf_not (tv_yes (dv_isi (b := true) rfl rfl) rfl)) (tf_test (dv_op (dv_var rfl) dv_str (eq_S (ok_names x hp) ok_any)) (decide_eq_false (names_any x hp))))
    (db_retv (vt_and ((dv_chain (u := .dat (.int 8)) (P := (· = .dat (eB (decide ((x.length : Int) ≤ 8))))) dv_int (dv_cb (dw_cons (dv_var rfl) dw_nil) (rc_lenS (by omega))) dr_i0b (fun _ => dv_int) (fun _ => dr_i0b) (fun z => absurd z (by simp; omega))).cast (by rw [decide_eq_true (by omega)]))
      ((dv_cb (dw_cons (lc_m (q := fun c => eB (!(Builtin.Str.occurrences "abcdefghijklmnopqrstuvwxyz" ⟨#[c]⟩ 0 (Str.length "abcdefghijklmnopqrstuvwxyz") 1).isEmpty)) (di_str (dv_var rfl)) (by rw [Array.length_toList]; exact Nat.le_trans h2 (by decide)) (fun c hc => dg_name (by decide)) fun c hc => dv_op (dv_var rfl) dv_str dr_strin) dw_nil) all_L).cast (by rw [sg]))) rfl)
theorem fn_is_tuple_of (T : TB mg) (F : Fd K "is_tuple_of" s_is_tuple_of [] [] f fd) : FnOk P w K mg base CX0 1 f fd P_is_tuple_of sp_is_tuple_of := mk_ok F sc_is_tuple_of (pe_is_tuple_of T) (fun _ _ _ => rfl) fun f O H x hp =>
  db_retv (vv_and (b := decide ((x.1.length : Int) = x.2)) (dv_isi (b := true) rfl rfl) fun _ => dv_op (dv_cb (dw_cons (dv_var rfl) dw_nil) rc_lenT) (dv_var rfl) eq_I) rfl
theorem zip_tail {ds : List PyData} {p : PyData × PyData} (h : p ∈ ds.zip ds.tail) : ∃ i, ds[i]? = some p.1 ∧ ds[i + 1]? = some p.2 := by
  obtain ⟨i, hi, e⟩ := List.getElem_of_mem h
  have z := List.getElem?_eq_getElem hi
  rw [e] at z
  obtain ⟨h1, h2⟩ := List.getElem?_zip_eq_some.mp z
  refine ⟨i, h1, ?_⟩
  rw [← List.drop_one, List.getElem?_drop] at h2
  rw [Nat.add_comm]
  exact h2
theorem fn_are_rising (T : TB mg) (F : Fd K "are_rising" s_are_rising [] [] f fd) : FnOk P w K mg base CX0 1 f fd P_are_rising sp_are_rising := mk_ok F sc_are_rising (pe_are_rising T) (fun _ _ _ => rfl) fun f O H x hp => by
  obtain ⟨ds, b⟩ := x
  obtain ⟨hl, hm, hr⟩ := hp
  dsimp only at hl hm hr
  have nm : isM ds.tail = false := isM_of fun d hd => hm d (List.mem_of_mem_tail hd)
  have lz : (ds.zip ds.tail).length ≤ 100000 := by
    rw [List.length_zip]
    have := Nat.min_le_left ds.length ds.tail.length
    omega
  have all : (ds.zip ds.tail).all (fun p => PySem.W.dataLt p.1 p.2) = true := List.all_eq_true.mpr fun p hp => by
    obtain ⟨i, h1, h2⟩ := zip_tail hp
    exact (hr i _ _ h1 h2).2.2.2
  have body : ∀ (ρ : List Sl), ρ.length = 3 → ∀ p ∈ ds.zip ds.tail, DE f (tOp (rLtD K) (tVar 1) (tVar 2)) (((wipeS ρ [1, 2]).set 1 (.dat p.1)).set 2 (.dat p.2)) (· = .dat (eB (PySem.W.dataLt p.1 p.2))) := fun ρ hρ p hp => by
    obtain ⟨i, h1, h2⟩ := zip_tail hp
    obtain ⟨a1, a2, a3, _⟩ := hr i _ _ h1 h2
    match ρ, hρ with
    | [_, _, _], _ => exact dv_op (dv_var rfl) (dv_var rfl) (dr_lt a1 a2 a3)
  cases b with
  | true =>
    exact db_retv ((dv_cb (dw_cons (lc_m (q := fun p => eB (PySem.W.dataLt p.1 p.2)) (di_zipT (dw_cons (dv_var rfl) (dw_cons (dv_tailQ (b := true) nm (dv_var rfl)) dw_nil))) lz (fun p hp => dg_tup (ds := [p.1, p.2]) (dgs_cons (dg_name (by decide)) (dgs_cons (dg_name (by decide)) dgs_nil))) fun p hp => body _ rfl p hp) dw_nil) all_L).cast (by rw [all])) rfl
  | false =>
    exact db_retv ((dv_cb (dw_cons (lc_m (q := fun p => eB (PySem.W.dataLt p.1 p.2)) (di_zipL (dw_cons (dv_var rfl) (dw_cons (dv_tailQ (b := false) nm (dv_var rfl)) dw_nil))) lz (fun p hp => dg_tup (ds := [p.1, p.2]) (dgs_cons (dg_name (by decide)) (dgs_cons (dg_name (by decide)) dgs_nil))) fun p hp => body _ rfl p hp) dw_nil) all_L).cast (by rw [all])) rfl
end
end K60

set_option maxHeartbeats 4000000
/-! K60: what the defs of faults keep. -/
namespace K60
open PySem PySem.Spec PyProof.Rows L2
section
variable {f : Fe} {ρ : List Sl} {K : PySem.W.Frag} {tA : TA} {α : Type} {g : α → PyData} {xs : List α}
theorem di_enumX (h : DA f tA ρ (· = [.dat (eT g xs)])) : DI f (iEnumT K tA) ρ (((List.range xs.length).zip xs).map fun p => .dat (.tuple [.int (p.1 : Int), g p.2])) := (di_enumT h).cast (by
  rw [List.length_map, List.zip_map_right, List.map_map]
  rfl)
end
theorem enum_get {α : Type} {xs : List α} {i : Nat} {p : Nat × α} (h : ((List.range xs.length).zip xs)[i]? = some p) : p.1 = i ∧ xs[i]? = some p.2 := by
  obtain ⟨h1, h2⟩ := List.getElem?_zip_eq_some.mp h
  have hl : i < xs.length := (List.getElem?_eq_some_iff.mp h2).1
  rw [List.getElem?_range hl] at h1
  exact ⟨(Option.some.inj h1).symm, h2⟩
theorem good_ok {xs : List Str} (h : Good xs) : ∀ x ∈ xs, ok x := fun x hx => ok_names x (h.nm x hx)
section
variable {P : Program} {w : World} {K : PySem.W.Frag} {mg : Str → Option Value} {base : Heap} {f : Addr} {fd : FuncData}
theorem fn_is_names (T : TB mg) (G1 : Kn P w K mg base "is_name" P_is_name 1 sp_is_name) (G2 : Kn P w K mg base "are_rising" P_are_rising 1 sp_are_rising) (F : Fd K "is_names" s_is_names [] [] f fd) : FnOk P w K mg base CX0 2 f fd P_is_names sp_is_names := mk_ok F sc_is_names (pe_is_names T G1 G2) (fun _ _ _ => rfl) fun f O H xs hp =>
  db_retv (vt_and (dv_isi (b := true) rfl rfl) (vt_and ((dv_cb (dw_cons (lc_m (q := fun _ => eB true) (di_T (dv_var rfl)) (Nat.le_trans hp.few (by decide)) (fun x hx => dg_name (by decide)) fun x hx => dv_call x (dw_cons (dv_var rfl) dw_nil) (hp.nm x hx)) dw_nil) all_L).cast (by simp)) (dv_call (xs.map eS, true) (dw_cons (dv_var rfl) dw_nil) (rise_strs hp.up hp.few)))) rfl
theorem fn_is_names_among (T : TB mg) (G1 : Kn P w K mg base "is_names" P_is_names 2 sp_is_names) (F : Fd K "is_names_among" s_is_names_among [] [] f fd) : FnOk P w K mg base CX0 3 f fd P_is_names_among sp_is_names_among := mk_ok F sc_is_names_among (pe_is_names_among T G1) (fun _ _ _ => rfl) fun f O H x hp => by
  obtain ⟨xs, ns, b⟩ := x
  obtain ⟨(h1 : Good xs), (h2 : ∀ x ∈ xs, x ∈ ns), (h3 : ∀ x ∈ ns, ok x)⟩ := hp
  have all : xs.all (fun x => decide (x ∈ ns)) = true := List.all_eq_true.mpr fun x hx => decide_eq_true (h2 x hx)
  cases b with
  | true => exact db_retv (vt_and (dv_call xs (dw_cons (dv_var rfl) dw_nil) h1) ((dv_cb (dw_cons (lc_m (q := fun x => eB (decide (x ∈ ns))) (di_T (dv_var rfl)) (Nat.le_trans h1.few (by decide)) (fun x hx => dg_name (by decide)) fun x hx => dv_op (dv_var rfl) (dv_var rfl) (in_ST (good_ok h1 x hx) h3)) dw_nil) all_L).cast (by rw [all]))) rfl
  | false => exact db_retv (vt_and (dv_call xs (dw_cons (dv_var rfl) dw_nil) h1) ((dv_cb (dw_cons (lc_m (q := fun x => eB (decide (x ∈ ns))) (di_T (dv_var rfl)) (Nat.le_trans h1.few (by decide)) (fun x hx => dg_name (by decide)) fun x hx => dv_op (dv_var rfl) (dv_var rfl) (in_SL (good_ok h1 x hx) h3)) dw_nil) all_L).cast (by rw [all]))) rfl
theorem fn_are_sets_among (T : TB mg) (G1 : Kn P w K mg base "is_names_among" P_is_names_among 3 sp_is_names_among) (G2 : Kn P w K mg base "are_rising" P_are_rising 1 sp_are_rising) (F : Fd K "are_sets_among" s_are_sets_among [] [] f fd) : FnOk P w K mg base CX0 4 f fd P_are_sets_among sp_are_sets_among := mk_ok F sc_are_sets_among (pe_are_sets_among T G1 G2) (fun _ _ _ => rfl) fun f O H x hp => by
  obtain ⟨L, ns⟩ := x
  obtain ⟨(h1 : L ≠ []), (h2 : L.length ≤ 100), (h3 : ∀ s ∈ L, Good s ∧ ∀ x ∈ s, x ∈ ns), (h4 : L.Pairwise tupLt), (h5 : ∀ x ∈ ns, ok x)⟩ := hp
  have n0 : ¬ (L.length : Int) = 0 := fun z => h1 (List.length_eq_zero_iff.mp (by omega))
  exact qb_no (tf_or (tf_not (tv_yes (dv_isi (b := true) rfl rfl) rfl)) (tf_test (dv_op (dv_cb (dw_cons (dv_var rfl) dw_nil) len_T) dv_int eq_I) (decide_eq_false n0)))
    (db_retv (vt_and ((dv_cb (dw_cons (lc_m (q := fun _ => eB true) (di_T (dv_var rfl)) (Nat.le_trans h2 (by decide)) (fun x hx => dg_name (by decide)) fun s hs => dv_call (s, ns, false) (dw_cons (dv_var rfl) (dw_cons (dv_var rfl) dw_nil)) ⟨(h3 s hs).1, (h3 s hs).2, h5⟩) dw_nil) all_L).cast (by simp)) (dv_call (L.map eSet, true) (dw_cons (dv_var rfl) dw_nil) (rise_sets h4 h2))) rfl)
theorem fn_are_indexes (T : TB mg) (G1 : Kn P w K mg base "is_tuple_of" P_is_tuple_of 1 sp_is_tuple_of) (G2 : Kn P w K mg base "is_index" P_is_index 3 sp_is_index) (F : Fd K "are_indexes" s_are_indexes [] [] f fd) : FnOk P w K mg base CX0 4 f fd P_are_indexes sp_are_indexes := mk_ok F sc_are_indexes (pe_are_indexes T G1 G2) (fun _ _ _ => rfl) fun f O H x hp => by
  obtain ⟨is, size, many⟩ := x
  obtain ⟨(h1 : is.length ≤ 100), (h2 : (is.length : Int) = size), (h3 : ∀ x ∈ is, 0 ≤ x ∧ x < many)⟩ := hp
  have all : is.all (fun i => decide (0 ≤ i) && decide (i < many)) = true := List.all_eq_true.mpr fun i hi => by
    rw [decide_eq_true (h3 i hi).1, decide_eq_true (h3 i hi).2]
    rfl
  exact db_retv (vt_and ((dv_call (is.map eI, size) (dw_cons (dv_var rfl) (dw_cons (dv_var rfl) dw_nil)) trivial).cast (by dsimp only; rw [List.length_map, decide_eq_true h2])) ((dv_cb (dw_cons (lc_m (q := fun i => eB (decide (0 ≤ i) && decide (i < many))) (di_T (dv_var rfl)) (Nat.le_trans h1 (by decide)) (fun x hx => dg_name (by decide)) fun i hi => dv_call (i, many) (dw_cons (dv_var rfl) (dw_cons (dv_var rfl) dw_nil)) trivial) dw_nil) all_L).cast (by rw [all]))) rfl
theorem fn_are_numbers (T : TB mg) (G1 : Kn P w K mg base "is_tuple_of" P_is_tuple_of 1 sp_is_tuple_of) (G2 : Kn P w K mg base "is_number" P_is_number 2 sp_is_number) (F : Fd K "are_numbers" s_are_numbers [] [] f fd) : FnOk P w K mg base CX0 3 f fd P_are_numbers sp_are_numbers := mk_ok F sc_are_numbers (pe_are_numbers T G1 G2) (fun _ _ _ => rfl) fun f O H x hp => by
  obtain ⟨is, size⟩ := x
  obtain ⟨(h1 : is.length ≤ 100), (h2 : (is.length : Int) = size), (h3 : ∀ x ∈ is, 0 ≤ x)⟩ := hp
  have all : is.all (fun i => decide (0 ≤ i)) = true := List.all_eq_true.mpr fun i hi => decide_eq_true (h3 i hi)
  exact db_retv (vt_and ((dv_call (is.map eI, size) (dw_cons (dv_var rfl) (dw_cons (dv_var rfl) dw_nil)) trivial).cast (by dsimp only; rw [List.length_map, decide_eq_true h2])) ((dv_cb (dw_cons (lc_m (q := fun i => eB (decide (0 ≤ i))) (di_T (dv_var rfl)) (Nat.le_trans h1 (by decide)) (fun x hx => dg_name (by decide)) fun i hi => dv_call i (dw_cons (dv_var rfl) dw_nil) trivial) dw_nil) all_L).cast (by rw [all]))) rfl
theorem fn_machine_fault (T : TB mg) (G1 : Kn P w K mg base "is_tuple_of" P_is_tuple_of 1 sp_is_tuple_of) (G2 : Kn P w K mg base "is_names" P_is_names 2 sp_is_names) (G3 : Kn P w K mg base "are_indexes" P_are_indexes 4 sp_are_indexes) (G4 : Kn P w K mg base "are_numbers" P_are_numbers 3 sp_are_numbers)
    (F : Fd K "machine_fault" s_machine_fault [] [] f fd) : FnOk P w K mg base CX0 5 f fd P_machine_fault sp_machine_fault := mk_ok F sc_machine_fault (pe_machine_fault T G1 G2 G3 G4) (fun _ _ _ => rfl) fun f O H m hp => by
  have l2 := hp.l2
  have k1 := hp.k1
  have n0 : ¬ (m.moves.length : Int) = 0 := fun z => hp.m1 (List.length_eq_zero_iff.mp (by omega))
  have al : ((m.answers.map eInts).length : Int) = (m.moves.length : Int) := by rw [List.length_map, hp.al]
  refine qb_no (tf_not (tv_yes (dv_call ([eSet m.letters, eSet m.looks, eT eInts m.moves, eT eInts m.answers], 4) (dw_cons (dv_var rfl) (dw_cons dv_int dw_nil)) trivial) rfl)) (qb_asg (vs := [1, 2, 3, 4]) (dv_var rfl) (dg_tup (ds := [eSet m.letters, eSet m.looks, eT eInts m.moves, eT eInts m.answers]) (dgs_cons (dg_name (by decide)) (dgs_cons (dg_name (by decide)) (dgs_cons (dg_name (by decide)) (dgs_cons (dg_name (by decide)) dgs_nil))))) ?_)
  refine qb_no (tf_or (tf_not (tv_yes (dv_call m.letters (dw_cons (dv_var rfl) dw_nil) hp.l) rfl)) (tf_test (dv_op (dv_cb (dw_cons (dv_var rfl) dw_nil) len_T) dv_int dr_i0b) (decide_eq_false (by omega)))) ?_
  refine qb_no (tf_or (tf_not (tv_yes (dv_call m.looks (dw_cons (dv_var rfl) dw_nil) hp.k) rfl)) (tf_test (dv_op (dv_cb (dw_cons (dv_var rfl) dw_nil) len_T) dv_int dr_i0b) (decide_eq_false (by omega)))) ?_
  refine qb_no (tf_or (tf_not (tv_yes (dv_isi (b := true) rfl rfl) rfl)) (tf_test (dv_op (dv_cb (dw_cons (dv_var rfl) dw_nil) len_T) dv_int eq_I) (decide_eq_false n0))) ?_
  refine qb_for (vs := [5, 6]) (xs := (List.range m.moves.length).zip m.moves) (fun i S' => ∃ s5 s6, S' = ⟨O, [], [.dat (eMach m), .dat (eSet m.letters), .dat (eSet m.looks), .dat (eT eInts m.moves), .dat (eT eInts m.answers), s5, s6, .no]⟩) ⟨.no, .no, rfl⟩ (di_enumX (dw_cons (dv_var rfl) dw_nil)) (fun i S' q => by obtain ⟨_, _, rfl⟩ := q; rfl) ?_ ?_
  · rintro i ⟨k, r⟩ S' hx ⟨s5, s6, rfl⟩
    obtain ⟨_, hr⟩ := enum_get hx
    obtain ⟨r1, r2⟩ := hp.mr r (List.mem_of_getElem? hr)
    have few := hp.l.few
    exact ⟨_, dg_tup (ds := [.int (k : Int), eInts r]) (dgs_cons (dg_name (by decide)) (dgs_cons (dg_name (by decide)) dgs_nil)), db_no (tf_not (tv_yes (dv_call (r, (m.letters.length : Int), (m.moves.length : Int)) (dw_cons (dv_var rfl) (dw_cons (dv_cb (dw_cons (dv_var rfl) dw_nil) len_T) (dw_cons (dv_cb (dw_cons (dv_var rfl) dw_nil) len_T) dw_nil))) ⟨by show r.length ≤ 100; omega, by show (r.length : Int) = _; rw [r1], r2⟩) rfl)) ⟨.dat (.int (k : Int)), .dat (eInts r), rfl⟩⟩
  rintro S' ⟨s5, s6, rfl⟩
  refine qb_no (tf_not (tv_yes (dv_call (m.answers.map eInts, (m.moves.length : Int)) (dw_cons (dv_var rfl) (dw_cons (dv_cb (dw_cons (dv_var rfl) dw_nil) len_T) dw_nil)) trivial) (decide_eq_true al))) ?_
  refine qb_for (vs := [5, 7]) (xs := (List.range m.answers.length).zip m.answers) (fun i S' => ∃ s5 s7, S' = ⟨O, [], [.dat (eMach m), .dat (eSet m.letters), .dat (eSet m.looks), .dat (eT eInts m.moves), .dat (eT eInts m.answers), s5, s6, s7]⟩) ⟨s5, .no, rfl⟩ (di_enumX (dw_cons (dv_var rfl) dw_nil)) (fun i S' q => by obtain ⟨_, _, rfl⟩ := q; rfl) ?_ ?_
  · rintro i ⟨k, r⟩ S' hx ⟨s5, s7, rfl⟩
    obtain ⟨_, hr⟩ := enum_get hx
    obtain ⟨r1, r2⟩ := hp.ar r (List.mem_of_getElem? hr)
    have few := hp.k.few
    exact ⟨_, dg_tup (ds := [.int (k : Int), eInts r]) (dgs_cons (dg_name (by decide)) (dgs_cons (dg_name (by decide)) dgs_nil)), db_no (tf_not (tv_yes (dv_call (r, (m.looks.length : Int)) (dw_cons (dv_var rfl) (dw_cons (dv_cb (dw_cons (dv_var rfl) dw_nil) len_T) dw_nil)) ⟨by show r.length ≤ 100; omega, by show (r.length : Int) = _; rw [r1], r2⟩) rfl)) ⟨.dat (.int (k : Int)), .dat (eInts r), rfl⟩⟩
  rintro S' ⟨s5, s7, rfl⟩
  exact db_retv dv_non rfl
theorem fn_is_triple_from (T : TB mg) (G1 : Kn P w K mg base "is_tuple_of" P_is_tuple_of 1 sp_is_tuple_of) (G2 : Kn P w K mg base "is_name" P_is_name 1 sp_is_name) (F : Fd K "is_triple_from" s_is_triple_from [] [] f fd) : FnOk P w K mg base CX0 2 f fd P_is_triple_from sp_is_triple_from := mk_ok F sc_is_triple_from (pe_is_triple_from T G1 G2) (fun _ _ _ => rfl) fun f O H r hp =>
  db_retv (vt_and ((dv_call ([.str r.1, eSets r.2.1, eSets r.2.2], 3) (dw_cons (dv_var rfl) (dw_cons dv_int dw_nil)) trivial).cast rfl) (dv_call r.1 (dw_cons (dv_ixT 0 (dv_var rfl) rfl) dw_nil) hp)) rfl
end
end K60

set_option maxHeartbeats 4000000
/-! K60: what the defs of faults keep: trusts, clocks, asks, books. -/
namespace K60
open PySem PySem.Spec PyProof.Rows L2
theorem names_up {N : List Str} {T : Tru} (t : TOk N T) {k : Nat} {r q : Row} (h1 : T[k]? = some r) (h2 : T[k + 1]? = some q) : strLt r.1 q.1 := by
  have up := (can_facts t.mem (can_self N)).2.1
  rw [← t.names] at up
  have e1 : (namesOf T)[k]? = some r.1 := by
    unfold namesOf
    rw [List.getElem?_map, h1]
    rfl
  have e2 : (namesOf T)[k + 1]? = some q.1 := by
    unfold namesOf
    rw [List.getElem?_map, h2]
    rfl
  obtain ⟨a1, a2⟩ := List.getElem?_eq_some_iff.mp e1
  obtain ⟨b1, b2⟩ := List.getElem?_eq_some_iff.mp e2
  have z := List.pairwise_iff_getElem.mp up k (k + 1) a1 b1 (Nat.lt_succ_self _)
  rw [a2, b2] at z
  exact z
theorem m0_ok : MOk M0 := ⟨⟨by decide +kernel, by decide +kernel, by decide +kernel⟩, by decide, ⟨by decide +kernel, by decide +kernel, by decide +kernel⟩, by decide, by decide, by decide, by decide +kernel, by decide, by decide +kernel⟩
theorem m1_ok : MOk M1 := ⟨⟨by decide +kernel, by decide +kernel, by decide +kernel⟩, by decide, ⟨by decide +kernel, by decide +kernel, by decide +kernel⟩, by decide, by decide, by decide, by decide +kernel, by decide, by decide +kernel⟩
theorem m2_ok : MOk M2 := ⟨⟨by decide +kernel, by decide +kernel, by decide +kernel⟩, by decide, ⟨by decide +kernel, by decide +kernel, by decide +kernel⟩, by decide, by decide, by decide, by decide +kernel, by decide, by decide +kernel⟩
theorem mach_ok : ∀ j, MOk (machOf j)
  | 0 => m0_ok
  | 1 => m1_ok
  | _ + 2 => m2_ok
/-- houses = [one[0] for one in trust] -/
theorem map_names (T : Tru) : eL (fun r : Row => eS r.1) T = eL eS (namesOf T) := by
  unfold namesOf eL
  rw [List.map_map]
  rfl
section
variable {P : Program} {w : World} {K : PySem.W.Frag} {mg : Str → Option Value} {base : Heap} {f : Addr} {fd : FuncData}
theorem fn_trust_fault (T : TB mg) (G1 : Kn P w K mg base "is_triple_from" P_is_triple_from 2 sp_is_triple_from) (G2 : Kn P w K mg base "are_sets_among" P_are_sets_among 4 sp_are_sets_among) (F : Fd K "trust_fault" s_trust_fault [] [] f fd) : FnOk P w K mg base CX0 5 f fd P_trust_fault sp_trust_fault := mk_ok F sc_trust_fault (pe_trust_fault T G1 G2) (fun _ _ _ => rfl) fun f O H tr hp => by
  obtain ⟨N, t⟩ := hp
  have tl := t.few
  have tn : 2 ≤ tr.length := by
    have h := (nms_len N t.mem).1
    rw [← t.names] at h
    unfold namesOf at h
    rwa [List.length_map] at h
  refine qb_no (tf_or (tf_not (tv_yes (dv_isi (b := true) rfl rfl) rfl)) (tf_test (dv_op (dv_cb (dw_cons (dv_var rfl) dw_nil) len_T) dv_int eq_I) (decide_eq_false (by omega)))) ?_
  refine qb_for (vs := [1, 2]) (xs := (List.range tr.length).zip tr) (fun i S' => ∃ s1 s2, S' = ⟨O, [], [.dat (eTru tr), s1, s2, .no, .no, .no, .no, .no]⟩) ⟨.no, .no, rfl⟩ (di_enumX (dw_cons (dv_var rfl) dw_nil)) (fun i S' q => by obtain ⟨_, _, rfl⟩ := q; rfl) ?_ ?_
  · rintro i ⟨k, r⟩ S' hx ⟨s1, s2, rfl⟩
    obtain ⟨ek, hr⟩ := enum_get hx
    dsimp only at ek hr
    subst ek
    have mr := List.mem_of_getElem? hr
    refine ⟨_, dg_tup (ds := [.int (k : Int), eRow r]) (dgs_cons (dg_name (by decide)) (dgs_cons (dg_name (by decide)) dgs_nil)), db_no (tf_or (tf_not (tv_yes (dv_call r (dw_cons (dv_var rfl) dw_nil) (nm_names t.mem (t.inN mr))) rfl)) ((tv_and (a := decide (0 < k)) (b := false) ((tv_test (dv_op (dv_var rfl) dv_int dr_i0b)).cast (by rw [decide_eq_decide]; omega)) fun c => ?_).cast (by simp))) ⟨.dat (.int (k : Int)), .dat (eRow r), rfl⟩⟩
    have k0 : 0 < k := of_decide_eq_true c
    obtain ⟨j, rfl⟩ : ∃ j, k = j + 1 := ⟨k - 1, by omega⟩
    have hj : j < tr.length := Nat.lt_trans (Nat.lt_succ_self _) (List.getElem?_eq_some_iff.mp hr).1
    have hq : tr[j]? = some tr[j] := List.getElem?_eq_getElem hj
    have lt := names_up t hq hr
    refine tf_test (dv_op (dv_ixT 0 (dv_var rfl) rfl) (dv_ixT 0 (dv_op (dv_var rfl) ((dv_op (dv_var rfl) dv_int dr_i0i).cast (v := .dat (.int (j : Int))) (by congr 2; omega)) (ix_T hq)) rfl) dr_strle) ?_
    rw [decide_eq_true (strLt_iff.mp lt)]
    rfl
  rintro S' ⟨s1, s2, rfl⟩
  refine qb_setv ((lc_m (q := fun r : Row => eS r.1) (di_T (dv_var rfl)) (Nat.le_trans tl (by decide)) (fun x hx => dg_name (by decide)) fun r hr => dv_ixT 0 (dv_var rfl) rfl).cast (congrArg Sl.dat (map_names tr))) ?_
  refine qb_for (vs := [1, 4, 5, 6]) (xs := (List.range tr.length).zip tr) (fun i S' => ∃ s1 s2 s4 s5 s6, S' = ⟨O, [], [.dat (eTru tr), s1, s2, .dat (eL eS (namesOf tr)), s4, s5, s6, .no]⟩) ⟨s1, s2, .no, .no, .no, rfl⟩ (di_enumX (dw_cons (dv_var rfl) dw_nil)) (fun i S' q => by obtain ⟨_, _, _, _, _, rfl⟩ := q; rfl) ?_ ?_
  · rintro i ⟨k, r⟩ S' hx ⟨s1, s2, s4, s5, s6, rfl⟩
    obtain ⟨_, hr⟩ := enum_get hx
    have mr : r ∈ tr := List.mem_of_getElem? hr
    obtain ⟨l1, l2, l3, l4⟩ := t.lots r mr
    obtain ⟨f1, f2, f3, f4⟩ := t.fears r mr
    have okN : ∀ x ∈ namesOf tr, ok x := fun x hx => nm_ok t.mem (by rw [← t.names]; exact hx)
    have inN : ∀ {s : List Str}, Can N s → ∀ x ∈ s, x ∈ namesOf tr := fun {s} c x hx => by
      rw [t.names]
      exact c.sub x hx
    have okr := t.okr mr
    refine ⟨_, dg_tup (ds := [.int (k : Int), eRow r]) (dgs_cons (dg_name (by decide)) (dgs_cons (dg_tup (ds := [.str r.1, eSets r.2.1, eSets r.2.2]) (dgs_cons (dg_name (by decide)) (dgs_cons (dg_name (by decide)) (dgs_cons (dg_name (by decide)) dgs_nil)))) dgs_nil)), ?_⟩
    refine qb_no (tf_or (tf_not (tv_yes (dv_call (r.2.1, namesOf tr) (dw_cons (dv_var rfl) (dw_cons (dv_var rfl) dw_nil)) ⟨l1, Nat.le_trans l2 (by decide), fun s hs => ⟨can_good t.mem (l3 s hs).1, inN (l3 s hs).1⟩, l4, okN⟩) rfl)) (tf_test (dv_op (de_tup (ds := []) dw_nil (Nat.zero_le _) rfl) (dv_var rfl) (in_setT (a := []) (fun z hz => nomatch hz) fun s hs => (can_few t.mem (l3 s hs).1).2)) (decide_eq_false fun m => (l3 _ m).2 rfl))) ?_
    exact db_no (tf_not (tv_yes (dv_call (r.2.2, (namesOf tr).filter fun x => !decide (x = r.1)) (dw_cons (dv_var rfl) (dw_cons (lc_fm (q := eS) (p := fun x => !decide (x = r.1)) (di_L (dv_var rfl)) (by rw [t.names]; have := nms_len N t.mem; omega) (fun x hx => dg_name (by decide)) (fun x hx => tv_test (dv_op (dv_var rfl) (dv_var rfl) (ne_S (okN x hx) okr))) fun x hx _ => dv_var rfl) dw_nil))
      ⟨f1, Nat.le_trans f2 (by decide), fun s hs => ⟨can_good t.mem (f3 s hs).1, fun x hx => List.mem_filter.mpr ⟨inN (f3 s hs).1 x hx, by simpa using fun e => (f3 s hs).2 (by rw [← e]; exact hx)⟩⟩, f4, fun x hx => okN x (List.mem_filter.mp hx).1⟩) rfl)) ⟨_, _, _, _, _, rfl⟩
  rintro S' ⟨s1, s2, s4, s5, s6, rfl⟩
  exact db_retv dv_non rfl
theorem fn_order_fault (T : TB mg) (F : Fd K "order_fault" s_order_fault [] [] f fd) : FnOk P w K mg base CX0 3 f fd P_order_fault sp_order_fault := mk_ok F sc_order_fault (pe_order_fault T) (fun _ _ _ => rfl) fun f O H d hp => by
  refine qb_no (tf_not (tv_yes (dv_isi (b := true) rfl rfl) rfl)) (qb_for (vs := [2, 3]) (xs := ([] : List (Nat × PyData))) (enc := fun p => .dat (.tuple [.int p.1, p.2])) (fun _ S' => S' = ⟨O, [], [.dat d, .dat (.tuple []), .no, .no]⟩) rfl (di_enumT (ds := []) (dw_cons (dv_var rfl) dw_nil)) (fun i S' e => by rw [e]) (fun i x S' hx => by simp at hx) fun S' e => ?_)
  subst e
  exact db_retv dv_non rfl
theorem fn_gaps_by (T : TB mg) (F : Fd K "gaps_by" s_gaps_by [] [] f fd) : FnOk P w K mg base CX0 1 f fd P_gaps_by sp_gaps_by := mk_ok F sc_gaps_by (pe_gaps_by T) (fun _ _ _ => rfl) fun f O H x hp => by
  refine db_ret (P := (· = .no)) (fun O σ H w e Q q => ?_) fun s e => e
  refine di_seqT (ds := []) (dv_var rfl) O σ H w e _ fun J H1 x1 wk => fun D hD => ?_
  have w1 := w.ext x1
  refine ⟨fun i m H' => i = 0 ∧ H' = upd H1 D (.dK []), ⟨0, rfl, rfl⟩, ?_⟩
  rintro i m H' ⟨rfl, rfl⟩
  have xD := w1.new (o := .dK []) hD
  exact .inl ⟨wk.stops _ (xD.o w1.fO), q _ _ .no (x1.trans xD) rfl trivial⟩
theorem fn_triangle_fault (T : TB mg) (G1 : Kn P w K mg base "gaps_by" P_gaps_by 1 sp_gaps_by) (F : Fd K "triangle_fault" s_triangle_fault [] [] f fd) : FnOk P w K mg base CX0 2 f fd P_triangle_fault sp_triangle_fault := mk_ok F sc_triangle_fault (pe_triangle_fault T G1) (fun _ _ _ => rfl) fun f O H x hp => by
  refine qb_set (P := (· = .no)) (de_call () (dw_cons (dv_var rfl) dw_nil) trivial fun s e => e) fun s e => ?_
  subst e
  have none : ∀ (i : Int) (ρ : List Sl), ρ[0]? = some (.dat (.tuple [])) → DE f (tLc (iSeq K (tVar 0)) (gName 3) tYes (tOp (rIx K) (tVar 3) (tC (.int i))) [3]) ρ (· = .dat (.list [])) := fun i ρ h0 => dv_lc0 (xs := ([] : List PyData)) (enc := Sl.dat) (ρ' := fun _ => []) (q := fun d => d) (di_seqT (ds := []) (dv_var h0)) (Nat.zero_le _) (fun x hx => nomatch hx) fun x hx => nomatch hx
  refine qb_setv (dv_sortSet (xs := []) (dw_cons (dv_op (none 0 _ rfl) (none 1 _ rfl) (dr_cat (Nat.zero_le _))) dw_nil) (by decide)) (qb_for (vs := [4]) (xs := ([] : List PyData)) (enc := Sl.dat) (fun _ S' => S' = ⟨O, [], [.dat (.tuple []), .no, .dat (.list []), .no, .no, .no, .no]⟩) rfl (di_seqL (ds := []) (dv_var rfl)) (fun i S' e => by rw [e]) (fun i x S' hx => by simp at hx) fun S' e => ?_)
  subst e
  exact db_retv dv_non rfl
theorem fn_clocks_fault (T : TB mg) (G1 : Kn P w K mg base "order_fault" P_order_fault 3 sp_order_fault) (G2 : Kn P w K mg base "triangle_fault" P_triangle_fault 2 sp_triangle_fault) (F : Fd K "clocks_fault" s_clocks_fault [] [] f fd) : FnOk P w K mg base CX0 4 f fd P_clocks_fault sp_clocks_fault := mk_ok F sc_clocks_fault (pe_clocks_fault T G1 G2) (fun _ _ _ => rfl) fun f O H d hp => by
  exact qb_setv (dv_call d (dw_cons (dv_var rfl) (dw_cons (dv_var rfl) dw_nil)) trivial) (qb_no (tf_test (dv_op (dv_var rfl) dv_non dr_notN) rfl) (qb_setv (dv_call () (dw_cons (dv_var rfl) dw_nil) trivial) (db_retv (de_if (tf_test (dv_op (dv_var rfl) dv_non dr_notN) rfl) (fun z => nomatch z) fun _ => dv_non) rfl)))
end
end K60

set_option maxHeartbeats 4000000
/-! K60: what the defs of asks, books and wants keep. -/
namespace K60
open PySem PySem.Spec PyProof.Rows L2
theorem ask_at {b : Book} {k : Nat} (h : k < b.asks.length) : b.asks[k]? = some (askAt b k) := by
  unfold askAt
  rw [List.getElem?_eq_getElem h]
  rfl
section
variable {P : Program} {w : World} {K : PySem.W.Frag} {mg : Str → Option Value} {base : Heap} {f : Addr} {fd : FuncData}
theorem fn_are_promises (T : TB mg) (G1 : Kn P w K mg base "is_name" P_is_name 1 sp_is_name) (G2 : Kn P w K mg base "is_integer" P_is_integer 1 sp_is_integer) (G3 : Kn P w K mg base "are_rising" P_are_rising 1 sp_are_rising) (F : Fd K "are_promises" s_are_promises [] [] f fd) : FnOk P w K mg base CX0 3 f fd P_are_promises sp_are_promises := mk_ok F sc_are_promises (pe_are_promises T G1 G2 G3) (fun _ _ _ => rfl) fun f O H x hp => by
  have none : ∀ {te : TE} (ρ : List Sl), ρ[0]? = some (.dat (.tuple [])) → DE f (tLc (iSeq K (tVar 0)) (gName 2) tYes te [2]) ρ (· = .dat (.list [])) := fun {te} ρ h0 => dv_lc0 (xs := ([] : List PyData)) (enc := Sl.dat) (ρ' := fun _ => []) (q := fun d => d) (di_seqT (ds := []) (dv_var h0)) (Nat.zero_le _) (fun x hx => nomatch hx) fun x hx => nomatch hx
  have al : DRC f (rAll K) [.dat (.list [])] (· = .dat (eB true)) := rc_all (bs := [])
  exact qb_no (tf_or (tf_not (tv_yes (dv_isi (b := true) rfl rfl) rfl)) (tf_not (tv_yes (dv_cb (dw_cons (none _ rfl) dw_nil) al) rfl))) (qb_no (tf_not (tv_yes (dv_cb (dw_cons (none _ rfl) dw_nil) al) rfl))
    (db_retv (vt_and (dv_call (([] : List PyData), false) (dw_cons (none _ rfl) dw_nil) ⟨by decide, fun d hd => (nomatch hd), fun i d e hd => by simp at hd⟩) ((vv_or (a := true) (b := true) ((dv_op (dv_cb (dw_cons (dv_var rfl) dw_nil) rc_lenT) dv_int eq_I).cast rfl) fun z => nomatch z).cast rfl)) rfl))
theorem fn_is_looking (T : TB mg) (G1 : Kn P w K mg base "is_tuple_of" P_is_tuple_of 1 sp_is_tuple_of) (G2 : Kn P w K mg base "is_name" P_is_name 1 sp_is_name) (G3 : Kn P w K mg base "is_names" P_is_names 2 sp_is_names) (G4 : Kn P w K mg base "is_integer" P_is_integer 1 sp_is_integer) (G5 : Kn P w K mg base "is_among" P_is_among 1 sp_is_among) (G6 : Kn P w K mg base "are_promises" P_are_promises 3 sp_are_promises)
    (F : Fd K "is_looking" s_is_looking [] [] f fd) : FnOk P w K mg base CX0 4 f fd P_is_looking sp_is_looking := mk_ok F sc_is_looking (pe_is_looking T G1 G2 G3 G4 G5 G6) (fun _ _ _ => rfl) fun f O H a hp => by
  have n0 : ¬ (a.looks.length : Int) = 0 := fun z => hp.k1 (List.length_eq_zero_iff.mp (by omega))
  refine qb_no (tf_or (tf_not (tv_yes (dv_call ([.str a.house, eSet a.looks, eSet a.lot, .str "any", .tuple []], 5) (dw_cons (dv_var rfl) (dw_cons dv_int dw_nil)) trivial) rfl)) (tf_or (tf_not (tv_yes (dv_call a.house (dw_cons (dv_ixT 0 (dv_var rfl) rfl) dw_nil) hp.h) rfl)) (tf_or (tf_not (tv_yes (dv_call a.looks (dw_cons (dv_ixT 1 (dv_var rfl) rfl) dw_nil) hp.k) rfl))
    (tf_test (dv_op (dv_cb (dw_cons (dv_ixT 1 (dv_var rfl) (d := eSet a.looks) rfl) dw_nil) len_T) dv_int eq_I) (decide_eq_false n0))))) ?_
  refine qb_no (tf_or (tf_not (tv_yes (dv_call a.lot (dw_cons (dv_ixT 2 (dv_var rfl) rfl) dw_nil) hp.l) rfl)) (tf_not ((tv_or (a := false) (b := true) (tv_B (dv_call (α := PyData) (PyData.str "any") (dw_cons (dv_ixT 3 (dv_var rfl) rfl) dw_nil) (Or.inr ⟨"any", rfl⟩))) fun _ => tv_yes (dv_call (α := Str × List Str) ("any", ["any"]) (dw_cons (dv_ixT 3 (dv_var rfl) rfl) (dw_cons (de_tup (ds := [.str "any"]) (dw_cons dv_str dw_nil) (by decide) rfl) dw_nil)) ⟨ok_any, fun x hx => by rw [List.mem_singleton.mp hx]; exact ok_any⟩) (decide_eq_true (List.mem_singleton.mpr rfl))).cast rfl))) ?_
  exact db_retv (dv_call () (dw_cons (dv_ixT 4 (dv_var rfl) rfl) (dw_cons (dv_ixT 3 (dv_var rfl) rfl) dw_nil)) trivial) rfl
theorem fn_is_looking_of (T : TB mg) (G1 : Kn P w K mg base "is_looking" P_is_looking 4 sp_is_looking) (G2 : Kn P w K mg base "is_names_among" P_is_names_among 3 sp_is_names_among) (F : Fd K "is_looking_of" s_is_looking_of [] [] f fd) : FnOk P w K mg base CX0 5 f fd P_is_looking_of sp_is_looking_of := mk_ok F sc_is_looking_of (pe_is_looking_of T G1 G2) (fun _ _ _ => rfl) fun f O H x hp => by
  obtain ⟨m, N, a⟩ := x
  obtain ⟨(hm : MOk m), (hN : ∀ x ∈ N, ok x), (ha : AOk m N a)⟩ := hp
  have fm := ha.form
  refine qb_no (tf_or (tf_not (tv_yes (dv_call a (dw_cons (dv_var rfl) dw_nil) fm) rfl)) (tf_not (tv_yes (dv_call (a.looks, m.looks, true) (dw_cons (dv_ixT 1 (dv_var rfl) rfl) (dw_cons (dv_ixT 1 (dv_var rfl) rfl) dw_nil)) ⟨fm.k, ha.km, good_ok hm.k⟩) rfl))) ?_
  have own : ∀ x ∈ a.house :: a.lot, x ∈ N := fun x hx => by
    rcases List.mem_cons.mp hx with e | hx
    · rw [e]
      exact ha.hN
    · exact ha.lN.sub x hx
  have okown : ∀ x ∈ a.house :: a.lot, ok x := fun x hx => hN x (own x hx)
  refine qb_setv (de_lst (ds := (a.house :: a.lot).map eS) ((dw_cons (dv_ixT 0 (dv_var rfl) rfl) (dw_starT (dv_ixT 2 (dv_var rfl) rfl) (dw_star (ds := []) (dv_lc0 (xs := ([] : List PyData)) (enc := Sl.dat) (ρ' := fun _ => []) (q := fun d => d) (di_seqT (ds := []) (dv_ixT 4 (dv_var rfl) rfl)) (Nat.zero_le _) (fun x hx => nomatch hx) fun x hx => nomatch hx) dw_nil))).cast (by rw [List.map_cons, List.map_cons, List.map_nil, List.append_nil, List.append_nil])) (by
    rw [List.length_map, List.length_cons]
    have := fm.l.few
    omega) rfl) ?_
  have all : (a.house :: a.lot).all (fun x => decide (x ∈ N)) = true := List.all_eq_true.mpr fun x hx => decide_eq_true (own x hx)
  exact db_retv ((dv_cb (dw_cons (lc_m (q := fun x => eB (decide (x ∈ N))) (di_L (xs := a.house :: a.lot) (g := eS) (dv_var rfl)) (by rw [List.length_cons]; have := fm.l.few; omega) (fun x hx => dg_name (by decide)) fun x hx => dv_op (dv_var rfl) (dv_var rfl) (in_SL (okown x hx) hN)) dw_nil) all_L).cast (by rw [all])) rfl
theorem fn_rules_fault (T : TB mg) (G1 : Kn P w K mg base "is_looking_of" P_is_looking_of 5 sp_is_looking_of) (F : Fd K "rules_fault" s_rules_fault [] [] f fd) : FnOk P w K mg base CX0 6 f fd P_rules_fault sp_rules_fault := mk_ok F sc_rules_fault (pe_rules_fault T G1) (fun _ _ _ => rfl) fun f O H x hp => by
  obtain ⟨m, N, asks⟩ := x
  obtain ⟨(hm : MOk m), (hN : ∀ x ∈ N, ok x), (hl : asks.length ≤ 100), (ha : ∀ a ∈ asks, AOk m N a)⟩ := hp
  refine qb_no (tf_not (tv_yes (dv_isi (b := true) rfl rfl) rfl)) ?_
  refine qb_for (vs := [4, 5]) (xs := (List.range asks.length).zip asks) (fun i S' => ∃ s4 s5, S' = ⟨O, [], [.dat (eMach m), .dat (eL eS N), .dat (eT eAsk asks), .dat (.tuple []), s4, s5]⟩) ⟨.no, .no, rfl⟩ (di_enumX (dw_cons (dv_var rfl) dw_nil)) (fun i S' q => by obtain ⟨_, _, rfl⟩ := q; rfl) ?_ ?_
  · rintro i ⟨k, a⟩ S' hx ⟨s4, s5, rfl⟩
    obtain ⟨_, hr⟩ := enum_get hx
    exact ⟨_, dg_tup (ds := [.int (k : Int), eAsk a]) (dgs_cons (dg_name (by decide)) (dgs_cons (dg_name (by decide)) dgs_nil)), db_no (tf_not (tv_yes (dv_call (m, N, a) (dw_cons (dv_var rfl) (dw_cons (dv_var rfl) (dw_cons (dv_var rfl) dw_nil))) ⟨hm, hN, ha a (List.mem_of_getElem? hr)⟩) rfl)) ⟨.dat (.int (k : Int)), .dat (eAsk a), rfl⟩⟩
  rintro S' ⟨s4, s5, rfl⟩
  refine qb_no (tf_not (tv_yes (dv_isi (b := true) rfl rfl) rfl)) (qb_for (vs := [4, 5]) (xs := ([] : List (Nat × PyData))) (enc := fun p => .dat (.tuple [.int p.1, p.2])) (fun _ S' => S' = ⟨O, [], [.dat (eMach m), .dat (eL eS N), .dat (eT eAsk asks), .dat (.tuple []), s4, s5]⟩) rfl (di_enumT (ds := []) (dw_cons (dv_var rfl) dw_nil)) (fun i S' e => by rw [e]) (fun i x S' hx => by simp at hx) fun S' e => ?_)
  subst e
  exact db_retv dv_non rfl
theorem fn_parts_fault (T : TB mg) (G1 : Kn P w K mg base "is_tuple_of" P_is_tuple_of 1 sp_is_tuple_of) (G2 : Kn P w K mg base "machine_fault" P_machine_fault 5 sp_machine_fault) (G3 : Kn P w K mg base "trust_fault" P_trust_fault 5 sp_trust_fault) (G4 : Kn P w K mg base "clocks_fault" P_clocks_fault 4 sp_clocks_fault) (G5 : Kn P w K mg base "rules_fault" P_rules_fault 6 sp_rules_fault)
    (F : Fd K "parts_fault" s_parts_fault [] [] f fd) : FnOk P w K mg base CX0 7 f fd P_parts_fault sp_parts_fault := mk_ok F sc_parts_fault (pe_parts_fault T G1 G2 G3 G4 G5) (fun _ _ _ => rfl) fun f O H b hp => by
  obtain ⟨N, hb⟩ := hp
  have t := hb.t
  have mo : MOk b.m := by
    obtain ⟨j, e⟩ := hb.j
    rw [e]
    exact mach_ok j
  refine qb_no (tf_not (tv_yes (dv_call ([eMach b.m, eTru b.T, .tuple [], eT eAsk b.asks, .tuple []], 5) (dw_cons (dv_var rfl) (dw_cons dv_int dw_nil)) trivial) rfl)) (qb_asg (vs := [1, 2, 3, 4, 5]) (dv_var rfl) (dg_tup (ds := [eMach b.m, eTru b.T, .tuple [], eT eAsk b.asks, .tuple []]) (dgs_cons (dg_name (by decide)) (dgs_cons (dg_name (by decide)) (dgs_cons (dg_name (by decide)) (dgs_cons (dg_name (by decide)) (dgs_cons (dg_name (by decide)) dgs_nil)))))) ?_)
  refine qb_setv (dv_call b.m (dw_cons (dv_var rfl) dw_nil) mo) (qb_no (tf_test (dv_op (dv_var rfl) dv_non dr_notN) rfl) ?_)
  refine qb_setv (dv_call b.T (dw_cons (dv_var rfl) dw_nil) ⟨N, t⟩) (qb_no (tf_test (dv_op (dv_var rfl) dv_non dr_notN) rfl) ?_)
  refine qb_setv ((lc_m (q := fun r : Row => eS r.1) (di_T (g := eRow) (xs := b.T) (dv_var rfl)) (Nat.le_trans t.few (by decide)) (fun x hx => dg_name (by decide)) fun r hr => dv_ixT 0 (dv_var rfl) rfl).cast (congrArg Sl.dat (map_names b.T))) ?_
  refine qb_setv (dv_call (eL eS (namesOf b.T)) (dw_cons (dv_var rfl) (dw_cons (dv_var rfl) dw_nil)) trivial) (qb_no (tf_test (dv_op (dv_var rfl) dv_non dr_notN) rfl) ?_)
  refine db_retv (dv_call (b.m, namesOf b.T, b.asks) (dw_cons (dv_var rfl) (dw_cons (dv_var rfl) (dw_cons (dv_var rfl) (dw_cons (dv_var rfl) dw_nil)))) ⟨mo, fun x hx => nm_ok t.mem (by rw [← t.names]; exact hx), hb.few, fun a ha => ?_⟩) rfl
  show AOk b.m (namesOf b.T) a
  rw [t.names]
  exact hb.a a ha
theorem fn_is_trust (T : TB mg) (G1 : Kn P w K mg base "trust_fault" P_trust_fault 5 sp_trust_fault) (F : Fd K "is_trust" s_is_trust [] [] f fd) : FnOk P w K mg base CX0 6 f fd P_is_trust sp_is_trust := mk_ok F sc_is_trust (pe_is_trust T G1) (fun _ _ _ => rfl) fun f O H x hp =>
  db_retv (dv_op (dv_call x (dw_cons (dv_var rfl) dw_nil) hp) dv_non dr_isN) rfl
theorem fn_is_book (T : TB mg) (G1 : Kn P w K mg base "parts_fault" P_parts_fault 7 sp_parts_fault) (F : Fd K "is_book" s_is_book [] [] f fd) : FnOk P w K mg base CX0 8 f fd P_is_book sp_is_book := mk_ok F sc_is_book (pe_is_book T G1) (fun _ _ _ => rfl) fun f O H x hp =>
  db_retv (dv_op (dv_call x (dw_cons (dv_var rfl) dw_nil) hp) dv_non dr_isN) rfl
theorem fn_is_house_of (T : TB mg) (G1 : Kn P w K mg base "houses_in" P_houses_in 1 sp_houses_in) (G2 : Kn P w K mg base "is_among" P_is_among 1 sp_is_among) (F : Fd K "is_house_of" s_is_house_of [] [] f fd) : FnOk P w K mg base CX0 2 f fd P_is_house_of sp_is_house_of := mk_ok F sc_is_house_of (pe_is_house_of T G1 G2) (fun _ _ _ => rfl) fun f O H x hp => by
  obtain ⟨tr, h⟩ := x
  obtain ⟨N, (t : TOk N tr), (hh : h ∈ N)⟩ := hp
  refine db_retv (dv_call (h, namesOf tr) (dw_cons (dv_var rfl) (dw_cons (dv_call tr (dw_cons (dv_var rfl) dw_nil) (Nat.le_trans t.few (by decide))) dw_nil)) ⟨nm_ok t.mem hh, fun x hx => nm_ok t.mem (by rw [← t.names]; exact hx)⟩) ?_
  show Sl.dat (eB (decide (h ∈ namesOf tr))) = Sl.dat (eB true)
  rw [decide_eq_true (by rw [t.names]; exact hh)]
theorem fn_are_houses_of (T : TB mg) (G1 : Kn P w K mg base "houses_in" P_houses_in 1 sp_houses_in) (G2 : Kn P w K mg base "is_names_among" P_is_names_among 3 sp_is_names_among) (F : Fd K "are_houses_of" s_are_houses_of [] [] f fd) : FnOk P w K mg base CX0 4 f fd P_are_houses_of sp_are_houses_of := mk_ok F sc_are_houses_of (pe_are_houses_of T G1 G2) (fun _ _ _ => rfl) fun f O H x hp => by
  obtain ⟨tr, S⟩ := x
  obtain ⟨N, (t : TOk N tr), (c : Can N S)⟩ := hp
  exact db_retv (dv_call (S, namesOf tr, true) (dw_cons (dv_var rfl) (dw_cons (dv_call tr (dw_cons (dv_var rfl) dw_nil) (Nat.le_trans t.few (by decide))) dw_nil)) ⟨can_good t.mem c, fun x hx => by show x ∈ namesOf tr; rw [t.names]; exact c.sub x hx, fun x hx => nm_ok t.mem (by rw [← t.names]; exact hx)⟩) rfl
end
end K60

set_option maxHeartbeats 4000000
/-! K60: what the defs of wants and needs keep. -/
namespace K60
open PySem PySem.Spec PyProof.Rows L2
theorem needs_le {N : List Str} {T : Tru} (t : TOk N T) {h : Str} (hh : h ∈ N) : (needsBy T h).length ≤ 48 :=
  Nat.le_trans (List.length_filter_le _ _) (Nat.le_trans (ssort_len _) (needs_len t hh))
theorem needs_ns {N : List Str} {T : Tru} (t : TOk N T) {h : Str} (hh : h ∈ N) : NSs (needsBy T h) := ⟨Nat.le_trans (needs_le t hh) (by decide), fun s hs => can_few t.mem (can_needs t hh s hs)⟩
/-- the lots that meet the needs -/
theorem lots_law {N : List Str} {T : Tru} (t : TOk N T) {h : Str} (hh : h ∈ N) : lotsMet T h = lawLeast (needsBy T h) N := by
  unfold lotsMet
  rw [t.names]
  exact cross_eq t.nodup (can_needs t hh)
theorem lots_can {N : List Str} {T : Tru} (t : TOk N T) {h : Str} (hh : h ∈ N) : (lotsMet T h).length ≤ 16 ∧ ∀ S ∈ lotsMet T h, Can N S := by
  have a := cross_len t.mem (can_needs t hh) (needsBy T h).length
  have b := (cross_can t.mem (can_needs t hh) (needsBy T h).length).2
  rw [List.take_length] at a b
  unfold lotsMet
  rw [t.names]
  exact ⟨a, b⟩
theorem one_def (x : Str) : ∀ H, RpL H [V.str x] [PyData.str x] := fun H => .cons (.str x) .nil
theorem one_defI (i : Int) : ∀ H, RpL H [V.int i] [PyData.int i] := fun H => .cons (.int i) .nil
theorem min_nat : ∀ {l : List Nat}, l ≠ [] → ∃ m ∈ l, ∀ y ∈ l, m ≤ y
  | [x], _ => ⟨x, List.mem_singleton.mpr rfl, fun y hy => by rw [List.mem_singleton.mp hy]; exact Nat.le_refl _⟩
  | x :: y :: l, _ => by
    obtain ⟨m, h1, h2⟩ := min_nat (l := y :: l) (fun z => nomatch z)
    rcases Nat.le_total x m with c | c
    · refine ⟨x, List.mem_cons_self .., fun z hz => ?_⟩
      rcases List.mem_cons.mp hz with e | hz
      · omega
      · exact Nat.le_trans c (h2 z hz)
    · refine ⟨m, List.mem_cons_of_mem _ h1, fun z hz => ?_⟩
      rcases List.mem_cons.mp hz with e | hz
      · omega
      · exact h2 z hz
theorem few_min {L : List (List Str)} {m : Nat} (h1 : m ∈ L.map List.length) (h2 : ∀ y ∈ L.map List.length, m ≤ y) : (L.filter fun a => decide ((a.length : Int) = (m : Int)))[0]? = fewOf L := by
  rw [← List.head?_eq_getElem?, List.head?_filter]
  unfold fewOf
  have e : ∀ a ∈ L, decide ((a.length : Int) = (m : Int)) = L.all fun b => decide (a.length ≤ b.length) := fun a ha => by
    rw [Bool.eq_iff_iff, decide_eq_true_eq, List.all_eq_true]
    constructor
    · intro c b hb
      have := h2 _ (List.mem_map.mpr ⟨b, hb, rfl⟩)
      rw [decide_eq_true_eq]
      omega
    · intro c
      obtain ⟨b, hb, rfl⟩ := List.mem_map.mp h1
      have z := of_decide_eq_true (c b hb)
      have := h2 _ (List.mem_map.mpr ⟨a, ha, rfl⟩)
      omega
  have gen : ∀ l : List (List Str), (∀ a ∈ l, a ∈ L) → l.find? (fun a => decide ((a.length : Int) = (m : Int))) = l.find? fun a => L.all fun b => decide (a.length ≤ b.length) := by
    intro l
    induction l with
    | nil => exact fun _ => rfl
    | cons a l ih =>
      intro h
      rw [List.find?_cons, List.find?_cons, e a (h a (List.mem_cons_self ..)), ih fun b hb => h b (List.mem_cons_of_mem _ hb)]
  exact gen L fun _ h => h
theorem few_some {L : List (List Str)} (h : L ≠ []) : ∃ a ∈ L, fewOf L = some a ∧ ∃ m : Nat, m ∈ L.map List.length ∧ (∀ y ∈ L.map List.length, m ≤ y) ∧ a.length = m := by
  obtain ⟨m, h1, h2⟩ := min_nat (l := L.map List.length) (by simpa using h)
  have z := few_min h1 h2
  obtain ⟨b, hb, eb⟩ := List.mem_map.mp h1
  cases q : L.filter fun a => decide ((a.length : Int) = (m : Int)) with
  | nil =>
    exfalso
    have mb : b ∈ L.filter fun a => decide ((a.length : Int) = (m : Int)) := List.mem_filter.mpr ⟨hb, by rw [eb]; simp⟩
    rw [q] at mb
    cases mb
  | cons a l =>
    rw [q] at z
    have ma : a ∈ L.filter fun a => decide ((a.length : Int) = (m : Int)) := by
      rw [q]
      exact List.mem_cons_self ..
    obtain ⟨a1, a2⟩ := List.mem_filter.mp ma
    exact ⟨a, a1, z.symm, m, h1, h2, by have := of_decide_eq_true a2; omega⟩
section
variable {P : Program} {w : World} {K : PySem.W.Frag} {mg : Str → Option Value} {base : Heap} {f : Addr} {fd : FuncData} {dvs : List V} {kws : List (Str × V)}
theorem fn_want (T : TB mg) (F : Fd K "want" s_want dvs kws f fd) : FnOk P w K mg base CX0 1 f fd P_want sp_want := mk_ok F sc_want (pe_want T) (fun _ _ _ => rfl) fun f O H x hp => db_no (tf_not (tv_yes (b := true) (dv_var rfl) rfl)) rfl
theorem fn_want_book (T : TB mg) (G1 : Kn P w K mg base "is_book" P_is_book 8 sp_is_book) (D : KnD P w K mg base "want" P_want 1 sp_want [.int (-1)]) (F : Fd K "want_book" s_want_book dvs kws f fd) : FnOk P w K mg base CX0 9 f fd P_want_book sp_want_book := mk_ok F sc_want_book (pe_want_book T G1 D) (fun _ _ _ => rfl) fun f O H x hp =>
  db_drop (dv_callD (x.2, (-1 : Int)) (dw_cons (dv_call x.1 (dw_cons (dv_var rfl) dw_nil) hp) (dw_cons (dv_var rfl) dw_nil)) (one_defI (-1)) rfl trivial) rfl
theorem fn_want_age (T : TB mg) (G1 : Kn P w K mg base "is_number" P_is_number 2 sp_is_number) (D : KnD P w K mg base "want" P_want 1 sp_want [.int (-1)]) (F : Fd K "want_age" s_want_age dvs kws f fd) : FnOk P w K mg base CX0 3 f fd P_want_age sp_want_age := mk_ok F sc_want_age (pe_want_age T G1 D) (fun _ _ _ => rfl) fun f O H x hp => by
  have or1 : DE f (tOrV (tOp (rEqD K) (tVar 1) (tC (.int 0))) (tOp (rEqD K) (tCB (rLenX K) (tCons (tOp (rIx K) (tVar 0) (tC (.int 4))) tNil)) (tC (.int 0)))) [.dat (eBook x), .dat (.int 0)] (· = .dat (eB true)) := (vv_or (a := true) (b := true) ((dv_op (dv_var rfl) dv_int eq_I).cast rfl) fun z => nomatch z).cast rfl
  have nu : DE f (tCall sp_is_number [] E0 (tCons (tVar 1) tNil)) [.dat (eBook x), .dat (.int 0)] (· = .dat (eB true)) := (dv_call (0 : Int) (dw_cons (dv_var rfl) dw_nil) trivial).cast rfl
  exact db_drop (dv_callD (("age" : Str), (-1 : Int)) (dw_cons (vt_and nu or1) (dw_cons dv_str dw_nil)) (one_defI (-1)) rfl trivial) rfl
theorem fn_want_trust (T : TB mg) (G1 : Kn P w K mg base "is_trust" P_is_trust 6 sp_is_trust) (D : KnD P w K mg base "want" P_want 1 sp_want [.int (-1)]) (F : Fd K "want_trust" s_want_trust dvs kws f fd) : FnOk P w K mg base CX0 7 f fd P_want_trust sp_want_trust := mk_ok F sc_want_trust (pe_want_trust T G1 D) (fun _ _ _ => rfl) fun f O H x hp =>
  db_drop (dv_callD (x.2, (-1 : Int)) (dw_cons (dv_call x.1 (dw_cons (dv_var rfl) dw_nil) hp) (dw_cons (dv_var rfl) dw_nil)) (one_defI (-1)) rfl trivial) rfl
theorem fn_want_house (T : TB mg) (G1 : Kn P w K mg base "is_house_of" P_is_house_of 2 sp_is_house_of) (D : KnD P w K mg base "want" P_want 1 sp_want [.int (-1)]) (F : Fd K "want_house" s_want_house dvs kws f fd) : FnOk P w K mg base CX0 3 f fd P_want_house sp_want_house := mk_ok F sc_want_house (pe_want_house T G1 D) (fun _ _ _ => rfl) fun f O H x hp =>
  db_drop (dv_callD (x.2.2, (-1 : Int)) (dw_cons (dv_call (x.1, x.2.1) (dw_cons (dv_var rfl) (dw_cons (dv_var rfl) dw_nil)) hp) (dw_cons (dv_var rfl) dw_nil)) (one_defI (-1)) rfl trivial) rfl
theorem fn_want_lot (T : TB mg) (G1 : Kn P w K mg base "are_houses_of" P_are_houses_of 4 sp_are_houses_of) (D : KnD P w K mg base "want" P_want 1 sp_want [.int (-1)]) (F : Fd K "want_lot" s_want_lot dvs kws f fd) : FnOk P w K mg base CX0 5 f fd P_want_lot sp_want_lot := mk_ok F sc_want_lot (pe_want_lot T G1 D) (fun _ _ _ => rfl) fun f O H x hp =>
  db_drop (dv_callD (x.2.2, (-1 : Int)) (dw_cons (dv_call (x.1, x.2.1) (dw_cons (dv_var rfl) (dw_cons (dv_var rfl) dw_nil)) hp) (dw_cons (dv_var rfl) dw_nil)) (one_defI (-1)) rfl trivial) rfl
variable (T : TB mg) (D1 : KnD P w K mg base "want_trust" P_want_trust 7 sp_want_trust [.str "trust"]) (D2 : KnD P w K mg base "want_house" P_want_house 3 sp_want_house [.str "house"]) (D3 : KnD P w K mg base "want_lot" P_want_lot 5 sp_want_lot [.str "lot"]) (G1 : Kn P w K mg base "needs_by" P_needs_by 4 sp_needs_by)
include T D1 D2 D3 G1
theorem fn_needs_of (F : Fd K "needs_of" s_needs_of dvs kws f fd) : FnOk P w K mg base CX0 8 f fd P_needs_of sp_needs_of := mk_ok F sc_needs_of (pe_needs_of T D1 D2 G1) (fun _ _ _ => rfl) fun f O H x hp => by
  obtain ⟨tr, h⟩ := x
  obtain ⟨N, (t : TOk N tr), (hh : h ∈ N)⟩ := hp
  exact qb_drop (dv_callD (tr, ("trust" : Str)) (dw_cons (dv_var rfl) dw_nil) (one_def "trust") rfl ⟨N, t⟩) (qb_drop (dv_callD (tr, h, ("house" : Str)) (dw_cons (dv_var rfl) (dw_cons (dv_var rfl) dw_nil)) (one_def "house") rfl ⟨N, t, hh⟩)
    (db_retv (dv_call (tr, h) (dw_cons (dv_var rfl) (dw_cons (dv_var rfl) dw_nil)) ⟨N, t, hh⟩) rfl))
theorem fn_meets_needs (G2 : Kn P w K mg base "is_met" P_is_met 3 sp_is_met) (F : Fd K "meets_needs" s_meets_needs dvs kws f fd) : FnOk P w K mg base CX0 8 f fd P_meets_needs sp_meets_needs := mk_ok F sc_meets_needs (pe_meets_needs T D1 D2 D3 G1 G2) (fun _ _ _ => rfl) fun f O H x hp => by
  obtain ⟨tr, h, S⟩ := x
  obtain ⟨N, (t : TOk N tr), (hh : h ∈ N), (c : Can N S)⟩ := hp
  exact qb_drop (dv_callD (tr, ("trust" : Str)) (dw_cons (dv_var rfl) dw_nil) (one_def "trust") rfl ⟨N, t⟩) (qb_drop (dv_callD (tr, h, ("house" : Str)) (dw_cons (dv_var rfl) (dw_cons (dv_var rfl) dw_nil)) (one_def "house") rfl ⟨N, t, hh⟩) (qb_drop (dv_callD (tr, S, ("lot" : Str)) (dw_cons (dv_var rfl) (dw_cons (dv_var rfl) dw_nil)) (one_def "lot") rfl ⟨N, t, c⟩)
    (db_retv (dv_call (needsBy tr h, S) (dw_cons (dv_call (tr, h) (dw_cons (dv_var rfl) (dw_cons (dv_var rfl) dw_nil)) ⟨N, t, hh⟩) (dw_cons (dv_var rfl) dw_nil)) ⟨needs_ns t hh, can_few t.mem c⟩) rfl)))
theorem fn_first_missed (G2 : Kn P w K mg base "first_missed_by" P_first_missed_by 2 sp_first_missed_by) (F : Fd K "first_missed" s_first_missed dvs kws f fd) : FnOk P w K mg base CX0 8 f fd P_first_missed sp_first_missed := mk_ok F sc_first_missed (pe_first_missed T D1 D2 D3 G1 G2) (fun _ _ _ => rfl) fun f O H x hp => by
  obtain ⟨tr, h, S⟩ := x
  obtain ⟨N, (t : TOk N tr), (hh : h ∈ N), (c : Can N S)⟩ := hp
  exact qb_drop (dv_callD (tr, ("trust" : Str)) (dw_cons (dv_var rfl) dw_nil) (one_def "trust") rfl ⟨N, t⟩) (qb_drop (dv_callD (tr, h, ("house" : Str)) (dw_cons (dv_var rfl) (dw_cons (dv_var rfl) dw_nil)) (one_def "house") rfl ⟨N, t, hh⟩) (qb_drop (dv_callD (tr, S, ("lot" : Str)) (dw_cons (dv_var rfl) (dw_cons (dv_var rfl) dw_nil)) (one_def "lot") rfl ⟨N, t, c⟩)
    (db_retv (dv_call (needsBy tr h, S) (dw_cons (dv_call (tr, h) (dw_cons (dv_var rfl) (dw_cons (dv_var rfl) dw_nil)) ⟨N, t, hh⟩) (dw_cons (dv_var rfl) dw_nil)) ⟨needs_ns t hh, can_few t.mem c⟩) rfl)))
theorem fn_least_lots (G2 : Kn P w K mg base "crossings_by" P_crossings_by 3 sp_crossings_by) (F : Fd K "least_lots" s_least_lots dvs kws f fd) : FnOk P w K mg base CX0 8 f fd P_least_lots sp_least_lots := mk_ok F sc_least_lots (pe_least_lots T D1 D2 G1 G2) (fun _ _ _ => rfl) fun f O H x hp => by
  obtain ⟨tr, h⟩ := x
  obtain ⟨N, (t : TOk N tr), (hh : h ∈ N)⟩ := hp
  exact qb_drop (dv_callD (tr, ("trust" : Str)) (dw_cons (dv_var rfl) dw_nil) (one_def "trust") rfl ⟨N, t⟩) (qb_drop (dv_callD (tr, h, ("house" : Str)) (dw_cons (dv_var rfl) (dw_cons (dv_var rfl) dw_nil)) (one_def "house") rfl ⟨N, t, hh⟩)
    (db_retv (dv_call (namesOf tr, needsBy tr h) (dw_cons (dv_call (tr, h) (dw_cons (dv_var rfl) (dw_cons (dv_var rfl) dw_nil)) ⟨N, t, hh⟩) dw_nil) ⟨by rw [t.names]; exact t.mem, Nat.le_trans (needs_le t hh) (by decide), by rw [t.names]; exact can_needs t hh⟩) rfl))
theorem fn_safe_houses (G2 : Kn P w K mg base "want_lot" P_want_lot 5 sp_want_lot) (G3 : Kn P w K mg base "safe_by" P_safe_by 3 sp_safe_by) (F : Fd K "safe_houses" s_safe_houses dvs kws f fd) : FnOk P w K mg base CX0 8 f fd P_safe_houses sp_safe_houses := mk_ok F sc_safe_houses (pe_safe_houses T D1 G2 G3) (fun _ _ _ => rfl) fun f O H x hp => by
  obtain ⟨tr, S⟩ := x
  obtain ⟨N, (t : TOk N tr), (c : Can N S)⟩ := hp
  exact qb_drop (dv_callD (tr, ("trust" : Str)) (dw_cons (dv_var rfl) dw_nil) (one_def "trust") rfl ⟨N, t⟩) (qb_drop (dv_call (tr, S, ("fall" : Str)) (dw_cons (dv_var rfl) (dw_cons (dv_var rfl) (dw_cons dv_str dw_nil))) ⟨N, t, c⟩)
    (db_retv (dv_call (tr, S) (dw_cons (dv_var rfl) (dw_cons (dv_var rfl) dw_nil)) ⟨⟨N, t⟩, can_few t.mem c⟩) rfl))
theorem fn_fewest_lot (G2 : Kn P w K mg base "crossings_by" P_crossings_by 3 sp_crossings_by) (F : Fd K "fewest_lot" s_fewest_lot dvs kws f fd) : FnOk P w K mg base CX0 8 f fd P_fewest_lot sp_fewest_lot := mk_ok F sc_fewest_lot (pe_fewest_lot T D1 D2 G1 G2) (fun _ _ _ => rfl) fun f O H x hp => by
  obtain ⟨tr, h⟩ := x
  obtain ⟨N, (t : TOk N tr), (hh : h ∈ N)⟩ := hp
  refine qb_drop (dv_callD (tr, ("trust" : Str)) (dw_cons (dv_var rfl) dw_nil) (one_def "trust") rfl ⟨N, t⟩) (qb_drop (dv_callD (tr, h, ("house" : Str)) (dw_cons (dv_var rfl) (dw_cons (dv_var rfl) dw_nil)) (one_def "house") rfl ⟨N, t, hh⟩) ?_)
  refine qb_setv ((dv_call (namesOf tr, needsBy tr h) (dw_cons (dv_call (tr, h) (dw_cons (dv_var rfl) (dw_cons (dv_var rfl) dw_nil)) ⟨N, t, hh⟩) dw_nil) ⟨by rw [t.names]; exact t.mem, Nat.le_trans (needs_le t hh) (by decide), by rw [t.names]; exact can_needs t hh⟩).cast (v := .dat (eSets (lotsMet tr h))) rfl) ?_
  obtain ⟨ll, lc⟩ := lots_can t hh
  show DB f O H _ _ _ fun s => s = .dat (eOpt eSet (fewOf (lotsMet tr h)))
  generalize lotsMet tr h = L at ll lc ⊢
  have l5 : L.length ≤ 100000 := Nat.le_trans ll (by decide)
  refine qb_if (tv_test (dv_op (dv_cb (dw_cons (dv_var rfl) dw_nil) len_T) dv_int eq_I)) (fun c => ?_) fun c => ?_
  · have e : L = [] := by
      have z : (L.length : Int) = 0 := of_decide_eq_true c.symm
      exact List.length_eq_zero_iff.mp (by omega)
    subst e
    exact db_seq (M := fun _ => False) (db_retv dv_non rfl) fun _ z => z.elim
  · have ne : L ≠ [] := fun e => by
      subst e
      simp at c
    obtain ⟨a, ma, ea, m, h1, h2, _⟩ := few_some ne
    refine db_seq (M := (· = _)) (db_next rfl) fun S' e => ?_
    subst e
    have lens : (L.map fun a => eI (a.length : Int)) = (L.map fun a => (a.length : Int)).map PyData.int := by
      rw [List.map_map]
      rfl
    refine qb_setv (dv_cb (dw_cons ((lc_m (q := fun a => eI (a.length : Int)) (di_T (dv_var rfl)) l5 (fun x hx => dg_name (by decide)) fun a ha => dv_cb (dw_cons (dv_var rfl) dw_nil) len_T).cast (congrArg (fun l => Sl.dat (.list l)) lens)) dw_nil) (rc_min (m := (m : Int)) ?_ ?_)) ?_
    · obtain ⟨b, hb, rfl⟩ := List.mem_map.mp h1
      exact List.mem_map.mpr ⟨b, hb, rfl⟩
    · intro y hy
      obtain ⟨b, hb, rfl⟩ := List.mem_map.mp hy
      have := h2 _ (List.mem_map.mpr ⟨b, hb, rfl⟩)
      omega
    · have fm := few_min h1 h2
      rw [ea] at fm
      rw [ea]
      exact db_retv (dv_op (lc_fm (q := eSet) (p := fun a => decide ((a.length : Int) = (m : Int))) (di_T (dv_var rfl)) l5 (fun x hx => dg_name (by decide)) (fun a ha => tv_test (dv_op (dv_cb (dw_cons (dv_var rfl) dw_nil) len_T) (dv_var rfl) eq_I)) fun a ha _ => dv_var rfl) (dv_int (i := ((0 : Nat) : Int))) (ix_L fm)) rfl
end
end K60

set_option maxHeartbeats 4000000
/-! K60: what the defs of rules keep. -/
namespace K60
open PySem PySem.Spec PyProof.Rows L2
theorem bk_ask {N : List Str} {b : Book} (hb : BOk N b) {k : Nat} (h : k < b.asks.length) : AOk b.m N (askAt b k) := hb.a _ (List.mem_of_getElem? (ask_at h))
section
variable {P : Program} {w : World} {K : PySem.W.Frag} {mg : Str → Option Value} {base : Heap} {f : Addr} {fd : FuncData} {dvs : List V} {kws : List (Str × V)}
theorem fn_want_rule (T : TB mg) (D1 : KnD P w K mg base "want_book" P_want_book 9 sp_want_book [.str "book"]) (G1 : Kn P w K mg base "is_index" P_is_index 3 sp_is_index) (D2 : KnD P w K mg base "want" P_want 1 sp_want [.int (-1)]) (F : Fd K "want_rule" s_want_rule dvs kws f fd) : FnOk P w K mg base CX0 10 f fd P_want_rule sp_want_rule := mk_ok F sc_want_rule (pe_want_rule T D1 G1 D2) (fun _ _ _ => rfl) fun f O H x hp => by
  obtain ⟨b, k⟩ := x
  obtain ⟨(hb : BGood b), (hk : k < b.asks.length)⟩ := hp
  have ix : DE f (tCall sp_is_index [] E0 (tCons (tVar 1) (tCons (tCB (rLenX K) (tCons (tOp (rIx K) (tVar 0) (tC (.int 3))) tNil)) tNil))) [.dat (eBook b), .dat (.int (k : Int))] (· = .dat (eB true)) := (dv_call ((k : Int), (b.asks.length : Int)) (dw_cons (dv_var rfl) (dw_cons (dv_cb (dw_cons (dv_ixT 3 (dv_var rfl) (d := eT eAsk b.asks) rfl) dw_nil) len_T) dw_nil)) trivial).cast (by
    show Sl.dat (eB (decide (0 ≤ (k : Int)) && decide ((k : Int) < (b.asks.length : Int)))) = _
    rw [decide_eq_true (by omega), decide_eq_true (by omega)]
    rfl)
  exact qb_drop (dv_callD (b, ("book" : Str)) (dw_cons (dv_var rfl) dw_nil) (one_def "book") rfl hb) (db_drop (dv_callD (("rule" : Str), (-1 : Int)) (dw_cons ix (dw_cons dv_str dw_nil)) (one_defI (-1)) rfl trivial) rfl)
theorem fn_lasting_in (T : TB mg) (F : Fd K "lasting_in" s_lasting_in dvs kws f fd) : FnOk P w K mg base CX0 3 f fd P_lasting_in sp_lasting_in := mk_ok F sc_lasting_in (pe_lasting_in T) (fun _ _ _ => rfl) fun f O H x hp => by
  obtain ⟨b, k⟩ := x
  obtain ⟨(hb : BGood b), (hk : k < b.asks.length)⟩ := hp
  refine qb_asg (vs := [2, 3, 4, 5, 6]) (dv_op (dv_ixT 3 (dv_var rfl) (d := eT eAsk b.asks) rfl) (dv_var rfl) (ix_T (ask_at hk))) (dg_tup (ds := [.str (askAt b k).house, eSet (askAt b k).looks, eSet (askAt b k).lot, .str "any", .tuple []]) (dgs_cons (dg_name (by decide)) (dgs_cons (dg_name (by decide)) (dgs_cons (dg_name (by decide)) (dgs_cons (dg_name (by decide)) (dgs_cons (dg_name (by decide)) dgs_nil)))))) ?_
  exact db_retv (dv_cb (dw_cons (dv_lc (xs := ([] : List PyData)) (enc := Sl.dat) (ρ' := fun _ => []) (p := fun _ => true) (q := fun d => d) (di_seqT (ds := []) (dv_var rfl)) (Nat.zero_le _) (fun x hx => nomatch hx) (fun x hx => nomatch hx) fun x hx => nomatch hx) dw_nil) (rc_tupL rfl)) rfl
theorem meets_nil (a : List Str) : meets a [] = false := by
  unfold meets
  rw [List.any_eq_false]
  intro x _
  simp
theorem fn_caught_in (T : TB mg) (G1 : Kn P w K mg base "meets_in" P_meets_in 1 sp_meets_in) (G2 : Kn P w K mg base "lasting_in" P_lasting_in 3 sp_lasting_in) (F : Fd K "caught_in" s_caught_in dvs kws f fd) : FnOk P w K mg base CX0 4 f fd P_caught_in sp_caught_in := mk_ok F sc_caught_in (pe_caught_in T G1 G2) (fun _ _ _ => rfl) fun f O H x hp => by
  obtain ⟨⟨b, k⟩, need⟩ := x
  obtain ⟨⟨(hb : BGood b), (hk : k < b.asks.length)⟩, (fw : Few need)⟩ := hp
  obtain ⟨N, bo⟩ := id hb
  have fl : Few (askAt b k).lot := can_few bo.t.mem (bk_ask bo hk).lN
  refine db_retv (vv_or (dv_call (need, (askAt b k).lot) (dw_cons (dv_var rfl) (dw_cons (dv_ixT 2 (dv_op (dv_ixT 3 (dv_var rfl) (d := eT eAsk b.asks) rfl) (dv_var rfl) (ix_T (ask_at hk))) rfl) dw_nil)) ⟨fw, fl⟩) fun _ => dv_call (need, ([] : List Str)) (dw_cons (dv_var rfl) (dw_cons (dv_call (b, k) (dw_cons (dv_var rfl) (dw_cons (dv_var rfl) dw_nil)) ⟨hb, hk⟩) dw_nil)) ⟨fw, Nat.zero_le _, fun x hx => nomatch hx⟩) ?_
  show Sl.dat (eB (meets need (askAt b k).lot || meets need [])) = _
  rw [meets_nil, Bool.or_false]
theorem idx_facts {xs : List Str} {x : Str} (h : x ∈ xs) : xs[xs.idxOf x]? = some x ∧ ∀ m, m < xs.idxOf x → xs[m]? ≠ some x := by
  have hl := List.idxOf_lt_length_iff.mpr h
  refine ⟨by rw [List.getElem?_eq_getElem hl, List.getElem_idxOf hl], fun m hm e => ?_⟩
  obtain ⟨h1, h2⟩ := List.getElem?_eq_some_iff.mp e
  have z := List.not_of_lt_findIdx (p := (· == x)) (xs := xs) (i := m) (by unfold List.idxOf at hm; exact hm)
  rw [h2] at z
  simp at z
theorem isM_mach (j : Nat) : isM [eSet (machOf j).letters, eSet (machOf j).looks, eT eInts (machOf j).moves, eT eInts (machOf j).answers] = true :=
  mach_all (p := fun m => isM [eSet m.letters, eSet m.looks, eT eInts m.moves, eT eInts m.answers] = true) rfl rfl rfl j
theorem fn_answer_in (T : TB mg) (F : Fd K "answer_in" s_answer_in dvs kws f fd) : FnOk P w K mg base CX0 1 f fd P_answer_in sp_answer_in := mk_ok F sc_answer_in (pe_answer_in T) (fun _ _ _ => rfl) fun f O H x hp => by
  obtain ⟨j, s, look⟩ := x
  obtain ⟨(hs : s < 2), (hl : look ∈ (machOf j).looks)⟩ := hp
  obtain ⟨row, h1, h2⟩ := ans_at j hs hl
  obtain ⟨i1, i2⟩ := idx_facts hl
  exact db_retv (dv_op (dv_op (dv_ixT 3 (dv_var rfl) (d := eT eInts (machOf j).answers) rfl) (dv_var rfl) (ix_T h1)) (dv_idx (dv_var rfl) (isM_mach j) rfl (dw_cons (dv_var rfl) dw_nil) i1 i2) (ix_T h2)) rfl
end
end K60

set_option maxHeartbeats 4000000
/-! K60: what the defs of the machine's walk keep. -/
namespace K60
open PySem PySem.Spec PyProof.Rows L2
/-- a def by hand: its body's reading, and what that brings -/
theorem mk_raw {P : Program} {w : World} {K : PySem.W.Frag} {mg : Str → Option Value} {base : Heap} {x q : Str} {st : Stmt} {dvs : List V} {kws : List (Str × V)} {f : Addr} {fd : FuncData} {N ps : List Str} {k : Nat} {t : TS} {sp : Sp}
    (F : FunD K x q (defArgs st) (defBody st) (defScope st) dvs kws f fd) (S : FnScope N ps (defScope st)) (hb : BodyOk P w K mg base k N q st t) (hl : ∀ vs H Q E, sp vs H Q E → vs.length = ps.length)
    (hd : ∀ vs H Q E, sp vs H Q E → t { nx := fun _ H' => Q .non H', rt := Q } (L2.start N vs) H) : FnOk P w K mg base CX0 (k + 1) f fd ps sp :=
  F.ok S hl fun cdv A outer s H vs Q E hr h => ⟨t, PSs.nox (hb f cdv A outer s H E hr), hd vs H Q E h⟩
theorem Okp.first {f : Fe} {O : List Addr} {H : Hp} {vs : List V} {ss : List Sl} {n : Nat} (wd : Wd f O H) (r : VRs O H vs ss) : Okp f O H ⟨O, [], ss ++ List.replicate n .no⟩ (vs.map some ++ List.replicate n none) H := ⟨wd, wd.refl, fun q hq => (nomatch hq), List.nodup_nil, EnvR.start r, fun _ h => h⟩
theorem rows_len {α : Type} {pre : α → Prop} {args : α → List PyData} {st : α → Nat} {n : Nat} (h : ∀ x, (args x).length = n) : ∀ vs H Q E, spRows pre args st vs H Q E → vs.length = n := fun vs H Q E ⟨f, O, x, _, _, r, _⟩ => by
  rw [r.len, List.length_map]
  exact h x
theorem db_imp {f : Fe} {O0 : List Addr} {H0 : Hp} {t : TS} {S : Pt} {N M : Pt → Prop} {R : Sl → Prop} (h : DB f O0 H0 t S M R) (k : ∀ S', M S' → N S') : DB f O0 H0 t S N R := fun σ H D o nx rt => h σ H D o (fun S' σ' H' m => nx S' σ' H' (k S' m)) rt
/-- the points of the walk -/
abbrev ptS (O : List Addr) (d wa : Addr) (s : Nat) (ρ : List Sl) : Pt := ⟨wa :: d :: O, [(wa, .lst [.int (s : Int)]), (d, .dic [(iK s, .tuple [])])], ρ⟩
abbrev ptB (O : List Addr) (d wa : Addr) (s t : Nat) (z : PyData) (ρ : List Sl) : Pt := ⟨wa :: d :: O, [(wa, .lst [.int (s : Int), .int (t : Int)]), (d, .dic [(iK s, .tuple []), (iK t, z)])], ρ⟩
theorem iK_inj {a b : Int} : iK a = iK b ↔ a = b := ⟨fun h => Sum.inl.inj h, fun h => by rw [h]⟩
/-- one round of letters: what was found stays or the other state is found -/
theorem rows_round {K : PySem.W.Frag} {f : Fe} {O O0 : List Addr} {H0 : Hp} {R : Sl → Prop} {d wa : Addr} {j s t h sp : Nat} (hs : s < 2) (ht : t = 1 - s) (hh : h = s ∨ h = t) {row : List Int} (h1 : (machOf j).moves[h]? = some row) (h2 : row.length = 2) (h3 : ∀ g ∈ row, g = (s : Int) ∨ g = (t : Int)) (ll : (machOf j).letters.length = 2) (S : Pt)
    (hS : (h = s ∧ ∃ s6 s7 s8, S = ptS O d wa s [.dat (eMach (machOf j)), .dat (.int (s : Int)), .raw (.ref d), .raw (.ref wa), .dat (.int (sp : Int)), .dat (.int (h : Int)), s6, s7, s8]) ∨
      ∃ z s6 s7 s8, S = ptB O d wa s t z [.dat (eMach (machOf j)), .dat (.int (s : Int)), .raw (.ref d), .raw (.ref wa), .dat (.int (sp : Int)), .dat (.int (h : Int)), s6, s7, s8]) (hm : (t : Int) ∈ row) :
    DB f O0 H0 (tFor (iEnumT K (tCons (tOp (rIx K) (tVar 0) (tC (.int 0))) tNil)) (gTup K 2 (gCons (gName 6) (gCons (gName 7) gNil))) (tSeq (tAsg (tOp (rIx K) (tOp (rIx K) (tOp (rIx K) (tVar 0) (tC (.int 2))) (tVar 5)) (tVar 6)) (gName 8)) (tIfS (tB (tDNotIn (tVar 8) (tVar 2))) (tSeq (sDPut (tVar 2) (tVar 8) (tTup (StX.tStar K (tDGet (tVar 2) (tVar 5)) (tCons (tVar 7) tNil)))) (tDrop (tBM K "list" rAppend (tVar 3) (tCons (tVar 8) tNil)))) tNext))) S
      (fun S' => ∃ z s6 s7 s8, S' = ptB O d wa s t z [.dat (eMach (machOf j)), .dat (.int (s : Int)), .raw (.ref d), .raw (.ref wa), .dat (.int (sp : Int)), .dat (.int (h : Int)), s6, s7, s8]) R := by
  have ne : (s : Int) ≠ (t : Int) := by omega
  have e0 : S.ρ[0]? = some (.dat (eMach (machOf j))) := by
    rcases hS with ⟨_, s6, s7, s8, rfl⟩ | ⟨z, s6, s7, s8, rfl⟩ <;> rfl
  have eO : S.O = wa :: d :: O := by
    rcases hS with ⟨_, s6, s7, s8, rfl⟩ | ⟨z, s6, s7, s8, rfl⟩ <;> rfl
  refine db_for (vs := [6, 7]) (xs := (List.range (machOf j).letters.length).zip (machOf j).letters) (fun i S' => (h = s ∧ (∀ k, k < i → row[k]? = some (s : Int)) ∧ ∃ s6 s7 s8, S' = ptS O d wa s [.dat (eMach (machOf j)), .dat (.int (s : Int)), .raw (.ref d), .raw (.ref wa), .dat (.int (sp : Int)), .dat (.int (h : Int)), s6, s7, s8]) ∨
    ∃ z s6 s7 s8, S' = ptB O d wa s t z [.dat (eMach (machOf j)), .dat (.int (s : Int)), .raw (.ref d), .raw (.ref wa), .dat (.int (sp : Int)), .dat (.int (h : Int)), s6, s7, s8]) ?_ (di_enumX (dw_cons (dv_ixT 0 (dv_var e0) (d := eSet (machOf j).letters) rfl) dw_nil)) ?_ ?_ ?_
  · rcases hS with ⟨e, q⟩ | q
    · exact .inl ⟨e, fun k hk => absurd hk (Nat.not_lt_zero k), q⟩
    · exact .inr q
  · rintro i S' (⟨_, _, _, _, _, rfl⟩ | ⟨_, _, _, _, rfl⟩)
    · exact eO.symm
    · exact eO.symm
  · rintro i ⟨k, le⟩ S' hx is
    obtain ⟨ek, hl⟩ := enum_get hx
    dsimp only at ek hl
    subst ek
    have k2 : k < 2 := by
      rw [← ll]
      exact (List.getElem?_eq_some_iff.mp hl).1
    obtain ⟨g, hg⟩ : ∃ g, row[k]? = some g := ⟨row[k]'(by omega), List.getElem?_eq_getElem (by omega)⟩
    have hgr := h3 g (List.mem_of_getElem? hg)
    rcases is with ⟨e, al, s6, s7, s8, rfl⟩ | ⟨z, s6, s7, s8, rfl⟩
    · subst e
      refine ⟨_, dg_tup (ds := [.int (k : Int), .str le]) (dgs_cons (dg_name (by decide)) (dgs_cons (dg_name (by decide)) dgs_nil)), qb_setv (dv_op (dv_op (dv_ixT 2 (dv_var rfl) (d := eT eInts (machOf j).moves) rfl) (dv_var rfl) (ix_T h1)) (dv_var rfl) (ix_T hg)) ?_⟩
      refine db_ifO (dto_notin (b := !decide (g = (h : Int))) (i := 2) (j := 8) rfl (List.mem_cons_of_mem _ (List.mem_cons_self ..)) rfl (by simp [iK_inj])) (fun c => ?_) fun c => ?_
      · have gt : g = (t : Int) := by
          rcases hgr with z | z
          · rw [z] at c
            simp at c
          · exact z
        subst gt
        refine db_seq (db_dput (i := 2) (j := 8) (ω1 := [(wa, .lst [.int (h : Int)])]) (ω2 := []) (Pd := fun _ => True) (N := fun S' => ∃ z, S' = ⟨wa :: d :: O, [(wa, .lst [.int (h : Int)]), (d, .dic [(iK h, .tuple []), (iK t, z)])], [.dat (eMach (machOf j)), .dat (.int (h : Int)), .raw (.ref d), .raw (.ref wa), .dat (.int (sp : Int)), .dat (.int (h : Int)), .dat (.int (k : Int)), .dat (.str le), .dat (.int (t : Int))]⟩) rfl rfl rfl (by simp [iK_inj]; exact Ne.symm ne) (by simp)
          (fun σ H o Q q => deo_star (K := K) (j := 7) (d := .str le) (fun σ H o Q q => deo_dget (i := 2) (j := 5) rfl (List.mem_cons_of_mem _ (List.mem_cons_self ..)) rfl (by simp) σ H o Q fun v H' s x p r => q v H' s x (by
            obtain ⟨dd, e1, e2⟩ := p
            have e3 : dd = .tuple [] := by simpa using e2
            exact ⟨[], by rw [e1, e3], by decide⟩) r) rfl σ H o Q fun v H' s x p r => q v H' s x (by
            obtain ⟨ds, e1, _⟩ := p
            exact ⟨_, e1, trivial⟩) r) fun z _ => ⟨z, rfl⟩) fun S' m => ?_
        obtain ⟨z, rfl⟩ := m
        exact db_append (Pd := (· = .int (t : Int))) (i := 3) rfl rfl ((dv_var (d := .int (t : Int)) rfl).imp fun s e => ⟨_, e, rfl⟩) (by simp) fun dd e => .inr ⟨z, .dat (.int (k : Int)), .dat (.str le), .dat (.int (t : Int)), by subst e; rfl⟩
      · have gs : g = (h : Int) := by simpa using c.symm
        subst gs
        refine db_next (.inl ⟨rfl, fun k' hk' => ?_, _, _, _, rfl⟩)
        by_cases z : k' = k
        · rw [z]
          exact hg
        · exact al k' (by omega)
    · refine ⟨_, dg_tup (ds := [.int (k : Int), .str le]) (dgs_cons (dg_name (by decide)) (dgs_cons (dg_name (by decide)) dgs_nil)), qb_setv (dv_op (dv_op (dv_ixT 2 (dv_var rfl) (d := eT eInts (machOf j).moves) rfl) (dv_var rfl) (ix_T h1)) (dv_var rfl) (ix_T hg)) ?_⟩
      refine db_ifO (dto_notin (b := false) (i := 2) (j := 8) rfl (List.mem_cons_of_mem _ (List.mem_cons_self ..)) rfl (by
        rcases hgr with z | z <;> simp [iK_inj, z])) (fun c => nomatch c) fun c => db_next (.inr ⟨z, _, _, _, rfl⟩)
  · rintro S' (⟨e, al, _⟩ | q)
    · exfalso
      obtain ⟨k, hk, e2⟩ := List.getElem_of_mem hm
      have ln : ((List.range (machOf j).letters.length).zip (machOf j).letters).length = 2 := by
        rw [List.length_zip, List.length_range, Nat.min_self, ll]
      have z := al k (by rw [ln]; omega)
      rw [List.getElem?_eq_getElem hk, e2] at z
      exact ne (Option.some.inj z).symm
    · exact q
section
variable {P : Program} {w : World} {K : PySem.W.Frag} {mg : Str → Option Value} {base : Heap} {f : Addr} {fd : FuncData} {dvs : List V} {kws : List (Str × V)}
theorem fn_rows_from (T : TB mg) (F : Fd K "rows_from" s_rows_from dvs kws f fd) : FnOk P w K mg base CX0 1 f fd P_rows_from sp_rows_from := mk_raw F sc_rows_from (pe_rows_from T) (rows_len fun _ => rfl) fun vs H Q E h => by
  obtain ⟨f, O, ⟨j, s⟩, (hs : s < 2), wd, r, q⟩ := h
  have lv : vs.length = 2 := by
    rw [r.len]
    rfl
  obtain ⟨ll, _⟩ := rows_facts j
  obtain ⟨t, ht⟩ : ∃ t, t = 1 - s := ⟨_, rfl⟩
  have one : (t : Int) = 1 - (s : Int) := by omega
  have o : Okp f O H ⟨O, [], [.dat (eMach (machOf j)), .dat (.int (s : Int)), .no, .no, .no, .no, .no, .no, .no]⟩ (L2.start N_rows_from vs) H := by
    unfold L2.start
    rw [lv]
    exact Okp.first (n := 7) wd r
  refine raw_ownD (k := (s : Int)) rfl o fun d σ1 H1 nd o1 => raw_ownL (dv_var rfl) o1 fun wa σ2 H2 nw o2 => raw_seq (M := (· = ptS O d wa s [.dat (eMach (machOf j)), .dat (.int (s : Int)), .raw (.ref d), .raw (.ref wa), .dat (.int ((0 : Nat) : Int)), .no, .no, .no, .no])) (db_set dv_int fun s e => by subst e; rfl) o2 fun S3 σ3 H3 m3 o3 => ?_
  subst m3
  refine raw_seq (M := fun S' => ∃ z s4 s5 s6 s7 s8, S' = ptB O d wa s t z [.dat (eMach (machOf j)), .dat (.int (s : Int)), .raw (.ref d), .raw (.ref wa), s4, s5, s6, s7, s8]) (db_whileO (n := 2) (fun m S' => (m = 2 ∧ S' = ptS O d wa s [.dat (eMach (machOf j)), .dat (.int (s : Int)), .raw (.ref d), .raw (.ref wa), .dat (.int ((0 : Nat) : Int)), .no, .no, .no, .no]) ∨
    (m ≤ 1 ∧ ∃ z s5 s6 s7 s8, S' = ptB O d wa s t z [.dat (eMach (machOf j)), .dat (.int (s : Int)), .raw (.ref d), .raw (.ref wa), .dat (.int ((2 - m : Nat) : Int)), s5, s6, s7, s8])) (.inl ⟨rfl, rfl⟩) ?_) o3 fun S4 σ4 H4 m4 o4 => ?_
  · rintro m S' (⟨rfl, rfl⟩ | ⟨hm, z, s5, s6, s7, s8, rfl⟩)
    · refine ⟨true, dto_test (deo_op (dv_var rfl) (deo_len (p := wa) rfl (List.mem_cons_self ..)) (dr_i0b (g := fun i j => decide (i < j)))), fun _ => ⟨1, by omega, ?_⟩, fun z => nomatch z⟩
      obtain ⟨row, r1, r2, r3, r4, r5⟩ := rows_at j hs
      refine qb_setO (deo_ix (k := 0) (d := .int (s : Int)) rfl (List.mem_cons_self ..) (dv_var rfl) rfl) (qb_setv ((dv_op (dv_var rfl) dv_int dr_i0i).cast (v := .dat (.int ((1 : Nat) : Int))) rfl) ?_)
      exact db_imp (rows_round (h := s) (sp := 1) hs ht (.inl rfl) r1 r2 (fun g hg => by rw [one]; exact r3 g hg) ll _ (.inl ⟨rfl, .no, .no, .no, rfl⟩) (by rw [one]; exact r4)) fun S' ⟨z, s6, s7, s8, e⟩ => .inr ⟨Nat.le_refl 1, z, _, s6, s7, s8, e⟩
    · rcases Nat.le_one_iff_eq_zero_or_eq_one.mp hm with rfl | rfl
      · exact ⟨false, dto_test (deo_op (dv_var rfl) (deo_len (p := wa) rfl (List.mem_cons_self ..)) (dr_i0b (g := fun i j => decide (i < j)))), fun z => (nomatch z), fun _ => ⟨z, _, _, _, _, _, rfl⟩⟩
      · refine ⟨true, dto_test (deo_op (dv_var rfl) (deo_len (p := wa) rfl (List.mem_cons_self ..)) (dr_i0b (g := fun i j => decide (i < j)))), fun _ => ⟨0, by omega, ?_⟩, fun z => nomatch z⟩
        have t2 : t < 2 := by omega
        obtain ⟨row, r1, r2, r3, r4, r5⟩ := rows_at j t2
        refine qb_setO (deo_ix (k := 1) (d := .int (t : Int)) rfl (List.mem_cons_self ..) (dv_var rfl) rfl) (qb_setv ((dv_op (dv_var rfl) dv_int dr_i0i).cast (v := .dat (.int ((2 : Nat) : Int))) rfl) ?_)
        exact db_imp (rows_round (h := t) (sp := 2) hs ht (.inr rfl) r1 r2 (fun g hg => by
          rcases r3 g hg with e | e
          · exact .inr e
          · exact .inl (by omega)) ll _ (.inr ⟨z, s6, s7, s8, rfl⟩) r5) fun S' ⟨z, s6, s7, s8, e⟩ => .inr ⟨Nat.zero_le _, z, _, s6, s7, s8, e⟩
  · obtain ⟨z, s4, s5, s6, s7, s8, rfl⟩ := m4
    obtain ⟨x, hx, rx⟩ := o4.env.get (i := 2) rfl
    have ex : x = some (.ref d) := rx
    subst ex
    obtain ⟨_, _, _, nw4, vs4, hv, rl⟩ := o4.own (d, .dic [(iK s, .tuple []), (iK t, z)]) (List.mem_cons_of_mem _ (List.mem_cons_self ..))
    refine ⟨.ref d, hx, ?_⟩
    cases rl with
    | cons a1 rl =>
      cases rl with
      | cons a2 rl =>
        cases rl
        exact q d _ _ H4 o4.ext nw4 nd (by rw [hv]; show some (HO.dK [(Sum.inl (s : Int), _), (Sum.inl (t : Int), _)]) = _; rw [one])
end
end K60

set_option maxHeartbeats 4000000
/-! K60: what the machine's defs keep, second part. -/
namespace K60
open PySem PySem.Spec PyProof.Rows L2
/-- the keys of a new dict of two ints -/
theorem walk_two {f : Fe} {O : List Addr} {H1 : Hp} {d : Addr} {o : Obj} {i j : Int} {u v : V} (nO : d ∉ O) : WalkR f O (Itk d o [(Sum.inl i, u), (Sum.inl j, v)]) (upd H1 d (.frz o (.dK [(Sum.inl i, u), (Sum.inl j, v)]))) [.dat (.int i), .dat (.int j)] := by
  refine ⟨fun k H2 hk e2 => ⟨e2 d _ nO upd_same, hk⟩, fun H2 e2 => ⟨e2 d _ nO upd_same, Nat.le_refl 2⟩, fun O' k H2 x H3 hk n e2 w2 y => ?_⟩
  obtain ⟨rfl, key, z, hz, rfl⟩ := y
  match k, hk with
  | 0, _ =>
    cases hz
    exact ⟨_, rfl, w2.refl, .int _⟩
  | 1, _ =>
    cases hz
    exact ⟨_, rfl, w2.refl, .int _⟩
theorem di_rows {α : Type} {pre : α → Prop} {args : α → List PyData} {st : α → Nat} {f : Fe} {E : XK} {tA : TA} {ρ : List Sl} (x : α) (ha : DA f tA ρ (· = (args x).map Sl.dat)) (hp : pre x) : DI f (iKeysF (tCall (spRows pre args st) [] E tA)) ρ [.dat (.int (st x : Int)), .dat (.int (1 - (st x : Int)))] := fun O σ H w e R q => ha O σ H w e _ fun vs H1 ss x1 e1 r1 => by
  subst e1
  rw [List.append_nil]
  refine ⟨f, O, x, hp, w.ext x1, r1, fun d u v H2 x2 hd nO h2 => ⟨d, _, rfl, h2, fun o => q _ _ ⟨fun a b n h => ?_, ?_⟩ (walk_two nO)⟩⟩
  · have h1 := x1.keep a b n h
    rw [upd_ne (ne_of_none h1 hd)]
    exact x2.keep a b n h1
  · obtain ⟨ns, i, r, k, l, e2, e3⟩ := x2.feed
    obtain ⟨ns', i', r', k', l', e2', e3'⟩ := (w.ext x1).feed
    refine ⟨ns, i, r, k, l, ?_, ?_⟩
    · rw [upd_ne (ne_of_none e2' hd)]
      exact e2
    · rw [upd_ne (ne_of_none e3' hd)]
      exact e3
theorem lacks_few {b : Book} {k : Nat} (hb : BGood b) (hk : k < b.asks.length) : ∀ n ∈ lacksB b k, Few n := by
  intro n hn
  obtain ⟨N, bo⟩ := hb
  unfold lacksB at hn
  split at hn
  · exact (needs_ns bo.t (bk_ask bo hk).hN).2 n (List.mem_filter.mp hn).1
  · cases hn
section
variable {P : Program} {w : World} {K : PySem.W.Frag} {mg : Str → Option Value} {base : Heap} {f : Addr} {fd : FuncData} {dvs : List V} {kws : List (Str × V)}
theorem fn_rows_in (T : TB mg) (G1 : Kn P w K mg base "rows_from" P_rows_from 1 sp_rows_from) (F : Fd K "rows_in" s_rows_in dvs kws f fd) : FnOk P w K mg base CX0 2 f fd P_rows_in sp_rows_in := mk_raw F sc_rows_in (pe_rows_in T G1) (rows_len fun _ => rfl) fun vs H Q E h => by
  obtain ⟨f, O, j, _, wd, r, q⟩ := h
  have lv : vs.length = 1 := by
    rw [r.len]
    rfl
  have o : Okp f O H ⟨O, [], [.dat (eMach (machOf j))]⟩ (L2.start N_rows_in vs) H := by
    unfold L2.start
    rw [lv]
    exact Okp.first (n := 0) wd r
  show (tCons (tVar 0) (tCons (tC (.int 0)) tNil)) (L2.start N_rows_in vs) H fun us H1 => sp_rows_from (us ++ []) H1 Q E0
  refine dw_cons (dv_var (i := 0) rfl) (dw_cons dv_int dw_nil) O _ H wd o.env _ fun us H1 ss x1 e r1 => ?_
  · subst e
    rw [List.append_nil]
    exact ⟨f, O, (j, 0), (by decide : (0 : Nat) < 2), wd.ext x1, r1, fun d u v H2 x2 h2 nO h3 => q d u v H2 (x1.trans x2) (by
      cases e : H d with
      | none => rfl
      | some b =>
        by_cases z : d = f.1
        · rw [z] at h2
          exact absurd h2 (wd.ext x1).feed.there
        · rw [x1.keep d b z e] at h2
          cases h2) nO h3⟩
theorem fn_kept_within (T : TB mg) (F : Fd K "kept_within" s_kept_within dvs kws f fd) : FnOk P w K mg base CX0 1 f fd P_kept_within sp_kept_within := mk_ok F sc_kept_within (pe_kept_within T) (fun _ _ _ => rfl) fun f O H x hp => by
  obtain ⟨j, s⟩ := x
  have hs : s < 2 := hp
  obtain ⟨t, ht⟩ : ∃ t, t = 1 - s := ⟨_, rfl⟩
  have one : 1 - (s : Int) = (t : Int) := by omega
  have t2 : t < 2 := by omega
  obtain ⟨row, r1, r2, r3, r4, r5⟩ := rows_at j t2
  show DB _ _ _ _ ⟨_, _, [.dat (eMach (machOf j)), .dat (eL eI [1 - (s : Int)]), .dat (eL eI [1 - (s : Int)]), .no, .no]⟩ _ _
  rw [one]
  have inn : DE f (tCB (rAny K) (tCons (tLc (iSeq K (tOp (rIx K) (tOp (rIx K) (tVar 0) (tC (.int 2))) (tVar 3))) (gName 4) tYes (tOp (rInA K false) (tVar 4) (tVar 2)) [4]) tNil)) [.dat (eMach (machOf j)), .dat (eL eI [(t : Int)]), .dat (eL eI [(t : Int)]), .dat (eI (t : Int)), .no] (· = .dat (eB (row.any fun g => decide (g ∈ [(t : Int)])))) :=
    dv_cb (dw_cons (lc_m (q := fun g => eB (decide (g ∈ [(t : Int)]))) (di_T (g := eI) (dv_op (dv_ixT 2 (dv_var rfl) (d := eT eInts (machOf j).moves) rfl) (dv_var rfl) (ix_T r1))) (by rw [r2]; decide) (fun z hz => dg_name (by decide)) fun z hz => dv_op (dv_var rfl) (dv_var rfl) in_IL) dw_nil) any_L
  have an : (row.any fun g => decide (g ∈ [(t : Int)])) = true := List.any_eq_true.mpr ⟨(t : Int), r5, by simp⟩
  exact db_retv (dv_lc (xs := [(t : Int)]) (enc := fun z => .dat (eI z)) (ρ' := fun z => [.dat (eMach (machOf j)), .dat (eL eI [(t : Int)]), .dat (eL eI [(t : Int)]), .dat (eI z), .no]) (p := fun _ => true) (q := eI) (di_L (dv_var rfl)) (Nat.le_trans (Nat.le_refl 1) (by decide)) (fun z hz => dg_name (by decide)) (fun z hz => by
    have e : z = (t : Int) := by simpa using hz
    subst e
    exact tv_yes inn an) fun z hz _ => dv_var rfl) (by
    show _ = Sl.dat (eL eI [1 - (s : Int)])
    rw [one]
    rfl)
theorem fn_unlike_from (T : TB mg) (G1 : Kn P w K mg base "answer_in" P_answer_in 1 sp_answer_in) (G2 : Kn P w K mg base "rows_from" P_rows_from 1 sp_rows_from) (F : Fd K "unlike_from" s_unlike_from dvs kws f fd) : FnOk P w K mg base CX0 2 f fd P_unlike_from sp_unlike_from := mk_ok F sc_unlike_from (pe_unlike_from T G1 G2) (fun _ _ _ => rfl) fun f O H x hp => by
  obtain ⟨j, s, look⟩ := x
  obtain ⟨(hs : s < 2), (hl : look ∈ (machOf j).looks)⟩ := hp
  refine qb_setv (s := .dat (eI (ansM (machOf j) s look))) (dv_call (j, s, look) (dw_cons (dv_var rfl) (dw_cons (dv_var rfl) (dw_cons (dv_var rfl) dw_nil))) ⟨hs, hl⟩) ?_
  refine db_retv (dv_lc (xs := [(s : Int), 1 - (s : Int)]) (enc := fun z => .dat (eI z)) (ρ' := fun z => [.dat (eMach (machOf j)), .dat (.str look), .dat (.int (s : Int)), .dat (eI (ansM (machOf j) s look)), .dat (eI z)]) (p := fun g => !decide (ansM (machOf j) g.toNat look = ansM (machOf j) s look)) (q := eI)
    (di_rows (j, s) (dw_cons (dv_var rfl) (dw_cons (dv_var rfl) dw_nil)) hs) (Nat.le_trans (Nat.le_refl 2) (by decide)) (fun z hz => dg_name (by decide)) (fun z hz => ?_) fun z hz _ => dv_var rfl) ?_
  · obtain ⟨n, e, hn⟩ : ∃ n : Nat, z = (n : Int) ∧ n < 2 := by
      rcases List.mem_cons.mp hz with e | e
      · exact ⟨s, e, hs⟩
      · have e := List.mem_singleton.mp e
        exact ⟨1 - s, by omega, by omega⟩
    subst e
    exact tv_test (dv_op (dv_call (j, n, look) (dw_cons (dv_var rfl) (dw_cons (dv_var rfl) (dw_cons (dv_var rfl) dw_nil))) ⟨hn, hl⟩) (dv_var rfl) ne_I)
  · rw [unlike_facts j look hl s hs]
    rfl
theorem fn_moves_in (T : TB mg) (G1 : Kn P w K mg base "least_age_in" P_least_age_in 4 sp_least_age_in) (F : Fd K "moves_in" s_moves_in dvs kws f fd) : FnOk P w K mg base CX0 5 f fd P_moves_in sp_moves_in := mk_ok F sc_moves_in (pe_moves_in T G1) (fun _ _ _ => rfl) fun f O H x hp => by
  obtain ⟨m, look⟩ := x
  obtain ⟨⟨j, (e : m = machOf j)⟩, (hl : look ∈ m.looks)⟩ := hp
  subst e
  refine qb_setv (s := .dat (if look = "still" then .int 0 else .none)) (dv_call (j, look) (dw_cons (dv_var rfl) (dw_cons (dv_var rfl) dw_nil)) hl) ?_
  by_cases st : look = "still"
  · rw [if_pos st]
    exact db_retv (vv_or (a := false) (b := false) ((dv_op (dv_var rfl) dv_non dr_isN).cast rfl) fun _ => (dv_op (dv_var rfl) (dv_var rfl) dr_i0b).cast rfl) (by
      show Sl.dat (eB false) = Sl.dat (eB (movesM (machOf j) look))
      rw [moves_facts j look hl, st]
      rfl)
  · rw [if_neg st]
    exact db_retv (vv_or (a := true) (b := true) ((dv_op (dv_var rfl) dv_non dr_isN).cast rfl) fun z => nomatch z) (by
      show Sl.dat (eB true) = Sl.dat (eB (movesM (machOf j) look))
      rw [moves_facts j look hl, decide_eq_false st]
      rfl)
theorem fn_rule_lacks (T : TB mg) (G1 : Kn P w K mg base "want_rule" P_want_rule 10 sp_want_rule) (G2 : Kn P w K mg base "want_age" P_want_age 3 sp_want_age) (G3 : Kn P w K mg base "lacks_in" P_lacks_in 7 sp_lacks_in) (F : Fd K "rule_lacks" s_rule_lacks dvs kws f fd) : FnOk P w K mg base CX0 11 f fd P_rule_lacks sp_rule_lacks := mk_ok F sc_rule_lacks (pe_rule_lacks T G1 G2 G3) (fun _ _ _ => rfl) fun f O H x hp => by
  obtain ⟨b, k⟩ := x
  obtain ⟨(hb : BGood b), (hk : k < b.asks.length)⟩ := hp
  exact qb_drop (dv_call (b, k) (dw_cons (dv_var rfl) (dw_cons (dv_var rfl) dw_nil)) ⟨hb, hk⟩) (qb_drop (dv_call b (dw_cons (dv_var rfl) (dw_cons (dv_var rfl) dw_nil)) hb) (db_retv (dv_call (b, k) (dw_cons (dv_var rfl) (dw_cons (dv_var rfl) (dw_cons (dv_var rfl) dw_nil))) ⟨hb, hk⟩) rfl))
theorem fn_rule_is_right (T : TB mg) (G1 : KnK P w K mg base "rule_lacks" P_rule_lacks 11 sp_rule_lacks 2 ["age"] gApp) (F : Fd K "rule_is_right" s_rule_is_right dvs kws f fd) : FnOk P w K mg base CX0 12 f fd P_rule_is_right sp_rule_is_right := mk_ok F sc_rule_is_right (pe_rule_is_right T G1) (fun _ _ _ => rfl) fun f O H x hp => by
  obtain ⟨b, k⟩ := x
  obtain ⟨(hb : BGood b), (hk : k < b.asks.length)⟩ := hp
  refine db_retv (dv_op (dv_callN (b, k) (dw_cons (dv_var rfl) (dw_cons (dv_var rfl) dw_nil)) (dw_cons (dv_var rfl) dw_nil) rfl rfl (fun O H vs us h1 h2 => VRs.app h1 h2) ⟨hb, hk⟩) (de_tup (ds := []) dw_nil (by decide) rfl) (eq_nilT (lay_sets fun a ha x hx => (lacks_few hb hk a ha).2 x hx))) ?_
  show Sl.dat (eB ((lacksB b k).map eSet).isEmpty) = Sl.dat (eB (lacksB b k).isEmpty)
  rw [List.isEmpty_map]
theorem fn_lacks_in (T : TB mg) (G1 : Kn P w K mg base "moving_in" P_moving_in 6 sp_moving_in) (G2 : Kn P w K mg base "needs_by" P_needs_by 4 sp_needs_by) (G3 : Kn P w K mg base "caught_in" P_caught_in 4 sp_caught_in) (F : Fd K "lacks_in" s_lacks_in dvs kws f fd) : FnOk P w K mg base CX0 7 f fd P_lacks_in sp_lacks_in := mk_ok F sc_lacks_in (pe_lacks_in T G1 G2 G3) (fun _ _ _ => rfl) fun f O H x hp => by
  obtain ⟨b, k⟩ := x
  obtain ⟨(hb : BGood b), (hk : k < b.asks.length)⟩ := hp
  obtain ⟨N, bo⟩ := id hb
  have ns := needs_ns bo.t (bk_ask bo hk).hN
  refine qb_if (tv_test (dv_op (dv_call (b, k) (dw_cons (dv_var rfl) (dw_cons (dv_var rfl) (dw_cons (dv_var rfl) dw_nil))) ⟨hb, hk⟩) dv_non dr_isN)) (fun c => ?_) fun c => ?_
  · refine db_seq (M := fun _ => False) (db_retv (de_tup (ds := []) dw_nil (by decide) rfl) ?_) fun _ z => z.elim
    have e : movingB b k = none := by
      cases e : movingB b k with
      | none => rfl
      | some y =>
        rw [show isN (eOpt eS (movingB b k)) = false by rw [e]; rfl] at c
        cases c
    show Sl.dat (eSets []) = Sl.dat (eSets (lacksB b k))
    unfold lacksB
    rw [e]
  · refine db_seq (M := (· = _)) (db_next rfl) fun S' m => ?_
    subst m
    obtain ⟨y, e⟩ : ∃ y, movingB b k = some y := by
      cases e : movingB b k with
      | some y => exact ⟨y, rfl⟩
      | none =>
        rw [show isN (eOpt eS (movingB b k)) = true by rw [e]; rfl] at c
        cases c
    refine qb_setv (dv_call (b.T, (askAt b k).house) (dw_cons (dv_op (dv_var rfl) dv_int (dr_ixT rfl)) (dw_cons (dv_ixT 0 (dv_op (dv_ixT 3 (dv_var rfl) (d := eT eAsk b.asks) rfl) (dv_var rfl) (ix_T (ask_at hk))) rfl) dw_nil)) ⟨N, bo.t, (bk_ask bo hk).hN⟩) ?_
    refine db_retv (dv_cb (dw_cons (lc_fm (p := fun n => !meets n (askAt b k).lot) (q := eSet) (di_T (dv_var rfl)) (le_big (Nat.le_trans ns.1 (by decide))) (fun z hz => dg_name (by decide)) (fun z hz => tv_not (tv_B (dv_call ((b, k), z) (dw_cons (dv_var rfl) (dw_cons (dv_var rfl) (dw_cons (dv_var rfl) dw_nil))) ⟨⟨hb, hk⟩, ns.2 z hz⟩))) fun z hz _ => dv_var rfl) dw_nil) tup_L) ?_
    show _ = Sl.dat (eSets (lacksB b k))
    unfold lacksB
    rw [e]
theorem fn_moving_in (T : TB mg) (G1 : Kn P w K mg base "moves_in" P_moves_in 5 sp_moves_in) (F : Fd K "moving_in" s_moving_in dvs kws f fd) : FnOk P w K mg base CX0 6 f fd P_moving_in sp_moving_in := mk_ok F sc_moving_in (pe_moving_in T G1) (fun _ _ _ => rfl) fun f O H x hp => by
  obtain ⟨b, k⟩ := x
  obtain ⟨(hb : BGood b), (hk : k < b.asks.length)⟩ := hp
  obtain ⟨N, bo⟩ := id hb
  have ao := bk_ask bo hk
  have sz : (askAt b k).looks.length ≤ 100000 := Nat.le_trans ao.form.k.few (by decide)
  refine qb_setv (s := .dat (eL eS ((askAt b k).looks.filter fun x => movesM b.m x))) (lc_fm (q := eS) (p := fun x => movesM b.m x) (di_T (dv_ixT 1 (dv_op (dv_ixT 3 (dv_var rfl) (d := eT eAsk b.asks) rfl) (dv_var rfl) (ix_T (ask_at hk))) rfl)) sz (fun z hz => dg_name (by decide))
    (fun z hz => tv_B (dv_call (b.m, z) (dw_cons (dv_ixT 0 (dv_var rfl) rfl) (dw_cons (dv_var rfl) (dw_cons (dv_var rfl) dw_nil))) ⟨bo.j, ao.km z hz⟩)) fun z hz _ => dv_var rfl) ?_
  have fh : movingB b k = ((askAt b k).looks.filter fun x => movesM b.m x).head? := by
    unfold movingB
    rw [List.head?_filter]
  cases e : (askAt b k).looks.filter fun x => movesM b.m x with
  | nil =>
    refine db_retv (de_if (B := (· = false)) ((tv_test (dv_op (dv_cb (dw_cons (dv_var rfl) dw_nil) len_L) dv_int dr_i0b)).cast rfl) (fun z => nomatch z) fun _ => dv_non) ?_
    show Sl.dat .none = Sl.dat (eOpt eS (movingB b k))
    rw [fh, e]
    rfl
  | cons y ys =>
    refine db_retv (de_if (B := (· = true)) ((tv_test (dv_op (dv_cb (dw_cons (dv_var rfl) dw_nil) len_L) dv_int dr_i0b)).cast (decide_eq_true (by rw [List.length_cons]; omega))) (fun _ => dv_op (dv_var rfl) (dv_int (i := ((0 : Nat) : Int))) (ix_L (zs := y :: ys) rfl)) fun z => nomatch z) ?_
    show Sl.dat (eS y) = Sl.dat (eOpt eS (movingB b k))
    rw [fh, e]
    rfl
theorem fn_longest_from (T : TB mg) (G1 : Kn P w K mg base "unlike_from" P_unlike_from 2 sp_unlike_from) (G2 : Kn P w K mg base "kept_within" P_kept_within 1 sp_kept_within) (F : Fd K "longest_from" s_longest_from dvs kws f fd) : FnOk P w K mg base CX0 3 f fd P_longest_from sp_longest_from := mk_ok F sc_longest_from (pe_longest_from T G1 G2) (fun _ _ _ => rfl) fun f O H x hp => by
  obtain ⟨j, s, look⟩ := x
  obtain ⟨(hs : s < 2), (hl : look ∈ (machOf j).looks)⟩ := hp
  refine qb_setv (s := .dat (eL eI (unlikeM j s look))) (dv_call (j, s, look) (dw_cons (dv_var rfl) (dw_cons (dv_var rfl) (dw_cons (dv_var rfl) dw_nil))) ⟨hs, hl⟩) ?_
  refine qb_par (dw_cons (dv_var rfl) (dw_cons dv_int dw_nil)) fun ss e => ⟨_, _, e, ?_⟩
  by_cases st : look = "still"
  · have eu : unlikeM j s look = [] := if_pos st
    rw [eu]
    refine db_seq (M := (· = ⟨O, [], [.dat (eMach (machOf j)), .dat (.str look), .dat (.int (s : Int)), .dat (eL eI []), .dat (eL eI []), .dat (.int 0), .no]⟩)) (db_while (n := 0) (fun m S' => S' = ⟨O, [], [.dat (eMach (machOf j)), .dat (.str look), .dat (.int (s : Int)), .dat (eL eI []), .dat (eL eI []), .dat (.int 0), .no]⟩) rfl (fun m S' m' => by rw [m']) fun m S' m' => by
      subst m'
      exact ⟨false, (tv_test (dv_op (dv_cb (dw_cons (dv_var rfl) dw_nil) len_L) dv_int dr_i0b)).cast rfl, fun z => (nomatch z), fun _ => rfl⟩) fun S' m => ?_
    subst m
    exact db_retv (dv_var rfl) (by
      show Sl.dat (.int 0) = Sl.dat (if look = "still" then .int 0 else .none)
      rw [if_pos st])
  · have eu : unlikeM j s look = [1 - (s : Int)] := if_neg st
    rw [eu]
    have eqq : DR2 f (rEqD K) (.dat (eL eI [1 - (s : Int)])) (.dat (eL eI [1 - (s : Int)])) (· = .dat (eB true)) := (dr_eq (lay_L fun z _ => lay_I).shaped (lay_L fun z _ => lay_I).shaped).cast (by rw [eqv_L eqv_I, decide_eq_true rfl])
    refine db_seq (M := fun _ => False) (db_while (n := 1) (fun m S' => m = 1 ∧ S' = ⟨O, [], [.dat (eMach (machOf j)), .dat (.str look), .dat (.int (s : Int)), .dat (eL eI [1 - (s : Int)]), .dat (eL eI [1 - (s : Int)]), .dat (.int 0), .no]⟩) ⟨rfl, rfl⟩ (fun m S' m' => by rw [m'.2]) fun m S' m' => by
      obtain ⟨rfl, rfl⟩ := m'
      refine ⟨true, (tv_test (dv_op (dv_cb (dw_cons (dv_var rfl) dw_nil) len_L) dv_int dr_i0b)).cast rfl, fun _ => ⟨0, by decide, ?_⟩, fun z => nomatch z⟩
      refine qb_setv (s := .dat (.int 1)) ((dv_op (dv_var rfl) dv_int dr_i0i).cast rfl) ?_
      refine qb_setv (s := .dat (eL eI [1 - (s : Int)])) (dv_call (j, s) (dw_cons (dv_var rfl) (dw_cons (dv_var rfl) (dw_cons (dv_var rfl) dw_nil))) hs) ?_
      exact qb_if (B := (· = true)) (tv_test (dv_op (dv_var rfl) (dv_var rfl) eqq)) (fun _ => db_seq (M := fun _ => False) (db_retv dv_non (by
        show Sl.dat .none = Sl.dat (if look = "still" then .int 0 else .none)
        rw [if_neg st])) fun _ z => z.elim) fun z => nomatch z) fun S' m => m.elim
theorem fn_least_age_in (T : TB mg) (G1 : Kn P w K mg base "rows_in" P_rows_in 2 sp_rows_in) (G2 : Kn P w K mg base "longest_from" P_longest_from 3 sp_longest_from) (F : Fd K "least_age_in" s_least_age_in dvs kws f fd) : FnOk P w K mg base CX0 4 f fd P_least_age_in sp_least_age_in := mk_ok F sc_least_age_in (pe_least_age_in T G1 G2) (fun _ _ _ => rfl) fun f O H x hp => by
  obtain ⟨j, look⟩ := x
  have hl : look ∈ (machOf j).looks := hp
  obtain ⟨v, hv⟩ : ∃ v : PyData, v = if look = "still" then .int 0 else .none := ⟨_, rfl⟩
  refine qb_setv (s := .dat (.list [v, v])) ((lc_m (zs := [((0 : Nat) : Int), 1 - ((0 : Nat) : Int)]) (enc := fun z => .dat (eI z)) (q := fun _ => v) (ρ' := fun z => [.dat (eMach (machOf j)), .dat (.str look), .no, .dat (eI z), .no]) (di_rows (st := fun _ : Nat => 0) j (dw_cons (dv_var rfl) dw_nil) trivial) (Nat.le_trans (Nat.le_refl 2) (by decide)) (fun z hz => dg_name (by decide)) fun z hz => ?_)) ?_
  · obtain ⟨n, e, hn⟩ : ∃ n : Nat, z = (n : Int) ∧ n < 2 := by
      rcases List.mem_cons.mp hz with e | e
      · exact ⟨0, e, by decide⟩
      · exact ⟨1, List.mem_singleton.mp e, by decide⟩
    subst e
    rw [hv]
    exact dv_call (j, n, look) (dw_cons (dv_var rfl) (dw_cons (dv_var rfl) (dw_cons (dv_var rfl) dw_nil))) ⟨hn, hl⟩
  by_cases st : look = "still"
  · rw [if_pos st] at hv
    subst hv
    refine qb_no (tf_test (b := false) ((dv_op dv_non (dv_var rfl) (dr_inL rfl rfl)).cast rfl) rfl) ?_
    refine db_retv (dv_cb (dw_cons (de_lst (ds := [.int 0, .int 0, .int 0]) (dw_cons dv_int (dw_star (ds := [.int 0, .int 0]) (dv_lc (xs := [PyData.int 0, PyData.int 0]) (enc := Sl.dat) (ρ' := fun d => [.dat (eMach (machOf j)), .dat (.str look), .dat (.list [.int 0, .int 0]), .no, .dat d]) (p := fun d => !isN d) (q := fun d => d) (di_seqL (dv_var rfl)) (Nat.le_trans (Nat.le_refl 2) (by decide)) (fun x hx => dg_name (by decide)) (fun x hx => tv_test (dv_op (dv_var rfl) dv_non dr_notN)) fun x hx _ => dv_var rfl) dw_nil)) (by decide) rfl) dw_nil) (rc_max (ns := [0, 0, 0]) (m := 0) (by decide) (by decide))) ?_
    show Sl.dat (.int 0) = Sl.dat (if look = "still" then .int 0 else .none)
    rw [if_pos st]
  · rw [if_neg st] at hv
    subst hv
    exact qb_if (B := (· = true)) ((tv_test (dv_op dv_non (dv_var rfl) (dr_inL rfl rfl))).cast rfl) (fun _ => db_seq (M := fun _ => False) (db_retv dv_non (by
      show Sl.dat .none = Sl.dat (if look = "still" then .int 0 else .none)
      rw [if_neg st])) fun _ z => z.elim) fun z => nomatch z
end
end K60

set_option maxHeartbeats 4000000
/-! K60: what the law's own defs keep. -/
namespace K60
open PySem PySem.Spec PyProof.Rows L2
section
variable {P : Program} {w : World} {K : PySem.W.Frag} {mg : Str → Option Value} {base : Heap} {f : Addr} {fd : FuncData} {dvs : List V} {kws : List (Str × V)}
theorem fn_law_less (T : TB mg) (F : Fd K "_law_less" s_law_less dvs kws f fd) : FnOk P w K mg base CX0 1 f fd P_law_less sp_law_less := mk_ok F sc_law_less (pe_law_less T) (fun _ _ _ => rfl) fun f O H x hp => by
  obtain ⟨a, b⟩ := x
  obtain ⟨(h1 : Few a), (h2 : Few b)⟩ := hp
  exact db_retv (dv_cb (dw_cons (lc_fm (p := fun z => !decide (z ∈ b)) (q := eS) (di_T (dv_var rfl)) (few_le h1) (fun z hz => dg_name (by decide)) (fun z hz => tv_test (dv_op (dv_var rfl) (dv_var rfl) (ni_ST (h1.2 z hz) h2.2))) fun z hz _ => dv_var rfl) dw_nil) tup_L) rfl
theorem fn_law_within (T : TB mg) (F : Fd K "_law_within" s_law_within dvs kws f fd) : FnOk P w K mg base CX0 1 f fd P_law_within sp_law_within := mk_ok F sc_law_within (pe_law_within T) (fun _ _ _ => rfl) fun f O H x hp => by
  obtain ⟨a, b⟩ := x
  obtain ⟨(h1 : Few a), (h2 : Few b)⟩ := hp
  refine db_retv (dv_op (lc_fm (p := fun z => !decide (z ∈ b)) (q := eS) (di_T (dv_var rfl)) (few_le h1) (fun z hz => dg_name (by decide)) (fun z hz => tv_test (dv_op (dv_var rfl) (dv_var rfl) (ni_ST (h1.2 z hz) h2.2))) fun z hz _ => dv_var rfl) (de_lst (ds := []) dw_nil (by decide) rfl) (eq_nilL (lay_L fun z hz => lay_S (h1.2 z (List.mem_filter.mp hz).1)))) ?_
  show Sl.dat (eB ((less a b).map eS).isEmpty) = Sl.dat (eB (within a b))
  have e : (less a b).isEmpty = within a b := by
    unfold less within
    rw [Bool.eq_iff_iff, List.isEmpty_iff, List.filter_eq_nil_iff, List.all_eq_true]
    simp
  rw [List.isEmpty_map, e]
end
end K60

set_option maxHeartbeats 4000000
/-! K60: the feed, what is drawn of it. -/
namespace K60
open PySem PySem.Spec PyProof.Rows L2
/-- some int -/
def aInt (s : Sl) : Prop := ∃ n : Int, s = .dat (.int n)
/-- an int below m -/
def below (m : Int) (s : Sl) : Prop := ∃ r : Int, s = .dat (.int r) ∧ 0 ≤ r ∧ r < m
theorem below.a {m : Int} {s : Sl} : below m s → aInt s := fun ⟨r, e, _⟩ => ⟨r, e⟩
/-- the feed's ints -/
inductive FKey : Str → Prop
  | spot : FKey "spot"
  | rest : FKey "rest"
  | count : FKey "count"
section
variable {f : Fe} {H : Hp} {x : Str}
theorem FeedAt.ne (h : FeedAt H f) : f.1 ≠ f.2 := fun e => by
  obtain ⟨ns, i, r, k, _, h1, h2⟩ := h
  rw [e, h2] at h1
  cases h1
theorem FeedAt.get (h : FeedAt H f) (hx : FKey x) : ∃ n : Int, DGet H f.1 (.str x) (some (.int n)) := by
  obtain ⟨ns, i, r, k, _, h1, _⟩ := h
  cases hx with
  | spot =>
    refine ⟨i, ?_⟩
    have e := DGet.k (k := Sum.inr "spot") h1
    rw [valV_neg (fun z => absurd (Sum.inr.inj z) (by decide)), valV_pos rfl] at e
    exact e
  | rest =>
    refine ⟨r, ?_⟩
    have e := DGet.k (k := Sum.inr "rest") h1
    rw [valV_neg (fun z => absurd (Sum.inr.inj z) (by decide)), valV_neg (fun z => absurd (Sum.inr.inj z) (by decide)), valV_pos rfl] at e
    exact e
  | count =>
    refine ⟨k, ?_⟩
    have e := DGet.k (k := Sum.inr "count") h1
    rw [valV_neg (fun z => absurd (Sum.inr.inj z) (by decide)), valV_neg (fun z => absurd (Sum.inr.inj z) (by decide)), valV_neg (fun z => absurd (Sum.inr.inj z) (by decide)), valV_pos rfl] at e
    exact e
theorem FeedAt.getC (h : FeedAt H f) : DGet H f.1 (.str "cells") (some (.ref f.2)) := by
  obtain ⟨ns, i, r, k, _, h1, _⟩ := h
  have e := DGet.k (k := Sum.inr "cells") h1
  rw [valV_pos rfl] at e
  exact e
theorem FeedAt.store (h : FeedAt H f) (hx : FKey x) (n : Int) : ∃ o, DPut H f.1 (.str x) (.int n) (upd H f.1 o) ∧ FeedAt (upd H f.1 o) f := by
  have ne := h.ne
  obtain ⟨ns, i, r, k, l, h1, h2⟩ := h
  have h2' : ∀ o, upd H f.1 o f.2 = some (.lst (ns.map V.int)) := fun o => by
    rw [upd_ne (Ne.symm ne)]
    exact h2
  have lt : ∀ p : List (Key × V), p.length = 4 → p.length < sizeLine := fun p e => by
    rw [e]
    decide
  cases hx with
  | spot =>
    refine ⟨_, DPut.k (k := Sum.inr "spot") h1 (lt _ rfl), ns, n, r, k, l, ?_, h2' _⟩
    rw [upd_same]
    rfl
  | rest =>
    refine ⟨_, DPut.k (k := Sum.inr "rest") h1 (lt _ rfl), ns, i, n, k, l, ?_, h2' _⟩
    rw [upd_same]
    rfl
  | count =>
    refine ⟨_, DPut.k (k := Sum.inr "count") h1 (lt _ rfl), ns, i, r, n, l, ?_, h2' _⟩
    rw [upd_same]
    rfl
end
section
variable {f : Fe} {ρ : List Sl} {K : PySem.W.Frag} {te ta tb : TE} {i j : Nat} {x : Str} {P : Sl → Prop}
theorem de_fget (hi : ρ[i]? = some (.raw (.ref f.1))) (hx : FKey x) : DE f (tDGet (tVar i) (tC (.str x))) ρ aInt := fun O σ H w e Q q => by
  obtain ⟨y, hy, r⟩ := e.get hi
  have ey : y = some (.ref f.1) := r
  subst ey
  obtain ⟨n, g⟩ := w.feed.get hx
  exact ⟨.ref f.1, hy, f.1, .int n, rfl, g, q _ H _ w.refl ⟨n, rfl⟩ (Rp.int n)⟩
theorem de_fcells (hi : ρ[i]? = some (.raw (.ref f.1))) : DE f (tDGet (tVar i) (tC (.str "cells"))) ρ (· = .raw (.ref f.2)) := fun O σ H w e Q q => by
  obtain ⟨y, hy, r⟩ := e.get hi
  have ey : y = some (.ref f.1) := r
  subst ey
  exact ⟨.ref f.1, hy, f.1, .ref f.2, rfl, w.feed.getC, q _ H _ w.refl rfl rfl⟩
theorem de_flen (hi : ρ[i]? = some (.raw (.ref f.2))) : DE f (tCB (rLenX K) (tCons (tVar i) tNil)) ρ aInt := fun O σ H w e Q q => by
  obtain ⟨y, hy, r⟩ := e.get hi
  have ey : y = some (.ref f.2) := r
  subst ey
  obtain ⟨ns, _, _, _, _, _, h2⟩ := w.feed
  exact ⟨.ref f.2, hy, .ref f.2, _, rfl, .inl ⟨_, .inl (.inl h2), rfl⟩, q _ H _ w.refl ⟨_, rfl⟩ (Rp.int _)⟩
theorem DA.imp {tA : TA} {L L' : List Sl → Prop} (h : DA f tA ρ L) (k : ∀ ss, L ss → L' ss) : DA f tA ρ L' := fun O σ H w e Q q => h O σ H w e Q fun vs H' ss x p r => q vs H' ss x (k ss p) r
theorem da1 {P : Sl → Prop} (h : DE f te ρ P) : DA f (tCons te tNil) ρ (fun ss => ∃ s, ss = [s] ∧ P s) := fun O σ H w e Q q => h O σ H w e _ fun v H1 s x p r => q [v] H1 [s] x ⟨s, rfl, p⟩ ⟨r, trivial⟩
theorem de_i0 {g : Int → Int → Int} (ha : DE f ta ρ aInt) (hb : DE f tb ρ aInt) : DE f (tOp (rI0 fun i j => .int (g i j)) ta tb) ρ aInt := de_op ha hb fun s t ⟨m, es⟩ ⟨n, et⟩ => by
  subst es et
  exact fun O H x y w hx hy Q q => dr_i0i (g := g) O H x y w hx hy Q fun v H' u x p r => q v H' u x ⟨_, p⟩ r
theorem dt_i0 {g : Int → Int → Bool} (ha : DE f ta ρ aInt) (hb : DE f tb ρ aInt) : DT f (tTest (tOp (rI0 fun i j => .bl (g i j)) ta tb)) ρ fun _ => True := dt_test (de_op ha hb fun s t ⟨m, es⟩ ⟨n, et⟩ => by
  subst es et
  exact fun O H x y w hx hy Q q => dr_i0b (g := g) O H x y w hx hy Q fun v H' u x p r => q v H' u x ⟨_, p, trivial⟩ r)
theorem de_con {n : Int} : DE f (tC (.int n)) ρ aInt := dv_int.imp fun s e => ⟨n, e⟩
theorem de_int1 (h : DE f te ρ aInt) : DE f (tCB rIntX (tCons te tNil)) ρ aInt := de_cb (da1 h) fun ss ⟨s, e, n, es⟩ => by
  subst es e
  exact fun O H vs w r Q q => rc_int O H vs w r Q fun v H' u x p r => q v H' u x ⟨_, p⟩ r
theorem de_fmod {m : Int} (ha : DE f ta ρ aInt) (hb : DE f tb ρ (· = .dat (.int m))) (hm : 0 < m) : DE f (tOp (rI (fun _ j => j ≠ 0) fun i j => .int (i.fmod j)) ta tb) ρ (below m) := de_op ha hb fun s t ⟨n, es⟩ et => by
  subst es et
  exact fun O H x y w hx hy Q q => dr_ii (C := fun _ j => j ≠ 0) (g := fun i j => i.fmod j) (by omega) O H x y w hx hy Q fun v H' u x p r => q v H' u x ⟨_, p, Int.fmod_nonneg_of_pos _ hm, Int.fmod_lt_of_pos _ hm⟩ r
theorem de_fdiv {m : Int} (ha : DE f ta ρ aInt) (hb : DE f tb ρ (· = .dat (.int m))) (hm : 0 < m) (hz : m < 1000000) : DE f (tOp (rI CDivN fun i j => .int (i.fdiv j)) ta tb) ρ aInt := de_op ha hb fun s t ⟨n, es⟩ et => by
  subst es et
  exact fun O H x y w hx hy Q q => dr_ii (C := CDivN) (g := fun i j => i.fdiv j) ⟨by omega, by omega⟩ O H x y w hx hy Q fun v H' u x p r => q v H' u x ⟨_, p⟩ r
theorem de_mulR {m : Int} (ha : DE f ta ρ aInt) (hb : DE f tb ρ (· = .dat (.int m))) (h1 : -(2 ^ 64) < m) (h2 : m < 2 ^ 64) : DE f (tOp (rI CMul fun i j => .int (i * j)) ta tb) ρ aInt := de_op ha hb fun s t ⟨n, es⟩ et => by
  subst es et
  exact fun O H x y w hx hy Q q => dr_ii (C := CMul) (g := fun i j => i * j) (.inr ⟨h1, h2⟩) O H x y w hx hy Q fun v H' u x p r => q v H' u x ⟨_, p⟩ r
theorem de_mulL {m : Int} (ha : DE f ta ρ (below m)) (hb : DE f tb ρ aInt) (hz : m ≤ 2 ^ 64) : DE f (tOp (rI CMul fun i j => .int (i * j)) ta tb) ρ aInt := de_op ha hb fun s t ⟨n, es, n1, n2⟩ ⟨k, et⟩ => by
  subst es et
  exact fun O H x y w hx hy Q q => dr_ii (C := CMul) (g := fun i j => i * j) (.inl ⟨by omega, by omega⟩) O H x y w hx hy Q fun v H' u x p r => q v H' u x ⟨_, p⟩ r
theorem de_conB {n m : Int} (h1 : 0 ≤ n) (h2 : n < m) : DE f (tC (.int n)) ρ (below m) := dv_int.imp fun s e => ⟨n, e, h1, h2⟩
theorem de_varI (hi : ∃ n : Int, ρ[i]? = some (.dat (.int n))) : DE f (tVar i) ρ aInt := by
  obtain ⟨n, hi⟩ := hi
  exact (dv_var hi).imp fun s e => ⟨n, e⟩
theorem de_pow {a b : Int} (h : CPow a b) : DE f (tOp (rI CPow fun i j => .int (i ^ j.toNat)) (tC (.int a)) (tC (.int b))) ρ aInt := de_op dv_int dv_int fun s t es et => by
  subst es et
  exact fun O H x y w hx hy Q q => dr_ii (C := CPow) (g := fun i j => i ^ j.toNat) h O H x y w hx hy Q fun v H' u x p r => q v H' u x ⟨_, p⟩ r
/-- the cell at the spot -/
theorem de_fcell {n : Int} (hi : ρ[i]? = some (.raw (.ref f.2))) (hj : ρ[j]? = some (.dat (.int n))) : DE f (tIf (tTest (tOp (rNeD K) (tVar i) (tLst tNil))) (tOp (rIx K) (tVar i) (tOp (rI (fun _ j => j ≠ 0) fun i j => .int (i.fmod j)) (tCB rIntX (tCons (tVar j) tNil)) (tCB (rLenX K) (tCons (tVar i) tNil)))) (tC (.int 900757))) ρ aInt := fun O σ H w e Q q => by
  obtain ⟨y, hy, r⟩ := e.get hi
  have ey : y = some (.ref f.2) := r
  subst ey
  obtain ⟨z, hz, vz, rfl, rz⟩ := e.get hj
  have ez := Rp.int_inv rz
  subst ez
  refine ⟨.ref f.2, hy, Nat.zero_le _, fun p hp => ?_⟩
  have x := w.new (o := .lst []) hp
  obtain ⟨ns, a, b, c, l, h1, h2⟩ := x.feed
  have rl : Rp (upd H p (.lst [])) (.ref f.2) (.list (ns.map eI)) := .lst h2 (RpL.ofInts ns)
  have rn : Rp (upd H p (.lst [])) (.ref p) (.list []) := .lst upd_same .nil
  refine ⟨_, _, rl.dp, rn.dp, (lay_L (n := 0) fun z hz => lay_I).shaped, rfl, _, rfl, ?_⟩
  have ee : PyData.eqv (.list (ns.map eI)) (.list []) = ns.isEmpty := by
    rw [eqv_nilL, List.isEmpty_map]
  rw [ee]
  cases ns with
  | nil => exact q _ _ _ x ⟨_, rfl⟩ (Rp.int _)
  | cons c0 ns =>
    show tOp (rIx K) (tVar i) (tOp (rI (fun _ j => j ≠ 0) fun i j => .int (i.fmod j)) (tCB rIntX (tCons (tVar j) tNil)) (tCB (rLenX K) (tCons (tVar i) tNil))) σ (upd H p (.lst [])) Q
    refine ⟨.ref f.2, hy, .int n, hz, .inl ⟨n, rfl, .ref f.2, hy, .ref f.2, ((c0 :: ns).map V.int).length, rfl, .inl ⟨_, .inl (.inl h2), rfl⟩, n, _, rfl, rfl, ?_, ?_⟩⟩
    · rw [List.length_map, List.length_cons]
      omega
    · have hp2 : 0 < (((c0 :: ns).map V.int).length : Int) := by
        rw [List.length_map, List.length_cons]
        omega
      obtain ⟨k, hk⟩ := Int.eq_ofNat_of_zero_le (Int.fmod_nonneg_of_pos n hp2)
      have hlt := Int.fmod_lt_of_pos n hp2
      show rIx K (.ref f.2) (.int (n.fmod _)) _ Q
      rw [hk] at hlt ⊢
      have hl : k < ((c0 :: ns).map V.int).length := by omega
      have hg : ((c0 :: ns).map V.int)[k]? = some (.int ((c0 :: ns)[k]'(by rw [List.length_map] at hl; exact hl))) := by
        rw [List.getElem?_map, List.getElem?_eq_getElem (by rw [List.length_map] at hl; exact hl)]
        rfl
      exact .inl ⟨f.2, _, (k : Int), _, rfl, rfl, .inl (.inl h2), atI_of hg, q _ _ _ x ⟨_, rfl⟩ (Rp.int _)⟩
end
section
variable {f : Fe} {O0 : List Addr} {H0 : Hp} {te : TE} {S : Pt} {N : Pt → Prop} {R : Sl → Prop} {i : Nat} {x : Str} {u : TS}
/-- feed[x] = e -/
theorem db_fput (hi : S.ρ[i]? = some (.raw (.ref f.1))) (hx : FKey x) (h : DE f te S.ρ aInt) (k : N S) : DB f O0 H0 (sDPut (tVar i) (tC (.str x)) te) S N R := fun σ H D o nx rt => h S.O σ H o.wd o.env _ fun v H1 s x1 p1 r1 => by
  obtain ⟨n, es⟩ := p1
  subst es
  have ev := Rp.int_inv r1
  subst ev
  have o1 := o.on x1
  obtain ⟨y, hy, r⟩ := o.env.get hi
  have ey : y = some (.ref f.1) := r
  subst ey
  obtain ⟨ob, g, fe⟩ := o1.wd.feed.store hx n
  have hh : hid (upd H1 f.1 ob) S.O = hid H1 S.O := hid_upd o1.wd.fO
  refine ⟨.ref f.1, hy, f.1, _, rfl, g, nx S σ _ k ⟨⟨fe, o1.wd.fO, fun q hq => ?_⟩, ⟨fun a u n e => ?_, fe⟩, fun q hq => ?_, o1.apart, EnvR.mono (by rw [hh]; exact Sub.refl _) o1.env, o1.outer⟩ ⟨fun a u n e => ?_, fun q a b => absurd a b⟩⟩
  · by_cases z : q = f.1
    · rw [z, upd_same]
      exact fun z => nomatch z
    · rw [upd_ne z]
      exact o1.wd.tr q hq
  · rw [upd_ne n]
    exact o1.ext.keep a u n e
  · obtain ⟨m', n1', n2', nw', at'⟩ := o1.own q hq
    exact ⟨m', n1', n2', nw', at'.mono (fun u e => by rw [upd_ne n1']; exact e) (by rw [hh]; exact Sub.refl _)⟩
  · rw [upd_ne (fun z => n (by rw [z]; exact o1.wd.fO))]
    exact x1.o o.wd.fO a u n e
theorem qb_fput (hi : S.ρ[i]? = some (.raw (.ref f.1))) (hx : FKey x) (h : DE f te S.ρ aInt) (k : DB f O0 H0 u S N R) : DB f O0 H0 (tSeq (sDPut (tVar i) (tC (.str x)) te) u) S N R := db_seq (M := (· = S)) (db_fput hi hx h rfl) fun S' m => by
  subst m
  exact k
theorem db_skip (k : DB f O0 H0 u S N R) : DB f O0 H0 (tSeq tNext u) S N R := db_seq (M := (· = S)) (db_next rfl) fun S' e => by
  subst e
  exact k
/-- behind a return -/
theorem db_end {t : TS} (h : DB f O0 H0 t S (fun _ => False) R) : DB f O0 H0 (tSeq t u) S N R := db_seq h fun _ z => z.elim
end
section
variable {P : Program} {w : World} {K : PySem.W.Frag} {mg : Str → Option Value} {base : Heap} {f : Addr} {fd : FuncData} {dvs : List V} {kws : List (Str × V)}
theorem fn_law_draw (T : TB mg) (F : Fd K "_law_draw" s_law_draw dvs kws f fd) : FnOk P w K mg base CX0 1 f fd P_law_draw sp_law_draw := mk_ok F sc_law_draw (pe_law_draw T) (fun _ _ _ => rfl) fun f O H n hp => by
  obtain ⟨h1, h2⟩ := hp
  refine qb_fput rfl .count (de_i0 (g := fun i j => i + j) (de_fget rfl .count) de_con) ?_
  refine qb_if (dt_i0 (g := fun i j => decide (j < i)) (de_fget rfl .rest) de_con) (fun _ => db_end ?_) fun _ => ?_
  · refine qb_set (de_fmod (de_int1 (de_fget rfl .rest)) (dv_var rfl) h1) fun s ps => ?_
    obtain ⟨r, rfl, r1, r2⟩ := ps
    exact qb_fput rfl .rest (de_fdiv (de_fget rfl .rest) (dv_var rfl) h1 h2) (db_retv (dv_var rfl) ⟨r, rfl, r1, r2⟩)
  · refine db_skip ?_
    refine qb_par (L := fun ss => ∃ n : Int, ss = [.dat (.int n), .raw (.ref f.2)]) (da_cons (L' := fun _ _ => True) (de_fget rfl .spot) fun s ⟨n, es⟩ => (dw_cons (de_fcells rfl) dw_nil).imp fun ss e => ⟨n, by rw [es, e]⟩) fun ss ⟨n, e⟩ => ⟨_, _, e, ?_⟩
    refine qb_fput rfl .spot (de_i0 (g := fun i j => i + j) (de_varI ⟨n, rfl⟩) de_con) (qb_set (de_fcell rfl rfl) fun s ⟨c, es⟩ => ?_)
    subst es
    refine qb_if (dt_and (dt_i0 (g := fun i j => decide (j ≤ i)) (de_varI ⟨c, rfl⟩) (de_pow ⟨by decide, by decide, by decide⟩)) (fun _ => dt_i0 (g := fun i j => decide (i < j)) (de_varI ⟨n, rfl⟩) (de_flen rfl)) fun _ => trivial) (fun _ => db_end (qb_fput rfl .rest (de_fdiv (de_varI ⟨c, rfl⟩) (dv_var rfl) h1 h2) (db_ret (de_fmod (de_int1 (de_varI ⟨c, rfl⟩)) (dv_var rfl) h1) fun s p => p))) fun _ => db_skip ?_
    refine qb_set (de_fmod (de_int1 (de_i0 (g := fun i j => i + j) (de_i0 (g := fun i j => i + j) (de_mulR ((de_fmod (de_int1 (de_varI ⟨c, rfl⟩)) dv_int (by decide)).imp fun s => below.a) dv_int (by decide) (by decide)) (de_mulL (de_conB (m := 200000) (by decide) (by decide)) (de_fget rfl .count) (by decide))) de_con)) dv_int (by decide)) fun s ⟨m1, es, a1, b1⟩ => ?_
    subst es
    refine qb_set (de_fmod (de_int1 (de_i0 (g := fun i j => i + j) (de_i0 (g := fun i j => i + j) (de_mulL ((dv_var rfl).imp fun s e => ⟨m1, e, a1, b1⟩) (de_varI ⟨m1, rfl⟩) (by decide)) (de_mulL (de_conB (m := 10000000) (by decide) (by decide)) (de_fget rfl .count) (by decide))) de_con)) dv_int (by decide)) fun s ⟨m2, es, a2, b2⟩ => ?_
    subst es
    exact db_ret (de_fmod (de_int1 (de_fdiv ((de_fmod (de_int1 (de_i0 (g := fun i j => i + j) (de_mulL ((dv_var rfl).imp fun s e => ⟨m2, e, a2, b2⟩) (de_varI ⟨m2, rfl⟩) (by decide)) (de_mulL (de_conB (m := 10000) (by decide) (by decide)) (de_varI ⟨m2, rfl⟩) (by decide)))) dv_int (by decide)).imp fun s => below.a) dv_int (by decide) (by decide))) (dv_var rfl) h1) fun s p => p
/-- what has items to draw of -/
theorem fn_law_any (T : TB mg) (G1 : Kn P w K mg base "_law_draw" P_law_draw 1 sp_law_draw) (F : Fd K "_law_any" s_law_any dvs kws f fd) : FnOk P w K mg base CX0 2 f fd P_law_any sp_law_any := mk_ok F sc_law_any (pe_law_any T G1) (fun _ _ _ => rfl) fun f O H x hp => by
  obtain ⟨ds, b⟩ := x
  obtain ⟨(h1 : ds ≠ []), (h2 : ds.length ≤ 1000)⟩ := hp
  have pos : 0 < ds.length := List.length_pos_iff.mpr h1
  cases b with
  | true =>
    refine db_ret (de_op (dv_var (d := .tuple ds) rfl) (de_call (P := below ds.length) (ds.length : Int) (dw_cons (dv_raw rfl) (dw_cons (dv_cb (dw_cons (dv_var (d := .tuple ds) rfl) dw_nil) rc_lenT) dw_nil)) ⟨by omega, by omega⟩ fun s e => e) fun s t es ⟨r, et, r1, r2⟩ => ?_) fun s p => p
    subst es et
    obtain ⟨k, rfl⟩ := Int.eq_ofNat_of_zero_le r1
    have hk : k < ds.length := by omega
    exact fun O H x y w hx hy Q q => dr_ixT (List.getElem?_eq_getElem hk) O H x y w hx hy Q fun v H' u x p r => q v H' u x ⟨_, List.getElem_mem hk, p⟩ r
  | false =>
    refine db_ret (de_op (dv_var (d := .list ds) rfl) (de_call (P := below ds.length) (ds.length : Int) (dw_cons (dv_raw rfl) (dw_cons (dv_cb (dw_cons (dv_var (d := .list ds) rfl) dw_nil) rc_lenL) dw_nil)) ⟨by omega, by omega⟩ fun s e => e) fun s t es ⟨r, et, r1, r2⟩ => ?_) fun s p => p
    subst es et
    obtain ⟨k, rfl⟩ := Int.eq_ofNat_of_zero_le r1
    have hk : k < ds.length := by omega
    exact fun O H x y w hx hy Q q => dr_ixL (List.getElem?_eq_getElem hk) O H x y w hx hy Q fun v H' u x p r => q v H' u x ⟨_, List.getElem_mem hk, p⟩ r
end
end K60

set_option maxHeartbeats 4000000
/-! K60: the law's own going through all sets. -/
namespace K60
open PySem PySem.Spec PyProof.Rows L2
/-! ### plain facts -/
theorem subs_next {N : List Str} {i : Nat} {n : Str} (h : N[i]? = some n) : subsets (N.take (i + 1)) = subsets (N.take i) ++ (subsets (N.take i)).map fun S => S ++ [n] := by
  unfold subsets
  rw [take_next h, List.foldl_append]
  rfl
theorem subs_two : ∀ (N : List Str) (F : List (List Str)), (N.foldl (fun F n => F ++ F.map fun S => S ++ [n]) F).length = 2 ^ N.length * F.length
  | [], F => by
    show F.length = 2 ^ 0 * F.length
    omega
  | n :: N, F => by
    rw [List.foldl_cons, subs_two N, List.length_append, List.length_map, List.length_cons, Nat.pow_succ, Nat.mul_assoc]
    congr 1
    omega
theorem subs_size {N : List Str} (h : N.length ≤ 4) : (subsets N).length ≤ 16 := by
  unfold subsets
  rw [subs_two]
  have : 2 ^ N.length ≤ 2 ^ 4 := Nat.pow_le_pow_right (by decide) h
  show 2 ^ N.length * 1 ≤ 16
  omega
theorem subs_sub {N S : List Str} (h : S ∈ subsets N) : S.Sublist N := by
  obtain ⟨A, hA, B, hB, e⟩ := mem_subs.mp h
  have : A = [] := by simpa using hA
  subst this
  rw [e]
  exact hB
theorem subs_short {N S : List Str} (h : S ∈ subsets N) (hN : N.length ≤ 4) : S.length ≤ 4 := Nat.le_trans (subs_sub h).length_le hN
theorem joint_if (a S : List Str) : (a.filter fun x => decide (x ∈ S)) = joint a S := rfl
theorem seq_len {α : Type} {g : α → PyData} {b : Bool} {xs : List α} : (if b then PyData.tuple (xs.map g) else .list (xs.map g)) = eSeq b g xs := rfl
section
variable {f : Fe} {ρ : List Sl} {K : PySem.W.Frag} {te ta tl : TE} {x : Str}
theorem dr_flatS : DR2 f L2.rEq (.dat (.str x)) (.dat (.str x)) (· = .dat (.bool true)) := dr_pure fun O H u v w hx hy => ⟨_, _, rfl, Rp.bl _, fun Q q => by
  rw [Rp.str_inv hx, Rp.str_inv hy]
  exact ⟨rfl, by rw [decide_eq_true rfl]; exact q⟩⟩
theorem di_S {α : Type} {g : α → PyData} {xs : List α} {b : Bool} (h : DE f tl ρ (· = .dat (eSeq b g xs))) : DI f (iSeq K tl) ρ (xs.map fun x => .dat (g x)) := by
  cases b with
  | true => exact di_T h
  | false => exact di_L h
end
section
variable {P : Program} {w : World} {K : PySem.W.Frag} {mg : Str → Option Value} {base : Heap} {f : Addr} {fd : FuncData} {dvs : List V} {kws : List (Str × V)}
theorem fn_law_same (T : TB mg) (F : Fd K "_law_same" s_law_same dvs kws f fd) : FnG P w K mg base 1 f fd P_law_same sp_law_same := mk_okG F sc_law_same (pe_law_same T) (fun _ _ _ => rfl) fun f O H d hp =>
  db_retv (dv_op (dv_cb (dw_cons (dv_var rfl) dw_nil) (rc_repr hp)) (dv_cb (dw_cons (dv_var rfl) dw_nil) (rc_repr hp)) dr_flatS) rfl
theorem fn_law_subsets (T : TB mg) (F : Fd K "_law_subsets" s_law_subsets dvs kws f fd) : FnOk P w K mg base CX0 1 f fd P_law_subsets sp_law_subsets := mk_ok F sc_law_subsets (pe_law_subsets T) (fun _ _ _ => rfl) fun f O H x hp => by
  obtain ⟨N, b⟩ := x
  have h4 : N.length ≤ 4 := hp
  refine qb_setv (de_lst (ds := [eSet []]) (dw_cons (de_tup (ds := []) dw_nil (Nat.zero_le _) rfl) dw_nil) (by decide) rfl) ?_
  refine qb_for (vs := [2]) (xs := N) (fun i S' => ∃ s2, S' = ⟨O, [], [.dat (eSeq b eS N), .dat (eL eSet (subsets (N.take i))), s2, .no]⟩) ⟨.no, rfl⟩ (di_S (dv_var rfl)) (fun i S' m => by obtain ⟨_, rfl⟩ := m; rfl) ?_ ?_
  · rintro i n S' hn ⟨s2, rfl⟩
    have l4 : (N.take i).length ≤ 4 := Nat.le_trans (List.length_take_le' ..) h4
    have sz := subs_size l4
    refine ⟨_, dg_name (by decide), db_set (dv_op (dv_var rfl) (lc_m (q := fun S => eSet (S ++ [n])) (di_L (dv_var rfl)) (by omega) (fun S hS => dg_name (by decide)) fun S hS => ?_) (dr_cat (ds := (subsets (N.take i)).map eSet) (es := (subsets (N.take i)).map fun S => eSet (S ++ [n])) ?_)) fun s es => ⟨.dat (eS n), ?_⟩⟩
    · have ls := subs_short hS l4
      refine (dv_op (dv_var rfl) (de_tup (ds := [eS n]) (dw_cons (dv_var rfl) dw_nil) (Nat.le_of_ble_eq_true rfl) rfl) (dr_catT (ds := S.map eS) (es := [eS n]) ?_ ?_)).cast ?_
      · rw [List.length_map]
        show S.length + 1 ≤ _
        omega
      · have e : S.map eS ++ [eS n] = (S ++ [n]).map eS := by rw [List.map_append]; rfl
        rw [e]
        exact isM_map fun _ => rfl
      · show Sl.dat (.tuple (S.map eS ++ [eS n])) = Sl.dat (.tuple ((S ++ [n]).map eS))
        rw [List.map_append]
        rfl
    · rw [List.length_map, List.length_map]
      omega
    · subst es
      rw [subs_next hn]
      show _ = (⟨O, [], [_, .dat (.list ((subsets (N.take i) ++ (subsets (N.take i)).map fun S => S ++ [n]).map eSet)), _, _]⟩ : Pt)
      rw [List.map_append, List.map_map]
      rfl
  · rintro S' ⟨s2, rfl⟩
    rw [List.take_length]
    exact db_retv (dv_var rfl) rfl
theorem fn_law_safe (T : TB mg) (G1 : Kn P w K mg base "_law_within" P_law_within 1 sp_law_within) (F : Fd K "_law_safe" s_law_safe dvs kws f fd) : FnOk P w K mg base CX0 2 f fd P_law_safe sp_law_safe := mk_ok F sc_law_safe (pe_law_safe T G1) (fun _ _ _ => rfl) fun f O H x hp => by
  obtain ⟨tr, S⟩ := x
  obtain ⟨⟨N, (t : TOk N tr)⟩, (fw : Few S)⟩ := hp
  have t4 := t.few
  refine qb_own fun p hp => ?_
  refine qb_for (vs := [3, 4, 5]) (xs := tr) (fun i S' => ∃ s3 s4 s5, S' = ⟨p :: O, [(p, .lst ((safeL (tr.take i) S).map eS))], [.dat (eTru tr), .dat (eSet S), .raw (.ref p), s3, s4, s5, .no]⟩) ⟨.no, .no, .no, rfl⟩ (di_T (dv_var rfl)) (fun i S' m => by obtain ⟨_, _, _, rfl⟩ := m; rfl) ?_ ?_
  · rintro i r S' hr ⟨s3, s4, s5, rfl⟩
    have mr := List.mem_of_getElem? hr
    obtain ⟨f1, f2, f3, f4⟩ := t.fears r mr
    have fg : ∀ g ∈ r.2.2, Few g := fun g hg => can_few t.mem (f3 g hg).1
    refine ⟨_, dg_tup (ds := [.str r.1, eSets r.2.1, eSets r.2.2]) (dgs_cons (dg_name (by decide)) (dgs_cons (dg_name (by decide)) (dgs_cons (dg_name (by decide)) dgs_nil))), db_if (B := (· = safeR r S)) ((tv_and (tv_test (dv_op (dv_var rfl) (dv_var rfl) (ni_ST (t.okr mr) fw.2))) fun _ => tv_test (dv_op (lc_fm (p := fun g => within S g) (q := eSet) (di_T (dv_var rfl)) (by omega) (fun g hg => dg_name (by decide)) (fun g hg => tv_B (dv_call (S, g) (dw_cons (dv_var rfl) (dw_cons (dv_var rfl) dw_nil)) ⟨fw, fg g hg⟩)) fun g hg _ => dv_var rfl) (de_lst (ds := []) dw_nil (by decide) rfl) (ne_nilL (lay_L fun g hg => lay_set (fg g (List.mem_filter.mp hg).1).2)))).cast ?_) (fun c => ?_) fun c => ?_⟩
    · rw [List.isEmpty_map]
      rfl
    · refine db_append (Pd := (· = eS r.1)) (i := 2) rfl rfl ((dv_var (d := eS r.1) rfl).imp fun s e => ⟨_, e, rfl⟩) ?_ fun d e => ⟨.dat (eS r.1), .dat (eSets r.2.1), .dat (eSets r.2.2), ?_⟩
      · unfold safeL
        rw [List.length_map, List.length_map]
        have h1 := List.length_filter_le (fun r => safeR r S) (tr.take i)
        have h2 := List.length_take_le' i tr
        omega
      · subst e
        unfold safeL
        rw [take_next hr, List.filter_append, List.map_append, List.map_append, List.filter_cons, if_pos c.symm]
        rfl
    · refine db_next ⟨.dat (eS r.1), .dat (eSets r.2.1), .dat (eSets r.2.2), ?_⟩
      unfold safeL
      rw [take_next hr, List.filter_append, List.map_append, List.map_append, List.filter_cons, if_neg (by rw [← c]; decide)]
      simp
  · rintro S' ⟨s3, s4, s5, rfl⟩
    rw [List.take_length]
    exact db_release (i := 2) rfl hp rfl rfl (fun _ h => h) (db_retv (dv_var rfl) rfl)
theorem safe_few {N : List Str} {T : Tru} (t : TOk N T) (S : List Str) : Few (safeL T S) := by
  have t4 := t.few
  refine ⟨?_, fun x hx => ?_⟩
  · unfold safeL
    rw [List.length_map]
    have h1 := List.length_filter_le (fun r => safeR r S) T
    omega
  · obtain ⟨r, hr, rfl⟩ := List.mem_map.mp hx
    exact t.okr (List.mem_filter.mp hr).1
theorem names4 {N : List Str} {T : Tru} (t : TOk N T) : (namesOf T).length ≤ 4 := by
  rw [t.names]
  exact (nms_len N t.mem).2
theorem subs_few {N : List Str} {T : Tru} (t : TOk N T) : ∀ S ∈ subsets (namesOf T), Can N S ∧ Few S := fun S hS => by
  rw [t.names] at hS
  have c := (mem_subsets t.nodup).mp hS
  exact ⟨c, can_few t.mem c⟩
theorem fn_law_safes (T : TB mg) (G1 : Kn P w K mg base "_law_subsets" P_law_subsets 1 sp_law_subsets) (G2 : Kn P w K mg base "_law_safe" P_law_safe 2 sp_law_safe) (F : Fd K "_law_safes" s_law_safes dvs kws f fd) : FnOk P w K mg base CX0 3 f fd P_law_safes sp_law_safes := mk_ok F sc_law_safes (pe_law_safes T G1 G2) (fun _ _ _ => rfl) fun f O H tr hp => by
  obtain ⟨N, (t : TOk N tr)⟩ := hp
  have t4 := t.few
  have n4 := names4 t
  have sz := subs_size n4
  refine qb_setv ((lc_m (q := fun r : Row => eS r.1) (di_T (dv_var rfl)) (by omega) (fun r hr => dg_name (by decide)) fun r hr => dv_ixT 0 (dv_var rfl) rfl).cast (v := .dat (eL eS (namesOf tr))) ?_) ?_
  · unfold namesOf eL
    rw [List.map_map]
    rfl
  refine qb_setv ((lc_m (q := fun S => ePS (S, safeL tr S)) (di_L (dv_call (namesOf tr, false) (dw_cons (dv_var rfl) dw_nil) n4)) (by show (subsets (namesOf tr)).length ≤ _; omega) (fun S hS => dg_name (by decide)) fun S hS => de_tup (ds := [eSet S, eL eS (safeL tr S)]) (dw_cons (dv_var rfl) (dw_cons (dv_call (tr, S) (dw_cons (dv_var rfl) (dw_cons (dv_var rfl) dw_nil)) ⟨⟨N, t⟩, (subs_few t S hS).2⟩) dw_nil)) (Nat.le_of_ble_eq_true rfl) rfl).cast (v := .dat (eL ePS ((subsets (namesOf tr)).map fun S => (S, safeL tr S)))) ?_) ?_
  · unfold eL
    rw [List.map_map]
    rfl
  refine db_retv (lc_fm (p := fun p : List Str × List Str => !p.2.isEmpty) (q := ePS) (di_L (dv_var rfl)) (by rw [List.length_map]; omega) (fun p hp => dg_name (by decide)) (fun p hp => (tv_test (dv_op (dv_ixT 1 (dv_var rfl) (d := eL eS p.2) rfl) (de_lst (ds := []) dw_nil (by decide) rfl) (ne_nilL (n := 1) ?_))).cast ?_) fun p hp _ => dv_var rfl) rfl
  · obtain ⟨S, hS, rfl⟩ := List.mem_map.mp hp
    exact lay_L fun x hx => lay_S ((safe_few t S).2 x hx)
  · rw [List.isEmpty_map]
theorem fn_law_minimal (T : TB mg) (G1 : Kn P w K mg base "_law_within" P_law_within 1 sp_law_within) (F : Fd K "_law_minimal" s_law_minimal dvs kws f fd) : FnOk P w K mg base CX0 2 f fd P_law_minimal sp_law_minimal := mk_ok F sc_law_minimal (pe_law_minimal T G1) (fun _ _ _ => rfl) fun f O H L hp => by
  obtain ⟨(h1 : L.length < 64), (h2 : ∀ s ∈ L, Few s)⟩ := hp
  have h3 : ∀ s ∈ ssort L, Few s := fun s hs => h2 s (mem_ssort.mp hs)
  refine qb_setv (dv_sortSet (dw_cons (dv_var rfl) dw_nil) h1) (db_retv (dv_cb (dw_cons (lc_fm (p := fun one => !((ssort L).any fun late => decide (late ≠ one) && within late one)) (q := eSet) (di_L (dv_var rfl)) (ssort_le h1) (fun z hz => dg_name (by decide))
    (fun one ho => (tv_test (dv_op (lc_fm (p := fun late => decide (late ≠ one) && within late one) (q := eSet) (di_L (dv_var rfl)) (ssort_le h1) (fun z hz => dg_name (by decide)) (fun late hl => tv_and (tv_test (dv_op (dv_var rfl) (dv_var rfl) (ne_setd (h3 late hl).2 (h3 one ho).2))) fun _ => tv_B (dv_call (late, one) (dw_cons (dv_var rfl) (dw_cons (dv_var rfl) dw_nil)) ⟨h3 late hl, h3 one ho⟩)) fun z hz _ => dv_var rfl) (de_lst (ds := []) dw_nil (by decide) rfl) (eq_nilL (lay_L fun g hg => lay_set (h3 g (List.mem_filter.mp hg).1).2)))).cast ?_)
    fun one ho _ => dv_var rfl) dw_nil) tup_L) rfl)
  rw [List.isEmpty_map, Bool.eq_iff_iff, List.isEmpty_iff, List.filter_eq_nil_iff]
  simp
theorem fn_law_needs (T : TB mg) (G1 : Kn P w K mg base "_law_less" P_law_less 1 sp_law_less) (G2 : Kn P w K mg base "_law_minimal" P_law_minimal 2 sp_law_minimal) (F : Fd K "_law_needs" s_law_needs dvs kws f fd) : FnOk P w K mg base CX0 3 f fd P_law_needs sp_law_needs := mk_ok F sc_law_needs (pe_law_needs T G1 G2) (fun _ _ _ => rfl) fun f O H x hp => by
  obtain ⟨tr, h⟩ := x
  obtain ⟨N, (t : TOk N tr), (hh : h ∈ N)⟩ := hp
  have t4 := t.few
  have ll := law_len t hh
  have pin : ∀ p ∈ safesL tr, Few p.1 ∧ Few p.2 ∧ Can N p.1 := fun p hp => by
    obtain ⟨S, hS, rfl⟩ := List.mem_map.mp (List.mem_filter.mp hp).1
    exact ⟨(subs_few t S hS).2, safe_few t S, (subs_few t S hS).1⟩
  have lim : ∀ i, ((safesL tr).take i).flatMap (fun p => lawOne tr h p) = ((safesL tr).take i).flatMap fun p => lawOne tr h p := fun _ => rfl
  refine qb_setv (de_lst (ds := []) dw_nil (by decide) rfl) ?_
  refine qb_for (vs := [4, 5]) (xs := safesL tr) (fun i S' => ∃ s4 s5 s6 s7 s8, S' = ⟨O, [], [.dat (eTru tr), .dat (eL ePS (safesL tr)), .dat (eS h), .dat (eL eSet (((safesL tr).take i).flatMap fun p => lawOne tr h p)), s4, s5, s6, s7, s8, .no]⟩) ⟨.no, .no, .no, .no, .no, rfl⟩ (di_L (dv_var rfl)) (fun i S' m => by obtain ⟨_, _, _, _, _, rfl⟩ := m; rfl) ?_ ?_
  · rintro i p S' hp ⟨s4, s5, s6, s7, s8, rfl⟩
    have mp := List.mem_of_getElem? hp
    obtain ⟨p1, p2, p3⟩ := pin p mp
    have fl := flat_le (g := fun p => lawOne tr h p) (l := safesL tr) i
    have nx := flat_next (g := fun p => lawOne tr h p) hp
    have fl2 := flat_le (g := fun p => lawOne tr h p) (l := safesL tr) (i + 1)
    rw [nx] at fl2
    rw [nx]
    generalize (((safesL tr).take i).flatMap fun p => lawOne tr h p) = acc at fl fl2 ⊢
    refine ⟨_, dg_tup (ds := [eSet p.1, eL eS p.2]) (dgs_cons (dg_name (by decide)) (dgs_cons (dg_name (by decide)) dgs_nil)), ?_⟩
    let g : Row → List (List Str) := fun r => if h ∈ p.2 ∧ r.1 ∈ p.2 ∧ r.1 ≠ h then r.2.1.map fun l => less l p.1 else []
    have eg : lawOne tr h p = tr.flatMap g := rfl
    refine db_for (vs := [6, 7, 8]) (xs := tr) (fun j S' => ∃ s6 s7 s8, S' = ⟨O, [], [.dat (eTru tr), .dat (eL ePS (safesL tr)), .dat (eS h), .dat (eL eSet (acc ++ (tr.take j).flatMap g)), .dat (eSet p.1), .dat (eL eS p.2), s6, s7, s8, .no]⟩) ⟨s6, s7, s8, ?_⟩ (di_T (dv_var rfl)) (fun i S' m => by obtain ⟨_, _, _, rfl⟩ := m; rfl) ?_ ?_
    · rw [List.take_zero, List.flatMap_nil, List.append_nil]
      rfl
    · rintro j r S' hr ⟨s6, s7, s8, rfl⟩
      have mr := List.mem_of_getElem? hr
      obtain ⟨l1, l2, l3, l4⟩ := t.lots r mr
      have le1 := flat_le (g := g) (l := tr) (j + 1)
      rw [flat_next hr] at le1
      rw [List.length_append] at le1 fl2
      rw [eg] at fl2
      have nx2 := flat_next (g := g) hr
      refine ⟨_, dg_tup (ds := [.str r.1, eSets r.2.1, eSets r.2.2]) (dgs_cons (dg_name (by decide)) (dgs_cons (dg_name (by decide)) (dgs_cons (dg_name (by decide)) dgs_nil))), db_if (B := fun b => b = (decide (h ∈ p.2) && (decide (r.1 ∈ p.2) && !decide (r.1 = h)))) (tv_and (tv_test (dv_op (dv_var rfl) (dv_var rfl) (in_SL (nm_ok t.mem hh) p2.2))) fun _ => tv_and (tv_test (dv_op (dv_var rfl) (dv_var rfl) (in_SL (t.okr mr) p2.2))) fun _ => tv_test (dv_op (dv_var rfl) (dv_var rfl) (ne_S (t.okr mr) (nm_ok t.mem hh)))) (fun c => ?_) fun c => ?_⟩
      · have gr : g r = r.2.1.map fun l => less l p.1 := if_pos (by
          have c2 := c.symm
          rw [Bool.and_eq_true, Bool.and_eq_true, decide_eq_true_eq, decide_eq_true_eq, Bool.not_eq_true', decide_eq_false_iff_not] at c2
          exact c2)
        rw [gr, List.length_map] at le1
        refine db_set (dv_op (dv_var rfl) (lc_m (q := fun l => eSet (less l p.1)) (di_T (dv_var rfl)) (by omega) (fun l hl => dg_name (by decide)) fun l hl => dv_call (l, p.1) (dw_cons (dv_var rfl) (dw_cons (dv_var rfl) dw_nil)) ⟨can_few t.mem (l3 l hl).1, p1⟩) (dr_cat (ds := (acc ++ (tr.take j).flatMap g).map eSet) (es := r.2.1.map fun l => eSet (less l p.1)) ?_)) fun s es => ⟨.dat (eS r.1), .dat (eSets r.2.1), .dat (eSets r.2.2), ?_⟩
        · rw [List.length_map, List.length_map, List.length_append]
          omega
        · subst es
          rw [nx2, gr, ← List.append_assoc]
          have e3 : ((acc ++ (tr.take j).flatMap g) ++ r.2.1.map fun l => less l p.1).map eSet = (acc ++ (tr.take j).flatMap g).map eSet ++ r.2.1.map fun l => eSet (less l p.1) := by
            rw [List.map_append (l₁ := acc ++ (tr.take j).flatMap g), List.map_map]
            rfl
          show _ = (⟨O, [], [_, _, _, .dat (.list (((acc ++ (tr.take j).flatMap g) ++ r.2.1.map fun l => less l p.1).map eSet)), _, _, _, _, _, _]⟩ : Pt)
          rw [e3]
          rfl
      · have gr : g r = [] := if_neg (fun z => by
          obtain ⟨z1, z2, z3⟩ := z
          rw [decide_eq_true z1, decide_eq_true z2, decide_eq_false z3] at c
          exact nomatch c)
        refine db_next ⟨.dat (eS r.1), .dat (eSets r.2.1), .dat (eSets r.2.2), ?_⟩
        rw [nx2, gr, List.append_nil]
        rfl
    · rintro S' ⟨s6, s7, s8, rfl⟩
      rw [List.take_length]
      exact ⟨_, _, _, _, _, rfl⟩
  · rintro S' ⟨s4, s5, s6, s7, s8, rfl⟩
    rw [List.take_length]
    refine db_retv (dv_call ((safesL tr).flatMap fun p => lawOne tr h p) (dw_cons (dv_var rfl) dw_nil) ⟨Nat.lt_of_le_of_lt ll (by decide), fun s hs => ?_⟩) rfl
    obtain ⟨p, hp, hs⟩ := List.mem_flatMap.mp hs
    obtain ⟨r, hr, hs⟩ := List.mem_flatMap.mp hs
    split at hs
    · obtain ⟨l, hl, rfl⟩ := List.mem_map.mp hs
      exact can_few t.mem (can_less ((t.lots r hr).2.2.1 l hl).1)
    · cases hs
theorem fn_law_meets (T : TB mg) (F : Fd K "_law_meets" s_law_meets dvs kws f fd) : FnOk P w K mg base CX0 1 f fd P_law_meets sp_law_meets := mk_ok F sc_law_meets (pe_law_meets T) (fun _ _ _ => rfl) fun f O H x hp => by
  obtain ⟨needs, S, b⟩ := x
  obtain ⟨⟨(n1 : needs.length ≤ 100), (n2 : ∀ s ∈ needs, Few s)⟩, (fw : Few S)⟩ := hp
  refine db_retv (dv_op (lc_fm (p := fun one => (joint one S).isEmpty) (q := eSet) (di_S (dv_var (d := eSeq b eSet needs) rfl)) (by omega) (fun z hz => dg_name (by decide)) (fun one ho => (tv_test (dv_op (lc_fm (p := fun x => decide (x ∈ S)) (q := eS) (di_T (dv_var rfl)) (few_le (n2 one ho)) (fun z hz => dg_name (by decide)) (fun z hz => tv_test (dv_op (dv_var rfl) (dv_var rfl) (in_ST ((n2 one ho).2 z hz) fw.2))) fun z hz _ => dv_var rfl) (de_lst (ds := []) dw_nil (by decide) rfl) (eq_nilL (lay_L fun z hz => lay_S ((n2 one ho).2 z (List.mem_filter.mp hz).1))))).cast ?_) fun z hz _ => dv_var rfl) (de_lst (ds := []) dw_nil (by decide) rfl) (eq_nilL (lay_L fun g hg => lay_set (n2 g (List.mem_filter.mp hg).1).2))) ?_
  · rw [List.isEmpty_map]
    rfl
  · show Sl.dat (eB ((needs.filter fun one => (joint one S).isEmpty).map eSet).isEmpty) = Sl.dat (eB (lawMeets needs S))
    rw [List.isEmpty_map]
    rfl
theorem fn_law_least (T : TB mg) (G1 : Kn P w K mg base "_law_subsets" P_law_subsets 1 sp_law_subsets) (G2 : Kn P w K mg base "_law_meets" P_law_meets 1 sp_law_meets) (G3 : Kn P w K mg base "_law_minimal" P_law_minimal 2 sp_law_minimal) (F : Fd K "_law_least" s_law_least dvs kws f fd) : FnOk P w K mg base CX0 3 f fd P_law_least sp_law_least := mk_ok F sc_law_least (pe_law_least T G1 G2 G3) (fun _ _ _ => rfl) fun f O H x hp => by
  obtain ⟨needs, N⟩ := x
  obtain ⟨(nn : NSs needs), (hN : N ∈ NMS)⟩ := hp
  have n4 := (nms_len N hN).2
  have sz := subs_size n4
  have sf : ∀ S ∈ subsets N, Few S := fun S hS => can_few hN ((mem_subsets (nms_nodup N hN)).mp hS)
  refine db_retv (dv_call ((subsets N).filter fun S => lawMeets needs S) (dw_cons (lc_fm (p := fun S => lawMeets needs S) (q := eSet) (di_L (dv_call (N, true) (dw_cons (dv_var rfl) dw_nil) n4)) (by show (subsets N).length ≤ _; omega) (fun S hS => dg_name (by decide)) (fun S hS => tv_B (dv_call (needs, S, true) (dw_cons (dv_var rfl) (dw_cons (dv_var rfl) dw_nil)) ⟨nn, sf S hS⟩)) fun S hS _ => dv_var rfl) dw_nil) ⟨?_, fun s hs => sf s (List.mem_filter.mp hs).1⟩) rfl
  have := List.length_filter_le (fun S => lawMeets needs S) (subsets N)
  omega
end
end K60

set_option maxHeartbeats 4000000
/-! K60: the drawn trust, the machine. -/
namespace K60
open PySem PySem.Spec PyProof.Rows L2
/-! ### plain facts -/
def BASES : List (List Str) := [["a", "b", "c", "d"], ["east", "n", "west", "zz"], ["ada", "bo", "cy", "di"]]
theorem bases_nms : ∀ B ∈ BASES, ∀ k ∈ [2, 3, 4], B.take k ∈ NMS := by decide +kernel
/-- the sets to draw of -/
abbrev pool (N : List Str) : List (List Str) := (subsets N).tail
abbrev large (N : List Str) : List (List Str) := (pool N).filter fun one => decide ((one.length : Int) = (N.length : Int).fdiv 2 + 1)
theorem pool_facts : ∀ N ∈ NMS, pool N ≠ [] ∧ (pool N).length ≤ 15 ∧ (large N).length ≤ 4 ∧ (∀ S ∈ pool N, S ≠ []) ∧ ∀ x ∈ N, [x] ∈ subsets N := by decide +kernel
theorem rest_len : ∀ N ∈ NMS, ∀ h ∈ N, (less N [h]).length ≤ 3 := by decide +kernel
theorem full_ne : ∀ N ∈ NMS, N ≠ [] := by decide +kernel
theorem pool_can {N S : List Str} (hN : N ∈ NMS) (h : S ∈ pool N) : Can N S ∧ S ≠ [] := ⟨(mem_subsets (nms_nodup N hN)).mp (List.mem_of_mem_tail h), (pool_facts N hN).2.2.2.1 S h⟩
theorem rest_can {N S : List Str} {h : Str} (hN : N ∈ NMS) (hS : S ∈ subsets (less N [h])) : Can N S ∧ h ∉ S := by
  have sub := subs_sub hS
  have sub2 : (less N [h]).Sublist N := List.filter_sublist
  refine ⟨sub_can (nms_nodup N hN) (sub.trans sub2), fun m => ?_⟩
  have z := (List.mem_filter.mp (sub.subset m)).2
  simp at z
theorem one_can {N : List Str} {h x : Str} (hN : N ∈ NMS) (hx : x ∈ less N [h]) : Can N [x] ∧ h ∉ [x] := by
  obtain ⟨m, z⟩ := List.mem_filter.mp hx
  refine ⟨(mem_subsets (nms_nodup N hN)).mp ((pool_facts N hN).2.2.2.2 x m), fun e => ?_⟩
  have e2 : h = x := by simpa using e
  subst e2
  simp at z
/-- what a row of a drawn trust is -/
structure RowOk (N : List Str) (r : Row) : Prop where
  lots : r.2.1 ≠ [] ∧ r.2.1.length ≤ 4 ∧ (∀ l ∈ r.2.1, Can N l ∧ l ≠ []) ∧ r.2.1.Pairwise tupLt
  fears : r.2.2 ≠ [] ∧ r.2.2.length ≤ 4 ∧ (∀ g ∈ r.2.2, Can N g ∧ r.1 ∉ g) ∧ r.2.2.Pairwise tupLt
theorem row_of {N : List Str} {x : Str} {A B : List (List Str)} (a1 : A ≠ []) (a2 : A.length ≤ 4) (a3 : ∀ l ∈ A, Can N l ∧ l ≠ []) (b1 : B ≠ []) (b2 : B.length ≤ 4) (b3 : ∀ g ∈ B, Can N g ∧ x ∉ g) : RowOk N (x, ssort A, ssort B) := by
  have ne : ∀ {L : List (List Str)}, L ≠ [] → ssort L ≠ [] := fun {L} h e => by
    obtain ⟨a, r, rfl⟩ := List.exists_cons_of_ne_nil h
    have : a ∈ ssort (a :: r) := mem_ssort.mpr (List.mem_cons_self ..)
    rw [e] at this
    cases this
  exact ⟨⟨ne a1, Nat.le_trans (ssort_len A) a2, fun l hl => a3 l (mem_ssort.mp hl), pw_ssort A⟩, ⟨ne b1, Nat.le_trans (ssort_len B) b2, fun g hg => b3 g (mem_ssort.mp hg), pw_ssort B⟩⟩
theorem tok_of {N : List Str} {T : Tru} (hN : N ∈ NMS) (h1 : namesOf T = N) (h2 : ∀ r ∈ T, RowOk N r) : TOk N T := ⟨hN, h1, fun r hr => (h2 r hr).lots, fun r hr => (h2 r hr).fears⟩
/-- a list, or that where it is empty -/
def orL (L D : List (List Str)) : List (List Str) := if L.isEmpty then D else L
theorem orL_ne {L D : List (List Str)} (h : D ≠ []) : orL L D ≠ [] := by
  unfold orL
  cases L with
  | nil => exact h
  | cons a L => exact fun e => nomatch e
theorem orL_all {p : List Str → Prop} {L D : List (List Str)} (h1 : ∀ s ∈ L, p s) (h2 : ∀ s ∈ D, p s) : ∀ s ∈ orL L D, p s := by
  unfold orL
  split
  · exact h2
  · exact h1
theorem orL_len {L D : List (List Str)} {n : Nat} (h1 : L.length ≤ n) (h2 : D.length ≤ n) : (orL L D).length ≤ n := by
  unfold orL
  split
  · exact h2
  · exact h1
/-! ### rules -/
section
variable {f : Fe} {ρ : List Sl} {K : PySem.W.Frag} {te ta tb : TE} {tA : TA} {P Pa : Sl → Prop} {α : Type}
/-- t[:k], neither known -/
theorem de_takeT {Pd : List PyData → Prop} {Pk : Nat → Prop} (h : DE f te ρ fun s => ∃ ds, s = .dat (.tuple ds) ∧ Pd ds) (hk : DE f ta ρ fun s => ∃ k : Nat, s = .dat (.int (k : Int)) ∧ Pk k) (nm : ∀ ds k, Pd ds → Pk k → isM (ds.take k) = false) :
    DE f (L2.tSl (rSlA K) te tNoPart (tPart ta)) ρ fun s => ∃ ds k, Pd ds ∧ Pk k ∧ s = .dat (.tuple (ds.take k)) := fun O σ H w e Q q => h O σ H w e _ fun v H1 s x1 p r => by
  obtain ⟨ds, rfl, pd⟩ := p
  refine hk O σ H1 (w.ext x1) (e.mono (x1.hid w.fO)) _ fun u H3 s3 x2 p2 r2 => ?_
  obtain ⟨k, rfl, pk⟩ := p2
  have ek := Rp.int_inv r2
  subst ek
  have w3 := (w.ext x1).ext x2
  have r3 := Rp.mono (x2.hid w.fO) r
  obtain ⟨a, xs, rfl, ha, rl⟩ := Rp.tup_inv r3
  refine ⟨(k : Int), rfl, a, xs, rfl, .inl (rd_get ha).1, fun z => q _ H3 _ (x1.trans x2) ⟨ds, k, pd, pk, rfl⟩ ?_, fun z p hp => q _ _ _ ((x1.trans x2).trans (w3.new hp)) ⟨ds, k, pd, pk, rfl⟩ ?_⟩
  · rw [rl.len] at z
    have e2 : cutD ds none (some (k : Int)) = ds := by
      unfold cutD
      rw [z.1, z.2, List.drop_zero, Nat.sub_zero, List.take_length]
    rw [cut_take] at e2
    rw [e2]
    exact r3
  · have z2 := rl.cut none (some (k : Int))
    rw [cut_take] at z2
    exact .mkT (w3.hnew hp) (z2.mono ((w3.new hp).hid w.fO)) (nm ds k pd pk)
/-- over range(e), e drawn -/
theorem de_lcBind {g : TG} {tt : TT} {vs : List Nat} (h : DE f te ρ Pa) (hz : ∀ s, Pa s → ∃ n : Nat, s = .dat (.int (n : Int))) (k : ∀ n : Nat, Pa (.dat (.int (n : Int))) → DE f (tLc (iRng1 (tCons (tC (.int (n : Int))) tNil)) g tt tb vs) ρ P) : DE f (tLc (iRng1 (tCons te tNil)) g tt tb vs) ρ P := fun O σ H w e Q q => h O σ H w e _ fun v H1 s x1 p1 r1 => by
  obtain ⟨n, rfl⟩ := hz s p1
  have ev := Rp.int_inv r1
  subst ev
  exact k n p1 O σ H1 (w.ext x1) (e.mono (x1.hid w.fO)) Q fun v H' s x p r => q v H' s (x1.trans x) p r
/-- some of a list, as drawn -/
theorem de_some {wi : TI} {gt : TG} {tt : TT} {vs : List Nat} {enc : α → Sl} {zs : List α} {ρ' : α → List Sl} {q : α → PyData} (hi : DI f wi ρ (zs.map enc)) (hz : zs.length ≤ 100000) (hg : ∀ z ∈ zs, DG f gt vs (enc z) (wipeS ρ vs) (ρ' z))
    (ht : ∀ z ∈ zs, DT f tt (ρ' z) fun _ => True) (he : ∀ z ∈ zs, DE f te (ρ' z) (· = .dat (q z))) : DE f (tLc wi gt tt te vs) ρ fun s => ∃ L, s = .dat (eL q L) ∧ L.Sublist zs := by
  refine de_lcN (fun i acc => ∃ L, acc = L.map q ∧ L.Sublist (zs.take i)) hz hi hg ⟨[], rfl, List.nil_sublist _⟩ (fun i z acc hx ⟨L, e, s⟩ => ⟨_, ht z (List.mem_of_getElem? hx), fun _ => (he z (List.mem_of_getElem? hx)).imp fun u eu => ⟨q z, eu, L ++ [z], ?_, ?_⟩, fun _ => ⟨L, e, ?_⟩⟩) fun acc _ ⟨L, e, s⟩ => ⟨L, ?_, ?_⟩
  · rw [e, List.map_append]
    rfl
  · rw [take_next hx]
    exact s.append (List.Sublist.refl _)
  · rw [take_next hx]
    exact s.trans (List.sublist_append_left _ _)
  · rw [e]
    rfl
  · rw [List.take_length] at s
    exact s
/-- n things, each drawn -/
theorem de_draws {gt : TG} {vs : List Nat} {n : Nat} {ρ' : Nat → List Sl} {q : α → PyData} {p : α → Prop} (hz : n ≤ 100) (hg : ∀ i : Nat, DG f gt vs (.dat (.int (i : Int))) (wipeS ρ vs) (ρ' i))
    (he : ∀ i, DE f te (ρ' i) fun s => ∃ a, s = .dat (q a) ∧ p a) : DE f (tLc (iRng1 (tCons (tC (.int (n : Int))) tNil)) gt tYes te vs) ρ fun s => ∃ L, s = .dat (eL q L) ∧ L.length ≤ n ∧ ∀ a ∈ L, p a := by
  refine de_lcN (xs := List.range n) (enc := fun i : Nat => Sl.dat (.int (i : Int))) (ρ' := ρ') (fun i acc => ∃ L : List α, acc = L.map q ∧ L.length ≤ i ∧ ∀ a ∈ L, p a) (by rw [List.length_range]; omega) (di_range1 (dw_cons dv_int dw_nil) (by omega)) (fun i _ => hg i) ⟨[], rfl, Nat.le_refl _, fun a h => nomatch h⟩
    (fun i z acc hx ⟨L, e, l, al⟩ => ⟨(· = true), dt_yes, fun _ => (he z).imp fun u ⟨a, eu, pa⟩ => ⟨q a, eu, L ++ [a], ?_, ?_, ?_⟩, fun z => nomatch z⟩) fun acc _ ⟨L, e, l, al⟩ => ⟨L, by rw [e]; rfl, by rw [List.length_range] at l; exact l, al⟩
  · rw [e, List.map_append]
    rfl
  · rw [List.length_append, List.length_singleton]
    omega
  · intro b hb
    rcases List.mem_append.mp hb with z | z
    · exact al b z
    · rw [List.mem_singleton.mp z]
      exact pa
/-- x if x != [] else e -/
theorem dv_orL {i : Nat} {L D : List (List Str)} (hi : ρ[i]? = some (.dat (eL eSet L))) (hL : ∀ s ∈ L, Few s) (h : DE f tb ρ (· = .dat (eL eSet D))) : DE f (tIf (tTest (tOp (rNeD K) (tVar i) (tLst tNil))) (tVar i) tb) ρ (· = .dat (eL eSet (orL L D))) := by
  refine de_if (B := (· = !L.isEmpty)) ((tv_test (dv_op (dv_var hi) (de_lst (ds := []) dw_nil (by decide) rfl) (ne_nilL (lay_L fun g hg => lay_set (hL g hg).2)))).cast (by rw [List.isEmpty_map])) (fun c => ?_) fun c => ?_
  · unfold orL
    have e : L.isEmpty = false := by simpa using c.symm
    rw [e]
    exact dv_var hi
  · unfold orL
    have e : L.isEmpty = true := by simpa using c.symm
    rw [e]
    exact h
end
section
variable {f : Fe} {O0 : List Addr} {H0 : Hp} {K : PySem.W.Frag} {te : TE} {S : Pt} {N : Pt → Prop} {R : Sl → Prop} {u : TS} {P : Sl → Prop}
/-- x, y = e, [] : y a list of one's own -/
theorem qb_parOwn {i j : Nat} {s : Sl} (h : DE f te S.ρ (· = s)) (k : ∀ p, p ∉ S.O → DB f O0 H0 u ⟨p :: S.O, (p, .lst []) :: S.ω, (S.ρ.set i s).set j (.raw (.ref p))⟩ N R) : DB f O0 H0 (tSeq (tAsg (tTup (tCons te (tCons (tLst tNil) tNil))) (gTup K 2 (gCons (gName i) (gCons (gName j) gNil)))) u) S N R := fun σ H D o nx rt => h S.O σ H o.wd o.env _ fun v H1 s1 x1 p1 r1 => by
  subst p1
  refine ⟨Nat.zero_le _, fun p hp => ⟨Nat.le_of_ble_eq_true rfl, fun t ht => ?_⟩⟩
  have o1 := (o.on x1).put (i := i) r1
  obtain ⟨o2, tr, nO⟩ := o1.born (i := j) (o' := .lst []) (b := .lst []) hp ⟨[], upd_same, .nil⟩
  have x3 := o2.wd.new (o := .tup [v, .ref p]) ht
  have o3 := o2.on x3
  exact ⟨t, [v, .ref p], rfl, .inl (.inl upd_same), rfl, v, [.ref p], rfl, .ref p, [], rfl, rfl, k p nO _ _ D o3 (fun S' σ' H' n o' tr' => nx S' σ' H' n o' ((((Tr.of x1 o.wd.fO).trans tr).trans (Tr.of x3 o2.wd.fO)).trans tr')) rt⟩
end
section
variable {P : Program} {w : World} {K : PySem.W.Frag} {mg : Str → Option Value} {base : Heap} {f : Addr} {fd : FuncData} {dvs : List V} {kws : List (Str × V)}
theorem draw_lt {f : Fe} {ρ : List Sl} {te : TE} {E : XK} {n : Int} {Q : Sl → Prop} (h : DE f te ρ (· = .raw (.ref f.1))) (h1 : 0 < n) (h2 : n < 1000000) (k : ∀ s, below n s → Q s) : DE f (tCall sp_law_draw [] E (tCons te (tCons (tC (.int n)) tNil))) ρ Q := de_call n (dw_cons h (dw_cons dv_int dw_nil)) ⟨h1, h2⟩ fun s p => k s p
theorem below_nat {n : Nat} {s : Sl} (h : below (n : Int) s) : ∃ k : Nat, s = .dat (.int (k : Int)) ∧ k < n := by
  obtain ⟨r, rfl, r1, r2⟩ := h
  obtain ⟨k, rfl⟩ := Int.eq_ofNat_of_zero_le r1
  exact ⟨k, rfl, by omega⟩
/-- draw(feed, n) == 0 -/
theorem dt_draw0 {f : Fe} {ρ : List Sl} {K : PySem.W.Frag} {i : Nat} {n : Int} {E : XK} (hi : ρ[i]? = some (.raw (.ref f.1))) (h1 : 0 < n) (h2 : n < 1000000) : DE f (tOp (rEqD K) (tCall sp_law_draw [] E (tCons (tVar i) (tCons (tC (.int n)) tNil))) (tC (.int 0))) ρ fun s => ∃ b, s = .dat (.bool b) ∧ True := de_op (draw_lt (dv_raw hi) h1 h2 fun s p => p) dv_int fun s t ⟨r, es, _⟩ et => by
  subst es et
  exact fun O H x y w hx hy Q q => eq_I O H x y w hx hy Q fun v H' u x p r => q v H' u x ⟨_, p, trivial⟩ r
theorem dt_drawP {f : Fe} {ρ : List Sl} {i : Nat} {n : Int} {E : XK} (hi : ρ[i]? = some (.raw (.ref f.1))) (h1 : 0 < n) (h2 : n < 1000000) : DT f (tTest (tOp (rI0 fun i j => .bl (decide (j < i))) (tCall sp_law_draw [] E (tCons (tVar i) (tCons (tC (.int n)) tNil))) (tC (.int 0)))) ρ fun _ => True := dt_i0 (g := fun i j => decide (j < i)) (draw_lt (dv_raw hi) h1 h2 fun s p => p.a) de_con
/-- any of a list -/
theorem any_L2 {f : Fe} {ρ : List Sl} {ta tb : TE} {E : XK} {α : Type} {q : α → PyData} {zs : List α} {Q : Sl → Prop} (ha : DE f ta ρ (· = .raw (.ref f.1))) (hb : DE f tb ρ (· = .dat (eL q zs))) (h1 : zs ≠ []) (h2 : zs.length ≤ 1000) (k : ∀ z ∈ zs, Q (.dat (q z))) : DE f (tCall sp_law_any [] E (tCons ta (tCons tb tNil))) ρ Q := de_call (zs.map q, false) (dw_cons ha (dw_cons hb dw_nil)) ⟨by simpa using h1, by rw [List.length_map]; exact h2⟩ fun s ⟨d, hd, e⟩ => by
  obtain ⟨z, hz, rfl⟩ := List.mem_map.mp hd
  rw [e]
  exact k z hz
theorem any_T2 {f : Fe} {ρ : List Sl} {ta tb : TE} {E : XK} {α : Type} {q : α → PyData} {zs : List α} {Q : Sl → Prop} (ha : DE f ta ρ (· = .raw (.ref f.1))) (hb : DE f tb ρ (· = .dat (eT q zs))) (h1 : zs ≠ []) (h2 : zs.length ≤ 1000) (k : ∀ z ∈ zs, Q (.dat (q z))) : DE f (tCall sp_law_any [] E (tCons ta (tCons tb tNil))) ρ Q := de_call (zs.map q, true) (dw_cons ha (dw_cons hb dw_nil)) ⟨by simpa using h1, by rw [List.length_map]; exact h2⟩ fun s ⟨d, hd, e⟩ => by
  obtain ⟨z, hz, rfl⟩ := List.mem_map.mp hd
  rw [e]
  exact k z hz
theorem dw_strs4 {f : Fe} {ρ : List Sl} {a b c d : Str} : DE f (tTup (tCons (tC (.str a)) (tCons (tC (.str b)) (tCons (tC (.str c)) (tCons (tC (.str d)) tNil))))) ρ (· = .dat (eSet [a, b, c, d])) := de_tup (ds := [eS a, eS b, eS c, eS d]) (dw_cons dv_str (dw_cons dv_str (dw_cons dv_str (dw_cons dv_str dw_nil)))) (Nat.le_of_ble_eq_true rfl) rfl rfl
theorem fn_law_guild (T : TB mg) (G1 : Kn P w K mg base "_law_any" P_law_any 2 sp_law_any) (G2 : Kn P w K mg base "_law_subsets" P_law_subsets 1 sp_law_subsets) (G3 : Kn P w K mg base "_law_draw" P_law_draw 1 sp_law_draw) (G4 : Kn P w K mg base "_law_less" P_law_less 1 sp_law_less) (F : Fd K "_law_guild" s_law_guild dvs kws f fd) : FnOk P w K mg base CX0 3 f fd P_law_guild sp_law_guild := mk_ok F sc_law_guild (pe_law_guild T G1 G2 G3 G4) (fun _ _ _ => rfl) fun f O H x hp => by
  refine qb_setv (de_lst (ds := BASES.map eSet) (dw_cons dw_strs4 (dw_cons dw_strs4 (dw_cons dw_strs4 dw_nil))) (by decide) rfl) ?_
  refine qb_set (P := fun s => ∃ N ∈ NMS, s = .dat (eSet N)) ((de_takeT (Pd := fun ds => ∃ B ∈ BASES, ds = B.map eS) (Pk := fun k => k ∈ [2, 3, 4]) (any_L2 (zs := BASES) (q := eSet) (dv_raw rfl) (dv_var rfl) (by decide) (by decide) fun B hB => ⟨_, rfl, B, hB, rfl⟩) (any_L2 (zs := [2, 3, 3, 3, 4]) (q := fun k : Nat => .int (k : Int)) (dv_raw rfl) (de_lst (ds := [.int 2, .int 3, .int 3, .int 3, .int 4]) (dw_cons dv_int (dw_cons dv_int (dw_cons dv_int (dw_cons dv_int (dw_cons (dv_var rfl) dw_nil))))) (by decide) rfl) (by decide) (by decide) fun k hk => ⟨k, rfl, ?_⟩) ?_).imp ?_) ?_
  · revert k
    decide
  · rintro ds k ⟨B, hB, rfl⟩ _
    rw [← List.map_take]
    exact isM_map fun _ => rfl
  · rintro s ⟨ds, k, ⟨B, hB, rfl⟩, hk, rfl⟩
    exact ⟨B.take k, bases_nms B hB k hk, by rw [← List.map_take]; rfl⟩
  rintro s ⟨N, hN, rfl⟩
  have n4 := (nms_len N hN).2
  have fN : Few N := can_few hN (can_self N)
  obtain ⟨q1, q2, q3, q4, q5⟩ := pool_facts N hN
  have pf : ∀ S ∈ pool N, Few S := fun S hS => can_few hN (pool_can hN hS).1
  refine qb_parOwn ((dv_tailL (dv_call (N, true) (dw_cons (dv_var rfl) dw_nil) n4)).cast (v := .dat (eL eSet (pool N))) ?_) fun p hp => ?_
  · show Sl.dat (.list ((subsets N).map eSet).tail) = _
    rw [← List.map_tail]
    rfl
  refine qb_par (L := fun ss => ∃ b : Bool, ss = [.dat (.bool b), .dat (eL eSet (large N))]) (da_cons (L' := fun _ _ => True) (dt_draw0 rfl (by decide) (by decide)) fun s ⟨b, es, _⟩ => (dw_cons (lc_fm (p := fun one => decide ((one.length : Int) = (N.length : Int).fdiv 2 + 1)) (q := eSet) (di_L (dv_var rfl)) (by omega) (fun z hz => dg_name (by decide)) (fun z hz => tv_test (dv_op (dv_cb (dw_cons (dv_var rfl) dw_nil) len_T) (dv_op (dv_op (dv_cb (dw_cons (dv_var rfl) dw_nil) len_T) dv_int (dr_ii (C := CDivN) (g := fun i j => i.fdiv j) ⟨by decide, by decide⟩)) dv_int (dr_i0i (g := fun i j => i + j))) eq_I)) fun z hz _ => dv_var rfl) dw_nil).imp fun ss e => ⟨b, by rw [es, e]⟩) fun ss ⟨b, e⟩ => ⟨_, _, e, ?_⟩
  refine qb_for (vs := [9]) (xs := N) (fun i S' => ∃ (T : Tru) (s9 s10 s11 s12 : Sl), (T.map fun r => r.1) = N.take i ∧ (∀ r ∈ T, RowOk N r) ∧ S' = ⟨p :: O, [(p, .lst (T.map eRow))], [.raw (.ref f.1), .dat (.int 4), .dat (eL eSet BASES), .dat (eSet N), .dat (eL eSet (pool N)), .raw (.ref p), .dat (.bool b), .dat (eL eSet (large N)), .no, s9, s10, s11, s12, .no, .no]⟩) ⟨[], .no, .no, .no, .no, rfl, fun r h => (nomatch h), rfl⟩ (di_T (dv_var rfl)) (fun i S' m => by obtain ⟨_, _, _, _, _, _, _, rfl⟩ := m; rfl) ?_ ?_
  · rintro i h S' hh ⟨T, s9, s10, s11, s12, e1, e2, rfl⟩
    have mh := List.mem_of_getElem? hh
    have rl := rest_len N hN h mh
    have cr : Can N (less N [h]) := can_less (can_self N)
    have fr : Few (less N [h]) := can_few hN cr
    have fh : Few [h] := few_sub fN (by
      have := (nms_len N hN).1
      show 1 ≤ N.length
      omega) fun x hx => by
      rw [List.mem_singleton.mp hx]
      exact mh
    refine ⟨_, dg_name (by decide), qb_asg (de_tup (ds := [eSet (less N [h]), .list []]) (dw_cons (dv_call (N, [h]) (dw_cons (dv_var rfl) (dw_cons (de_tup (ds := [eS h]) (dw_cons (dv_var rfl) dw_nil) (Nat.le_of_ble_eq_true rfl) rfl) dw_nil)) ⟨fN, fh⟩) (dw_cons (de_lst (ds := []) dw_nil (by decide) rfl) dw_nil)) (Nat.le_of_ble_eq_true rfl) rfl) (dg_tup (ds := [eSet (less N [h]), .list []]) (vs := [10, 11]) (dgs_cons (dg_name (by decide)) (dgs_cons (dg_name (by decide)) dgs_nil))) ?_⟩
    -- what was drawn
    refine db_seq (M := fun S' => ∃ A B : List (List Str), (A.length ≤ 4 ∧ ∀ l ∈ A, Can N l ∧ l ≠ []) ∧ (B.length ≤ 4 ∧ ∀ g ∈ B, Can N g ∧ h ∉ g) ∧ S' = ⟨p :: O, [(p, .lst (T.map eRow))], [.raw (.ref f.1), .dat (.int 4), .dat (eL eSet BASES), .dat (eSet N), .dat (eL eSet (pool N)), .raw (.ref p), .dat (.bool b), .dat (eL eSet (large N)), .no, .dat (eS h), .dat (eSet (less N [h])), .dat (eL eSet A), .dat (eL eSet B), .no, .no]⟩) (db_if (B := (· = b)) (tv_B (dv_var rfl)) (fun _ => ?_) fun _ => ?_) ?_
    · refine qb_set (de_some (q := eSet) (di_L (dv_var rfl)) (by omega) (fun z hz => dg_name (by decide)) (fun z hz => dt_drawP rfl (by decide) (by decide)) fun z hz => dv_var rfl) fun s ⟨A, es, sa⟩ => ?_
      subst es
      refine db_set (de_some (q := fun x => eSet [x]) (di_T (dv_var rfl)) (by omega) (fun z hz => dg_name (by decide)) (fun z hz => dt_test (dt_draw0 rfl (by decide) (by decide))) fun z hz => de_tup (ds := [eS z]) (dw_cons (dv_var rfl) dw_nil) (Nat.le_of_ble_eq_true rfl) rfl) fun s ⟨B, es, sb⟩ => ?_
      subst es
      refine ⟨A, B.map fun x => [x], ⟨Nat.le_trans sa.length_le q3, fun l hl => pool_can hN (List.mem_filter.mp (sa.subset hl)).1⟩, ⟨?_, fun g hg => ?_⟩, ?_⟩
      · rw [List.length_map]
        have := sb.length_le
        omega
      · obtain ⟨x, hx, rfl⟩ := List.mem_map.mp hg
        exact one_can hN (sb.subset hx)
      · show _ = (⟨_, _, [_, _, _, _, _, _, _, _, _, _, _, _, .dat (.list ((B.map fun x => [x]).map eSet)), _, _]⟩ : Pt)
        rw [List.map_map]
        rfl
    · refine qb_set (P := fun s => ∃ A : List (List Str), s = .dat (eL eSet A) ∧ A.length ≤ 4 ∧ ∀ l ∈ A, Can N l ∧ l ≠ []) (de_lcBind (Pa := fun s => ∃ n : Nat, s = .dat (.int (n : Int)) ∧ n ≤ 4) (de_op dv_int (draw_lt (dv_raw rfl) (by decide) (by decide) fun s p => p) fun s t es et => ?_) (fun s ⟨n, e, _⟩ => ⟨n, e⟩) fun n ⟨m, e, hm⟩ => ?_) fun s ⟨A, es, a1, a2⟩ => ?_
      · obtain ⟨k, rfl, hk⟩ := below_nat (n := 2) et
        subst es
        exact fun O H x y w hx hy Q q => dr_i0i (g := fun i j => i + j) O H x y w hx hy Q fun v H' u x p r => q v H' u x ⟨1 + k, p.trans (by congr 2), by omega⟩ r
      · have en : n = m := by
          have z : (n : Int) = (m : Int) := by injection e with e; injection e
          omega
        subst en
        exact DE.imp (de_draws (q := eSet) (p := fun l => Can N l ∧ l ≠ []) (by omega) (fun i => dg_name (by decide)) fun i => any_L2 (q := eSet) (zs := pool N) (dv_raw rfl) (dv_var rfl) q1 (by omega) fun z hz => ⟨z, rfl, pool_can hN hz⟩) fun s ⟨L, e, l, al⟩ => ⟨L, e, by omega, al⟩
      · subst es
        refine db_set (P := fun s => ∃ A : List (List Str), s = .dat (eL eSet A) ∧ A.length ≤ 4 ∧ ∀ g ∈ A, Can N g ∧ h ∉ g) (de_lcBind (Pa := fun s => ∃ n : Nat, s = .dat (.int (n : Int)) ∧ n ≤ 4) (draw_lt (dv_raw rfl) (by decide) (by decide) fun s p => by
          obtain ⟨k, e, hk⟩ := below_nat (n := 3) p
          exact ⟨k, e, by omega⟩) (fun s ⟨n, e, _⟩ => ⟨n, e⟩) fun n ⟨m, e, hm⟩ => ?_) fun s ⟨B, es, b1, b2⟩ => ?_
        · have en : n = m := by
            have z : (n : Int) = (m : Int) := by injection e with e; injection e
            omega
          subst en
          have sz := subs_size (N := less N [h]) (by omega)
          have ne : subsets (less N [h]) ≠ [] := fun e => by
            have : [] ∈ subsets (less N [h]) := mem_subs.mpr ⟨[], List.mem_cons_self .., [], List.nil_sublist _, rfl⟩
            rw [e] at this
            cases this
          exact DE.imp (de_draws (q := eSet) (p := fun g => Can N g ∧ h ∉ g) (by omega) (fun i => dg_name (by decide)) fun i => any_L2 (q := eSet) (zs := subsets (less N [h])) (dv_raw rfl) (dv_call (less N [h], true) (dw_cons (dv_var rfl) dw_nil) (by show (less N [h]).length ≤ 4; omega)) ne (by omega) fun z hz => ⟨z, rfl, rest_can hN hz⟩) fun s ⟨L, e, l, al⟩ => ⟨L, e, by omega, al⟩
        · subst es
          exact ⟨A, B, ⟨a1, a2⟩, ⟨b1, b2⟩, rfl⟩
    · rintro S' ⟨A, B, ⟨a1, a2⟩, ⟨b1, b2⟩, rfl⟩
      have fA : ∀ s ∈ A, Few s := fun s hs => can_few hN (a2 s hs).1
      have fB : ∀ s ∈ B, Few s := fun s hs => can_few hN (b2 s hs).1
      refine qb_par (L := fun ss => ss = [.dat (eL eSet (orL A [N])), .dat (eL eSet (orL B [[]]))]) (dw_cons (dv_orL rfl fA (de_lst (ds := [eSet N]) (dw_cons (dv_var rfl) dw_nil) (Nat.le_of_ble_eq_true rfl) rfl)) (dw_cons (dv_orL rfl fB (de_lst (ds := [eSet []]) (dw_cons (de_tup (ds := []) dw_nil (by decide) rfl) dw_nil) (by decide) rfl)) dw_nil)) fun ss e => ⟨_, _, e, ?_⟩
      have row := row_of (x := h) (orL_ne (L := A) (D := [N]) (fun e => nomatch e)) (orL_len a1 (Nat.le_of_ble_eq_true rfl)) (orL_all a2 fun s hs => by
        rw [List.mem_singleton.mp hs]
        exact ⟨can_self N, full_ne N hN⟩) (orL_ne (L := B) (D := [[]]) (fun e => nomatch e)) (orL_len b1 (Nat.le_of_ble_eq_true rfl)) (orL_all b2 fun s hs => by
        rw [List.mem_singleton.mp hs]
        exact ⟨can_nil N, fun m => nomatch m⟩)
      have lA : (orL A [N]).length < 64 := Nat.lt_of_le_of_lt (orL_len a1 (Nat.le_of_ble_eq_true rfl)) (by decide)
      have lB : (orL B [[]]).length < 64 := Nat.lt_of_le_of_lt (orL_len b1 (Nat.le_of_ble_eq_true rfl)) (by decide)
      have lT : T.length ≤ 4 := by
        have e := congrArg List.length e1
        rw [List.length_map] at e
        have := List.length_take_le' i N
        omega
      refine db_append (Pd := (· = eRow (h, ssort (orL A [N]), ssort (orL B [[]])))) (i := 5) rfl rfl ((de_tup (ds := [eS h, eSets (ssort (orL A [N])), eSets (ssort (orL B [[]]))]) (P := (· = .dat (eRow (h, ssort (orL A [N]), ssort (orL B [[]]))))) (dw_cons (dv_var rfl) (dw_cons (dv_cb (dw_cons (dv_sortSet (dw_cons (dv_var rfl) dw_nil) lA) dw_nil) tup_L) (dw_cons (dv_cb (dw_cons (dv_sortSet (dw_cons (dv_var rfl) dw_nil) lB) dw_nil) tup_L) dw_nil))) (Nat.le_of_ble_eq_true rfl) rfl (isM_len (by show (3 : Nat) ≠ 4; decide))).imp fun s e => ⟨_, e, rfl⟩) (by rw [List.length_map]; omega) fun d e => ?_
      subst e
      refine ⟨T ++ [(h, ssort (orL A [N]), ssort (orL B [[]]))], .dat (eS h), .dat (eSet (less N [h])), .dat (eL eSet (orL A [N])), .dat (eL eSet (orL B [[]])), ?_, ?_, ?_⟩
      · rw [take_next hh, List.map_append, e1]
        rfl
      · intro r hr
        rcases List.mem_append.mp hr with z | z
        · exact e2 r z
        · rw [List.mem_singleton.mp z]
          exact row
      · rw [List.map_append]
        rfl
  · rintro S' ⟨T, s9, s10, s11, s12, e1, e2, rfl⟩
    rw [List.take_length] at e1
    exact db_release (i := 5) rfl hp rfl rfl (fun _ h => h) (db_retv (dv_cb (dw_cons (dv_var (d := eL eRow T) rfl) dw_nil) (tup_L (fun _ => rfl))) ⟨N, T, tok_of hN e1 e2, rfl⟩)
end
section
variable {f : Fe} {ρ : List Sl} {ta tc td : TE} {tb : TA} {d0 d2 d3 : PyData} {ds1 : List PyData}
theorem de_tupX (h1 : DA f tb ρ (· = ds1.map .dat)) (hz : ds1.length ≤ 10000) (nm : isM ds1 = false) : DE f (tTupX tb) ρ (· = .dat (.tuple ds1)) := fun O σ H w e Q q => h1 O σ H w e _ fun vs H1 ss x1 p1 r1 => by
  subst p1
  have rl := VRs.ofDats r1
  refine ⟨by rw [rl.len]; exact Nat.le_trans hz (by decide), fun p o hp ho => ?_⟩
  have w1 := w.ext x1
  have x2 := w1.new (o := .frz o (.tup vs)) hp
  exact q _ _ _ (x1.trans x2) rfl (.tup (.inr ⟨o, w1.hnew hp⟩) (rl.mono (x2.hid w.fO)) fun z => by
    rw [nm] at z
    cases z)
/-- a machine's display: its looks are exact -/
theorem de_tupM (h0 : DE f ta ρ (· = .dat d0)) (h1 : DA f tb ρ (· = ds1.map .dat)) (hz : ds1.length ≤ 10000) (nm : isM ds1 = false) (h2 : DE f tc ρ (· = .dat d2)) (h3 : DE f td ρ (· = .dat d3)) :
    DE f (tTup (tCons ta (tCons (tTupX tb) (tCons tc (tCons td tNil))))) ρ (· = .dat (.tuple [d0, .tuple ds1, d2, d3])) := fun O σ H w e Q q => h0 O σ H w e _ fun v0 H1 s0 x1 p0 r0 => by
  subst p0
  have w1 := w.ext x1
  have e1 := e.mono (x1.hid w.fO)
  refine h1 O σ H1 w1 e1 _ fun vs H2 ss x2 p1 r1 => ?_
  subst p1
  have rl := VRs.ofDats r1
  have w2 := w1.ext x2
  have e2 := e1.mono (x2.hid w.fO)
  refine ⟨by rw [rl.len]; exact Nat.le_trans hz (by decide), fun p o hp ho => ?_⟩
  have x3 := w2.new (o := .frz o (.tup vs)) hp
  have w3 := w2.ext x3
  have e3 := e2.mono (x3.hid w.fO)
  have hp3 : hid (upd H2 p (.frz o (.tup vs))) O p = some (.frz o (.tup vs)) := w2.hnew hp
  have rp : Rp (hid (upd H2 p (.frz o (.tup vs))) O) (.ref p) (.tuple ds1) := .tup (.inr ⟨o, hp3⟩) (rl.mono (x3.hid w.fO)) fun z => by
    rw [nm] at z
    cases z
  refine h2 O σ _ w3 e3 _ fun v2 H4 s2 x4 p2 r2 => ?_
  subst p2
  have w4 := w3.ext x4
  have e4 := e3.mono (x4.hid w.fO)
  refine h3 O σ H4 w4 e4 _ fun v3 H5 s3 x5 p3 r3 => ?_
  subst p3
  have w5 := w4.ext x5
  refine ⟨Nat.le_of_ble_eq_true rfl, fun T hT => ?_⟩
  have x6 := w5.new (o := .tup [v0, .ref p, v2, v3]) hT
  have k6 := x6.hid w.fO
  have k5 := Sub.trans (x5.hid w.fO) k6
  have k4 := Sub.trans (x4.hid w.fO) k5
  have k1 := Sub.trans (x2.hid w.fO) (Sub.trans (x3.hid w.fO) k4)
  exact q _ _ _ (((((x1.trans x2).trans x3).trans x4).trans x5).trans x6) rfl (.tup (.inl (w5.hnew hT)) (.cons (Rp.mono k1 r0) (.cons (Rp.mono k4 rp) (.cons (Rp.mono k5 r2) (.cons (Rp.mono k6 r3) .nil)))) fun _ => ⟨p, o, vs, rfl, k4 _ _ hp3, ho⟩)
theorem dw_s1 {a : Str} : DA f (tCons (tC (.str a)) tNil) ρ (· = [eS a].map .dat) := dw_cons dv_str dw_nil
theorem dw_s2 {a b : Str} : DE f (tTup (tCons (tC (.str a)) (tCons (tC (.str b)) tNil))) ρ (· = .dat (eSet [a, b])) := de_tup (ds := [eS a, eS b]) (dw_cons dv_str (dw_cons dv_str dw_nil)) (Nat.le_of_ble_eq_true rfl) rfl rfl
theorem dw_i1 {a : Int} : DE f (tTup (tCons (tC (.int a)) tNil)) ρ (· = .dat (eInts [a])) := de_tup (ds := [eI a]) (dw_cons dv_int dw_nil) (Nat.le_of_ble_eq_true rfl) rfl rfl
theorem dw_i2 {a b : Int} : DE f (tTup (tCons (tC (.int a)) (tCons (tC (.int b)) tNil))) ρ (· = .dat (eInts [a, b])) := de_tup (ds := [eI a, eI b]) (dw_cons dv_int (dw_cons dv_int dw_nil)) (Nat.le_of_ble_eq_true rfl) rfl rfl
theorem dw_two {a b : List Int} (h1 : DE f ta ρ (· = .dat (eInts a))) (h2 : DE f tc ρ (· = .dat (eInts b))) : DE f (tTup (tCons ta (tCons tc tNil))) ρ (· = .dat (eT eInts [a, b])) := de_tup (ds := [eInts a, eInts b]) (dw_cons h1 (dw_cons h2 dw_nil)) (Nat.le_of_ble_eq_true rfl) rfl (isM_len (by show (2 : Nat) ≠ 4; decide))
end
section
variable {P : Program} {w : World} {K : PySem.W.Frag} {mg : Str → Option Value} {base : Heap} {f : Addr} {fd : FuncData} {dvs : List V} {kws : List (Str × V)}
theorem fn_law_motor (T : TB mg) (G1 : Kn P w K mg base "_law_any" P_law_any 2 sp_law_any) (F : Fd K "_law_motor" s_law_motor dvs kws f fd) : FnOk P w K mg base CX0 3 f fd P_law_motor sp_law_motor := mk_ok F sc_law_motor (pe_law_motor T G1) (fun _ _ _ => rfl) fun f O H x hp => by
  refine qb_setv (s := .dat (eMach M0)) (de_tupM dw_s2 dw_s1 (by decide) rfl (dw_two dw_i2 dw_i2) (dw_two dw_i1 dw_i1)) ?_
  refine qb_setv (s := .dat (eMach M1)) (de_tupM dw_s2 dw_s1 (by decide) rfl (dw_two dw_i2 dw_i2) (dw_two dw_i1 dw_i1)) ?_
  refine qb_setv (s := .dat (eMach M2)) (de_tupM (ds1 := [eS "new", eS "still"]) dw_s2 (dw_cons dv_str (dw_cons dv_str dw_nil)) (by decide) rfl (dw_two dw_i2 dw_i2) (dw_two dw_i2 dw_i2)) ?_
  exact db_ret (any_L2 (zs := [0, 1, 2]) (q := fun j : Nat => .tuple [eMach (machOf j), eSet (movesOf j)]) (dv_raw rfl) (de_lst (ds := [.tuple [eMach M0, eSet ["lit"]], .tuple [eMach M1, eSet ["lit"]], .tuple [eMach M2, eSet ["new"]]]) (dw_cons (de_tup (ds := [eMach M0, eSet ["lit"]]) (dw_cons (dv_var rfl) (dw_cons (de_tupX (ds1 := [eS "lit"]) dw_s1 (by decide) rfl) dw_nil)) (by decide) rfl) (dw_cons (de_tup (ds := [eMach M1, eSet ["lit"]]) (dw_cons (dv_var rfl) (dw_cons (de_tupX (ds1 := [eS "lit"]) dw_s1 (by decide) rfl) dw_nil)) (by decide) rfl) (dw_cons (de_tup (ds := [eMach M2, eSet ["new"]]) (dw_cons (dv_var rfl) (dw_cons (de_tup (ds := [eS "new"]) dw_s1 (by decide) rfl) dw_nil)) (by decide) rfl) dw_nil))) (by decide) rfl) (by decide) (by decide) fun z hz => ⟨z, rfl⟩) fun s p => p
end
end K60

set_option maxHeartbeats 4000000
/-! K60: the law's looking at needs. -/
namespace K60
open PySem PySem.Spec PyProof.Rows L2
/-! ### what can be shown -/
structure Sho (n k : Nat) (d : PyData) : Prop where
  show_ : d.showable = true
  nd : d.hasDict = false
  dep : d.depth ≤ n
  short : d.leavesShort 13 = true
  few : d.weight ≤ k
theorem Sho.mono {n k n' k' : Nat} {d : PyData} (h : Sho n k d) (h1 : n ≤ n') (h2 : k ≤ k') : Sho n' k' d := ⟨h.show_, h.nd, Nat.le_trans h.dep h1, h.short, Nat.le_trans h.few h2⟩
theorem sho_all {n k : Nat} : ∀ {ds : List PyData}, (∀ d ∈ ds, Sho n k d) → PyData.showableAll ds = true ∧ PyData.hasDictAll ds = false ∧ PyData.depthAll ds ≤ n ∧ PyData.leavesShortAll 13 ds = true ∧ PyData.weightAll ds ≤ ds.length * (k + 1)
  | [], _ => ⟨by simp only [PyData.showableAll], by simp only [PyData.hasDictAll], by simp only [PyData.depthAll]; omega, by simp only [PyData.leavesShortAll], by simp only [PyData.weightAll]; omega⟩
  | d :: ds, h => by
    obtain ⟨h1, h2, h3, h4, h5⟩ := sho_all (n := n) (k := k) (ds := ds) fun x hx => h x (List.mem_cons_of_mem _ hx)
    have h0 := h d (List.mem_cons_self ..)
    refine ⟨?_, ?_, ?_, ?_, ?_⟩
    · simp only [PyData.showableAll, h0.show_, h1, Bool.and_self]
    · simp only [PyData.hasDictAll, h0.nd, h2, Bool.or_self]
    · simp only [PyData.depthAll]
      exact Nat.max_le.mpr ⟨h0.dep, h3⟩
    · simp only [PyData.leavesShortAll, h0.short, h4, Bool.and_self]
    · have := h0.few
      simp only [PyData.weightAll, List.length_cons, Nat.add_mul, Nat.one_mul]
      omega
theorem sho_tup {n k m : Nat} {ds : List PyData} (h : ∀ d ∈ ds, Sho n k d) (hl : ds.length ≤ m) : Sho (n + 1) (m * (k + 1)) (.tuple ds) := by
  obtain ⟨h1, h2, h3, h4, h5⟩ := sho_all h
  have h6 : ds.length * (k + 1) ≤ m * (k + 1) := Nat.mul_le_mul_right _ hl
  exact ⟨by simp only [PyData.showable]; exact h1, by simp only [PyData.hasDict]; exact h2, by simp only [PyData.depth]; omega, by simp only [PyData.leavesShort]; exact h4, by simp only [PyData.weight]; omega⟩
theorem sho_lst {n k m : Nat} {ds : List PyData} (h : ∀ d ∈ ds, Sho n k d) (hl : ds.length ≤ m) : Sho (n + 1) (m * (k + 1)) (.list ds) := by
  obtain ⟨h1, h2, h3, h4, h5⟩ := sho_all h
  have h6 : ds.length * (k + 1) ≤ m * (k + 1) := Nat.mul_le_mul_right _ hl
  exact ⟨by simp only [PyData.showable]; exact h1, by simp only [PyData.hasDict]; exact h2, by simp only [PyData.depth]; omega, by simp only [PyData.leavesShort]; exact h4, by simp only [PyData.weight]; omega⟩
theorem sho_T {α : Type} {n k m : Nat} {g : α → PyData} {xs : List α} (h : ∀ x ∈ xs, Sho n k (g x)) (hl : xs.length ≤ m) : Sho (n + 1) (m * (k + 1)) (eT g xs) := sho_tup (fun d hd => by
  obtain ⟨x, hx, rfl⟩ := List.mem_map.mp hd
  exact h x hx) (by rw [List.length_map]; exact hl)
theorem sho_B {b : Bool} : Sho 0 0 (eB b) := ⟨by simp only [PyData.showable], by simp only [PyData.hasDict], by simp only [PyData.depth]; omega, by simp only [PyData.leavesShort], by simp only [PyData.weight]; omega⟩
theorem sho_N : Sho 0 0 .none := ⟨by simp only [PyData.showable], by simp only [PyData.hasDict], by simp only [PyData.depth]; omega, by simp only [PyData.leavesShort], by simp only [PyData.weight]; omega⟩
theorem names_sho : ∀ x ∈ NAMES, (x.cps.toList.all fun c => decide (c < 16 ^ 8)) = true ∧ x.cps.size ≤ 8 := by decide +kernel
theorem sho_S {x : Str} (h : x ∈ NAMES) : Sho 0 8 (eS x) := by
  obtain ⟨h1, h2⟩ := names_sho x h
  exact ⟨by simp only [PyData.showable], by simp only [PyData.hasDict], by simp only [PyData.depth]; omega, by simp only [PyData.leavesShort]; exact h1, by simp only [PyData.weight]; exact h2⟩
theorem Sho.shown {n k : Nat} {d : PyData} (h : Sho n k d) (hd : isDisplay d = true) (hn : n ≤ 60) (hk : k ≤ 2 ^ 20) : Shown d := ⟨hd, h.show_, h.nd, Nat.le_trans h.dep hn, h.short, Nat.le_trans h.few hk⟩
theorem sho_can {N S : List Str} (hN : N ∈ NMS) (h : Can N S) : Sho 1 36 (eSet S) := by
  obtain ⟨h1, _, h3⟩ := can_facts hN h
  exact sho_T (m := 4) (k := 8) (fun x hx => sho_S (h1 x hx)) h3
theorem sho_sets {N : List Str} {L : List (List Str)} (hN : N ∈ NMS) (h : ∀ S ∈ L, Can N S) (hl : L.length ≤ 48) : Sho 2 1776 (eSets L) := sho_T (m := 48) (k := 36) (fun S hS => sho_can hN (h S hS)) hl
theorem shown_ok : ∀ N ∈ NMS, ∀ S ∈ subsets N, PyData.strOk (eSet S).shown = true := by decide +kernel
/-! ### plain facts -/
theorem meets_one {n S : List Str} : lawMeets [n] S = !(joint n S).isEmpty := by
  unfold lawMeets
  rw [List.filter_cons]
  cases (joint n S).isEmpty <;> rfl
/-- what is missed -/
abbrev missL (needs : List (List Str)) (S : List Str) : List (List Str) := needs.filter fun one => !lawMeets [one] S
theorem miss_eq (needs : List (List Str)) (S : List Str) : missedBy needs S = (missL needs S).head? := by
  unfold missedBy missL
  rw [List.head?_filter]
  congr 1
  funext n
  rw [meets_one, Bool.not_not]
theorem fewOf_nil : fewOf [] = none := rfl
section
variable {f : Fe} {ρ : List Sl} {K : PySem.W.Frag} {te ta tb : TE} {tA : TA} {a b c : Sl} {i : Nat}
theorem order_sw : Order gSw [] [a, b] [b, a] := fun O H vs us h k => by
  match vs, us, h, k with
  | [], [x, y], _, k => exact ⟨k.2.1, k.1, trivial⟩
theorem order_rev : Order gRev [] [a, b, c] [c, b, a] := fun O H vs us h k => by
  match vs, us, h, k with
  | [], [x, y, z], _, k => exact ⟨k.2.2.1, k.2.1, k.1, trivial⟩
theorem order_rb : Order gRb [] [a, b, c] [b, a, c] := fun O H vs us h k => by
  match vs, us, h, k with
  | [], [x, y, z], _, k => exact ⟨k.2.1, k.1, k.2.2.1, trivial⟩
/-- tuple(some of a list, as drawn) -/
theorem de_tupSome {α : Type} {wi : TI} {gt : TG} {tt : TT} {vs : List Nat} {enc : α → Sl} {zs : List α} {ρ' : α → List Sl} {q : α → PyData} (nm : ∀ z, noM (q z) = true) (hi : DI f wi ρ (zs.map enc)) (hz : zs.length ≤ 100000) (hg : ∀ z ∈ zs, DG f gt vs (enc z) (wipeS ρ vs) (ρ' z))
    (ht : ∀ z ∈ zs, DT f tt (ρ' z) fun _ => True) (he : ∀ z ∈ zs, DE f te (ρ' z) (· = .dat (q z))) : DE f (tCB (rTupX K) (tCons (tLc wi gt tt te vs) tNil)) ρ fun s => ∃ L, s = .dat (eT q L) ∧ L.Sublist zs := de_cb (da1 (de_some hi hz hg ht he)) fun ss ⟨s, e, L, es, sub⟩ => by
  subst es e
  exact fun O H vs w r Q q => tup_L (zs := L) nm O H vs w r Q fun v H' u x p r => q v H' u x ⟨L, p, sub⟩ r
/-- x[0] if x != [] else None -/
theorem dv_headN {L : List (List Str)} (hi : ρ[i]? = some (.dat (eL eSet L))) (hL : ∀ s ∈ L, Few s) : DE f (tIf (tTest (tOp (rNeD K) (tVar i) (tLst tNil))) (tOp (rIx K) (tVar i) (tC (.int 0))) (tC .non)) ρ (· = .dat (eOpt eSet L.head?)) := by
  refine de_if (B := (· = !L.isEmpty)) ((tv_test (dv_op (dv_var hi) (de_lst (ds := []) dw_nil (by decide) rfl) (ne_nilL (lay_L fun g hg => lay_set (hL g hg).2)))).cast (by rw [List.isEmpty_map])) (fun c => ?_) fun c => ?_
  · cases L with
    | nil => cases c
    | cons a L => exact dv_ixL 0 (dv_var hi) rfl
  · cases L with
    | nil => exact dv_non
    | cons a L => cases c
end
section
variable {P : Program} {w : World} {K : PySem.W.Frag} {mg : Str → Option Value} {base : Heap} {f : Addr} {fd : FuncData} {dvs : List V} {kws : List (Str × V)}
theorem fn_law_are_needs_right (T : TB mg) (K1 : KnK P w K mg base "needs_of" P_needs_of 8 sp_needs_of 0 ["house", "trust"] gSw) (G1 : Kn P w K mg base "needs_of" P_needs_of 8 sp_needs_of) (G2 : Kn P w K mg base "_law_least" P_law_least 3 sp_law_least) (G3 : Kn P w K mg base "least_lots" P_least_lots 8 sp_least_lots) (G4 : KnG P w K mg base "_law_same" P_law_same 1 sp_law_same) (G5 : Kn P w K mg base "fewest_lot" P_fewest_lot 8 sp_fewest_lot)
    (G6 : Kn P w K mg base "_law_draw" P_law_draw 1 sp_law_draw) (G7 : Kn P w K mg base "_law_meets" P_law_meets 1 sp_law_meets) (K2 : KnK P w K mg base "first_missed" P_first_missed 8 sp_first_missed 0 ["lot", "house", "trust"] gRev) (G8 : Kn P w K mg base "meets_needs" P_meets_needs 8 sp_meets_needs)
    (F : Fd K "_law_are_needs_right" s_law_are_needs_right dvs kws f fd) : FnG P w K mg base 9 f fd P_law_are_needs_right sp_law_are_needs_right := mk_okG F sc_law_are_needs_right (pe_law_are_needs_right T K1 G1 G2 G3 G4 G5 G6 G7 K2 G8) (fun _ _ _ => rfl) fun f O H x hp => by
  obtain ⟨tr, h⟩ := x
  obtain ⟨N, (t : TOk N tr), (hh : h ∈ N)⟩ := hp
  have n4 := names4 t
  have nl := needs_le t hh
  have nc := can_needs t hh
  have ns := needs_ns t hh
  obtain ⟨ll, lc⟩ := lots_can t hh
  have lq := lots_law t hh
  rw [← t.names] at lq
  have l5 : (lotsMet tr h).length ≤ 100000 := by omega
  have lf : ∀ s ∈ lotsMet tr h, Few s := fun s hs => can_few t.mem (lc s hs)
  refine qb_setv (s := .dat (.list [eSets (needsBy tr h), eSets (needsBy tr h)])) (de_lst (ds := [eSets (needsBy tr h), eSets (needsBy tr h)]) (dw_cons (dv_call (tr, h) (dw_cons (dv_var rfl) (dw_cons (dv_var rfl) dw_nil)) ⟨N, t, hh⟩) (dw_cons (dv_callN (tr, h) dw_nil (dw_cons (dv_var rfl) (dw_cons (dv_var rfl) dw_nil)) rfl rfl order_sw ⟨N, t, hh⟩) dw_nil)) (Nat.le_of_ble_eq_true rfl) rfl) ?_
  refine qb_setv ((dv_call (needsBy tr h, namesOf tr) (dw_cons (dv_var rfl) (dw_cons (dv_var rfl) dw_nil)) ⟨ns, by rw [t.names]; exact t.mem⟩).cast (v := .dat (eSets (lotsMet tr h))) (by rw [lq])) ?_
  have sn := sho_sets t.mem nc nl
  have sl := sho_sets t.mem lc (by omega)
  refine qb_no ((tv_not (tv_B (dv_call (PyData.list [eSets (needsBy tr h), eSets (needsBy tr h), eSets (lotsMet tr h)]) (dw_cons (dv_op (dv_var rfl) (de_lst (ds := [eSets (lotsMet tr h)]) (dw_cons (dv_call (tr, h) (dw_cons (dv_var rfl) (dw_cons (dv_var rfl) dw_nil)) ⟨N, t, hh⟩) dw_nil) (Nat.le_of_ble_eq_true rfl) rfl) (dr_cat (ds := [eSets (needsBy tr h), eSets (needsBy tr h)]) (es := [eSets (lotsMet tr h)]) (Nat.le_of_ble_eq_true rfl))) (dw_cons (de_lst (ds := [eSets (needsBy tr h), eSets (needsBy tr h), eSets (lotsMet tr h)]) (dw_cons (dv_var rfl) (dw_cons (dv_var rfl) (dw_cons (dv_var rfl) dw_nil))) (Nat.le_of_ble_eq_true rfl) rfl) dw_nil))
    ((sho_lst (n := 2) (k := 1776) (m := 3) (fun d hd => ?_) (Nat.le_refl _)).shown rfl (by decide) (by decide))))).cast rfl) ?_
  · rcases List.mem_cons.mp hd with e | hd
    · rw [e]
      exact sn
    · rcases List.mem_cons.mp hd with e | hd
      · rw [e]
        exact sn
      · rw [List.mem_singleton.mp hd]
        exact sl
  refine qb_setv (dv_call (tr, h) (dw_cons (dv_var rfl) (dw_cons (dv_var rfl) dw_nil)) ⟨N, t, hh⟩) ?_
  show DB f O H _ ⟨O, [], [.raw (.ref f.1), .dat (eTru tr), .dat (eSet (namesOf tr)), .dat (eS h), .dat (eSets (needsBy tr h)), .dat (.list [eSets (needsBy tr h), eSets (needsBy tr h)]), .dat (eSets (lotsMet tr h)), .dat (eOpt eSet (fewOf (lotsMet tr h))), .no, .no, .no, .no]⟩ _ _
  generalize Sl.dat (PyData.list [eSets (needsBy tr h), eSets (needsBy tr h)]) = s5
  generalize lotsMet tr h = L at ll lc l5 lf ⊢
  refine qb_if (B := (· = L.isEmpty)) ((tv_test (dv_op (dv_var rfl) (de_tup (ds := []) dw_nil (by decide) rfl) (eq_nilT (lay_sets fun a ha x hx => (lf a ha).2 x hx)))).cast (by rw [List.isEmpty_map])) (fun c => db_end ?_) fun c => db_skip ?_
  · have e : L = [] := List.isEmpty_iff.mp c.symm
    subst e
    exact db_retv (dv_op (dv_var rfl) dv_non dr_isN) rfl
  have ne : L ≠ [] := fun e => by
    subst e
    cases c
  obtain ⟨a, ma, ea, m, h1, h2, h3⟩ := few_some ne
  rw [ea]
  have ca := lc a ma
  have sub : ∀ S ∈ L, ok (eSet S).shown := fun S hS => shown_ok N t.mem S ((mem_subsets t.nodup).mpr (lc S hS))
  have shw : ∀ S ∈ L, Shown (eSet S) := fun S hS => (sho_can t.mem (lc S hS)).shown rfl (by decide) (by decide)
  have em : (L.map fun S => eS (eSet S).shown) = (L.map fun S => (eSet S).shown).map eS := by
    rw [List.map_map]
    rfl
  have lens : (L.map fun a => eI (a.length : Int)) = (L.map fun a => (a.length : Int)).map PyData.int := by
    rw [List.map_map]
    rfl
  refine qb_no (tf_or (tf_test (dv_op (dv_cb (dw_cons (dv_var (d := eSet a) rfl) dw_nil) (rc_repr (shw a ma))) ((lc_m (q := fun S => eS (eSet S).shown) (di_T (dv_var rfl)) l5 (fun S hS => dg_name (by decide)) fun S hS => dv_cb (dw_cons (dv_var rfl) dw_nil) (rc_repr (shw S hS))).cast (congrArg (fun l => Sl.dat (.list l)) em)) (ni_SL (sub a ma) fun z hz => ?_)) ?_) (tf_test (dv_op (dv_cb (dw_cons (dv_var (d := eSet a) rfl) dw_nil) len_T) (dv_cb (dw_cons ((lc_m (q := fun S : List Str => eI (S.length : Int)) (di_T (dv_var rfl)) l5 (fun S hS => dg_name (by decide)) fun S hS => dv_cb (dw_cons (dv_var rfl) dw_nil) len_T).cast (congrArg (fun l => Sl.dat (.list l)) lens)) dw_nil) (rc_min (m := (m : Int)) ?_ ?_)) ne_I) ?_)) ?_
  · obtain ⟨S, hS, rfl⟩ := List.mem_map.mp hz
    exact sub S hS
  · rw [decide_eq_true (List.mem_map.mpr ⟨a, ma, rfl⟩)]
    rfl
  · obtain ⟨b, hb, rfl⟩ := List.mem_map.mp h1
    exact List.mem_map.mpr ⟨b, hb, rfl⟩
  · intro y hy
    obtain ⟨b, hb, rfl⟩ := List.mem_map.mp hy
    have := h2 _ (List.mem_map.mpr ⟨b, hb, rfl⟩)
    omega
  · rw [h3, decide_eq_true rfl]
    rfl
  refine qb_for (vs := [9]) (xs := List.range 2) (enc := fun i : Nat => Sl.dat (.int (i : Int))) (fun i S' => ∃ s5 s9 s10 s11, S' = ⟨O, [], [.raw (.ref f.1), .dat (eTru tr), .dat (eSet (namesOf tr)), .dat (eS h), .dat (eSets (needsBy tr h)), s5, .dat (eSets L), .dat (eOpt eSet (some a)), .no, s9, s10, s11]⟩) ⟨s5, .no, .no, .no, rfl⟩ (di_range1 (n := 2) (dw_cons dv_int dw_nil) (by decide)) (fun i S' m => by obtain ⟨_, _, _, _, rfl⟩ := m; rfl) ?_ ?_
  · rintro i k S' hk ⟨s5, s9, s10, s11, rfl⟩
    refine ⟨_, dg_name (by decide), qb_set (de_tupSome (q := eS) (fun _ => rfl) (di_T (dv_var rfl)) (by omega) (fun z hz => dg_name (by decide)) (fun z hz => dt_test (dt_draw0 rfl (by decide) (by decide))) fun z hz => dv_var rfl) fun s ⟨S, es, sub⟩ => ?_⟩
    subst es
    have cS : Can N S := by
      have z := sub_can t.nodup (t.names ▸ sub)
      exact z
    have fS := can_few t.mem cS
    have fm : ∀ s ∈ missL (needsBy tr h) S, Few s := fun s hs => ns.2 s (List.mem_filter.mp hs).1
    refine qb_setv (lc_fm (p := fun one => !lawMeets [one] S) (q := eSet) (di_T (dv_var rfl)) (by omega) (fun z hz => dg_name (by decide)) (fun one ho => tv_not (tv_B (dv_call ([one], S, false) (dw_cons (de_lst (ds := [eSet one]) (dw_cons (dv_var rfl) dw_nil) (Nat.le_of_ble_eq_true rfl) rfl) (dw_cons (dv_var rfl) dw_nil)) ⟨⟨Nat.le_of_ble_eq_true rfl, fun s hs => by
      rw [List.mem_singleton.mp hs]
      exact ns.2 one ho⟩, fS⟩))) fun one ho _ => dv_var rfl) ?_
    refine qb_setv (s := .dat (.list [eB (missedBy (needsBy tr h) S).isNone, eOpt eSet (missedBy (needsBy tr h) S)])) (de_lst (ds := [eB (missedBy (needsBy tr h) S).isNone, eOpt eSet (missedBy (needsBy tr h) S)]) (dw_cons (dv_call (tr, h, S) (dw_cons (dv_var rfl) (dw_cons (dv_var rfl) (dw_cons (dv_var rfl) dw_nil))) ⟨N, t, hh, cS⟩) (dw_cons (dv_callN (tr, h, S) dw_nil (dw_cons (dv_var rfl) (dw_cons (dv_var rfl) (dw_cons (dv_var rfl) dw_nil))) rfl rfl order_rev ⟨N, t, hh, cS⟩) dw_nil)) (Nat.le_of_ble_eq_true rfl) rfl) ?_
    rw [miss_eq]
    refine db_no ((tv_not (tv_B (dv_call (PyData.list [eB (missL (needsBy tr h) S).head?.isNone, eOpt eSet (missL (needsBy tr h) S).head?]) (dw_cons (dv_var rfl) (dw_cons (de_lst (ds := [eB (missL (needsBy tr h) S).head?.isNone, eOpt eSet (missL (needsBy tr h) S).head?]) (dw_cons ((dv_op (dv_var rfl) (de_lst (ds := []) dw_nil (by decide) rfl) (eq_nilL (lay_L fun g hg => lay_set (fm g hg).2))).cast ?_) (dw_cons (dv_headN rfl fm) dw_nil)) (Nat.le_of_ble_eq_true rfl) rfl) dw_nil))
      ((sho_lst (n := 1) (k := 36) (m := 2) (fun d hd => ?_) (Nat.le_refl _)).shown rfl (by decide) (by decide))))).cast rfl) ⟨_, _, _, _, rfl⟩
    · rw [List.isEmpty_map]
      cases missL (needsBy tr h) S <;> rfl
    · rcases List.mem_cons.mp hd with e | hd
      · rw [e]
        exact sho_B.mono (by decide) (by decide)
      · rw [List.mem_singleton.mp hd]
        cases e : (missL (needsBy tr h) S).head? with
        | none => exact sho_N.mono (by decide) (by decide)
        | some n => exact sho_can t.mem (nc n (List.mem_filter.mp (List.mem_of_mem_head? e)).1)
  · rintro S' ⟨s5, s9, s10, s11, rfl⟩
    exact db_retv dv_bl rfl
end
end K60

set_option maxHeartbeats 4000000
/-! K60: the law's looking at asks. -/
namespace K60
open PySem PySem.Spec PyProof.Rows L2
/-! ### plain facts -/
theorem moves_of (j : Nat) (x : Str) : movesM (machOf j) x = decide (x ∈ movesOf j) := match j with
  | 0 => rfl
  | 1 => rfl
  | _ + 2 => rfl
theorem lit_ok : ∀ x ∈ (["lit"] : List Str), x ∈ NAMES := by decide
theorem new_ok : ∀ x ∈ (["new"] : List Str), x ∈ NAMES := by decide
theorem moves_ok : ∀ j, ∀ x ∈ movesOf j, ok x
  | 0 => fun x hx => ok_names x (lit_ok x hx)
  | 1 => fun x hx => ok_names x (lit_ok x hx)
  | _ + 2 => fun x hx => ok_names x (new_ok x hx)
theorem movesL (j : Nat) : (movesOf j).length ≤ 1 := match j with
  | 0 => Nat.le_refl _
  | 1 => Nat.le_refl _
  | _ + 2 => Nat.le_refl _
theorem good_sub {a b : List Str} (h : Good b) (s : a.Sublist b) : Good a := ⟨fun x hx => h.nm x (s.subset hx), h.up.sublist s, Nat.le_trans s.length_le h.few⟩
theorem meets_joint (n S : List Str) : (!lawMeets [n] S) = !meets n S := by
  rw [meets_one]
  congr 1
  unfold joint meets
  rw [Bool.eq_iff_iff, List.any_eq_true, Bool.not_eq_true', ← Bool.not_eq_true, List.isEmpty_iff, List.filter_eq_nil_iff]
  simp
/-- what an ask lacks, as the law says -/
def dueL (tr : Tru) (j : Nat) (a : Ask) : List (List Str) := if ((a.looks.filter fun x => decide (x ∈ movesOf j)).map eS).isEmpty then [] else (needsBy tr a.house).filter fun n => !lawMeets [n] a.lot
theorem due_eq {tr : Tru} {j k : Nat} {asks : List Ask} {a : Ask} (h : asks[k]? = some a) : lacksB ⟨machOf j, tr, asks⟩ k = dueL tr j a := by
  have ea : askAt ⟨machOf j, tr, asks⟩ k = a := by
    show (asks[k]?).getD _ = a
    rw [h]
    rfl
  unfold lacksB movingB dueL
  rw [ea, List.isEmpty_map]
  have e : a.looks.find? (fun x => movesM (machOf j) x) = (a.looks.filter fun x => decide (x ∈ movesOf j)).head? := by
    rw [List.head?_filter]
    congr 1
    funext x
    exact moves_of j x
  show (match a.looks.find? (fun x => movesM (machOf j) x) with
    | some _ => _
    | none => _) = _
  rw [e]
  cases (a.looks.filter fun x => decide (x ∈ movesOf j)) with
  | nil => rfl
  | cons x xs =>
    show ((needsBy tr a.house).filter fun n => !meets n a.lot) = (needsBy tr a.house).filter fun n => !lawMeets [n] a.lot
    congr 1
    funext n
    exact (meets_joint n a.lot).symm
section
variable {f : Fe} {ρ : List Sl} {K : PySem.W.Frag} {te ta tb : TE} {tA : TA} {i : Nat} {P : Sl → Prop}
/-- a tuple, some items drawn -/
theorem de_tupE {Pd : List PyData → Prop} (ha : DA f tA ρ fun ss => ∃ ds, ss = ds.map .dat ∧ Pd ds) (hz : ∀ ds, Pd ds → ds.length ≤ 10000) (nm : ∀ ds, Pd ds → isM ds = false) : DE f (tTup tA) ρ fun s => ∃ ds, s = .dat (.tuple ds) ∧ Pd ds := fun O σ H w e Q q =>
  ha O σ H w e _ fun vs H1 ss x1 p1 r1 => by
    obtain ⟨ds, rfl, pd⟩ := p1
    have rl := VRs.ofDats r1
    refine ⟨by rw [rl.len]; exact Nat.le_trans (hz ds pd) (by decide), fun a ha => ?_⟩
    have w1 := w.ext x1
    exact q _ _ _ (x1.trans (w1.new ha)) ⟨ds, rfl, pd⟩ (.mkT (w1.hnew ha) (rl.mono ((w1.new ha).hid w.fO)) (nm ds pd))
/-- table[e] -/
theorem de_tget {α : Type} {xs : List α} {key : α → Str} {val : α → PyData} {x : Str} {d : PyData} (hi : ρ[i]? = some (.tab (xs.map fun y => (Sum.inr (key y), val y)))) (h : DE f te ρ (· = .dat (.str x))) (h1 : ∃ y ∈ xs, key y = x) (h2 : ∀ y ∈ xs, key y = x → val y = d) : DE f (tDGet (tVar i) te) ρ (· = .dat d) := fun O σ H w e Q q => by
  obtain ⟨v, hv, r⟩ := e.get hi
  obtain ⟨a, vs, ev, hd, rt⟩ := r
  subst ev
  refine ⟨.ref a, hv, h O σ H w e _ fun u H1 s x1 p1 r1 => ?_⟩
  subst p1
  have eu := Rp.str_inv r1
  subst eu
  have hd1 := x1.hid w.fO _ _ hd
  have rt1 := rt.mono (x1.hid w.fO)
  have mk : (Sum.inr x : Key) ∈ (xs.map fun y => ((Sum.inr (key y) : Key), val y)).map (·.1) := by
    obtain ⟨y, hy, ey⟩ := h1
    exact List.mem_map.mpr ⟨_, List.mem_map.mpr ⟨y, hy, rfl⟩, by rw [ey]⟩
  obtain ⟨v2, d2, e1, e2, e3⟩ := rt1.get mk
  obtain ⟨y, hy, ey⟩ := List.mem_map.mp e2
  have k1 : key y = x := Sum.inr.inj (congrArg Prod.fst ey)
  have k2 : val y = d2 := congrArg Prod.snd ey
  have g := DGet.k (k := Sum.inr x) (hid_get hd1).1
  rw [e1] at g
  exact ⟨a, v2, rfl, g, q v2 H1 _ x1 rfl (by rw [← h2 y hy k1, k2]; exact e3)⟩
end
section
variable {f : Fe} {O0 : List Addr} {H0 : Hp} {te : TE} {S : Pt} {N : Pt → Prop} {R : Sl → Prop} {u : TS} {P : Sl → Prop}
theorem qb_asgP {g : TG} (h : DE f te S.ρ P) (k : ∀ s, P s → ∃ vs ρ', DG f g vs s S.ρ ρ' ∧ DB f O0 H0 u ⟨S.O, S.ω, ρ'⟩ N R) : DB f O0 H0 (tSeq (tAsg te g) u) S N R := fun σ H D o nx rt => h S.O σ H o.wd o.env _ fun v H1 s x1 p1 r1 => by
  obtain ⟨vs, ρ', hg, kk⟩ := k s p1
  have o' := o.on x1
  refine hg S.O σ H1 v o'.wd o'.env r1 _ fun σ' e' _ => ?_
  exact kk σ' H1 D ⟨o'.wd, o'.ext, o'.own, o'.apart, e', o'.outer⟩ (fun S' σ2 H2 n o2 tr => nx S' σ2 H2 n o2 ((Tr.of x1 o.wd.fO).trans tr)) rt
end
section
variable {P : Program} {w : World} {K : PySem.W.Frag} {mg : Str → Option Value} {base : Heap} {f : Addr} {fd : FuncData} {dvs : List V} {kws : List (Str × V)}
theorem fn_law_are_asks_right (T : TB mg) (G1 : Kn P w K mg base "_law_motor" P_law_motor 3 sp_law_motor) (G2 : Kn P w K mg base "_law_any" P_law_any 2 sp_law_any) (G3 : Kn P w K mg base "_law_draw" P_law_draw 1 sp_law_draw) (G4 : Kn P w K mg base "_law_meets" P_law_meets 1 sp_law_meets)
    (K1 : KnK P w K mg base "rule_is_right" P_rule_is_right 12 sp_rule_is_right 0 ["rule", "book", "age"] gRb) (D1 : KnD P w K mg base "rule_is_right" P_rule_is_right 12 sp_rule_is_right [.int 0]) (D2 : KnD P w K mg base "rule_lacks" P_rule_lacks 11 sp_rule_lacks [.int 0]) (G5 : KnG P w K mg base "_law_same" P_law_same 1 sp_law_same)
    (F : Fd K "_law_are_asks_right" s_law_are_asks_right dvs kws f fd) : FnG P w K mg base 13 f fd P_law_are_asks_right sp_law_are_asks_right := mk_okG F sc_law_are_asks_right (pe_law_are_asks_right T G1 G2 G3 G4 K1 D1 D2 G5) (fun _ _ _ => rfl) fun f O H tr hp => by
  obtain ⟨N, (t : TOk N tr)⟩ := hp
  have n4 := names4 t
  have nne : namesOf tr ≠ [] := by
    rw [t.names]
    exact full_ne N t.mem
  refine qb_asgP (de_call () (dw_cons (dv_raw rfl) dw_nil) trivial fun s p => p) fun s ⟨j, es⟩ => ?_
  subst es
  have mo := mach_ok j
  have lk := mo.k.few
  have lne : (machOf j).looks ≠ [] := fun e => by
    have := mo.k1
    rw [e] at this
    cases this
  refine ⟨[4, 5], _, dg_tup (ds := [eMach (machOf j), eSet (movesOf j)]) (dgs_cons (dg_name (by decide)) (dgs_cons (dg_name (by decide)) dgs_nil)), qb_own fun p hp => ?_⟩
  -- three asks
  refine qb_for (vs := [7]) (xs := List.range 3) (enc := fun i : Nat => Sl.dat (.int (i : Int))) (fun i S' => ∃ (A : List Ask) (s7 s8 s9 s11 : Sl), A.length = i ∧ (∀ a ∈ A, AOk (machOf j) N a) ∧ S' = ⟨p :: O, [(p, .lst (A.map eAsk))], [.raw (.ref f.1), .dat (eTru tr), .dat (eSet (namesOf tr)), .tab ((namesOf tr).map fun h => (Sum.inr h, eSets (needsBy tr h))), .dat (eMach (machOf j)), .dat (eSet (movesOf j)), .raw (.ref p), s7, s8, s9, .no, s11, .no, .no, .no, .no, .no, .no]⟩) ⟨[], .no, .no, .no, .no, rfl, fun a h => (nomatch h), rfl⟩ (di_range1 (n := 3) (dw_cons dv_int dw_nil) (by decide)) (fun i S' m => by obtain ⟨_, _, _, _, _, _, _, rfl⟩ := m; rfl) ?_ ?_
  · rintro i k S' hk ⟨A, s7, s8, s9, s11, eA, aA, rfl⟩
    have i3 : i < 3 := by
      have := (List.getElem?_eq_some_iff.mp hk).1
      rw [List.length_range] at this
      exact this
    refine ⟨_, dg_name (by decide), qb_set (P := fun s => ∃ n : Nat, s = .dat (.int (n : Int)) ∧ 0 < n ∧ n < 1000000) (any_L2 (zs := [1, 2, 2, 4]) (q := fun k : Nat => .int (k : Int)) (dv_raw rfl) (de_lst (ds := [.int 1, .int 2, .int 2, .int 4]) (dw_cons dv_int (dw_cons dv_int (dw_cons dv_int (dw_cons dv_int dw_nil)))) (Nat.le_of_ble_eq_true rfl) rfl) (by decide) (by decide) fun n hn => ⟨n, rfl, ?_⟩) fun s ⟨n, es, n1, n2⟩ => ?_⟩
    · revert n
      decide
    subst es
    refine qb_set (de_tupSome (q := eS) (fun _ => rfl) (di_T (dv_var rfl)) (by omega) (fun z hz => dg_name (by decide)) (fun z hz => dt_test (de_op (de_call (n : Int) (dw_cons (dv_raw rfl) (dw_cons (dv_var rfl) dw_nil)) ⟨by omega, by omega⟩ fun s (p : below n s) => p) dv_int fun s t ⟨r, es, _⟩ et => ?_)) fun z hz => dv_var rfl) fun s ⟨S, es, subS⟩ => ?_
    · subst es et
      exact fun O H x y w hx hy Q q => eq_I O H x y w hx hy Q fun v H' u x p r => q v H' u x ⟨_, p, trivial⟩ r
    subst es
    refine qb_set (de_some (q := eS) (di_T (dv_ixT 1 (dv_var rfl) (d := eSet (machOf j).looks) rfl)) (by omega) (fun z hz => dg_name (by decide)) (fun z hz => dt_drawP rfl (by decide) (by decide)) fun z hz => dv_var rfl) fun s ⟨L, es, subL⟩ => ?_
    subst es
    have cS : Can N S := sub_can t.nodup (t.names ▸ subS)
    have gL := good_sub mo.k subL
    -- the looks asked
    obtain ⟨Lk, eLk⟩ : ∃ Lk, Lk = if L.isEmpty then (machOf j).looks.take 1 else L := ⟨_, rfl⟩
    have sub2 : Lk.Sublist (machOf j).looks := by
      rw [eLk]
      split
      · exact List.take_sublist ..
      · exact subL
    have ne2 : Lk ≠ [] := by
      rw [eLk]
      cases L with
      | nil =>
        cases e : (machOf j).looks with
        | nil => exact absurd e lne
        | cons a b => exact fun z => nomatch z
      | cons a b => exact fun z => nomatch z
    have deL : DE f (tIf (tTest (tOp (rNeD K) (tVar 11) (tLst tNil))) (tCB (rTupX K) (tCons (tVar 11) tNil)) (L2.tSl (rSlA K) (tOp (rIx K) (tVar 4) (tC (.int 1))) tNoPart (tPart (tC (.int 1))))) [.raw (.ref f.1), .dat (eTru tr), .dat (eSet (namesOf tr)), .tab ((namesOf tr).map fun h => (Sum.inr h, eSets (needsBy tr h))), .dat (eMach (machOf j)), .dat (eSet (movesOf j)), .raw (.ref p), .dat (.int (k : Int)), .dat (.int (n : Int)), .dat (eSet S), .no, .dat (eL eS L), .no, .no, .no, .no, .no, .no] (· = .dat (eSet Lk)) := by
      refine de_if (B := (· = !L.isEmpty)) ((tv_test (dv_op (dv_var rfl) (de_lst (ds := []) dw_nil (by decide) rfl) (ne_nilL (lay_L fun x hx => lay_S (ok_names x (gL.nm x hx)))))).cast (by rw [List.isEmpty_map])) (fun c => ?_) fun c => ?_
      · have e : L.isEmpty = false := by simpa using c.symm
        rw [eLk, e]
        exact dv_cb (dw_cons (dv_var rfl) dw_nil) tup_L
      · have e : L.isEmpty = true := by simpa using c.symm
        rw [eLk, e]
        refine (dv_takeT (k := 1) (ds := (machOf j).looks.map eS) ?_ (dv_ixT 1 (dv_var rfl) (d := eSet (machOf j).looks) rfl) dv_int).cast ?_
        · rw [← List.map_take]
          exact isM_map fun _ => rfl
        · rw [← List.map_take]
          rfl
    refine db_append (Pd := fun d => ∃ h ∈ namesOf tr, d = eAsk ⟨h, Lk, S⟩) (i := 6) rfl rfl ((de_tupE (Pd := fun ds => ∃ h ∈ namesOf tr, ds = [eS h, eSet Lk, eSet S, eS "any", .tuple []]) (da_cons (L' := fun _ _ => True) (any_T2 (q := eS) (zs := namesOf tr) (Q := fun s => ∃ h ∈ namesOf tr, s = .dat (eS h)) (dv_raw rfl) (dv_var rfl) nne (by omega) fun z hz => ⟨z, hz, rfl⟩) fun s ⟨h, hh, es⟩ => (dw_cons deL (dw_cons (dv_var rfl) (dw_cons dv_str (dw_cons (de_tup (ds := []) dw_nil (by decide) rfl) dw_nil)))).imp fun ss e => ⟨_, by rw [es, e]; rfl, h, hh, rfl⟩) (fun ds ⟨h, hh, e⟩ => by
      rw [e]
      exact Nat.le_of_ble_eq_true rfl) fun ds ⟨h, hh, e⟩ => by
      rw [e]
      exact isM_len (by show (5 : Nat) ≠ 4; decide)).imp fun s ⟨ds, e, h, hh, e2⟩ => ⟨_, e, h, hh, by rw [e2]⟩) (by rw [List.length_map]; omega) fun d ⟨h, hh, e⟩ => ?_
    subst e
    refine ⟨A ++ [⟨h, Lk, S⟩], .dat (.int (k : Int)), .dat (.int (n : Int)), .dat (eSet S), .dat (eL eS L), ?_, fun a ha => ?_, ?_⟩
    · rw [List.length_append, eA]
      rfl
    · rcases List.mem_append.mp ha with z | z
      · exact aA a z
      · rw [List.mem_singleton.mp z]
        have hN : h ∈ N := t.names ▸ hh
        exact ⟨⟨nm_names t.mem hN, good_sub mo.k sub2, ne2, can_good t.mem cS⟩, hN, fun x hx => sub2.subset hx, cS⟩
    · rw [List.map_append]
      rfl
  · rintro S' ⟨A, s7, s8, s9, s11, eA, aA, rfl⟩
    rw [List.length_range] at eA
    have bg : BGood ⟨machOf j, tr, A⟩ := ⟨N, t, ⟨j, rfl⟩, aA, by show A.length ≤ 100; omega⟩
    refine db_release (i := 6) rfl hp rfl rfl (fun _ h => h) (qb_setv (s := .dat (eBook ⟨machOf j, tr, A⟩)) (de_tup (ds := [eMach (machOf j), eTru tr, .tuple [], eT eAsk A, .tuple []]) (dw_cons (dv_var rfl) (dw_cons (dv_var rfl) (dw_cons (de_tup (ds := []) dw_nil (by decide) rfl) (dw_cons (dv_cb (dw_cons (dv_var rfl) dw_nil) (tup_L (g := eAsk) (zs := A) fun _ => rfl)) (dw_cons (de_tup (ds := []) dw_nil (by decide) rfl) dw_nil))))) (Nat.le_of_ble_eq_true rfl) rfl (isM_len (by show (5 : Nat) ≠ 4; decide))) ?_)
    refine qb_for (vs := [14]) (xs := List.range 3) (enc := fun i : Nat => Sl.dat (.int (i : Int))) (fun i S' => ∃ s14 s15 s16 s17, S' = ⟨O, [], [.raw (.ref f.1), .dat (eTru tr), .dat (eSet (namesOf tr)), .tab ((namesOf tr).map fun h => (Sum.inr h, eSets (needsBy tr h))), .dat (eMach (machOf j)), .dat (eSet (movesOf j)), .dat (eL eAsk A), s7, s8, s9, .no, s11, .no, .dat (eBook ⟨machOf j, tr, A⟩), s14, s15, s16, s17]⟩) ⟨.no, .no, .no, .no, rfl⟩ (di_range1 (n := 3) (dw_cons dv_int dw_nil) (by decide)) (fun i S' m => by obtain ⟨_, _, _, _, rfl⟩ := m; rfl) ?_ ?_
    · rintro i k S' hk ⟨s14, s15, s16, s17, rfl⟩
      have k3 : k < A.length := by
        have := List.mem_range.mp (List.mem_of_getElem? hk)
        omega
      obtain ⟨a, ha⟩ : ∃ a, A[k]? = some a := ⟨A[k], List.getElem?_eq_getElem k3⟩
      have oa := aA a (List.mem_of_getElem? ha)
      have hh := oa.hN
      have ns := needs_ns t hh
      have nl := needs_le t hh
      have nc := can_needs t hh
      have fl := can_few t.mem oa.lN
      have lks := oa.form.k
      have lksl := lks.few
      have ea := due_eq (tr := tr) (j := j) ha
      have g6 : ∀ {ρ : List Sl} (n : Nat) (d : PyData), ρ[6]? = some (.dat (eL eAsk A)) → ρ[14]? = some (.dat (.int (k : Int))) → [eS a.house, eSet a.looks, eSet a.lot, eS "any", .tuple []][n]? = some d → DE f (tOp (rIx K) (tOp (rIx K) (tVar 6) (tVar 14)) (tC (.int (n : Int)))) ρ (· = .dat d) := fun n d h1 h2 h3 => dv_ixT n (dv_op (dv_var h1) (dv_var h2) (ix_L ha)) h3
      refine ⟨_, dg_name (by decide), qb_par (L := fun ss => ss = [.dat (eSets (needsBy tr a.house)), .dat (.tuple [])]) (dw_cons (de_tget (xs := namesOf tr) (key := fun h => h) (val := fun h => eSets (needsBy tr h)) rfl (g6 0 (eS a.house) rfl rfl rfl) ⟨a.house, t.names ▸ hh, rfl⟩ fun y _ e => by rw [e]) (dw_cons (de_tup (ds := []) dw_nil (by decide) rfl) dw_nil)) fun ss e => ⟨_, _, e, ?_⟩⟩
      refine db_seq (M := (· = ⟨O, [], [.raw (.ref f.1), .dat (eTru tr), .dat (eSet (namesOf tr)), .tab ((namesOf tr).map fun h => (Sum.inr h, eSets (needsBy tr h))), .dat (eMach (machOf j)), .dat (eSet (movesOf j)), .dat (eL eAsk A), s7, s8, s9, .no, s11, .no, .dat (eBook ⟨machOf j, tr, A⟩), .dat (.int (k : Int)), .dat (eSets (needsBy tr a.house)), .dat (eSets (dueL tr j a)), s17]⟩)) (db_if (B := (· = !((a.looks.filter fun x => decide (x ∈ movesOf j)).map eS).isEmpty)) (tv_test (dv_op (lc_fm (p := fun x => decide (x ∈ movesOf j)) (q := eS) (di_T (g6 1 (eSet a.looks) rfl rfl rfl)) (by omega) (fun z hz => dg_name (by decide)) (fun z hz => tv_test (dv_op (dv_var rfl) (dv_var rfl) (in_ST (ok_names z (lks.nm z hz)) (moves_ok j)))) fun z hz _ => dv_var rfl) (de_lst (ds := []) dw_nil (by decide) rfl) (ne_nilL (lay_L fun z hz => lay_S (ok_names z (lks.nm z (List.mem_filter.mp hz).1)))))) (fun c => ?_) fun c => ?_) fun S' e => ?_
      · have c2 : ((a.looks.filter fun x => decide (x ∈ movesOf j)).map eS).isEmpty = false := by simpa using c.symm
        refine db_set (dv_cb (dw_cons (lc_fm (p := fun n => !lawMeets [n] a.lot) (q := eSet) (di_T (dv_var rfl)) (by omega) (fun z hz => dg_name (by decide)) (fun one ho => tv_not (tv_B (dv_call ([one], a.lot, false) (dw_cons (de_lst (ds := [eSet one]) (dw_cons (dv_var rfl) dw_nil) (Nat.le_of_ble_eq_true rfl) rfl) (dw_cons (g6 2 (eSet a.lot) rfl rfl rfl) dw_nil)) ⟨⟨Nat.le_of_ble_eq_true rfl, fun s hs => by
          rw [List.mem_singleton.mp hs]
          exact ns.2 one ho⟩, fl⟩))) fun one ho _ => dv_var rfl) dw_nil) tup_L) fun s es => ?_
        subst es
        unfold dueL
        rw [c2]
        rfl
      · have c2 : ((a.looks.filter fun x => decide (x ∈ movesOf j)).map eS).isEmpty = true := by simpa using c.symm
        refine db_next ?_
        unfold dueL
        rw [c2]
        rfl
      subst e
      have dc : ∀ s ∈ dueL tr j a, s ∈ needsBy tr a.house := fun s hs => by
        unfold dueL at hs
        split at hs
        · cases hs
        · exact (List.mem_filter.mp hs).1
      have dl : (dueL tr j a).length ≤ 48 := by
        unfold dueL
        split
        · exact Nat.zero_le _
        · exact Nat.le_trans (List.length_filter_le _ _) nl
      have deq : ∀ {ρ : List Sl}, ρ[16]? = some (.dat (eSets (dueL tr j a))) → DE f (tOp (rEqD K) (tVar 16) (tTup tNil)) ρ (· = .dat (eB (dueL tr j a).isEmpty)) := fun h => (dv_op (dv_var h) (de_tup (ds := []) dw_nil (by decide) rfl) (eq_nilT (lay_sets fun s hs x hx => (ns.2 s (dc s hs)).2 x hx))).cast (by rw [List.isEmpty_map])
      refine qb_setv (s := .dat (.list [eSets (dueL tr j a), eB (dueL tr j a).isEmpty, eB (dueL tr j a).isEmpty])) (de_lst (ds := [eSets (dueL tr j a), eB (dueL tr j a).isEmpty, eB (dueL tr j a).isEmpty]) (dw_cons ((dv_callD (⟨machOf j, tr, A⟩, k) (dw_cons (dv_var rfl) (dw_cons (dv_var rfl) dw_nil)) (one_defI 0) rfl ⟨bg, k3⟩).cast (by rw [ea])) (dw_cons ((dv_callD (⟨machOf j, tr, A⟩, k) (dw_cons (dv_var rfl) (dw_cons (dv_var rfl) dw_nil)) (one_defI 0) rfl ⟨bg, k3⟩).cast (by rw [ea])) (dw_cons ((dv_callN (⟨machOf j, tr, A⟩, k) dw_nil (dw_cons (dv_var rfl) (dw_cons (dv_var rfl) (dw_cons dv_int dw_nil))) rfl rfl order_rb ⟨bg, k3⟩).cast (by rw [ea])) dw_nil))) (Nat.le_of_ble_eq_true rfl) rfl) ?_
      refine db_no ((tv_not (tv_B (dv_call (PyData.list [eSets (dueL tr j a), eB (dueL tr j a).isEmpty, eB (dueL tr j a).isEmpty]) (dw_cons (dv_var rfl) (dw_cons (de_lst (ds := [eSets (dueL tr j a), eB (dueL tr j a).isEmpty, eB (dueL tr j a).isEmpty]) (dw_cons (dv_var rfl) (dw_cons (deq rfl) (dw_cons (deq rfl) dw_nil))) (Nat.le_of_ble_eq_true rfl) rfl) dw_nil))
        ((sho_lst (n := 2) (k := 1776) (m := 3) (fun d hd => ?_) (Nat.le_refl _)).shown rfl (by decide) (by decide))))).cast rfl) ⟨_, _, _, _, rfl⟩
      rcases List.mem_cons.mp hd with e | hd
      · rw [e]
        exact sho_sets t.mem (fun s hs => nc s (dc s hs)) dl
      · rcases List.mem_cons.mp hd with e | hd
        · rw [e]
          exact sho_B.mono (by decide) (by decide)
        · rw [List.mem_singleton.mp hd]
          exact sho_B.mono (by decide) (by decide)
    · rintro S' ⟨s14, s15, s16, s17, rfl⟩
      exact db_retv dv_bl rfl
end
end K60

set_option maxHeartbeats 4000000
/-! K60: the law. -/
namespace K60
open PySem PySem.Spec PyProof.Rows L2
/-- a def by hand, where no text is under way -/
theorem mk_rawG {P : Program} {w : World} {K : PySem.W.Frag} {mg : Str → Option Value} {base : Heap} {x q : Str} {st : Stmt} {dvs : List V} {kws : List (Str × V)} {f : Addr} {fd : FuncData} {N ps : List Str} {k : Nat} {t : TS} {sp : Sp}
    (F : FunD K x q (defArgs st) (defBody st) (defScope st) dvs kws f fd) (S : FnScope N ps (defScope st)) (hb : BodyG P w K mg base k N q st t) (num : ∀ vs H Q E, sp vs H Q E → vs.length = ps.length)
    (hd : ∀ vs H Q E, sp vs H Q E → t { nx := fun _ H' => Q .non H', rt := Q } (L2.start N vs) H) : FnG P w K mg base (k + 1) f fd ps sp := by
  obtain ⟨oc, od, dV, kV, doc, pm, an, cdv, ct, osl, rfl, lk, hcd, _, _⟩ := F.ex
  refine ⟨num, fun A outer s H ar us vs Q E hA hr e0 hbd r hsp => ?_⟩
  have lv := num _ _ _ _ hsp
  have KX : K.In s.heap := e0.mod.kin.keeps fun b o e => (e0.bs b o e).1
  have lim : s.heap.NoLimit := e0.mod.nolimit.keeps fun b o e => (e0.bs b o e).1
  refine codeAny_call_function hr.depth (KX _ _ lk) rfl S.co S.gen rfl (PySem.W.codeRec_of KX hcd) (hbd _ _ _ _ ?_)
  refine wpAny_newFunctionEnv_cells S.kind (fun y hy => ?_) fun env he s1 x1 => ?_
  · rcases S.par y.1 (List.of_mem_zip hy).1 with z | z
    · exact .inl z
    · exact .inr ⟨z, PySem.W.cellsFrom_some _ _ _ (.inl z)⟩
  · subst he
    refine ⟨lim.keeps x1.toInCall.keep, codeAny_func ?_⟩
    have I : Inv (cxOf CX0 P w K mg base N q (defScope st) f cdv A outer s H E) [] (L2.start N vs) H s1 := inv_start S hr.hd e0 lv r x1
    have body := hd vs H Q E hsp
    refine wpAny_mono ((PSs.nox (hb f cdv A outer s H E hA (hr.deeper _))).run [] s1 (L2.start N vs) H _ I body) (fun fl s' hs => ?_) fun e s' hs => hs
    cases fl with
    | ret u =>
      obtain ⟨v, σ', H', J, rv, q⟩ := hs
      exact ⟨v, H', J.os, J.bare, J.base, J.hok, rv, q⟩
    | next =>
      obtain ⟨σ', H', J, q⟩ := hs
      exact ⟨V.non, H', J.os, J.bare, J.base, J.hok, rfl, q⟩
    | brk =>
      obtain ⟨_, _, _, q⟩ := hs
      exact False.elim q
    | cont =>
      obtain ⟨_, _, _, q⟩ := hs
      exact False.elim q
/-! ### the feed is made -/
theorem sq_new {K : PySem.W.Frag} {H : Hp} {a p : Addr} {o : HO} {xs : List V} (h : SqL K H a xs) (hp : H p = none) : SqL K (upd H p o) a xs := by
  rcases h with (h | ⟨u, h⟩) | h
  · exact .inl (.inl (by rw [upd_ne (ne_of_none h hp)]; exact h))
  · exact .inl (.inr ⟨u, by rw [upd_ne (ne_of_none h hp)]; exact h⟩)
  · exact .inr h
theorem cutV_take (vs : List V) (k : Nat) : cutV vs none (some (k : Int)) = vs.take k := by
  unfold cutV
  rw [HT.sIx_nat, HT.sIx_none, List.drop_zero, Nat.sub_zero]
  rcases Nat.le_total k vs.length with h | h
  · rw [Nat.min_eq_left h]
  · rw [Nat.min_eq_right h, List.take_length, List.take_of_length_le h]
section
variable {P : Program} {w : World} {K : PySem.W.Frag} {mg : Str → Option Value} {base : Heap} {f : Addr} {fd : FuncData} {dvs : List V} {kws : List (Str × V)}
theorem fn_law_feed (T : TB mg) (F : Fd K "_law_feed" s_law_feed dvs kws f fd) : FnOk P w K mg base CX0 1 f fd P_law_feed (sp_law_feed K) := mk_raw F sc_law_feed (pe_law_feed T) (fun vs H Q E ⟨a, ns, e, _⟩ => by rw [e]; rfl) fun vs H Q E h => by
  obtain ⟨a, ns, rfl, ⟨ln, sq⟩, hq⟩ := h
  refine fun D hD => ?_
  have sq1 : SqL K (upd H D (.dK [])) a (ns.map V.int) := sq_new sq hD
  obtain ⟨cells, ec⟩ : ∃ cells, cells = ns.take 63 := ⟨_, rfl⟩
  have lc : cells.length ≤ 63 := by
    rw [ec]
    exact List.length_take_le ..
  have ek : cutV (ns.map V.int) none (some 63) = cells.map V.int := by
    have e := cutV_take (ns.map V.int) 63
    rw [ec, List.map_take]
    exact e
  refine ⟨.ref a, rfl, (63 : Int), rfl, a, ns.map V.int, rfl, sq1, fun p1 h1 => ?_⟩
  rw [ek]
  obtain ⟨H2, e2⟩ : ∃ H2, H2 = upd (upd H D (.dK [])) p1 (.lst (cells.map V.int)) := ⟨_, rfl⟩
  rw [← e2]
  have d1 : p1 ≠ D := fun z => by
    rw [z, upd_same] at h1
    cases h1
  have hp0 : H p1 = none := by
    rw [upd_ne d1] at h1
    exact h1
  have g1 : H2 p1 = some (.lst (cells.map V.int)) := by
    rw [e2]
    exact upd_same
  have gD : H2 D = some (.dK []) := by
    rw [e2, upd_ne (Ne.symm d1)]
    exact upd_same
  have gK : ∀ b o, H b = some o → H2 b = some o := fun b o h => by
    rw [e2, upd_ne (ne_of_none h hp0), upd_ne (ne_of_none h hD)]
    exact h
  refine ⟨p1, rfl, .inl ⟨⟨_, .inl (.inl g1)⟩, fun C hC => ?_⟩⟩
  have c1 : p1 ≠ C := ne_of_none g1 hC
  have cD : D ≠ C := ne_of_none gD hC
  have s1 : ∀ o, SqL K (upd H2 C o) p1 (cells.map V.int) := fun o => .inl (.inl (by rw [upd_ne c1]; exact g1))
  have lm : (cells.map V.int).length = cells.length := List.length_map ..
  refine ⟨fun i m H' => m = cells.length - i ∧ i ≤ cells.length ∧ H' = upd H2 C (.lst ((cells.take i).map V.int)), ⟨cells.length, by simp, Nat.zero_le _, rfl⟩, ?_⟩
  rintro i m H' ⟨rfl, hi, rfl⟩
  by_cases hlt : i < cells.length
  · have gi : (cells.map V.int)[i]? = some (.int cells[i]) := by
      rw [List.getElem?_map, List.getElem?_eq_getElem hlt]
      rfl
    refine .inr ⟨⟨_, _, s1 _, gi⟩, fun H'' => H'' = upd H2 C (.lst ((cells.take (i + 1)).map V.int)), fun H'' e => ⟨cells.length - (i + 1), by omega, rfl, hlt, e⟩, fun v H3 y => ?_⟩
    obtain ⟨rfl, y⟩ := y
    have ev := y _ (s1 _)
    rw [gi] at ev
    have ev2 := Option.some.inj ev
    subst ev2
    refine ⟨rfl, .int cells[i], rfl, .inl ⟨cells[i], rfl, (cells.take i).map V.int, upd_same, ?_, ?_⟩⟩
    · rw [List.length_map, List.length_take]
      exact Nat.lt_of_le_of_lt (by omega : min i cells.length ≤ 63) (by decide)
    · show upd (upd H2 C _) C _ = _
      rw [upd_upd, take_next (List.getElem?_eq_getElem hlt), List.map_append]
      rfl
  · have e0 : i = cells.length := by omega
    subst e0
    rw [List.take_length]
    refine .inl ⟨⟨_, s1 _, Nat.le_of_eq lm⟩, ?_⟩
    have gD2 : upd H2 C (.lst (cells.map V.int)) D = some (.dK []) := by
      rw [upd_ne cD]
      exact gD
    refine ⟨gD2, [(Sum.inr "cells", .ref C), (Sum.inr "spot", .int 0), (Sum.inr "rest", .int 0), (Sum.inr "count", .int 0)], rfl, Nat.le_of_ble_eq_true rfl, hq _ D C (fun b o h => ?_) hD ⟨cells, 0, 0, 0, lc, ?_, ?_⟩⟩
    · have h2 := gK b o h
      rw [upd_ne (ne_of_none h hD), upd_ne (ne_of_none h2 hC)]
      exact h2
    · show upd _ D _ D = _
      rw [upd_same]
      rfl
    · show upd _ D _ C = _
      rw [upd_ne (Ne.symm cD)]
      exact upd_same
end
/-! ### dict(pairs) -/
theorem merge_new : ∀ {more acc : List (Key × V)}, (more.map (·.1)).Nodup → (∀ k ∈ more.map (·.1), valV acc k = none) → mergeK acc more = acc ++ more
  | [], acc, _, _ => (List.append_nil acc).symm
  | p :: r, acc, nd, h => by
    have h0 := h p.1 (List.mem_cons_self ..)
    obtain ⟨n1, n2⟩ := List.nodup_cons.mp nd
    show mergeK (putK acc p.1 p.2) r = acc ++ p :: r
    rw [putK_new p.2 h0, merge_new n2 fun k hk => ?_]
    · rw [List.append_assoc]
      rfl
    · rw [valV_snoc p.1 k p.2 acc h0, if_neg fun e => n1 (by show p.1 ∈ _; rw [← e]; exact hk)]
      exact h k (List.mem_cons_of_mem _ hk)
theorem pairs_of {H : Hp} {g : Str → PyData} : ∀ {vs : List V} {xs : List Str}, RpL H vs (xs.map fun x => .tuple [.str x, g x]) → ∃ (ps : List Addr) (kvs : List (Key × V)), vs = ps.map V.ref ∧ Paired (fun p kv => Rd H p (.tup [kV kv.1, kv.2])) ps kvs ∧ kvs.map (·.1) = xs.map Sum.inr ∧ RpT H kvs (xs.map fun x => (Sum.inr x, g x))
  | _, [], .nil => ⟨[], [], rfl, .nil, rfl, .nil⟩
  | _, x :: xs, .cons r t => by
    obtain ⟨ps, kvs, rfl, h1, h2, h3⟩ := pairs_of t
    obtain ⟨a, us, rfl, ha, rl⟩ := Rp.tup_inv r
    cases rl with
    | cons r1 rl =>
      cases rl with
      | cons r2 rl =>
        cases rl
        have e := Rp.str_inv r1
        subst e
        exact ⟨a :: ps, (Sum.inr x, _) :: kvs, rfl, .cons ha h1, by rw [List.map_cons, h2, List.map_cons], .cons r2 h3⟩
theorem rc_dict {f : Fe} {K : PySem.W.Frag} {g : Str → PyData} {xs : List Str} (nd : xs.Nodup) : DRC f (rDictX K) [.dat (.list (xs.map fun x => .tuple [.str x, g x]))] (· = .tab (xs.map fun x => (Sum.inr x, g x))) := drc1 fun O H v w r Q q => by
  obtain ⟨a, vs, rfl, ha, rl⟩ := Rp.list_inv r
  obtain ⟨ps, kvs, rfl, h1, h2, h3⟩ := pairs_of rl
  have pw : ∀ {ps : List Addr} {kvs : List (Key × V)}, Paired (fun p kv => Rd (hid H O) p (.tup [kV kv.1, kv.2])) ps kvs → Paired (fun p kv => SqT K H p [kV kv.1, kv.2]) ps kvs := fun h => by
    induction h with
    | nil => exact .nil
    | cons a b ih => exact .cons (.inl (rd_get a).1) ih
  have em : mergeK [] kvs = kvs := merge_new (by rw [h2]; exact List.pairwise_map.mpr (nd.imp fun n e => n (Sum.inr.inj e))) fun k _ => rfl
  refine ⟨a, ps, kvs, rfl, .inl (.inl (hid_get ha).1), pw h1, fun p hp => ?_⟩
  rw [em]
  exact q _ _ _ (w.new hp) rfl ⟨p, kvs, rfl, w.hnew hp, h3.mono ((w.new hp).hid w.fO)⟩
theorem db_run {f : Fe} {O0 : List Addr} {H0 : Hp} {t : TS} {S : Pt} {R : Sl → Prop} {D : Ends} {σ : L2.St} {H : Hp} (h : DB f O0 H0 t S (fun _ => False) R) (o : Okp f O0 H0 S σ H) (rt : ∀ v H' s, R s → Ext f H0 H' → VR O0 H' v s → D.rt v H') : t D σ H := h σ H D o (fun _ _ _ z => z.elim) rt
theorem raw_feed {K : PySem.W.Frag} {E : XK} {a : Addr} {ns : List Int} {u : TS} {D : Ends} {σ : L2.St} {H : Hp} (h0 : σ[0]? = some (some (.ref a))) (sc : Script K H a ns) (k : ∀ d c H', FeedAt H' (d, c) → u D (σ.set 1 (some (.ref d))) H') : tSeq (tAsg (tCall (sp_law_feed K) [] E (tCons (tVar 0) tNil)) (gName 1)) u D σ H :=
  ⟨.ref a, h0, a, ns, rfl, sc, fun H' d c _ _ fe => k d c H' fe⟩
section
variable {P : Program} {w : World} {K : PySem.W.Frag} {mg : Str → Option Value} {base : Heap} {f : Addr} {fd : FuncData} {dvs : List V} {kws : List (Str × V)}
theorem sho_tru {N : List Str} {tr : Tru} (t : TOk N tr) : Sho 4 1792 (eTru tr) := sho_T (m := 4) (k := 447) (fun r hr => by
  obtain ⟨_, l2, l3, _⟩ := t.lots r hr
  obtain ⟨_, f2, f3, _⟩ := t.fears r hr
  refine sho_tup (n := 2) (k := 148) (m := 3) (fun d hd => ?_) (Nat.le_refl 3)
  rcases List.mem_cons.mp hd with e | hd
  · rw [e]
    exact (sho_S (nm_names t.mem (t.inN hr))).mono (by decide) (by decide)
  · rcases List.mem_cons.mp hd with e | hd
    · rw [e]
      exact sho_T (m := 4) (k := 36) (fun S hS => sho_can t.mem (l3 S hS).1) l2
    · rw [List.mem_singleton.mp hd]
      exact sho_T (m := 4) (k := 36) (fun S hS => sho_can t.mem (f3 S hS).1) f2) t.few
theorem fn_law_right (T : TB mg) (G1 : Kn P w K mg base "_law_feed" P_law_feed 1 (sp_law_feed K)) (G2 : Kn P w K mg base "_law_guild" P_law_guild 3 sp_law_guild) (G3 : Kn P w K mg base "_law_safes" P_law_safes 3 sp_law_safes) (G4 : Kn P w K mg base "_law_needs" P_law_needs 3 sp_law_needs) (G5 : Kn P w K mg base "_law_draw" P_law_draw 1 sp_law_draw)
    (G6 : Kn P w K mg base "_law_safe" P_law_safe 2 sp_law_safe) (G7 : Kn P w K mg base "safe_houses" P_safe_houses 8 sp_safe_houses) (G8 : KnG P w K mg base "_law_same" P_law_same 1 sp_law_same) (G9 : KnG P w K mg base "_law_are_needs_right" P_law_are_needs_right 9 sp_law_are_needs_right) (G10 : KnG P w K mg base "_law_are_asks_right" P_law_are_asks_right 13 sp_law_are_asks_right)
    (F : Fd K "_law_right" s_law_right dvs kws f fd) : FnG P w K mg base 14 f fd P_law_right (sp_law_right K) := mk_rawG F sc_law_right (pe_law_right T G1 G2 G3 G4 G5 G6 G7 G8 G9 G10) (fun vs H Q E ⟨a, ns, e, _⟩ => by rw [e]; rfl) fun vs H Q E h => by
  obtain ⟨a, ns, rfl, sc, hq⟩ := h
  refine raw_feed rfl sc fun D c H' fe => ?_
  have wd : Wd (D, c) [D] H' := ⟨fe, List.mem_cons_self .., fun p hp => by
    rw [List.mem_singleton.mp hp]
    exact fe.there⟩
  refine db_run (f := (D, c)) (O0 := [D]) (H0 := H') (S := ⟨[D], [], [.no, .raw (.ref D), .no, .no, .no, .no, .no, .no, .no, .no]⟩) (R := (· = .dat (eB true))) ?_ ⟨wd, wd.refl, fun q hq => (nomatch hq), List.nodup_nil, ⟨trivial, rfl, trivial, trivial, trivial, trivial, trivial, trivial, trivial, trivial, trivial⟩, fun _ h => h⟩ fun v H2 s es _ r => by
    subst es
    have ev := Rp.bool_inv r
    subst ev
    exact hq H2
  refine qb_set (de_call () (dw_cons (dv_raw rfl) (dw_cons dv_int dw_nil)) trivial fun s p => p) fun s ⟨N, tr, t, es⟩ => ?_
  subst es
  have t4 := t.few
  have n4 := names4 t
  have sh := (sho_tru t).shown rfl (by decide) (by decide)
  have ndN : (namesOf tr).Nodup := by
    rw [t.names]
    exact t.nodup
  refine qb_asg (vs := [3, 4, 5]) (de_tup (ds := [eS (eTru tr).shown, eSet (namesOf tr), eL ePS (safesL tr)]) (dw_cons (dv_cb (dw_cons (dv_var rfl) dw_nil) (rc_repr sh)) (dw_cons (dv_cb (dw_cons ((lc_m (q := fun r : Row => eS r.1) (di_T (dv_var rfl)) (by omega) (fun r hr => dg_name (by decide)) fun r hr => dv_ixT 0 (dv_var rfl) rfl).cast (v := .dat (eL eS (namesOf tr))) ?_) dw_nil) tup_L) (dw_cons (dv_call tr (dw_cons (dv_var rfl) dw_nil) ⟨N, t⟩) dw_nil))) (Nat.le_of_ble_eq_true rfl) rfl (isM_len (by show (3 : Nat) ≠ 4; decide))) (dg_tup (ds := [eS (eTru tr).shown, eSet (namesOf tr), eL ePS (safesL tr)]) (dgs_cons (dg_name (by decide)) (dgs_cons (dg_name (by decide)) (dgs_cons (dg_name (by decide)) dgs_nil)))) ?_
  · unfold namesOf eL
    rw [List.map_map]
    rfl
  refine qb_setv (dv_cb (dw_cons (lc_m (q := fun h => .tuple [eS h, eSets (needsBy tr h)]) (di_T (dv_var rfl)) (by omega) (fun h hh => dg_name (by decide)) fun h hh => de_tup (ds := [eS h, eSets (needsBy tr h)]) (dw_cons (dv_var rfl) (dw_cons ((dv_call (tr, h) (dw_cons (dv_var rfl) (dw_cons (dv_var rfl) (dw_cons (dv_var rfl) dw_nil))) ⟨N, t, t.names ▸ hh⟩).cast (v := .dat (eSets (needsBy tr h))) ?_) dw_nil)) (Nat.le_of_ble_eq_true rfl) rfl (isM_len (by show (2 : Nat) ≠ 4; decide))) dw_nil) (rc_dict (g := fun h => eSets (needsBy tr h)) ndN)) ?_
  · show Sl.dat (eSets (lawNeeds tr (safesL tr) h)) = _
    rw [needs_eq t (t.names ▸ hh)]
  refine qb_set (de_tupSome (q := eS) (fun _ => rfl) (di_T (dv_var rfl)) (by omega) (fun z hz => dg_name (by decide)) (fun z hz => dt_test (dt_draw0 rfl (by decide) (by decide))) fun z hz => dv_var rfl) fun s ⟨S, es, sub⟩ => ?_
  subst es
  have cS : Can N S := sub_can t.nodup (t.names ▸ sub)
  have fS := can_few t.mem cS
  have cs : Can N (safeL tr S) := by
    rw [← safe_eq t S]
    unfold safeBy
    rw [t.names]
    exact can_filter N _
  refine qb_no ((tv_not (tv_B (dv_call (eSet (safeL tr S)) (dw_cons ((dv_call (tr, S) (dw_cons (dv_var rfl) (dw_cons (dv_var rfl) dw_nil)) ⟨N, t, cS⟩).cast ?_) (dw_cons (dv_cb (dw_cons (dv_call (tr, S) (dw_cons (dv_var rfl) (dw_cons (dv_var rfl) dw_nil)) ⟨⟨N, t⟩, fS⟩) dw_nil) tup_L) dw_nil)) ((sho_can t.mem cs).shown rfl (by decide) (by decide))))).cast rfl) ?_
  · show Sl.dat (eSet (safeBy tr S)) = _
    rw [safe_eq t S]
  refine qb_for (vs := [8]) (xs := namesOf tr) (fun i S' => ∃ s8, S' = ⟨[D], [], [.no, .raw (.ref D), .dat (eTru tr), .dat (eS (eTru tr).shown), .dat (eSet (namesOf tr)), .dat (eL ePS (safesL tr)), .no, .tab ((namesOf tr).map fun h => (Sum.inr h, eSets (needsBy tr h))), s8, .dat (eSet S)]⟩) ⟨.no, rfl⟩ (di_T (dv_var rfl)) (fun i S' m => by obtain ⟨_, rfl⟩ := m; rfl) ?_ ?_
  · rintro i h S' hh ⟨s8, rfl⟩
    have mh := List.mem_of_getElem? hh
    exact ⟨_, dg_name (by decide), db_no ((tv_not (tv_B (de_call (tr, h) (dw_cons (dv_raw rfl) (dw_cons (dv_var rfl) (dw_cons (dv_var rfl) (dw_cons (dv_var rfl) (dw_cons (de_tget (xs := namesOf tr) (key := fun h => h) (val := fun h => eSets (needsBy tr h)) rfl (dv_var rfl) ⟨h, mh, rfl⟩ fun y _ e => by rw [e]) dw_nil))))) ⟨N, t, t.names ▸ mh⟩ fun s p => p))).cast rfl) ⟨.dat (eS h), rfl⟩⟩
  · rintro S' ⟨s8, rfl⟩
    exact db_retv (vv_and (de_call tr (dw_cons (dv_raw rfl) (dw_cons (dv_var rfl) (dw_cons (dv_var rfl) (dw_cons (de_var rfl (fun z => nomatch z) rfl) dw_nil)))) ⟨N, t⟩ fun s p => p) fun _ => dv_op (dv_cb (dw_cons (dv_var rfl) dw_nil) (rc_repr sh)) (dv_var rfl) dr_flatS) rfl
theorem fn_law (T : TB mg) (G1 : KnG P w K mg base "_law_right" P_law_right 14 (sp_law_right K)) (F : Fd K "law" s_law dvs kws f fd) : FnG P w K mg base 15 f fd P_law (sp_law K) := mk_rawG F sc_law (pe_law T G1) (fun vs H Q E ⟨a, ns, e, _⟩ => by rw [e]; rfl) fun vs H Q E h => by
  obtain ⟨a, ns, rfl, sc, hq⟩ := h
  exact ⟨.ref a, rfl, a, ns, rfl, sc, hq⟩
end
end K60

set_option maxHeartbeats 4000000

/-! K60: the bindings. -/
namespace K60
open PySem PySem.Spec PyProof.Rows L2
abbrev FnO' (x : Str) (st : Stmt) (dV kV doc pm : Value) (an : Option Addr) (cdv ct : Value) : FuncData := PySem.W.fnOf x x (defArgs st) (defBody st) (defScope st) dV kV doc pm an cdv ct
section
variable {P : Program} {w : World} {K : PySem.W.Frag} {mg : Str → Option Value} {base : Heap} {f : Addr} {fd : FuncData} {x : Str} {st : Stmt} {ps : List Str} {k : Nat} {sp : Sp} {dvs : List V} {kws : List (Str × V)}
/-- every parameter is given, none has a default -/
def BNs (x : Str) (st : Stmt) (ps : List Str) : Prop := ∀ (kV doc pm : Value) (an : Option Addr) (cdv ct : Value) (us : List Value), us.length = ps.length → bindArgs (FnO' x st .none kV doc pm an cdv ct) ⟨us, []⟩ = pure (ps.zip us)
theorem kn_of (hb : BNs x st ps) (hm : mg x = some (.ref f)) (F : Fd K x st [] [] f fd) (FN : FnOk P w K mg base CX0 k f fd ps sp) : Kn P w K mg base x ps k sp := ⟨f, fd, hm, F.kp, F.bindsN hb, FN⟩
theorem kg_of (hb : BNs x st ps) (hm : mg x = some (.ref f)) (F : Fd K x st [] [] f fd) (FN : FnG P w K mg base k f fd ps sp) : KnG P w K mg base x ps k sp := ⟨f, fd, hm, F.kp, F.bindsN hb, FN⟩
/-- n are given, the defaults behind the first j fill up -/
def BD (x : Str) (st : Stmt) (ps : List Str) (n m j : Nat) : Prop := ∀ (T : Addr) (kV doc pm : Value) (an : Option Addr) (cdv ct : Value) (us its : List Value), us.length = n → its.length = m → ∃ k, bindArgs (FnO' x st (.ref T) kV doc pm an cdv ct) ⟨us, []⟩ = seqItems? (.ref T) >>= k ∧ k (some its.toArray) = pure (ps.zip (us ++ its.drop j))
theorem kd_of {n : Nat} {v : V} (hb : BD x st ps n 1 0) (hn : n + 1 = ps.length) (hm : mg x = some (.ref f)) (F : Fd K x st [v] [] f fd) (FN : FnOk P w K mg base CX0 k f fd ps sp) : KnD P w K mg base x ps k sp [v] := by
  obtain ⟨ds, h1, h2⟩ := F.binds1 (ps := ps) n 0 (fun z => nomatch z) hn hb
  exact ⟨f, fd, ds, hm, F.kp, h2, h1, FN⟩
theorem kf_of {n : Nat} {v : V} (hb : BD x st ps n 1 1) (hn : n = ps.length) (hm : mg x = some (.ref f)) (F : Fd K x st [v] [] f fd) (FN : FnOk P w K mg base CX0 k f fd ps sp) : Kn P w K mg base x ps k sp := by
  obtain ⟨ds, h1, h2⟩ := F.binds1 (ps := ps) n 1 (fun z => nomatch z) (by rw [← hn]; rfl) hb
  have h3 : Vals [] ds := h1
  cases h3
  exact ⟨f, fd, hm, F.kp, h2, FN⟩
/-- a keyword-only parameter lacks -/
def BK0 (x : Str) (st : Stmt) (ps : List Str) (n : Nat) (key : Str) : Prop := ∀ (D : Addr) (doc pm : Value) (an : Option Addr) (cdv ct : Value) (us ks : List Value), us.length = n → ks.length = 1 → KwChain D ([key].zip ks) (bindArgs (FnO' x st .none (.ref D) doc pm an cdv ct) ⟨us, []⟩) (ps.zip (us ++ ks))
theorem k0_of {n : Nat} {key : Str} {v : V} (hb : BK0 x st ps n key) (hn : n + 1 = ps.length) (hm : mg x = some (.ref f)) (F : Fd K x st [] [(key, v)] f fd) (FN : FnOk P w K mg base CX0 k f fd ps sp) : KnD P w K mg base x ps k sp [v] := by
  obtain ⟨ds, h1, h2⟩ := F.binds0 (ps := ps) n (fun z => nomatch z) hn hb
  exact ⟨f, fd, ds, hm, F.kp, h2, h1, FN⟩
/-- by keywords, no default is asked -/
def gAppV : List Value → List Value → List Value := fun us ws => us ++ ws
def gSwV : List Value → List Value → List Value
  | [], [a, b] => [b, a]
  | _, _ => []
def gRbV : List Value → List Value → List Value
  | [], [a, b, c] => [b, a, c]
  | _, _ => []
def gRevV : List Value → List Value → List Value
  | [], [a, b, c] => [c, b, a]
  | _, _ => []
def GRel (gV : List V → List V → List V) (g : List Value → List Value → List Value) : Prop := ∀ {vs : List V} {us : List Value} {zs : List V} {ws : List Value}, Vals vs us → Vals zs ws → Vals (gV vs zs) (g us ws)
theorem rel_app : GRel gApp gAppV := fun h k => h.append k
theorem rel_sw : GRel gSw gSwV := fun h k => by
  cases h with
  | nil =>
    cases k with
    | nil => exact .nil
    | cons a k =>
      cases k with
      | nil => exact .nil
      | cons b k =>
        cases k with
        | nil => exact .cons b (.cons a .nil)
        | cons c k => exact .nil
  | cons a h => exact .nil
theorem rel_rb : GRel gRb gRbV := fun h k => by
  cases h with
  | nil =>
    cases k with
    | nil => exact .nil
    | cons a k =>
      cases k with
      | nil => exact .nil
      | cons b k =>
        cases k with
        | nil => exact .nil
        | cons c k =>
          cases k with
          | nil => exact .cons b (.cons a (.cons c .nil))
          | cons d k => exact .nil
  | cons a h => exact .nil
theorem rel_rev : GRel gRev gRevV := fun h k => by
  cases h with
  | nil =>
    cases k with
    | nil => exact .nil
    | cons a k =>
      cases k with
      | nil => exact .nil
      | cons b k =>
        cases k with
        | nil => exact .nil
        | cons c k =>
          cases k with
          | nil => exact .cons c (.cons b (.cons a .nil))
          | cons d k => exact .nil
  | cons a h => exact .nil
def BKw (x : Str) (st : Stmt) (ps : List Str) (n : Nat) (ks : List Str) (g : List Value → List Value → List Value) : Prop := ∀ (kV doc pm : Value) (an : Option Addr) (cdv ct : Value) (us ws : List Value), us.length = n → ws.length = ks.length → bindArgs (FnO' x st .none kV doc pm an cdv ct) ⟨us, ks.zip ws⟩ = pure (ps.zip (g us ws))
theorem kk_of {n : Nat} {ks : List Str} {gV : List V → List V → List V} {g : List Value → List Value → List Value} (hr : GRel gV g) (hb : BKw x st ps n ks g) (hm : mg x = some (.ref f)) (F : Fd K x st [] kws f fd) (FN : FnOk P w K mg base CX0 k f fd ps sp) : KnK P w K mg base x ps k sp n ks gV := by
  refine ⟨f, fd, g, hm, F.kp, ⟨fun s us ws X l1 l2 => ?_, fun h1 h2 => hr h1 h2⟩, FN⟩
  obtain ⟨oc, od, dV, kV, doc, pm, an, cdv, ct, osl, rfl, lk, hcd, hD, hK⟩ := F.ex
  rcases hD with ⟨_, rfl⟩ | ⟨e, _⟩
  · exact .of_eq (hb kV doc pm an cdv ct us ws l1 l2)
  · exact absurd rfl e
end
theorem b_is_integer : BNs "is_integer" s_is_integer P_is_integer := fun _ _ _ _ _ _ us hl => match us, hl with | [a0], _ => rfl
theorem b_is_number : BNs "is_number" s_is_number P_is_number := fun _ _ _ _ _ _ us hl => match us, hl with | [a0], _ => rfl
theorem b_is_index : BNs "is_index" s_is_index P_is_index := fun _ _ _ _ _ _ us hl => match us, hl with | [a0, a1], _ => rfl
theorem b_is_among : BNs "is_among" s_is_among P_is_among := fun _ _ _ _ _ _ us hl => match us, hl with | [a0, a1], _ => rfl
theorem b_is_name : BNs "is_name" s_is_name P_is_name := fun _ _ _ _ _ _ us hl => match us, hl with | [a0], _ => rfl
theorem b_is_tuple_of : BNs "is_tuple_of" s_is_tuple_of P_is_tuple_of := fun _ _ _ _ _ _ us hl => match us, hl with | [a0, a1], _ => rfl
theorem b_are_rising : BNs "are_rising" s_are_rising P_are_rising := fun _ _ _ _ _ _ us hl => match us, hl with | [a0], _ => rfl
theorem b_is_names : BNs "is_names" s_is_names P_is_names := fun _ _ _ _ _ _ us hl => match us, hl with | [a0], _ => rfl
theorem b_is_names_among : BNs "is_names_among" s_is_names_among P_is_names_among := fun _ _ _ _ _ _ us hl => match us, hl with | [a0, a1], _ => rfl
theorem b_are_sets_among : BNs "are_sets_among" s_are_sets_among P_are_sets_among := fun _ _ _ _ _ _ us hl => match us, hl with | [a0, a1], _ => rfl
theorem b_are_indexes : BNs "are_indexes" s_are_indexes P_are_indexes := fun _ _ _ _ _ _ us hl => match us, hl with | [a0, a1, a2], _ => rfl
theorem b_are_numbers : BNs "are_numbers" s_are_numbers P_are_numbers := fun _ _ _ _ _ _ us hl => match us, hl with | [a0, a1], _ => rfl
theorem b_machine_fault : BNs "machine_fault" s_machine_fault P_machine_fault := fun _ _ _ _ _ _ us hl => match us, hl with | [a0], _ => rfl
theorem b_is_triple_from : BNs "is_triple_from" s_is_triple_from P_is_triple_from := fun _ _ _ _ _ _ us hl => match us, hl with | [a0], _ => rfl
theorem b_trust_fault : BNs "trust_fault" s_trust_fault P_trust_fault := fun _ _ _ _ _ _ us hl => match us, hl with | [a0], _ => rfl
theorem b_order_fault : BNs "order_fault" s_order_fault P_order_fault := fun _ _ _ _ _ _ us hl => match us, hl with | [a0, a1], _ => rfl
theorem b_gaps_by : BNs "gaps_by" s_gaps_by P_gaps_by := fun _ _ _ _ _ _ us hl => match us, hl with | [a0], _ => rfl
theorem b_triangle_fault : BNs "triangle_fault" s_triangle_fault P_triangle_fault := fun _ _ _ _ _ _ us hl => match us, hl with | [a0], _ => rfl
theorem b_clocks_fault : BNs "clocks_fault" s_clocks_fault P_clocks_fault := fun _ _ _ _ _ _ us hl => match us, hl with | [a0, a1], _ => rfl
theorem b_are_promises : BNs "are_promises" s_are_promises P_are_promises := fun _ _ _ _ _ _ us hl => match us, hl with | [a0, a1], _ => rfl
theorem b_is_looking : BNs "is_looking" s_is_looking P_is_looking := fun _ _ _ _ _ _ us hl => match us, hl with | [a0], _ => rfl
theorem b_is_looking_of : BNs "is_looking_of" s_is_looking_of P_is_looking_of := fun _ _ _ _ _ _ us hl => match us, hl with | [a0, a1, a2], _ => rfl
theorem b_rules_fault : BNs "rules_fault" s_rules_fault P_rules_fault := fun _ _ _ _ _ _ us hl => match us, hl with | [a0, a1, a2, a3], _ => rfl
theorem b_parts_fault : BNs "parts_fault" s_parts_fault P_parts_fault := fun _ _ _ _ _ _ us hl => match us, hl with | [a0], _ => rfl
theorem b_is_trust : BNs "is_trust" s_is_trust P_is_trust := fun _ _ _ _ _ _ us hl => match us, hl with | [a0], _ => rfl
theorem b_is_book : BNs "is_book" s_is_book P_is_book := fun _ _ _ _ _ _ us hl => match us, hl with | [a0], _ => rfl
theorem b_meets_in : BNs "meets_in" s_meets_in P_meets_in := fun _ _ _ _ _ _ us hl => match us, hl with | [a0, a1], _ => rfl
theorem b_joint_in : BNs "joint_in" s_joint_in P_joint_in := fun _ _ _ _ _ _ us hl => match us, hl with | [a0, a1], _ => rfl
theorem b_houses_in : BNs "houses_in" s_houses_in P_houses_in := fun _ _ _ _ _ _ us hl => match us, hl with | [a0], _ => rfl
theorem b_lots_of : BNs "lots_of" s_lots_of P_lots_of := fun _ _ _ _ _ _ us hl => match us, hl with | [a0, a1], _ => rfl
theorem b_fears_of : BNs "fears_of" s_fears_of P_fears_of := fun _ _ _ _ _ _ us hl => match us, hl with | [a0, a1], _ => rfl
theorem b_is_within : BNs "is_within" s_is_within P_is_within := fun _ _ _ _ _ _ us hl => match us, hl with | [a0, a1], _ => rfl
theorem b_less_by : BNs "less_by" s_less_by P_less_by := fun _ _ _ _ _ _ us hl => match us, hl with | [a0, a1], _ => rfl
theorem b_least_of : BNs "least_of" s_least_of P_least_of := fun _ _ _ _ _ _ us hl => match us, hl with | [a0], _ => rfl
theorem b_greatest_of : BNs "greatest_of" s_greatest_of P_greatest_of := fun _ _ _ _ _ _ us hl => match us, hl with | [a0], _ => rfl
theorem b_is_safe_by : BNs "is_safe_by" s_is_safe_by P_is_safe_by := fun _ _ _ _ _ _ us hl => match us, hl with | [a0, a1, a2], _ => rfl
theorem b_safe_by : BNs "safe_by" s_safe_by P_safe_by := fun _ _ _ _ _ _ us hl => match us, hl with | [a0, a1], _ => rfl
theorem b_falls_by : BNs "falls_by" s_falls_by P_falls_by := fun _ _ _ _ _ _ us hl => match us, hl with | [a0, a1, a2], _ => rfl
theorem b_pairs_in : BNs "pairs_in" s_pairs_in P_pairs_in := fun _ _ _ _ _ _ us hl => match us, hl with | [a0], _ => rfl
theorem b_lot_at : BNs "lot_at" s_lot_at P_lot_at := fun _ _ _ _ _ _ us hl => match us, hl with | [a0, a1], _ => rfl
theorem b_needs_by : BNs "needs_by" s_needs_by P_needs_by := fun _ _ _ _ _ _ us hl => match us, hl with | [a0, a1], _ => rfl
theorem b_first_missed_by : BNs "first_missed_by" s_first_missed_by P_first_missed_by := fun _ _ _ _ _ _ us hl => match us, hl with | [a0, a1], _ => rfl
theorem b_is_met : BNs "is_met" s_is_met P_is_met := fun _ _ _ _ _ _ us hl => match us, hl with | [a0, a1], _ => rfl
theorem b_crossings_by : BNs "crossings_by" s_crossings_by P_crossings_by := fun _ _ _ _ _ _ us hl => match us, hl with | [a0], _ => rfl
theorem b_is_house_of : BNs "is_house_of" s_is_house_of P_is_house_of := fun _ _ _ _ _ _ us hl => match us, hl with | [a0, a1], _ => rfl
theorem b_are_houses_of : BNs "are_houses_of" s_are_houses_of P_are_houses_of := fun _ _ _ _ _ _ us hl => match us, hl with | [a0, a1], _ => rfl
theorem bd_want : BD "want" s_want P_want 2 1 0 := fun _ _ _ _ _ _ _ us its hl h2 => match us, hl, its, h2 with | [a0, a1], _, [b], _ => ⟨_, rfl, rfl⟩
theorem bd_want_book : BD "want_book" s_want_book P_want_book 1 1 0 := fun _ _ _ _ _ _ _ us its hl h2 => match us, hl, its, h2 with | [a0], _, [b], _ => ⟨_, rfl, rfl⟩
theorem b_want_age : BNs "want_age" s_want_age P_want_age := fun _ _ _ _ _ _ us hl => match us, hl with | [a0, a1], _ => rfl
theorem bd_want_trust : BD "want_trust" s_want_trust P_want_trust 1 1 0 := fun _ _ _ _ _ _ _ us its hl h2 => match us, hl, its, h2 with | [a0], _, [b], _ => ⟨_, rfl, rfl⟩
theorem bd_want_house : BD "want_house" s_want_house P_want_house 2 1 0 := fun _ _ _ _ _ _ _ us its hl h2 => match us, hl, its, h2 with | [a0, a1], _, [b], _ => ⟨_, rfl, rfl⟩
theorem bd_want_lot : BD "want_lot" s_want_lot P_want_lot 2 1 0 := fun _ _ _ _ _ _ _ us its hl h2 => match us, hl, its, h2 with | [a0, a1], _, [b], _ => ⟨_, rfl, rfl⟩
theorem bf_want_lot : BD "want_lot" s_want_lot P_want_lot 3 1 1 := fun _ _ _ _ _ _ _ us its hl h2 => match us, hl, its, h2 with | [a0, a1, a2], _, [b], _ => ⟨_, rfl, rfl⟩
theorem b_needs_of : BNs "needs_of" s_needs_of P_needs_of := fun _ _ _ _ _ _ us hl => match us, hl with | [a0, a1], _ => rfl
theorem b_meets_needs : BNs "meets_needs" s_meets_needs P_meets_needs := fun _ _ _ _ _ _ us hl => match us, hl with | [a0, a1, a2], _ => rfl
theorem b_first_missed : BNs "first_missed" s_first_missed P_first_missed := fun _ _ _ _ _ _ us hl => match us, hl with | [a0, a1, a2], _ => rfl
theorem b_least_lots : BNs "least_lots" s_least_lots P_least_lots := fun _ _ _ _ _ _ us hl => match us, hl with | [a0, a1], _ => rfl
theorem b_fewest_lot : BNs "fewest_lot" s_fewest_lot P_fewest_lot := fun _ _ _ _ _ _ us hl => match us, hl with | [a0, a1], _ => rfl
theorem b_safe_houses : BNs "safe_houses" s_safe_houses P_safe_houses := fun _ _ _ _ _ _ us hl => match us, hl with | [a0, a1], _ => rfl
theorem b_want_rule : BNs "want_rule" s_want_rule P_want_rule := fun _ _ _ _ _ _ us hl => match us, hl with | [a0, a1], _ => rfl
theorem b_answer_in : BNs "answer_in" s_answer_in P_answer_in := fun _ _ _ _ _ _ us hl => match us, hl with | [a0, a1, a2], _ => rfl
theorem b_rows_from : BNs "rows_from" s_rows_from P_rows_from := fun _ _ _ _ _ _ us hl => match us, hl with | [a0, a1], _ => rfl
theorem b_rows_in : BNs "rows_in" s_rows_in P_rows_in := fun _ _ _ _ _ _ us hl => match us, hl with | [a0], _ => rfl
theorem b_unlike_from : BNs "unlike_from" s_unlike_from P_unlike_from := fun _ _ _ _ _ _ us hl => match us, hl with | [a0, a1, a2], _ => rfl
theorem b_kept_within : BNs "kept_within" s_kept_within P_kept_within := fun _ _ _ _ _ _ us hl => match us, hl with | [a0, a1, a2], _ => rfl
theorem b_longest_from : BNs "longest_from" s_longest_from P_longest_from := fun _ _ _ _ _ _ us hl => match us, hl with | [a0, a1, a2], _ => rfl
theorem b_least_age_in : BNs "least_age_in" s_least_age_in P_least_age_in := fun _ _ _ _ _ _ us hl => match us, hl with | [a0, a1], _ => rfl
theorem b_moves_in : BNs "moves_in" s_moves_in P_moves_in := fun _ _ _ _ _ _ us hl => match us, hl with | [a0, a1, a2], _ => rfl
theorem b_lasting_in : BNs "lasting_in" s_lasting_in P_lasting_in := fun _ _ _ _ _ _ us hl => match us, hl with | [a0, a1], _ => rfl
theorem b_caught_in : BNs "caught_in" s_caught_in P_caught_in := fun _ _ _ _ _ _ us hl => match us, hl with | [a0, a1, a2], _ => rfl
theorem b_moving_in : BNs "moving_in" s_moving_in P_moving_in := fun _ _ _ _ _ _ us hl => match us, hl with | [a0, a1, a2], _ => rfl
theorem b_lacks_in : BNs "lacks_in" s_lacks_in P_lacks_in := fun _ _ _ _ _ _ us hl => match us, hl with | [a0, a1, a2], _ => rfl
theorem b0_rule_lacks : BK0 "rule_lacks" s_rule_lacks P_rule_lacks 2 "age" := fun _ _ _ _ _ _ us ks hl h2 => match us, hl, ks, h2 with | [a0, a1], _, [b], _ => ⟨_, _, _, _, _, _, rfl, rfl, rfl⟩
theorem b0_rule_is_right : BK0 "rule_is_right" s_rule_is_right P_rule_is_right 2 "age" := fun _ _ _ _ _ _ us ks hl h2 => match us, hl, ks, h2 with | [a0, a1], _, [b], _ => ⟨_, _, _, _, _, _, rfl, rfl, rfl⟩
theorem b_law_feed : BNs "_law_feed" s_law_feed P_law_feed := fun _ _ _ _ _ _ us hl => match us, hl with | [a0], _ => rfl
theorem b_law_draw : BNs "_law_draw" s_law_draw P_law_draw := fun _ _ _ _ _ _ us hl => match us, hl with | [a0, a1], _ => rfl
theorem b_law_any : BNs "_law_any" s_law_any P_law_any := fun _ _ _ _ _ _ us hl => match us, hl with | [a0, a1], _ => rfl
theorem b_law_same : BNs "_law_same" s_law_same P_law_same := fun _ _ _ _ _ _ us hl => match us, hl with | [a0, a1], _ => rfl
theorem b_law_within : BNs "_law_within" s_law_within P_law_within := fun _ _ _ _ _ _ us hl => match us, hl with | [a0, a1], _ => rfl
theorem b_law_less : BNs "_law_less" s_law_less P_law_less := fun _ _ _ _ _ _ us hl => match us, hl with | [a0, a1], _ => rfl
theorem b_law_subsets : BNs "_law_subsets" s_law_subsets P_law_subsets := fun _ _ _ _ _ _ us hl => match us, hl with | [a0], _ => rfl
theorem b_law_guild : BNs "_law_guild" s_law_guild P_law_guild := fun _ _ _ _ _ _ us hl => match us, hl with | [a0, a1], _ => rfl
theorem b_law_safe : BNs "_law_safe" s_law_safe P_law_safe := fun _ _ _ _ _ _ us hl => match us, hl with | [a0, a1], _ => rfl
theorem b_law_safes : BNs "_law_safes" s_law_safes P_law_safes := fun _ _ _ _ _ _ us hl => match us, hl with | [a0], _ => rfl
theorem b_law_minimal : BNs "_law_minimal" s_law_minimal P_law_minimal := fun _ _ _ _ _ _ us hl => match us, hl with | [a0], _ => rfl
theorem b_law_needs : BNs "_law_needs" s_law_needs P_law_needs := fun _ _ _ _ _ _ us hl => match us, hl with | [a0, a1, a2], _ => rfl
theorem b_law_meets : BNs "_law_meets" s_law_meets P_law_meets := fun _ _ _ _ _ _ us hl => match us, hl with | [a0, a1], _ => rfl
theorem b_law_motor : BNs "_law_motor" s_law_motor P_law_motor := fun _ _ _ _ _ _ us hl => match us, hl with | [a0], _ => rfl
theorem b_law_least : BNs "_law_least" s_law_least P_law_least := fun _ _ _ _ _ _ us hl => match us, hl with | [a0, a1], _ => rfl
theorem b_law_are_needs_right : BNs "_law_are_needs_right" s_law_are_needs_right P_law_are_needs_right := fun _ _ _ _ _ _ us hl => match us, hl with | [a0, a1, a2, a3, a4], _ => rfl
theorem b_law_are_asks_right : BNs "_law_are_asks_right" s_law_are_asks_right P_law_are_asks_right := fun _ _ _ _ _ _ us hl => match us, hl with | [a0, a1, a2, a3], _ => rfl
theorem b_law_right : BNs "_law_right" s_law_right P_law_right := fun _ _ _ _ _ _ us hl => match us, hl with | [a0], _ => rfl
theorem b_law : BNs "law" s_law P_law := fun _ _ _ _ _ _ us hl => match us, hl with | [a0], _ => rfl
theorem bk_needs_of : BKw "needs_of" s_needs_of P_needs_of 0 ["house", "trust"] gSwV := fun _ _ _ _ _ _ us ws hl h2 => match us, hl, ws, h2 with | [], _, [a, b], _ => rfl
theorem bk_first_missed : BKw "first_missed" s_first_missed P_first_missed 0 ["lot", "house", "trust"] gRevV := fun _ _ _ _ _ _ us ws hl h2 => match us, hl, ws, h2 with | [], _, [a, b, c], _ => rfl
theorem bk_rule_is_right : BKw "rule_is_right" s_rule_is_right P_rule_is_right 0 ["rule", "book", "age"] gRbV := fun _ _ _ _ _ _ us ws hl h2 => match us, hl, ws, h2 with | [], _, [a, b, c], _ => rfl
theorem bk_rule_lacks : BKw "rule_lacks" s_rule_lacks P_rule_lacks 2 ["age"] gAppV := fun _ _ _ _ _ _ us ws hl h2 => match us, hl, ws, h2 with | [a, b], _, [c], _ => rfl
end K60

set_option maxHeartbeats 4000000

/-! K60: joined. -/
namespace K60
open PySem PySem.Spec PyProof.Rows L2 K60H
section
variable {P : Program} {w : World} {K : PySem.W.Frag} {h : Heap} {mg : Str → Option Value}
theorem tb_of (X : K.In h) (G : h.Ns mainGlobals mg) (c : He.SaysD fa fn K) : TB mg := ⟨He.free_ok X G (c.fact 92 (f := .free "len") rfl), He.free_ok X G (c.fact 93 (f := .free "any") rfl), He.free_ok X G (c.fact 94 (f := .free "all") rfl), He.free_ok X G (c.fact 95 (f := .free "tuple") rfl), He.free_ok X G (c.fact 96 (f := .free "sorted") rfl), He.free_ok X G (c.fact 97 (f := .free "set") rfl), He.free_ok X G (c.fact 98 (f := .free "zip") rfl), He.free_ok X G (c.fact 99 (f := .free "isinstance") rfl), He.free_ok X G (c.fact 100 (f := .free "enumerate") rfl), He.free_ok X G (c.fact 101 (f := .free "range") rfl), He.free_ok X G (c.fact 102 (f := .free "list") rfl), He.free_ok X G (c.fact 103 (f := .free "min") rfl), He.free_ok X G (c.fact 104 (f := .free "max") rfl), He.free_ok X G (c.fact 105 (f := .free "repr") rfl), He.free_ok X G (c.fact 106 (f := .free "dict") rfl), He.free_ok X G (c.fact 107 (f := .free "int") rfl), He.free_ok X G (c.fact 108 (f := .free "str") rfl), He.free_ok X G (c.fact 109 (f := .free "bool") rfl), He.str_ok X G (c.fact 110 (f := .str "ANY" "any") rfl), He.str_ok X G (c.fact 111 (f := .str "ALPHABET" "abcdefghijklmnopqrstuvwxyz") rfl), He.int_ok X G (c.fact 112 (f := .int "MOST_SIGNS" 8) rfl)⟩
theorem f_is_integer (c : He.SaysD fa fn K) : ∃ fd, Fd K "is_integer" s_is_integer [] [] (He.ga K "is_integer") fd := c.def_ 0 (d := d_is_integer) rfl
theorem m_is_integer (X : K.In h) (G : h.Ns mainGlobals mg) (c : He.SaysD fa fn K) : mg "is_integer" = some (.ref (He.ga K "is_integer")) := He.glo_ok X G (c.fact 0 (f := .glo "is_integer") rfl)
theorem f_is_number (c : He.SaysD fa fn K) : ∃ fd, Fd K "is_number" s_is_number [] [] (He.ga K "is_number") fd := c.def_ 1 (d := d_is_number) rfl
theorem m_is_number (X : K.In h) (G : h.Ns mainGlobals mg) (c : He.SaysD fa fn K) : mg "is_number" = some (.ref (He.ga K "is_number")) := He.glo_ok X G (c.fact 1 (f := .glo "is_number") rfl)
theorem f_is_index (c : He.SaysD fa fn K) : ∃ fd, Fd K "is_index" s_is_index [] [] (He.ga K "is_index") fd := c.def_ 2 (d := d_is_index) rfl
theorem m_is_index (X : K.In h) (G : h.Ns mainGlobals mg) (c : He.SaysD fa fn K) : mg "is_index" = some (.ref (He.ga K "is_index")) := He.glo_ok X G (c.fact 2 (f := .glo "is_index") rfl)
theorem f_is_among (c : He.SaysD fa fn K) : ∃ fd, Fd K "is_among" s_is_among [] [] (He.ga K "is_among") fd := c.def_ 3 (d := d_is_among) rfl
theorem m_is_among (X : K.In h) (G : h.Ns mainGlobals mg) (c : He.SaysD fa fn K) : mg "is_among" = some (.ref (He.ga K "is_among")) := He.glo_ok X G (c.fact 3 (f := .glo "is_among") rfl)
theorem f_is_name (c : He.SaysD fa fn K) : ∃ fd, Fd K "is_name" s_is_name [] [] (He.ga K "is_name") fd := c.def_ 4 (d := d_is_name) rfl
theorem m_is_name (X : K.In h) (G : h.Ns mainGlobals mg) (c : He.SaysD fa fn K) : mg "is_name" = some (.ref (He.ga K "is_name")) := He.glo_ok X G (c.fact 4 (f := .glo "is_name") rfl)
theorem f_is_tuple_of (c : He.SaysD fa fn K) : ∃ fd, Fd K "is_tuple_of" s_is_tuple_of [] [] (He.ga K "is_tuple_of") fd := c.def_ 5 (d := d_is_tuple_of) rfl
theorem m_is_tuple_of (X : K.In h) (G : h.Ns mainGlobals mg) (c : He.SaysD fa fn K) : mg "is_tuple_of" = some (.ref (He.ga K "is_tuple_of")) := He.glo_ok X G (c.fact 5 (f := .glo "is_tuple_of") rfl)
theorem f_are_rising (c : He.SaysD fa fn K) : ∃ fd, Fd K "are_rising" s_are_rising [] [] (He.ga K "are_rising") fd := c.def_ 6 (d := d_are_rising) rfl
theorem m_are_rising (X : K.In h) (G : h.Ns mainGlobals mg) (c : He.SaysD fa fn K) : mg "are_rising" = some (.ref (He.ga K "are_rising")) := He.glo_ok X G (c.fact 6 (f := .glo "are_rising") rfl)
theorem f_is_names (c : He.SaysD fa fn K) : ∃ fd, Fd K "is_names" s_is_names [] [] (He.ga K "is_names") fd := c.def_ 7 (d := d_is_names) rfl
theorem m_is_names (X : K.In h) (G : h.Ns mainGlobals mg) (c : He.SaysD fa fn K) : mg "is_names" = some (.ref (He.ga K "is_names")) := He.glo_ok X G (c.fact 7 (f := .glo "is_names") rfl)
theorem f_is_names_among (c : He.SaysD fa fn K) : ∃ fd, Fd K "is_names_among" s_is_names_among [] [] (He.ga K "is_names_among") fd := c.def_ 8 (d := d_is_names_among) rfl
theorem m_is_names_among (X : K.In h) (G : h.Ns mainGlobals mg) (c : He.SaysD fa fn K) : mg "is_names_among" = some (.ref (He.ga K "is_names_among")) := He.glo_ok X G (c.fact 8 (f := .glo "is_names_among") rfl)
theorem f_are_sets_among (c : He.SaysD fa fn K) : ∃ fd, Fd K "are_sets_among" s_are_sets_among [] [] (He.ga K "are_sets_among") fd := c.def_ 9 (d := d_are_sets_among) rfl
theorem m_are_sets_among (X : K.In h) (G : h.Ns mainGlobals mg) (c : He.SaysD fa fn K) : mg "are_sets_among" = some (.ref (He.ga K "are_sets_among")) := He.glo_ok X G (c.fact 9 (f := .glo "are_sets_among") rfl)
theorem f_are_indexes (c : He.SaysD fa fn K) : ∃ fd, Fd K "are_indexes" s_are_indexes [] [] (He.ga K "are_indexes") fd := c.def_ 10 (d := d_are_indexes) rfl
theorem m_are_indexes (X : K.In h) (G : h.Ns mainGlobals mg) (c : He.SaysD fa fn K) : mg "are_indexes" = some (.ref (He.ga K "are_indexes")) := He.glo_ok X G (c.fact 10 (f := .glo "are_indexes") rfl)
theorem f_are_numbers (c : He.SaysD fa fn K) : ∃ fd, Fd K "are_numbers" s_are_numbers [] [] (He.ga K "are_numbers") fd := c.def_ 11 (d := d_are_numbers) rfl
theorem m_are_numbers (X : K.In h) (G : h.Ns mainGlobals mg) (c : He.SaysD fa fn K) : mg "are_numbers" = some (.ref (He.ga K "are_numbers")) := He.glo_ok X G (c.fact 11 (f := .glo "are_numbers") rfl)
theorem f_machine_fault (c : He.SaysD fa fn K) : ∃ fd, Fd K "machine_fault" s_machine_fault [] [] (He.ga K "machine_fault") fd := c.def_ 12 (d := d_machine_fault) rfl
theorem m_machine_fault (X : K.In h) (G : h.Ns mainGlobals mg) (c : He.SaysD fa fn K) : mg "machine_fault" = some (.ref (He.ga K "machine_fault")) := He.glo_ok X G (c.fact 12 (f := .glo "machine_fault") rfl)
theorem f_is_triple_from (c : He.SaysD fa fn K) : ∃ fd, Fd K "is_triple_from" s_is_triple_from [] [] (He.ga K "is_triple_from") fd := c.def_ 13 (d := d_is_triple_from) rfl
theorem m_is_triple_from (X : K.In h) (G : h.Ns mainGlobals mg) (c : He.SaysD fa fn K) : mg "is_triple_from" = some (.ref (He.ga K "is_triple_from")) := He.glo_ok X G (c.fact 13 (f := .glo "is_triple_from") rfl)
theorem f_trust_fault (c : He.SaysD fa fn K) : ∃ fd, Fd K "trust_fault" s_trust_fault [] [] (He.ga K "trust_fault") fd := c.def_ 14 (d := d_trust_fault) rfl
theorem m_trust_fault (X : K.In h) (G : h.Ns mainGlobals mg) (c : He.SaysD fa fn K) : mg "trust_fault" = some (.ref (He.ga K "trust_fault")) := He.glo_ok X G (c.fact 14 (f := .glo "trust_fault") rfl)
theorem f_order_fault (c : He.SaysD fa fn K) : ∃ fd, Fd K "order_fault" s_order_fault [] [] (He.ga K "order_fault") fd := c.def_ 15 (d := d_order_fault) rfl
theorem m_order_fault (X : K.In h) (G : h.Ns mainGlobals mg) (c : He.SaysD fa fn K) : mg "order_fault" = some (.ref (He.ga K "order_fault")) := He.glo_ok X G (c.fact 15 (f := .glo "order_fault") rfl)
theorem f_gaps_by (c : He.SaysD fa fn K) : ∃ fd, Fd K "gaps_by" s_gaps_by [] [] (He.ga K "gaps_by") fd := c.def_ 16 (d := d_gaps_by) rfl
theorem m_gaps_by (X : K.In h) (G : h.Ns mainGlobals mg) (c : He.SaysD fa fn K) : mg "gaps_by" = some (.ref (He.ga K "gaps_by")) := He.glo_ok X G (c.fact 16 (f := .glo "gaps_by") rfl)
theorem f_triangle_fault (c : He.SaysD fa fn K) : ∃ fd, Fd K "triangle_fault" s_triangle_fault [] [] (He.ga K "triangle_fault") fd := c.def_ 17 (d := d_triangle_fault) rfl
theorem m_triangle_fault (X : K.In h) (G : h.Ns mainGlobals mg) (c : He.SaysD fa fn K) : mg "triangle_fault" = some (.ref (He.ga K "triangle_fault")) := He.glo_ok X G (c.fact 17 (f := .glo "triangle_fault") rfl)
theorem f_clocks_fault (c : He.SaysD fa fn K) : ∃ fd, Fd K "clocks_fault" s_clocks_fault [] [] (He.ga K "clocks_fault") fd := c.def_ 18 (d := d_clocks_fault) rfl
theorem m_clocks_fault (X : K.In h) (G : h.Ns mainGlobals mg) (c : He.SaysD fa fn K) : mg "clocks_fault" = some (.ref (He.ga K "clocks_fault")) := He.glo_ok X G (c.fact 18 (f := .glo "clocks_fault") rfl)
theorem f_are_promises (c : He.SaysD fa fn K) : ∃ fd, Fd K "are_promises" s_are_promises [] [] (He.ga K "are_promises") fd := c.def_ 19 (d := d_are_promises) rfl
theorem m_are_promises (X : K.In h) (G : h.Ns mainGlobals mg) (c : He.SaysD fa fn K) : mg "are_promises" = some (.ref (He.ga K "are_promises")) := He.glo_ok X G (c.fact 19 (f := .glo "are_promises") rfl)
theorem f_is_looking (c : He.SaysD fa fn K) : ∃ fd, Fd K "is_looking" s_is_looking [] [] (He.ga K "is_looking") fd := c.def_ 20 (d := d_is_looking) rfl
theorem m_is_looking (X : K.In h) (G : h.Ns mainGlobals mg) (c : He.SaysD fa fn K) : mg "is_looking" = some (.ref (He.ga K "is_looking")) := He.glo_ok X G (c.fact 20 (f := .glo "is_looking") rfl)
theorem f_is_looking_of (c : He.SaysD fa fn K) : ∃ fd, Fd K "is_looking_of" s_is_looking_of [] [] (He.ga K "is_looking_of") fd := c.def_ 21 (d := d_is_looking_of) rfl
theorem m_is_looking_of (X : K.In h) (G : h.Ns mainGlobals mg) (c : He.SaysD fa fn K) : mg "is_looking_of" = some (.ref (He.ga K "is_looking_of")) := He.glo_ok X G (c.fact 21 (f := .glo "is_looking_of") rfl)
theorem f_rules_fault (c : He.SaysD fa fn K) : ∃ fd, Fd K "rules_fault" s_rules_fault [] [] (He.ga K "rules_fault") fd := c.def_ 22 (d := d_rules_fault) rfl
theorem m_rules_fault (X : K.In h) (G : h.Ns mainGlobals mg) (c : He.SaysD fa fn K) : mg "rules_fault" = some (.ref (He.ga K "rules_fault")) := He.glo_ok X G (c.fact 22 (f := .glo "rules_fault") rfl)
theorem f_parts_fault (c : He.SaysD fa fn K) : ∃ fd, Fd K "parts_fault" s_parts_fault [] [] (He.ga K "parts_fault") fd := c.def_ 23 (d := d_parts_fault) rfl
theorem m_parts_fault (X : K.In h) (G : h.Ns mainGlobals mg) (c : He.SaysD fa fn K) : mg "parts_fault" = some (.ref (He.ga K "parts_fault")) := He.glo_ok X G (c.fact 23 (f := .glo "parts_fault") rfl)
theorem f_is_trust (c : He.SaysD fa fn K) : ∃ fd, Fd K "is_trust" s_is_trust [] [] (He.ga K "is_trust") fd := c.def_ 24 (d := d_is_trust) rfl
theorem m_is_trust (X : K.In h) (G : h.Ns mainGlobals mg) (c : He.SaysD fa fn K) : mg "is_trust" = some (.ref (He.ga K "is_trust")) := He.glo_ok X G (c.fact 24 (f := .glo "is_trust") rfl)
theorem f_is_book (c : He.SaysD fa fn K) : ∃ fd, Fd K "is_book" s_is_book [] [] (He.ga K "is_book") fd := c.def_ 25 (d := d_is_book) rfl
theorem m_is_book (X : K.In h) (G : h.Ns mainGlobals mg) (c : He.SaysD fa fn K) : mg "is_book" = some (.ref (He.ga K "is_book")) := He.glo_ok X G (c.fact 25 (f := .glo "is_book") rfl)
theorem f_meets_in (c : He.SaysD fa fn K) : ∃ fd, Fd K "meets_in" s_meets_in [] [] (He.ga K "meets_in") fd := c.def_ 26 (d := d_meets_in) rfl
theorem m_meets_in (X : K.In h) (G : h.Ns mainGlobals mg) (c : He.SaysD fa fn K) : mg "meets_in" = some (.ref (He.ga K "meets_in")) := He.glo_ok X G (c.fact 26 (f := .glo "meets_in") rfl)
theorem f_joint_in (c : He.SaysD fa fn K) : ∃ fd, Fd K "joint_in" s_joint_in [] [] (He.ga K "joint_in") fd := c.def_ 27 (d := d_joint_in) rfl
theorem m_joint_in (X : K.In h) (G : h.Ns mainGlobals mg) (c : He.SaysD fa fn K) : mg "joint_in" = some (.ref (He.ga K "joint_in")) := He.glo_ok X G (c.fact 27 (f := .glo "joint_in") rfl)
theorem f_houses_in (c : He.SaysD fa fn K) : ∃ fd, Fd K "houses_in" s_houses_in [] [] (He.ga K "houses_in") fd := c.def_ 28 (d := d_houses_in) rfl
theorem m_houses_in (X : K.In h) (G : h.Ns mainGlobals mg) (c : He.SaysD fa fn K) : mg "houses_in" = some (.ref (He.ga K "houses_in")) := He.glo_ok X G (c.fact 28 (f := .glo "houses_in") rfl)
theorem f_lots_of (c : He.SaysD fa fn K) : ∃ fd, Fd K "lots_of" s_lots_of [] [] (He.ga K "lots_of") fd := c.def_ 29 (d := d_lots_of) rfl
theorem m_lots_of (X : K.In h) (G : h.Ns mainGlobals mg) (c : He.SaysD fa fn K) : mg "lots_of" = some (.ref (He.ga K "lots_of")) := He.glo_ok X G (c.fact 29 (f := .glo "lots_of") rfl)
theorem f_fears_of (c : He.SaysD fa fn K) : ∃ fd, Fd K "fears_of" s_fears_of [] [] (He.ga K "fears_of") fd := c.def_ 30 (d := d_fears_of) rfl
theorem m_fears_of (X : K.In h) (G : h.Ns mainGlobals mg) (c : He.SaysD fa fn K) : mg "fears_of" = some (.ref (He.ga K "fears_of")) := He.glo_ok X G (c.fact 30 (f := .glo "fears_of") rfl)
theorem f_is_within (c : He.SaysD fa fn K) : ∃ fd, Fd K "is_within" s_is_within [] [] (He.ga K "is_within") fd := c.def_ 31 (d := d_is_within) rfl
theorem m_is_within (X : K.In h) (G : h.Ns mainGlobals mg) (c : He.SaysD fa fn K) : mg "is_within" = some (.ref (He.ga K "is_within")) := He.glo_ok X G (c.fact 31 (f := .glo "is_within") rfl)
theorem f_less_by (c : He.SaysD fa fn K) : ∃ fd, Fd K "less_by" s_less_by [] [] (He.ga K "less_by") fd := c.def_ 32 (d := d_less_by) rfl
theorem m_less_by (X : K.In h) (G : h.Ns mainGlobals mg) (c : He.SaysD fa fn K) : mg "less_by" = some (.ref (He.ga K "less_by")) := He.glo_ok X G (c.fact 32 (f := .glo "less_by") rfl)
theorem f_least_of (c : He.SaysD fa fn K) : ∃ fd, Fd K "least_of" s_least_of [] [] (He.ga K "least_of") fd := c.def_ 33 (d := d_least_of) rfl
theorem m_least_of (X : K.In h) (G : h.Ns mainGlobals mg) (c : He.SaysD fa fn K) : mg "least_of" = some (.ref (He.ga K "least_of")) := He.glo_ok X G (c.fact 33 (f := .glo "least_of") rfl)
theorem f_greatest_of (c : He.SaysD fa fn K) : ∃ fd, Fd K "greatest_of" s_greatest_of [] [] (He.ga K "greatest_of") fd := c.def_ 34 (d := d_greatest_of) rfl
theorem m_greatest_of (X : K.In h) (G : h.Ns mainGlobals mg) (c : He.SaysD fa fn K) : mg "greatest_of" = some (.ref (He.ga K "greatest_of")) := He.glo_ok X G (c.fact 34 (f := .glo "greatest_of") rfl)
theorem f_is_safe_by (c : He.SaysD fa fn K) : ∃ fd, Fd K "is_safe_by" s_is_safe_by [] [] (He.ga K "is_safe_by") fd := c.def_ 35 (d := d_is_safe_by) rfl
theorem m_is_safe_by (X : K.In h) (G : h.Ns mainGlobals mg) (c : He.SaysD fa fn K) : mg "is_safe_by" = some (.ref (He.ga K "is_safe_by")) := He.glo_ok X G (c.fact 35 (f := .glo "is_safe_by") rfl)
theorem f_safe_by (c : He.SaysD fa fn K) : ∃ fd, Fd K "safe_by" s_safe_by [] [] (He.ga K "safe_by") fd := c.def_ 36 (d := d_safe_by) rfl
theorem m_safe_by (X : K.In h) (G : h.Ns mainGlobals mg) (c : He.SaysD fa fn K) : mg "safe_by" = some (.ref (He.ga K "safe_by")) := He.glo_ok X G (c.fact 36 (f := .glo "safe_by") rfl)
theorem f_falls_by (c : He.SaysD fa fn K) : ∃ fd, Fd K "falls_by" s_falls_by [] [] (He.ga K "falls_by") fd := c.def_ 37 (d := d_falls_by) rfl
theorem m_falls_by (X : K.In h) (G : h.Ns mainGlobals mg) (c : He.SaysD fa fn K) : mg "falls_by" = some (.ref (He.ga K "falls_by")) := He.glo_ok X G (c.fact 37 (f := .glo "falls_by") rfl)
theorem f_pairs_in (c : He.SaysD fa fn K) : ∃ fd, Fd K "pairs_in" s_pairs_in [] [] (He.ga K "pairs_in") fd := c.def_ 38 (d := d_pairs_in) rfl
theorem m_pairs_in (X : K.In h) (G : h.Ns mainGlobals mg) (c : He.SaysD fa fn K) : mg "pairs_in" = some (.ref (He.ga K "pairs_in")) := He.glo_ok X G (c.fact 38 (f := .glo "pairs_in") rfl)
theorem f_lot_at (c : He.SaysD fa fn K) : ∃ fd, Fd K "lot_at" s_lot_at [] [] (He.ga K "lot_at") fd := c.def_ 39 (d := d_lot_at) rfl
theorem m_lot_at (X : K.In h) (G : h.Ns mainGlobals mg) (c : He.SaysD fa fn K) : mg "lot_at" = some (.ref (He.ga K "lot_at")) := He.glo_ok X G (c.fact 39 (f := .glo "lot_at") rfl)
theorem f_needs_by (c : He.SaysD fa fn K) : ∃ fd, Fd K "needs_by" s_needs_by [] [] (He.ga K "needs_by") fd := c.def_ 40 (d := d_needs_by) rfl
theorem m_needs_by (X : K.In h) (G : h.Ns mainGlobals mg) (c : He.SaysD fa fn K) : mg "needs_by" = some (.ref (He.ga K "needs_by")) := He.glo_ok X G (c.fact 40 (f := .glo "needs_by") rfl)
theorem f_first_missed_by (c : He.SaysD fa fn K) : ∃ fd, Fd K "first_missed_by" s_first_missed_by [] [] (He.ga K "first_missed_by") fd := c.def_ 41 (d := d_first_missed_by) rfl
theorem m_first_missed_by (X : K.In h) (G : h.Ns mainGlobals mg) (c : He.SaysD fa fn K) : mg "first_missed_by" = some (.ref (He.ga K "first_missed_by")) := He.glo_ok X G (c.fact 41 (f := .glo "first_missed_by") rfl)
theorem f_is_met (c : He.SaysD fa fn K) : ∃ fd, Fd K "is_met" s_is_met [] [] (He.ga K "is_met") fd := c.def_ 42 (d := d_is_met) rfl
theorem m_is_met (X : K.In h) (G : h.Ns mainGlobals mg) (c : He.SaysD fa fn K) : mg "is_met" = some (.ref (He.ga K "is_met")) := He.glo_ok X G (c.fact 42 (f := .glo "is_met") rfl)
theorem f_crossings_by (c : He.SaysD fa fn K) : ∃ fd, Fd K "crossings_by" s_crossings_by [] [] (He.ga K "crossings_by") fd := c.def_ 43 (d := d_crossings_by) rfl
theorem m_crossings_by (X : K.In h) (G : h.Ns mainGlobals mg) (c : He.SaysD fa fn K) : mg "crossings_by" = some (.ref (He.ga K "crossings_by")) := He.glo_ok X G (c.fact 43 (f := .glo "crossings_by") rfl)
theorem f_is_house_of (c : He.SaysD fa fn K) : ∃ fd, Fd K "is_house_of" s_is_house_of [] [] (He.ga K "is_house_of") fd := c.def_ 44 (d := d_is_house_of) rfl
theorem m_is_house_of (X : K.In h) (G : h.Ns mainGlobals mg) (c : He.SaysD fa fn K) : mg "is_house_of" = some (.ref (He.ga K "is_house_of")) := He.glo_ok X G (c.fact 44 (f := .glo "is_house_of") rfl)
theorem f_are_houses_of (c : He.SaysD fa fn K) : ∃ fd, Fd K "are_houses_of" s_are_houses_of [] [] (He.ga K "are_houses_of") fd := c.def_ 45 (d := d_are_houses_of) rfl
theorem m_are_houses_of (X : K.In h) (G : h.Ns mainGlobals mg) (c : He.SaysD fa fn K) : mg "are_houses_of" = some (.ref (He.ga K "are_houses_of")) := He.glo_ok X G (c.fact 45 (f := .glo "are_houses_of") rfl)
theorem f_want (c : He.SaysD fa fn K) : ∃ fd, Fd K "want" s_want [.int (-1)] [] (He.ga K "want") fd := c.def_ 46 (d := d_want) rfl
theorem m_want (X : K.In h) (G : h.Ns mainGlobals mg) (c : He.SaysD fa fn K) : mg "want" = some (.ref (He.ga K "want")) := He.glo_ok X G (c.fact 46 (f := .glo "want") rfl)
theorem f_want_book (c : He.SaysD fa fn K) : ∃ fd, Fd K "want_book" s_want_book [.str "book"] [] (He.ga K "want_book") fd := c.def_ 47 (d := d_want_book) rfl
theorem m_want_book (X : K.In h) (G : h.Ns mainGlobals mg) (c : He.SaysD fa fn K) : mg "want_book" = some (.ref (He.ga K "want_book")) := He.glo_ok X G (c.fact 47 (f := .glo "want_book") rfl)
theorem f_want_age (c : He.SaysD fa fn K) : ∃ fd, Fd K "want_age" s_want_age [] [] (He.ga K "want_age") fd := c.def_ 48 (d := d_want_age) rfl
theorem m_want_age (X : K.In h) (G : h.Ns mainGlobals mg) (c : He.SaysD fa fn K) : mg "want_age" = some (.ref (He.ga K "want_age")) := He.glo_ok X G (c.fact 48 (f := .glo "want_age") rfl)
theorem f_want_trust (c : He.SaysD fa fn K) : ∃ fd, Fd K "want_trust" s_want_trust [.str "trust"] [] (He.ga K "want_trust") fd := c.def_ 49 (d := d_want_trust) rfl
theorem m_want_trust (X : K.In h) (G : h.Ns mainGlobals mg) (c : He.SaysD fa fn K) : mg "want_trust" = some (.ref (He.ga K "want_trust")) := He.glo_ok X G (c.fact 49 (f := .glo "want_trust") rfl)
theorem f_want_house (c : He.SaysD fa fn K) : ∃ fd, Fd K "want_house" s_want_house [.str "house"] [] (He.ga K "want_house") fd := c.def_ 50 (d := d_want_house) rfl
theorem m_want_house (X : K.In h) (G : h.Ns mainGlobals mg) (c : He.SaysD fa fn K) : mg "want_house" = some (.ref (He.ga K "want_house")) := He.glo_ok X G (c.fact 50 (f := .glo "want_house") rfl)
theorem f_want_lot (c : He.SaysD fa fn K) : ∃ fd, Fd K "want_lot" s_want_lot [.str "lot"] [] (He.ga K "want_lot") fd := c.def_ 51 (d := d_want_lot) rfl
theorem m_want_lot (X : K.In h) (G : h.Ns mainGlobals mg) (c : He.SaysD fa fn K) : mg "want_lot" = some (.ref (He.ga K "want_lot")) := He.glo_ok X G (c.fact 51 (f := .glo "want_lot") rfl)
theorem f_needs_of (c : He.SaysD fa fn K) : ∃ fd, Fd K "needs_of" s_needs_of [] [] (He.ga K "needs_of") fd := c.def_ 52 (d := d_needs_of) rfl
theorem m_needs_of (X : K.In h) (G : h.Ns mainGlobals mg) (c : He.SaysD fa fn K) : mg "needs_of" = some (.ref (He.ga K "needs_of")) := He.glo_ok X G (c.fact 52 (f := .glo "needs_of") rfl)
theorem f_meets_needs (c : He.SaysD fa fn K) : ∃ fd, Fd K "meets_needs" s_meets_needs [] [] (He.ga K "meets_needs") fd := c.def_ 53 (d := d_meets_needs) rfl
theorem m_meets_needs (X : K.In h) (G : h.Ns mainGlobals mg) (c : He.SaysD fa fn K) : mg "meets_needs" = some (.ref (He.ga K "meets_needs")) := He.glo_ok X G (c.fact 53 (f := .glo "meets_needs") rfl)
theorem f_first_missed (c : He.SaysD fa fn K) : ∃ fd, Fd K "first_missed" s_first_missed [] [] (He.ga K "first_missed") fd := c.def_ 54 (d := d_first_missed) rfl
theorem m_first_missed (X : K.In h) (G : h.Ns mainGlobals mg) (c : He.SaysD fa fn K) : mg "first_missed" = some (.ref (He.ga K "first_missed")) := He.glo_ok X G (c.fact 54 (f := .glo "first_missed") rfl)
theorem f_least_lots (c : He.SaysD fa fn K) : ∃ fd, Fd K "least_lots" s_least_lots [] [] (He.ga K "least_lots") fd := c.def_ 55 (d := d_least_lots) rfl
theorem m_least_lots (X : K.In h) (G : h.Ns mainGlobals mg) (c : He.SaysD fa fn K) : mg "least_lots" = some (.ref (He.ga K "least_lots")) := He.glo_ok X G (c.fact 55 (f := .glo "least_lots") rfl)
theorem f_fewest_lot (c : He.SaysD fa fn K) : ∃ fd, Fd K "fewest_lot" s_fewest_lot [] [] (He.ga K "fewest_lot") fd := c.def_ 56 (d := d_fewest_lot) rfl
theorem m_fewest_lot (X : K.In h) (G : h.Ns mainGlobals mg) (c : He.SaysD fa fn K) : mg "fewest_lot" = some (.ref (He.ga K "fewest_lot")) := He.glo_ok X G (c.fact 56 (f := .glo "fewest_lot") rfl)
theorem f_safe_houses (c : He.SaysD fa fn K) : ∃ fd, Fd K "safe_houses" s_safe_houses [] [] (He.ga K "safe_houses") fd := c.def_ 57 (d := d_safe_houses) rfl
theorem m_safe_houses (X : K.In h) (G : h.Ns mainGlobals mg) (c : He.SaysD fa fn K) : mg "safe_houses" = some (.ref (He.ga K "safe_houses")) := He.glo_ok X G (c.fact 57 (f := .glo "safe_houses") rfl)
theorem f_want_rule (c : He.SaysD fa fn K) : ∃ fd, Fd K "want_rule" s_want_rule [] [] (He.ga K "want_rule") fd := c.def_ 58 (d := d_want_rule) rfl
theorem m_want_rule (X : K.In h) (G : h.Ns mainGlobals mg) (c : He.SaysD fa fn K) : mg "want_rule" = some (.ref (He.ga K "want_rule")) := He.glo_ok X G (c.fact 58 (f := .glo "want_rule") rfl)
theorem f_answer_in (c : He.SaysD fa fn K) : ∃ fd, Fd K "answer_in" s_answer_in [] [] (He.ga K "answer_in") fd := c.def_ 59 (d := d_answer_in) rfl
theorem m_answer_in (X : K.In h) (G : h.Ns mainGlobals mg) (c : He.SaysD fa fn K) : mg "answer_in" = some (.ref (He.ga K "answer_in")) := He.glo_ok X G (c.fact 59 (f := .glo "answer_in") rfl)
theorem f_rows_from (c : He.SaysD fa fn K) : ∃ fd, Fd K "rows_from" s_rows_from [] [] (He.ga K "rows_from") fd := c.def_ 60 (d := d_rows_from) rfl
theorem m_rows_from (X : K.In h) (G : h.Ns mainGlobals mg) (c : He.SaysD fa fn K) : mg "rows_from" = some (.ref (He.ga K "rows_from")) := He.glo_ok X G (c.fact 60 (f := .glo "rows_from") rfl)
theorem f_rows_in (c : He.SaysD fa fn K) : ∃ fd, Fd K "rows_in" s_rows_in [] [] (He.ga K "rows_in") fd := c.def_ 61 (d := d_rows_in) rfl
theorem m_rows_in (X : K.In h) (G : h.Ns mainGlobals mg) (c : He.SaysD fa fn K) : mg "rows_in" = some (.ref (He.ga K "rows_in")) := He.glo_ok X G (c.fact 61 (f := .glo "rows_in") rfl)
theorem f_unlike_from (c : He.SaysD fa fn K) : ∃ fd, Fd K "unlike_from" s_unlike_from [] [] (He.ga K "unlike_from") fd := c.def_ 62 (d := d_unlike_from) rfl
theorem m_unlike_from (X : K.In h) (G : h.Ns mainGlobals mg) (c : He.SaysD fa fn K) : mg "unlike_from" = some (.ref (He.ga K "unlike_from")) := He.glo_ok X G (c.fact 62 (f := .glo "unlike_from") rfl)
theorem f_kept_within (c : He.SaysD fa fn K) : ∃ fd, Fd K "kept_within" s_kept_within [] [] (He.ga K "kept_within") fd := c.def_ 63 (d := d_kept_within) rfl
theorem m_kept_within (X : K.In h) (G : h.Ns mainGlobals mg) (c : He.SaysD fa fn K) : mg "kept_within" = some (.ref (He.ga K "kept_within")) := He.glo_ok X G (c.fact 63 (f := .glo "kept_within") rfl)
theorem f_longest_from (c : He.SaysD fa fn K) : ∃ fd, Fd K "longest_from" s_longest_from [] [] (He.ga K "longest_from") fd := c.def_ 64 (d := d_longest_from) rfl
theorem m_longest_from (X : K.In h) (G : h.Ns mainGlobals mg) (c : He.SaysD fa fn K) : mg "longest_from" = some (.ref (He.ga K "longest_from")) := He.glo_ok X G (c.fact 64 (f := .glo "longest_from") rfl)
theorem f_least_age_in (c : He.SaysD fa fn K) : ∃ fd, Fd K "least_age_in" s_least_age_in [] [] (He.ga K "least_age_in") fd := c.def_ 65 (d := d_least_age_in) rfl
theorem m_least_age_in (X : K.In h) (G : h.Ns mainGlobals mg) (c : He.SaysD fa fn K) : mg "least_age_in" = some (.ref (He.ga K "least_age_in")) := He.glo_ok X G (c.fact 65 (f := .glo "least_age_in") rfl)
theorem f_moves_in (c : He.SaysD fa fn K) : ∃ fd, Fd K "moves_in" s_moves_in [] [] (He.ga K "moves_in") fd := c.def_ 66 (d := d_moves_in) rfl
theorem m_moves_in (X : K.In h) (G : h.Ns mainGlobals mg) (c : He.SaysD fa fn K) : mg "moves_in" = some (.ref (He.ga K "moves_in")) := He.glo_ok X G (c.fact 66 (f := .glo "moves_in") rfl)
theorem f_lasting_in (c : He.SaysD fa fn K) : ∃ fd, Fd K "lasting_in" s_lasting_in [] [] (He.ga K "lasting_in") fd := c.def_ 67 (d := d_lasting_in) rfl
theorem m_lasting_in (X : K.In h) (G : h.Ns mainGlobals mg) (c : He.SaysD fa fn K) : mg "lasting_in" = some (.ref (He.ga K "lasting_in")) := He.glo_ok X G (c.fact 67 (f := .glo "lasting_in") rfl)
theorem f_caught_in (c : He.SaysD fa fn K) : ∃ fd, Fd K "caught_in" s_caught_in [] [] (He.ga K "caught_in") fd := c.def_ 68 (d := d_caught_in) rfl
theorem m_caught_in (X : K.In h) (G : h.Ns mainGlobals mg) (c : He.SaysD fa fn K) : mg "caught_in" = some (.ref (He.ga K "caught_in")) := He.glo_ok X G (c.fact 68 (f := .glo "caught_in") rfl)
theorem f_moving_in (c : He.SaysD fa fn K) : ∃ fd, Fd K "moving_in" s_moving_in [] [] (He.ga K "moving_in") fd := c.def_ 69 (d := d_moving_in) rfl
theorem m_moving_in (X : K.In h) (G : h.Ns mainGlobals mg) (c : He.SaysD fa fn K) : mg "moving_in" = some (.ref (He.ga K "moving_in")) := He.glo_ok X G (c.fact 69 (f := .glo "moving_in") rfl)
theorem f_lacks_in (c : He.SaysD fa fn K) : ∃ fd, Fd K "lacks_in" s_lacks_in [] [] (He.ga K "lacks_in") fd := c.def_ 70 (d := d_lacks_in) rfl
theorem m_lacks_in (X : K.In h) (G : h.Ns mainGlobals mg) (c : He.SaysD fa fn K) : mg "lacks_in" = some (.ref (He.ga K "lacks_in")) := He.glo_ok X G (c.fact 70 (f := .glo "lacks_in") rfl)
theorem f_rule_lacks (c : He.SaysD fa fn K) : ∃ fd, Fd K "rule_lacks" s_rule_lacks [] [("age", .int 0)] (He.ga K "rule_lacks") fd := c.def_ 71 (d := d_rule_lacks) rfl
theorem m_rule_lacks (X : K.In h) (G : h.Ns mainGlobals mg) (c : He.SaysD fa fn K) : mg "rule_lacks" = some (.ref (He.ga K "rule_lacks")) := He.glo_ok X G (c.fact 71 (f := .glo "rule_lacks") rfl)
theorem f_rule_is_right (c : He.SaysD fa fn K) : ∃ fd, Fd K "rule_is_right" s_rule_is_right [] [("age", .int 0)] (He.ga K "rule_is_right") fd := c.def_ 72 (d := d_rule_is_right) rfl
theorem m_rule_is_right (X : K.In h) (G : h.Ns mainGlobals mg) (c : He.SaysD fa fn K) : mg "rule_is_right" = some (.ref (He.ga K "rule_is_right")) := He.glo_ok X G (c.fact 72 (f := .glo "rule_is_right") rfl)
theorem f_law_feed (c : He.SaysD fa fn K) : ∃ fd, Fd K "_law_feed" s_law_feed [] [] (He.ga K "_law_feed") fd := c.def_ 73 (d := d_law_feed) rfl
theorem m_law_feed (X : K.In h) (G : h.Ns mainGlobals mg) (c : He.SaysD fa fn K) : mg "_law_feed" = some (.ref (He.ga K "_law_feed")) := He.glo_ok X G (c.fact 73 (f := .glo "_law_feed") rfl)
theorem f_law_draw (c : He.SaysD fa fn K) : ∃ fd, Fd K "_law_draw" s_law_draw [] [] (He.ga K "_law_draw") fd := c.def_ 74 (d := d_law_draw) rfl
theorem m_law_draw (X : K.In h) (G : h.Ns mainGlobals mg) (c : He.SaysD fa fn K) : mg "_law_draw" = some (.ref (He.ga K "_law_draw")) := He.glo_ok X G (c.fact 74 (f := .glo "_law_draw") rfl)
theorem f_law_any (c : He.SaysD fa fn K) : ∃ fd, Fd K "_law_any" s_law_any [] [] (He.ga K "_law_any") fd := c.def_ 75 (d := d_law_any) rfl
theorem m_law_any (X : K.In h) (G : h.Ns mainGlobals mg) (c : He.SaysD fa fn K) : mg "_law_any" = some (.ref (He.ga K "_law_any")) := He.glo_ok X G (c.fact 75 (f := .glo "_law_any") rfl)
theorem f_law_same (c : He.SaysD fa fn K) : ∃ fd, Fd K "_law_same" s_law_same [] [] (He.ga K "_law_same") fd := c.def_ 76 (d := d_law_same) rfl
theorem m_law_same (X : K.In h) (G : h.Ns mainGlobals mg) (c : He.SaysD fa fn K) : mg "_law_same" = some (.ref (He.ga K "_law_same")) := He.glo_ok X G (c.fact 76 (f := .glo "_law_same") rfl)
theorem f_law_within (c : He.SaysD fa fn K) : ∃ fd, Fd K "_law_within" s_law_within [] [] (He.ga K "_law_within") fd := c.def_ 77 (d := d_law_within) rfl
theorem m_law_within (X : K.In h) (G : h.Ns mainGlobals mg) (c : He.SaysD fa fn K) : mg "_law_within" = some (.ref (He.ga K "_law_within")) := He.glo_ok X G (c.fact 77 (f := .glo "_law_within") rfl)
theorem f_law_less (c : He.SaysD fa fn K) : ∃ fd, Fd K "_law_less" s_law_less [] [] (He.ga K "_law_less") fd := c.def_ 78 (d := d_law_less) rfl
theorem m_law_less (X : K.In h) (G : h.Ns mainGlobals mg) (c : He.SaysD fa fn K) : mg "_law_less" = some (.ref (He.ga K "_law_less")) := He.glo_ok X G (c.fact 78 (f := .glo "_law_less") rfl)
theorem f_law_subsets (c : He.SaysD fa fn K) : ∃ fd, Fd K "_law_subsets" s_law_subsets [] [] (He.ga K "_law_subsets") fd := c.def_ 79 (d := d_law_subsets) rfl
theorem m_law_subsets (X : K.In h) (G : h.Ns mainGlobals mg) (c : He.SaysD fa fn K) : mg "_law_subsets" = some (.ref (He.ga K "_law_subsets")) := He.glo_ok X G (c.fact 79 (f := .glo "_law_subsets") rfl)
theorem f_law_guild (c : He.SaysD fa fn K) : ∃ fd, Fd K "_law_guild" s_law_guild [] [] (He.ga K "_law_guild") fd := c.def_ 80 (d := d_law_guild) rfl
theorem m_law_guild (X : K.In h) (G : h.Ns mainGlobals mg) (c : He.SaysD fa fn K) : mg "_law_guild" = some (.ref (He.ga K "_law_guild")) := He.glo_ok X G (c.fact 80 (f := .glo "_law_guild") rfl)
theorem f_law_safe (c : He.SaysD fa fn K) : ∃ fd, Fd K "_law_safe" s_law_safe [] [] (He.ga K "_law_safe") fd := c.def_ 81 (d := d_law_safe) rfl
theorem m_law_safe (X : K.In h) (G : h.Ns mainGlobals mg) (c : He.SaysD fa fn K) : mg "_law_safe" = some (.ref (He.ga K "_law_safe")) := He.glo_ok X G (c.fact 81 (f := .glo "_law_safe") rfl)
theorem f_law_safes (c : He.SaysD fa fn K) : ∃ fd, Fd K "_law_safes" s_law_safes [] [] (He.ga K "_law_safes") fd := c.def_ 82 (d := d_law_safes) rfl
theorem m_law_safes (X : K.In h) (G : h.Ns mainGlobals mg) (c : He.SaysD fa fn K) : mg "_law_safes" = some (.ref (He.ga K "_law_safes")) := He.glo_ok X G (c.fact 82 (f := .glo "_law_safes") rfl)
theorem f_law_minimal (c : He.SaysD fa fn K) : ∃ fd, Fd K "_law_minimal" s_law_minimal [] [] (He.ga K "_law_minimal") fd := c.def_ 83 (d := d_law_minimal) rfl
theorem m_law_minimal (X : K.In h) (G : h.Ns mainGlobals mg) (c : He.SaysD fa fn K) : mg "_law_minimal" = some (.ref (He.ga K "_law_minimal")) := He.glo_ok X G (c.fact 83 (f := .glo "_law_minimal") rfl)
theorem f_law_needs (c : He.SaysD fa fn K) : ∃ fd, Fd K "_law_needs" s_law_needs [] [] (He.ga K "_law_needs") fd := c.def_ 84 (d := d_law_needs) rfl
theorem m_law_needs (X : K.In h) (G : h.Ns mainGlobals mg) (c : He.SaysD fa fn K) : mg "_law_needs" = some (.ref (He.ga K "_law_needs")) := He.glo_ok X G (c.fact 84 (f := .glo "_law_needs") rfl)
theorem f_law_meets (c : He.SaysD fa fn K) : ∃ fd, Fd K "_law_meets" s_law_meets [] [] (He.ga K "_law_meets") fd := c.def_ 85 (d := d_law_meets) rfl
theorem m_law_meets (X : K.In h) (G : h.Ns mainGlobals mg) (c : He.SaysD fa fn K) : mg "_law_meets" = some (.ref (He.ga K "_law_meets")) := He.glo_ok X G (c.fact 85 (f := .glo "_law_meets") rfl)
theorem f_law_motor (c : He.SaysD fa fn K) : ∃ fd, Fd K "_law_motor" s_law_motor [] [] (He.ga K "_law_motor") fd := c.def_ 86 (d := d_law_motor) rfl
theorem m_law_motor (X : K.In h) (G : h.Ns mainGlobals mg) (c : He.SaysD fa fn K) : mg "_law_motor" = some (.ref (He.ga K "_law_motor")) := He.glo_ok X G (c.fact 86 (f := .glo "_law_motor") rfl)
theorem f_law_least (c : He.SaysD fa fn K) : ∃ fd, Fd K "_law_least" s_law_least [] [] (He.ga K "_law_least") fd := c.def_ 87 (d := d_law_least) rfl
theorem m_law_least (X : K.In h) (G : h.Ns mainGlobals mg) (c : He.SaysD fa fn K) : mg "_law_least" = some (.ref (He.ga K "_law_least")) := He.glo_ok X G (c.fact 87 (f := .glo "_law_least") rfl)
theorem f_law_are_needs_right (c : He.SaysD fa fn K) : ∃ fd, Fd K "_law_are_needs_right" s_law_are_needs_right [] [] (He.ga K "_law_are_needs_right") fd := c.def_ 88 (d := d_law_are_needs_right) rfl
theorem m_law_are_needs_right (X : K.In h) (G : h.Ns mainGlobals mg) (c : He.SaysD fa fn K) : mg "_law_are_needs_right" = some (.ref (He.ga K "_law_are_needs_right")) := He.glo_ok X G (c.fact 88 (f := .glo "_law_are_needs_right") rfl)
theorem f_law_are_asks_right (c : He.SaysD fa fn K) : ∃ fd, Fd K "_law_are_asks_right" s_law_are_asks_right [] [] (He.ga K "_law_are_asks_right") fd := c.def_ 89 (d := d_law_are_asks_right) rfl
theorem m_law_are_asks_right (X : K.In h) (G : h.Ns mainGlobals mg) (c : He.SaysD fa fn K) : mg "_law_are_asks_right" = some (.ref (He.ga K "_law_are_asks_right")) := He.glo_ok X G (c.fact 89 (f := .glo "_law_are_asks_right") rfl)
theorem f_law_right (c : He.SaysD fa fn K) : ∃ fd, Fd K "_law_right" s_law_right [] [] (He.ga K "_law_right") fd := c.def_ 90 (d := d_law_right) rfl
theorem m_law_right (X : K.In h) (G : h.Ns mainGlobals mg) (c : He.SaysD fa fn K) : mg "_law_right" = some (.ref (He.ga K "_law_right")) := He.glo_ok X G (c.fact 90 (f := .glo "_law_right") rfl)
theorem f_law (c : He.SaysD fa fn K) : ∃ fd, Fd K "law" s_law [] [] (He.ga K "law") fd := c.def_ 91 (d := d_law) rfl
theorem m_law (X : K.In h) (G : h.Ns mainGlobals mg) (c : He.SaysD fa fn K) : mg "law" = some (.ref (He.ga K "law")) := He.glo_ok X G (c.fact 91 (f := .glo "law") rfl)
end
theorem facts {P : Program} {w : World} {K : PySem.W.Frag} {h : Heap} {mg : Str → Option Value} {f : Addr} (X : K.In h) (G : h.Ns mainGlobals mg) (hfa : mg ("law" : Str) = some (.ref f)) (c : He.SaysD fa fn K) :
    ∃ fd : FuncData, (∀ (s : Shared) (v : Value), BindsTo s fd ⟨[v], []⟩ [("_law_script", v)]) ∧ ∀ base : Heap, K.In base → base.Ns mainGlobals mg → FnG P w K mg base 15 f fd ["_law_script"] (sp_law K) := by
  have T : TB mg := tb_of X G c
  obtain ⟨fd_is_integer, F_is_integer⟩ := f_is_integer c
  obtain ⟨fd_is_number, F_is_number⟩ := f_is_number c
  obtain ⟨fd_is_index, F_is_index⟩ := f_is_index c
  obtain ⟨fd_is_among, F_is_among⟩ := f_is_among c
  obtain ⟨fd_is_name, F_is_name⟩ := f_is_name c
  obtain ⟨fd_is_tuple_of, F_is_tuple_of⟩ := f_is_tuple_of c
  obtain ⟨fd_are_rising, F_are_rising⟩ := f_are_rising c
  obtain ⟨fd_is_names, F_is_names⟩ := f_is_names c
  obtain ⟨fd_is_names_among, F_is_names_among⟩ := f_is_names_among c
  obtain ⟨fd_are_sets_among, F_are_sets_among⟩ := f_are_sets_among c
  obtain ⟨fd_are_indexes, F_are_indexes⟩ := f_are_indexes c
  obtain ⟨fd_are_numbers, F_are_numbers⟩ := f_are_numbers c
  obtain ⟨fd_machine_fault, F_machine_fault⟩ := f_machine_fault c
  obtain ⟨fd_is_triple_from, F_is_triple_from⟩ := f_is_triple_from c
  obtain ⟨fd_trust_fault, F_trust_fault⟩ := f_trust_fault c
  obtain ⟨fd_order_fault, F_order_fault⟩ := f_order_fault c
  obtain ⟨fd_gaps_by, F_gaps_by⟩ := f_gaps_by c
  obtain ⟨fd_triangle_fault, F_triangle_fault⟩ := f_triangle_fault c
  obtain ⟨fd_clocks_fault, F_clocks_fault⟩ := f_clocks_fault c
  obtain ⟨fd_are_promises, F_are_promises⟩ := f_are_promises c
  obtain ⟨fd_is_looking, F_is_looking⟩ := f_is_looking c
  obtain ⟨fd_is_looking_of, F_is_looking_of⟩ := f_is_looking_of c
  obtain ⟨fd_rules_fault, F_rules_fault⟩ := f_rules_fault c
  obtain ⟨fd_parts_fault, F_parts_fault⟩ := f_parts_fault c
  obtain ⟨fd_is_trust, F_is_trust⟩ := f_is_trust c
  obtain ⟨fd_is_book, F_is_book⟩ := f_is_book c
  obtain ⟨fd_meets_in, F_meets_in⟩ := f_meets_in c
  obtain ⟨fd_joint_in, F_joint_in⟩ := f_joint_in c
  obtain ⟨fd_houses_in, F_houses_in⟩ := f_houses_in c
  obtain ⟨fd_lots_of, F_lots_of⟩ := f_lots_of c
  obtain ⟨fd_fears_of, F_fears_of⟩ := f_fears_of c
  obtain ⟨fd_is_within, F_is_within⟩ := f_is_within c
  obtain ⟨fd_less_by, F_less_by⟩ := f_less_by c
  obtain ⟨fd_least_of, F_least_of⟩ := f_least_of c
  obtain ⟨fd_greatest_of, F_greatest_of⟩ := f_greatest_of c
  obtain ⟨fd_is_safe_by, F_is_safe_by⟩ := f_is_safe_by c
  obtain ⟨fd_safe_by, F_safe_by⟩ := f_safe_by c
  obtain ⟨fd_falls_by, F_falls_by⟩ := f_falls_by c
  obtain ⟨fd_pairs_in, F_pairs_in⟩ := f_pairs_in c
  obtain ⟨fd_lot_at, F_lot_at⟩ := f_lot_at c
  obtain ⟨fd_needs_by, F_needs_by⟩ := f_needs_by c
  obtain ⟨fd_first_missed_by, F_first_missed_by⟩ := f_first_missed_by c
  obtain ⟨fd_is_met, F_is_met⟩ := f_is_met c
  obtain ⟨fd_crossings_by, F_crossings_by⟩ := f_crossings_by c
  obtain ⟨fd_is_house_of, F_is_house_of⟩ := f_is_house_of c
  obtain ⟨fd_are_houses_of, F_are_houses_of⟩ := f_are_houses_of c
  obtain ⟨fd_want, F_want⟩ := f_want c
  obtain ⟨fd_want_book, F_want_book⟩ := f_want_book c
  obtain ⟨fd_want_age, F_want_age⟩ := f_want_age c
  obtain ⟨fd_want_trust, F_want_trust⟩ := f_want_trust c
  obtain ⟨fd_want_house, F_want_house⟩ := f_want_house c
  obtain ⟨fd_want_lot, F_want_lot⟩ := f_want_lot c
  obtain ⟨fd_needs_of, F_needs_of⟩ := f_needs_of c
  obtain ⟨fd_meets_needs, F_meets_needs⟩ := f_meets_needs c
  obtain ⟨fd_first_missed, F_first_missed⟩ := f_first_missed c
  obtain ⟨fd_least_lots, F_least_lots⟩ := f_least_lots c
  obtain ⟨fd_fewest_lot, F_fewest_lot⟩ := f_fewest_lot c
  obtain ⟨fd_safe_houses, F_safe_houses⟩ := f_safe_houses c
  obtain ⟨fd_want_rule, F_want_rule⟩ := f_want_rule c
  obtain ⟨fd_answer_in, F_answer_in⟩ := f_answer_in c
  obtain ⟨fd_rows_from, F_rows_from⟩ := f_rows_from c
  obtain ⟨fd_rows_in, F_rows_in⟩ := f_rows_in c
  obtain ⟨fd_unlike_from, F_unlike_from⟩ := f_unlike_from c
  obtain ⟨fd_kept_within, F_kept_within⟩ := f_kept_within c
  obtain ⟨fd_longest_from, F_longest_from⟩ := f_longest_from c
  obtain ⟨fd_least_age_in, F_least_age_in⟩ := f_least_age_in c
  obtain ⟨fd_moves_in, F_moves_in⟩ := f_moves_in c
  obtain ⟨fd_lasting_in, F_lasting_in⟩ := f_lasting_in c
  obtain ⟨fd_caught_in, F_caught_in⟩ := f_caught_in c
  obtain ⟨fd_moving_in, F_moving_in⟩ := f_moving_in c
  obtain ⟨fd_lacks_in, F_lacks_in⟩ := f_lacks_in c
  obtain ⟨fd_rule_lacks, F_rule_lacks⟩ := f_rule_lacks c
  obtain ⟨fd_rule_is_right, F_rule_is_right⟩ := f_rule_is_right c
  obtain ⟨fd_law_feed, F_law_feed⟩ := f_law_feed c
  obtain ⟨fd_law_draw, F_law_draw⟩ := f_law_draw c
  obtain ⟨fd_law_any, F_law_any⟩ := f_law_any c
  obtain ⟨fd_law_same, F_law_same⟩ := f_law_same c
  obtain ⟨fd_law_within, F_law_within⟩ := f_law_within c
  obtain ⟨fd_law_less, F_law_less⟩ := f_law_less c
  obtain ⟨fd_law_subsets, F_law_subsets⟩ := f_law_subsets c
  obtain ⟨fd_law_guild, F_law_guild⟩ := f_law_guild c
  obtain ⟨fd_law_safe, F_law_safe⟩ := f_law_safe c
  obtain ⟨fd_law_safes, F_law_safes⟩ := f_law_safes c
  obtain ⟨fd_law_minimal, F_law_minimal⟩ := f_law_minimal c
  obtain ⟨fd_law_needs, F_law_needs⟩ := f_law_needs c
  obtain ⟨fd_law_meets, F_law_meets⟩ := f_law_meets c
  obtain ⟨fd_law_motor, F_law_motor⟩ := f_law_motor c
  obtain ⟨fd_law_least, F_law_least⟩ := f_law_least c
  obtain ⟨fd_law_are_needs_right, F_law_are_needs_right⟩ := f_law_are_needs_right c
  obtain ⟨fd_law_are_asks_right, F_law_are_asks_right⟩ := f_law_are_asks_right c
  obtain ⟨fd_law_right, F_law_right⟩ := f_law_right c
  obtain ⟨fd_law, F_law⟩ := f_law c
  have e := hfa.symm.trans (m_law X G c)
  cases e
  have b := FunD.bindsA (ps := ["_law_script"]) F_law b_law
  refine ⟨fd_law, fun s v => b s [v] rfl, fun base _ _ => ?_⟩
  have K_is_integer : Kn P w K mg base "is_integer" P_is_integer 1 sp_is_integer := kn_of b_is_integer (m_is_integer X G c) F_is_integer (fn_is_integer T  F_is_integer)
  have K_is_number : Kn P w K mg base "is_number" P_is_number 2 sp_is_number := kn_of b_is_number (m_is_number X G c) F_is_number (fn_is_number T K_is_integer F_is_number)
  have K_is_index : Kn P w K mg base "is_index" P_is_index 3 sp_is_index := kn_of b_is_index (m_is_index X G c) F_is_index (fn_is_index T K_is_number F_is_index)
  have K_is_among : Kn P w K mg base "is_among" P_is_among 1 sp_is_among := kn_of b_is_among (m_is_among X G c) F_is_among (fn_is_among T  F_is_among)
  have K_is_name : Kn P w K mg base "is_name" P_is_name 1 sp_is_name := kn_of b_is_name (m_is_name X G c) F_is_name (fn_is_name T  F_is_name)
  have K_is_tuple_of : Kn P w K mg base "is_tuple_of" P_is_tuple_of 1 sp_is_tuple_of := kn_of b_is_tuple_of (m_is_tuple_of X G c) F_is_tuple_of (fn_is_tuple_of T  F_is_tuple_of)
  have K_are_rising : Kn P w K mg base "are_rising" P_are_rising 1 sp_are_rising := kn_of b_are_rising (m_are_rising X G c) F_are_rising (fn_are_rising T  F_are_rising)
  have K_is_names : Kn P w K mg base "is_names" P_is_names 2 sp_is_names := kn_of b_is_names (m_is_names X G c) F_is_names (fn_is_names T K_is_name K_are_rising F_is_names)
  have K_is_names_among : Kn P w K mg base "is_names_among" P_is_names_among 3 sp_is_names_among := kn_of b_is_names_among (m_is_names_among X G c) F_is_names_among (fn_is_names_among T K_is_names F_is_names_among)
  have K_are_sets_among : Kn P w K mg base "are_sets_among" P_are_sets_among 4 sp_are_sets_among := kn_of b_are_sets_among (m_are_sets_among X G c) F_are_sets_among (fn_are_sets_among T K_is_names_among K_are_rising F_are_sets_among)
  have K_are_indexes : Kn P w K mg base "are_indexes" P_are_indexes 4 sp_are_indexes := kn_of b_are_indexes (m_are_indexes X G c) F_are_indexes (fn_are_indexes T K_is_tuple_of K_is_index F_are_indexes)
  have K_are_numbers : Kn P w K mg base "are_numbers" P_are_numbers 3 sp_are_numbers := kn_of b_are_numbers (m_are_numbers X G c) F_are_numbers (fn_are_numbers T K_is_tuple_of K_is_number F_are_numbers)
  have K_machine_fault : Kn P w K mg base "machine_fault" P_machine_fault 5 sp_machine_fault := kn_of b_machine_fault (m_machine_fault X G c) F_machine_fault (fn_machine_fault T K_is_tuple_of K_is_names K_are_indexes K_are_numbers F_machine_fault)
  have K_is_triple_from : Kn P w K mg base "is_triple_from" P_is_triple_from 2 sp_is_triple_from := kn_of b_is_triple_from (m_is_triple_from X G c) F_is_triple_from (fn_is_triple_from T K_is_tuple_of K_is_name F_is_triple_from)
  have K_trust_fault : Kn P w K mg base "trust_fault" P_trust_fault 5 sp_trust_fault := kn_of b_trust_fault (m_trust_fault X G c) F_trust_fault (fn_trust_fault T K_is_triple_from K_are_sets_among F_trust_fault)
  have K_order_fault : Kn P w K mg base "order_fault" P_order_fault 3 sp_order_fault := kn_of b_order_fault (m_order_fault X G c) F_order_fault (fn_order_fault T  F_order_fault)
  have K_gaps_by : Kn P w K mg base "gaps_by" P_gaps_by 1 sp_gaps_by := kn_of b_gaps_by (m_gaps_by X G c) F_gaps_by (fn_gaps_by T  F_gaps_by)
  have K_triangle_fault : Kn P w K mg base "triangle_fault" P_triangle_fault 2 sp_triangle_fault := kn_of b_triangle_fault (m_triangle_fault X G c) F_triangle_fault (fn_triangle_fault T K_gaps_by F_triangle_fault)
  have K_clocks_fault : Kn P w K mg base "clocks_fault" P_clocks_fault 4 sp_clocks_fault := kn_of b_clocks_fault (m_clocks_fault X G c) F_clocks_fault (fn_clocks_fault T K_order_fault K_triangle_fault F_clocks_fault)
  have K_are_promises : Kn P w K mg base "are_promises" P_are_promises 3 sp_are_promises := kn_of b_are_promises (m_are_promises X G c) F_are_promises (fn_are_promises T K_is_name K_is_integer K_are_rising F_are_promises)
  have K_is_looking : Kn P w K mg base "is_looking" P_is_looking 4 sp_is_looking := kn_of b_is_looking (m_is_looking X G c) F_is_looking (fn_is_looking T K_is_tuple_of K_is_name K_is_names K_is_integer K_is_among K_are_promises F_is_looking)
  have K_is_looking_of : Kn P w K mg base "is_looking_of" P_is_looking_of 5 sp_is_looking_of := kn_of b_is_looking_of (m_is_looking_of X G c) F_is_looking_of (fn_is_looking_of T K_is_looking K_is_names_among F_is_looking_of)
  have K_rules_fault : Kn P w K mg base "rules_fault" P_rules_fault 6 sp_rules_fault := kn_of b_rules_fault (m_rules_fault X G c) F_rules_fault (fn_rules_fault T K_is_looking_of F_rules_fault)
  have K_parts_fault : Kn P w K mg base "parts_fault" P_parts_fault 7 sp_parts_fault := kn_of b_parts_fault (m_parts_fault X G c) F_parts_fault (fn_parts_fault T K_is_tuple_of K_machine_fault K_trust_fault K_clocks_fault K_rules_fault F_parts_fault)
  have K_is_trust : Kn P w K mg base "is_trust" P_is_trust 6 sp_is_trust := kn_of b_is_trust (m_is_trust X G c) F_is_trust (fn_is_trust T K_trust_fault F_is_trust)
  have K_is_book : Kn P w K mg base "is_book" P_is_book 8 sp_is_book := kn_of b_is_book (m_is_book X G c) F_is_book (fn_is_book T K_parts_fault F_is_book)
  have K_meets_in : Kn P w K mg base "meets_in" P_meets_in 1 sp_meets_in := kn_of b_meets_in (m_meets_in X G c) F_meets_in (fn_meets_in T  F_meets_in)
  have K_joint_in : Kn P w K mg base "joint_in" P_joint_in 1 sp_joint_in := kn_of b_joint_in (m_joint_in X G c) F_joint_in (fn_joint_in T  F_joint_in)
  have K_houses_in : Kn P w K mg base "houses_in" P_houses_in 1 sp_houses_in := kn_of b_houses_in (m_houses_in X G c) F_houses_in (fn_houses_in T  F_houses_in)
  have K_lots_of : Kn P w K mg base "lots_of" P_lots_of 1 sp_lots_of := kn_of b_lots_of (m_lots_of X G c) F_lots_of (fn_lots_of T  F_lots_of)
  have K_fears_of : Kn P w K mg base "fears_of" P_fears_of 1 sp_fears_of := kn_of b_fears_of (m_fears_of X G c) F_fears_of (fn_fears_of T  F_fears_of)
  have K_is_within : Kn P w K mg base "is_within" P_is_within 1 sp_is_within := kn_of b_is_within (m_is_within X G c) F_is_within (fn_is_within T  F_is_within)
  have K_less_by : Kn P w K mg base "less_by" P_less_by 1 sp_less_by := kn_of b_less_by (m_less_by X G c) F_less_by (fn_less_by T  F_less_by)
  have K_least_of : Kn P w K mg base "least_of" P_least_of 2 sp_least_of := kn_of b_least_of (m_least_of X G c) F_least_of (fn_least_of T K_is_within F_least_of)
  have K_greatest_of : Kn P w K mg base "greatest_of" P_greatest_of 2 sp_greatest_of := kn_of b_greatest_of (m_greatest_of X G c) F_greatest_of (fn_greatest_of T K_is_within F_greatest_of)
  have K_is_safe_by : Kn P w K mg base "is_safe_by" P_is_safe_by 2 sp_is_safe_by := kn_of b_is_safe_by (m_is_safe_by X G c) F_is_safe_by (fn_is_safe_by T K_is_within K_fears_of F_is_safe_by)
  have K_safe_by : Kn P w K mg base "safe_by" P_safe_by 3 sp_safe_by := kn_of b_safe_by (m_safe_by X G c) F_safe_by (fn_safe_by T K_houses_in K_is_safe_by F_safe_by)
  have K_falls_by : Kn P w K mg base "falls_by" P_falls_by 3 sp_falls_by := kn_of b_falls_by (m_falls_by X G c) F_falls_by (fn_falls_by T K_fears_of K_greatest_of K_joint_in F_falls_by)
  have K_pairs_in : Kn P w K mg base "pairs_in" P_pairs_in 1 sp_pairs_in := kn_of b_pairs_in (m_pairs_in X G c) F_pairs_in (fn_pairs_in T  F_pairs_in)
  have K_lot_at : Kn P w K mg base "lot_at" P_lot_at 2 sp_lot_at := kn_of b_lot_at (m_lot_at X G c) F_lot_at (fn_lot_at T K_lots_of F_lot_at)
  have K_needs_by : Kn P w K mg base "needs_by" P_needs_by 4 sp_needs_by := kn_of b_needs_by (m_needs_by X G c) F_needs_by (fn_needs_by T K_pairs_in K_falls_by K_lot_at K_less_by K_least_of F_needs_by)
  have K_first_missed_by : Kn P w K mg base "first_missed_by" P_first_missed_by 2 sp_first_missed_by := kn_of b_first_missed_by (m_first_missed_by X G c) F_first_missed_by (fn_first_missed_by T K_joint_in F_first_missed_by)
  have K_is_met : Kn P w K mg base "is_met" P_is_met 3 sp_is_met := kn_of b_is_met (m_is_met X G c) F_is_met (fn_is_met T K_first_missed_by F_is_met)
  have K_crossings_by : Kn P w K mg base "crossings_by" P_crossings_by 3 sp_crossings_by := kn_of b_crossings_by (m_crossings_by X G c) F_crossings_by (fn_crossings_by T K_joint_in K_least_of F_crossings_by)
  have K_is_house_of : Kn P w K mg base "is_house_of" P_is_house_of 2 sp_is_house_of := kn_of b_is_house_of (m_is_house_of X G c) F_is_house_of (fn_is_house_of T K_houses_in K_is_among F_is_house_of)
  have K_are_houses_of : Kn P w K mg base "are_houses_of" P_are_houses_of 4 sp_are_houses_of := kn_of b_are_houses_of (m_are_houses_of X G c) F_are_houses_of (fn_are_houses_of T K_houses_in K_is_names_among F_are_houses_of)
  have D_want : KnD P w K mg base "want" P_want 1 sp_want [.int (-1)] := kd_of bd_want rfl (m_want X G c) F_want (fn_want T  F_want)
  have D_want_book : KnD P w K mg base "want_book" P_want_book 9 sp_want_book [.str "book"] := kd_of bd_want_book rfl (m_want_book X G c) F_want_book (fn_want_book T K_is_book D_want F_want_book)
  have K_want_age : Kn P w K mg base "want_age" P_want_age 3 sp_want_age := kn_of b_want_age (m_want_age X G c) F_want_age (fn_want_age T K_is_number D_want F_want_age)
  have D_want_trust : KnD P w K mg base "want_trust" P_want_trust 7 sp_want_trust [.str "trust"] := kd_of bd_want_trust rfl (m_want_trust X G c) F_want_trust (fn_want_trust T K_is_trust D_want F_want_trust)
  have D_want_house : KnD P w K mg base "want_house" P_want_house 3 sp_want_house [.str "house"] := kd_of bd_want_house rfl (m_want_house X G c) F_want_house (fn_want_house T K_is_house_of D_want F_want_house)
  have D_want_lot : KnD P w K mg base "want_lot" P_want_lot 5 sp_want_lot [.str "lot"] := kd_of bd_want_lot rfl (m_want_lot X G c) F_want_lot (fn_want_lot T K_are_houses_of D_want F_want_lot)
  have K_want_lot : Kn P w K mg base "want_lot" P_want_lot 5 sp_want_lot := kf_of bf_want_lot rfl (m_want_lot X G c) F_want_lot (fn_want_lot T K_are_houses_of D_want F_want_lot)
  have K_needs_of : Kn P w K mg base "needs_of" P_needs_of 8 sp_needs_of := kn_of b_needs_of (m_needs_of X G c) F_needs_of (fn_needs_of T D_want_trust D_want_house D_want_lot K_needs_by F_needs_of)
  have KK_needs_of : KnK P w K mg base "needs_of" P_needs_of 8 sp_needs_of 0 ["house", "trust"] gSw := kk_of rel_sw bk_needs_of (m_needs_of X G c) F_needs_of (fn_needs_of T D_want_trust D_want_house D_want_lot K_needs_by F_needs_of)
  have K_meets_needs : Kn P w K mg base "meets_needs" P_meets_needs 8 sp_meets_needs := kn_of b_meets_needs (m_meets_needs X G c) F_meets_needs (fn_meets_needs T D_want_trust D_want_house D_want_lot K_needs_by K_is_met F_meets_needs)
  have K_first_missed : Kn P w K mg base "first_missed" P_first_missed 8 sp_first_missed := kn_of b_first_missed (m_first_missed X G c) F_first_missed (fn_first_missed T D_want_trust D_want_house D_want_lot K_needs_by K_first_missed_by F_first_missed)
  have KK_first_missed : KnK P w K mg base "first_missed" P_first_missed 8 sp_first_missed 0 ["lot", "house", "trust"] gRev := kk_of rel_rev bk_first_missed (m_first_missed X G c) F_first_missed (fn_first_missed T D_want_trust D_want_house D_want_lot K_needs_by K_first_missed_by F_first_missed)
  have K_least_lots : Kn P w K mg base "least_lots" P_least_lots 8 sp_least_lots := kn_of b_least_lots (m_least_lots X G c) F_least_lots (fn_least_lots T D_want_trust D_want_house D_want_lot K_needs_by K_crossings_by F_least_lots)
  have K_fewest_lot : Kn P w K mg base "fewest_lot" P_fewest_lot 8 sp_fewest_lot := kn_of b_fewest_lot (m_fewest_lot X G c) F_fewest_lot (fn_fewest_lot T D_want_trust D_want_house D_want_lot K_needs_by K_crossings_by F_fewest_lot)
  have K_safe_houses : Kn P w K mg base "safe_houses" P_safe_houses 8 sp_safe_houses := kn_of b_safe_houses (m_safe_houses X G c) F_safe_houses (fn_safe_houses T D_want_trust D_want_house D_want_lot K_needs_by K_want_lot K_safe_by F_safe_houses)
  have K_want_rule : Kn P w K mg base "want_rule" P_want_rule 10 sp_want_rule := kn_of b_want_rule (m_want_rule X G c) F_want_rule (fn_want_rule T D_want_book K_is_index D_want F_want_rule)
  have K_answer_in : Kn P w K mg base "answer_in" P_answer_in 1 sp_answer_in := kn_of b_answer_in (m_answer_in X G c) F_answer_in (fn_answer_in T  F_answer_in)
  have K_rows_from : Kn P w K mg base "rows_from" P_rows_from 1 sp_rows_from := kn_of b_rows_from (m_rows_from X G c) F_rows_from (fn_rows_from T  F_rows_from)
  have K_rows_in : Kn P w K mg base "rows_in" P_rows_in 2 sp_rows_in := kn_of b_rows_in (m_rows_in X G c) F_rows_in (fn_rows_in T K_rows_from F_rows_in)
  have K_unlike_from : Kn P w K mg base "unlike_from" P_unlike_from 2 sp_unlike_from := kn_of b_unlike_from (m_unlike_from X G c) F_unlike_from (fn_unlike_from T K_answer_in K_rows_from F_unlike_from)
  have K_kept_within : Kn P w K mg base "kept_within" P_kept_within 1 sp_kept_within := kn_of b_kept_within (m_kept_within X G c) F_kept_within (fn_kept_within T  F_kept_within)
  have K_longest_from : Kn P w K mg base "longest_from" P_longest_from 3 sp_longest_from := kn_of b_longest_from (m_longest_from X G c) F_longest_from (fn_longest_from T K_unlike_from K_kept_within F_longest_from)
  have K_least_age_in : Kn P w K mg base "least_age_in" P_least_age_in 4 sp_least_age_in := kn_of b_least_age_in (m_least_age_in X G c) F_least_age_in (fn_least_age_in T K_rows_in K_longest_from F_least_age_in)
  have K_moves_in : Kn P w K mg base "moves_in" P_moves_in 5 sp_moves_in := kn_of b_moves_in (m_moves_in X G c) F_moves_in (fn_moves_in T K_least_age_in F_moves_in)
  have K_lasting_in : Kn P w K mg base "lasting_in" P_lasting_in 3 sp_lasting_in := kn_of b_lasting_in (m_lasting_in X G c) F_lasting_in (fn_lasting_in T  F_lasting_in)
  have K_caught_in : Kn P w K mg base "caught_in" P_caught_in 4 sp_caught_in := kn_of b_caught_in (m_caught_in X G c) F_caught_in (fn_caught_in T K_meets_in K_lasting_in F_caught_in)
  have K_moving_in : Kn P w K mg base "moving_in" P_moving_in 6 sp_moving_in := kn_of b_moving_in (m_moving_in X G c) F_moving_in (fn_moving_in T K_moves_in F_moving_in)
  have K_lacks_in : Kn P w K mg base "lacks_in" P_lacks_in 7 sp_lacks_in := kn_of b_lacks_in (m_lacks_in X G c) F_lacks_in (fn_lacks_in T K_moving_in K_needs_by K_caught_in F_lacks_in)
  have D_rule_lacks : KnD P w K mg base "rule_lacks" P_rule_lacks 11 sp_rule_lacks [.int 0] := k0_of b0_rule_lacks rfl (m_rule_lacks X G c) F_rule_lacks (fn_rule_lacks T K_want_rule K_want_age K_lacks_in F_rule_lacks)
  have KK_rule_lacks : KnK P w K mg base "rule_lacks" P_rule_lacks 11 sp_rule_lacks 2 ["age"] gApp := kk_of rel_app bk_rule_lacks (m_rule_lacks X G c) F_rule_lacks (fn_rule_lacks T K_want_rule K_want_age K_lacks_in F_rule_lacks)
  have D_rule_is_right : KnD P w K mg base "rule_is_right" P_rule_is_right 12 sp_rule_is_right [.int 0] := k0_of b0_rule_is_right rfl (m_rule_is_right X G c) F_rule_is_right (fn_rule_is_right T KK_rule_lacks F_rule_is_right)
  have KK_rule_is_right : KnK P w K mg base "rule_is_right" P_rule_is_right 12 sp_rule_is_right 0 ["rule", "book", "age"] gRb := kk_of rel_rb bk_rule_is_right (m_rule_is_right X G c) F_rule_is_right (fn_rule_is_right T KK_rule_lacks F_rule_is_right)
  have K_law_feed : Kn P w K mg base "_law_feed" P_law_feed 1 (sp_law_feed K) := kn_of b_law_feed (m_law_feed X G c) F_law_feed (fn_law_feed T  F_law_feed)
  have K_law_draw : Kn P w K mg base "_law_draw" P_law_draw 1 sp_law_draw := kn_of b_law_draw (m_law_draw X G c) F_law_draw (fn_law_draw T  F_law_draw)
  have K_law_any : Kn P w K mg base "_law_any" P_law_any 2 sp_law_any := kn_of b_law_any (m_law_any X G c) F_law_any (fn_law_any T K_law_draw F_law_any)
  have K_law_same : KnG P w K mg base "_law_same" P_law_same 1 sp_law_same := kg_of b_law_same (m_law_same X G c) F_law_same (fn_law_same T  F_law_same)
  have K_law_within : Kn P w K mg base "_law_within" P_law_within 1 sp_law_within := kn_of b_law_within (m_law_within X G c) F_law_within (fn_law_within T  F_law_within)
  have K_law_less : Kn P w K mg base "_law_less" P_law_less 1 sp_law_less := kn_of b_law_less (m_law_less X G c) F_law_less (fn_law_less T  F_law_less)
  have K_law_subsets : Kn P w K mg base "_law_subsets" P_law_subsets 1 sp_law_subsets := kn_of b_law_subsets (m_law_subsets X G c) F_law_subsets (fn_law_subsets T  F_law_subsets)
  have K_law_guild : Kn P w K mg base "_law_guild" P_law_guild 3 sp_law_guild := kn_of b_law_guild (m_law_guild X G c) F_law_guild (fn_law_guild T K_law_any K_law_subsets K_law_draw K_law_less F_law_guild)
  have K_law_safe : Kn P w K mg base "_law_safe" P_law_safe 2 sp_law_safe := kn_of b_law_safe (m_law_safe X G c) F_law_safe (fn_law_safe T K_law_within F_law_safe)
  have K_law_safes : Kn P w K mg base "_law_safes" P_law_safes 3 sp_law_safes := kn_of b_law_safes (m_law_safes X G c) F_law_safes (fn_law_safes T K_law_subsets K_law_safe F_law_safes)
  have K_law_minimal : Kn P w K mg base "_law_minimal" P_law_minimal 2 sp_law_minimal := kn_of b_law_minimal (m_law_minimal X G c) F_law_minimal (fn_law_minimal T K_law_within F_law_minimal)
  have K_law_needs : Kn P w K mg base "_law_needs" P_law_needs 3 sp_law_needs := kn_of b_law_needs (m_law_needs X G c) F_law_needs (fn_law_needs T K_law_less K_law_minimal F_law_needs)
  have K_law_meets : Kn P w K mg base "_law_meets" P_law_meets 1 sp_law_meets := kn_of b_law_meets (m_law_meets X G c) F_law_meets (fn_law_meets T  F_law_meets)
  have K_law_motor : Kn P w K mg base "_law_motor" P_law_motor 3 sp_law_motor := kn_of b_law_motor (m_law_motor X G c) F_law_motor (fn_law_motor T K_law_any F_law_motor)
  have K_law_least : Kn P w K mg base "_law_least" P_law_least 3 sp_law_least := kn_of b_law_least (m_law_least X G c) F_law_least (fn_law_least T K_law_subsets K_law_meets K_law_minimal F_law_least)
  have K_law_are_needs_right : KnG P w K mg base "_law_are_needs_right" P_law_are_needs_right 9 sp_law_are_needs_right := kg_of b_law_are_needs_right (m_law_are_needs_right X G c) F_law_are_needs_right (fn_law_are_needs_right T KK_needs_of K_needs_of K_law_least K_least_lots K_law_same K_fewest_lot K_law_draw K_law_meets KK_first_missed K_meets_needs F_law_are_needs_right)
  have K_law_are_asks_right : KnG P w K mg base "_law_are_asks_right" P_law_are_asks_right 13 sp_law_are_asks_right := kg_of b_law_are_asks_right (m_law_are_asks_right X G c) F_law_are_asks_right (fn_law_are_asks_right T K_law_motor K_law_any K_law_draw K_law_meets KK_rule_is_right D_rule_is_right D_rule_lacks K_law_same F_law_are_asks_right)
  have K_law_right : KnG P w K mg base "_law_right" P_law_right 14 (sp_law_right K) := kg_of b_law_right (m_law_right X G c) F_law_right (fn_law_right T K_law_feed K_law_guild K_law_safes K_law_needs K_law_draw K_law_safe K_safe_houses K_law_same K_law_are_needs_right K_law_are_asks_right F_law_right)
  exact fn_law T K_law_right F_law
end K60

set_option maxHeartbeats 0
open PySem PySem.W PySem.Calls PyProof.Rows
theorem PySem.Challenge.cw_actasone_k60_whole_needs_by_all_falls_holds : PySem.Challenge.rw_actasone_k60_whole_needs_by_all_falls.Holds := by
  w_on; o_law
  refine HandSHeadRun.head_any (r := OpenLaw.row PySem.Challenge.rw_actasone_k60_whole_needs_by_all_falls) (q := view (OpenLaw.row PySem.Challenge.rw_actasone_k60_whole_needs_by_all_falls).prog [121]) (H := K60H.hk) (ob := K60H.ob) (M := 6000) (loose := K60H.hnm) (d := HandSHeadRun.topDef (OpenLaw.row PySem.Challenge.rw_actasone_k60_whole_needs_by_all_falls).prog 121) (kwd := []) K60H.ob_eq
    (by kernel_rfl) (fun s => by kernel_rfl) K60H.run (by kernel_rfl) (by kernel_rfl) (by kernel_rfl) (by rfl) (by first | assumption | decide +kernel) (by decide +kernel) ⟨rfl, rfl, rfl, rfl, rfl, by decide +kernel⟩ ?hw ?hc
  case hw => w_witness2
  case hc =>
    refine K60.walkG (l := PySem.Challenge.rw_actasone_k60_whole_needs_by_all_falls) (n := 63) (k := 15) (x := "_law_script") rfl (by decide) (by kernel_rfl) ⟨rfl, by decide, by decide⟩ ?F
    intro w mg fa h Y G hmg0
    obtain ⟨K, KX, c⟩ := Y
    have hmg : mg ("law" : PySem.Str) = some (.ref fa) := by
      have e : (HandSHeadRun.topDef (OpenLaw.row PySem.Challenge.rw_actasone_k60_whole_needs_by_all_falls).prog 121).name = ("law" : PySem.Str) := by kernel_rfl
      rw [← e]
      exact hmg0
    obtain ⟨fd, hb, hF⟩ := K60.facts (P := (PySem.Challenge.rw_actasone_k60_whole_needs_by_all_falls).prog) (w := w) KX G hmg c
    exact ⟨K, fd, K60.sp_law K, KX, hb, fun H a ns hl _ hS => ⟨a, ns, rfl, ⟨Nat.le_trans hl (by decide), hS⟩, fun _ => rfl⟩, hF⟩
