import PyProof.Rows.All
import Wide.All
import OpenK.AllK
import Wide.FinOn
import KE.KStateDown
import KE.KIsAll
import KE.KTryMore
import HandS.ForMost
import HandS.Exc
import HandS.ExcInit
import HandS.ExcField
import HandS.ExcIs
import HandS.WordsExc
import HandS.Defaults
import HandS.Head0
import HandS.Head1
import HandS.Head2
import HandS.HeadEnd
import HandS.HeadHook1
import HandS.HeadHook2
import PySem.Challenge.RW_wishdeal_k70_whole_orders_part
import HandS.Steps
import HandS.Walk
import HandS.Zip
import HandS.ListItems
import HandS.More
import HandS.IsInst
import HandS.NoneIn
import HandS.WordsDict
import HandS.Deep
import HandS.Style
import HandS.ExcOwn
import HandS.CallSlots
import KE.KExcIs
import HandS.Finally
set_option Elab.async false
set_option linter.all false
set_option maxRecDepth 100000
set_option maxHeartbeats 0
namespace Wd
open PySem PySem.Spec PyProof.Rows L2
def top (i : Nat) : Stmt := PySem.Challenge.pw_wishdeal_k70_whole_orders_part.main.body.getD i (.Pass ⟨0, 0, 0, 0⟩)
/-! the text by places (printed by gen.py) -/
abbrev s_is_whole : Stmt := top 1
abbrev s_NoWishes_init : Stmt := inClass (top 4) 0
abbrev s_NoAim_init : Stmt := inClass (top 5) 0
abbrev s_need_row : Stmt := top 13
abbrev s_is_many : Stmt := top 14
abbrev s_is_thing : Stmt := top 15
abbrev s_are_ranks : Stmt := top 16
abbrev s_look_at_wishes : Stmt := top 17
abbrev s_longest : Stmt := top 18
abbrev s_rank_among : Stmt := top 21
abbrev s_counts_of : Stmt := top 23
abbrev s_copies_left : Stmt := top 24
abbrev s_is_order : Stmt := top 26
abbrev s_is_old : Stmt := top 27
abbrev s_are_turns : Stmt := top 28
abbrev s_fault_of : Stmt := top 29
abbrev s_look_at_aim : Stmt := top 30
abbrev s_powers_of : Stmt := top 32
abbrev s_Scale_init : Stmt := inClass (top 33) 0
abbrev s_Scale_by_order : Stmt := inClass (top 33) 1
abbrev s_Scale_pick_of : Stmt := inClass (top 33) 2
abbrev s_Scale_of : Stmt := inClass (top 33) 3
abbrev s_worths_of : Stmt := top 34
abbrev s_all_worths : Stmt := top 35
abbrev s_rows_by : Stmt := top 37
abbrev s_left_by : Stmt := top 38
abbrev s_Reach_init : Stmt := inClass (top 39) 0
abbrev s_Reach_to_things : Stmt := inClass (top 39) 1
abbrev s_Reach_to_askers : Stmt := inClass (top 39) 2
abbrev s_Reach_go_on : Stmt := inClass (top 39) 3
abbrev s_Reach_end_by : Stmt := inClass (top 39) 4
abbrev s_Reach_way_to : Stmt := inClass (top 39) 5
abbrev s_best_way : Stmt := top 40
abbrev s_dealt_best : Stmt := top 41
abbrev s_Prices_init : Stmt := inClass (top 43) 0
abbrev s_Prices_rest : Stmt := inClass (top 43) 1
abbrev s_Prices_chain : Stmt := inClass (top 43) 2
abbrev s_Prices_way_by : Stmt := inClass (top 43) 3
abbrev s_Prices_raised_by : Stmt := inClass (top 43) 4
abbrev s_Prices_settle : Stmt := inClass (top 43) 5
abbrev s_Prices_told : Stmt := inClass (top 43) 6
abbrev s_best_dealing : Stmt := top 44
abbrev s_met_arcs : Stmt := top 46
abbrev s_led_to : Stmt := top 47
abbrev s_places_of : Stmt := top 48
abbrev s_strict_paper : Stmt := top 49
abbrev s_moved_round : Stmt := top 50
abbrev s_tight_wishes : Stmt := top 52
abbrev s_has_dealt : Stmt := top 53
abbrev s_has_left : Stmt := top 54
abbrev s_web_of : Stmt := top 56
abbrev s_ledger_of : Stmt := top 64
abbrev s_lets_ledger : Stmt := top 69
abbrev s_opened : Stmt := top 71
abbrev s_how_many : Stmt := top 72
abbrev s_numbered : Stmt := top 73
abbrev s_number_of : Stmt := top 74
abbrev s_shares : Stmt := top 76
abbrev s_all_best : Stmt := top 79
abbrev s_orders_part : Stmt := top 80
abbrev s_law_cell_at : Stmt := top 82
abbrev s_law_numbers : Stmt := top 83
abbrev s_law_wishes : Stmt := top 84
abbrev s_law_rank : Stmt := top 85
abbrev s_law_longest : Stmt := top 86
abbrev s_law_wished : Stmt := top 87
abbrev s_law_counts : Stmt := top 88
abbrev s_law_worth : Stmt := top 89
abbrev s_law_whole : Stmt := top 90
abbrev s_law_bests : Stmt := top 91
abbrev s_law_is_whole : Stmt := top 92
abbrev s_law_is_dealing : Stmt := top 93
abbrev s_law_proper : Stmt := top 94
abbrev s_law_shown_best : Stmt := top 95
abbrev s_law_refused : Stmt := top 96
abbrev s_law_odd : Stmt := top 97
abbrev s_law_asked : Stmt := top 98
abbrev s_law_door : Stmt := top 99
abbrev s_law_doors : Stmt := top 100
abbrev s_law_due : Stmt := top 101
abbrev s_law_told : Stmt := top 102
abbrev s_law_block : Stmt := top 103
abbrev s_law : Stmt := top 104
def N_is_whole : List Str := ["thing"]
def N_NoWishes_init : List Str := ["self", "part", "number"]
def N_NoAim_init : List Str := ["self", "part"]
def N_need_row : List Str := ["part", "thing", "most"]
def N_is_many : List Str := ["thing"]
def N_is_thing : List Str := ["thing", "many"]
def N_are_ranks : List Str := ["thing", "many", "seen", "rank", "one"]
def N_look_at_wishes : List Str := ["thing", "copies", "lists", "number", "many", "ranks"]
def N_longest : List Str := ["wishes", "ranks"]
def N_rank_among : List Str := ["ranks", "thing", "number", "rank"]
def N_counts_of : List Str := ["wishes", "dealing", "counts", "asker", "one"]
def N_copies_left : List Str := ["wishes", "dealing", "number", "many"]
def N_is_order : List Str := ["thing"]
def N_is_old : List Str := ["wishes", "thing", "one"]
def N_are_turns : List Str := ["wishes", "thing", "seen", "one"]
def N_fault_of : List Str := ["wishes", "thing"]
def N_look_at_aim : List Str := ["wishes", "thing", "part"]
def N_powers_of : List Str := ["base", "most", "found", "k"]
def N_Scale_init : List Str := ["self", "wishes", "aim"]
def N_Scale_by_order : List Str := ["self", "rank", "plain"]
def N_Scale_pick_of : List Str := ["self", "asker", "rank", "behind"]
def N_Scale_of : List Str := ["self", "asker", "thing", "rank", "worth"]
def N_worths_of : List Str := ["scale", "asker", "ranks", "found", "k", "row", "thing"]
def N_all_worths : List Str := ["wishes", "aim", "scale", "found", "asker", "ranks", "worths", "thing"]
def N_rows_by : List Str := ["wishes", "aim", "worths", "ranks", "rows", "asker", "thing", "worth"]
def N_left_by : List Str := ["copies", "dealt", "left", "thing"]
def N_Reach_init : List Str := ["self", "rows", "dealt", "start"]
def N_Reach_to_things : List Str := ["self", "more", "asker", "gain", "thing", "worth"]
def N_Reach_to_askers : List Str := ["self", "asker", "thing"]
def N_Reach_go_on : List Str := ["self"]
def N_Reach_end_by : List Str := ["self", "left", "most", "end", "asker", "gain", "thing"]
def N_Reach_way_to : List Str := ["self", "end", "way", "thing"]
def N_best_way : List Str := ["rows", "copies", "dealt", "start", "reach", "end"]
def N_dealt_best : List Str := ["wishes", "aim", "rows", "row", "dealt", "asker", "one", "thing"]
def N_Prices_init : List Str := ["self", "rows", "copies", "dealt", "many"]
def N_Prices_rest : List Str := ["self", "asker", "thing"]
def N_Prices_chain : List Str := ["self", "thing", "steps", "at", "asker"]
def N_Prices_way_by : List Str := ["self", "thing", "steps", "asker", "had"]
def N_Prices_raised_by : List Str := ["self", "asker", "raised", "thing", "worth", "price", "way"]
def N_Prices_settle : List Str := ["self", "raised", "asker", "more", "way"]
def N_Prices_told : List Str := ["self", "asker", "asks"]
def N_best_dealing : List Str := ["wishes", "aim", "dealing", "prices"]
def N_met_arcs : List Str := ["wishes", "aim", "dealing", "paper", "times", "asks", "prices", "many", "last", "node", "found", "asker", "thing", "worth", "left"]
def N_led_to : List Str := ["arcs", "node", "found", "row", "here", "other"]
def N_places_of : List Str := ["arcs", "node"]
def N_strict_paper : List Str := ["paper", "arcs", "times", "asks", "prices", "places", "many", "size", "asker", "asked", "thing", "priced"]
def N_moved_round : List Str := ["dealing", "arcs", "one", "other", "ahead", "steps", "here", "found", "many", "there"]
def N_tight_wishes : List Str := ["wishes", "aim", "paper", "times", "asks", "prices", "found", "asker", "thing", "worth"]
def N_has_dealt : List Str := ["dealings", "asker", "thing", "one"]
def N_has_left : List Str := ["wishes", "dealings", "thing", "one"]
def N_web_of : List Str := ["wishes", "aim", "dealing", "paper", "arcs", "strict", "many", "last", "dealings", "asker", "thing", "asked", "price"]
def N_ledger_of : List Str := ["wishes", "aim", "web", "takes", "lefts", "prices", "left", "found", "asker", "behind", "rows", "what", "after"]
def N_lets_ledger : List Str := ["wishes", "aim", "web", "thing", "askers", "layer", "takes", "asker", "left", "many"]
def N_opened : List Str := ["wishes", "aim", "web", "ledger", "layer"]
def N_how_many : List Str := ["wishes", "aim"]
def N_numbered : List Str := ["wishes", "aim", "number", "takes", "layers", "left", "found", "asker", "some", "what", "after", "many"]
def N_number_of : List Str := ["wishes", "aim", "thing", "takes", "layers", "left", "number", "asker", "some", "then", "what", "after"]
def N_shares : List Str := ["wishes", "aim", "asker", "takes", "layers", "found", "left", "many", "what", "after", "some"]
def N_all_best : List Str := ["wishes", "aim", "takes", "layers", "start", "found", "asker", "some", "longer", "dealing", "left", "what", "after"]
def N_orders_part : List Str := ["wishes", "one", "other", "first", "second"]
def N_law_cell_at : List Str := ["_law_script", "_law_k"]
def N_law_numbers : List Str := ["_law_cell", "_law_salt", "_law_sizes", "_law_number", "_law_left", "_law_found", "_law_k", "_law_one"]
def N_law_wishes : List Str := ["_law_script", "_law_at", "_law_most_things", "_law_most_askers", "_law_most_ranks", "_law_sizes", "_law_digits", "_law_digit", "_law_copies", "_law_lists", "_law_asker", "_law_cell", "_law_places", "_law_ranks", "_law_rank_here", "_law_thing", "_law_row"]
def N_law_rank : List Str := ["_law_wishes_here", "_law_asker", "_law_thing", "_law_k", "_law_row"]
def N_law_longest : List Str := ["_law_wishes_here", "_law_ranks"]
def N_law_wished : List Str := ["_law_wishes_here", "_law_asker"]
def N_law_counts : List Str := ["_law_wishes_here", "_law_dealing", "_law_counts_here", "_law_asker", "_law_thing"]
def N_law_worth : List Str := ["_law_wishes_here", "_law_aim", "_law_asker", "_law_thing", "_law_order", "_law_old", "_law_turns", "_law_base", "_law_ranks", "_law_rank_here", "_law_powers", "_law_k", "_law_worth_here", "_law_pick", "_law_one"]
def N_law_whole : List Str := ["_law_wishes_here", "_law_aim", "_law_dealing", "_law_worth_here", "_law_asker", "_law_thing"]
def N_law_bests : List Str := ["_law_wishes_here", "_law_aim", "_law_found", "_law_asker", "_law_some", "_law_thing", "_law_longer", "_law_dealing", "_law_worth_here", "_law_more", "_law_most"]
def N_law_is_whole : List Str := ["_law_thing"]
def N_law_is_dealing : List Str := ["_law_wishes_here", "_law_thing", "_law_asker", "_law_one"]
def N_law_proper : List Str := ["_law_thing", "_law_many", "_law_one"]
def N_law_shown_best : List Str := ["_law_wishes_here", "_law_aim", "_law_dealing", "_law_paper", "_law_times", "_law_asks", "_law_prices", "_law_asker", "_law_thing", "_law_claim", "_law_price", "_law_many"]
def N_law_refused : List Str := ["_law_wishes_here", "_law_one", "_law_other", "e"]
def N_law_odd : List Str := ["_law_wishes_here", "_law_digits", "_law_odd_here", "_law_good", "_law_one", "_law_other", "_law_bad"]
def N_law_asked : List Str := ["_law_number", "_law_wishes_here", "_law_aim", "_law_web"]
def N_law_door : List Str := ["_law_number", "_law_wishes_here", "_law_aim", "_law_web", "e"]
def N_law_doors : List Str := ["_law_wishes_here", "_law_digits", "_law_good", "_law_web", "_law_askers", "_law_odd_here", "_law_aim", "_law_part", "_law_bad", "_law_due_here", "_law_number"]
def N_law_due : List Str := ["_law_wishes_here", "_law_aim", "_law_small", "_law_dealing", "_law_paper"]
def N_law_told : List Str := ["_law_wishes_here", "_law_aims", "_law_due_here", "_law_found", "_law_k"]
def N_law_block : List Str := ["_law_script", "_law_at", "_law_big", "_law_wishes_here", "_law_digits", "_law_k", "_law_aims", "_law_aim", "_law_due_here", "_law_kept", "_law_turn", "_law_found"]
def N_law : List Str := ["_law_script", "_law_at"]
def d_is_whole : He.DefD := ⟨("is_whole", none), "is_whole", "is_whole", defArgs s_is_whole, defBody s_is_whole, defScope s_is_whole, [], []⟩
def d_NoWishes_init : He.DefD := ⟨("NoWishes", some "__init__"), "__init__", "NoWishes.__init__", defArgs s_NoWishes_init, defBody s_NoWishes_init, defScope s_NoWishes_init, [], []⟩
def d_NoAim_init : He.DefD := ⟨("NoAim", some "__init__"), "__init__", "NoAim.__init__", defArgs s_NoAim_init, defBody s_NoAim_init, defScope s_NoAim_init, [], []⟩
def d_need_row : He.DefD := ⟨("need_row", none), "need_row", "need_row", defArgs s_need_row, defBody s_need_row, defScope s_need_row, [], []⟩
def d_is_many : He.DefD := ⟨("is_many", none), "is_many", "is_many", defArgs s_is_many, defBody s_is_many, defScope s_is_many, [], []⟩
def d_is_thing : He.DefD := ⟨("is_thing", none), "is_thing", "is_thing", defArgs s_is_thing, defBody s_is_thing, defScope s_is_thing, [], []⟩
def d_are_ranks : He.DefD := ⟨("are_ranks", none), "are_ranks", "are_ranks", defArgs s_are_ranks, defBody s_are_ranks, defScope s_are_ranks, [], []⟩
def d_look_at_wishes : He.DefD := ⟨("look_at_wishes", none), "look_at_wishes", "look_at_wishes", defArgs s_look_at_wishes, defBody s_look_at_wishes, defScope s_look_at_wishes, [], []⟩
def d_longest : He.DefD := ⟨("longest", none), "longest", "longest", defArgs s_longest, defBody s_longest, defScope s_longest, [], []⟩
def d_rank_among : He.DefD := ⟨("rank_among", none), "rank_among", "rank_among", defArgs s_rank_among, defBody s_rank_among, defScope s_rank_among, [], []⟩
def d_counts_of : He.DefD := ⟨("counts_of", none), "counts_of", "counts_of", defArgs s_counts_of, defBody s_counts_of, defScope s_counts_of, [], []⟩
def d_copies_left : He.DefD := ⟨("copies_left", none), "copies_left", "copies_left", defArgs s_copies_left, defBody s_copies_left, defScope s_copies_left, [], []⟩
def d_is_order : He.DefD := ⟨("is_order", none), "is_order", "is_order", defArgs s_is_order, defBody s_is_order, defScope s_is_order, [], []⟩
def d_is_old : He.DefD := ⟨("is_old", none), "is_old", "is_old", defArgs s_is_old, defBody s_is_old, defScope s_is_old, [], []⟩
def d_are_turns : He.DefD := ⟨("are_turns", none), "are_turns", "are_turns", defArgs s_are_turns, defBody s_are_turns, defScope s_are_turns, [], []⟩
def d_fault_of : He.DefD := ⟨("fault_of", none), "fault_of", "fault_of", defArgs s_fault_of, defBody s_fault_of, defScope s_fault_of, [], []⟩
def d_look_at_aim : He.DefD := ⟨("look_at_aim", none), "look_at_aim", "look_at_aim", defArgs s_look_at_aim, defBody s_look_at_aim, defScope s_look_at_aim, [], []⟩
def d_powers_of : He.DefD := ⟨("powers_of", none), "powers_of", "powers_of", defArgs s_powers_of, defBody s_powers_of, defScope s_powers_of, [], []⟩
def d_Scale_init : He.DefD := ⟨("Scale", some "__init__"), "__init__", "Scale.__init__", defArgs s_Scale_init, defBody s_Scale_init, defScope s_Scale_init, [], []⟩
def d_Scale_by_order : He.DefD := ⟨("Scale", some "by_order"), "by_order", "Scale.by_order", defArgs s_Scale_by_order, defBody s_Scale_by_order, defScope s_Scale_by_order, [], []⟩
def d_Scale_pick_of : He.DefD := ⟨("Scale", some "pick_of"), "pick_of", "Scale.pick_of", defArgs s_Scale_pick_of, defBody s_Scale_pick_of, defScope s_Scale_pick_of, [], []⟩
def d_Scale_of : He.DefD := ⟨("Scale", some "of"), "of", "Scale.of", defArgs s_Scale_of, defBody s_Scale_of, defScope s_Scale_of, [], []⟩
def d_worths_of : He.DefD := ⟨("worths_of", none), "worths_of", "worths_of", defArgs s_worths_of, defBody s_worths_of, defScope s_worths_of, [], []⟩
def d_all_worths : He.DefD := ⟨("all_worths", none), "all_worths", "all_worths", defArgs s_all_worths, defBody s_all_worths, defScope s_all_worths, [], []⟩
def d_rows_by : He.DefD := ⟨("rows_by", none), "rows_by", "rows_by", defArgs s_rows_by, defBody s_rows_by, defScope s_rows_by, [], []⟩
def d_left_by : He.DefD := ⟨("left_by", none), "left_by", "left_by", defArgs s_left_by, defBody s_left_by, defScope s_left_by, [], []⟩
def d_Reach_init : He.DefD := ⟨("Reach", some "__init__"), "__init__", "Reach.__init__", defArgs s_Reach_init, defBody s_Reach_init, defScope s_Reach_init, [], []⟩
def d_Reach_to_things : He.DefD := ⟨("Reach", some "to_things"), "to_things", "Reach.to_things", defArgs s_Reach_to_things, defBody s_Reach_to_things, defScope s_Reach_to_things, [], []⟩
def d_Reach_to_askers : He.DefD := ⟨("Reach", some "to_askers"), "to_askers", "Reach.to_askers", defArgs s_Reach_to_askers, defBody s_Reach_to_askers, defScope s_Reach_to_askers, [], []⟩
def d_Reach_go_on : He.DefD := ⟨("Reach", some "go_on"), "go_on", "Reach.go_on", defArgs s_Reach_go_on, defBody s_Reach_go_on, defScope s_Reach_go_on, [], []⟩
def d_Reach_end_by : He.DefD := ⟨("Reach", some "end_by"), "end_by", "Reach.end_by", defArgs s_Reach_end_by, defBody s_Reach_end_by, defScope s_Reach_end_by, [], []⟩
def d_Reach_way_to : He.DefD := ⟨("Reach", some "way_to"), "way_to", "Reach.way_to", defArgs s_Reach_way_to, defBody s_Reach_way_to, defScope s_Reach_way_to, [], []⟩
def d_best_way : He.DefD := ⟨("best_way", none), "best_way", "best_way", defArgs s_best_way, defBody s_best_way, defScope s_best_way, [], []⟩
def d_dealt_best : He.DefD := ⟨("dealt_best", none), "dealt_best", "dealt_best", defArgs s_dealt_best, defBody s_dealt_best, defScope s_dealt_best, [], []⟩
def d_Prices_init : He.DefD := ⟨("Prices", some "__init__"), "__init__", "Prices.__init__", defArgs s_Prices_init, defBody s_Prices_init, defScope s_Prices_init, [], []⟩
def d_Prices_rest : He.DefD := ⟨("Prices", some "rest"), "rest", "Prices.rest", defArgs s_Prices_rest, defBody s_Prices_rest, defScope s_Prices_rest, [], []⟩
def d_Prices_chain : He.DefD := ⟨("Prices", some "chain"), "chain", "Prices.chain", defArgs s_Prices_chain, defBody s_Prices_chain, defScope s_Prices_chain, [], []⟩
def d_Prices_way_by : He.DefD := ⟨("Prices", some "way_by"), "way_by", "Prices.way_by", defArgs s_Prices_way_by, defBody s_Prices_way_by, defScope s_Prices_way_by, [], []⟩
def d_Prices_raised_by : He.DefD := ⟨("Prices", some "raised_by"), "raised_by", "Prices.raised_by", defArgs s_Prices_raised_by, defBody s_Prices_raised_by, defScope s_Prices_raised_by, [], []⟩
def d_Prices_settle : He.DefD := ⟨("Prices", some "settle"), "settle", "Prices.settle", defArgs s_Prices_settle, defBody s_Prices_settle, defScope s_Prices_settle, [], []⟩
def d_Prices_told : He.DefD := ⟨("Prices", some "told"), "told", "Prices.told", defArgs s_Prices_told, defBody s_Prices_told, defScope s_Prices_told, [], []⟩
def d_best_dealing : He.DefD := ⟨("best_dealing", none), "best_dealing", "best_dealing", defArgs s_best_dealing, defBody s_best_dealing, defScope s_best_dealing, [], []⟩
def d_met_arcs : He.DefD := ⟨("met_arcs", none), "met_arcs", "met_arcs", defArgs s_met_arcs, defBody s_met_arcs, defScope s_met_arcs, [], []⟩
def d_led_to : He.DefD := ⟨("led_to", none), "led_to", "led_to", defArgs s_led_to, defBody s_led_to, defScope s_led_to, [], []⟩
def d_places_of : He.DefD := ⟨("places_of", none), "places_of", "places_of", defArgs s_places_of, defBody s_places_of, defScope s_places_of, [], []⟩
def d_strict_paper : He.DefD := ⟨("strict_paper", none), "strict_paper", "strict_paper", defArgs s_strict_paper, defBody s_strict_paper, defScope s_strict_paper, [], []⟩
def d_moved_round : He.DefD := ⟨("moved_round", none), "moved_round", "moved_round", defArgs s_moved_round, defBody s_moved_round, defScope s_moved_round, [], []⟩
def d_tight_wishes : He.DefD := ⟨("tight_wishes", none), "tight_wishes", "tight_wishes", defArgs s_tight_wishes, defBody s_tight_wishes, defScope s_tight_wishes, [], []⟩
def d_has_dealt : He.DefD := ⟨("has_dealt", none), "has_dealt", "has_dealt", defArgs s_has_dealt, defBody s_has_dealt, defScope s_has_dealt, [], []⟩
def d_has_left : He.DefD := ⟨("has_left", none), "has_left", "has_left", defArgs s_has_left, defBody s_has_left, defScope s_has_left, [], []⟩
def d_web_of : He.DefD := ⟨("web_of", none), "web_of", "web_of", defArgs s_web_of, defBody s_web_of, defScope s_web_of, [], []⟩
def d_ledger_of : He.DefD := ⟨("ledger_of", none), "ledger_of", "ledger_of", defArgs s_ledger_of, defBody s_ledger_of, defScope s_ledger_of, [], []⟩
def d_lets_ledger : He.DefD := ⟨("lets_ledger", none), "lets_ledger", "lets_ledger", defArgs s_lets_ledger, defBody s_lets_ledger, defScope s_lets_ledger, [], []⟩
def d_opened : He.DefD := ⟨("opened", none), "opened", "opened", defArgs s_opened, defBody s_opened, defScope s_opened, [], []⟩
def d_how_many : He.DefD := ⟨("how_many", none), "how_many", "how_many", defArgs s_how_many, defBody s_how_many, defScope s_how_many, [], []⟩
def d_numbered : He.DefD := ⟨("numbered", none), "numbered", "numbered", defArgs s_numbered, defBody s_numbered, defScope s_numbered, [], []⟩
def d_number_of : He.DefD := ⟨("number_of", none), "number_of", "number_of", defArgs s_number_of, defBody s_number_of, defScope s_number_of, [], []⟩
def d_shares : He.DefD := ⟨("shares", none), "shares", "shares", defArgs s_shares, defBody s_shares, defScope s_shares, [], []⟩
def d_all_best : He.DefD := ⟨("all_best", none), "all_best", "all_best", defArgs s_all_best, defBody s_all_best, defScope s_all_best, [], []⟩
def d_orders_part : He.DefD := ⟨("orders_part", none), "orders_part", "orders_part", defArgs s_orders_part, defBody s_orders_part, defScope s_orders_part, [], []⟩
def d_law_cell_at : He.DefD := ⟨("_law_cell_at", none), "_law_cell_at", "_law_cell_at", defArgs s_law_cell_at, defBody s_law_cell_at, defScope s_law_cell_at, [], []⟩
def d_law_numbers : He.DefD := ⟨("_law_numbers", none), "_law_numbers", "_law_numbers", defArgs s_law_numbers, defBody s_law_numbers, defScope s_law_numbers, [], []⟩
def d_law_wishes : He.DefD := ⟨("_law_wishes", none), "_law_wishes", "_law_wishes", defArgs s_law_wishes, defBody s_law_wishes, defScope s_law_wishes, [], []⟩
def d_law_rank : He.DefD := ⟨("_law_rank", none), "_law_rank", "_law_rank", defArgs s_law_rank, defBody s_law_rank, defScope s_law_rank, [], []⟩
def d_law_longest : He.DefD := ⟨("_law_longest", none), "_law_longest", "_law_longest", defArgs s_law_longest, defBody s_law_longest, defScope s_law_longest, [], []⟩
def d_law_wished : He.DefD := ⟨("_law_wished", none), "_law_wished", "_law_wished", defArgs s_law_wished, defBody s_law_wished, defScope s_law_wished, [], []⟩
def d_law_counts : He.DefD := ⟨("_law_counts", none), "_law_counts", "_law_counts", defArgs s_law_counts, defBody s_law_counts, defScope s_law_counts, [], []⟩
def d_law_worth : He.DefD := ⟨("_law_worth", none), "_law_worth", "_law_worth", defArgs s_law_worth, defBody s_law_worth, defScope s_law_worth, [], []⟩
def d_law_whole : He.DefD := ⟨("_law_whole", none), "_law_whole", "_law_whole", defArgs s_law_whole, defBody s_law_whole, defScope s_law_whole, [], []⟩
def d_law_bests : He.DefD := ⟨("_law_bests", none), "_law_bests", "_law_bests", defArgs s_law_bests, defBody s_law_bests, defScope s_law_bests, [], []⟩
def d_law_is_whole : He.DefD := ⟨("_law_is_whole", none), "_law_is_whole", "_law_is_whole", defArgs s_law_is_whole, defBody s_law_is_whole, defScope s_law_is_whole, [], []⟩
def d_law_is_dealing : He.DefD := ⟨("_law_is_dealing", none), "_law_is_dealing", "_law_is_dealing", defArgs s_law_is_dealing, defBody s_law_is_dealing, defScope s_law_is_dealing, [], []⟩
def d_law_proper : He.DefD := ⟨("_law_proper", none), "_law_proper", "_law_proper", defArgs s_law_proper, defBody s_law_proper, defScope s_law_proper, [], []⟩
def d_law_shown_best : He.DefD := ⟨("_law_shown_best", none), "_law_shown_best", "_law_shown_best", defArgs s_law_shown_best, defBody s_law_shown_best, defScope s_law_shown_best, [], []⟩
def d_law_refused : He.DefD := ⟨("_law_refused", none), "_law_refused", "_law_refused", defArgs s_law_refused, defBody s_law_refused, defScope s_law_refused, [], []⟩
def d_law_odd : He.DefD := ⟨("_law_odd", none), "_law_odd", "_law_odd", defArgs s_law_odd, defBody s_law_odd, defScope s_law_odd, [], []⟩
def d_law_asked : He.DefD := ⟨("_law_asked", none), "_law_asked", "_law_asked", defArgs s_law_asked, defBody s_law_asked, defScope s_law_asked, [], []⟩
def d_law_door : He.DefD := ⟨("_law_door", none), "_law_door", "_law_door", defArgs s_law_door, defBody s_law_door, defScope s_law_door, [], []⟩
def d_law_doors : He.DefD := ⟨("_law_doors", none), "_law_doors", "_law_doors", defArgs s_law_doors, defBody s_law_doors, defScope s_law_doors, [], []⟩
def d_law_due : He.DefD := ⟨("_law_due", none), "_law_due", "_law_due", defArgs s_law_due, defBody s_law_due, defScope s_law_due, [], []⟩
def d_law_told : He.DefD := ⟨("_law_told", none), "_law_told", "_law_told", defArgs s_law_told, defBody s_law_told, defScope s_law_told, [], []⟩
def d_law_block : He.DefD := ⟨("_law_block", none), "_law_block", "_law_block", defArgs s_law_block, defBody s_law_block, defScope s_law_block, [], []⟩
def d_law : He.DefD := ⟨("law", none), "law", "law", defArgs s_law, defBody s_law, defScope s_law, [], []⟩
def fn : List He.DefD := [d_is_whole, d_NoWishes_init, d_NoAim_init, d_need_row, d_is_many, d_is_thing, d_are_ranks, d_look_at_wishes, d_longest, d_rank_among, d_counts_of, d_copies_left, d_is_order, d_is_old, d_are_turns, d_fault_of, d_look_at_aim, d_powers_of, d_Scale_init, d_Scale_by_order, d_Scale_pick_of, d_Scale_of, d_worths_of, d_all_worths, d_rows_by, d_left_by, d_Reach_init, d_Reach_to_things, d_Reach_to_askers, d_Reach_go_on, d_Reach_end_by, d_Reach_way_to, d_best_way, d_dealt_best, d_Prices_init, d_Prices_rest, d_Prices_chain, d_Prices_way_by, d_Prices_raised_by, d_Prices_settle, d_Prices_told, d_best_dealing, d_met_arcs, d_led_to, d_places_of, d_strict_paper, d_moved_round, d_tight_wishes, d_has_dealt, d_has_left, d_web_of, d_ledger_of, d_lets_ledger, d_opened, d_how_many, d_numbered, d_number_of, d_shares, d_all_best, d_orders_part, d_law_cell_at, d_law_numbers, d_law_wishes, d_law_rank, d_law_longest, d_law_wished, d_law_counts, d_law_worth, d_law_whole, d_law_bests, d_law_is_whole, d_law_is_dealing, d_law_proper, d_law_shown_best, d_law_refused, d_law_odd, d_law_asked, d_law_door, d_law_doors, d_law_due, d_law_told, d_law_block, d_law]
def fa : List He.Fa := [.glo "is_whole", .glo "need_row", .glo "is_many", .glo "is_thing", .glo "are_ranks", .glo "look_at_wishes", .glo "longest", .glo "rank_among", .glo "counts_of", .glo "copies_left", .glo "is_order", .glo "is_old", .glo "are_turns", .glo "fault_of", .glo "look_at_aim", .glo "powers_of", .glo "worths_of", .glo "all_worths", .glo "rows_by", .glo "left_by", .glo "best_way", .glo "dealt_best", .glo "best_dealing", .glo "met_arcs", .glo "led_to", .glo "places_of", .glo "strict_paper", .glo "moved_round", .glo "tight_wishes", .glo "has_dealt", .glo "has_left", .glo "web_of", .glo "ledger_of", .glo "lets_ledger", .glo "opened", .glo "how_many", .glo "numbered", .glo "number_of", .glo "shares", .glo "all_best", .glo "orders_part", .glo "_law_cell_at", .glo "_law_numbers", .glo "_law_wishes", .glo "_law_rank", .glo "_law_longest", .glo "_law_wished", .glo "_law_counts", .glo "_law_worth", .glo "_law_whole", .glo "_law_bests", .glo "_law_is_whole", .glo "_law_is_dealing", .glo "_law_proper", .glo "_law_shown_best", .glo "_law_refused", .glo "_law_odd", .glo "_law_asked", .glo "_law_door", .glo "_law_doors", .glo "_law_due", .glo "_law_told", .glo "_law_block", .glo "law", .glo "DealError", .glo "NoWishes", .glo "NoAim", .glo "NoPlace", .glo "TooMany", .glo "Scale", .glo "Reach", .glo "Prices", .free "isinstance", .free "int", .free "bool", .free "list", .free "tuple", .free "str", .free "len", .free "max", .free "min", .free "sum", .free "sorted", .free "all", .free "range", .free "enumerate", .free "zip", .free "repr", .int "MOST_THINGS" 6, .int "MOST_COPIES" 7, .int "MOST_ASKERS" 7, .int "MOST_RANKS" 5, .cls "Scale", .mkr "Scale", .meth "Scale" "__init__", .meth "Scale" "by_order", .meth "Scale" "pick_of", .meth "Scale" "of", .cls "Reach", .mkr "Reach", .meth "Reach" "__init__", .meth "Reach" "to_things", .meth "Reach" "to_askers", .meth "Reach" "go_on", .meth "Reach" "end_by", .meth "Reach" "way_to", .cls "Prices", .mkr "Prices", .meth "Prices" "__init__", .meth "Prices" "rest", .meth "Prices" "chain", .meth "Prices" "way_by", .meth "Prices" "raised_by", .meth "Prices" "settle", .meth "Prices" "told", .noat "Scale" "order", .noat "Scale" "old", .noat "Scale" "turns", .noat "Scale" "base", .noat "Scale" "ranks", .noat "Scale" "steps", .noat "Scale" "picks", .noat "Reach" "rows", .noat "Reach" "dealt", .noat "Reach" "start", .noat "Reach" "freed", .noat "Reach" "taken", .noat "Reach" "takers", .noat "Prices" "rows", .noat "Prices" "dealt", .noat "Prices" "left", .noat "Prices" "prices", .noat "Prices" "raisers", .noat "NoWishes" "part", .noat "NoWishes" "number", .noat "NoAim" "part", .meth "NoWishes" "__init__", .meth "NoAim" "__init__"]
def lawAt : Nat := 104
def loose0 : List Str := ["is_whole", "DealError", "NoWishes", "NoAim", "NoPlace", "TooMany", "MOST_THINGS", "MOST_COPIES", "MOST_ASKERS", "MOST_RANKS", "need_row", "is_many", "is_thing", "are_ranks", "look_at_wishes", "longest", "is_row_of", "rank_among", "what_is_wrong", "counts_of", "copies_left", "is_order", "is_old", "are_turns", "fault_of", "look_at_aim", "powers_of", "Scale", "worths_of", "all_worths"]
def loose1 : List Str := ["rows_by", "left_by", "Reach", "best_way", "dealt_best", "Prices", "best_dealing", "met_arcs", "led_to", "places_of", "strict_paper", "moved_round", "tight_wishes", "has_dealt", "has_left", "web_of", "possible", "may_get", "takes_of", "leads", "ended", "lefts_of", "ledger_of", "told_by", "is_row", "is_layer", "adds_up", "lets_ledger", "opened", "how_many"]
def loose2 : List Str := ["numbered", "number_of", "reached", "shares", "MOST", "all_best", "orders_part", "_law_cell_at", "_law_numbers", "_law_wishes", "_law_rank", "_law_longest", "_law_wished", "_law_counts", "_law_worth", "_law_whole", "_law_bests", "_law_is_whole", "_law_is_dealing", "_law_proper", "_law_shown_best", "_law_refused", "_law_odd", "_law_asked", "_law_door", "_law_doors", "_law_due", "_law_told", "_law_block"]
def loose : List Str := loose0 ++ loose1 ++ loose2
end Wd
set_option Elab.async false
set_option linter.all false
set_option maxRecDepth 100000
set_option maxHeartbeats 0
namespace Wd
open PySem PySem.Spec PyProof.Rows L2
/-- what is looked at of an own error's class -/
def exB (K : PySem.W.Frag) (x : Str) : Bool := match K.lookup (He.ga K x) with
  | some ⟨.type "type", _, .cls cd, sl⟩ => (match cd.mro, sl.toList with
    | .ref c :: bm, [_, _, _, _, some (.builtin n), _] => c == He.ga K x && n == "ValueError.__new__" && cd.hasDict && !cd.hasDel && PySem.HandSPX.refsVE bm
    | _, _ => false)
  | _ => false
def exC (K : PySem.W.Frag) (x : Str) : Bool :=
  decide (PySem.W.findIn K (.ref (He.ga K x)) "__setattr__" = some (some (.builtin "object.__setattr__"))) &&
  (decide (PySem.W.subIn K (.ref (He.ga K x)) (.type "BaseException") = some true) && (decide (PySem.W.typeIn K (.ref (He.ga K x)) = some (.type "type")) && (PySem.W.keepIn K (.ref (He.ga K x)) && xfB K (He.ga K x))))
def exD (K : PySem.W.Frag) (x : Str) : Bool :=
  decide (PySem.W.findIn K (.ref (He.ga K x)) "__class__" = some (some (.builtin "object.__class__"))) &&
  (decide (PySem.W.specialIn K (.builtin "object.__class__") "__get__" = some (some (.builtin "getset_descriptor.__get__"))) && (decide (PySem.W.takesIn K (.builtin "object.__class__") = some true) &&
    decide (PySem.W.mroIn K (He.ga K x) (.type "object") = some true)))
def exI (K : PySem.W.Frag) (x y : Str) (b : Bool) : Bool := decide (PySem.W.kitOne K (.ref (He.ga K x)) (.ref (He.ga K y)) = some b) && decide (PySem.W.exmOne K (.ref (He.ga K x)) (.ref (He.ga K y)) = some b)
def clB (K : PySem.W.Frag) (x : Str) : Bool := match PySem.W.findCls K (.ref (He.ga K x)) (.type "type") "__init__" with
  | some (.val (.builtin n)) => n == "ValueError.__init__"
  | _ => false
def exA (K : PySem.W.Frag) : Bool := exB K "NoWishes" && (exB K "NoAim" && (exC K "NoWishes" && (exC K "NoAim" && (exD K "NoWishes" && (exD K "NoAim" &&
  (exI K "NoAim" "NoAim" true && (exI K "NoWishes" "NoAim" false && (exI K "NoWishes" "NoWishes" true && (exI K "NoAim" "NoWishes" false && (exI K "NoWishes" "DealError" true &&
  (clB K "DealError" && (PySem.W.readsIn K (He.ga K "DealError") (.type "type") && (decide (PySem.W.specialIn K (.ref (He.ga K "DealError")) "__getattribute__" = some (some (.builtin "type.__getattribute__"))) && decide (PySem.W.typeIn K (.ref (He.ga K "DealError")) = some (.type "type")))))))))))))))
/-- what is reached from the module's names, level by level, each level told once -/
def lvl (g : Addr → Option Obj) (as : List Addr) : List Addr := as.flatMap fun a => match g a with
  | some o => He.refsD o
  | none => []
def asM (g : Addr → Option Obj) : List Addr :=
  let a1 := lvl g [mainGlobals]
  let a2 := lvl g a1
  let a3 := lvl g a2
  mainGlobals :: cStatics :: (a1 ++ (a2 ++ (a3 ++ lvl g a3)))
def obD (g : Addr → Option Obj) : He.AlD := He.obsD fa fn (He.frG g (asM g))
abbrev AlM : Type := He.AlD × Bool
def hookM : PySem.W.Hook where
  α := AlM
  obs := fun s => (obD s.heap.get?, exA (He.frG s.heap.get? (asM s.heap.get?)))
  val := fun _ => (He.valD fn, true)
  says := fun _ h => ∃ K : PySem.W.Frag, K.In h ∧ He.SaysD fa fn K ∧ exA K = true
  of := fun _ _ e => ⟨_, He.frG_in, congrArg (fun z : AlM => z.1) e, congrArg (fun z : AlM => z.2) e⟩
  keeps := fun _ _ _ ⟨K, hK, c⟩ k => ⟨K, PySem.W.Frag.In.keeps hK k, c⟩
def obM (s : PySem.W.SharedT) : AlM := (obD (HandSHeadRun.getT s), exA (He.frG (HandSHeadRun.getT s) (asM (HandSHeadRun.getT s))))
theorem obM_eq (s : PySem.W.SharedT) : obM s = hookM.obs s.abs := by
  have e : HandSHeadRun.getT s = s.abs.heap.get? := funext fun a => HandSHeadRun.getT_eq s a
  unfold obM
  rw [e] <;> rfl
abbrev R : PySem.W.OpenRow := PySem.W.OpenLaw.row PySem.Challenge.rw_wishdeal_k70_whole_orders_part
end Wd
set_option Elab.async false
set_option linter.all false
set_option maxRecDepth 100000
set_option maxHeartbeats 0
namespace Wd
open PySem PySem.Spec PyProof.Rows L2
theorem run (w : World) : HandSHeadRun.RunEq R (PySem.W.view R.prog [lawAt]) hookM obM 9000 loose w := by
  intro os
  kernel_rfl
end Wd
set_option Elab.async false
set_option linter.all false
set_option maxRecDepth 100000
set_option maxHeartbeats 4000000
/-! Own words over the layer: what stands, what is new, what is owned; values; loops. -/
namespace Wd
open PySem PySem.Spec PyProof.Rows L2
abbrev Frg := PySem.W.Frag
/-! ### heaps -/
theorem same_rd {H H' : Hp} (e : Same H H') {a : Addr} {u : HO} (h : Rd H a u) : Rd H' a u := by
  rcases h with h | ⟨o, h⟩
  · exact .inl (e _ _ h)
  · exact .inr ⟨o, e _ _ h⟩
/-- what is read in the one is read in the other -/
def Le (H H' : Hp) : Prop := ∀ a u, Rd H a u → Rd H' a u
theorem Le.refl (H : Hp) : Le H H := fun _ _ h => h
theorem Le.trans {H H1 H2 : Hp} (a : Le H H1) (b : Le H1 H2) : Le H H2 := fun x u h => b x u (a x u h)
theorem Le.of {H H' : Hp} (e : Same H H') : Le H H' := fun _ _ h => same_rd e h
theorem Le.l {K : Frg} {H H' : Hp} (e : Le H H') {a : Addr} {xs : List V} (h : SqL K H a xs) : SqL K H' a xs := by
  rcases h with h | h
  · exact .inl (e _ _ h)
  · exact .inr h
theorem Le.t {K : Frg} {H H' : Hp} (e : Le H H') {a : Addr} {xs : List V} (h : SqT K H a xs) : SqT K H' a xs := by
  rcases h with h | h
  · exact .inl (e _ _ h)
  · exact .inr h
theorem same_new {H : Hp} {p : Addr} {o : HO} (h : H p = none) : Same H (upd H p o) := fun b u e => by
  rw [upd_ne (ne_of_none e h)]
  exact e
/-- a thing that the first did not know may change -/
theorem same_mut {H H' : Hp} {p : Addr} {o : HO} (e : Same H H') (h : H p = none) : Same H (upd H' p o) := fun b u q => by
  rw [upd_ne (ne_of_none q h)]
  exact e b u q
/-- two heaps in one, the second one first -/
def mrg (N M : Hp) : Hp := fun a => match M a with
  | some o => some o
  | none => N a
theorem mrg_r {N M : Hp} : Same M (mrg N M) := fun a o h => by
  unfold mrg
  rw [h]
/-- the things of M stand in H' and were not in H -/
def NewIn (H N H' : Hp) : Prop := ∀ a o, N a = some o → H' a = some o ∧ H a = none
theorem NewIn.nil {H H' : Hp} : NewIn H (fun _ => none) H' := fun a o h => by
  have h' : (none : Option HO) = some o := h
  cases h'
/-- from the entry H0: N what was made and stays, L what was made and may be changed -/
structure Sx (H0 N H : Hp) (L : List (Addr × HO)) : Prop where
  old : Same H0 H
  new : NewIn H0 N H
  own : ∀ p ∈ L, H p.1 = some p.2 ∧ H0 p.1 = none ∧ N p.1 = none
  nd : (L.map (·.1)).Nodup
section
variable {H0 N M H H' : Hp} {L : List (Addr × HO)} {p : Addr} {o o' : HO} {i : Nat}
theorem Sx.start (H : Hp) : Sx H (fun _ => none) H [] := ⟨Same.refl H, NewIn.nil, (fun _ h => nomatch h), List.nodup_nil⟩
theorem Sx.sn (S : Sx H0 N H L) : Same N H := fun a o h => (S.new a o h).1
theorem Sx.lo (S : Sx H0 N H L) : Le H0 H := Le.of S.old
theorem Sx.ln (S : Sx H0 N H L) : Le N H := Le.of S.sn
theorem Sx.at (S : Sx H0 N H L) (i : Nat) (h : L[i]? = some (p, o) := by rfl) : H p = some o := (S.own _ (List.mem_of_getElem? h)).1
theorem Sx.at0 (S : Sx H0 N H L) (i : Nat) (h : L[i]? = some (p, o) := by rfl) : H0 p = none := (S.own _ (List.mem_of_getElem? h)).2.1
theorem Sx.atN (S : Sx H0 N H L) (i : Nat) (h : L[i]? = some (p, o) := by rfl) : N p = none := (S.own _ (List.mem_of_getElem? h)).2.2
theorem Sx.mem (S : Sx H0 N H L) (h : (p, o) ∈ L) : H p = some o := (S.own _ h).1
theorem Sx.free0 (S : Sx H0 N H L) (h : H p = none) : H0 p = none := S.old.free h
theorem Sx.freeN (S : Sx H0 N H L) (h : H p = none) : N p = none := S.sn.free h
theorem Sx.noL (S : Sx H0 N H L) (h : H p = none) : ∀ q ∈ L, q.1 ≠ p := fun q hq e => by
  have := (S.own q hq).1
  rw [e, h] at this
  cases this
/-- the heap has grown -/
theorem Sx.grow (S : Sx H0 N H L) (e : Same H H') : Sx H0 N H' L :=
  ⟨S.old.trans e, fun a o h => ⟨e _ _ (S.new a o h).1, (S.new a o h).2⟩, fun q hq => ⟨e _ _ (S.own q hq).1, (S.own q hq).2⟩, S.nd⟩
/-- a new thing, owned -/
theorem Sx.add (S : Sx H0 N H L) (hp : H p = none) (e : Same H H') (h : H' p = some o) : Sx H0 N H' ((p, o) :: L) := by
  have S' := S.grow e
  refine ⟨S'.old, S'.new, fun q hq => ?_, ?_⟩
  · rcases List.mem_cons.mp hq with rfl | hq
    · exact ⟨h, S.free0 hp, S.freeN hp⟩
    · exact S'.own q hq
  · rw [List.map_cons]
    refine List.nodup_cons.mpr ⟨fun m => ?_, S.nd⟩
    obtain ⟨q, hq, e2⟩ := List.mem_map.mp m
    exact S.noL hp q hq e2
theorem Sx.new1 (S : Sx H0 N H L) (hp : H p = none) : Sx H0 N (upd H p o) ((p, o) :: L) := S.add hp (same_new hp) upd_same
/-- an owned thing is changed -/
theorem Sx.put (S : Sx H0 N H L) (i : Nat) (h : L[i]? = some (p, o) := by rfl) : Sx H0 N (upd H p o') (L.set i (p, o')) := by
  have hm := List.mem_of_getElem? h
  have h0 := (S.own _ hm).2.1
  have hN := (S.own _ hm).2.2
  have hl : i < L.length := (List.getElem?_eq_some_iff.mp h).1
  have ek : (L.set i (p, o')).map (·.1) = L.map (·.1) := by
    rw [List.map_set]
    refine List.ext_getElem? fun j => ?_
    rw [List.getElem?_set]
    by_cases hj : i = j
    · subst hj
      rw [if_pos rfl, if_pos (by rw [List.length_map]; exact hl), List.getElem?_map, h]
      rfl
    · rw [if_neg hj]
  refine ⟨same_mut S.old h0, fun a u ha => ⟨?_, (S.new a u ha).2⟩, fun q hq => ?_, by rw [ek]; exact S.nd⟩
  · rw [upd_ne (ne_of_none ha hN)]
    exact (S.new a u ha).1
  · obtain ⟨j, hj⟩ := List.mem_iff_getElem?.mp hq
    rw [List.getElem?_set] at hj
    by_cases e : i = j
    · subst e
      rw [if_pos rfl, if_pos hl] at hj
      cases hj
      exact ⟨upd_same, h0, hN⟩
    · rw [if_neg e] at hj
      have ho := S.own q (List.mem_of_getElem? hj)
      have ne : q.1 ≠ p := fun z => by
        have h1 : (L.map (·.1))[i]? = some p := by rw [List.getElem?_map, h]; rfl
        have h2 : (L.map (·.1))[j]? = some p := by rw [List.getElem?_map, hj, ← z]; rfl
        obtain ⟨l1, e1⟩ := List.getElem?_eq_some_iff.mp h1
        obtain ⟨l2, e2⟩ := List.getElem?_eq_some_iff.mp h2
        exact e ((List.getElem_inj S.nd).mp (e1.trans e2.symm))
      exact ⟨by rw [upd_ne ne]; exact ho.1, ho.2⟩
/-- behind a call that changes nothing of ours and makes M -/
theorem Sx.call (S : Sx H0 N H L) (e : Same H H') (n : NewIn H M H') : Sx H0 (mrg N M) H' L := by
  have S' := S.grow e
  refine ⟨S'.old, fun a o h => ?_, fun q hq => ⟨(S'.own q hq).1, (S'.own q hq).2.1, ?_⟩, S.nd⟩
  · unfold mrg at h
    cases hm : M a with
    | some u =>
      rw [hm] at h
      cases h
      exact ⟨(n a _ hm).1, S.free0 (n a _ hm).2⟩
    | none =>
      rw [hm] at h
      exact S'.new a o h
  · have h1 := (S.own q hq).1
    have h2 : M q.1 = none := by
      cases hm : M q.1 with
      | none => rfl
      | some u =>
        have := (n _ _ hm).2
        rw [h1] at this
        cases this
    unfold mrg
    rw [h2]
    exact (S.own q hq).2.2
theorem Sx.sameN (S : Sx H0 N H L) (n : NewIn H M H') : Same N (mrg N M) := fun a o h => by
  have h1 := (S.new a o h).1
  have h2 : M a = none := by
    cases hm : M a with
    | none => rfl
    | some u =>
      have := (n _ _ hm).2
      rw [h1] at this
      cases this
  unfold mrg
  rw [h2]
  exact h
/-- an owned thing stays as it is from here on -/
theorem Sx.fz (S : Sx H0 N H ((p, o) :: L)) : Sx H0 (upd N p o) H L := by
  have h := S.own _ List.mem_cons_self
  have nd : (p :: L.map (·.1)).Nodup := S.nd
  obtain ⟨n1, n2⟩ := List.nodup_cons.mp nd
  refine ⟨S.old, fun a u q => ?_, fun q hq => ?_, n2⟩
  · by_cases e : a = p
    · subst e
      rw [upd_same] at q
      cases q
      exact ⟨h.1, h.2.1⟩
    · rw [upd_ne e] at q
      exact S.new a u q
  · have ho := S.own q (List.mem_cons_of_mem _ hq)
    have ne : q.1 ≠ p := fun z => n1 (List.mem_map.mpr ⟨q, hq, z⟩)
    exact ⟨ho.1, ho.2.1, by rw [upd_ne ne]; exact ho.2.2⟩
theorem Sx.fzN (S : Sx H0 N H ((p, o) :: L)) : Same N (upd N p o) := same_new (S.own _ List.mem_cons_self).2.2
theorem Sx.drop (S : Sx H0 N H ((p, o) :: L)) : Sx H0 N H L :=
  ⟨S.old, S.new, fun q hq => S.own q (List.mem_cons_of_mem _ hq), (List.nodup_cons.mp (show (p :: L.map (·.1)).Nodup from S.nd)).2⟩
theorem Sx.sub {L' : List (Addr × HO)} (S : Sx H0 N H L) (h : L'.Sublist L) : Sx H0 N H L' :=
  ⟨S.old, S.new, fun q hq => S.own q (h.subset hq), S.nd.sublist (h.map _)⟩
theorem Sx.perm {L' : List (Addr × HO)} (S : Sx H0 N H L) (h : L.Perm L') : Sx H0 N H L' :=
  ⟨S.old, S.new, fun q hq => S.own q (h.symm.subset hq), (h.map _).nodup S.nd⟩
end
/-! ### promises: a value, a thing made -/
/-- a value comes back, the heap has grown -/
def RetG (v : V) (H : Hp) (Q : VK) : Prop := ∀ H', Same H H' → Q v H'
/-- a value made of new things, of which F holds -/
def RetN (F : Hp → V → Prop) (H : Hp) (Q : VK) : Prop := ∀ v H' N, Same H H' → NewIn H N H' → F N v → Q v H'
/-! ### values -/
abbrev vn (n : Nat) : V := .int (n : Int)
def vo : Option Nat → V
  | none => .non
  | some n => vn n
section
variable {K : Frg} {σ : L2.St} {H : Hp} {ta tb te : TE} {x y v : V}
theorem vl_add {i j : Int} (ha : Val ta σ H (.int i)) (hb : Val tb σ H (.int j)) : Val (tOp (rI0 fun i j => .int (i + j)) ta tb) σ H (.int (i + j)) := fun Q q => ha _ (hb _ ⟨i, j, rfl, rfl, q⟩)
theorem vl_sub {i j : Int} (ha : Val ta σ H (.int i)) (hb : Val tb σ H (.int j)) : Val (tOp (rI0 fun i j => .int (i - j)) ta tb) σ H (.int (i - j)) := fun Q q => ha _ (hb _ ⟨i, j, rfl, rfl, q⟩)
theorem vl_mul {i j : Int} (ha : Val ta σ H (.int i)) (hb : Val tb σ H (.int j)) (hc : CMul i j) : Val (tOp (rI CMul fun i j => .int (i * j)) ta tb) σ H (.int (i * j)) := fun Q q => ha _ (hb _ ⟨i, j, rfl, rfl, hc, q⟩)
theorem vl_ixL {p : Addr} {xs : List V} {i : Int} (ha : Val ta σ H (.ref p)) (hb : Val tb σ H (.int i)) (h : SqL K H p xs) (hi : atI xs i = some v) : Val (tOp (rIxL K) ta tb) σ H v := fun Q q => ha _ (hb _ ⟨p, xs, i, v, rfl, rfl, h, hi, q⟩)
theorem vl_ixT {p : Addr} {xs : List V} {i : Int} (ha : Val ta σ H (.ref p)) (hb : Val tb σ H (.int i)) (h : SqT K H p xs) (hi : atI xs i = some v) : Val (tOp (rIxT K) ta tb) σ H v := fun Q q => ha _ (hb _ ⟨p, xs, i, v, rfl, rfl, h, hi, q⟩)
theorem vl_len {p : Addr} {xs : List V} {n : Nat} (ha : Val ta σ H (.ref p)) (h : SqL K H p xs ∨ SqT K H p xs) (hn : xs.length = n) :
    Val (tCB (fun xs H Q => ∃ p ys, xs = [.ref p] ∧ (SqL K H p ys ∨ SqT K H p ys) ∧ Q (.int ys.length) H) (tCons ta tNil)) σ H (vn n) := fun Q q => ha _ ⟨p, xs, rfl, h, by rw [hn]; exact q⟩
theorem vl_fld {a C dx : Addr} {fs : List (Str × V)} {f : Str} (ha : Val ta σ H (.ref a)) (h : H a = some (.ins C dx fs)) (hc : Cls K C) (hn : NoAttr K C f) (hl : fs.lookup f = some v) : Val (tFld K ta f) σ H v := val_fld ha h hc hn hl
theorem vl_eq {b : Bool} (ha : Val ta σ H x) (hb : Val tb σ H y) (hs : scal x y = true) (hd : decide (x = y) = b) : Val (tOp rEq ta tb) σ H (.bl b) := fun Q q => ha _ (hb _ ⟨hs, by rw [hd]; exact q⟩)
theorem vl_ne {b : Bool} (ha : Val ta σ H x) (hb : Val tb σ H y) (hs : scal x y = true) (hd : (!decide (x = y)) = b) : Val (tOp rNe ta tb) σ H (.bl b) := fun Q q => ha _ (hb _ ⟨hs, by rw [hd]; exact q⟩)
theorem vl_cmp {i j : Int} {b : Bool} {f : Int → Int → Bool} (ha : Val ta σ H (.int i)) (hb : Val tb σ H (.int j)) (hd : f i j = b) : Val (tOp (rI0 fun i j => .bl (f i j)) ta tb) σ H (.bl b) := fun Q q => ha _ (hb _ ⟨i, j, rfl, rfl, by show Q (.bl (f i j)) H; rw [hd]; exact q⟩)
theorem vl_isN {b : Bool} (ha : Val ta σ H x) (hd : decide (x = .non) = b) : Val (tOp (fun x y H Q => y = .non ∧ Q (.bl (decide (x = .non))) H) ta (tC .non)) σ H (.bl b) := fun Q q => ha _ ⟨rfl, by rw [hd]; exact q⟩
theorem vl_notN {b : Bool} (ha : Val ta σ H x) (hd : (!decide (x = .non)) = b) : Val (tOp (fun x y H Q => y = .non ∧ Q (.bl (!decide (x = .non))) H) ta (tC .non)) σ H (.bl b) := fun Q q => ha _ ⟨rfl, by rw [hd]; exact q⟩
theorem vl_inL {neg b : Bool} {p : Addr} {xs : List V} (ha : Val ta σ H x) (hb : Val tb σ H (.ref p)) (h : SqL K H p xs) (hx : flatV x = true) (hf : xs.all flatV = true) (hd : (if neg then !inV x xs else inV x xs) = b) : Val (tOp (rIn K neg) ta tb) σ H (.bl b) := fun Q q => ha _ (hb _ ⟨p, xs, rfl, .inl h, hx, hf, by rw [hd]; exact q⟩)
theorem vl_dget {a : Addr} (ha : Val ta σ H (.ref a)) (hb : Val tb σ H y) (h : DGet H a y (some v)) : Val (tDGet ta tb) σ H v := fun Q q => ha _ (hb _ ⟨a, v, rfl, h, q⟩)
theorem vl_din {a : Addr} {o : Option V} {b : Bool} (hb : Val tb σ H y) (ha : Val ta σ H (.ref a)) (h : DGet H a y o) (hd : o.isSome = b) : Val (tDIn tb ta) σ H (.bl b) := fun Q q => hb _ (ha _ ⟨a, o, rfl, h, by rw [hd]; exact q⟩)
theorem vl_dnot {a : Addr} {o : Option V} {b : Bool} (hb : Val tb σ H y) (ha : Val ta σ H (.ref a)) (h : DGet H a y o) (hd : (!o.isSome) = b) : Val (tDNotIn tb ta) σ H (.bl b) := fun Q q => hb _ (ha _ ⟨a, o, rfl, h, by rw [hd]; exact q⟩)
theorem an_val {b : Bool} (h : Val te σ H (.bl b)) : Ans (tB te) σ H b := ans_val h
theorem an_test {b : Bool} (h : Val te σ H (.bl b)) : Ans (tTest te) σ H b := fun Q q => h _ ⟨b, rfl, q⟩
end
/-! ### loops -/
section
variable {K : Frg} {σ : L2.St} {H : Hp} {tl te : TE} {ta : TA} {tb : TS} {D : Ends} {g : TG}
theorem w_forL {a : Addr} {xs : List V} {j : Nat} (h : Val tl σ H (.ref a)) (hx : SqL K H a xs) (Pv : Nat → L2.St → Hp → Prop) (h0 : Pv 0 σ H) (hl : ∀ i σ' H', i ≤ xs.length → Pv i σ' H' → SqL K H' a xs)
    (hs : ∀ i x σ' H', xs[i]? = some x → Pv i σ' H' → tb { D with nx := Pv (i + 1), ct := Pv (i + 1), bk := D.nx } (σ'.set j (some x)) H') (hd : ∀ σ' H', Pv xs.length σ' H' → D.nx σ' H') : tFor (iList K tl) (gName j) tb D σ H :=
  h _ ⟨a, rfl, ⟨xs, hx⟩, for_list Pv h0 hl (fun i x σ' H' e p => hs i x σ' H' e p) hd⟩
theorem w_forR {j : Nat} {n : Int} (h : ∀ Q : List V → Hp → Prop, Q [.int n] H → ta σ H Q) (hn : n ≤ 1000000) (h0n : -1000000 ≤ n) (Pv : Nat → L2.St → Hp → Prop) (h0 : Pv 0 σ H)
    (hs : ∀ (i : Nat) σ' H', (i : Int) < n → Pv i σ' H' → tb { D with nx := Pv (i + 1), ct := Pv (i + 1), bk := D.nx } (σ'.set j (some (vn i))) H') (hd : ∀ σ' H', Pv n.toNat σ' H' → D.nx σ' H') : tFor (iRng1 ta) (gName j) tb D σ H := by
  refine h _ ⟨n, rfl, by omega, by omega, for_range (lo := 0) (n := n.toNat) Pv h0 (fun i σ' H' hi p => ?_) hd⟩
  have e0 : (0 : Int) + (i : Int) = (i : Int) := Int.zero_add _
  show tb _ (σ'.set j (some (.int ((0 : Int) + (i : Int))))) H'
  rw [e0]
  exact hs i σ' H' (by omega) p
/-- for i, x in enumerate(xs): the pair is a new tuple that nobody asks for -/
theorem w_forE {a : Addr} {xs : List V} {i j : Nat} (h : ∀ Q : List V → Hp → Prop, Q [.ref a] H → ta σ H Q) (hx : SqL K H a xs) (Pv : Nat → L2.St → Hp → Prop) (h0 : Pv 0 σ H) (hl : ∀ i σ' H', i ≤ xs.length → Pv i σ' H' → SqL K H' a xs)
    (hs : ∀ k x σ' H' H2, xs[k]? = some x → Pv k σ' H' → Same H' H2 → tb { D with nx := Pv (k + 1), ct := Pv (k + 1), bk := D.nx } ((σ'.set i (some (vn k))).set j (some x)) H2) (hd : ∀ σ' H', Pv xs.length σ' H' → D.nx σ' H') :
    tFor (iEnum K ta) (gTup K 2 (gCons (gName i) (gCons (gName j) gNil))) tb D σ H := by
  refine h _ ⟨a, xs, rfl, hx, for_it (walk_enum (K := K) (a := a) (xs := xs)) Pv h0 hl (fun k x σ' H' H2 hk p y => ?_) hd⟩
  obtain ⟨T, u, v, rfl, hT, rfl, e1, e2⟩ := y
  cases e1
  exact ⟨T, _, rfl, SqT.of upd_same, rfl, _, _, rfl, _, _, rfl, rfl, hs k v σ' H' _ e2 p (same_new hT)⟩
theorem w_forZ {a b : Addr} {xs ys : List V} {i j : Nat} (h : ∀ Q : List V → Hp → Prop, Q [.ref a, .ref b] H → ta σ H Q) (hx : SqL K H a xs) (hy : SqL K H b ys) (hlen : xs.length = ys.length) (Pv : Nat → L2.St → Hp → Prop) (h0 : Pv 0 σ H) (hl : ∀ i σ' H', i ≤ xs.length → Pv i σ' H' → SqL K H' a xs ∧ SqL K H' b ys)
    (hs : ∀ k x y σ' H' H2, xs[k]? = some x → ys[k]? = some y → Pv k σ' H' → Same H' H2 → tb { D with nx := Pv (k + 1), ct := Pv (k + 1), bk := D.nx } ((σ'.set i (some x)).set j (some y)) H2) (hd : ∀ σ' H', Pv xs.length σ' H' → D.nx σ' H') :
    tFor (iZip K ta) (gTup K 2 (gCons (gName i) (gCons (gName j) gNil))) tb D σ H := by
  refine h _ ⟨a, b, xs, ys, rfl, hx, hy, for_it (walk_zip (K := K) (a := a) (b := b) (xs := xs) (ys := ys) (n := xs.length) (by omega)) Pv h0 hl (fun k x σ' H' H2 hk p y => ?_) hd⟩
  obtain ⟨T, u, v, rfl, hT, rfl, e1, e2⟩ := y
  exact ⟨T, _, rfl, SqT.of upd_same, rfl, _, _, rfl, _, _, rfl, rfl, hs k u v σ' H' _ e1 e2 p (same_new hT)⟩
/-- a while: W by a measure -/
theorem w_while {c : TT} (W : Nat → L2.St → Hp → Prop) (m0 : Nat) (h0 : W m0 σ H)
    (hs : ∀ m σ' H', W m σ' H' → c σ' H' fun b H1 => if b = true then ∃ N : L2.St → Hp → Prop, (∀ σ2 H2, N σ2 H2 → ∃ m', m' < m ∧ W m' σ2 H2) ∧ tb { D with nx := N, ct := N, bk := D.nx } σ' H1 else D.nx σ' H1) : tWhile c tb D σ H := ⟨W, ⟨m0, h0⟩, hs⟩
/-- targets of two, three names -/
theorem w_tg2 {i j : Nat} {r : Addr} {x y : V} {Q : L2.St → Hp → Prop} (h : SqT K H r [x, y]) (q : Q ((σ.set i (some x)).set j (some y)) H) : gTup K 2 (gCons (gName i) (gCons (gName j) gNil)) (.ref r) σ H Q := ⟨r, _, rfl, h, rfl, _, _, rfl, _, _, rfl, rfl, q⟩
theorem w_tg3 {i j k : Nat} {r : Addr} {x y z : V} {Q : L2.St → Hp → Prop} (h : SqT K H r [x, y, z]) (q : Q (((σ.set i (some x)).set j (some y)).set k (some z)) H) : gTup K 3 (gCons (gName i) (gCons (gName j) (gCons (gName k) gNil))) (.ref r) σ H Q := ⟨r, _, rfl, h, rfl, _, _, rfl, _, _, rfl, _, _, rfl, rfl, q⟩
/-- a loop over a list, the target any -/
theorem w_forG {a : Addr} {xs : List V} (h : Val tl σ H (.ref a)) (hx : SqL K H a xs) (Pv : Nat → L2.St → Hp → Prop) (h0 : Pv 0 σ H) (hl : ∀ i σ' H', i ≤ xs.length → Pv i σ' H' → SqL K H' a xs)
    (hs : ∀ i x σ' H', xs[i]? = some x → Pv i σ' H' → g x σ' H' fun σ2 H2 => tb { D with nx := Pv (i + 1), ct := Pv (i + 1), bk := D.nx } σ2 H2) (hd : ∀ σ' H', Pv xs.length σ' H' → D.nx σ' H') : tFor (iList K tl) g tb D σ H :=
  h _ ⟨a, rfl, ⟨xs, hx⟩, for_list Pv h0 hl hs hd⟩
end
/-! ### comprehensions that make no things but their list: the item is told by place -/
section
variable {K : Frg} {σ : L2.St} {H : Hp} {tl te : TE} {ta : TA} {Q : VK} {tt : TT}
/-- the list at D of f, up to k -/
def CoAt (H : Hp) (D : Addr) (vs : Nat → V) (k : Nat) (H' : Hp) : Prop := H D = none ∧ Same H H' ∧ H' D = some (.lst ((List.range k).map vs))
theorem CoAt.one {D : Addr} {vs : Nat → V} {k : Nat} {H' H2 : Hp} (c : CoAt H D vs k H') (e : Same H' H2) : CoAt H D vs (k + 1) (upd H2 D (.lst ((List.range k).map vs ++ [vs k]))) := by
  refine ⟨c.1, same_mut (c.2.1.trans e) c.1, ?_⟩
  rw [upd_same, List.range_succ, List.map_append]
  rfl
/-- an item's value: the heap may grow -/
def EvS (te : TE) (σ : L2.St) (H : Hp) (v : V) : Prop := ∀ Q : VK, (∀ H', Same H H' → Q v H') → te σ H Q
theorem EvS.of (h : Val te σ H v) : EvS te σ H v := fun Q q => h Q (q H (Same.refl H))
theorem w_lcL {a : Addr} {xs : List V} {j : Nat} {vs : List Nat} (f : Nat → V) (h : Val tl σ H (.ref a)) (hx : SqL K H a xs) (hz : xs.length ≤ 1000000) (hw : ∀ x, wipe ((wipe σ vs).set j (some x)) vs = wipe σ vs)
    (he : ∀ i x H', xs[i]? = some x → Same H H' → EvS te ((wipe σ vs).set j (some x)) H' (f i)) (q : ∀ D H', H D = none → Same H H' → H' D = some (.lst ((List.range xs.length).map f)) → Q (.ref D) H') :
    tLc (iList K tl) (gName j) tYes te vs σ H Q := by
  refine h _ ⟨a, rfl, ⟨xs, hx⟩, fun D hD => lc_list (xs := xs) (CoAt H D f) ⟨hD, same_new hD, upd_same⟩ (fun i H' _ p => (Le.of p.2.1).l hx) (fun i x H' hi p => ⟨hw x, ?_⟩) fun H' p => q D H' p.1 p.2.1 p.2.2⟩
  unfold tYes
  dsimp only
  rw [if_pos rfl]
  refine he i x H' hi p.2.1 _ fun H2 e2 => ⟨_, e2 _ _ p.2.2, ?_, p.one e2⟩
  have := (List.getElem?_eq_some_iff.mp hi).1
  rw [List.length_map, List.length_range, sizeLine_eq]
  omega
theorem w_lcR {n : Int} {j : Nat} {vs : List Nat} (f : Nat → V) (h : ∀ Q : List V → Hp → Prop, Q [.int n] H → ta σ H Q) (hz : n ≤ 1000000) (hz0 : -1000000 ≤ n) (hw : ∀ x, wipe ((wipe σ vs).set j (some x)) vs = wipe σ vs)
    (he : ∀ (i : Nat) H', (i : Int) < n → Same H H' → EvS te ((wipe σ vs).set j (some (vn i))) H' (f i)) (q : ∀ D H', H D = none → Same H H' → H' D = some (.lst ((List.range n.toNat).map f)) → Q (.ref D) H') :
    tLc (iRng1 ta) (gName j) tYes te vs σ H Q := by
  refine h _ ⟨n, rfl, by omega, by omega, fun D hD => lc_range (lo := 0) (n := n.toNat) (CoAt H D f) ⟨hD, same_new hD, upd_same⟩ (fun i H' hi p => ?_) fun H' p => q D H' p.1 p.2.1 p.2.2⟩
  have e0 : (0 : Int) + (i : Int) = (i : Int) := Int.zero_add _
  show wipe ((wipe σ vs).set j (some (.int ((0 : Int) + (i : Int))))) vs = wipe σ vs ∧ tYes ((wipe σ vs).set j (some (.int ((0 : Int) + (i : Int))))) H' _
  rw [e0]
  refine ⟨hw _, ?_⟩
  unfold tYes
  dsimp only
  rw [if_pos rfl]
  refine he i H' (by omega) p.2.1 _ fun H2 e2 => ⟨_, e2 _ _ p.2.2, ?_, p.one e2⟩
  rw [List.length_map, List.length_range, sizeLine_eq]
  omega
end
/-! ### a def that is known -/
structure Known (P : Program) (w : World) (K : Frg) (mg : Str → Option Value) (base : Heap) (CX : CXT) (k : Nat) (x : Str) (ps : List Str) (sp : Sp) : Prop where
  ex : ∃ f fd, mg x = some (.ref f) ∧ PySem.W.keepIn K (.ref f) = true ∧ FnOk P w K mg base CX k f fd ps sp ∧ Binds K fd ps []
structure KnownM (P : Program) (w : World) (K : Frg) (mg : Str → Option Value) (base : Heap) (CX : CXT) (k : Nat) (C : Addr) (m : Str) (ps : List Str) (sp : Sp) : Prop where
  ex : ∃ f fd, Meth K C m f ∧ FnOk P w K mg base CX k f fd ps sp ∧ Binds K fd ps []
theorem Known.imp {P : Program} {w : World} {K : Frg} {mg : Str → Option Value} {base : Heap} {CX : CXT} {k : Nat} {x : Str} {ps : List Str} {sp sp' : Sp} (h : Known P w K mg base CX k x ps sp) (i : ∀ vs H Q E, sp' vs H Q E → sp vs H Q E) : Known P w K mg base CX k x ps sp' := by
  obtain ⟨f, fd, h1, h2, h3, h4⟩ := h.ex
  exact ⟨f, fd, h1, h2, h3.imp i, h4⟩
section
variable {X : Cx} {CX : CXT} {k : Nat} {C : Addr} {ps : List Str} {sp : Sp} {E : XK} {x m : Str} {p pos apos : Pos} {e o : Expr} {es : List Expr} {ta : TE} {t : TA}
theorem pe_kn (F : Known X.prog X.w X.K X.mg X.base CX k x ps sp) (hr : Room k X.A) (hx : Passes CX X E) (ha : PA X (e :: es) t) (hg : Gl X x := by rfl)
    (hdb : (x == ("__debug__" : Str)) = false := by decide) (he : starEach (e :: es) X.env = (false, eval e X.env) :: starEach es X.env := by rfl) (hpl : (backTo pos (starEach es X.env)).any (·.1) = false := by rfl) :
    PE X (.Call (.Name x p) (e :: es) [] pos) (tCall sp [] E t) := by
  obtain ⟨f, fd, h1, h2, h3, h4⟩ := F.ex
  exact pe_call h3 hr hg h1 h2 h4 .nil hx ha hdb he hpl
theorem pe_knM {pl : Sem Bool} (F : KnownM X.prog X.w X.K X.mg X.base CX k C m ps sp) (c : Cls X.K C) (hr : Room k X.A) (hx : Passes CX X E) (ho : PE X o ta) (ha : PA X (e :: es) t)
    (hst : starEach (e :: es) X.env = (false, eval e X.env) :: starEach es X.env := by rfl) (hpl : (backTo pos (starEach es X.env)).any (·.1) = false := by rfl)
    (ht : eval (.Call (.Attribute o m apos) (e :: es) [] pos) X.env = (do
      let ov ← eval o X.env
      standAt apos.atName
      let (f, first) ← holding [ov] (getMethod ov m pl)
      callWith pos f first (backTo pos (starEach (e :: es) X.env)) (backToKw pos (keywordEach [] X.env))) := by rfl) :
    PE X (.Call (.Attribute o m apos) (e :: es) [] pos) (tMeth C m sp [] E ta t) := by
  obtain ⟨f, fd, h1, h2, h3⟩ := F.ex
  exact pe_meth ho c h1 h2 hr h3 .nil hx ha hst hpl ht
theorem pe_knM0 {pl : Sem Bool} (F : KnownM X.prog X.w X.K X.mg X.base CX k C m ps sp) (c : Cls X.K C) (hr : Room k X.A) (hx : Passes CX X E) (ho : PE X o ta)
    (ht : eval (.Call (.Attribute o m apos) [] [] pos) X.env = (do
      let ov ← eval o X.env
      standAt apos.atName
      let (f, first) ← holding [ov] (getMethod ov m pl)
      callWith pos f first (backTo pos (starEach [] X.env)) (backToKw pos (keywordEach [] X.env))) := by rfl) :
    PE X (.Call (.Attribute o m apos) [] [] pos) (tMeth C m sp [] E ta tNil) := by
  obtain ⟨f, fd, h1, h2, h3⟩ := F.ex
  exact pe_meth0 ho c h1 h2 hr h3 .nil hx ht
end
end Wd
set_option Elab.async false
set_option linter.all false
set_option maxRecDepth 100000
set_option maxHeartbeats 4000000
namespace Wd
open PySem PySem.Spec PyProof.Rows L2
/-- the module's name x stands for the int i -/
def ObjI (mg : Str → Option Value) (x : Str) (i : Int) : Prop := ∃ t, mg x = some (.int i t)
/-- a def of the top -/
def DefAt (K : Frg) (mg : Str → Option Value) (x : Str) (st : Stmt) : Prop := mg x = some (.ref (He.ga K x)) ∧ ∃ fd, FunD K x x (defArgs st) (defBody st) (defScope st) [] [] (He.ga K x) fd
/-- a method -/
def MethAt (K : Frg) (c m q : Str) (st : Stmt) : Prop := Meth K (He.ga K c) m (He.ma K (He.ga K c) m) ∧ ∃ fd, FunD K m q (defArgs st) (defBody st) (defScope st) [] [] (He.ma K (He.ga K c) m) fd
theorem defAt_of {K : Frg} {mg : Str → Option Value} {d : He.DefD} {x : Str} {st : Stmt} (h : mg x = some (.ref (He.ga K x))) (f : ∃ fd, FunD K d.name d.qual d.params d.body d.scope (d.dvs K) (d.kws K) (He.fAd K d.at_) fd)
    (e : d = ⟨(x, none), x, x, defArgs st, defBody st, defScope st, [], []⟩ := by rfl) : DefAt K mg x st := by
  subst e
  exact ⟨h, f⟩
theorem methAt_of {K : Frg} {d : He.DefD} {c m q : Str} {st : Stmt} (h : Meth K (He.ga K c) m (He.ma K (He.ga K c) m)) (f : ∃ fd, FunD K d.name d.qual d.params d.body d.scope (d.dvs K) (d.kws K) (He.fAd K d.at_) fd)
    (e : d = ⟨(c, some m), m, q, defArgs st, defBody st, defScope st, [], []⟩ := by rfl) : MethAt K c m q st := by
  subst e
  exact ⟨h, f⟩
/-- what the walks ask of the top (printed by gen.py) -/
structure Gx (K : Frg) (mg : Str → Option Value) : Prop where
  n_isinstance : mg "isinstance" = none
  n_int : mg "int" = none
  n_bool : mg "bool" = none
  n_list : mg "list" = none
  n_tuple : mg "tuple" = none
  n_str : mg "str" = none
  n_len : mg "len" = none
  n_max : mg "max" = none
  n_min : mg "min" = none
  n_sum : mg "sum" = none
  n_sorted : mg "sorted" = none
  n_all : mg "all" = none
  n_range : mg "range" = none
  n_enumerate : mg "enumerate" = none
  n_zip : mg "zip" = none
  n_repr : mg "repr" = none
  e_MOST_THINGS : ObjI mg "MOST_THINGS" 6
  e_MOST_COPIES : ObjI mg "MOST_COPIES" 7
  e_MOST_ASKERS : ObjI mg "MOST_ASKERS" 7
  e_MOST_RANKS : ObjI mg "MOST_RANKS" 5
  g_DealError : mg "DealError" = some (.ref (He.ga K "DealError"))
  g_NoWishes : mg "NoWishes" = some (.ref (He.ga K "NoWishes"))
  g_NoAim : mg "NoAim" = some (.ref (He.ga K "NoAim"))
  g_NoPlace : mg "NoPlace" = some (.ref (He.ga K "NoPlace"))
  g_TooMany : mg "TooMany" = some (.ref (He.ga K "TooMany"))
  g_Scale : mg "Scale" = some (.ref (He.ga K "Scale"))
  g_Reach : mg "Reach" = some (.ref (He.ga K "Reach"))
  g_Prices : mg "Prices" = some (.ref (He.ga K "Prices"))
  c_Scale : Cls K (He.ga K "Scale")
  mk_Scale : Mk K (He.ga K "Scale") (He.ma K (He.ga K "Scale") "__init__")
  c_Reach : Cls K (He.ga K "Reach")
  mk_Reach : Mk K (He.ga K "Reach") (He.ma K (He.ga K "Reach") "__init__")
  c_Prices : Cls K (He.ga K "Prices")
  mk_Prices : Mk K (He.ga K "Prices") (He.ma K (He.ga K "Prices") "__init__")
  a_Scale_order : NoAttr K (He.ga K "Scale") "order"
  a_Scale_old : NoAttr K (He.ga K "Scale") "old"
  a_Scale_turns : NoAttr K (He.ga K "Scale") "turns"
  a_Scale_base : NoAttr K (He.ga K "Scale") "base"
  a_Scale_ranks : NoAttr K (He.ga K "Scale") "ranks"
  a_Scale_steps : NoAttr K (He.ga K "Scale") "steps"
  a_Scale_picks : NoAttr K (He.ga K "Scale") "picks"
  a_Reach_rows : NoAttr K (He.ga K "Reach") "rows"
  a_Reach_dealt : NoAttr K (He.ga K "Reach") "dealt"
  a_Reach_start : NoAttr K (He.ga K "Reach") "start"
  a_Reach_freed : NoAttr K (He.ga K "Reach") "freed"
  a_Reach_taken : NoAttr K (He.ga K "Reach") "taken"
  a_Reach_takers : NoAttr K (He.ga K "Reach") "takers"
  a_Prices_rows : NoAttr K (He.ga K "Prices") "rows"
  a_Prices_dealt : NoAttr K (He.ga K "Prices") "dealt"
  a_Prices_left : NoAttr K (He.ga K "Prices") "left"
  a_Prices_prices : NoAttr K (He.ga K "Prices") "prices"
  a_Prices_raisers : NoAttr K (He.ga K "Prices") "raisers"
  a_NoWishes_part : NoAttr K (He.ga K "NoWishes") "part"
  a_NoWishes_number : NoAttr K (He.ga K "NoWishes") "number"
  a_NoAim_part : NoAttr K (He.ga K "NoAim") "part"
  f_is_whole : DefAt K mg "is_whole" s_is_whole
  f_NoWishes_init : MethAt K "NoWishes" "__init__" "NoWishes.__init__" s_NoWishes_init
  f_NoAim_init : MethAt K "NoAim" "__init__" "NoAim.__init__" s_NoAim_init
  f_need_row : DefAt K mg "need_row" s_need_row
  f_is_many : DefAt K mg "is_many" s_is_many
  f_is_thing : DefAt K mg "is_thing" s_is_thing
  f_are_ranks : DefAt K mg "are_ranks" s_are_ranks
  f_look_at_wishes : DefAt K mg "look_at_wishes" s_look_at_wishes
  f_longest : DefAt K mg "longest" s_longest
  f_rank_among : DefAt K mg "rank_among" s_rank_among
  f_counts_of : DefAt K mg "counts_of" s_counts_of
  f_copies_left : DefAt K mg "copies_left" s_copies_left
  f_is_order : DefAt K mg "is_order" s_is_order
  f_is_old : DefAt K mg "is_old" s_is_old
  f_are_turns : DefAt K mg "are_turns" s_are_turns
  f_fault_of : DefAt K mg "fault_of" s_fault_of
  f_look_at_aim : DefAt K mg "look_at_aim" s_look_at_aim
  f_powers_of : DefAt K mg "powers_of" s_powers_of
  f_Scale_init : MethAt K "Scale" "__init__" "Scale.__init__" s_Scale_init
  f_Scale_by_order : MethAt K "Scale" "by_order" "Scale.by_order" s_Scale_by_order
  f_Scale_pick_of : MethAt K "Scale" "pick_of" "Scale.pick_of" s_Scale_pick_of
  f_Scale_of : MethAt K "Scale" "of" "Scale.of" s_Scale_of
  f_worths_of : DefAt K mg "worths_of" s_worths_of
  f_all_worths : DefAt K mg "all_worths" s_all_worths
  f_rows_by : DefAt K mg "rows_by" s_rows_by
  f_left_by : DefAt K mg "left_by" s_left_by
  f_Reach_init : MethAt K "Reach" "__init__" "Reach.__init__" s_Reach_init
  f_Reach_to_things : MethAt K "Reach" "to_things" "Reach.to_things" s_Reach_to_things
  f_Reach_to_askers : MethAt K "Reach" "to_askers" "Reach.to_askers" s_Reach_to_askers
  f_Reach_go_on : MethAt K "Reach" "go_on" "Reach.go_on" s_Reach_go_on
  f_Reach_end_by : MethAt K "Reach" "end_by" "Reach.end_by" s_Reach_end_by
  f_Reach_way_to : MethAt K "Reach" "way_to" "Reach.way_to" s_Reach_way_to
  f_best_way : DefAt K mg "best_way" s_best_way
  f_dealt_best : DefAt K mg "dealt_best" s_dealt_best
  f_Prices_init : MethAt K "Prices" "__init__" "Prices.__init__" s_Prices_init
  f_Prices_rest : MethAt K "Prices" "rest" "Prices.rest" s_Prices_rest
  f_Prices_chain : MethAt K "Prices" "chain" "Prices.chain" s_Prices_chain
  f_Prices_way_by : MethAt K "Prices" "way_by" "Prices.way_by" s_Prices_way_by
  f_Prices_raised_by : MethAt K "Prices" "raised_by" "Prices.raised_by" s_Prices_raised_by
  f_Prices_settle : MethAt K "Prices" "settle" "Prices.settle" s_Prices_settle
  f_Prices_told : MethAt K "Prices" "told" "Prices.told" s_Prices_told
  f_best_dealing : DefAt K mg "best_dealing" s_best_dealing
  f_met_arcs : DefAt K mg "met_arcs" s_met_arcs
  f_led_to : DefAt K mg "led_to" s_led_to
  f_places_of : DefAt K mg "places_of" s_places_of
  f_strict_paper : DefAt K mg "strict_paper" s_strict_paper
  f_moved_round : DefAt K mg "moved_round" s_moved_round
  f_tight_wishes : DefAt K mg "tight_wishes" s_tight_wishes
  f_has_dealt : DefAt K mg "has_dealt" s_has_dealt
  f_has_left : DefAt K mg "has_left" s_has_left
  f_web_of : DefAt K mg "web_of" s_web_of
  f_ledger_of : DefAt K mg "ledger_of" s_ledger_of
  f_lets_ledger : DefAt K mg "lets_ledger" s_lets_ledger
  f_opened : DefAt K mg "opened" s_opened
  f_how_many : DefAt K mg "how_many" s_how_many
  f_numbered : DefAt K mg "numbered" s_numbered
  f_number_of : DefAt K mg "number_of" s_number_of
  f_shares : DefAt K mg "shares" s_shares
  f_all_best : DefAt K mg "all_best" s_all_best
  f_orders_part : DefAt K mg "orders_part" s_orders_part
  f_law_cell_at : DefAt K mg "_law_cell_at" s_law_cell_at
  f_law_numbers : DefAt K mg "_law_numbers" s_law_numbers
  f_law_wishes : DefAt K mg "_law_wishes" s_law_wishes
  f_law_rank : DefAt K mg "_law_rank" s_law_rank
  f_law_longest : DefAt K mg "_law_longest" s_law_longest
  f_law_wished : DefAt K mg "_law_wished" s_law_wished
  f_law_counts : DefAt K mg "_law_counts" s_law_counts
  f_law_worth : DefAt K mg "_law_worth" s_law_worth
  f_law_whole : DefAt K mg "_law_whole" s_law_whole
  f_law_bests : DefAt K mg "_law_bests" s_law_bests
  f_law_is_whole : DefAt K mg "_law_is_whole" s_law_is_whole
  f_law_is_dealing : DefAt K mg "_law_is_dealing" s_law_is_dealing
  f_law_proper : DefAt K mg "_law_proper" s_law_proper
  f_law_shown_best : DefAt K mg "_law_shown_best" s_law_shown_best
  f_law_refused : DefAt K mg "_law_refused" s_law_refused
  f_law_odd : DefAt K mg "_law_odd" s_law_odd
  f_law_asked : DefAt K mg "_law_asked" s_law_asked
  f_law_door : DefAt K mg "_law_door" s_law_door
  f_law_doors : DefAt K mg "_law_doors" s_law_doors
  f_law_due : DefAt K mg "_law_due" s_law_due
  f_law_told : DefAt K mg "_law_told" s_law_told
  f_law_block : DefAt K mg "_law_block" s_law_block
  f_law : DefAt K mg "law" s_law
  ex : exA K = true
theorem Gx.of {K : Frg} {h : Heap} {mg : Str → Option Value} (X : K.In h) (G : h.Ns mainGlobals mg) (c : He.SaysD fa fn K) (e : exA K = true) : Gx K mg := ⟨
  He.free_ok X G (c.fact 72 (f := .free "isinstance")),
  He.free_ok X G (c.fact 73 (f := .free "int")),
  He.free_ok X G (c.fact 74 (f := .free "bool")),
  He.free_ok X G (c.fact 75 (f := .free "list")),
  He.free_ok X G (c.fact 76 (f := .free "tuple")),
  He.free_ok X G (c.fact 77 (f := .free "str")),
  He.free_ok X G (c.fact 78 (f := .free "len")),
  He.free_ok X G (c.fact 79 (f := .free "max")),
  He.free_ok X G (c.fact 80 (f := .free "min")),
  He.free_ok X G (c.fact 81 (f := .free "sum")),
  He.free_ok X G (c.fact 82 (f := .free "sorted")),
  He.free_ok X G (c.fact 83 (f := .free "all")),
  He.free_ok X G (c.fact 84 (f := .free "range")),
  He.free_ok X G (c.fact 85 (f := .free "enumerate")),
  He.free_ok X G (c.fact 86 (f := .free "zip")),
  He.free_ok X G (c.fact 87 (f := .free "repr")),
  He.int_ok X G (c.fact 88 (f := .int "MOST_THINGS" 6)),
  He.int_ok X G (c.fact 89 (f := .int "MOST_COPIES" 7)),
  He.int_ok X G (c.fact 90 (f := .int "MOST_ASKERS" 7)),
  He.int_ok X G (c.fact 91 (f := .int "MOST_RANKS" 5)),
  He.glo_ok X G (c.fact 64 (f := .glo "DealError")),
  He.glo_ok X G (c.fact 65 (f := .glo "NoWishes")),
  He.glo_ok X G (c.fact 66 (f := .glo "NoAim")),
  He.glo_ok X G (c.fact 67 (f := .glo "NoPlace")),
  He.glo_ok X G (c.fact 68 (f := .glo "TooMany")),
  He.glo_ok X G (c.fact 69 (f := .glo "Scale")),
  He.glo_ok X G (c.fact 70 (f := .glo "Reach")),
  He.glo_ok X G (c.fact 71 (f := .glo "Prices")),
  He.cls_ok (c.fact 92 (f := .cls "Scale")),
  He.mkr_ok (c.fact 93 (f := .mkr "Scale")),
  He.cls_ok (c.fact 98 (f := .cls "Reach")),
  He.mkr_ok (c.fact 99 (f := .mkr "Reach")),
  He.cls_ok (c.fact 106 (f := .cls "Prices")),
  He.mkr_ok (c.fact 107 (f := .mkr "Prices")),
  He.noat_ok (c.fact 115 (f := .noat "Scale" "order")),
  He.noat_ok (c.fact 116 (f := .noat "Scale" "old")),
  He.noat_ok (c.fact 117 (f := .noat "Scale" "turns")),
  He.noat_ok (c.fact 118 (f := .noat "Scale" "base")),
  He.noat_ok (c.fact 119 (f := .noat "Scale" "ranks")),
  He.noat_ok (c.fact 120 (f := .noat "Scale" "steps")),
  He.noat_ok (c.fact 121 (f := .noat "Scale" "picks")),
  He.noat_ok (c.fact 122 (f := .noat "Reach" "rows")),
  He.noat_ok (c.fact 123 (f := .noat "Reach" "dealt")),
  He.noat_ok (c.fact 124 (f := .noat "Reach" "start")),
  He.noat_ok (c.fact 125 (f := .noat "Reach" "freed")),
  He.noat_ok (c.fact 126 (f := .noat "Reach" "taken")),
  He.noat_ok (c.fact 127 (f := .noat "Reach" "takers")),
  He.noat_ok (c.fact 128 (f := .noat "Prices" "rows")),
  He.noat_ok (c.fact 129 (f := .noat "Prices" "dealt")),
  He.noat_ok (c.fact 130 (f := .noat "Prices" "left")),
  He.noat_ok (c.fact 131 (f := .noat "Prices" "prices")),
  He.noat_ok (c.fact 132 (f := .noat "Prices" "raisers")),
  He.noat_ok (c.fact 133 (f := .noat "NoWishes" "part")),
  He.noat_ok (c.fact 134 (f := .noat "NoWishes" "number")),
  He.noat_ok (c.fact 135 (f := .noat "NoAim" "part")),
  defAt_of (d := d_is_whole) (He.glo_ok X G (c.fact 0 (f := .glo "is_whole"))) (c.def_ 0 (d := d_is_whole)),
  methAt_of (d := d_NoWishes_init) (He.meth_ok (c.fact 136 (f := .meth "NoWishes" "__init__"))) (c.def_ 1 (d := d_NoWishes_init)),
  methAt_of (d := d_NoAim_init) (He.meth_ok (c.fact 137 (f := .meth "NoAim" "__init__"))) (c.def_ 2 (d := d_NoAim_init)),
  defAt_of (d := d_need_row) (He.glo_ok X G (c.fact 1 (f := .glo "need_row"))) (c.def_ 3 (d := d_need_row)),
  defAt_of (d := d_is_many) (He.glo_ok X G (c.fact 2 (f := .glo "is_many"))) (c.def_ 4 (d := d_is_many)),
  defAt_of (d := d_is_thing) (He.glo_ok X G (c.fact 3 (f := .glo "is_thing"))) (c.def_ 5 (d := d_is_thing)),
  defAt_of (d := d_are_ranks) (He.glo_ok X G (c.fact 4 (f := .glo "are_ranks"))) (c.def_ 6 (d := d_are_ranks)),
  defAt_of (d := d_look_at_wishes) (He.glo_ok X G (c.fact 5 (f := .glo "look_at_wishes"))) (c.def_ 7 (d := d_look_at_wishes)),
  defAt_of (d := d_longest) (He.glo_ok X G (c.fact 6 (f := .glo "longest"))) (c.def_ 8 (d := d_longest)),
  defAt_of (d := d_rank_among) (He.glo_ok X G (c.fact 7 (f := .glo "rank_among"))) (c.def_ 9 (d := d_rank_among)),
  defAt_of (d := d_counts_of) (He.glo_ok X G (c.fact 8 (f := .glo "counts_of"))) (c.def_ 10 (d := d_counts_of)),
  defAt_of (d := d_copies_left) (He.glo_ok X G (c.fact 9 (f := .glo "copies_left"))) (c.def_ 11 (d := d_copies_left)),
  defAt_of (d := d_is_order) (He.glo_ok X G (c.fact 10 (f := .glo "is_order"))) (c.def_ 12 (d := d_is_order)),
  defAt_of (d := d_is_old) (He.glo_ok X G (c.fact 11 (f := .glo "is_old"))) (c.def_ 13 (d := d_is_old)),
  defAt_of (d := d_are_turns) (He.glo_ok X G (c.fact 12 (f := .glo "are_turns"))) (c.def_ 14 (d := d_are_turns)),
  defAt_of (d := d_fault_of) (He.glo_ok X G (c.fact 13 (f := .glo "fault_of"))) (c.def_ 15 (d := d_fault_of)),
  defAt_of (d := d_look_at_aim) (He.glo_ok X G (c.fact 14 (f := .glo "look_at_aim"))) (c.def_ 16 (d := d_look_at_aim)),
  defAt_of (d := d_powers_of) (He.glo_ok X G (c.fact 15 (f := .glo "powers_of"))) (c.def_ 17 (d := d_powers_of)),
  methAt_of (d := d_Scale_init) (He.meth_ok (c.fact 94 (f := .meth "Scale" "__init__"))) (c.def_ 18 (d := d_Scale_init)),
  methAt_of (d := d_Scale_by_order) (He.meth_ok (c.fact 95 (f := .meth "Scale" "by_order"))) (c.def_ 19 (d := d_Scale_by_order)),
  methAt_of (d := d_Scale_pick_of) (He.meth_ok (c.fact 96 (f := .meth "Scale" "pick_of"))) (c.def_ 20 (d := d_Scale_pick_of)),
  methAt_of (d := d_Scale_of) (He.meth_ok (c.fact 97 (f := .meth "Scale" "of"))) (c.def_ 21 (d := d_Scale_of)),
  defAt_of (d := d_worths_of) (He.glo_ok X G (c.fact 16 (f := .glo "worths_of"))) (c.def_ 22 (d := d_worths_of)),
  defAt_of (d := d_all_worths) (He.glo_ok X G (c.fact 17 (f := .glo "all_worths"))) (c.def_ 23 (d := d_all_worths)),
  defAt_of (d := d_rows_by) (He.glo_ok X G (c.fact 18 (f := .glo "rows_by"))) (c.def_ 24 (d := d_rows_by)),
  defAt_of (d := d_left_by) (He.glo_ok X G (c.fact 19 (f := .glo "left_by"))) (c.def_ 25 (d := d_left_by)),
  methAt_of (d := d_Reach_init) (He.meth_ok (c.fact 100 (f := .meth "Reach" "__init__"))) (c.def_ 26 (d := d_Reach_init)),
  methAt_of (d := d_Reach_to_things) (He.meth_ok (c.fact 101 (f := .meth "Reach" "to_things"))) (c.def_ 27 (d := d_Reach_to_things)),
  methAt_of (d := d_Reach_to_askers) (He.meth_ok (c.fact 102 (f := .meth "Reach" "to_askers"))) (c.def_ 28 (d := d_Reach_to_askers)),
  methAt_of (d := d_Reach_go_on) (He.meth_ok (c.fact 103 (f := .meth "Reach" "go_on"))) (c.def_ 29 (d := d_Reach_go_on)),
  methAt_of (d := d_Reach_end_by) (He.meth_ok (c.fact 104 (f := .meth "Reach" "end_by"))) (c.def_ 30 (d := d_Reach_end_by)),
  methAt_of (d := d_Reach_way_to) (He.meth_ok (c.fact 105 (f := .meth "Reach" "way_to"))) (c.def_ 31 (d := d_Reach_way_to)),
  defAt_of (d := d_best_way) (He.glo_ok X G (c.fact 20 (f := .glo "best_way"))) (c.def_ 32 (d := d_best_way)),
  defAt_of (d := d_dealt_best) (He.glo_ok X G (c.fact 21 (f := .glo "dealt_best"))) (c.def_ 33 (d := d_dealt_best)),
  methAt_of (d := d_Prices_init) (He.meth_ok (c.fact 108 (f := .meth "Prices" "__init__"))) (c.def_ 34 (d := d_Prices_init)),
  methAt_of (d := d_Prices_rest) (He.meth_ok (c.fact 109 (f := .meth "Prices" "rest"))) (c.def_ 35 (d := d_Prices_rest)),
  methAt_of (d := d_Prices_chain) (He.meth_ok (c.fact 110 (f := .meth "Prices" "chain"))) (c.def_ 36 (d := d_Prices_chain)),
  methAt_of (d := d_Prices_way_by) (He.meth_ok (c.fact 111 (f := .meth "Prices" "way_by"))) (c.def_ 37 (d := d_Prices_way_by)),
  methAt_of (d := d_Prices_raised_by) (He.meth_ok (c.fact 112 (f := .meth "Prices" "raised_by"))) (c.def_ 38 (d := d_Prices_raised_by)),
  methAt_of (d := d_Prices_settle) (He.meth_ok (c.fact 113 (f := .meth "Prices" "settle"))) (c.def_ 39 (d := d_Prices_settle)),
  methAt_of (d := d_Prices_told) (He.meth_ok (c.fact 114 (f := .meth "Prices" "told"))) (c.def_ 40 (d := d_Prices_told)),
  defAt_of (d := d_best_dealing) (He.glo_ok X G (c.fact 22 (f := .glo "best_dealing"))) (c.def_ 41 (d := d_best_dealing)),
  defAt_of (d := d_met_arcs) (He.glo_ok X G (c.fact 23 (f := .glo "met_arcs"))) (c.def_ 42 (d := d_met_arcs)),
  defAt_of (d := d_led_to) (He.glo_ok X G (c.fact 24 (f := .glo "led_to"))) (c.def_ 43 (d := d_led_to)),
  defAt_of (d := d_places_of) (He.glo_ok X G (c.fact 25 (f := .glo "places_of"))) (c.def_ 44 (d := d_places_of)),
  defAt_of (d := d_strict_paper) (He.glo_ok X G (c.fact 26 (f := .glo "strict_paper"))) (c.def_ 45 (d := d_strict_paper)),
  defAt_of (d := d_moved_round) (He.glo_ok X G (c.fact 27 (f := .glo "moved_round"))) (c.def_ 46 (d := d_moved_round)),
  defAt_of (d := d_tight_wishes) (He.glo_ok X G (c.fact 28 (f := .glo "tight_wishes"))) (c.def_ 47 (d := d_tight_wishes)),
  defAt_of (d := d_has_dealt) (He.glo_ok X G (c.fact 29 (f := .glo "has_dealt"))) (c.def_ 48 (d := d_has_dealt)),
  defAt_of (d := d_has_left) (He.glo_ok X G (c.fact 30 (f := .glo "has_left"))) (c.def_ 49 (d := d_has_left)),
  defAt_of (d := d_web_of) (He.glo_ok X G (c.fact 31 (f := .glo "web_of"))) (c.def_ 50 (d := d_web_of)),
  defAt_of (d := d_ledger_of) (He.glo_ok X G (c.fact 32 (f := .glo "ledger_of"))) (c.def_ 51 (d := d_ledger_of)),
  defAt_of (d := d_lets_ledger) (He.glo_ok X G (c.fact 33 (f := .glo "lets_ledger"))) (c.def_ 52 (d := d_lets_ledger)),
  defAt_of (d := d_opened) (He.glo_ok X G (c.fact 34 (f := .glo "opened"))) (c.def_ 53 (d := d_opened)),
  defAt_of (d := d_how_many) (He.glo_ok X G (c.fact 35 (f := .glo "how_many"))) (c.def_ 54 (d := d_how_many)),
  defAt_of (d := d_numbered) (He.glo_ok X G (c.fact 36 (f := .glo "numbered"))) (c.def_ 55 (d := d_numbered)),
  defAt_of (d := d_number_of) (He.glo_ok X G (c.fact 37 (f := .glo "number_of"))) (c.def_ 56 (d := d_number_of)),
  defAt_of (d := d_shares) (He.glo_ok X G (c.fact 38 (f := .glo "shares"))) (c.def_ 57 (d := d_shares)),
  defAt_of (d := d_all_best) (He.glo_ok X G (c.fact 39 (f := .glo "all_best"))) (c.def_ 58 (d := d_all_best)),
  defAt_of (d := d_orders_part) (He.glo_ok X G (c.fact 40 (f := .glo "orders_part"))) (c.def_ 59 (d := d_orders_part)),
  defAt_of (d := d_law_cell_at) (He.glo_ok X G (c.fact 41 (f := .glo "_law_cell_at"))) (c.def_ 60 (d := d_law_cell_at)),
  defAt_of (d := d_law_numbers) (He.glo_ok X G (c.fact 42 (f := .glo "_law_numbers"))) (c.def_ 61 (d := d_law_numbers)),
  defAt_of (d := d_law_wishes) (He.glo_ok X G (c.fact 43 (f := .glo "_law_wishes"))) (c.def_ 62 (d := d_law_wishes)),
  defAt_of (d := d_law_rank) (He.glo_ok X G (c.fact 44 (f := .glo "_law_rank"))) (c.def_ 63 (d := d_law_rank)),
  defAt_of (d := d_law_longest) (He.glo_ok X G (c.fact 45 (f := .glo "_law_longest"))) (c.def_ 64 (d := d_law_longest)),
  defAt_of (d := d_law_wished) (He.glo_ok X G (c.fact 46 (f := .glo "_law_wished"))) (c.def_ 65 (d := d_law_wished)),
  defAt_of (d := d_law_counts) (He.glo_ok X G (c.fact 47 (f := .glo "_law_counts"))) (c.def_ 66 (d := d_law_counts)),
  defAt_of (d := d_law_worth) (He.glo_ok X G (c.fact 48 (f := .glo "_law_worth"))) (c.def_ 67 (d := d_law_worth)),
  defAt_of (d := d_law_whole) (He.glo_ok X G (c.fact 49 (f := .glo "_law_whole"))) (c.def_ 68 (d := d_law_whole)),
  defAt_of (d := d_law_bests) (He.glo_ok X G (c.fact 50 (f := .glo "_law_bests"))) (c.def_ 69 (d := d_law_bests)),
  defAt_of (d := d_law_is_whole) (He.glo_ok X G (c.fact 51 (f := .glo "_law_is_whole"))) (c.def_ 70 (d := d_law_is_whole)),
  defAt_of (d := d_law_is_dealing) (He.glo_ok X G (c.fact 52 (f := .glo "_law_is_dealing"))) (c.def_ 71 (d := d_law_is_dealing)),
  defAt_of (d := d_law_proper) (He.glo_ok X G (c.fact 53 (f := .glo "_law_proper"))) (c.def_ 72 (d := d_law_proper)),
  defAt_of (d := d_law_shown_best) (He.glo_ok X G (c.fact 54 (f := .glo "_law_shown_best"))) (c.def_ 73 (d := d_law_shown_best)),
  defAt_of (d := d_law_refused) (He.glo_ok X G (c.fact 55 (f := .glo "_law_refused"))) (c.def_ 74 (d := d_law_refused)),
  defAt_of (d := d_law_odd) (He.glo_ok X G (c.fact 56 (f := .glo "_law_odd"))) (c.def_ 75 (d := d_law_odd)),
  defAt_of (d := d_law_asked) (He.glo_ok X G (c.fact 57 (f := .glo "_law_asked"))) (c.def_ 76 (d := d_law_asked)),
  defAt_of (d := d_law_door) (He.glo_ok X G (c.fact 58 (f := .glo "_law_door"))) (c.def_ 77 (d := d_law_door)),
  defAt_of (d := d_law_doors) (He.glo_ok X G (c.fact 59 (f := .glo "_law_doors"))) (c.def_ 78 (d := d_law_doors)),
  defAt_of (d := d_law_due) (He.glo_ok X G (c.fact 60 (f := .glo "_law_due"))) (c.def_ 79 (d := d_law_due)),
  defAt_of (d := d_law_told) (He.glo_ok X G (c.fact 61 (f := .glo "_law_told"))) (c.def_ 80 (d := d_law_told)),
  defAt_of (d := d_law_block) (He.glo_ok X G (c.fact 62 (f := .glo "_law_block"))) (c.def_ 81 (d := d_law_block)),
  defAt_of (d := d_law) (He.glo_ok X G (c.fact 63 (f := .glo "law"))) (c.def_ 82 (d := d_law)),
  e⟩
end Wd
set_option Elab.async false
set_option linter.all false
set_option maxRecDepth 100000
set_option maxHeartbeats 4000000
/-! A def of the top is known by its body's term and that term's reading. -/
namespace Wd
open PySem PySem.Spec PyProof.Rows L2
section
variable {P : Program} {w : World} {K : Frg} {mg : Str → Option Value} {base : Heap} {x c m q : Str} {st : Stmt} {N ps : List Str} {k : Nat} {sp : Sp}
/-- how the arguments bind -/
abbrev BindsAs (x q : Str) (st : Stmt) (ps : List Str) : Prop := ∀ (kV doc pm : Value) (an : Option Addr) (cdv ct : Value) (us : List Value), us.length = ps.length →
  bindArgs (PySem.W.fnOf x q (defArgs st) (defBody st) (defScope st) .none kV doc pm an cdv ct) ⟨us, []⟩ = pure (ps.zip us)
/-- the body's promise, nothing raised -/
abbrev BodyOk (P : Program) (w : World) (K : Frg) (mg : Str → Option Value) (base : Heap) (q : Str) (st : Stmt) (f : Addr) (N : List Str) (k : Nat) (sp : Sp) : Prop :=
  ∀ (cdv : Value) (A : Around) (outer : List Env) (s : Shared) (H : Hp) (vs : List V) (Q : VK) (E : XK), Room k (A.deeper (envOfC q (defScope st) s.heap.objs.size f cdv)) → sp vs H Q E →
    ∃ t, PSs (cxOf CX0 P w K mg base N q (defScope st) f cdv A outer s H E).nox (defBody st) t ∧ t { nx := fun _ H' => Q .non H', rt := Q } (start N vs) H
/-- .. that may raise -/
abbrev BodyX (P : Program) (w : World) (K : Frg) (mg : Str → Option Value) (base : Heap) (q : Str) (st : Stmt) (f : Addr) (N : List Str) (k : Nat) (sp : Sp) : Prop :=
  ∀ (cdv : Value) (A : Around) (outer : List Env) (s : Shared) (H : Hp) (vs : List V) (Q : VK) (E : XK), Room k (A.deeper (envOfC q (defScope st) s.heap.objs.size f cdv)) → sp vs H Q E →
    ∃ t, PSs (cxOf (L2.CX P w) P w K mg base N q (defScope st) f cdv A outer s H E) (defBody st) t ∧ t { nx := fun _ H' => Q .non H', rt := Q } (start N vs) H
theorem DefAt.known (h : DefAt K mg x st) (S : FnScope N ps (defScope st)) (hb : BindsAs x x st ps) (len : ∀ vs H Q E, sp vs H Q E → vs.length = ps.length) (body : BodyOk P w K mg base x st (He.ga K x) N k sp) : Known P w K mg base CX0 (k + 1) x ps sp := by
  obtain ⟨h1, fd, F⟩ := h
  refine ⟨_, fd, h1, F.kp, F.ok S len fun cdv A outer s H vs Q E hr hsp => ?_, F.bindsN hb⟩
  obtain ⟨t, h2, h3⟩ := body cdv A outer s H vs Q E hr hsp
  exact ⟨t, h2.nox, h3⟩
theorem DefAt.knownX (h : DefAt K mg x st) (S : FnScope N ps (defScope st)) (hb : BindsAs x x st ps) (len : ∀ vs H Q E, sp vs H Q E → vs.length = ps.length) (body : BodyX P w K mg base x st (He.ga K x) N k sp) : Known P w K mg base (L2.CX P w) (k + 1) x ps sp := by
  obtain ⟨h1, fd, F⟩ := h
  exact ⟨_, fd, h1, F.kp, F.ok S len body, F.bindsN hb⟩
theorem MethAt.known (h : MethAt K c m q st) (S : FnScope N ps (defScope st)) (hb : BindsAs m q st ps) (len : ∀ vs H Q E, sp vs H Q E → vs.length = ps.length) (body : BodyOk P w K mg base q st (He.ma K (He.ga K c) m) N k sp) : KnownM P w K mg base CX0 (k + 1) (He.ga K c) m ps sp := by
  obtain ⟨h1, fd, F⟩ := h
  refine ⟨_, fd, h1, F.ok S len fun cdv A outer s H vs Q E hr hsp => ?_, F.bindsN hb⟩
  obtain ⟨t, h2, h3⟩ := body cdv A outer s H vs Q E hr hsp
  exact ⟨t, h2.nox, h3⟩
end
end Wd
set_option Elab.async false
set_option linter.all false
set_option maxRecDepth 100000
set_option maxHeartbeats 4000000
namespace Wd
open PySem PySem.Spec PyProof.Rows L2
theorem st_if_ {c : TT} {t1 t2 : TS} {D : Ends} {σ : L2.St} {H : Hp} {b : Bool} (h : Ans c σ H b) (q1 : b = true → t1 D σ H) (q2 : b = false → t2 D σ H) : tIfS c t1 t2 D σ H := by
  cases b with
  | true => exact st_yes h (q1 rfl)
  | false => exact st_no h (q2 rfl)
section
variable {P : Program} {w : World} {K : Frg} {mg : Str → Option Value} {base : Heap}
theorem tyx_l {H : Hp} {a : Addr} {xs : List V} (h : SqL K H a xs) : TyX K H (.ref a) (.type "list") := by
  rcases h with (h | ⟨o, h⟩) | ⟨o, its, n, h1, h2, _⟩
  · exact .base (.lst h)
  · exact .base (.frz h)
  · exact .kList h1 h2
theorem tyx_t {H : Hp} {a : Addr} {xs : List V} (h : SqT K H a xs) : TyX K H (.ref a) (.type "tuple") := by
  rcases h with (h | ⟨o, h⟩) | ⟨o, its, n, h1, h2, _⟩
  · exact .base (.tup h)
  · exact .fTuple h
  · exact .kTuple h1 h2
theorem tyx_i {H : Hp} {i : Int} : TyX K H (.int i) (.type "int") := .base (.int i)
/-! is_whole -/
def spWhole : Sp := fun vs H Q _ => ∃ i : Int, vs = [.int i] ∧ Q (.bl true) H
theorem sc_is_whole : FnScope N_is_whole ["thing"] (defScope s_is_whole) := ⟨rfl, rfl, rfl, by decide +kernel, rfl, by decide +kernel, by decide +kernel⟩
theorem ok_is_whole (G : Gx K mg) : Known P w K mg base CX0 1 "is_whole" ["thing"] spWhole := by
  have sc := sc_is_whole
  refine G.f_is_whole.known sc (fun _ _ _ _ _ _ us hl => match us, hl with | [_], _ => rfl) (fun vs H Q E h => ?_) (fun cdv A outer s H vs Q E hr h => ?_)
  · obtain ⟨i, rfl, _⟩ := h; rfl
  · obtain ⟨i, rfl, q⟩ := h
    refine ⟨_, (pss_one (ps_ret (pe_and (pe_callB call_isi (by rfl) G.n_isinstance (by decide +kernel) (pa_cons (pv 0) (pa_cons (pe_bltn (by rfl) G.n_int (by decide +kernel) (v := .ty "int") rfl) pa_nil))) (pe_one (pe_not (pe_callB call_isi (by rfl) G.n_isinstance (by decide +kernel) (pa_cons (pv 0) (pa_cons (pe_bltn (by rfl) G.n_bool (by decide +kernel) (v := .ty "bool") rfl) pa_nil)))))))), ?_⟩
    refine ⟨_, rfl, _, _, _, _, true, rfl, .ty _, tyx_i, kit_ty (by decide +kernel), true, rfl, ?_⟩
    refine iteT ⟨_, rfl, _, _, _, _, false, rfl, .ty _, tyx_i, kit_ty (by decide +kernel), false, rfl, q⟩
/-! rank_among -/
def rankIn : List (List Nat) → Nat → Nat
  | [], _ => 0
  | r :: rs, t => if t ∈ r then 1 else (match rankIn rs t with | 0 => 0 | k + 1 => k + 2)
/-- a list of lists of numbers -/
def LN (K : Frg) (H : Hp) (v : V) (ns : List Nat) : Prop := ∃ a, v = .ref a ∧ SqL K H a (ns.map vn)
def LLN (K : Frg) (H : Hp) (v : V) (nss : List (List Nat)) : Prop := ∃ a vs, v = .ref a ∧ SqL K H a vs ∧ Paired (LN K H) vs nss
theorem LN.mono {H H' : Hp} (e : Le H H') {v : V} {ns : List Nat} (h : LN K H v ns) : LN K H' v ns := by
  obtain ⟨a, rfl, h⟩ := h
  exact ⟨a, rfl, e.l h⟩
theorem LLN.mono {H H' : Hp} (e : Le H H') {v : V} {ns : List (List Nat)} (h : LLN K H v ns) : LLN K H' v ns := by
  obtain ⟨a, vs, rfl, h, p⟩ := h
  exact ⟨a, vs, rfl, e.l h, Paired.mapP p fun _ _ => LN.mono e⟩
theorem inV_n (t : Nat) (ns : List Nat) : inV (vn t) (ns.map vn) = decide (t ∈ ns) := by
  unfold inV
  rw [List.any_map]
  induction ns with
  | nil => simp
  | cons n r ih =>
    rw [List.any_cons, ih]
    have e : ((fun y => eqV y (vn t)) ∘ vn) n = decide (t = n) := by
      show eqV (.int (n : Int)) (.int (t : Int)) = _
      show decide ((n : Int) = (t : Int)) = _
      by_cases h : t = n
      · subst h; simp
      · rw [decide_eq_false h, decide_eq_false (by omega)]
    rw [e]
    by_cases h : t = n
    · simp [h]
    · simp [h]
theorem flat_n (ns : List Nat) : (ns.map vn).all flatV = true := by
  rw [List.all_map]
  exact List.all_eq_true.mpr fun _ _ => rfl
theorem rankIn_at {t : Nat} : ∀ {rs : List (List Nat)} {k : Nat} {r : List Nat}, (∀ j, j < k → ∀ r', rs[j]? = some r' → t ∉ r') → rs[k]? = some r → t ∈ r → rankIn rs t = k + 1
  | [], k, r, _, h, _ => by simp at h
  | r0 :: rs, 0, r, _, h, ht => by
    cases (Option.some.inj h : r0 = r)
    show (if t ∈ r0 then 1 else _) = 1
    rw [if_pos ht]
  | r0 :: rs, k + 1, r, hn, h, ht => by
    have h0 : t ∉ r0 := hn 0 (Nat.succ_pos _) r0 rfl
    have ih := rankIn_at (t := t) (rs := rs) (k := k) (r := r) (fun j hj r' e => hn (j + 1) (Nat.succ_lt_succ hj) r' e) h ht
    show (if t ∈ r0 then 1 else _) = k + 1 + 1
    rw [if_neg h0, ih]
theorem rankIn_no {t : Nat} : ∀ {rs : List (List Nat)}, (∀ r ∈ rs, t ∉ r) → rankIn rs t = 0
  | [], _ => rfl
  | r0 :: rs, h => by
    show (if t ∈ r0 then 1 else _) = 0
    rw [if_neg (h r0 List.mem_cons_self), rankIn_no fun r hr => h r (List.mem_cons_of_mem _ hr)]
def spRank (K : Frg) : Sp := fun vs H Q _ => ∃ r rs t, vs = [r, vn t] ∧ LLN K H r rs ∧ RetG (vn (rankIn rs t)) H Q
theorem sc_rank_among : FnScope N_rank_among ["ranks", "thing"] (defScope s_rank_among) := ⟨rfl, rfl, rfl, by decide +kernel, rfl, by decide +kernel, by decide +kernel⟩
theorem ok_rank_among (G : Gx K mg) : Known P w K mg base CX0 1 "rank_among" ["ranks", "thing"] (spRank K) := by
  have sc := sc_rank_among
  refine G.f_rank_among.known sc (fun _ _ _ _ _ _ us hl => match us, hl with | [_, _], _ => rfl) (fun vs H Q E h => ?_) (fun cdv A outer s H vs Q E hr h => ?_)
  · obtain ⟨r, rs, t, rfl, _⟩ := h; rfl
  · obtain ⟨r, rs, t, rfl, ⟨a, us, rfl, hL, hp⟩, q⟩ := h
    refine ⟨_, (pss_cons (ps_for PassesOwn.never rfl (pi_enum rfl G.n_enumerate (pa_cons (pv 0) pa_nil)) (pg_tup rfl (pgs_cons (pg_name (i := 2) sc.nd rfl (Or.inl rfl)) (pgs_cons (pg_name (i := 3) sc.nd rfl (Or.inl rfl)) pgs_nil)))
      (pss_one (ps_if (pt_cmpR op_in_seq (pv 1) (pv 3) rfl)
      (pss_one (ps_ret (pe_op op_add (pv 2) pe_int))) pss_nil)))
      (pss_one (ps_ret pe_int))), ?_⟩
    refine w_forE (fun Q q => ⟨_, rfl, q⟩) hL (fun k σ H' => ∃ x y, σ = [some (.ref a), some (vn t), x, y] ∧ Same H H' ∧ ∀ j, j < k → ∀ r', rs[j]? = some r' → t ∉ r') ⟨_, _, rfl, Same.refl _, fun j hj => absurd hj (Nat.not_lt_zero _)⟩ (fun i σ H' _ ⟨_, _, _, e, _⟩ => e.seq hL) ?_ ?_
    · rintro k x σ H1 H2 hk ⟨y1, y2, rfl, e1, hn⟩ e2
      obtain ⟨r', hr', ⟨b, rfl, hb⟩⟩ := paired_get hp hk
      refine st_if_ (b := decide (t ∈ r')) (an_test (vl_inL (val_var rfl) (val_var rfl) ((e1.trans e2).seq hb) rfl (flat_n _) (inV_n _ _))) (fun hb => ?_) fun hb => ?_
      · refine ⟨_, rfl, _, _, rfl, rfl, ?_⟩
        have e := rankIn_at hn hr' (of_decide_eq_true hb)
        have z : ((k : Int) + 1) = ((rankIn rs t : Nat) : Int) := by rw [e]; rfl
        show Q (.int ((k : Int) + 1)) H2
        rw [z]
        exact q _ (e1.trans e2)
      · refine ⟨_, _, rfl, e1.trans e2, fun j hj r2 hr2 => ?_⟩
        by_cases ej : j = k
        · subst ej
          rw [hr'] at hr2
          cases hr2
          exact of_decide_eq_false hb
        · exact hn j (by omega) r2 hr2
    · rintro σ H1 ⟨y1, y2, rfl, e1, hn⟩
      have e : rankIn rs t = 0 := rankIn_no fun r hr => by
        obtain ⟨j, hj⟩ := List.mem_iff_getElem?.mp hr
        exact hn j (by have := (List.getElem?_eq_some_iff.mp hj).1; have := hp.length; omega) r hj
      have q' := q _ e1
      rw [e] at q'
      exact q'
end
end Wd
set_option Elab.async false
set_option linter.all false
set_option maxRecDepth 100000
set_option maxHeartbeats 4000000
/-! The own errors: NoWishes, NoAim, made and raised. -/
namespace Wd
open PySem PySem.Spec PyProof.Rows L2
section
variable {K : Frg} {mg : Str → Option Value}
theorem ba2 {a b : Bool} (h : (a && b) = true) : a = true ∧ b = true := Bool.and_eq_true_iff.mp h
theorem exB_ok {x : Str} (h : exB K x = true) : ∃ nm q N bs bm sn sub ab col dd k0 k1 k2 k3 k5, K.lookup (He.ga K x) = some (excClassObj nm q (He.ga K x) N bs bm true sn sub ab col dd k0 k1 k2 k3 k5 "ValueError.__new__") ∧ PySem.HandSPX.refsVE bm = true := by
  unfold exB at h
  split at h
  · rename_i dd cd sl ho
    split at h
    · rename_i c bm k0 k1 k2 k3 n k5 hm hs
      obtain ⟨h, h5⟩ := ba2 h
      obtain ⟨h, h4⟩ := ba2 h
      obtain ⟨h, h3⟩ := ba2 h
      obtain ⟨h1, h2⟩ := ba2 h
      obtain ⟨nm, bs, mro, ns, qn, hd, sn, sub, ab, col, del⟩ := cd
      dsimp only at hm h3 h4
      have e1 := beq_iff_eq.mp h1
      have e2 := beq_iff_eq.mp h2
      have e4 : del = false := by
        cases del with
        | false => rfl
        | true => cases h4
      subst hm e1 e2 h3 e4
      have hsl : sl = #[k0, k1, k2, k3, some (.builtin "ValueError.__new__"), k5] := by
        obtain ⟨l⟩ := sl
        simp only at hs
        rw [hs]
      subst hsl
      exact ⟨nm, qn, ns, bs, bm, sn, sub, ab, col, dd, k0, k1, k2, k3, k5, ho, h5⟩
    · cases h
  · cases h
structure ExFacts (K : Frg) : Prop where
  ow : OexC K (He.ga K "NoWishes")
  oa : OexC K (He.ga K "NoAim")
  xw : XfC K (He.ga K "NoWishes")
  xa : XfC K (He.ga K "NoAim")
  iw : ExcC K (He.ga K "NoWishes")
  ia : ExcC K (He.ga K "NoAim")
  kaa : PySem.W.kitOne K (.ref (He.ga K "NoAim")) (.ref (He.ga K "NoAim")) = some true ∧ PySem.W.exmOne K (.ref (He.ga K "NoAim")) (.ref (He.ga K "NoAim")) = some true
  kwa : PySem.W.kitOne K (.ref (He.ga K "NoWishes")) (.ref (He.ga K "NoAim")) = some false ∧ PySem.W.exmOne K (.ref (He.ga K "NoWishes")) (.ref (He.ga K "NoAim")) = some false
  kww : PySem.W.kitOne K (.ref (He.ga K "NoWishes")) (.ref (He.ga K "NoWishes")) = some true ∧ PySem.W.exmOne K (.ref (He.ga K "NoWishes")) (.ref (He.ga K "NoWishes")) = some true
  kaw : PySem.W.kitOne K (.ref (He.ga K "NoAim")) (.ref (He.ga K "NoWishes")) = some false ∧ PySem.W.exmOne K (.ref (He.ga K "NoAim")) (.ref (He.ga K "NoWishes")) = some false
  kwd : PySem.W.kitOne K (.ref (He.ga K "NoWishes")) (.ref (He.ga K "DealError")) = some true ∧ PySem.W.exmOne K (.ref (He.ga K "NoWishes")) (.ref (He.ga K "DealError")) = some true
  di : PySem.W.findCls K (.ref (He.ga K "DealError")) (.type "type") "__init__" = some (.val (.builtin "ValueError.__init__"))
  dr : PySem.W.readsIn K (He.ga K "DealError") (.type "type") = true
  dg : PySem.W.specialIn K (.ref (He.ga K "DealError")) "__getattribute__" = some (some (.builtin "type.__getattribute__"))
theorem exC_ok {x : Str} (hb : exB K x = true) (h : exC K x = true) : OexC K (He.ga K x) ∧ XfC K (He.ga K x) := by
  obtain ⟨h1, h⟩ := ba2 h
  obtain ⟨h2, h⟩ := ba2 h
  obtain ⟨h3, h⟩ := ba2 h
  obtain ⟨h4, h5⟩ := ba2 h
  exact ⟨⟨exB_ok hb, of_decide_eq_true h1, of_decide_eq_true h2, of_decide_eq_true h3, h4⟩, xfB_ok h5⟩
theorem exD_ok {x : Str} (hx : XfC K (He.ga K x)) (h : exD K x = true) : ExcC K (He.ga K x) := by
  obtain ⟨h1, h⟩ := ba2 h
  obtain ⟨h2, h⟩ := ba2 h
  obtain ⟨h3, h4⟩ := ba2 h
  exact ⟨hx.ga, hx.gg, hx.exC, hx.hdC, of_decide_eq_true h1, of_decide_eq_true h2, of_decide_eq_true h3, of_decide_eq_true h4⟩
theorem exI_ok {x y : Str} {b : Bool} (h : exI K x y b = true) : PySem.W.kitOne K (.ref (He.ga K x)) (.ref (He.ga K y)) = some b ∧ PySem.W.exmOne K (.ref (He.ga K x)) (.ref (He.ga K y)) = some b := by
  obtain ⟨h1, h2⟩ := ba2 h
  exact ⟨of_decide_eq_true h1, of_decide_eq_true h2⟩
theorem clB_ok {x : Str} (h : clB K x = true) : PySem.W.findCls K (.ref (He.ga K x)) (.type "type") "__init__" = some (.val (.builtin "ValueError.__init__")) := by
  unfold clB at h
  split at h
  · rename_i n e
    rw [e, beq_iff_eq.mp h]
  · cases h
theorem exFacts (h : exA K = true) : ExFacts K := by
  obtain ⟨h1, h⟩ := ba2 h
  obtain ⟨h2, h⟩ := ba2 h
  obtain ⟨h3, h⟩ := ba2 h
  obtain ⟨h4, h⟩ := ba2 h
  obtain ⟨h5, h⟩ := ba2 h
  obtain ⟨h6, h⟩ := ba2 h
  obtain ⟨h7, h⟩ := ba2 h
  obtain ⟨h8, h⟩ := ba2 h
  obtain ⟨h9, h⟩ := ba2 h
  obtain ⟨h10, h⟩ := ba2 h
  obtain ⟨h11, h⟩ := ba2 h
  obtain ⟨h12, h⟩ := ba2 h
  obtain ⟨h13, h⟩ := ba2 h
  obtain ⟨h14, _⟩ := ba2 h
  obtain ⟨a1, a2⟩ := exC_ok h1 h3
  obtain ⟨b1, b2⟩ := exC_ok h2 h4
  exact ⟨a1, b1, a2, b2, exD_ok a2 h5, exD_ok b2 h6, exI_ok h7, exI_ok h8, exI_ok h9, exI_ok h10, exI_ok h11, clB_ok h12, h13, of_decide_eq_true h14⟩
/-! ### DealError.__init__(self, 'm') -/
section
variable {X : Cx} {e : Expr} {es : List Expr} {ta : TA} {p1 p2 pos : Pos}
theorem pe_dinit {pl : Sem Bool} {D : Addr} (hm : X.mg "DealError" = some (.ref D)) (f1 : PySem.W.findCls X.K (.ref D) (.type "type") "__init__" = some (.val (.builtin "ValueError.__init__"))) (f2 : PySem.W.readsIn X.K D (.type "type") = true)
    (f3 : PySem.W.specialIn X.K (.ref D) "__getattribute__" = some (some (.builtin "type.__getattribute__"))) (ha : PA X (e :: es) ta) (hg : Gl X "DealError" := by rfl)
    (hc : eval (.Call (.Attribute (.Name "DealError" p1) "__init__" p2) (e :: es) [] pos) X.env = (do
      let ov ← eval (.Name "DealError" p1) X.env
      standAt p2.atName
      let (f, first) ← holding [ov] (getMethod ov "__init__" pl)
      callWith pos f first (backTo pos (starEach (e :: es) X.env)) (backToKw pos (keywordEach [] X.env))) := by rfl)
    (he : starEach (e :: es) X.env = (false, eval e X.env) :: starEach es X.env := by rfl) (hpl : (backTo pos (starEach es X.env)).any (·.1) = false := by rfl) :
    PE X (.Call (.Attribute (.Name "DealError" p1) "__init__" p2) (e :: es) [] pos) (tVeI X.K ta) := by
  refine ⟨fun pins s σ H Q I h => ?_⟩
  refine PySem.W.methodCall_KW (ld_glob I hg hm ?_) hc
  refine PySem.W.method_cls I.kIn f3 (PySem.W.cls_value I.kIn f2 f1 (by decide +kernel) ?_)
  show wpAny _ _ (callWith pos (Value.builtin "ValueError.__init__") [] (backTo pos (starEach (e :: es) X.env)) []) _ _ _
  refine PyProof.Rows.callWith_method1 (thn (ha.run pos pins _ σ H _ (I.tok _) h) fun us s1 hh => ?_) he hpl
  obtain ⟨vs, H1, I1, r1, a, C, ws, ev, hl, T, ea, q⟩ := hh
  subst ev
  cases r1 with
  | @cons _ u0 _ ur ra rw' =>
    obtain rfl : u0 = Value.ref a := ra
    have hlen : ur.length ≤ sizeLine := by
      have l := Paired.length rw'
      rw [sizeLine_eq]
      omega
    exact oinit_ok T I1 ea hlen fun s' J => ⟨.non, H1, J, rfl, q⟩
end
/-! ### the two __init__ -/
def spInitW (K : Frg) : Sp := fun vs H Q _ => ∃ (a : Addr) (p n : V), vs = [.ref a, p, n] ∧ H a = some (exo a (He.ga K "NoWishes") none) ∧
  ∀ (d : Addr), H d = none → d ≠ a → Q .non (upd (upd (upd H d (exd d [("part", p)])) a (exo a (He.ga K "NoWishes") (some d))) d (exd d [("number", n), ("part", p)]))
def spInitA (K : Frg) : Sp := fun vs H Q _ => ∃ (a : Addr) (p : V), vs = [.ref a, p] ∧ H a = some (exo a (He.ga K "NoAim") none) ∧
  ∀ (d : Addr), H d = none → d ≠ a → Q .non (upd (upd H d (exd d [("part", p)])) a (exo a (He.ga K "NoAim") (some d)))
variable {P : Program} {w : World} {base : Heap}
theorem sc_initW : FnScope N_NoWishes_init ["self", "part", "number"] (defScope s_NoWishes_init) := ⟨rfl, rfl, rfl, by decide +kernel, rfl, by decide +kernel, by decide +kernel⟩
theorem ok_initW (G : Gx K mg) : KnownM P w K mg base CX0 1 (He.ga K "NoWishes") "__init__" ["self", "part", "number"] (spInitW K) := by
  have sc := sc_initW
  have X := exFacts G.ex
  refine G.f_NoWishes_init.known sc (fun _ _ _ _ _ _ us hl => match us, hl with | [_, _, _], _ => rfl) (fun vs H Q E h => ?_) (fun cdv A outer s H vs Q E hr h => ?_)
  · obtain ⟨a, p, n, rfl, _⟩ := h; rfl
  · obtain ⟨a, p, n, rfl, ha, q⟩ := h
    refine ⟨_, pss_cons (ps_expr (pe_dinit G.g_DealError X.di X.dr X.dg (pa_cons (pv 0) (pa_cons pe_str pa_nil)))) (pss_cons (ps_ost (pv 0) (pv 1)) (pss_one (ps_ost (pv 0) (pv 2)))), ?_⟩
    refine ⟨_, rfl, a, _, _, rfl, (by show 1 ≤ 1000; decide), X.ow, ha, ?_⟩
    refine ⟨_, rfl, _, rfl, a, _, rfl, X.ow, G.a_NoWishes_part, .inl ⟨ha, fun d hd hda => ?_⟩⟩
    have h1 : (upd (upd H d (exd d [("part", p)])) a (exo a (He.ga K "NoWishes") (some d))) d = some (exd d [("part", p)]) := by rw [upd_ne hda, upd_same]
    exact ⟨_, rfl, _, rfl, a, _, rfl, X.ow, G.a_NoWishes_number, .inr ⟨d, _, upd_same, h1, (by show 1 ≤ 900; decide), q d hd hda⟩⟩
theorem sc_initA : FnScope N_NoAim_init ["self", "part"] (defScope s_NoAim_init) := ⟨rfl, rfl, rfl, by decide +kernel, rfl, by decide +kernel, by decide +kernel⟩
theorem ok_initA (G : Gx K mg) : KnownM P w K mg base CX0 1 (He.ga K "NoAim") "__init__" ["self", "part"] (spInitA K) := by
  have sc := sc_initA
  have X := exFacts G.ex
  refine G.f_NoAim_init.known sc (fun _ _ _ _ _ _ us hl => match us, hl with | [_, _], _ => rfl) (fun vs H Q E h => ?_) (fun cdv A outer s H vs Q E hr h => ?_)
  · obtain ⟨a, p, rfl, _⟩ := h; rfl
  · obtain ⟨a, p, rfl, ha, q⟩ := h
    refine ⟨_, pss_cons (ps_expr (pe_dinit G.g_DealError X.di X.dr X.dg (pa_cons (pv 0) (pa_cons pe_str pa_nil)))) (pss_one (ps_ost (pv 0) (pv 1))), ?_⟩
    refine ⟨_, rfl, a, _, _, rfl, (by show 1 ≤ 1000; decide), X.oa, ha, ?_⟩
    exact ⟨_, rfl, _, rfl, a, _, rfl, X.oa, G.a_NoAim_part, .inl ⟨ha, fun d hd hda => q d hd hda⟩⟩
end
end Wd
set_option Elab.async false
set_option linter.all false
set_option maxRecDepth 100000
set_option maxHeartbeats 4000000
/-! Expressions' values, from H and from every heap that grew from it. -/
namespace Wd
open PySem PySem.Spec PyProof.Rows L2
def Pv (te : TE) (σ : L2.St) (H : Hp) (v : V) : Prop := ∀ H1, Same H H1 → ∀ Q : VK, RetG v H1 Q → te σ H1 Q
def Pva (t : TA) (σ : L2.St) (H : Hp) (vs : List V) : Prop := ∀ H1, Same H H1 → ∀ Q : List V → Hp → Prop, (∀ H2, Same H1 H2 → Q vs H2) → t σ H1 Q
def Pt (t : TT) (σ : L2.St) (H : Hp) (b : Bool) : Prop := ∀ H1, Same H H1 → ∀ Q : Bool → Hp → Prop, (∀ H2, Same H1 H2 → Q b H2) → t σ H1 Q
theorem SqL.mn {K : Frg} {H H1 : Hp} (e : Same H H1) {a : Addr} {xs : List V} (h : SqL K H a xs) : SqL K H1 a xs := (Le.of e).l h
theorem SqT.mn {K : Frg} {H H1 : Hp} (e : Same H H1) {a : Addr} {xs : List V} (h : SqT K H a xs) : SqT K H1 a xs := (Le.of e).t h
theorem dget_le {H H1 : Hp} (e : Le H H1) {a : Addr} {k : Key} {r : Option V} (h : ∃ kvs, Rd H a (.dK kvs) ∧ r = valV kvs k) : DGet H1 a (kV k) r := by
  obtain ⟨kvs, h, hr⟩ := h
  exact .inl ⟨kvs, k, e _ _ h, rfl, hr⟩
/-- the dict at a has kvs -/
abbrev RdD (H : Hp) (a : Addr) (kvs : List (Key × V)) : Prop := Rd H a (.dK kvs)
section
variable {K : Frg} {σ : L2.St} {H : Hp} {ta tb tc te : TE} {t : TA} {x y z v : V} {vs : List V} {E : XK} {sp : Sp} {u w : TT}
theorem Pv.run (p : Pv te σ H v) {Q : VK} (q : RetG v H Q) : te σ H Q := p H (Same.refl H) Q q
theorem Pv.mn {H1 : Hp} (e : Same H H1) (p : Pv te σ H v) : Pv te σ H1 v := fun H2 e2 => p H2 (e.trans e2)
theorem Pv.ofVal (h : ∀ H1, Same H H1 → Val te σ H1 v) : Pv te σ H v := fun H1 e Q q => h H1 e Q (q H1 (Same.refl H1))
theorem Pv.evs (p : Pv te σ H v) : EvS te σ H v := fun Q q => p.run q
theorem pv_var {i : Nat} (h : σ[i]? = some (some v)) : Pv (tVar i) σ H v := .ofVal fun _ _ => val_var h
theorem pv_c : Pv (tC v) σ H v := .ofVal fun _ _ => val_c
theorem pv_op {r : R2} (ha : Pv ta σ H x) (hb : Pv tb σ H y) (hr : ∀ H1, Same H H1 → ∀ Q, RetG z H1 Q → r x y H1 Q) : Pv (tOp r ta tb) σ H z :=
  fun H1 e Q q => ha H1 e _ fun H2 e2 => hb H2 (e.trans e2) _ fun H3 e3 => hr H3 (e.trans (e2.trans e3)) Q fun H4 e4 => q H4 (e2.trans (e3.trans e4))
theorem pv_add {i j : Int} (ha : Pv ta σ H (.int i)) (hb : Pv tb σ H (.int j)) : Pv (tOp (rI0 fun i j => .int (i + j)) ta tb) σ H (.int (i + j)) := pv_op ha hb fun H1 _ _ q => ⟨i, j, rfl, rfl, q H1 (Same.refl H1)⟩
theorem pv_sub {i j : Int} (ha : Pv ta σ H (.int i)) (hb : Pv tb σ H (.int j)) : Pv (tOp (rI0 fun i j => .int (i - j)) ta tb) σ H (.int (i - j)) := pv_op ha hb fun H1 _ _ q => ⟨i, j, rfl, rfl, q H1 (Same.refl H1)⟩
theorem pv_mul {i j : Int} (ha : Pv ta σ H (.int i)) (hb : Pv tb σ H (.int j)) (hc : CMul i j) : Pv (tOp (rI CMul fun i j => .int (i * j)) ta tb) σ H (.int (i * j)) := pv_op ha hb fun H1 _ _ q => ⟨i, j, rfl, rfl, hc, q H1 (Same.refl H1)⟩
theorem pv_ixL {p : Addr} {xs : List V} {i : Int} (ha : Pv ta σ H (.ref p)) (hb : Pv tb σ H (.int i)) (h : SqL K H p xs) (hi : atI xs i = some v) : Pv (tOp (rIxL K) ta tb) σ H v := pv_op ha hb fun H1 e _ q => ⟨p, xs, i, v, rfl, rfl, SqL.mn e h, hi, q H1 (Same.refl H1)⟩
theorem pv_ixT {p : Addr} {xs : List V} {i : Int} (ha : Pv ta σ H (.ref p)) (hb : Pv tb σ H (.int i)) (h : SqT K H p xs) (hi : atI xs i = some v) : Pv (tOp (rIxT K) ta tb) σ H v := pv_op ha hb fun H1 e _ q => ⟨p, xs, i, v, rfl, rfl, SqT.mn e h, hi, q H1 (Same.refl H1)⟩
theorem pv_eq {b : Bool} (ha : Pv ta σ H x) (hb : Pv tb σ H y) (hs : scal x y = true) (hd : decide (x = y) = b) : Pv (tOp rEq ta tb) σ H (.bl b) := pv_op ha hb fun H1 e _ q => ⟨hs, by rw [hd]; exact q H1 (Same.refl H1)⟩
theorem pv_ne {b : Bool} (ha : Pv ta σ H x) (hb : Pv tb σ H y) (hs : scal x y = true) (hd : (!decide (x = y)) = b) : Pv (tOp rNe ta tb) σ H (.bl b) := pv_op ha hb fun H1 e _ q => ⟨hs, by rw [hd]; exact q H1 (Same.refl H1)⟩
theorem pv_cmp {i j : Int} {b : Bool} {f : Int → Int → Bool} (ha : Pv ta σ H (.int i)) (hb : Pv tb σ H (.int j)) (hd : f i j = b) : Pv (tOp (rI0 fun i j => .bl (f i j)) ta tb) σ H (.bl b) := pv_op ha hb fun H1 _ _ q => ⟨i, j, rfl, rfl, by show _; have := q H1 (Same.refl H1); rw [← hd] at this; exact this⟩
theorem pv_isN {b : Bool} (ha : Pv ta σ H x) (hd : decide (x = .non) = b) : Pv (tOp (fun x y H Q => y = .non ∧ Q (.bl (decide (x = .non))) H) ta (tC .non)) σ H (.bl b) := pv_op ha pv_c fun H1 _ _ q => ⟨rfl, by rw [hd]; exact q H1 (Same.refl H1)⟩
theorem pv_notN {b : Bool} (ha : Pv ta σ H x) (hd : (!decide (x = .non)) = b) : Pv (tOp (fun x y H Q => y = .non ∧ Q (.bl (!decide (x = .non))) H) ta (tC .non)) σ H (.bl b) := pv_op ha pv_c fun H1 _ _ q => ⟨rfl, by rw [hd]; exact q H1 (Same.refl H1)⟩
theorem pv_in {neg b : Bool} {p : Addr} {xs : List V} (ha : Pv ta σ H x) (hb : Pv tb σ H (.ref p)) (h : SqL K H p xs) (hx : flatV x = true) (hf : xs.all flatV = true) (hd : (if neg then !inV x xs else inV x xs) = b) : Pv (tOp (rIn K neg) ta tb) σ H (.bl b) :=
  pv_op ha hb fun H1 e _ q => ⟨p, xs, rfl, .inl (SqL.mn e h), hx, hf, by rw [hd]; exact q H1 (Same.refl H1)⟩
theorem pv_inT {neg b : Bool} {p : Addr} {xs : List V} (ha : Pv ta σ H x) (hb : Pv tb σ H (.ref p)) (h : SqT K H p xs) (hx : flatV x = true) (hf : xs.all flatV = true) (hd : (if neg then !inV x xs else inV x xs) = b) : Pv (tOp (rIn K neg) ta tb) σ H (.bl b) :=
  pv_op ha hb fun H1 e _ q => ⟨p, xs, rfl, .inr (SqT.mn e h), hx, hf, by rw [hd]; exact q H1 (Same.refl H1)⟩
theorem pv_fld {a C dx : Addr} {fs : List (Str × V)} {f : Str} (ha : Pv ta σ H (.ref a)) (h : H a = some (.ins C dx fs)) (hc : Cls K C) (hn : NoAttr K C f) (hl : fs.lookup f = some v) : Pv (tFld K ta f) σ H v :=
  fun H1 e Q q => ha H1 e _ fun H2 e2 => ⟨a, C, dx, fs, v, rfl, e2 _ _ (e _ _ h), hc, hn, hl, q H2 e2⟩
theorem pv_dget {a : Addr} {k : Key} {kvs : List (Key × V)} (ha : Pv ta σ H (.ref a)) (hb : Pv tb σ H (kV k)) (h : RdD H a kvs) (hv : valV kvs k = some v) : Pv (tDGet ta tb) σ H v :=
  fun H1 e Q q => ha H1 e _ fun H2 e2 => hb H2 (e.trans e2) _ fun H3 e3 => ⟨a, v, rfl, dget_le (Le.of (e.trans (e2.trans e3))) ⟨kvs, h, hv.symm⟩, q H3 (e2.trans e3)⟩
theorem pt_din {a : Addr} {k : Key} {kvs : List (Key × V)} {b : Bool} (hb : Pv tb σ H (kV k)) (ha : Pv ta σ H (.ref a)) (h : RdD H a kvs) (hv : (valV kvs k).isSome = b) : Pv (tDIn tb ta) σ H (.bl b) :=
  fun H1 e Q q => hb H1 e _ fun H2 e2 => ha H2 (e.trans e2) _ fun H3 e3 => ⟨a, _, rfl, dget_le (Le.of (e.trans (e2.trans e3))) ⟨kvs, h, rfl⟩, by rw [hv]; exact q H3 (e2.trans e3)⟩
theorem pt_dnin {a : Addr} {k : Key} {kvs : List (Key × V)} {b : Bool} (hb : Pv tb σ H (kV k)) (ha : Pv ta σ H (.ref a)) (h : RdD H a kvs) (hv : (!(valV kvs k).isSome) = b) : Pv (tDNotIn tb ta) σ H (.bl b) :=
  fun H1 e Q q => hb H1 e _ fun H2 e2 => ha H2 (e.trans e2) _ fun H3 e3 => ⟨a, _, rfl, dget_le (Le.of (e.trans (e2.trans e3))) ⟨kvs, h, rfl⟩, by rw [hv]; exact q H3 (e2.trans e3)⟩
theorem pva_nil : Pva tNil σ H [] := fun H1 _ Q q => q H1 (Same.refl H1)
theorem pva_cons (ha : Pv ta σ H x) (hr : Pva t σ H vs) : Pva (tCons ta t) σ H (x :: vs) := fun H1 e Q q => ha H1 e _ fun H2 e2 => hr H2 (e.trans e2) _ fun H3 e3 => q H3 (e2.trans e3)
theorem pva_1 (ha : Pv ta σ H x) : Pva (tCons ta tNil) σ H [x] := pva_cons ha pva_nil
theorem pva_2 (ha : Pv ta σ H x) (hb : Pv tb σ H y) : Pva (tCons ta (tCons tb tNil)) σ H [x, y] := pva_cons ha (pva_1 hb)
theorem pva_3 (ha : Pv ta σ H x) (hb : Pv tb σ H y) (hc : Pv tc σ H z) : Pva (tCons ta (tCons tb (tCons tc tNil))) σ H [x, y, z] := pva_cons ha (pva_2 hb hc)
theorem pv_call (ha : Pva t σ H vs) (hs : ∀ H1, Same H H1 → ∀ Q, RetG v H1 Q → sp vs H1 Q E) : Pv (tCall sp [] E t) σ H v := fun H1 e Q q => ha H1 e _ fun H2 e2 => by
  rw [List.append_nil]
  exact hs H2 (e.trans e2) Q fun H3 e3 => q H3 (e2.trans e3)
theorem pv_cb {r : List V → Hp → VK → Prop} (ha : Pva t σ H vs) (hs : ∀ H1, Same H H1 → ∀ Q, RetG v H1 Q → r vs H1 Q) : Pv (tCB r t) σ H v := fun H1 e Q q => ha H1 e _ fun H2 e2 => hs H2 (e.trans e2) Q fun H3 e3 => q H3 (e2.trans e3)
theorem pv_meth {C a dx : Addr} {m : Str} {fs : List (Str × V)} (ho : Pv ta σ H (.ref a)) (h : H a = some (.ins C dx fs)) (hl : fs.lookup m = none) (ha : Pva t σ H vs) (hs : ∀ H1, Same H H1 → ∀ Q, RetG v H1 Q → sp (.ref a :: vs) H1 Q E) : Pv (tMeth C m sp [] E ta t) σ H v :=
  fun H1 e Q q => ho H1 e _ fun H2 e2 => ⟨a, dx, fs, rfl, e2 _ _ (e _ _ h), hl, ha H2 (e.trans e2) _ fun H3 e3 => by
    rw [List.append_nil]
    exact hs H3 (e.trans (e2.trans e3)) Q fun H4 e4 => q H4 (e2.trans (e3.trans e4))⟩
theorem pv_len {p : Addr} {xs : List V} {n : Nat} (ha : Pv ta σ H (.ref p)) (h : SqL K H p xs ∨ SqT K H p xs) (hn : xs.length = n) :
    Pv (tCB (fun xs H Q => ∃ p ys, xs = [.ref p] ∧ (SqL K H p ys ∨ SqT K H p ys) ∧ Q (.int ys.length) H) (tCons ta tNil)) σ H (vn n) := pv_cb (pva_1 ha) fun H1 e Q q => ⟨p, xs, rfl, h.imp (SqL.mn e) (SqT.mn e), by rw [hn]; exact q H1 (Same.refl H1)⟩
theorem pv_isi {C : V} {ty u : Value} {b : Bool} (ha : Pv ta σ H x) (hb : Pv tb σ H C) (hc : ClsV C u) (hx : ∀ H1, Same H H1 → TyX K H1 x ty) (hk : PySem.W.kitOne K ty u = some b) : Pv (tCB (rIsi K) (tCons ta (tCons tb tNil))) σ H (.bl b) :=
  pv_cb (pva_2 ha hb) fun H1 e Q q => ⟨x, C, ty, u, b, rfl, hc, hx H1 e, hk, q H1 (Same.refl H1)⟩
theorem pv_isT {n m : String} {b : Bool} (ha : Pv ta σ H x) (hx : ∀ H1, Same H H1 → TyX K H1 x (.type n)) (hk : kitB n m = some b := by decide +kernel) : Pv (tCB (rIsi K) (tCons ta (tCons (tC (.ty m)) tNil))) σ H (.bl b) := pv_isi ha pv_c (.ty m) hx (kit_ty hk)
theorem pv_and {b c : Bool} (ha : Pv ta σ H (.bl b)) (hb : b = true → Pv tb σ H (.bl c)) : Pv (tAndV ta tb) σ H (.bl (b && c)) := fun H1 e Q q => ha H1 e _ fun H2 e2 => ⟨b, rfl, by
  cases b with
  | true => rw [if_pos rfl]; exact hb rfl H2 (e.trans e2) _ fun H3 e3 => q H3 (e2.trans e3)
  | false => rw [if_neg (fun h => nomatch h)]; exact q H2 e2⟩
theorem pv_not {b : Bool} (ha : Pv ta σ H (.bl b)) : Pv (tNotV ta) σ H (.bl (!b)) := fun H1 e Q q => ha H1 e _ fun H2 e2 => ⟨b, rfl, q H2 e2⟩
theorem pv_chain {i j k : Int} {b : Bool} {f g : Int → Int → Bool} (ha : Pv ta σ H (.int i)) (hb : Pv tb σ H (.int j)) (hc : Pv tc σ H (.int k)) (hd : (f i j && g j k) = b) : Pv (tChain (rI0 fun i j => .bl (f i j)) (rI0 fun i j => .bl (g i j)) ta tb tc) σ H (.bl b) :=
  fun H1 e Q q => ha H1 e _ fun H2 e2 => hb H2 (e.trans e2) _ fun H3 e3 => ⟨i, j, rfl, rfl, _, rfl, by
    cases h : f i j with
    | true =>
      rw [if_pos rfl]
      rw [h, Bool.true_and] at hd
      exact hc H3 (e.trans (e2.trans e3)) _ fun H4 e4 => ⟨j, k, rfl, rfl, by show Q (.bl (g j k)) H4; rw [hd]; exact q H4 (e2.trans (e3.trans e4))⟩
    | false =>
      rw [if_neg (fun h => nomatch h)]
      rw [h, Bool.false_and] at hd
      rw [hd]
      exact q H3 (e2.trans e3)⟩
theorem pt_b {b : Bool} (h : Pv te σ H (.bl b)) : Pt (tB te) σ H b := fun H1 e Q q => h H1 e _ fun H2 e2 => ⟨b, rfl, q H2 e2⟩
theorem pt_t {b : Bool} (h : Pv te σ H (.bl b)) : Pt (tTest te) σ H b := fun H1 e Q q => h H1 e _ fun H2 e2 => ⟨b, rfl, q H2 e2⟩
theorem pt_n {b : Bool} (h : Pt u σ H b) : Pt (tNot u) σ H (!b) := fun H1 e Q q => h H1 e _ fun H2 e2 => q H2 e2
theorem pt_or {b c : Bool} (h : Pt u σ H b) (k : b = false → Pt w σ H c) : Pt (tOr u w) σ H (b || c) := fun H1 e Q q => h H1 e _ fun H2 e2 => by
  cases b with
  | true => rw [if_pos rfl]; exact q H2 e2
  | false => rw [if_neg (fun h => nomatch h)]; exact k rfl H2 (e.trans e2) _ fun H3 e3 => q H3 (e2.trans e3)
theorem pt_and {b c : Bool} (h : Pt u σ H b) (k : b = true → Pt w σ H c) : Pt (tAnd u w) σ H (b && c) := fun H1 e Q q => h H1 e _ fun H2 e2 => by
  cases b with
  | true => rw [if_pos rfl]; exact k rfl H2 (e.trans e2) _ fun H3 e3 => q H3 (e2.trans e3)
  | false => rw [if_neg (fun h => nomatch h)]; exact q H2 e2
theorem Pt.to {b c : Bool} (h : Pt u σ H b) (e : b = c) : Pt u σ H c := e ▸ h
theorem Pv.to (h : Pv te σ H x) (e : x = y) : Pv te σ H y := e ▸ h
/-! statements -/
variable {D : Ends} {t1 t2 : TS}
theorem ss_if {b : Bool} (h : Pt u σ H b) (q1 : ∀ H1, Same H H1 → b = true → t1 D σ H1) (q2 : ∀ H1, Same H H1 → b = false → t2 D σ H1) : tIfS u t1 t2 D σ H := h H (Same.refl H) _ fun H1 e => by
  cases b with
  | true => rw [if_pos rfl]; exact q1 H1 e rfl
  | false => rw [if_neg (fun h => nomatch h)]; exact q2 H1 e rfl
theorem ss_ret (h : Pv te σ H v) (q : RetG v H D.rt) : tRet te D σ H := h.run q
theorem ss_drop (h : Pv te σ H v) (q : ∀ H1, Same H H1 → D.nx σ H1) : tDrop te D σ H := h.run q
theorem ss_set {i : Nat} (h : Pv te σ H v) (q : ∀ H1, Same H H1 → D.nx (σ.set i (some v)) H1) : tAsg te (gName i) D σ H := h.run q
theorem ss_app {i : Nat} {p : Addr} {xs : List V} (ho : σ[i]? = some (some (.ref p))) (hp : H p = some (.lst xs)) (hl : xs.length < sizeLine) (h : Pv te σ H v) (q : ∀ H1, Same H H1 → D.nx σ (upd H1 p (.lst (xs ++ [v])))) : tDrop (tBM K "list" rAppend (tVar i) (tCons te tNil)) D σ H :=
  ⟨_, ho, .inl ⟨rfl, xs, SqL.of hp⟩, h.run fun H1 e => ⟨p, xs, v, rfl, rfl, e _ _ hp, hl, q H1 e⟩⟩
/-- d[k] = v -/
theorem ss_dput {a : Addr} {k : Key} {kvs : List (Key × V)} (hv : Pv te σ H v) (ha : Pv ta σ H (.ref a)) (hk : Pv tb σ H (kV k)) (h : H a = some (.dK kvs)) (hz : kvs.length < sizeLine) (q : ∀ H1, Same H H1 → D.nx σ (upd H1 a (.dK (putK kvs k v)))) : sDPut ta tb te D σ H :=
  hv.run fun H1 e1 => ha H1 e1 _ fun H2 e2 => hk H2 (e1.trans e2) _ fun H3 e3 => ⟨a, _, rfl, .inl ⟨kvs, k, (e1.trans (e2.trans e3)) _ _ h, rfl, hz, rfl⟩, q H3 (e1.trans (e2.trans e3))⟩
/-- o.f = v -/
theorem ss_fld {a C dx : Addr} {fs : List (Str × V)} {f : Str} (hv : Pv te σ H v) (ha : Pv ta σ H (.ref a)) (h : H a = some (.ins C dx fs)) (hc : Cls K C) (hn : NoAttr K C f) (hl : fs.length < 1000) (q : ∀ H1, Same H H1 → D.nx σ (upd H1 a (.ins C dx (putF f v fs)))) : sFld K ta te f D σ H :=
  hv.run fun H1 e1 => ha H1 e1 _ fun H2 e2 => ⟨a, C, dx, fs, rfl, e2 _ _ (e1 _ _ h), hc, hn, hl, q H2 (e1.trans e2)⟩
/-- x = [..] -/
theorem ss_lst {i : Nat} (h : Pva t σ H vs) (hz : vs.length ≤ sizeLine) (q : ∀ H1 p, Same H H1 → H1 p = none → D.nx (σ.set i (some (.ref p))) (upd H1 p (.lst vs))) : tAsg (tLst t) (gName i) D σ H := h H (Same.refl H) _ fun H1 e => ⟨hz, fun p hp => q H1 p e hp⟩
end
end Wd
set_option Elab.async false
set_option linter.all false
set_option maxRecDepth 100000
set_option maxHeartbeats 4000000
/-! wishes looked at -/
namespace Wd
open PySem PySem.Spec PyProof.Rows L2
/-! ### what is raised -/
def RzW (K : Frg) (p n : V) (H : Hp) (E : XK) : Prop := ∀ H' d, Same H H' → H' d = some (.xd [("number", n), ("part", p)]) → E (.ref (He.ga K "NoWishes")) (some d) H'
def RzA (K : Frg) (p : V) (H : Hp) (E : XK) : Prop := ∀ H' d, Same H H' → H' d = some (.xd [("part", p)]) → E (.ref (He.ga K "NoAim")) (some d) H'
theorem RzW.mn {K : Frg} {p n : V} {H H1 : Hp} {E : XK} (e : Same H H1) (h : RzW K p n H E) : RzW K p n H1 E := fun H' d e' => h H' d (e.trans e')
theorem RzA.mn {K : Frg} {p : V} {H H1 : Hp} {E : XK} (e : Same H H1) (h : RzA K p H E) : RzA K p H1 E := fun H' d e' => h H' d (e.trans e')
section
variable {X : Cx} {CX : CXT} {k : Nat} {ps : List Str} {sp : Sp} {x : Str} {p pos : Pos} {e : Expr} {es : List Expr} {ta : TA}
theorem pmk_kn (F : KnownM X.prog X.w X.K X.mg X.base CX0 k (He.ga X.K x) "__init__" ps sp) (T : OexC X.K (He.ga X.K x)) (hr : Room (k + 1) X.A) (hm : X.mg x = some (.ref (He.ga X.K x))) (ha : PA X (e :: es) ta) (hg : Gl X x := by rfl)
    (hdb : (x == ("__debug__" : Str)) = false := by decide) (he : starEach (e :: es) X.env = (false, eval e X.env) :: starEach es X.env := by rfl) (hpl : (backTo pos (starEach es X.env)).any (·.1) = false := by rfl) :
    PMk X (.Call (.Name x p) (e :: es) [] pos) (tMkO (He.ga X.K x) sp [] ta) := by
  obtain ⟨f, fd, h1, h2, h3⟩ := F.ex
  exact pmk_oex T h1.at_ (by have := h1.fn; unfold PySem.W.isFn at this; exact beq_iff_eq.mp this) h2 hr h3 .nil pass0 hg hm ha hdb he hpl
end
section
variable {K : Frg} {σ : L2.St} {H : Hp} {ta tb : TE} {x y : V} {E : XK}
theorem mk_heap {H1 : Hp} {a d : Addr} {u1 u2 u3 u4 : HO} (ha : H1 a = none) : upd (del (upd (upd (upd (upd H1 a u1) d u2) a u3) d u4) a) d u2 = upd H1 d u2 := by
  funext b
  unfold upd del
  by_cases h1 : b = d
  · simp [h1]
  · by_cases h2 : b = a
    · simp [h1, h2]
      subst h2
      simp [h1, ha]
    · simp [h1, h2]
theorem rz_w (p : Pva (tCons ta (tCons tb tNil)) σ H [x, y]) (q : RzW K x y H E) : tMkO (He.ga K "NoWishes") (spInitW K) [] (tCons ta (tCons tb tNil)) σ H E := by
  refine p H (Same.refl H) _ fun H1 e => ⟨by show 2 ≤ 1000; decide, fun a ha => ⟨a, x, y, rfl, upd_same, fun d hd hda => ⟨rfl, d, _, by rw [upd_ne (Ne.symm hda), upd_same], upd_same, ?_, ?_⟩⟩⟩
  · rw [upd_ne hda] at hd
    exact hd
  · rw [upd_ne hda] at hd
    refine q _ d (fun b o hb => ?_) upd_same
    have h1 := e _ _ hb
    have nd : b ≠ d := fun z => by subst z; rw [hd] at h1; cases h1
    have na : b ≠ a := fun z => by subst z; rw [ha] at h1; cases h1
    rw [upd_ne nd, del_ne na, upd_ne nd, upd_ne na, upd_ne nd, upd_ne na]
    exact h1
theorem rz_a (p : Pva (tCons ta tNil) σ H [x]) (q : RzA K x H E) : tMkO (He.ga K "NoAim") (spInitA K) [] (tCons ta tNil) σ H E := by
  refine p H (Same.refl H) _ fun H1 e => ⟨by show 1 ≤ 1000; decide, fun a ha => ⟨a, x, rfl, upd_same, fun d hd hda => ⟨rfl, d, _, upd_same, by rw [upd_ne hda, upd_same], ?_, ?_⟩⟩⟩
  · rw [upd_ne hda] at hd
    exact hd
  · rw [upd_ne hda] at hd
    refine q _ d (fun b o hb => ?_) upd_same
    have h1 := e _ _ hb
    have nd : b ≠ d := fun z => by subst z; rw [hd] at h1; cases h1
    have na : b ≠ a := fun z => by subst z; rw [ha] at h1; cases h1
    rw [upd_ne nd, del_ne na, upd_ne na, upd_ne nd, upd_ne na]
    exact h1
end
/-! ### shaped data -/
theorem shp_list {n : Nat} {ds : List PyData} (h : ∀ d ∈ ds, PyData.canLay0 d = true ∧ PyData.depth d ≤ n) (hn : n < 64) : SeqAt.shaped (.list ds) = true := by
  have h1 : PyData.canLayAll0 ds = true := by
    clear hn
    induction ds with
    | nil => rfl
    | cons d r ih =>
      rw [PyData.canLayAll0, (h d List.mem_cons_self).1, ih fun x hx => h x (List.mem_cons_of_mem _ hx)]
      rfl
  have h2 : PyData.depthAll ds ≤ n := by
    clear hn h1
    induction ds with
    | nil => exact Nat.zero_le _
    | cons d r ih =>
      rw [PyData.depthAll]
      exact Nat.max_le.mpr ⟨(h d List.mem_cons_self).2, ih fun x hx => h x (List.mem_cons_of_mem _ hx)⟩
  unfold SeqAt.shaped
  rw [Bool.and_eq_true_iff]
  refine ⟨by rw [PyData.canLay0]; exact h1, decide_eq_true (by rw [PyData.depth]; omega)⟩
theorem dp_ns {K : Frg} {H : Hp} : ∀ ns : List Nat, DpAll K H (ns.map vn) (ns.map fun n : Nat => PyData.int (n : Int))
  | [] => .nil
  | n :: r => .cons (.int _) (dp_ns r)
/-! ### the raw data -/
def rank5 (m : Nat) (rs : List (List Nat)) : Bool := decide (rs.length ≤ 5) && (rs.all (fun r => !r.isEmpty && r.all (fun t => decide (t < m))) && decide rs.flatten.Nodup)
/-- the first place of which P does not hold -/
def firstBad {α : Type} (P : α → Bool) (xs : List α) : Option Nat := if xs.all P then none else some (xs.findIdx fun x => !P x)
def vstr (s : Str) : V := .str s
def wFault (cs : List Nat) (ls : List (List (List Nat))) : Option (Str × Option Nat) :=
  if cs.length < 1 ∨ 6 < cs.length then some ("copies", none)
  else match firstBad (fun c => decide (c ≤ 7)) cs with
    | some i => some ("copies", some i)
    | none => if ls.length < 1 ∨ 7 < ls.length then some ("lists", none)
      else match firstBad (rank5 cs.length) ls with
        | some i => some ("lists", some i)
        | none => none
def LLLN (K : Frg) (H : Hp) (v : V) (lss : List (List (List Nat))) : Prop := ∃ a vs, v = .ref a ∧ SqL K H a vs ∧ Paired (LLN K H) vs lss
theorem LLLN.mono {K : Frg} {H H' : Hp} (e : Le H H') {v : V} {ns : List (List (List Nat))} (h : LLLN K H v ns) : LLLN K H' v ns := by
  obtain ⟨a, vs, rfl, h, p⟩ := h
  exact ⟨a, vs, rfl, e.l h, Paired.mapP p fun _ _ => LLN.mono e⟩
/-- wishes -/
def WS (K : Frg) (H : Hp) (v : V) (cs : List Nat) (ls : List (List (List Nat))) : Prop := ∃ p a b, v = .ref p ∧ SqT K H p [a, b] ∧ LN K H a cs ∧ LLLN K H b ls
theorem WS.mono {K : Frg} {H H' : Hp} (e : Le H H') {v : V} {cs : List Nat} {ls : List (List (List Nat))} (h : WS K H v cs ls) : WS K H' v cs ls := by
  obtain ⟨p, a, b, rfl, h1, h2, h3⟩ := h
  exact ⟨p, a, b, rfl, e.t h1, h2.mono e, h3.mono e⟩
section
variable {P : Program} {w : World} {K : Frg} {mg : Str → Option Value} {base : Heap}
/-! ### is_many, is_thing -/
theorem CX0T : True := True.intro
def spMany : Sp := fun vs H Q _ => ∃ i : Int, vs = [.int i] ∧ RetG (.bl (decide (0 ≤ i) && decide (i ≤ 7))) H Q
theorem whole_pv {sp : Sp} {σ : L2.St} {H : Hp} {ta : TE} {i : Int} {E : XK} (ha : Pv ta σ H (.int i)) : Pv (tCall spWhole [] E (tCons ta tNil)) σ H (.bl true) := pv_call (pva_1 ha) fun H1 _ Q q => ⟨i, rfl, q H1 (Same.refl H1)⟩
theorem sc_is_many : FnScope N_is_many ["thing"] (defScope s_is_many) := ⟨rfl, rfl, rfl, by decide +kernel, rfl, by decide +kernel, by decide +kernel⟩
theorem ok_is_many (G : Gx K mg) : Known P w K mg base CX0 2 "is_many" ["thing"] spMany := by
  have sc := sc_is_many
  have k_is_whole := ok_is_whole (P := P) (w := w) (base := base) G
  obtain ⟨_, i_MOST_COPIES⟩ := G.e_MOST_COPIES
  refine G.f_is_many.known sc (fun _ _ _ _ _ _ us hl => match us, hl with | [_], _ => rfl) (fun vs H Q E h => ?_) (fun cdv A outer s H vs Q E hr h => ?_)
  · obtain ⟨i, rfl, _⟩ := h; rfl
  · obtain ⟨i, rfl, q⟩ := h
    refine ⟨_, (pss_one (ps_ret (pe_and (pe_kn k_is_whole (hr.mono (by decide)) pass0 (pa_cons (pv 0) pa_nil)) (pe_one (pe_chain op_le op_le pe_int (pv 0) (pe_glob (v := .int 7) rfl i_MOST_COPIES ⟨_, rfl⟩)))))), ?_⟩
    exact ss_ret (v := .bl (decide (0 ≤ i) && decide (i ≤ 7))) (pv_and (b := true) (whole_pv (sp := spWhole) (pv_var rfl)) fun _ => pv_chain pv_c (pv_var rfl) pv_c rfl) q
def spThing : Sp := fun vs H Q _ => ∃ i m : Int, vs = [.int i, .int m] ∧ RetG (.bl (decide (0 ≤ i) && decide (i < m))) H Q
theorem sc_is_thing : FnScope N_is_thing ["thing", "many"] (defScope s_is_thing) := ⟨rfl, rfl, rfl, by decide +kernel, rfl, by decide +kernel, by decide +kernel⟩
theorem ok_is_thing (G : Gx K mg) : Known P w K mg base CX0 2 "is_thing" ["thing", "many"] spThing := by
  have sc := sc_is_thing
  have k_is_whole := ok_is_whole (P := P) (w := w) (base := base) G
  refine G.f_is_thing.known sc (fun _ _ _ _ _ _ us hl => match us, hl with | [_, _], _ => rfl) (fun vs H Q E h => ?_) (fun cdv A outer s H vs Q E hr h => ?_)
  · obtain ⟨i, m, rfl, _⟩ := h; rfl
  · obtain ⟨i, m, rfl, q⟩ := h
    refine ⟨_, (pss_one (ps_ret (pe_and (pe_kn k_is_whole (hr.mono (by decide)) pass0 (pa_cons (pv 0) pa_nil)) (pe_one (pe_chain op_le op_lt pe_int (pv 0) (pv 1)))))), ?_⟩
    exact ss_ret (v := .bl (decide (0 ≤ i) && decide (i < m))) (pv_and (b := true) (whole_pv (sp := spWhole) (pv_var rfl)) fun _ => pv_chain pv_c (pv_var rfl) (pv_var rfl) rfl) q
/-! ### are_ranks -/
theorem vn_lt {t m : Nat} : (decide ((0 : Int) ≤ (t : Int)) && decide ((t : Int) < (m : Int))) = decide (t < m) := by
  rw [decide_eq_true (show (0 : Int) ≤ (t : Int) by omega), Bool.true_and]
  by_cases h : t < m
  · rw [decide_eq_true h, decide_eq_true (by omega)]
  · rw [decide_eq_false h, decide_eq_false (by omega)]
def spRanks (K : Frg) : Sp := fun vs H Q _ => ∃ r rs m, vs = [r, vn m] ∧ LLN K H r rs ∧ rs.flatten.length < 1000 ∧ RetG (.bl (rank5 m rs)) H Q
theorem sc_are_ranks : FnScope N_are_ranks ["thing", "many"] (defScope s_are_ranks) := ⟨rfl, rfl, rfl, by decide +kernel, rfl, by decide +kernel, by decide +kernel⟩
theorem rank5_no {m : Nat} {rs : List (List Nat)} {r : List Nat} (hr : r ∈ rs) (h : r = [] ∨ ∃ t ∈ r, ¬ t < m) : rank5 m rs = false := by
  unfold rank5
  rw [Bool.and_eq_false_iff]
  right
  rw [Bool.and_eq_false_iff]
  left
  rw [List.all_eq_false]
  refine ⟨r, hr, ?_⟩
  rcases h with h | ⟨t, ht, hm⟩
  · subst h; simp
  · intro z
    rw [Bool.and_eq_true_iff, List.all_eq_true] at z
    exact hm (of_decide_eq_true (z.2 t ht))
theorem rank5_dup {m : Nat} {rs : List (List Nat)} (h : ¬ rs.flatten.Nodup) : rank5 m rs = false := by
  unfold rank5
  rw [Bool.and_eq_false_iff]
  right
  rw [Bool.and_eq_false_iff]
  right
  exact decide_eq_false h
theorem flat_take {rs : List (List Nat)} {i j : Nat} {r : List Nat} {t : Nat} (h : rs[i]? = some r) (ht : r[j]? = some t) (hin : t ∈ (rs.take i).flatten ++ r.take j) : ¬ rs.flatten.Nodup := by
  intro nd
  obtain ⟨hi, e⟩ := List.getElem?_eq_some_iff.mp h
  have e1 : rs = rs.take i ++ r :: rs.drop (i + 1) := by
    rw [← e]
    simp
  obtain ⟨hj, e2⟩ := List.getElem?_eq_some_iff.mp ht
  have e3 : r = r.take j ++ t :: r.drop (j + 1) := by
    rw [← e2]
    simp
  rw [e1, List.flatten_append, List.flatten_cons] at nd
  rw [e3] at nd
  rw [List.append_assoc, ← List.append_assoc] at nd
  have := (List.nodup_append.mp nd).2.2
  exact this t hin t List.mem_cons_self rfl
theorem ok_are_ranks (G : Gx K mg) : Known P w K mg base CX0 3 "are_ranks" ["thing", "many"] (spRanks K) := by
  have sc := sc_are_ranks
  have k_is_thing := ok_is_thing (P := P) (w := w) (base := base) G
  obtain ⟨_, i_MOST_RANKS⟩ := G.e_MOST_RANKS
  refine G.f_are_ranks.known sc (fun _ _ _ _ _ _ us hl => match us, hl with | [_, _], _ => rfl) (fun vs H Q E h => ?_) (fun cdv A outer s H vs Q E hr h => ?_)
  · obtain ⟨r, rs, m, rfl, _⟩ := h; rfl
  · obtain ⟨r, rs, m, rfl, ⟨a, us, rfl, hL, hp⟩, hz, q⟩ := h
    refine ⟨_, (pss_cons (ps_if (PW.pt (pw_or (pt_not (pt_val (pe_callB call_isi (by rfl) G.n_isinstance (by decide +kernel) (pa_cons (pv 0) (pa_cons (pe_bltn (by rfl) G.n_list (by decide +kernel) (v := .ty "list") rfl) pa_nil))))) (pw_or1 (pt_cmpR op_gt (pe_callB call_len_seq (by rfl) G.n_len (by decide +kernel) (pa_cons (pv 0) pa_nil)) (pe_glob (v := .int 5) rfl i_MOST_RANKS ⟨_, rfl⟩) (nomark _)))))
      (pss_one (ps_ret pe_bl)) pss_nil)
      (pss_cons (ps_set (i := 2) sc.nd rfl (Or.inl rfl) (pe_lst pa_nil))
      (pss_cons (ps_for PassesOwn.never rfl (pi_list (pv 0)) (pg_name (i := 3) sc.nd rfl (Or.inl rfl))
      (pss_cons (ps_if (PW.pt (pw_or (pt_not (pt_val (pe_callB call_isi (by rfl) G.n_isinstance (by decide +kernel) (pa_cons (pv 3) (pa_cons (pe_bltn (by rfl) G.n_list (by decide +kernel) (v := .ty "list") rfl) pa_nil))))) (pw_or1 (pt_cmpR (op_eqD hr.units) (pv 3) (pe_lst pa_nil) (nomark _)))))
      (pss_one (ps_ret pe_bl)) pss_nil)
      (pss_one (ps_for PassesOwn.never rfl (pi_list (pv 3)) (pg_name (i := 4) sc.nd rfl (Or.inl rfl))
      (pss_cons (ps_if (PW.pt (pw_or (pt_not (pt_val (pe_kn k_is_thing (hr.mono (by decide)) pass0 (pa_cons (pv 4) (pa_cons (pv 1) pa_nil))))) (pw_or1 (pt_cmpR op_in_seq (pv 4) (pv 2) rfl))))
      (pss_one (ps_ret pe_bl)) pss_nil)
      (pss_one (ps_expr (pe_bm PySem.F.plainAttrs_list PySem.F.slot_list_append PySem.F.type_list_append mt_append (pv 2) (pa_cons (pv 4) pa_nil)))))))))
      (pss_one (ps_ret pe_bl))))), ?_⟩
    refine ss_if (b := false || decide (5 < rs.length)) (pt_or (pt_n (b := true) (pt_b (pv_isT (pv_var rfl) (fun H1 e => tyx_l (SqL.mn e hL))))) fun _ => pt_t (pv_cmp (pv_len (pv_var rfl) (.inl hL) rfl) pv_c (by
      show decide ((5 : Int) < (us.length : Int)) = decide (5 < rs.length)
      rw [hp.length]
      by_cases h : 5 < rs.length
      · rw [decide_eq_true h, decide_eq_true (by omega)]
      · rw [decide_eq_false h, decide_eq_false (by omega)]))) (fun H1 e hb => ?_) fun H1 e hb => ?_
    · have e5 : rank5 m rs = false := by
        unfold rank5
        rw [decide_eq_false (by have := of_decide_eq_true hb; omega), Bool.false_and]
      rw [e5] at q
      exact ss_ret pv_c fun H2 e2 => q H2 (e.trans e2)
    have h5 : rs.length ≤ 5 := by have := of_decide_eq_false hb; omega
    refine ss_lst pva_nil (Nat.zero_le _) fun H2 S e2 hS => ?_
    refine w_forL (val_var rfl) (SqL.mn (same_new hS) (SqL.mn (e.trans e2) hL)) (fun i σ H' => ∃ x y, σ = [some (.ref a), some (vn m), some (.ref S), x, y] ∧ Same H2 H' ∧ H' S = some (.lst ((rs.take i).flatten.map vn)) ∧ ((∀ r ∈ rs.take i, r ≠ [] ∧ ∀ t ∈ r, t < m) ∧ (rs.take i).flatten.Nodup))
      ⟨_, _, rfl, same_new hS, by rw [upd_same]; rfl, by simp⟩ (fun i σ H' _ ⟨_, _, _, e3, _⟩ => SqL.mn (e.trans (e2.trans e3)) hL) ?_ ?_
    · rintro i x σ H3 hx ⟨y1, y2, rfl, e3, hS3, hok⟩
      obtain ⟨r', hr', ⟨b, rfl, hb⟩⟩ := paired_get hp hx
      have e03 : Same H H3 := e.trans (e2.trans e3)
      have hb3 : SqL K H3 b (r'.map vn) := SqL.mn e03 hb
      refine ss_if (b := false || decide (r' = [])) (pt_or (pt_n (b := true) (pt_b (pv_isT (pv_var rfl) (fun H1 e => tyx_l (SqL.mn e hb3))))) fun _ => pt_t ?_) (fun H4 e4 hbt => ?_) fun H4 e4 hbt => ?_
      · -- rank == []
        refine fun H5 e5 Q' q' => ⟨_, rfl, by decide, fun p hp5 => ⟨PyData.list (r'.map fun n : Nat => .int (n : Int)), PyData.list [], ?_, .lst (SqL.of upd_same) .nil, shp_list (n := 0) (fun d hd => by obtain ⟨i, _, rfl⟩ := List.mem_map.mp hd; exact ⟨rfl, Nat.le_refl _⟩) (by decide), by decide +kernel, ?_⟩⟩
        · refine .lst (SqL.mn (same_new hp5) (SqL.mn e5 hb3)) ?_
          exact dp_ns r'
        · have eq : PyData.eqv (PyData.list (r'.map fun n : Nat => .int (n : Int))) (PyData.list []) = decide (r' = []) := by
            cases r' with
            | nil => decide +kernel
            | cons n r => rfl
          rw [eq]
          exact q' _ (same_new hp5)
      · have hr0 : r' = [] := of_decide_eq_true hbt
        rw [rank5_no (m := m) (List.mem_of_getElem? hr') (.inl hr0)] at q
        exact ss_ret pv_c fun H5 e5 => q H5 (e03.trans (e4.trans e5))
      have hr0 : r' ≠ [] := of_decide_eq_false hbt
      refine w_forL (val_var rfl) (SqL.mn e4 hb3) (fun j σ H' => ∃ y, σ = [some (.ref a), some (vn m), some (.ref S), some (.ref b), y] ∧ Same H2 H' ∧ H' S = some (.lst (((rs.take i).flatten ++ r'.take j).map vn)) ∧ ((∀ t ∈ r'.take j, t < m) ∧ ((rs.take i).flatten ++ r'.take j).Nodup))
        ⟨_, rfl, e3.trans e4, by rw [e4 _ _ hS3]; simp, by simp [hok.2]⟩ (fun j σ H' _ ⟨_, _, e5, _⟩ => SqL.mn (e.trans (e2.trans e5)) hb) ?_ ?_
      · rintro j y σ H5 hy ⟨y1, rfl, e5, hS5, hm5, hn5⟩
        rw [List.getElem?_map] at hy
        cases hy' : r'[j]? with
        | none => rw [hy'] at hy; cases hy
        | some t =>
        rw [hy'] at hy
        cases hy
        have e05 : Same H H5 := e.trans (e2.trans e5)
        refine ss_if (b := (!decide (t < m)) || decide (t ∈ (rs.take i).flatten ++ r'.take j)) (pt_or (pt_n (pt_b (pv_call (v := .bl (decide (t < m))) (pva_2 (pv_var rfl) (pv_var rfl)) fun H1 e Q q => ⟨t, m, rfl, by rw [vn_lt]; exact q⟩))) fun _ => pt_t (pv_in (neg := false) (pv_var rfl) (pv_var rfl) (SqL.of hS5) rfl (flat_n _) (inV_n _ _))) (fun H6 e6 hb => ?_) fun H6 e6 hb => ?_
        · have hf : rank5 m rs = false := by
            rw [Bool.or_eq_true_iff] at hb
            rcases hb with hb | hb
            · exact rank5_no (List.mem_of_getElem? hr') (.inr ⟨t, List.mem_of_getElem? hy', fun h => by rw [decide_eq_true h] at hb; cases hb⟩)
            · exact rank5_dup (flat_take hr' hy' (of_decide_eq_true hb))
          rw [hf] at q
          exact ss_ret pv_c fun H7 e7 => q H7 (e05.trans (e6.trans e7))
        · rw [Bool.or_eq_false_iff] at hb
          have ht : t < m := by
            have := hb.1
            by_cases h : t < m
            · exact h
            · rw [decide_eq_false h] at this; cases this
          have hnin := of_decide_eq_false hb.2
          have hj : r'.take (j + 1) = r'.take j ++ [t] := by
            obtain ⟨hj, ej⟩ := List.getElem?_eq_some_iff.mp hy'
            rw [List.take_succ, hy']
            rfl
          have hfl : ((rs.take i).flatten ++ r'.take j).length < 1000 := by
            refine Nat.lt_of_le_of_lt ?_ hz
            obtain ⟨hi, ei⟩ := List.getElem?_eq_some_iff.mp hr'
            have e1 : rs = rs.take i ++ r' :: rs.drop (i + 1) := by
              rw [← ei]
              simp
            have hl : rs.flatten.length = (rs.take i ++ r' :: rs.drop (i + 1)).flatten.length := congrArg _ (congrArg _ e1)
            rw [hl, List.flatten_append, List.flatten_cons, List.length_append, List.length_append, List.length_append]
            have := List.length_take_le j r'
            have : (r'.take j).length ≤ r'.length := by rw [List.length_take]; omega
            omega
          refine ss_app rfl (e6 _ _ hS5) (by rw [List.length_map, sizeLine_eq]; omega) (pv_var rfl) fun H7 e7 => ⟨_, rfl, same_mut (e5.trans (e6.trans e7)) hS, ?_, ?_, ?_⟩
          · rw [upd_same, hj, ← List.append_assoc, List.map_append (l₂ := [t])]
            rfl
          · rw [hj]
            intro u hu
            rcases List.mem_append.mp hu with hu | hu
            · exact hm5 u hu
            · rw [List.mem_singleton.mp hu]; exact ht
          · rw [hj, ← List.append_assoc]
            refine List.nodup_append.mpr ⟨hn5, by simp, fun x hx y hy => ?_⟩
            rw [List.mem_singleton.mp hy]
            exact fun z => hnin (z ▸ hx)
      · rintro σ H5 ⟨y1, rfl, e5, hS5, hm5, hn5⟩
        have hti : rs.take (i + 1) = rs.take i ++ [r'] := by
          rw [List.take_succ, hr']
          rfl
        rw [List.length_map, List.take_length] at hS5 hm5 hn5
        refine ⟨_, _, rfl, e5, ?_, ?_, ?_⟩
        · rw [hti, List.flatten_append, List.flatten_singleton]
          exact hS5
        · rw [hti]
          intro u hu
          rcases List.mem_append.mp hu with hu | hu
          · exact hok.1 u hu
          · rw [List.mem_singleton.mp hu]; exact ⟨hr0, hm5⟩
        · rw [hti, List.flatten_append, List.flatten_singleton]
          exact hn5
    · rintro σ H3 ⟨y1, y2, rfl, e3, hS3, hok⟩
      rw [hp.length, List.take_length] at hok
      have e5 : rank5 m rs = true := by
        unfold rank5
        rw [decide_eq_true h5, decide_eq_true hok.2, Bool.true_and, Bool.and_true, List.all_eq_true]
        intro r hr
        have := hok.1 r hr
        rw [Bool.and_eq_true_iff, List.all_eq_true]
        refine ⟨?_, fun t ht => decide_eq_true (this.2 t ht)⟩
        cases r with
        | nil => exact absurd rfl this.1
        | cons _ _ => rfl
      rw [e5] at q
      dsimp only
      exact ss_ret pv_c fun H4 e4 => q H4 (e.trans (e2.trans (e3.trans e4)))
end
end Wd
set_option Elab.async false
set_option linter.all false
set_option maxRecDepth 100000
set_option maxHeartbeats 4000000
/-! wishes looked at, 2 -/
namespace Wd
open PySem PySem.Spec PyProof.Rows L2
section
variable {P : Program} {w : World} {K : Frg} {mg : Str → Option Value} {base : Heap}
abbrev CXa (P : Program) (w : World) : CXT := L2.CX P w
def spRow (K : Frg) : Sp := fun vs H Q E => ∃ (p : V) (a : Addr) (xs : List V) (m : Nat), vs = [p, .ref a, vn m] ∧ SqL K H a xs ∧ ((1 ≤ xs.length ∧ xs.length ≤ m) → RetG .non H Q) ∧ (¬ (1 ≤ xs.length ∧ xs.length ≤ m) → RzW K p .non H E)
theorem sc_need_row : FnScope N_need_row ["part", "thing", "most"] (defScope s_need_row) := ⟨rfl, rfl, rfl, by decide +kernel, rfl, by decide +kernel, by decide +kernel⟩
theorem ok_need_row (G : Gx K mg) : Known P w K mg base (L2.CX P w) 3 "need_row" ["part", "thing", "most"] (spRow K) := by
  have sc := sc_need_row
  have X := exFacts G.ex
  have kI := ok_initW (P := P) (w := w) (base := base) G
  refine G.f_need_row.knownX sc (fun _ _ _ _ _ _ us hl => match us, hl with | [_, _, _], _ => rfl) (fun vs H Q E h => ?_) (fun cdv A outer s H vs Q E hr h => ?_)
  · obtain ⟨p, a, xs, m, rfl, _⟩ := h; rfl
  · obtain ⟨p, a, xs, m, rfl, hL, q1, q2⟩ := h
    have tk := takes_of (X := cxOf (L2.CX P w) P w K mg base N_need_row "need_row" (defScope s_need_row) (He.ga K "need_row") cdv A outer s H E) (E := E) rfl rfl rfl rfl
    refine ⟨_, (pss_one (ps_if (PW.pt (pw_or (pt_not (pt_val (pe_callB call_isi (by rfl) G.n_isinstance (by decide +kernel) (pa_cons (pv 1) (pa_cons (pe_bltn (by rfl) G.n_list (by decide +kernel) (v := .ty "list") rfl) pa_nil))))) (pw_or1 (pt_not (pt_chain op_le op_le pe_int (pe_callB call_len_seq (by rfl) G.n_len (by decide +kernel) (pa_cons (pv 1) pa_nil)) (pv 2))))))
      (pss_one (ps_raise rfl tk (pmk_kn kI X.ow (hr.mono (by decide)) G.g_NoWishes (pa_cons (pv 0) (pa_cons pe_non pa_nil))))) pss_nil)), ?_⟩
    have hc : (decide ((1 : Int) ≤ (xs.length : Int)) && decide ((xs.length : Int) ≤ (m : Int))) = decide (1 ≤ xs.length ∧ xs.length ≤ m) := by
      rw [← Bool.decide_and]; exact decide_eq_decide.mpr (by omega)
    refine ss_if (b := false || !(decide (1 ≤ xs.length ∧ xs.length ≤ m))) (pt_or (pt_n (b := true) (pt_b (pv_isT (pv_var rfl) (fun H1 e => tyx_l (SqL.mn e hL))))) fun _ => pt_n (pt_t (pv_chain pv_c (pv_len (pv_var rfl) (.inl hL) rfl) (pv_var rfl) hc))) (fun H1 e hb => ?_) fun H1 e hb => ?_
    · refine rz_w (pva_2 (pv_var rfl) pv_c) ((q2 fun h => ?_).mn e)
      rw [decide_eq_true h] at hb
      cases hb
    · have h : 1 ≤ xs.length ∧ xs.length ≤ m := by
        by_cases h : 1 ≤ xs.length ∧ xs.length ≤ m
        · exact h
        · rw [decide_eq_false h] at hb; cases hb
      exact q1 h H1 e
theorem sd_call {sp : Sp} {E : XK} {t : TA} {vs : List V} {D : Ends} {σ : L2.St} {H : Hp} (ha : Pva t σ H vs) (hs : ∀ H1, Same H H1 → sp vs H1 (fun _ H2 => D.nx σ H2) E) : tDrop (tCall sp [] E t) D σ H := ha H (Same.refl H) _ fun H1 e => by
  rw [List.append_nil]
  exact hs H1 e
/-- the number's value -/
def spLook (K : Frg) : Sp := fun vs H Q E => ∃ v, vs = [v] ∧
  ((∃ cs ls, WS K H v cs ls ∧ (∀ rs ∈ ls, rs.flatten.length < 1000) ∧ match wFault cs ls with | none => RetG .non H Q | some (p, n) => RzW K (.str p) (vo n) H E) ∨
   ((v = .non ∨ ∃ a xs, v = .ref a ∧ SqL K H a xs) ∧ RzW K (.str "wishes") .non H E))
theorem sc_look_at_wishes : FnScope N_look_at_wishes ["thing"] (defScope s_look_at_wishes) := ⟨rfl, rfl, rfl, by decide +kernel, rfl, by decide +kernel, by decide +kernel⟩
theorem firstBad_at {α : Type} {Pb : α → Bool} {xs : List α} {i : Nat} {x : α} (h : xs[i]? = some x) (hx : Pb x = false) (hb : ∀ y ∈ xs.take i, Pb y = true) : firstBad Pb xs = some i := by
  unfold firstBad
  have hall : xs.all Pb = false := List.all_eq_false.mpr ⟨x, List.mem_of_getElem? h, by rw [hx]; decide⟩
  rw [if_neg (by rw [hall]; decide)]
  congr 1
  obtain ⟨hi, e⟩ := List.getElem?_eq_some_iff.mp h
  have he : xs.findIdx (fun x => !Pb x) = i := by
    refine (List.findIdx_eq hi).mpr ⟨by rw [e, hx]; rfl, fun j hj => ?_⟩
    have : xs[j] ∈ xs.take i := List.mem_take_iff_getElem.mpr ⟨j, by omega, rfl⟩
    rw [hb _ this]; rfl
  exact he
theorem firstBad_no {α : Type} {Pb : α → Bool} {xs : List α} (hb : ∀ y ∈ xs, Pb y = true) : firstBad Pb xs = none := by
  unfold firstBad
  rw [if_pos (List.all_eq_true.mpr hb)]
theorem ok_look_at_wishes (G : Gx K mg) : Known P w K mg base (L2.CX P w) 4 "look_at_wishes" ["thing"] (spLook K) := by
  have sc := sc_look_at_wishes
  have X := exFacts G.ex
  have kI := ok_initW (P := P) (w := w) (base := base) G
  have k_need_row := ok_need_row (P := P) (w := w) (base := base) G
  have k_is_many := ok_is_many (P := P) (w := w) (base := base) G
  have k_are_ranks := ok_are_ranks (P := P) (w := w) (base := base) G
  obtain ⟨_, i_MOST_THINGS⟩ := G.e_MOST_THINGS
  obtain ⟨_, i_MOST_ASKERS⟩ := G.e_MOST_ASKERS
  refine G.f_look_at_wishes.knownX sc (fun _ _ _ _ _ _ us hl => match us, hl with | [_], _ => rfl) (fun vs H Q E h => ?_) (fun cdv A outer s H vs Q E hr h => ?_)
  · obtain ⟨v, rfl, _⟩ := h; rfl
  · obtain ⟨v, rfl, h⟩ := h
    have tk := takes_of (X := cxOf (L2.CX P w) P w K mg base N_look_at_wishes "look_at_wishes" (defScope s_look_at_wishes) (He.ga K "look_at_wishes") cdv A outer s H E) (E := E) rfl rfl rfl rfl
    have pw := passes_of (X := cxOf (L2.CX P w) P w K mg base N_look_at_wishes "look_at_wishes" (defScope s_look_at_wishes) (He.ga K "look_at_wishes") cdv A outer s H E) rfl
    refine ⟨_, (pss_cons (ps_if (PW.pt (pw_or (pt_not (pt_val (pe_callB call_isi (by rfl) G.n_isinstance (by decide +kernel) (pa_cons (pv 0) (pa_cons (pe_bltn (by rfl) G.n_tuple (by decide +kernel) (v := .ty "tuple") rfl) pa_nil))))) (pw_or1 (pt_cmpR op_ne (pe_callB call_len_seq (by rfl) G.n_len (by decide +kernel) (pa_cons (pv 0) pa_nil)) pe_int (nomark _)))))
      (pss_one (ps_raise rfl tk (pmk_kn kI X.ow (hr.mono (by decide)) G.g_NoWishes (pa_cons pe_str (pa_cons pe_non pa_nil))))) pss_nil)
      (pss_cons (ps_asg (pv 0) (pg_tup rfl (pgs_cons (pg_name (i := 1) sc.nd rfl (Or.inl rfl)) (pgs_cons (pg_name (i := 2) sc.nd rfl (Or.inl rfl)) pgs_nil))))
      (pss_cons (ps_expr (pe_kn k_need_row (hr.mono (by decide)) (passes_call tk (fun _ _ _ _ h => h)) (pa_cons pe_str (pa_cons (pv 1) (pa_cons (pe_glob (v := .int 6) rfl i_MOST_THINGS ⟨_, rfl⟩) pa_nil)))))
      (pss_cons (ps_for pw rfl (pi_enum rfl G.n_enumerate (pa_cons (pv 1) pa_nil)) (pg_tup rfl (pgs_cons (pg_name (i := 3) sc.nd rfl (Or.inl rfl)) (pgs_cons (pg_name (i := 4) sc.nd rfl (Or.inl rfl)) pgs_nil)))
      (pss_one (ps_if (pt_not (pt_val (pe_kn k_is_many (hr.mono (by decide)) pass0 (pa_cons (pv 4) pa_nil))))
      (pss_one (ps_raise rfl tk (pmk_kn kI X.ow (hr.mono (by decide)) G.g_NoWishes (pa_cons pe_str (pa_cons (pv 3) pa_nil))))) pss_nil)))
      (pss_cons (ps_expr (pe_kn k_need_row (hr.mono (by decide)) (passes_call tk (fun _ _ _ _ h => h)) (pa_cons pe_str (pa_cons (pv 2) (pa_cons (pe_glob (v := .int 7) rfl i_MOST_ASKERS ⟨_, rfl⟩) pa_nil)))))
      (pss_one (ps_for pw rfl (pi_enum rfl G.n_enumerate (pa_cons (pv 2) pa_nil)) (pg_tup rfl (pgs_cons (pg_name (i := 3) sc.nd rfl (Or.inl rfl)) (pgs_cons (pg_name (i := 5) sc.nd rfl (Or.inl rfl)) pgs_nil)))
      (pss_one (ps_if (pt_not (pt_val (pe_kn k_are_ranks (hr.mono (by decide)) pass0 (pa_cons (pv 5) (pa_cons (pe_callB call_len_seq (by rfl) G.n_len (by decide +kernel) (pa_cons (pv 1) pa_nil)) pa_nil)))))
      (pss_one (ps_raise rfl tk (pmk_kn kI X.ow (hr.mono (by decide)) G.g_NoWishes (pa_cons pe_str (pa_cons (pv 3) pa_nil))))) pss_nil))))))))), ?_⟩
    rcases h with ⟨cs, ls, ⟨p, va, vb, rfl, hT, ⟨a, rfl, ha⟩, b, us, rfl, hb, hp⟩, hz, hq⟩ | ⟨hv, q⟩
    · refine ss_if (b := false || false) (pt_or (pt_n (b := true) (pt_b (pv_isT (pv_var rfl) (fun H1 e => tyx_t (SqT.mn e hT))))) fun _ => pt_t (pv_ne (pv_len (pv_var rfl) (.inr hT) rfl) pv_c rfl (by simp))) (fun H1 e hb => nomatch hb) fun H1 e _ => ?_
      refine ⟨_, rfl, w_tg2 (SqT.mn e hT) ?_⟩
      refine sd_call (pva_3 pv_c (pv_var rfl) pv_c) fun H2 e2 => ⟨_, a, _, 6, rfl, SqL.mn (e.trans e2) ha, fun hc H3 e3 => ?_, fun hc => ?_⟩
      rotate_left
      · unfold wFault at hq
        rw [List.length_map] at hc
        rw [if_pos (by omega)] at hq
        exact hq.mn (e.trans e2)
      rw [List.length_map] at hc
      have e03 := e.trans (e2.trans e3)
      dsimp only
      refine st_seq ?_
      refine w_forE (fun Q q => ⟨_, rfl, q⟩) (SqL.mn e03 ha) (fun k σ H' => ∃ x y z, σ = [some (.ref p), some (.ref a), some (.ref b), x, y, z] ∧ Same H H' ∧ ∀ c ∈ cs.take k, decide (c ≤ 7) = true) ⟨_, _, _, rfl, e03, fun c hc => by simp at hc⟩ (fun i σ H' _ ⟨_, _, _, _, e, _⟩ => SqL.mn e ha) ?_ ?_
      · rintro k x σ H4 H5 hk ⟨y1, y2, y3, rfl, e4, hn⟩ e5
        rw [List.getElem?_map] at hk
        cases hk' : cs[k]? with
        | none => rw [hk'] at hk; cases hk
        | some c =>
        rw [hk'] at hk
        cases hk
        refine ss_if (b := !decide (c ≤ 7)) (pt_n (pt_b (pv_call (v := .bl (decide (c ≤ 7))) (pva_1 (pv_var rfl)) fun H1 e Q q => ⟨c, rfl, by
          have e7 : (decide ((0 : Int) ≤ (c : Int)) && decide ((c : Int) ≤ 7)) = decide (c ≤ 7) := by rw [← Bool.decide_and]; exact decide_eq_decide.mpr (by omega)
          rw [e7]; exact q⟩))) (fun H6 e6 hb7 => ?_) fun H6 e6 hb7 => ?_
        · have hc7 : decide (c ≤ 7) = false := by
            cases h : decide (c ≤ 7) with
            | false => rfl
            | true => rw [h] at hb7; cases hb7
          have hf := firstBad_at (Pb := fun c => decide (c ≤ 7)) hk' hc7 hn
          unfold wFault at hq
          rw [if_neg (by omega), hf] at hq
          exact rz_w (pva_2 pv_c (pv_var rfl)) (hq.mn (e4.trans (e5.trans e6)))
        · have hc7 : decide (c ≤ 7) = true := by
            cases h : decide (c ≤ 7) with
            | true => rfl
            | false => rw [h] at hb7; cases hb7
          refine ⟨_, _, _, rfl, e4.trans (e5.trans e6), fun c' hc' => ?_⟩
          rw [List.take_succ, hk'] at hc'
          rcases List.mem_append.mp hc' with h | h
          · exact hn c' h
          · rw [Option.mem_toList.mp h |> Option.some.inj |> Eq.symm]; exact hc7
      · rintro σ H4 ⟨y1, y2, y3, rfl, e4, hn⟩
        rw [List.length_map, List.take_length] at hn
        have hf := firstBad_no (Pb := fun c => decide (c ≤ 7)) hn
        dsimp only
        refine sd_call (pva_3 pv_c (pv_var rfl) pv_c) fun H5 e5 => ⟨_, b, _, 7, rfl, SqL.mn (e4.trans e5) hb, fun hc2 H6 e6 => ?_, fun hc2 => ?_⟩
        rotate_left
        · unfold wFault at hq
          rw [hp.length] at hc2
          rw [if_neg (by omega), hf] at hq
          dsimp only at hq
          rw [if_pos (by omega)] at hq
          exact hq.mn (e4.trans e5)
        rw [hp.length] at hc2
        have e06 := e4.trans (e5.trans e6)
        dsimp only
        refine w_forE (fun Q q => ⟨_, rfl, q⟩) (SqL.mn e06 hb) (fun k σ H' => ∃ x y z, σ = [some (.ref p), some (.ref a), some (.ref b), x, y, z] ∧ Same H H' ∧ ∀ c ∈ ls.take k, rank5 cs.length c = true) ⟨_, _, _, rfl, e06, fun c hc => by simp at hc⟩ (fun i σ H' _ ⟨_, _, _, _, e, _⟩ => SqL.mn e hb) ?_ ?_
        · rintro k x σ H7 H8 hk ⟨z1, z2, z3, rfl, e7, hn2⟩ e8
          obtain ⟨rs, hrs, hL⟩ := paired_get hp hk
          refine ss_if (b := !rank5 cs.length rs) (pt_n (pt_b (pv_call (v := .bl (rank5 cs.length rs)) (pva_2 (pv_var rfl) (pv_len (pv_var rfl) (.inl (SqL.mn (e7.trans e8) ha)) (by rw [List.length_map]))) fun H1 e Q q => ⟨_, rs, cs.length, rfl, hL.mono (Le.of (e7.trans (e8.trans e))), hz rs (List.mem_of_getElem? hrs), q⟩))) (fun H9 e9 hb7 => ?_) fun H9 e9 hb7 => ?_
          · have hc7 : rank5 cs.length rs = false := by
              cases h : rank5 cs.length rs with
              | false => rfl
              | true => rw [h] at hb7; cases hb7
            have hf2 := firstBad_at (Pb := rank5 cs.length) hrs hc7 hn2
            unfold wFault at hq
            rw [if_neg (by omega), hf] at hq
            dsimp only at hq
            rw [if_neg (by omega), hf2] at hq
            exact rz_w (pva_2 pv_c (pv_var rfl)) (hq.mn (e7.trans (e8.trans e9)))
          · have hc7 : rank5 cs.length rs = true := by
              cases h : rank5 cs.length rs with
              | true => rfl
              | false => rw [h] at hb7; cases hb7
            refine ⟨_, _, _, rfl, e7.trans (e8.trans e9), fun c' hc' => ?_⟩
            rw [List.take_succ, hrs] at hc'
            rcases List.mem_append.mp hc' with h | h
            · exact hn2 c' h
            · rw [Option.mem_toList.mp h |> Option.some.inj |> Eq.symm]; exact hc7
        · rintro σ H7 ⟨z1, z2, z3, rfl, e7, hn2⟩
          rw [hp.length, List.take_length] at hn2
          have hf2 := firstBad_no (Pb := rank5 cs.length) hn2
          unfold wFault at hq
          rw [if_neg (by omega), hf] at hq
          dsimp only at hq
          rw [if_neg (by omega), hf2] at hq
          exact hq H7 e7
    · have ht : ∃ n, kitB n "tuple" = some false ∧ ∀ H1, Same H H1 → TyX K H1 v (.type n) := by
        rcases hv with rfl | ⟨a, xs, rfl, hx⟩
        · exact ⟨"NoneType", by decide +kernel, fun H1 e => .base .non⟩
        · exact ⟨"list", by decide +kernel, fun H1 e => tyx_l (SqL.mn e hx)⟩
      obtain ⟨n, hn, ht⟩ := ht
      refine ss_if (b := true || false) (pt_or (pt_n (b := false) (pt_b (pv_isT (pv_var rfl) ht hn))) fun h => nomatch h) (fun H1 e _ => ?_) fun H1 e hb => nomatch hb
      exact rz_w (pva_2 pv_c pv_c) (q.mn e)
end
end Wd
set_option Elab.async false
set_option linter.all false
set_option maxRecDepth 100000
set_option maxHeartbeats 4000000
/-! Own rules: a list's item by value, list.count of flat items. -/
namespace Wd
open PySem PySem.Spec PyProof.Rows L2
section
variable {X : Cx}
theorem get_list : PGet X (rIxL X.K) := by
  intro pins s σ H x y v u Q I rx ry h
  obtain ⟨p, xs, i, z, rfl, rfl, hq, he, q⟩ := h
  cases rx
  obtain ⟨t, rfl⟩ := ry
  obtain ⟨its, r, pl, hz⟩ := I.list hq
  obtain ⟨j, h1, h2, h3, h4, h5⟩ := atI_get he
  obtain ⟨w, ew, rw'⟩ := r.get h2
  have hl := r.length
  have hn := line63
  have fin : EP X pins σ Q w s := ⟨z, H, I, rw', q⟩
  by_cases h0 : 0 ≤ i
  · have hj : i.toNat = j := by
      rw [seqIndex_of h0 h5] at h1
      exact Option.some.inj h1
    exact wpAny_getItem_list pl.isList h0 (by omega) (by rw [hj]; simpa using ew) fin
  · have hj : (i + (its.toArray.size : Int)).toNat = j := by
      rw [seqIndex_neg (by omega) h4] at h1
      rw [List.size_toArray, ← hl]
      exact Option.some.inj h1
    exact wpAny_getItem_list_neg pl.isList (by omega) (by rw [List.size_toArray] <;> omega) (by omega) (by rw [hj]; simpa using ew) fin
def rCountV (K : Frg) : V → List V → Hp → VK → Prop := fun x xs H Q => ∃ (a : Addr) (ys : List V) (y : V), x = V.ref a ∧ xs = [y] ∧ SqL K H a ys ∧ flatV y = true ∧ ys.all flatV = true ∧ Q (.int ((ys.countP fun z => eqV z y : Nat) : Int)) H
theorem count_vals {y : V} : ∀ {ys : List V} {its : List Value}, Vals ys its → ys.all flatV = true → its.countP (eqU y) = ys.countP fun z => eqV z y
  | _, _, .nil, _ => rfl
  | z :: zs, u :: us, .cons r t, f => by
    rw [List.all_cons, Bool.and_eq_true] at f
    rw [List.countP_cons, List.countP_cons, count_vals t f.2, eqU_of r f.1]
theorem mt_countV : MtR X "list.count" (rCountV X.K) := by
  intro pins s σ H x xs v us Q I rx rxs h
  obtain ⟨a, ys, y, rfl, rfl, hs, fy, fys, q⟩ := h
  cases rx
  cases rxs with
  | cons ry rt =>
    rename_i uy ut
    cases rt
    obtain ⟨its, rv, ⟨⟨cls, dd, data, sl⟩, n, ho, hc, hdn, hd⟩, hlen⟩ := I.list hs
    simp only at hc hd
    subst hc hd
    refine call_meets PySem.F.slot_list_count ⟨_, ho, rfl⟩ PySem.F.entry_list_count (PySem.F.args_list_count_2 _ _)
      (SeqAt.list_countAt a its.toArray n dd sl uy (eqU y)) ⟨ho, fun u' hu' => mem_eqAt ry fy rv fys u' (by simpa using hu'), ?_⟩
    have ec := count_vals (y := y) rv fys
    exact ⟨.int _, H, I.tok _, ⟨_, by rw [← ec]⟩, q⟩
end
/-! rules by a fragment told apart: for a comprehension's inside -/
section
variable {X : Cx} {K : Frg}
theorem call_lenK (h : X.K = K := by rfl) : CallR X (.builtin "len") (fun xs H Q => ∃ p ys, xs = [.ref p] ∧ (SqL K H p ys ∨ SqT K H p ys) ∧ Q (.int ys.length) H) := by subst h; exact call_len_seq
theorem call_isiK (h : X.K = K := by rfl) : CallR X (.builtin "isinstance") (rIsi K) := by subst h; exact call_isi
theorem ix_listK (h : X.K = K := by rfl) : IxR X (rIxL K) := by subst h; exact ix_list
theorem ix_tupK (h : X.K = K := by rfl) : IxR X (rIxT K) := by subst h; exact ix_tup
theorem mt_countVK (h : X.K = K := by rfl) : MtR X "list.count" (rCountV K) := by subst h; exact mt_countV
theorem pg_tupK {es : List Expr} {k n : Nat} {t : TGs} {pos : Pos} (hc : X.calm = true) (h : PGs X es t) (hK : X.K = K := by rfl)
    (hn : (assignEach es X.env).length = n := by rfl) (hst : (assignEach es X.env).findIdx? (·.1) = none := by rfl) : PG X (.Tuple es k pos) (gTup K n t) := by subst hK; exact pg_tup hc h hn hst
theorem pe_bmK {T name id : String} {r : V → List V → Hp → VK → Prop} {to : TE} {t : TA} {o e : Expr} {es : List Expr} {apos cpos : Pos} (pa : PlainAttrs T) (slot : Slot T name id) (hty : typeOf (.builtin id) = pure (.type "method_descriptor")) (hm : MtR X id r) (ho : PE X o to) (ha : PA X (e :: es) t) (hK : X.K = K := by rfl)
    (hbase : attributeBase o name X.env (eval o X.env) = eval o X.env := by rfl)
    (hfew : ((backTo cpos (starEach (e :: es) X.env)).all (fun x => !x.1) && (backToKw cpos (keywordEach [] X.env)).all (fun x => x.1.isSome)
      && decide ((e :: es).length + ([] : List Keyword).length + (if ([] : List Keyword).isEmpty then 0 else 1) < 30)) = true := by rfl)
    (hline : (apos.endLine == cpos.line) = true := by rfl) (hs : starEach (e :: es) X.env = (false, eval e X.env) :: starEach es X.env := by rfl) (hplain : (backTo cpos (starEach es X.env)).any (·.1) = false := by rfl) :
    PE X (.Call (.Attribute o name apos) (e :: es) [] cpos) (tBM K T r to t) := by subst hK; exact pe_bm pa slot hty hm ho ha hbase hfew hline hs hplain
end
theorem pv_countV {K : Frg} {σ : L2.St} {H : Hp} {ta tb : TE} {a : Addr} {ys : List V} {y : V} {n : Nat} (ha : Pv ta σ H (.ref a)) (hb : Pv tb σ H y) (h : SqL K H a ys) (fy : flatV y = true) (fys : ys.all flatV = true) (hn : (ys.countP fun z => eqV z y) = n) :
    Pv (tBM K "list" (rCountV K) ta (tCons tb tNil)) σ H (vn n) := fun H1 e Q q => ha H1 e _ fun H2 e2 => ⟨.inl ⟨rfl, ys, SqL.mn (e.trans e2) h⟩, hb H2 (e.trans e2) _ fun H3 e3 => ⟨a, ys, y, rfl, rfl, SqL.mn (e.trans (e2.trans e3)) h, fy, fys, by rw [hn]; exact q H3 (e2.trans e3)⟩⟩
end Wd
set_option Elab.async false
set_option linter.all false
set_option maxRecDepth 100000
set_option maxHeartbeats 4000000
/-! good wishes; longest, counts_of, copies_left -/
namespace Wd
open PySem PySem.Spec PyProof.Rows L2
/-- a new list -/
def RetL (xs : List V) (H : Hp) (Q : VK) : Prop := ∀ p H', H p = none → Same H H' → H' p = some (.lst xs) → Q (.ref p) H'
section
variable {K : Frg} {σ : L2.St} {H : Hp} {tl te : TE} {ta : TA} {Q : VK}
theorem range_map {α : Type} {f : Nat → α} {xs : List α} {n : Nat} (hn : xs.length = n) (h : ∀ i x, xs[i]? = some x → f i = x) : (List.range n).map f = xs := by
  refine List.ext_getElem? fun i => ?_
  rw [List.getElem?_map]
  by_cases hi : i < n
  · rw [List.getElem?_range hi]
    have := h i xs[i] (List.getElem?_eq_getElem (by omega))
    rw [List.getElem?_eq_getElem (by omega), Option.map_some, this]
  · rw [List.getElem?_eq_none (by simp; omega), List.getElem?_eq_none (by omega)]; rfl
theorem c_lcL {a : Addr} {xs : List V} {j : Nat} {vs : List Nat} (f : Nat → V) (h : Val tl σ H (.ref a)) (hx : SqL K H a xs) (hz : xs.length ≤ 1000000) (hw : ∀ x, wipe ((wipe σ vs).set j (some x)) vs = wipe σ vs)
    (he : ∀ i x, xs[i]? = some x → Pv te ((wipe σ vs).set j (some x)) H (f i)) (q : RetL ((List.range xs.length).map f) H Q) : tLc (iList K tl) (gName j) tYes te vs σ H Q :=
  w_lcL f h hx hz hw (fun i x H' hi e => (Pv.mn e (he i x hi)).evs) fun D H' hD e hd => q D H' hD e hd
theorem c_lcR {n : Int} {j : Nat} {vs : List Nat} (f : Nat → V) (h : ∀ Q : List V → Hp → Prop, Q [.int n] H → ta σ H Q) (hz : n ≤ 1000000) (hz0 : -1000000 ≤ n) (hw : ∀ x, wipe ((wipe σ vs).set j (some x)) vs = wipe σ vs)
    (he : ∀ (i : Nat), (i : Int) < n → Pv te ((wipe σ vs).set j (some (vn i))) H (f i)) (q : RetL ((List.range n.toNat).map f) H Q) : tLc (iRng1 ta) (gName j) tYes te vs σ H Q :=
  w_lcR f h hz hz0 hw (fun i H' hi e => (Pv.mn e (he i hi)).evs) fun D H' hD e hd => q D H' hD e hd
theorem c_lcE {a : Addr} {xs : List V} {i j : Nat} {vs : List Nat} (f : Nat → V) (h : ∀ Q : List V → Hp → Prop, Q [.ref a] H → ta σ H Q) (hx : SqL K H a xs) (hz : xs.length ≤ 1000000) (hw : ∀ x y, wipe (((wipe σ vs).set i (some x)).set j (some y)) vs = wipe σ vs)
    (he : ∀ k x, xs[k]? = some x → Pv te (((wipe σ vs).set i (some (vn k))).set j (some x)) H (f k)) (q : RetL ((List.range xs.length).map f) H Q) : tLc (iEnum K ta) (gTup K 2 (gCons (gName i) (gCons (gName j) gNil))) tYes te vs σ H Q := by
  refine h _ ⟨a, xs, rfl, hx, fun D hD => lc_it (walk_enum (K := K) (a := a) (xs := xs)) (CoAt H D f) ⟨hD, same_new hD, upd_same⟩ (fun i H' _ p => (Le.of p.2.1).l hx) (fun k x H' H2 hk p y => ?_) fun H' p => q D H' p.1 p.2.1 p.2.2⟩
  obtain ⟨T, u, v, rfl, hT, rfl, e1, e2⟩ := y
  cases e1
  refine ⟨T, _, rfl, SqT.of upd_same, rfl, _, _, rfl, _, _, rfl, rfl, hw _ _, ?_⟩
  unfold tYes
  dsimp only
  rw [if_pos rfl]
  refine (Pv.mn (p.2.1.trans (same_new hT)) (he k v e2)).run fun H3 e3 => ⟨_, e3 _ _ (same_new hT _ _ p.2.2), ?_, p.one ((same_new hT).trans e3)⟩
  rw [List.length_map, List.length_range, sizeLine_eq]
  omega
theorem pv_neg {i : Int} (ha : Pv te σ H (.int i)) : Pv (tUn (rU fun i => .int (-i)) te) σ H (.int (-i)) := fun H1 e Q q => ha H1 e _ fun H2 e2 => ⟨i, rfl, q H2 e2⟩
theorem sr_cb {r : List V → Hp → VK → Prop} {D : Ends} (h : ta σ H fun vs H1 => r vs H1 D.rt) : tRet (tCB r ta) D σ H := h
theorem sr_1 {Q : List V → Hp → Prop} (h : te σ H fun x H1 => Q [x] H1) : tCons te tNil σ H Q := h
theorem sr_ret {D : Ends} (h : te σ H D.rt) : tRet te D σ H := h
theorem sr_set {D : Ends} {i : Nat} (h : te σ H fun x H1 => D.nx (σ.set i (some x)) H1) : tAsg te (gName i) D σ H := h
theorem RetL.mn {xs : List V} {H1 : Hp} (e : Same H H1) (h : RetL xs H Q) : RetL xs H1 Q := fun p H' hp e' h' => h p H' (e.free hp) (e.trans e') h'
theorem RetL.to {xs ys : List V} (h : RetL xs H Q) (e : xs = ys) : RetL ys H Q := e ▸ h
theorem RetG.mn {v : V} {H1 : Hp} (e : Same H H1) (h : RetG v H Q) : RetG v H1 Q := fun H' e' => h H' (e.trans e')
end
/-! ### good wishes -/
structure WG (cs : List Nat) (ls : List (List (List Nat))) : Prop where
  ok : wFault cs ls = none
  sz : ∀ rs ∈ ls, rs.flatten.length < 1000
def lng : List (List (List Nat)) → Nat
  | [] => 0
  | r :: rs => max r.length (lng rs)
theorem lng_mem : ∀ {ls : List (List (List Nat))} {r : List (List Nat)}, r ∈ ls → r.length ≤ lng ls
  | r0 :: rs, r, h => by
    show r.length ≤ max r0.length (lng rs)
    rcases List.mem_cons.mp h with rfl | h
    · exact Nat.le_max_left _ _
    · exact Nat.le_trans (lng_mem h) (Nat.le_max_right _ _)
theorem lng_at : ∀ {ls : List (List (List Nat))}, ls ≠ [] → ∃ r ∈ ls, r.length = lng ls
  | [r0], _ => ⟨r0, List.mem_cons_self, by show _ = max _ 0; omega⟩
  | r0 :: r1 :: rs, _ => by
    obtain ⟨r, hr, e⟩ := lng_at (ls := r1 :: rs) (by simp)
    by_cases h : r0.length ≤ lng (r1 :: rs)
    · exact ⟨r, List.mem_cons_of_mem _ hr, by show _ = max r0.length (lng (r1 :: rs)); omega⟩
    · exact ⟨r0, List.mem_cons_self, by show _ = max r0.length (lng (r1 :: rs)); omega⟩
theorem firstBad_none {α : Type} {Pb : α → Bool} {xs : List α} (h : firstBad Pb xs = none) : ∀ x ∈ xs, Pb x = true := by
  unfold firstBad at h
  by_cases hb : xs.all Pb = true
  · exact List.all_eq_true.mp hb
  · rw [if_neg hb] at h; cases h
section
variable {cs : List Nat} {ls : List (List (List Nat))}
theorem WG.all (W : WG cs ls) : (1 ≤ cs.length ∧ cs.length ≤ 6) ∧ (∀ c ∈ cs, c ≤ 7) ∧ (1 ≤ ls.length ∧ ls.length ≤ 7) ∧ ∀ r ∈ ls, rank5 cs.length r = true := by
  have h := W.ok
  unfold wFault at h
  by_cases h1 : cs.length < 1 ∨ 6 < cs.length
  · rw [if_pos h1] at h; cases h
  rw [if_neg h1] at h
  cases h2 : firstBad (fun c => decide (c ≤ 7)) cs with
  | some i => rw [h2] at h; cases h
  | none =>
    rw [h2] at h
    dsimp only at h
    by_cases h3 : ls.length < 1 ∨ 7 < ls.length
    · rw [if_pos h3] at h; cases h
    rw [if_neg h3] at h
    cases h4 : firstBad (rank5 cs.length) ls with
    | some i => rw [h4] at h; cases h
    | none => exact ⟨by omega, fun c hc => of_decide_eq_true (firstBad_none h2 c hc), by omega, firstBad_none h4⟩
theorem WG.rk (W : WG cs ls) {r : List (List Nat)} (h : r ∈ ls) : r.length ≤ 5 ∧ (∀ row ∈ r, row ≠ [] ∧ ∀ t ∈ row, t < cs.length) ∧ r.flatten.Nodup := by
  have := W.all.2.2.2 r h
  unfold rank5 at this
  rw [Bool.and_eq_true_iff, Bool.and_eq_true_iff, List.all_eq_true] at this
  refine ⟨of_decide_eq_true this.1, fun row hr => ?_, of_decide_eq_true this.2.2⟩
  have h2 := this.2.1 row hr
  rw [Bool.and_eq_true_iff, List.all_eq_true] at h2
  refine ⟨fun z => ?_, fun t ht => of_decide_eq_true (h2.2 t ht)⟩
  subst z
  exact absurd h2.1 (by decide)
theorem WG.lng5 (W : WG cs ls) : lng ls ≤ 5 := by
  obtain ⟨r, hr, e⟩ := lng_at (ls := ls) (by have := W.all.2.2.1; intro z; subst z; simp at this)
  rw [← e]
  exact (W.rk hr).1
end
section
variable {P : Program} {w : World} {K : Frg} {mg : Str → Option Value} {base : Heap}
theorem look_pv {σ : L2.St} {H : Hp} {ta : TE} {v : V} {E : XK} {cs : List Nat} {ls : List (List (List Nat))} (ha : Pv ta σ H v) (hW : WS K H v cs ls) (W : WG cs ls) : Pv (tCall (spLook K) [] E (tCons ta tNil)) σ H .non :=
  pv_call (pva_1 ha) fun H1 e Q q => ⟨v, rfl, .inl ⟨cs, ls, hW.mono (Le.of e), W.sz, by rw [W.ok]; exact q⟩⟩
/-! ### longest -/
def spLong (K : Frg) : Sp := fun vs H Q _ => ∃ v cs ls, vs = [v] ∧ WS K H v cs ls ∧ WG cs ls ∧ RetG (vn (lng ls)) H Q
theorem sc_longest : FnScope N_longest ["wishes"] (defScope s_longest) := ⟨rfl, rfl, rfl, by decide +kernel, rfl, by decide +kernel, by decide +kernel⟩
theorem ok_longest (G : Gx K mg) : Known P w K mg base CX0 5 "longest" ["wishes"] (spLong K) := by
  have sc := sc_longest
  have k_look_at_wishes := ok_look_at_wishes (P := P) (w := w) (base := base) G
  refine G.f_longest.known sc (fun _ _ _ _ _ _ us hl => match us, hl with | [_], _ => rfl) (fun vs H Q E h => ?_) (fun cdv A outer s H vs Q E hr h => ?_)
  · obtain ⟨v, cs, ls, rfl, _⟩ := h; rfl
  · obtain ⟨v, cs, ls, rfl, hW, W, q⟩ := h
    refine ⟨_, (pss_cons (ps_expr (pe_kn k_look_at_wishes (hr.mono (by decide)) passL (pa_cons (pv 0) pa_nil)))
      (pss_one (ps_ret (pe_callB (cr_max rfl) (by rfl) G.n_max (by decide +kernel) (pa_cons (pe_lc (own := [("ranks", 1)]) rfl sc.nd (pi_list (pe_ix ix_tup (pv 0) pe_int (fun _ _ => rfl))) (blkOk_by (by rfl)) (fun _ _ _ _ _ => (pg_name (i := 1) sc.nd rfl (Or.inl rfl))) (fun _ _ _ _ _ => pts_nil) (fun _ _ _ _ _ => (pe_callB (call_lenK (K := K)) (by rfl) G.n_len (by decide +kernel) (pa_cons (pv 1) pa_nil)))) pa_nil))))), ?_⟩
    refine ss_drop (look_pv (pv_var rfl) hW W) fun H1 e1 => ?_
    have hW1 := hW.mono (Le.of e1)
    obtain ⟨p, va, vb, rfl, hT, ⟨a, rfl, ha⟩, b, us, rfl, hb, hp⟩ := hW1
    have h7 := W.all.2.2.1
    dsimp only
    refine sr_cb (sr_1 ?_)
    refine c_lcL (xs := us) (fun i => vn (ls[i]?.getD []).length) (vl_ixT (val_var rfl) val_c hT rfl) hb (by rw [hp.length]; omega) (by intro x; rfl) (fun i x hx => ?_) fun D H2 hD e2 hd => ?_
    · obtain ⟨rs, hrs, ⟨c, vs, rfl, hc, hpc⟩⟩ := paired_get hp hx
      exact pv_len (pv_var rfl) (.inl hc) (by rw [hpc.length, hrs]; rfl)
    · have el : (List.range us.length).map (fun i => vn (ls[i]?.getD []).length) = (ls.map fun r => (r.length : Int)).map V.int := by
        rw [hp.length, List.map_map]
        refine range_map (by rw [List.length_map]) fun i x hx => ?_
        rw [List.getElem?_map] at hx
        cases h : ls[i]? with
        | none => rw [h] at hx; cases hx
        | some r => rw [h] at hx; cases hx; rfl
      rw [el] at hd
      refine ⟨D, _, rfl, SqL.of hd, by rw [List.length_map]; omega, fun m hm hall => ?_⟩
      have hne : ls ≠ [] := by intro z; subst z; simp at h7
      obtain ⟨r, hr, er⟩ := lng_at hne
      obtain ⟨r2, hr2, e2'⟩ := List.mem_map.mp hm
      have h1 := hall _ (List.mem_map.mpr ⟨r, hr, rfl⟩)
      have h2 := lng_mem hr2
      have hm' : m = ((lng ls : Nat) : Int) := by omega
      subst hm'
      exact q _ (e1.trans e2)
/-! ### counts_of -/
/-- the place at which an asker that gets d is counted -/
def slotOf (L : Nat) (rs : List (List Nat)) : Option Nat → Nat
  | none => L
  | some t => rankIn rs t - 1
def cntL (L : Nat) (sl : List Nat) : List V := (List.range (L + 1)).map fun k => vn (sl.count k)
theorem cnt_len {L : Nat} {sl : List Nat} : (cntL L sl).length = L + 1 := by unfold cntL; simp
theorem cnt_get {L : Nat} {sl : List Nat} {k : Nat} (h : k ≤ L) : (cntL L sl)[k]? = some (vn (sl.count k)) := by
  unfold cntL
  rw [List.getElem?_map, List.getElem?_range (by omega)]
  rfl
theorem cnt_set {L : Nat} {sl : List Nat} {k : Nat} : (cntL L sl).set k (vn (sl.count k + 1)) = cntL L (sl ++ [k]) := by
  refine List.ext_getElem? fun j => ?_
  rw [List.getElem?_set, cnt_len]
  by_cases hk : k = j
  · subst hk
    rw [if_pos rfl]
    by_cases h : k < L + 1
    · rw [if_pos h, cnt_get (by omega), List.count_append]
      simp
    · rw [if_neg h, List.getElem?_eq_none (by rw [cnt_len]; omega)]
  · rw [if_neg hk]
    by_cases h : j < L + 1
    · rw [cnt_get (by omega), cnt_get (by omega), List.count_append]
      have : List.count j [k] = 0 := by rw [List.count_singleton]; simp [hk]
      rw [this]; rfl
    · rw [List.getElem?_eq_none (by rw [cnt_len]; omega), List.getElem?_eq_none (by rw [cnt_len]; omega)]
/-- each asker gets nothing or what stands in its list -/
def Prp (ls : List (List (List Nat))) (d : List (Option Nat)) : Prop := d.length = ls.length ∧ ∀ (i t : Nat) (rs : List (List Nat)), d[i]? = some (some t) → ls[i]? = some rs → t ∈ rs.flatten
def slots (ls : List (List (List Nat))) (d : List (Option Nat)) : List Nat := (List.range d.length).map fun i => slotOf (lng ls) (ls[i]?.getD []) (d[i]?.getD none)
theorem rankIn_le {t : Nat} : ∀ {rs : List (List Nat)}, rankIn rs t ≤ rs.length
  | [] => Nat.le_refl _
  | r :: rs => by
    show (if t ∈ r then 1 else _) ≤ _
    have := rankIn_le (t := t) (rs := rs)
    split
    · simp
    · split
      · simp
      · rename_i k e
        rw [List.length_cons]; omega
theorem rankIn_pos {t : Nat} : ∀ {rs : List (List Nat)}, t ∈ rs.flatten → 1 ≤ rankIn rs t
  | r :: rs, h => by
    show 1 ≤ (if t ∈ r then 1 else _)
    split
    · exact Nat.le_refl _
    · rename_i hr
      rw [List.flatten_cons] at h
      rcases List.mem_append.mp h with h | h
      · exact absurd h hr
      · have := rankIn_pos h
        split
        · omega
        · omega
theorem atI_neg1 {xs : List V} {n : Nat} (h : xs.length = n + 1) {v : V} (hv : xs[n]? = some v) : atI xs (-1) = some v := by
  have e : xs = xs.take n ++ [v] := by
    have h1 : xs.take (n + 1) = xs := List.take_of_length_le (by omega)
    calc xs = xs.take (n + 1) := h1.symm
      _ = xs.take n ++ [v] := by rw [List.take_succ, hv]; rfl
  rw [e]
  exact atI_last _ _
theorem ixN_neg1 {n : Nat} : ixN (n + 1) (-1) = some n := by
  unfold ixN
  rw [if_neg (by decide), if_pos (by omega)]
  congr 1
  omega
theorem ixN_nat {n j : Nat} (h : j < n) : ixN n (j : Int) = some j := by
  unfold ixN
  rw [if_pos (by omega), if_pos (by omega)]; simp
/-- o[i] += n, a list -/
theorem ss_inc {D : Ends} {σ : L2.St} {H : Hp} {tl ti te : TE} {a : Addr} {xs : List V} {i n d : Int} {j : Nat} {f : Int → Int → Int} (hl : Pv tl σ H (.ref a)) (hi : Pv ti σ H (.int i)) (he : Pv te σ H (.int d)) (h : H a = some (.lst xs)) (hx : atI xs i = some (.int n)) (hj : ixN xs.length i = some j)
    (q : ∀ H1, Same H H1 → D.nx σ (upd H1 a (.lst (xs.set j (.int (f n d)))))) : tAugS tl ti te (rIxL K) (ipI f) rSetL D σ H :=
  hl.run fun H1 e1 => hi H1 e1 _ fun H2 e2 => ⟨a, xs, i, _, rfl, rfl, SqL.mn (e1.trans e2) (SqL.of h), hx, he H2 (e1.trans e2) _ fun H3 e3 => ⟨n, d, rfl, rfl, a, xs, i, j, rfl, rfl, (e1.trans (e2.trans e3)) _ _ h, hj, q H3 (e1.trans (e2.trans e3))⟩⟩
def spCnt (K : Frg) : Sp := fun vs H Q _ => ∃ v cs ls da d, vs = [v, .ref da] ∧ WS K H v cs ls ∧ WG cs ls ∧ SqL K H da (d.map vo) ∧ Prp ls d ∧ RetL (cntL (lng ls) (slots ls d)) H Q
theorem sc_counts_of : FnScope N_counts_of ["wishes", "dealing"] (defScope s_counts_of) := ⟨rfl, rfl, rfl, by decide +kernel, rfl, by decide +kernel, by decide +kernel⟩
theorem slots_succ {ls : List (List (List Nat))} {d : List (Option Nat)} {k : Nat} : (List.range (k + 1)).map (fun i => slotOf (lng ls) (ls[i]?.getD []) (d[i]?.getD none)) = (List.range k).map (fun i => slotOf (lng ls) (ls[i]?.getD []) (d[i]?.getD none)) ++ [slotOf (lng ls) (ls[k]?.getD []) (d[k]?.getD none)] := by
  rw [List.range_succ, List.map_append]
  rfl
theorem ok_counts_of (G : Gx K mg) : Known P w K mg base CX0 6 "counts_of" ["wishes", "dealing"] (spCnt K) := by
  have sc := sc_counts_of
  have k_longest := ok_longest (P := P) (w := w) (base := base) G
  have k_rank_among := ok_rank_among (P := P) (w := w) (base := base) G
  refine G.f_counts_of.known sc (fun _ _ _ _ _ _ us hl => match us, hl with | [_, _], _ => rfl) (fun vs H Q E h => ?_) (fun cdv A outer s H vs Q E hr h => ?_)
  · obtain ⟨v, cs, ls, da, d, rfl, _⟩ := h; rfl
  · obtain ⟨v, cs, ls, da, d, rfl, hW, W, hd, hP, q⟩ := h
    refine ⟨_, (pss_cons (ps_set (i := 2) sc.nd rfl (Or.inl rfl) (pe_op op_rep (pe_lst (pa_cons pe_int pa_nil)) (pe_op op_add (pe_kn k_longest (hr.mono (by decide)) pass0 (pa_cons (pv 0) pa_nil)) pe_int)))
      (pss_cons (ps_for PassesOwn.never rfl (pi_enum rfl G.n_enumerate (pa_cons (pv 1) pa_nil)) (pg_tup rfl (pgs_cons (pg_name (i := 3) sc.nd rfl (Or.inl rfl)) (pgs_cons (pg_name (i := 4) sc.nd rfl (Or.inl rfl)) pgs_nil)))
      (pss_one (ps_if (pt_cmpR op_isN (pv 4) pe_non (nomark _))
      (pss_one (ps_augS (pv 2) (pe_un un_neg pe_int) get_list pe_int ip_add set_list)) (pss_one (ps_augS (pv 2) (pe_op op_sub (pe_kn k_rank_among (hr.mono (by decide)) pass0 (pa_cons (pe_ix ix_list (pe_ix ix_tup (pv 0) pe_int (fun _ _ => rfl)) (pv 3) (fun _ _ => rfl)) (pa_cons (pv 4) pa_nil))) pe_int) get_list pe_int ip_add set_list)))))
      (pss_one (ps_ret (pv 2))))), ?_⟩
    refine ⟨by decide, fun p0 hp0 => ?_⟩
    have e0 : Same H (upd H p0 (.lst [.int 0])) := same_new hp0
    refine (pv_add (i := ((lng ls : Nat) : Int)) (j := 1) (pv_call (v := vn (lng ls)) (pva_1 (pv_var rfl)) fun H1 e Q q => ⟨v, cs, ls, rfl, hW.mono (Le.of (e0.trans e)), W, q⟩) pv_c).run fun H1 e1 => ?_
    have h5 := W.lng5
    refine ⟨p0, _, _, rfl, rfl, e1 _ _ upd_same, by omega, by omega, by have := sizeLine_eq; simp only [List.length_singleton]; omega, fun p hp => ?_⟩
    have e01 : Same H (upd H1 p (.lst (List.replicate (((lng ls : Nat) : Int) + 1).toNat [V.int 0]).flatten)) := e0.trans (e1.trans (same_new hp))
    have ez : (List.replicate (((lng ls : Nat) : Int) + 1).toNat [V.int 0]).flatten = cntL (lng ls) [] := by
      unfold cntL
      refine (range_map ?_ fun i x hx => ?_).symm
      · simp
      · have : (((lng ls : Nat) : Int) + 1).toNat = lng ls + 1 := by omega
        rw [this] at hx
        have hm := List.mem_of_getElem? hx
        rw [List.mem_flatten] at hm
        obtain ⟨l, hl, hx2⟩ := hm
        rw [(List.mem_replicate.mp hl).2, List.mem_singleton] at hx2
        rw [hx2]; rfl
    rw [ez] at e01 ⊢
    have hp' : H p = none := (e0.trans e1).free hp
    dsimp only
    refine st_seq ?_
    refine w_forE (fun Q q => ⟨_, rfl, q⟩) (SqL.mn e01 hd) (fun k σ H' => ∃ x y, σ = [some v, some (.ref da), some (.ref p), x, y] ∧ Same H H' ∧ H' p = some (.lst (cntL (lng ls) ((List.range k).map fun i => slotOf (lng ls) (ls[i]?.getD []) (d[i]?.getD none))))) ⟨_, _, rfl, e01, upd_same⟩ (fun i σ H' _ ⟨_, _, _, e, _⟩ => SqL.mn e hd) ?_ ?_
    · rintro k x σ H4 H5 hk ⟨y1, y2, rfl, e4, h4⟩ e5
      rw [List.getElem?_map] at hk
      cases hk' : d[k]? with
      | none => rw [hk'] at hk; cases hk
      | some dk =>
      rw [hk'] at hk
      cases hk
      have e05 := e4.trans e5
      have hls : k < ls.length := by have := (List.getElem?_eq_some_iff.mp hk').1; have := hP.1; omega
      have hrs : ls[k]? = some ls[k] := List.getElem?_eq_getElem hls
      have hrm := List.mem_of_getElem? hrs
      have hLe := lng_mem hrm
      cases dk with
      | none =>
        refine ss_if (b := true) (pt_t (pv_isN (pv_var rfl) rfl)) (fun H6 e6 _ => ?_) fun H6 e6 hb => nomatch hb
        have h6 := (e5.trans e6) _ _ h4
        refine ss_inc (n := _) (j := lng ls) (pv_var rfl) (pv_neg pv_c) pv_c h6 (atI_neg1 cnt_len (cnt_get (Nat.le_refl _))) (by rw [cnt_len]; exact ixN_neg1) fun H7 e7 => ⟨_, _, rfl, same_mut (e05.trans (e6.trans e7)) hp', ?_⟩
        rw [upd_same, slots_succ, hk']
        exact congrArg some (congrArg HO.lst cnt_set)
      | some t =>
        refine ss_if (b := false) (pt_t (pv_isN (pv_var rfl) rfl)) (fun H6 e6 hb => nomatch hb) fun H6 e6 _ => ?_
        have h6 := (e5.trans e6) _ _ h4
        have ht : t ∈ ls[k].flatten := hP.2 k t _ hk' hrs
        have r1 := rankIn_pos ht
        have r2 := rankIn_le (t := t) (rs := ls[k])
        have esl : slotOf (lng ls) (ls[k]?.getD []) (d[k]?.getD none) = rankIn ls[k] t - 1 := by rw [hk', hrs]; rfl
        have hi : ((rankIn ls[k] t : Nat) : Int) - 1 = ((rankIn ls[k] t - 1 : Nat) : Int) := by omega
        obtain ⟨pw, va, vb, ew, hT, ⟨a, rfl, ha⟩, b, us, rfl, hb, hpp⟩ := hW.mono (Le.of (e05.trans e6))
        have hlen := hpp.length
        obtain ⟨vrs, hvr, hvL⟩ : ∃ vr, us[k]? = some vr ∧ LLN K H6 vr ls[k] := by
          have hk2 : k < us.length := by omega
          obtain ⟨rs', hrs', hL⟩ := paired_get hpp (List.getElem?_eq_getElem hk2)
          rw [hrs] at hrs'
          cases hrs'
          exact ⟨_, List.getElem?_eq_getElem hk2, hL⟩
        subst ew
        refine ss_inc (n := _) (j := rankIn ls[k] t - 1) (pv_var rfl) (pv_sub (i := ((rankIn ls[k] t : Nat) : Int)) (j := 1) (pv_call (v := vn (rankIn ls[k] t)) (pva_2 (pv_ixL (pv_ixT (pv_var rfl) pv_c hT rfl) (pv_var rfl) hb (atI_nat hvr)) (pv_var rfl)) fun H1 e Q q => ⟨vrs, ls[k], t, rfl, hvL.mono (Le.of e), q⟩) pv_c) pv_c h6 (by rw [hi]; exact atI_nat (cnt_get (by omega))) (by rw [hi, cnt_len]; exact ixN_nat (by omega)) fun H7 e7 => ⟨_, _, rfl, same_mut (e05.trans (e6.trans e7)) hp', ?_⟩
        rw [upd_same, slots_succ, esl]
        exact congrArg some (congrArg HO.lst cnt_set)
    · rintro σ H4 ⟨y1, y2, rfl, e4, h4⟩
      rw [List.length_map] at h4
      exact ⟨_, rfl, q p H4 hp' e4 h4⟩
end
end Wd
set_option Elab.async false
set_option linter.all false
set_option maxRecDepth 100000
set_option maxHeartbeats 4000000
/-! copies_left; aims looked at -/
namespace Wd
open PySem PySem.Spec PyProof.Rows L2
section
variable {P : Program} {w : World} {K : Frg} {mg : Str → Option Value} {base : Heap}
def leftV (cs : List Nat) (ys : List V) : List V := (List.range cs.length).map fun i => .int ((cs[i]?.getD 0 : Nat) - ((ys.countP fun z => eqV z (vn i) : Nat) : Int))
def spLeft (K : Frg) : Sp := fun vs H Q _ => ∃ v cs ls da ys, vs = [v, .ref da] ∧ WS K H v cs ls ∧ WG cs ls ∧ SqL K H da ys ∧ ys.all flatV = true ∧ RetL (leftV cs ys) H Q
theorem sc_copies_left : FnScope N_copies_left ["wishes", "dealing"] (defScope s_copies_left) := ⟨rfl, rfl, rfl, by decide +kernel, rfl, by decide +kernel, by decide +kernel⟩
theorem ok_copies_left (G : Gx K mg) : Known P w K mg base CX0 5 "copies_left" ["wishes", "dealing"] (spLeft K) := by
  have sc := sc_copies_left
  have k_look_at_wishes := ok_look_at_wishes (P := P) (w := w) (base := base) G
  refine G.f_copies_left.known sc (fun _ _ _ _ _ _ us hl => match us, hl with | [_, _], _ => rfl) (fun vs H Q E h => ?_) (fun cdv A outer s H vs Q E hr h => ?_)
  · obtain ⟨v, cs, ls, da, ys, rfl, _⟩ := h; rfl
  · obtain ⟨v, cs, ls, da, ys, rfl, hW, W, hd, hf, q⟩ := h
    refine ⟨_, (pss_cons (ps_expr (pe_kn k_look_at_wishes (hr.mono (by decide)) passL (pa_cons (pv 0) pa_nil)))
      (pss_one (ps_ret (pe_lc (own := [("number", 2), ("many", 3)]) rfl sc.nd (pi_enum rfl G.n_enumerate (pa_cons (pe_ix ix_tup (pv 0) pe_int (fun _ _ => rfl)) pa_nil)) (blkOk_by (by rfl)) (fun _ _ _ _ _ => (pg_tupK (K := K) (n := 2) rfl (pgs_cons (pg_name (i := 2) sc.nd rfl (Or.inl rfl)) (pgs_cons (pg_name (i := 3) sc.nd rfl (Or.inl rfl)) pgs_nil)))) (fun _ _ _ _ _ => pts_nil) (fun _ _ _ _ _ => (pe_op op_sub (pv 3) (pe_bmK (K := K) PySem.F.plainAttrs_list PySem.F.slot_list_count PySem.F.type_list_count (mt_countVK (K := K)) (pv 1) (pa_cons (pv 2) pa_nil)))))))), ?_⟩
    refine ss_drop (look_pv (pv_var rfl) hW W) fun H1 e1 => ?_
    have hW1 := hW.mono (Le.of e1)
    obtain ⟨p, va, vb, rfl, hT, ⟨a, rfl, ha⟩, b, us, rfl, hb, hp⟩ := hW1
    have h7 := W.all.1
    dsimp only
    refine sr_ret ?_
    refine c_lcE (xs := cs.map vn) (fun i => .int ((cs[i]?.getD 0 : Nat) - ((ys.countP fun z => eqV z (vn i) : Nat) : Int))) (fun Q q => vl_ixT (val_var rfl) val_c hT rfl _ q) ha (by rw [List.length_map]; omega) (by intro x y; rfl) (fun i x hx => ?_) ?_
    · rw [List.getElem?_map] at hx
      cases h : cs[i]? with
      | none => rw [h] at hx; cases hx
      | some c =>
      rw [h] at hx
      cases hx
      exact pv_sub (i := ((c : Nat) : Int)) (j := ((ys.countP fun z => eqV z (vn i) : Nat) : Int)) (pv_var rfl) (pv_countV (pv_var rfl) (pv_var rfl) (SqL.mn e1 hd) rfl hf rfl)
    · rw [List.length_map]
      exact q.mn e1
/-! ### aims -/
def ordB (s : Str) : Bool := inV (.str s) [.str "firsts", .str "full", .str "lasts"]
/-- a value that is no text -/
def NoStr (K : Frg) (H : Hp) (v : V) : Prop := ∃ n, kitB n "str" = some false ∧ ∀ H1, Same H H1 → TyX K H1 v (.type n)
theorem NoStr.mn {H H1 : Hp} (e : Same H H1) {v : V} (h : NoStr K H v) : NoStr K H1 v := by
  obtain ⟨n, h1, h2⟩ := h
  exact ⟨n, h1, fun H2 e2 => h2 H2 (e.trans e2)⟩
/-- no order -/
def OrdBad (K : Frg) (H : Hp) (v : V) : Prop := NoStr K H v ∨ ∃ s, v = .str s ∧ ordB s = false
def oldB (cs : List Nat) (ls : List (List (List Nat))) (xs : List Nat) : Bool := decide (xs.length = ls.length) && xs.all fun x => decide (x < cs.length)
def trnB (ls : List (List (List Nat))) (xs : List Nat) : Bool := (xs.all fun x => decide (x < ls.length)) && decide xs.Nodup
/-- the thing's fault as an aim -/
inductive AimF (K : Frg) (H : Hp) (cs : List Nat) (ls : List (List (List Nat))) : V → Option Str → Prop where
  | none : AimF K H cs ls .non (some "aim")
  | list {a : Addr} {xs : List V} : SqL K H a xs → AimF K H cs ls (.ref a) (some "aim")
  | len {a : Addr} {xs : List V} : SqT K H a xs → xs.length ≠ 3 → AimF K H cs ls (.ref a) (some "aim")
  | ord {a : Addr} {o x y : V} : SqT K H a [o, x, y] → OrdBad K H o → AimF K H cs ls (.ref a) (some "order")
  | old {a b : Addr} {s : Str} {y : V} {xs : List Nat} : SqT K H a [.str s, .ref b, y] → ordB s = true → SqL K H b (xs.map vn) → oldB cs ls xs = false → AimF K H cs ls (.ref a) (some "old")
  | trn {a b : Addr} {s : Str} {xs : List Nat} : SqT K H a [.str s, .non, .ref b] → ordB s = true → SqL K H b (xs.map vn) → xs.length ≤ 1000 → trnB ls xs = false → AimF K H cs ls (.ref a) (some "turns")
  | ok {a b : Addr} {s : Str} : SqT K H a [.str s, .non, .ref b] → ordB s = true → SqL K H b [] → AimF K H cs ls (.ref a) none
theorem AimF.mn {H H1 : Hp} {cs : List Nat} {ls : List (List (List Nat))} {v : V} {f : Option Str} (e : Same H H1) (h : AimF K H cs ls v f) : AimF K H1 cs ls v f := by
  cases h with
  | none => exact .none
  | list h => exact .list (SqL.mn e h)
  | len h z => exact .len (SqT.mn e h) z
  | ord h z => exact .ord (SqT.mn e h) (z.imp (NoStr.mn e) id)
  | old h1 h2 h3 h4 => exact .old (SqT.mn e h1) h2 (SqL.mn e h3) h4
  | trn h1 h2 h3 h4 h5 => exact .trn (SqT.mn e h1) h2 (SqL.mn e h3) h4 h5
  | ok h1 h2 h3 => exact .ok (SqT.mn e h1) h2 (SqL.mn e h3)
def spOrd (K : Frg) : Sp := fun vs H Q _ => ∃ v, vs = [v] ∧ ((OrdBad K H v ∧ RetG (.bl false) H Q) ∨ ∃ s, v = .str s ∧ ordB s = true ∧ RetG (.bl true) H Q)
theorem sc_is_order : FnScope N_is_order ["thing"] (defScope s_is_order) := ⟨rfl, rfl, rfl, by decide +kernel, rfl, by decide +kernel, by decide +kernel⟩
theorem pv_tup {σ : L2.St} {H : Hp} {t : TA} {te : TE} {x : V} {b : Bool} {vs : List V} (ha : Pv te σ H x) (hp : Pva t σ H vs) (hz : vs.length ≤ sizeLine) (hx : flatV x = true) (hf : vs.all flatV = true) (hb : inV x vs = b) : Pv (tOp (rIn K false) te (tTup t)) σ H (.bl b) :=
  fun H1 e Q q => ha H1 e _ fun H2 e2 => hp H2 (e.trans e2) _ fun H3 e3 => ⟨hz, fun p hp => ⟨p, vs, rfl, .inr (SqT.of upd_same), hx, hf, by show Q (.bl (inV x vs)) _; rw [hb]; exact q _ (e2.trans (e3.trans (same_new hp)))⟩⟩
theorem ok_is_order (G : Gx K mg) : Known P w K mg base CX0 1 "is_order" ["thing"] (spOrd K) := by
  have sc := sc_is_order
  refine G.f_is_order.known sc (fun _ _ _ _ _ _ us hl => match us, hl with | [_], _ => rfl) (fun vs H Q E h => ?_) (fun cdv A outer s H vs Q E hr h => ?_)
  · obtain ⟨v, rfl, _⟩ := h; rfl
  · obtain ⟨v, rfl, h⟩ := h
    refine ⟨_, (pss_one (ps_ret (pe_and (pe_callB call_isi (by rfl) G.n_isinstance (by decide +kernel) (pa_cons (pv 0) (pa_cons (pe_bltn (by rfl) G.n_str (by decide +kernel) (v := .ty "str") rfl) pa_nil))) (pe_one (pe_cmpR op_in_seq (pv 0) (pe_tup (pa_cons pe_str (pa_cons pe_str (pa_cons pe_str pa_nil)))) rfl))))), ?_⟩
    have hstr : ∀ s : Str, Pv (tOp (rIn K false) (tVar 0) (tTup (tCons (tC (.str "firsts")) (tCons (tC (.str "full")) (tCons (tC (.str "lasts")) tNil))))) [some (V.str s)] H (.bl (ordB s)) := fun s =>
      pv_tup (pv_var rfl) (pva_3 pv_c pv_c pv_c) (by show 3 ≤ _; rw [sizeLine_eq]; decide) rfl rfl rfl
    rcases h with ⟨(⟨n, hn, ht⟩ | ⟨s, rfl, hs⟩), q⟩ | ⟨s, rfl, hs, q⟩
    · exact ss_ret (v := .bl false) (pv_and (b := false) (c := false) (pv_isT (pv_var rfl) ht hn) fun h => nomatch h) q
    · refine ss_ret (v := .bl false) (pv_and (b := true) (c := false) (pv_isT (pv_var rfl) (n := "str") fun H1 e => .base (.str s)) fun _ => ?_) q
      have := hstr s
      rw [hs] at this
      exact this
    · refine ss_ret (v := .bl true) (pv_and (b := true) (c := true) (pv_isT (pv_var rfl) (n := "str") fun H1 e => .base (.str s)) fun _ => ?_) q
      have := hstr s
      rw [hs] at this
      exact this
def spOld (K : Frg) : Sp := fun vs H Q _ => ∃ v x cs ls, vs = [v, x] ∧ WS K H v cs ls ∧ ((x = .non ∧ RetG (.bl true) H Q) ∨ ∃ a xs, x = .ref a ∧ SqL K H a (xs.map vn) ∧ RetG (.bl (oldB cs ls xs)) H Q)
theorem sc_is_old : FnScope N_is_old ["wishes", "thing"] (defScope s_is_old) := ⟨rfl, rfl, rfl, by decide +kernel, rfl, by decide +kernel, by decide +kernel⟩
theorem dec_nn {n m : Nat} : (!decide (vn n = vn m)) = !decide (n = m) := by
  congr 1
  refine decide_eq_decide.mpr ⟨fun h => ?_, fun h => by rw [h]⟩
  have := V.int.inj h
  omega
theorem ok_is_old (G : Gx K mg) : Known P w K mg base CX0 2 "is_old" ["wishes", "thing"] (spOld K) := by
  have sc := sc_is_old
  have k_is_whole := ok_is_whole (P := P) (w := w) (base := base) G
  refine G.f_is_old.known sc (fun _ _ _ _ _ _ us hl => match us, hl with | [_, _], _ => rfl) (fun vs H Q E h => ?_) (fun cdv A outer s H vs Q E hr h => ?_)
  · obtain ⟨v, x, cs, ls, rfl, _⟩ := h; rfl
  · obtain ⟨v, x, cs, ls, rfl, ⟨p, va, vb, rfl, hT, ⟨a, rfl, ha⟩, b, us, rfl, hb, hp⟩, h⟩ := h
    refine ⟨_, (pss_cons (ps_if (pt_cmpR op_isN (pv 1) pe_non (nomark _))
      (pss_one (ps_ret pe_bl)) pss_nil)
      (pss_cons (ps_if (PW.pt (pw_or (pt_not (pt_val (pe_callB call_isi (by rfl) G.n_isinstance (by decide +kernel) (pa_cons (pv 1) (pa_cons (pe_bltn (by rfl) G.n_list (by decide +kernel) (v := .ty "list") rfl) pa_nil))))) (pw_or1 (pt_cmpR op_ne (pe_callB call_len_seq (by rfl) G.n_len (by decide +kernel) (pa_cons (pv 1) pa_nil)) (pe_callB call_len_seq (by rfl) G.n_len (by decide +kernel) (pa_cons (pe_ix ix_tup (pv 0) pe_int (fun _ _ => rfl)) pa_nil)) (nomark _)))))
      (pss_one (ps_ret pe_bl)) pss_nil)
      (pss_cons (ps_for PassesOwn.never rfl (pi_list (pv 1)) (pg_name (i := 2) sc.nd rfl (Or.inl rfl))
      (pss_cons (ps_if (pt_cmpR op_isN (pv 2) pe_non (nomark _))
      (pss_one ps_continue) pss_nil)
      (pss_one (ps_if (PW.pt (pw_or (pt_not (pt_val (pe_kn k_is_whole (hr.mono (by decide)) pass0 (pa_cons (pv 2) pa_nil)))) (pw_or (pt_cmpR op_lt (pv 2) pe_int (nomark _)) (pw_or1 (pt_cmpR op_ge (pv 2) (pe_callB call_len_seq (by rfl) G.n_len (by decide +kernel) (pa_cons (pe_ix ix_tup (pv 0) pe_int (fun _ _ => rfl)) pa_nil)) (nomark _))))))
      (pss_one (ps_ret pe_bl)) pss_nil))))
      (pss_one (ps_ret pe_bl))))), ?_⟩
    rcases h with ⟨rfl, q⟩ | ⟨c, xs, rfl, hc, q⟩
    · exact ss_if (b := true) (pt_t (pv_isN (pv_var rfl) rfl)) (fun H1 e _ => ss_ret pv_c (q.mn e)) fun H1 e h => nomatch h
    · refine ss_if (b := false) (pt_t (pv_isN (pv_var rfl) rfl)) (fun H1 e h => nomatch h) fun H1 e1 _ => ?_
      refine ss_if (b := false || !decide (xs.length = ls.length)) (pt_or (pt_n (b := true) (pt_b (pv_isT (pv_var rfl) fun H1 e => tyx_l (SqL.mn (e1.trans e) hc)))) fun _ => pt_t (pv_ne (pv_len (pv_var rfl) (.inl (SqL.mn e1 hc)) (by rw [List.length_map])) (pv_len (pv_ixT (pv_var rfl) pv_c (SqT.mn e1 hT) rfl) (.inl (SqL.mn e1 hb)) hp.length) rfl dec_nn)) (fun H2 e2 hb2 => ?_) fun H2 e2 hb2 => ?_
      · have eo : oldB cs ls xs = false := by
          unfold oldB
          cases h : decide (xs.length = ls.length) with
          | true => rw [h] at hb2; cases hb2
          | false => rfl
        rw [eo] at q
        exact ss_ret pv_c (q.mn (e1.trans e2))
      have hlen : xs.length = ls.length := by
        cases h : decide (xs.length = ls.length) with
        | true => exact of_decide_eq_true h
        | false => rw [h] at hb2; cases hb2
      have e02 := e1.trans e2
      dsimp only
      refine st_seq ?_
      refine w_forL (val_var rfl) (SqL.mn e02 hc) (fun i σ H' => ∃ x, σ = [some (.ref p), some (.ref c), x] ∧ Same H H' ∧ ∀ t ∈ xs.take i, decide (t < cs.length) = true) ⟨_, rfl, e02, fun t ht => by simp at ht⟩ (fun i σ H' _ ⟨_, _, e, _⟩ => SqL.mn e hc) ?_ ?_
      · rintro i x σ H3 hx ⟨y1, rfl, e3, hok⟩
        rw [List.getElem?_map] at hx
        cases hx' : xs[i]? with
        | none => rw [hx'] at hx; cases hx
        | some t =>
        rw [hx'] at hx
        cases hx
        refine ss_if (b := false) (pt_t (pv_isN (pv_var rfl) rfl)) (fun H1 e h => nomatch h) fun H4 e4 _ => ?_
        have e04 := e3.trans e4
        refine ss_if (b := false || (false || !decide (t < cs.length))) (pt_or (pt_n (b := true) (pt_b (whole_pv (sp := spWhole) (pv_var rfl)))) fun _ => pt_or (pt_t (pv_cmp (pv_var rfl) pv_c (decide_eq_false (by omega)))) fun _ => pt_t (pv_cmp (pv_var rfl) (pv_len (pv_ixT (pv_var rfl) pv_c (SqT.mn e04 hT) rfl) (.inl (SqL.mn e04 ha)) (by rw [List.length_map])) (by
          rw [← decide_not]
          exact decide_eq_decide.mpr (by omega)))) (fun H5 e5 hb5 => ?_) fun H5 e5 hb5 => ?_
        · have eo : oldB cs ls xs = false := by
            unfold oldB
            rw [Bool.and_eq_false_iff]
            right
            refine List.all_eq_false.mpr ⟨t, List.mem_of_getElem? hx', fun h => ?_⟩
            rw [h] at hb5
            cases hb5
          rw [eo] at q
          exact ss_ret pv_c (q.mn (e04.trans e5))
        · refine ⟨_, rfl, e04.trans e5, fun u hu => ?_⟩
          rw [List.take_succ, hx'] at hu
          rcases List.mem_append.mp hu with h | h
          · exact hok u h
          · rw [Option.mem_toList.mp h |> Option.some.inj |> Eq.symm]
            cases h : decide (t < cs.length) with
            | true => rfl
            | false => rw [h] at hb5; cases hb5
      · rintro σ H3 ⟨y1, rfl, e3, hok⟩
        rw [List.length_map, List.take_length] at hok
        have eo : oldB cs ls xs = true := by
          unfold oldB
          rw [decide_eq_true hlen, Bool.true_and]
          exact List.all_eq_true.mpr hok
        rw [eo] at q
        dsimp only
        exact ss_ret pv_c (q.mn e3)
def spTrn (K : Frg) : Sp := fun vs H Q _ => ∃ v a cs ls xs, vs = [v, .ref a] ∧ WS K H v cs ls ∧ SqL K H a (xs.map vn) ∧ xs.length ≤ 1000 ∧ RetG (.bl (trnB ls xs)) H Q
theorem sc_are_turns : FnScope N_are_turns ["wishes", "thing"] (defScope s_are_turns) := ⟨rfl, rfl, rfl, by decide +kernel, rfl, by decide +kernel, by decide +kernel⟩
/-- the dict of these keys -/
def seenD (xs : List Nat) : List (Key × V) := xs.map fun n : Nat => (Sum.inl (n : Int), V.bl true)
theorem seen_val {xs : List Nat} {t : Nat} : (valV (seenD xs) (Sum.inl (t : Int) : Key)).isSome = decide (t ∈ xs) := by
  unfold valV seenD
  induction xs with
  | nil => simp
  | cons n r ih =>
    rw [List.map_cons, List.find?_cons]
    by_cases h : n = t
    · subst h; simp
    · have : decide ((Sum.inl (n : Int) : Key) = Sum.inl (t : Int)) = false := decide_eq_false fun z => h (by have := Sum.inl.inj z; omega)
      rw [this]
      rw [ih]
      simp [Ne.symm h, eq_comm]
theorem seen_put {xs : List Nat} {t : Nat} (h : t ∉ xs) : putK (seenD xs) (Sum.inl (t : Int) : Key) (V.bl true) = seenD (xs ++ [t]) := by
  have h1 := seen_val (xs := xs) (t := t)
  rw [decide_eq_false h] at h1
  rw [L2.putK_new _ (by cases e : valV (seenD xs) (Sum.inl (t : Int) : Key) with | none => rfl | some _ => rw [e] at h1; cases h1)]
  unfold seenD
  rw [List.map_append]
  rfl
theorem ok_are_turns (G : Gx K mg) : Known P w K mg base CX0 2 "are_turns" ["wishes", "thing"] (spTrn K) := by
  have sc := sc_are_turns
  have k_is_whole := ok_is_whole (P := P) (w := w) (base := base) G
  refine G.f_are_turns.known sc (fun _ _ _ _ _ _ us hl => match us, hl with | [_, _], _ => rfl) (fun vs H Q E h => ?_) (fun cdv A outer s H vs Q E hr h => ?_)
  · obtain ⟨v, x, cs, ls, xs, rfl, _⟩ := h; rfl
  · obtain ⟨v, c, cs, ls, xs, rfl, ⟨p, va, vb, rfl, hT, ⟨a, rfl, ha⟩, b, us, rfl, hb, hp⟩, hc, hz, q⟩ := h
    refine ⟨_, (pss_cons (ps_if (pt_not (pt_val (pe_callB call_isi (by rfl) G.n_isinstance (by decide +kernel) (pa_cons (pv 1) (pa_cons (pe_bltn (by rfl) G.n_list (by decide +kernel) (v := .ty "list") rfl) pa_nil)))))
      (pss_one (ps_ret pe_bl)) pss_nil)
      (pss_cons (ps_set (i := 2) sc.nd rfl (Or.inl rfl) pe_dnewK)
      (pss_cons (ps_for PassesOwn.never rfl (pi_list (pv 1)) (pg_name (i := 3) sc.nd rfl (Or.inl rfl))
      (pss_cons (ps_if (PW.pt (pw_or (pt_not (pt_val (pe_kn k_is_whole (hr.mono (by decide)) pass0 (pa_cons (pv 3) pa_nil)))) (pw_or (pt_cmpR op_lt (pv 3) pe_int (nomark _)) (pw_or1 (pt_cmpR op_ge (pv 3) (pe_callB call_len_seq (by rfl) G.n_len (by decide +kernel) (pa_cons (pe_ix ix_tup (pv 0) pe_int (fun _ _ => rfl)) pa_nil)) (nomark _))))))
      (pss_one (ps_ret pe_bl)) pss_nil)
      (pss_cons (ps_if (pt_cmp (pc_din (hu_of hr) (pv 3) (pv 2)))
      (pss_one (ps_ret pe_bl)) pss_nil)
      (pss_one (ps_dput (hu_of hr) (pv 2) (pv 3) pe_bl rfl)))))
      (pss_one (ps_ret pe_bl))))), ?_⟩
    refine ss_if (b := false) (pt_n (b := true) (pt_b (pv_isT (pv_var rfl) fun H1 e => tyx_l (SqL.mn e hc)))) (fun H1 e h => nomatch h) fun H1 e1 _ => ?_
    refine st_seq (fun d hd => ?_)
    have e0 : Same H (upd H1 d (.dK [])) := e1.trans (same_new hd)
    have hd0 : H d = none := e1.free hd
    dsimp only
    refine st_seq ?_
    refine w_forL (val_var rfl) (SqL.mn e0 hc) (fun i σ H' => ∃ x, σ = [some (.ref p), some (.ref c), some (.ref d), x] ∧ Same H H' ∧ H' d = some (.dK (seenD (xs.take i))) ∧ (∀ t ∈ xs.take i, decide (t < ls.length) = true) ∧ (xs.take i).Nodup) ⟨_, rfl, e0, by rw [upd_same]; rfl, fun t ht => by simp at ht, by simp⟩ (fun i σ H' _ ⟨_, _, e, _⟩ => SqL.mn e hc) ?_ ?_
    · rintro i x σ H3 hx ⟨y1, rfl, e3, hd3, hok, hnd⟩
      rw [List.getElem?_map] at hx
      cases hx' : xs[i]? with
      | none => rw [hx'] at hx; cases hx
      | some t =>
      rw [hx'] at hx
      cases hx
      have htk : xs.take (i + 1) = xs.take i ++ [t] := by rw [List.take_succ, hx']; rfl
      refine ss_if (b := false || (false || !decide (t < ls.length))) (pt_or (pt_n (b := true) (pt_b (whole_pv (sp := spWhole) (pv_var rfl)))) fun _ => pt_or (pt_t (pv_cmp (pv_var rfl) pv_c (decide_eq_false (by omega)))) fun _ => pt_t (pv_cmp (pv_var rfl) (pv_len (pv_ixT (pv_var rfl) pv_c (SqT.mn e3 hT) rfl) (.inl (SqL.mn e3 hb)) hp.length) (by
        rw [← decide_not]
        exact decide_eq_decide.mpr (by omega)))) (fun H5 e5 hb5 => ?_) fun H5 e5 hb5 => ?_
      · have eo : trnB ls xs = false := by
          unfold trnB
          rw [Bool.and_eq_false_iff]
          left
          refine List.all_eq_false.mpr ⟨t, List.mem_of_getElem? hx', fun h => ?_⟩
          rw [h] at hb5
          cases hb5
        rw [eo] at q
        exact ss_ret pv_c (q.mn (e3.trans e5))
      have ht : decide (t < ls.length) = true := by
        cases h : decide (t < ls.length) with
        | true => rfl
        | false => rw [h] at hb5; cases hb5
      have hd5 := e5 _ _ hd3
      refine ss_if (b := decide (t ∈ xs.take i)) (pt_b (pt_din (k := .inl (t : Int)) (pv_var rfl) (pv_var rfl) (.inl hd5) seen_val)) (fun H6 e6 hb6 => ?_) fun H6 e6 hb6 => ?_
      · have eo : trnB ls xs = false := by
          unfold trnB
          rw [Bool.and_eq_false_iff]
          right
          refine decide_eq_false fun hn => ?_
          have h1 := of_decide_eq_true hb6
          have h2 : (xs.take (i + 1)).Nodup := hn.sublist (List.take_sublist _ _)
          rw [htk] at h2
          exact (List.nodup_append.mp h2).2.2 t h1 t (List.mem_singleton.mpr rfl) rfl
        rw [eo] at q
        exact ss_ret pv_c (q.mn (e3.trans (e5.trans e6)))
      · have hni := of_decide_eq_false hb6
        refine ss_dput (k := .inl (t : Int)) pv_c (pv_var rfl) (pv_var rfl) (e6 _ _ hd5) (by unfold seenD; rw [List.length_map, List.length_take, sizeLine_eq]; omega) fun H7 e7 => ⟨_, rfl, same_mut (e3.trans (e5.trans (e6.trans e7))) hd0, by rw [upd_same, htk, seen_put hni], ?_, ?_⟩
        · rw [htk]
          intro u hu
          rcases List.mem_append.mp hu with h | h
          · exact hok u h
          · rw [List.mem_singleton.mp h]; exact ht
        · rw [htk]
          refine List.nodup_append.mpr ⟨hnd, by simp, fun x hx y hy => ?_⟩
          rw [List.mem_singleton.mp hy]
          exact fun z => hni (z ▸ hx)
    · rintro σ H3 ⟨y1, rfl, e3, hd3, hok, hnd⟩
      rw [List.length_map, List.take_length] at hok hnd
      have eo : trnB ls xs = true := by
        unfold trnB
        rw [decide_eq_true hnd, Bool.and_true]
        exact List.all_eq_true.mpr hok
      rw [eo] at q
      dsimp only
      exact ss_ret pv_c (q.mn e3)
end
end Wd
set_option Elab.async false
set_option linter.all false
set_option maxRecDepth 100000
set_option maxHeartbeats 4000000
/-! fault_of, look_at_aim -/
namespace Wd
open PySem PySem.Spec PyProof.Rows L2
section
variable {P : Program} {w : World} {K : Frg} {mg : Str → Option Value} {base : Heap}
def vos : Option Str → V
  | none => .non
  | some s => .str s
def spFault (K : Frg) : Sp := fun vs H Q _ => ∃ v x cs ls f, vs = [v, x] ∧ WS K H v cs ls ∧ AimF K H cs ls x f ∧ RetG (vos f) H Q
theorem sc_fault_of : FnScope N_fault_of ["wishes", "thing"] (defScope s_fault_of) := ⟨rfl, rfl, rfl, by decide +kernel, rfl, by decide +kernel, by decide +kernel⟩
theorem ok_fault_of (G : Gx K mg) : Known P w K mg base CX0 3 "fault_of" ["wishes", "thing"] (spFault K) := by
  have sc := sc_fault_of
  have k_is_order := ok_is_order (P := P) (w := w) (base := base) G
  have k_is_old := ok_is_old (P := P) (w := w) (base := base) G
  have k_are_turns := ok_are_turns (P := P) (w := w) (base := base) G
  refine G.f_fault_of.known sc (fun _ _ _ _ _ _ us hl => match us, hl with | [_, _], _ => rfl) (fun vs H Q E h => ?_) (fun cdv A outer s H vs Q E hr h => ?_)
  · obtain ⟨v, x, cs, ls, f, rfl, _⟩ := h; rfl
  · obtain ⟨v, x, cs, ls, f, rfl, hW, hA, q⟩ := h
    refine ⟨_, (pss_cons (ps_if (PW.pt (pw_or (pt_not (pt_val (pe_callB call_isi (by rfl) G.n_isinstance (by decide +kernel) (pa_cons (pv 1) (pa_cons (pe_bltn (by rfl) G.n_tuple (by decide +kernel) (v := .ty "tuple") rfl) pa_nil))))) (pw_or1 (pt_cmpR op_ne (pe_callB call_len_seq (by rfl) G.n_len (by decide +kernel) (pa_cons (pv 1) pa_nil)) pe_int (nomark _)))))
      (pss_one (ps_ret pe_str)) pss_nil)
      (pss_cons (ps_if (pt_not (pt_val (pe_kn k_is_order (hr.mono (by decide)) pass0 (pa_cons (pe_ix ix_tup (pv 1) pe_int (fun _ _ => rfl)) pa_nil))))
      (pss_one (ps_ret pe_str)) pss_nil)
      (pss_cons (ps_if (pt_not (pt_val (pe_kn k_is_old (hr.mono (by decide)) pass0 (pa_cons (pv 0) (pa_cons (pe_ix ix_tup (pv 1) pe_int (fun _ _ => rfl)) pa_nil)))))
      (pss_one (ps_ret pe_str)) pss_nil)
      (pss_cons (ps_if (pt_not (pt_val (pe_kn k_are_turns (hr.mono (by decide)) pass0 (pa_cons (pv 0) (pa_cons (pe_ix ix_tup (pv 1) pe_int (fun _ _ => rfl)) pa_nil)))))
      (pss_one (ps_ret pe_str)) pss_nil)
      (pss_one (ps_ret pe_non)))))), ?_⟩
    have t3 : ∀ {a : Addr} {o y z : V}, SqT K H a [o, y, z] → Pt (tOr (tNot (tB (tCB (rIsi K) (tCons (tVar 1) (tCons (tC (.ty "tuple")) tNil))))) (tTest (tOp rNe (tCB (fun xs H Q => ∃ p ys, xs = [.ref p] ∧ (SqL K H p ys ∨ SqT K H p ys) ∧ Q (.int ys.length) H) (tCons (tVar 1) tNil)) (tC (.int 3))))) [some v, some (.ref a)] H false := fun h =>
      pt_or (b := false) (c := false) (pt_n (b := true) (pt_b (pv_isT (pv_var rfl) fun H1 e => tyx_t (SqT.mn e h)))) fun _ => pt_t (pv_ne (pv_len (pv_var rfl) (.inr h) rfl) pv_c rfl (by simp))
    have tn : ∀ {x : V} {n : String}, kitB n "tuple" = some false → (∀ H1, Same H H1 → TyX K H1 x (.type n)) → Pt (tOr (tNot (tB (tCB (rIsi K) (tCons (tVar 1) (tCons (tC (.ty "tuple")) tNil))))) (tTest (tOp rNe (tCB (fun xs H Q => ∃ p ys, xs = [.ref p] ∧ (SqL K H p ys ∨ SqT K H p ys) ∧ Q (.int ys.length) H) (tCons (tVar 1) tNil)) (tC (.int 3))))) [some v, some x] H true := fun hn ht =>
      pt_or (b := true) (c := true) (pt_n (b := false) (pt_b (pv_isT (pv_var rfl) ht hn))) fun h => nomatch h
    have ordG : ∀ {a : Addr} {s : Str} {y z : V} {H1 : Hp}, SqT K H1 a [.str s, y, z] → ordB s = true → Pt (tNot (tB (tCall (spOrd K) [] E0 (tCons (tOp (rIxT K) (tVar 1) (tC (.int 0))) tNil)))) [some v, some (.ref a)] H1 false := fun h hs =>
      pt_n (b := true) (pt_b (pv_call (v := .bl true) (pva_1 (pv_ixT (pv_var rfl) pv_c h rfl)) fun H2 e Q q => ⟨_, rfl, .inr ⟨_, rfl, hs, q⟩⟩))
    cases hA with
    | none => exact ss_if (b := true) (tn (by decide +kernel) fun H1 e => .base .non) (fun H1 e _ => ss_ret pv_c (q.mn e)) fun H1 e h => nomatch h
    | list h => exact ss_if (b := true) (tn (by decide +kernel) fun H1 e => tyx_l (SqL.mn e h)) (fun H1 e _ => ss_ret pv_c (q.mn e)) fun H1 e h => nomatch h
    | @len a xs h hz =>
      exact ss_if (b := true) (pt_or (b := false) (c := true) (pt_n (b := true) (pt_b (pv_isT (pv_var rfl) fun H1 e => tyx_t (SqT.mn e h)))) fun _ => pt_t (pv_ne (pv_len (pv_var rfl) (.inr h) rfl) pv_c rfl (by
        have : decide (vn xs.length = V.int 3) = false := decide_eq_false fun z => hz (by have := V.int.inj z; omega)
        rw [this]; rfl))) (fun H1 e _ => ss_ret pv_c (q.mn e)) fun H1 e h => nomatch h
    | ord h hb =>
      refine ss_if (b := false) (t3 h) (fun H1 e h => nomatch h) fun H1 e1 _ => ?_
      exact ss_if (b := true) (pt_n (b := false) (pt_b (pv_call (v := .bl false) (pva_1 (pv_ixT (pv_var rfl) pv_c (SqT.mn e1 h) rfl)) fun H2 e Q q => ⟨_, rfl, .inl ⟨hb.imp (NoStr.mn (e1.trans e)) id, q⟩⟩))) (fun H2 e _ => ss_ret pv_c (q.mn (e1.trans e))) fun H1 e h => nomatch h
    | old h hs hb ho =>
      refine ss_if (b := false) (t3 h) (fun H1 e h => nomatch h) fun H1 e1 _ => ?_
      refine ss_if (b := false) (ordG (SqT.mn e1 h) hs) (fun H1 e h => nomatch h) fun H2 e2 _ => ?_
      have e02 := e1.trans e2
      exact ss_if (b := true) (pt_n (b := false) (pt_b (pv_call (v := .bl false) (pva_2 (pv_var rfl) (pv_ixT (pv_var rfl) pv_c (SqT.mn e02 h) rfl)) fun H3 e Q q => ⟨_, _, cs, ls, rfl, hW.mono (Le.of (e02.trans e)), .inr ⟨_, _, rfl, SqL.mn (e02.trans e) hb, by rw [ho]; exact q⟩⟩))) (fun H3 e _ => ss_ret pv_c (q.mn (e02.trans e))) fun H1 e h => nomatch h
    | trn h hs hb hz ho =>
      refine ss_if (b := false) (t3 h) (fun H1 e h => nomatch h) fun H1 e1 _ => ?_
      refine ss_if (b := false) (ordG (SqT.mn e1 h) hs) (fun H1 e h => nomatch h) fun H2 e2 _ => ?_
      have e02 := e1.trans e2
      refine ss_if (b := false) (pt_n (b := true) (pt_b (pv_call (v := .bl true) (pva_2 (pv_var rfl) (pv_ixT (pv_var rfl) pv_c (SqT.mn e02 h) rfl)) fun H3 e Q q => ⟨_, _, cs, ls, rfl, hW.mono (Le.of (e02.trans e)), .inl ⟨rfl, q⟩⟩))) (fun H1 e h => nomatch h) fun H3 e3 _ => ?_
      have e03 := e02.trans e3
      exact ss_if (b := true) (pt_n (b := false) (pt_b (pv_call (v := .bl false) (pva_2 (pv_var rfl) (pv_ixT (pv_var rfl) pv_c (SqT.mn e03 h) rfl)) fun H4 e Q q => ⟨_, _, cs, ls, _, rfl, hW.mono (Le.of (e03.trans e)), SqL.mn (e03.trans e) hb, hz, by rw [ho]; exact q⟩))) (fun H3 e _ => ss_ret pv_c (q.mn (e03.trans e))) fun H1 e h => nomatch h
    | ok h hs hb =>
      refine ss_if (b := false) (t3 h) (fun H1 e h => nomatch h) fun H1 e1 _ => ?_
      refine ss_if (b := false) (ordG (SqT.mn e1 h) hs) (fun H1 e h => nomatch h) fun H2 e2 _ => ?_
      have e02 := e1.trans e2
      refine ss_if (b := false) (pt_n (b := true) (pt_b (pv_call (v := .bl true) (pva_2 (pv_var rfl) (pv_ixT (pv_var rfl) pv_c (SqT.mn e02 h) rfl)) fun H3 e Q q => ⟨_, _, cs, ls, rfl, hW.mono (Le.of (e02.trans e)), .inl ⟨rfl, q⟩⟩))) (fun H1 e h => nomatch h) fun H3 e3 _ => ?_
      have e03 := e02.trans e3
      refine ss_if (b := false) (pt_n (b := true) (pt_b (pv_call (v := .bl true) (pva_2 (pv_var rfl) (pv_ixT (pv_var rfl) pv_c (SqT.mn e03 h) rfl)) fun H4 e Q q => ⟨_, _, cs, ls, [], rfl, hW.mono (Le.of (e03.trans e)), SqL.mn (e03.trans e) hb, by decide, q⟩))) (fun H1 e h => nomatch h) fun H4 e4 _ => ?_
      have q : RetG .non H Q := q
      dsimp only
      refine st_next ?_
      dsimp only
      refine ss_ret (v := .non) pv_c ?_
      exact q.mn (e03.trans e4)
/-! ### look_at_aim -/
/-- no wishes, with what is told -/
def BadW (K : Frg) (H : Hp) (v p n : V) : Prop :=
  (∃ cs ls p' n', WS K H v cs ls ∧ (∀ rs ∈ ls, rs.flatten.length < 1000) ∧ wFault cs ls = some (p', n') ∧ p = .str p' ∧ n = vo n') ∨ ((v = .non ∨ ∃ a xs, v = .ref a ∧ SqL K H a xs) ∧ p = .str "wishes" ∧ n = .non)
theorem BadW.mn {H H1 : Hp} {v p n : V} (e : Same H H1) (h : BadW K H v p n) : BadW K H1 v p n := by
  rcases h with ⟨cs, ls, p', n', h, r⟩ | ⟨h, r⟩
  · exact .inl ⟨cs, ls, p', n', h.mono (Le.of e), r⟩
  · refine .inr ⟨h.imp id fun ⟨a, xs, h1, h2⟩ => ⟨a, xs, h1, SqL.mn e h2⟩, r⟩
theorem look_bad {H : Hp} {Q : VK} {E : XK} {v p n : V} (h : BadW K H v p n) (q : RzW K p n H E) : spLook K [v] H Q E := by
  rcases h with ⟨cs, ls, p', n', h, r1, r2, rfl, rfl⟩ | ⟨h, rfl, rfl⟩
  · exact ⟨v, rfl, .inl ⟨cs, ls, h, r1, by rw [r2]; exact q⟩⟩
  · exact ⟨v, rfl, .inr ⟨h, q⟩⟩
/-- wishes and an aim are refused -/
def Refuse (K : Frg) (v x : V) (H : Hp) (E : XK) : Prop := (∃ p n, BadW K H v p n ∧ RzW K p n H E) ∨ ∃ cs ls p, WS K H v cs ls ∧ WG cs ls ∧ AimF K H cs ls x (some p) ∧ RzA K (.str p) H E
theorem Refuse.mn {H H1 : Hp} {v x : V} {E : XK} (e : Same H H1) (h : Refuse K v x H E) : Refuse K v x H1 E := by
  rcases h with ⟨p, n, h, q⟩ | ⟨cs, ls, p, h1, h2, h3, q⟩
  · exact .inl ⟨p, n, h.mn e, q.mn e⟩
  · exact .inr ⟨cs, ls, p, h1.mono (Le.of e), h2, h3.mn e, q.mn e⟩
def spLookA (K : Frg) : Sp := fun vs H Q E => ∃ v x, vs = [v, x] ∧ (Refuse K v x H E ∨ ∃ cs ls, WS K H v cs ls ∧ WG cs ls ∧ AimF K H cs ls x none ∧ RetG .non H Q)
theorem sc_look_at_aim : FnScope N_look_at_aim ["wishes", "thing"] (defScope s_look_at_aim) := ⟨rfl, rfl, rfl, by decide +kernel, rfl, by decide +kernel, by decide +kernel⟩
theorem ok_look_at_aim (G : Gx K mg) : Known P w K mg base (L2.CX P w) 5 "look_at_aim" ["wishes", "thing"] (spLookA K) := by
  have sc := sc_look_at_aim
  have X := exFacts G.ex
  have kI := ok_initA (P := P) (w := w) (base := base) G
  have k_look_at_wishes := ok_look_at_wishes (P := P) (w := w) (base := base) G
  have k_fault_of := ok_fault_of (P := P) (w := w) (base := base) G
  refine G.f_look_at_aim.knownX sc (fun _ _ _ _ _ _ us hl => match us, hl with | [_, _], _ => rfl) (fun vs H Q E h => ?_) (fun cdv A outer s H vs Q E hr h => ?_)
  · obtain ⟨v, x, rfl, _⟩ := h; rfl
  · obtain ⟨v, x, rfl, h⟩ := h
    have tk := takes_of (X := cxOf (L2.CX P w) P w K mg base N_look_at_aim "look_at_aim" (defScope s_look_at_aim) (He.ga K "look_at_aim") cdv A outer s H E) (E := E) rfl rfl rfl rfl
    refine ⟨_, (pss_cons (ps_expr (pe_kn k_look_at_wishes (hr.mono (by decide)) (passes_call tk (fun _ _ _ _ h => h)) (pa_cons (pv 0) pa_nil)))
      (pss_cons (ps_set (i := 2) sc.nd rfl (Or.inl rfl) (pe_kn k_fault_of (hr.mono (by decide)) pass0 (pa_cons (pv 0) (pa_cons (pv 1) pa_nil))))
      (pss_one (ps_if (pt_cmpR op_notN (pv 2) pe_non (nomark _))
      (pss_one (ps_raise rfl tk (pmk_kn kI X.oa (hr.mono (by decide)) G.g_NoAim (pa_cons (pv 2) pa_nil)))) pss_nil)))), ?_⟩
    have go : ∀ {cs ls f}, WS K H v cs ls → WG cs ls → AimF K H cs ls x f → (f = none → RetG .non H Q) → (∀ p, f = some p → RzA K (.str p) H E) → tSeq (tDrop (tCall (spLook K) [] E (tCons (tVar 0) tNil))) (tSeq (tAsg (tCall (spFault K) [] E0 (tCons (tVar 0) (tCons (tVar 1) tNil))) (gName 2)) (tIfS (tTest (tOp (fun x y H Q => y = .non ∧ Q (.bl (!decide (x = .non))) H) (tVar 2) (tC .non))) (fun _ σ H => tMkO (He.ga K "NoAim") (spInitA K) [] (tCons (tVar 2) tNil) σ H fun cls d H' => E cls d H') tNext)) ⟨fun _ H' => Q .non H', Q, fun _ _ => False, fun _ _ => False⟩ (L2.start N_look_at_aim [v, x]) H := by
      intro cs ls f hW W hA q1 q2
      refine ss_drop (look_pv (pv_var rfl) hW W) fun H1 e1 => ?_
      refine ss_set (pv_call (v := vos f) (pva_2 (pv_var rfl) (pv_var rfl)) fun H2 e Q q => ⟨_, _, cs, ls, f, rfl, hW.mono (Le.of (e1.trans e)), hA.mn (e1.trans e), q⟩) fun H2 e2 => ?_
      have e02 := e1.trans e2
      cases f with
      | none =>
        dsimp only
        refine ss_if (b := false) (pt_t (pv_notN (pv_var rfl) rfl)) (fun H1 e h => nomatch h) fun H3 e3 _ => ?_
        exact q1 rfl H3 (e02.trans e3)
      | some p =>
        dsimp only
        refine ss_if (b := true) (pt_t (pv_notN (pv_var rfl) rfl)) (fun H3 e3 _ => ?_) fun H1 e h => nomatch h
        exact rz_a (pva_1 (pv_var rfl)) ((q2 p rfl).mn (e02.trans e3))
    rcases h with (⟨p, n, h, q⟩ | ⟨cs, ls, p, hW, W, hA, q⟩) | ⟨cs, ls, hW, W, hA, q⟩
    · exact sd_call (pva_1 (pv_var rfl)) fun H1 e1 => look_bad (h.mn e1) (q.mn e1)
    · exact go hW W hA (fun h => nomatch h) fun p' h => by cases h; exact q
    · exact go hW W hA (fun _ => q) fun p' h => nomatch h
end
end Wd
set_option Elab.async false
set_option linter.all false
set_option maxRecDepth 100000
set_option maxHeartbeats 4000000
/-! expressions that make a list; statements with them -/
namespace Wd
open PySem PySem.Spec PyProof.Rows L2
def EvL (te : TE) (σ : L2.St) (H : Hp) (xs : List V) : Prop := ∀ Q : VK, RetL xs H Q → te σ H Q
section
variable {K : Frg} {σ : L2.St} {H : Hp} {ta tb te : TE} {t : TA} {x v : V} {vs xs ys : List V} {E : XK} {sp : Sp} {D : Ends}
theorem el_call (ha : Pva t σ H vs) (hs : ∀ H1, Same H H1 → ∀ Q, RetL xs H1 Q → sp vs H1 Q E) : EvL (tCall sp [] E t) σ H xs := fun Q q => ha H (Same.refl H) _ fun H1 e => by
  rw [List.append_nil]
  exact hs H1 e Q (q.mn e)
theorem el_lst (ha : Pva t σ H vs) (hz : vs.length ≤ sizeLine) : EvL (tLst t) σ H vs := fun Q q => ha H (Same.refl H) _ fun H1 e => ⟨hz, fun p hp => q p _ (e.free hp) (e.trans (same_new hp)) upd_same⟩
theorem el_copy {a : Addr} (ha : Pv ta σ H (.ref a)) (h : SqL K H a xs) : EvL (tCB (fun xs H Q => ∃ p ys, xs = [.ref p] ∧ (SqL K H p ys ∨ SqT K H p ys) ∧ ∀ l, H l = none → Q (.ref l) (upd H l (.lst ys))) (tCons ta tNil)) σ H xs :=
  fun Q q => ha.run fun H1 e => ⟨a, xs, rfl, .inl (SqL.mn e h), fun l hl => q l _ (e.free hl) (e.trans (same_new hl)) upd_same⟩
theorem el_meth {C a dx : Addr} {m : Str} {fs : List (Str × V)} (ho : Pv ta σ H (.ref a)) (h : H a = some (.ins C dx fs)) (hl : fs.lookup m = none) (ha : Pva t σ H vs) (hs : ∀ H1, Same H H1 → ∀ Q, RetL xs H1 Q → sp (.ref a :: vs) H1 Q E) : EvL (tMeth C m sp [] E ta t) σ H xs :=
  fun Q q => ho.run fun H2 e2 => ⟨a, dx, fs, rfl, e2 _ _ h, hl, ha H2 e2 _ fun H3 e3 => by
    rw [List.append_nil]
    exact hs H3 (e2.trans e3) Q (q.mn (e2.trans e3))⟩
theorem sl_set {i : Nat} (h : EvL te σ H xs) (q : ∀ p H1, H p = none → Same H H1 → H1 p = some (.lst xs) → D.nx (σ.set i (some (.ref p))) H1) : tAsg te (gName i) D σ H := h _ q
theorem sl_ret (h : EvL te σ H xs) (q : RetL xs H D.rt) : tRet te D σ H := h _ q
theorem sl_fld {a C dx : Addr} {fs : List (Str × V)} {f : Str} (hv : EvL te σ H xs) (ha : ∀ H1, Pv ta σ H1 (.ref a)) (h : H a = some (.ins C dx fs)) (hc : Cls K C) (hn : NoAttr K C f) (hl : fs.length < 1000) (q : ∀ p H1, H p = none → Same H H1 → H1 p = some (.lst xs) → D.nx σ (upd H1 a (.ins C dx (putF f (.ref p) fs)))) : sFld K ta te f D σ H :=
  hv _ fun p H1 hp e h1 => (ha H1).run fun H2 e2 => ⟨a, C, dx, fs, rfl, e2 _ _ (e _ _ h), hc, hn, hl, q p H2 hp (e.trans e2) (e2 _ _ h1)⟩
/-- a new tuple -/
def RetT (xs : List V) (H : Hp) (Q : VK) : Prop := ∀ p H', H p = none → Same H H' → H' p = some (.tup xs) → Q (.ref p) H'
def EvT (te : TE) (σ : L2.St) (H : Hp) (xs : List V) : Prop := ∀ Q : VK, RetT xs H Q → te σ H Q
theorem et_tup (ha : Pva t σ H vs) (hz : vs.length ≤ 1000 := by show _ ≤ _; simp) : EvT (tTup t) σ H vs := fun Q q => ha H (Same.refl H) _ fun H1 e => ⟨by rw [sizeLine_eq]; omega, fun p hp => q p _ (e.free hp) (e.trans (same_new hp)) upd_same⟩
theorem st_set {i : Nat} (h : EvT te σ H xs) (q : ∀ p H1, H p = none → Same H H1 → H1 p = some (.tup xs) → D.nx (σ.set i (some (.ref p))) H1) : tAsg te (gName i) D σ H := h _ q
theorem st_rett (h : EvT te σ H xs) (q : RetT xs H D.rt) : tRet te D σ H := h _ q
theorem pv_vr {i : Nat} (h : σ[i]? = some (some v)) : ∀ H1, Pv (tVar i) σ H1 v := fun _ => pv_var h
end
end Wd
set_option Elab.async false
set_option linter.all false
set_option maxRecDepth 100000
set_option maxHeartbeats 4000000
/-! powers, the scale, worths -/
namespace Wd
open PySem PySem.Spec PyProof.Rows L2
section
variable {P : Program} {w : World} {K : Frg} {mg : Str → Option Value} {base : Heap}
def pows (b n : Nat) : List V := (List.range (n + 1)).map fun k => vn (b ^ k)
theorem pows_len {b n : Nat} : (pows b n).length = n + 1 := by unfold pows; simp
theorem pows_get {b n k : Nat} (h : k ≤ n) : (pows b n)[k]? = some (vn (b ^ k)) := by
  unfold pows
  rw [List.getElem?_map, List.getElem?_range (by omega)]
  rfl
theorem pows_succ {b n : Nat} : pows b n ++ [vn (b ^ (n + 1))] = pows b (n + 1) := by
  unfold pows
  rw [List.range_succ (n := n + 1), List.map_append]
  rfl
def spPow : Sp := fun vs H Q _ => ∃ b m : Nat, vs = [vn b, vn m] ∧ b ≤ 100 ∧ m ≤ 100 ∧ RetL (pows b m) H Q
theorem sc_powers_of : FnScope N_powers_of ["base", "most"] (defScope s_powers_of) := ⟨rfl, rfl, rfl, by decide +kernel, rfl, by decide +kernel, by decide +kernel⟩
theorem ok_powers_of (G : Gx K mg) : Known P w K mg base CX0 1 "powers_of" ["base", "most"] spPow := by
  have sc := sc_powers_of
  refine G.f_powers_of.known sc (fun _ _ _ _ _ _ us hl => match us, hl with | [_, _], _ => rfl) (fun vs H Q E h => ?_) (fun cdv A outer s H vs Q E hr h => ?_)
  · obtain ⟨b, m, rfl, _⟩ := h; rfl
  · obtain ⟨b, m, rfl, hb, hm, q⟩ := h
    refine ⟨_, (pss_cons (ps_set (i := 2) sc.nd rfl (Or.inl rfl) (pe_lst (pa_cons pe_int pa_nil)))
      (pss_cons (ps_for PassesOwn.never rfl (pi_range1 rfl G.n_range (pa_cons (pv 1) pa_nil)) (pg_name (i := 3) sc.nd rfl (Or.inl rfl))
      (pss_one (ps_expr (pe_bm PySem.F.plainAttrs_list PySem.F.slot_list_append PySem.F.type_list_append mt_append (pv 2) (pa_cons (pe_op op_mul (pe_ix ix_list (pv 2) (pe_un un_neg pe_int) (fun _ _ => rfl)) (pv 0)) pa_nil)))))
      (pss_one (ps_ret (pv 2))))), ?_⟩
    refine ss_lst (pva_1 pv_c) (by show 1 ≤ _; rw [sizeLine_eq]; decide) fun H1 p e1 hp => ?_
    have hp0 := e1.free hp
    have e0 : Same H (upd H1 p (.lst [V.int 1])) := e1.trans (same_new hp)
    dsimp only
    refine st_seq ?_
    refine w_forR (n := (m : Int)) (fun Q q => ⟨_, rfl, q⟩) (by omega) (by omega) (fun i σ H' => ∃ x, σ = [some (vn b), some (vn m), some (.ref p), x] ∧ Same H H' ∧ H' p = some (.lst (pows b i))) ⟨_, rfl, e0, by rw [upd_same]; rfl⟩ ?_ ?_
    · rintro i σ H2 hi ⟨x, rfl, e2, h2⟩
      refine ss_app (v := vn (b ^ (i + 1))) rfl h2 (by rw [pows_len, sizeLine_eq]; omega) ?_ fun H3 e3 => ⟨_, rfl, same_mut (e2.trans e3) hp0, by rw [upd_same, pows_succ]⟩
      have := pv_mul (σ := [some (vn b), some (vn m), some (V.ref p), some (vn i)]) (H := H2) (i := ((b ^ i : Nat) : Int)) (j := ((b : Nat) : Int)) (pv_ixL (K := K) (ta := tVar 2) (tb := tUn (rU fun i => .int (-i)) (tC (.int 1))) (pv_var rfl) (pv_neg pv_c) (SqL.of h2) (atI_neg1 pows_len (pows_get (Nat.le_refl _)))) (pv_var (i := 0) rfl) (.inr ⟨by omega, by omega⟩)
      refine Pv.to this ?_
      show V.int _ = V.int _
      rw [Nat.pow_succ, Int.natCast_mul]
    · rintro σ H2 ⟨x, rfl, e2, h2⟩
      exact ⟨_, rfl, q p H2 hp0 e2 h2⟩
/-! ### the scale -/
def scFs (s : Str) (B R : Nat) (tl sl pl : Addr) : List (Str × V) := [("order", .str s), ("old", .non), ("turns", .ref tl), ("base", vn B), ("ranks", vn R), ("steps", .ref sl), ("picks", .ref pl)]
def ScAt (K : Frg) (H : Hp) (a : Addr) (s : Str) (B R : Nat) : Prop := ∃ dx tl sl pl, H a = some (.ins (He.ga K "Scale") dx (scFs s B R tl sl pl)) ∧ SqL K H tl [] ∧ SqL K H sl (pows B R) ∧ SqL K H pl [.int 1]
theorem ScAt.mn {H H1 : Hp} {a : Addr} {s : Str} {B R : Nat} (e : Same H H1) (h : ScAt K H a s B R) : ScAt K H1 a s B R := by
  obtain ⟨dx, tl, sl, pl, h1, h2, h3, h4⟩ := h
  exact ⟨dx, tl, sl, pl, e _ _ h1, SqL.mn e h2, SqL.mn e h3, SqL.mn e h4⟩
/-- an aim that is one -/
def AOk (K : Frg) (H : Hp) (x : V) (s : Str) : Prop := ∃ a b, x = .ref a ∧ SqT K H a [.str s, .non, .ref b] ∧ ordB s = true ∧ SqL K H b []
theorem AOk.mn {H H1 : Hp} {x : V} {s : Str} (e : Same H H1) (h : AOk K H x s) : AOk K H1 x s := by
  obtain ⟨a, b, h1, h2, h3, h4⟩ := h
  exact ⟨a, b, h1, SqT.mn e h2, h3, SqL.mn e h4⟩
theorem AOk.f {H : Hp} {x : V} {s : Str} {cs : List Nat} {ls : List (List (List Nat))} (h : AOk K H x s) : AimF K H cs ls x none := by
  obtain ⟨a, b, rfl, h2, h3, h4⟩ := h
  exact .ok h2 h3 h4
/-- the heap but for a -/
def But (H H' : Hp) (A : List Addr) : Prop := ∀ b u, b ∉ A → H b = some u → H' b = some u
def spScI (K : Frg) : Sp := fun vs H Q _ => ∃ a dx v x cs ls s, vs = [.ref a, v, x] ∧ H a = some (.ins (He.ga K "Scale") dx []) ∧ WS K H v cs ls ∧ WG cs ls ∧ AOk K H x s ∧
  ∀ H', But H H' [a] → ScAt K H' a s (ls.length + 1) (lng ls) → Q .non H'
theorem sc_Scale_init : FnScope N_Scale_init ["self", "wishes", "aim"] (defScope s_Scale_init) := ⟨rfl, rfl, rfl, by decide +kernel, rfl, by decide +kernel, by decide +kernel⟩
theorem same_but {H H1 H2 : Hp} {a : Addr} {u : HO} {o : HO} (e : Same H H1) (ha : H a = some o) (e2 : Same (upd H1 a u) H2) : But H H2 [a] := fun b v hb h => e2 _ _ (by rw [upd_ne (fun z => hb (by rw [z]; exact List.mem_singleton.mpr rfl))]; exact e _ _ h)
theorem but_t {H H1 : Hp} {a : Addr} (B : But H H1 [a]) {p : Addr} {xs : List V} {o : HO} (ha : H a = some o) (ho : ∀ u : HO, Rd H a u → u = o) (hn : o ≠ .tup xs) (h : SqT K H p xs) : SqT K H1 p xs := by
  rcases h with h | h
  · have ne : p ∉ [a] := fun z => by
      rw [List.mem_singleton] at z
      subst z
      exact hn (ho _ h).symm
    rcases h with h | ⟨o', h⟩
    · exact .inl (.inl (B _ _ ne h))
    · exact .inl (.inr ⟨o', B _ _ ne h⟩)
  · exact .inr h
theorem but_l {H H1 : Hp} {a : Addr} (B : But H H1 [a]) {p : Addr} {xs : List V} {o : HO} (ha : H a = some o) (ho : ∀ u : HO, Rd H a u → u = o) (hn : o ≠ .lst xs) (h : SqL K H p xs) : SqL K H1 p xs := by
  rcases h with h | h
  · have ne : p ∉ [a] := fun z => by
      rw [List.mem_singleton] at z
      subst z
      exact hn (ho _ h).symm
    rcases h with h | ⟨o', h⟩
    · exact .inl (.inl (B _ _ ne h))
    · exact .inl (.inr ⟨o', B _ _ ne h⟩)
  · exact .inr h
theorem rd_ins {H : Hp} {a C dx : Addr} {fs : List (Str × V)} (h : H a = some (.ins C dx fs)) : ∀ u : HO, Rd H a u → u = .ins C dx fs := fun u hu => by
  rcases hu with hu | ⟨o, hu⟩
  · rw [h] at hu; exact (Option.some.inj hu).symm
  · rw [h] at hu; cases hu
/-- the heap H1 is H but for the instance at a -/
structure InsUp (H H1 : Hp) (a C dx : Addr) (fs : List (Str × V)) : Prop where
  but : But H H1 [a]
  at_ : H1 a = some (.ins C dx fs)
theorem InsUp.go {H H1 H2 : Hp} {a C dx : Addr} {fs : List (Str × V)} (h : InsUp H H1 a C dx fs) (e : Same H1 H2) : InsUp H H2 a C dx fs := ⟨fun b u hb hu => e _ _ (h.but b u hb hu), e _ _ h.at_⟩
theorem InsUp.put {H H1 : Hp} {a C dx : Addr} {fs fs' : List (Str × V)} (h : InsUp H H1 a C dx fs) : InsUp H (upd H1 a (.ins C dx fs')) a C dx fs' := ⟨fun b u hb hu => by rw [upd_ne (fun z => hb (by rw [z]; exact List.mem_singleton.mpr rfl))]; exact h.but b u hb hu, upd_same⟩
section
variable {H H1 : Hp} {a C dx : Addr} {fs gs : List (Str × V)}
theorem InsUp.l (h : InsUp H H1 a C dx gs) (ha : H a = some (.ins C dx fs)) {p : Addr} {xs : List V} (hl : SqL K H p xs) : SqL K H1 p xs := but_l h.but ha (rd_ins ha) (fun z => by cases z) hl
theorem InsUp.t (h : InsUp H H1 a C dx gs) (ha : H a = some (.ins C dx fs)) {p : Addr} {xs : List V} (hl : SqT K H p xs) : SqT K H1 p xs := but_t h.but ha (rd_ins ha) (fun z => by cases z) hl
theorem InsUp.ln (h : InsUp H H1 a C dx gs) (ha : H a = some (.ins C dx fs)) {v : V} {ns : List Nat} (hl : LN K H v ns) : LN K H1 v ns := by
  obtain ⟨p, rfl, hp⟩ := hl
  exact ⟨p, rfl, h.l ha hp⟩
theorem InsUp.lln (h : InsUp H H1 a C dx gs) (ha : H a = some (.ins C dx fs)) {v : V} {ns : List (List Nat)} (hl : LLN K H v ns) : LLN K H1 v ns := by
  obtain ⟨p, us, rfl, hp, hr⟩ := hl
  exact ⟨p, us, rfl, h.l ha hp, Paired.mapP hr fun _ _ => h.ln ha⟩
theorem InsUp.ws (h : InsUp H H1 a C dx gs) (ha : H a = some (.ins C dx fs)) {v : V} {cs : List Nat} {ls : List (List (List Nat))} (hw : WS K H v cs ls) : WS K H1 v cs ls := by
  obtain ⟨p, va, vb, rfl, h1, h2, b, us, rfl, h3, h4⟩ := hw
  exact ⟨p, va, _, rfl, h.t ha h1, h.ln ha h2, b, us, rfl, h.l ha h3, Paired.mapP h4 fun _ _ => h.lln ha⟩
end
theorem ok_Scale_init (G : Gx K mg) : KnownM P w K mg base CX0 6 (He.ga K "Scale") "__init__" ["self", "wishes", "aim"] (spScI K) := by
  have sc := sc_Scale_init
  have k_longest := ok_longest (P := P) (w := w) (base := base) G
  have k_powers_of := ok_powers_of (P := P) (w := w) (base := base) G
  refine G.f_Scale_init.known sc (fun _ _ _ _ _ _ us hl => match us, hl with | [_, _, _], _ => rfl) (fun vs H Q E h => ?_) (fun cdv A outer s H vs Q E hr h => ?_)
  · obtain ⟨a, dx, v, x, cs, ls, s, rfl, _⟩ := h; rfl
  · obtain ⟨a, dx, v, x, cs, ls, s, rfl, ha, hW, W, ⟨xa, tb, rfl, hx, hs, htb⟩, q⟩ := h
    refine ⟨_, (pss_cons (ps_fld (pv 0) (pe_ix ix_tup (pv 2) pe_int (fun _ _ => rfl)) rfl)
      (pss_cons (ps_fld (pv 0) (pe_ix ix_tup (pv 2) pe_int (fun _ _ => rfl)) rfl)
      (pss_cons (ps_fld (pv 0) (pe_callTy call_list_of (by rfl) G.n_list (by decide +kernel) (pa_cons (pe_ix ix_tup (pv 2) pe_int (fun _ _ => rfl)) pa_nil)) rfl)
      (pss_cons (ps_fld (pv 0) (pe_op op_add (pe_callB call_len_seq (by rfl) G.n_len (by decide +kernel) (pa_cons (pe_ix ix_tup (pv 1) pe_int (fun _ _ => rfl)) pa_nil)) pe_int) rfl)
      (pss_cons (ps_fld (pv 0) (pe_kn k_longest (hr.mono (by decide)) pass0 (pa_cons (pv 1) pa_nil)) rfl)
      (pss_cons (ps_fld (pv 0) (pe_kn k_powers_of (hr.mono (by decide)) pass0 (pa_cons (pe_fld (pv 0) rfl) (pa_cons (pe_fld (pv 0) rfl) pa_nil))) rfl)
      (pss_one (ps_fld (pv 0) (pe_kn k_powers_of (hr.mono (by decide)) pass0 (pa_cons (pe_op op_add (pe_fld (pv 0) rfl) pe_int) (pa_cons (pe_callB call_len_seq (by rfl) G.n_len (by decide +kernel) (pa_cons (pe_fld (pv 0) rfl) pa_nil)) pa_nil))) rfl)))))))), ?_⟩
    have I0 : InsUp H H a (He.ga K "Scale") dx [] := ⟨fun _ _ _ h => h, ha⟩
    have h7 := W.all.2.2.1
    have h5 := W.lng5
    refine ss_fld (pv_ixT (pv_var rfl) pv_c hx rfl) (pv_var rfl) ha G.c_Scale G.a_Scale_order (by simp) fun H1 e1 => ?_
    have I1 := (I0.go e1).put (fs' := [("order", .str s)])
    refine ss_fld (v := .non) (pv_ixT (pv_var rfl) pv_c (I1.t ha hx) rfl) (pv_var rfl) I1.at_ G.c_Scale G.a_Scale_old (by simp) fun H2 e2 => ?_
    have I2 := (I1.go e2).put (fs' := [("order", .str s), ("old", .non)])
    -- turns
    refine sl_fld (el_copy (pv_ixT (pv_var rfl) pv_c (I2.t ha hx) rfl) (I2.l ha htb)) (pv_vr rfl) I2.at_ G.c_Scale G.a_Scale_turns (by simp) fun tl H3 htl e3 t3 => ?_
    have hta : tl ≠ a := fun z => by subst z; have := I2.at_; rw [htl] at this; cases this
    have I4 := (I2.go e3).put (fs' := [("order", .str s), ("old", .non), ("turns", .ref tl)])
    have t4 : (upd H3 a (.ins (He.ga K "Scale") dx [("order", .str s), ("old", .non), ("turns", .ref tl)])) tl = some (.lst []) := by rw [upd_ne hta]; exact t3
    -- base
    obtain ⟨pw, va, vb, rfl, hT, ⟨a1, rfl, ha1⟩, b, us, rfl, hb, hp⟩ := hW
    have hW : WS K H (.ref pw) cs ls := ⟨pw, _, _, rfl, hT, ⟨a1, rfl, ha1⟩, b, us, rfl, hb, hp⟩
    refine ss_fld (v := vn (ls.length + 1)) (Pv.to (pv_add (i := ((ls.length : Nat) : Int)) (j := 1) (pv_len (pv_ixT (pv_var rfl) pv_c (I4.t ha hT) rfl) (.inl (I4.l ha hb)) hp.length) pv_c) rfl) (pv_var rfl) I4.at_ G.c_Scale G.a_Scale_base (by simp) fun H5 e5 => ?_
    have I5 := (I4.go e5).put (fs' := [("order", .str s), ("old", .non), ("turns", .ref tl), ("base", vn (ls.length + 1))])
    have t5 := e5 _ _ t4
    -- ranks
    refine ss_fld (v := vn (lng ls)) (pv_call (pva_1 (pv_var rfl)) fun H6 e Q q => ⟨_, cs, ls, rfl, (I5.ws ha hW).mono (Le.of e), W, q⟩) (pv_var rfl) I5.at_ G.c_Scale G.a_Scale_ranks (by simp) fun H6 e6 => ?_
    have I6 := (I5.go e6).put (fs' := [("order", .str s), ("old", .non), ("turns", .ref tl), ("base", vn (ls.length + 1)), ("ranks", vn (lng ls))])
    have t6 : H6 tl = some (.lst []) := e6 _ _ (by rw [upd_ne hta]; exact t5)
    -- steps
    refine sl_fld (el_call (pva_2 (pv_fld (pv_var rfl) I6.at_ G.c_Scale G.a_Scale_base rfl) (pv_fld (pv_var rfl) I6.at_ G.c_Scale G.a_Scale_ranks rfl)) fun H7 e Q q => ⟨ls.length + 1, lng ls, rfl, by omega, by omega, q⟩) (pv_vr rfl) I6.at_ G.c_Scale G.a_Scale_steps (by simp) fun sl H8 hsl e8 h8 => ?_
    have hsa : sl ≠ a := fun z => by subst z; have := I6.at_; rw [hsl] at this; cases this
    have t8 : H8 tl = some (.lst []) := e8 _ _ (by rw [upd_ne hta]; exact t6)
    have I9 := (I6.go e8).put (fs' := [("order", .str s), ("old", .non), ("turns", .ref tl), ("base", vn (ls.length + 1)), ("ranks", vn (lng ls)), ("steps", .ref sl)])
    -- picks
    refine sl_fld (el_call (pva_2 (pv_add (i := ((lng ls : Nat) : Int)) (j := 1) (pv_fld (pv_var rfl) I9.at_ G.c_Scale G.a_Scale_ranks rfl) pv_c) (pv_len (n := 0) (pv_fld (pv_var rfl) I9.at_ G.c_Scale G.a_Scale_turns rfl) (.inl (SqL.of (by rw [upd_ne hta]; exact t8))) rfl)) fun H10 e Q q => ⟨lng ls + 1, 0, rfl, by omega, by omega, q⟩) (pv_vr rfl) I9.at_ G.c_Scale G.a_Scale_picks (by simp) fun pl H11 hpl e11 h11 => ?_
    have hpa : pl ≠ a := fun z => by subst z; have := I9.at_; rw [hpl] at this; cases this
    have I12 := (I9.go e11).put (fs' := scFs s (ls.length + 1) (lng ls) tl sl pl)
    refine q _ I12.but ⟨dx, tl, sl, pl, I12.at_, SqL.of ?_, SqL.of ?_, SqL.of ?_⟩
    · rw [upd_ne hta]; exact e11 _ _ (by rw [upd_ne hta]; exact t8)
    · rw [upd_ne hsa]; exact e11 _ _ (by rw [upd_ne hsa]; exact h8)
    · rw [upd_ne hpa]; exact h11
end
end Wd
set_option Elab.async false
set_option linter.all false
set_option maxRecDepth 100000
set_option maxHeartbeats 4000000
/-! comprehensions from any source; tuples made; dicts by numbers -/
namespace Wd
open PySem PySem.Spec PyProof.Rows L2
/-- the term gives a list that reads xs -/
def Src (K : Frg) (tl : TE) (σ : L2.St) (H : Hp) (xs : List V) : Prop := ∀ R : VK, (∀ a H1, Same H H1 → SqL K H1 a xs → R (.ref a) H1) → tl σ H R
theorem Src.pv {K : Frg} {tl : TE} {σ : L2.St} {H : Hp} {xs : List V} {a : Addr} (h : Pv tl σ H (.ref a)) (hx : SqL K H a xs) : Src K tl σ H xs := fun R q => h.run fun H1 e => q a H1 e (SqL.mn e hx)
theorem Src.el {K : Frg} {tl : TE} {σ : L2.St} {H : Hp} {xs : List V} (h : EvL tl σ H xs) : Src K tl σ H xs := fun R q => h _ fun p H1 _ e hp => q p H1 e (SqL.of hp)
/-- what a comprehension asks behind its source -/
abbrev LcGo (J : It) (g : TG) (tt : TT) (te : TE) (vs : List Nat) (σ : L2.St) (H1 : Hp) (Q : VK) : Prop := ∀ D, H1 D = none → ∃ W : Nat → Nat → Hp → Prop, (∃ m, W 0 m (upd H1 D (.lst []))) ∧ ∀ i m H, W i m H →
  (J.stop i H ∧ Q (.ref D) H) ∨ (J.go i H ∧ ∃ Nx : Hp → Prop, (∀ H', Nx H' → ∃ m', m' < m ∧ W (i + 1) m' H') ∧ ∀ x H', J.yld i H x H' → g x (wipe σ vs) H' fun σ2 H2 => wipe σ2 vs = wipe σ vs ∧ tt σ2 H2 fun b H3 =>
    if b = true then te σ2 H3 fun y H4 => ∃ acc, H4 D = some (.lst acc) ∧ acc.length < sizeLine ∧ Nx (upd H4 D (.lst (acc ++ [y]))) else Nx H3)
/-- us stands for tuples of these rows, all new -/
def Tups (H H' : Hp) (us : List V) (rows : List (List V)) : Prop := Paired (fun u r => ∃ q, u = .ref q ∧ H' q = some (.tup r) ∧ H q = none) us rows
theorem Paired.append {α β : Type} {R : α → β → Prop} : ∀ {xs xs' : List α} {ys ys' : List β}, Paired R xs ys → Paired R xs' ys' → Paired R (xs ++ xs') (ys ++ ys')
  | _, _, _, _, .nil, h => h
  | _, _, _, _, .cons a r, h => .cons a (Paired.append r h)
theorem Paired.snoc {α β : Type} {R : α → β → Prop} : ∀ {xs : List α} {ys : List β} {x : α} {y : β}, Paired R xs ys → R x y → Paired R (xs ++ [x]) (ys ++ [y])
  | _, _, _, _, .nil, h => .cons h .nil
  | _, _, _, _, .cons a r, h => .cons a (Paired.snoc r h)
section
variable {K : Frg} {σ : L2.St} {H : Hp} {tl te : TE} {ta : TA} {Q : VK} {g : TG}
theorem lcT_go {a : Addr} {xs : List V} {vs : List Nat} {tp : TA} (f : Nat → List V) (hx : SqL K H a xs) (hz : xs.length ≤ 1000000)
    (hg : ∀ i x H1, xs[i]? = some x → Same H H1 → ∀ R : L2.St → Hp → Prop, (∀ σ2 H2, Same H1 H2 → wipe σ2 vs = wipe σ vs → Pva tp σ2 H2 (f i) → (f i).length ≤ sizeLine → R σ2 H2) → g x (wipe σ vs) H1 R)
    (q : ∀ D us H', H D = none → Same H H' → H' D = some (.lst us) → Tups H H' us ((List.range xs.length).map f) → Q (.ref D) H') : LcGo (Itl K a) g tYes (tTup tp) vs σ H Q := by
  intro D hD
  refine lc_list (xs := xs) (fun i H' => Same H H' ∧ ∃ us, H' D = some (.lst us) ∧ Tups H H' us ((List.range i).map f)) ⟨same_new hD, [], upd_same, .nil⟩ (fun i H' _ p => SqL.mn p.1 hx) (fun i x H1 hi p => ?_) (fun H' p => by obtain ⟨e, us, h1, h2⟩ := p; exact q D us H' hD e h1 h2)
  obtain ⟨e1, us, hu, ht⟩ := p
  refine hg i x H1 hi e1 _ fun σ2 H2 e2 hw hp hl => ⟨hw, ?_⟩
  unfold tYes
  dsimp only
  rw [if_pos rfl]
  refine hp H2 (Same.refl _) _ fun H3 e3 => ⟨hl, fun r hr => ⟨us, (e2.trans (e3.trans (same_new hr))) _ _ hu, ?_, ?_, us ++ [.ref r], upd_same, ?_⟩⟩
  · have h1 := ht.length
    rw [List.length_map, List.length_range] at h1
    have := (List.getElem?_eq_some_iff.mp hi).1
    rw [h1, sizeLine_eq]
    omega
  · exact same_mut (e1.trans (e2.trans (e3.trans (same_new hr)))) hD
  · rw [List.range_succ, List.map_append]
    have hDr : r ≠ D := fun z => by
      subst z
      have := (e2.trans e3) _ _ hu
      rw [hr] at this
      cases this
    refine Paired.snoc (Paired.mapP ht fun u r' ⟨q', hq, h1, h2⟩ => ⟨q', hq, ?_, h2⟩) ⟨r, rfl, ?_, (e1.trans (e2.trans e3)).free hr⟩
    · have hqD : q' ≠ D := fun z => by
        subst z
        rw [hu] at h1
        cases h1
      rw [upd_ne hqD]
      exact (e2.trans (e3.trans (same_new hr))) _ _ h1
    · rw [upd_ne hDr, upd_same]
theorem lc_open {vs : List Nat} {tt : TT} (h : tl σ H fun x H1 => ∃ a, x = .ref a ∧ (∃ xs, SqL K H1 a xs) ∧ LcGo (Itl K a) g tt te vs σ H1 Q) : tLc (iList K tl) g tt te vs σ H Q := h
theorem lc_src {xs : List V} {vs : List Nat} {tt : TT} (h : Src K tl σ H xs) (q : ∀ a H1, Same H H1 → SqL K H1 a xs → LcGo (Itl K a) g tt te vs σ H1 Q) : tLc (iList K tl) g tt te vs σ H Q :=
  h _ fun a H1 e hx => ⟨a, rfl, ⟨xs, hx⟩, q a H1 e hx⟩
end
/-! ### dicts whose keys are numbers -/
abbrev NK (n : Nat) : Key := Sum.inl (n : Int)
def kd (f : Nat → V) (l : List Nat) : List (Key × V) := l.map fun t => (NK t, f t)
theorem NK.inj {a b : Nat} (h : NK a = NK b) : a = b := by have := Sum.inl.inj h; omega
theorem kd_val {f : Nat → V} {l : List Nat} {t : Nat} : valV (kd f l) (NK t) = if t ∈ l then some (f t) else none := by
  unfold valV kd
  induction l with
  | nil => simp
  | cons n r ih =>
    rw [List.map_cons, List.find?_cons]
    by_cases h : n = t
    · subst h; simp
    · have : decide (NK n = NK t) = false := decide_eq_false fun z => h (NK.inj z)
      rw [this]
      dsimp only
      rw [ih]
      simp [Ne.symm h, eq_comm]
theorem kd_put {f : Nat → V} {l : List Nat} {t : Nat} (h : t ∉ l) : putK (kd f l) (NK t) (f t) = kd f (l ++ [t]) := by
  rw [L2.putK_new _ (by rw [kd_val, if_neg h])]
  unfold kd
  rw [List.map_append]
  rfl
/-- a new dict -/
def RetD (kvs : List (Key × V)) (H : Hp) (Q : VK) : Prop := ∀ p H', H p = none → Same H H' → H' p = some (.dK kvs) → Q (.ref p) H'
theorem RetD.mn {H H1 : Hp} {kvs : List (Key × V)} {Q : VK} (e : Same H H1) (h : RetD kvs H Q) : RetD kvs H1 Q := fun p H' hp e' h' => h p H' (e.free hp) (e.trans e') h'
def EvD (te : TE) (σ : L2.St) (H : Hp) (kvs : List (Key × V)) : Prop := ∀ Q : VK, RetD kvs H Q → te σ H Q
section
variable {K : Frg} {σ : L2.St} {H : Hp} {ta tb te : TE} {t : TA} {x v : V} {vs xs ys : List V} {E : XK} {sp : Sp} {D : Ends} {kvs : List (Key × V)}
theorem ed_new : EvD tDNewK σ H [] := fun Q q p hp => q p _ hp (same_new hp) upd_same
theorem ed_call (ha : Pva t σ H vs) (hs : ∀ H1, Same H H1 → ∀ Q, RetD kvs H1 Q → sp vs H1 Q E) : EvD (tCall sp [] E t) σ H kvs := fun Q q => ha H (Same.refl H) _ fun H1 e => by
  rw [List.append_nil]
  exact hs H1 e Q (q.mn e)
theorem sd_set {i : Nat} (h : EvD te σ H kvs) (q : ∀ p H1, H p = none → Same H H1 → H1 p = some (.dK kvs) → D.nx (σ.set i (some (.ref p))) H1) : tAsg te (gName i) D σ H := h _ q
theorem sd_ret (h : EvD te σ H kvs) (q : RetD kvs H D.rt) : tRet te D σ H := h _ q
end
end Wd
set_option Elab.async false
set_option linter.all false
set_option maxRecDepth 100000
set_option maxHeartbeats 4000000
/-! worths by the scale -/
namespace Wd
open PySem PySem.Spec PyProof.Rows L2
def byO (s : Str) (B R k : Nat) : Int := if s = "lasts" then ((B ^ R : Nat) : Int) - ((B ^ (k - 1) : Nat) : Int) else if s = "full" then ((B ^ (R - k) : Nat) : Int) + ((B ^ R : Nat) : Int) else ((B ^ (R - k) : Nat) : Int)
def wrth (s : Str) (B R k : Nat) : Int := byO s B R k * (B : Int)
/-- the worth of a thing for an asker -/
def wth (s : Str) (ls : List (List (List Nat))) (i t : Nat) : Int := wrth s (ls.length + 1) (lng ls) (rankIn (ls[i]?.getD []) t)
section
variable {P : Program} {w : World} {K : Frg} {mg : Str → Option Value} {base : Heap}
def spByO (K : Frg) : Sp := fun vs H Q _ => ∃ a s B R k, vs = [.ref a, vn k] ∧ ScAt K H a s B R ∧ 1 ≤ k ∧ k ≤ R ∧ RetG (.int (byO s B R k)) H Q
theorem sc_Scale_by_order : FnScope N_Scale_by_order ["self", "rank"] (defScope s_Scale_by_order) := ⟨rfl, rfl, rfl, by decide +kernel, rfl, by decide +kernel, by decide +kernel⟩
theorem dec_str {a b : Str} : decide (V.str a = V.str b) = decide (a = b) := decide_eq_decide.mpr ⟨fun h => V.str.inj h, fun h => by rw [h]⟩
theorem ok_Scale_by_order (G : Gx K mg) : KnownM P w K mg base CX0 1 (He.ga K "Scale") "by_order" ["self", "rank"] (spByO K) := by
  have sc := sc_Scale_by_order
  refine G.f_Scale_by_order.known sc (fun _ _ _ _ _ _ us hl => match us, hl with | [_, _], _ => rfl) (fun vs H Q E h => ?_) (fun cdv A outer s H vs Q E hr h => ?_)
  · obtain ⟨a, s, B, R, k, rfl, _⟩ := h; rfl
  · obtain ⟨a, s, B, R, k, rfl, ⟨dx, tl, sl, pl, ha, htl, hsl, hpl⟩, h1, h2, q⟩ := h
    refine ⟨_, (pss_cons (ps_if (pt_cmpR op_eq (pe_fld (pv 0) rfl) pe_str (nomark _))
      (pss_one (ps_ret (pe_op op_sub (pe_ix ix_list (pe_fld (pv 0) rfl) (pe_fld (pv 0) rfl) (fun _ _ => rfl)) (pe_ix ix_list (pe_fld (pv 0) rfl) (pe_op op_sub (pv 1) pe_int) (fun _ _ => rfl))))) pss_nil)
      (pss_cons (ps_set (i := 2) sc.nd rfl (Or.inl rfl) (pe_ix ix_list (pe_fld (pv 0) rfl) (pe_op op_sub (pe_fld (pv 0) rfl) (pv 1)) (fun _ _ => rfl)))
      (pss_cons (ps_if (pt_cmpR op_eq (pe_fld (pv 0) rfl) pe_str (nomark _))
      (pss_one (ps_ret (pe_op op_add (pv 2) (pe_ix ix_list (pe_fld (pv 0) rfl) (pe_fld (pv 0) rfl) (fun _ _ => rfl))))) pss_nil)
      (pss_one (ps_ret (pv 2)))))), ?_⟩
    have fo : ∀ {x : Option V} {H1 : Hp}, Same H H1 → Pv (tFld K (tVar 0) "order") [some (.ref a), some (vn k), x] H1 (.str s) := fun e => pv_fld (pv_var rfl) (e _ _ ha) G.c_Scale G.a_Scale_order rfl
    have fs : ∀ {x : Option V} {H1 : Hp}, Same H H1 → Pv (tFld K (tVar 0) "steps") [some (.ref a), some (vn k), x] H1 (.ref sl) := fun e => pv_fld (pv_var rfl) (e _ _ ha) G.c_Scale G.a_Scale_steps rfl
    have fr : ∀ {x : Option V} {H1 : Hp}, Same H H1 → Pv (tFld K (tVar 0) "ranks") [some (.ref a), some (vn k), x] H1 (vn R) := fun e => pv_fld (pv_var rfl) (e _ _ ha) G.c_Scale G.a_Scale_ranks rfl
    refine ss_if (b := decide (s = "lasts")) (pt_t (pv_eq (fo (Same.refl H)) pv_c rfl dec_str)) (fun H1 e1 hb => ?_) fun H1 e1 hb => ?_
    · have q' : RetG (.int (((B ^ R : Nat) : Int) - ((B ^ (k - 1) : Nat) : Int))) H Q := by
        have : byO s B R k = ((B ^ R : Nat) : Int) - ((B ^ (k - 1) : Nat) : Int) := by unfold byO; rw [if_pos (of_decide_eq_true hb)]
        rw [← this]; exact q
      exact ss_ret (pv_sub (pv_ixL (fs e1) (fr e1) (SqL.mn e1 hsl) (atI_nat (pows_get (Nat.le_refl _)))) (pv_ixL (i := ((k - 1 : Nat) : Int)) (fs e1) (Pv.to (pv_sub (i := (k : Int)) (j := 1) (pv_var rfl) pv_c) (by show V.int _ = V.int _; congr 1; omega)) (SqL.mn e1 hsl) (atI_nat (pows_get (by omega))))) (q'.mn e1)
    · have hb1 : s ≠ "lasts" := of_decide_eq_false hb
      refine st_next ?_
      dsimp only
      refine st_seq ?_
      refine ss_set (v := vn (B ^ (R - k))) (pv_ixL (i := ((R - k : Nat) : Int)) (fs e1) (Pv.to (pv_sub (i := (R : Int)) (j := (k : Int)) (fr e1) (pv_var rfl)) (by congr 1; omega)) (SqL.mn e1 hsl) (atI_nat (pows_get (by omega)))) fun H2 e2 => ?_
      have e02 := e1.trans e2
      refine ss_if (b := decide (s = "full")) (pt_t (pv_eq (fo e02) pv_c rfl dec_str)) (fun H3 e3 hb => ?_) fun H3 e3 hb => ?_
      · have e03 := e02.trans e3
        have q' : RetG (.int (((B ^ (R - k) : Nat) : Int) + ((B ^ R : Nat) : Int))) H Q := by
          have : byO s B R k = ((B ^ (R - k) : Nat) : Int) + ((B ^ R : Nat) : Int) := by unfold byO; rw [if_neg hb1, if_pos (of_decide_eq_true hb)]
          rw [← this]; exact q
        exact ss_ret (pv_add (pv_var rfl) (pv_ixL (fs e03) (fr e03) (SqL.mn e03 hsl) (atI_nat (pows_get (Nat.le_refl _))))) (q'.mn e03)
      · have e03 := e02.trans e3
        have q' : RetG (vn (B ^ (R - k))) H Q := by
          have : byO s B R k = ((B ^ (R - k) : Nat) : Int) := by unfold byO; rw [if_neg hb1, if_neg (of_decide_eq_false hb)]
          have q2 := q
          rw [this] at q2; exact q2
        refine st_next ?_
        dsimp only
        exact ss_ret (pv_var rfl) (q'.mn e03)
def spPick (K : Frg) : Sp := fun vs H Q _ => ∃ a s B R i k, vs = [.ref a, vn i, vn k] ∧ ScAt K H a s B R ∧ RetG (.int 0) H Q
theorem sc_Scale_pick_of : FnScope N_Scale_pick_of ["self", "asker", "rank"] (defScope s_Scale_pick_of) := ⟨rfl, rfl, rfl, by decide +kernel, rfl, by decide +kernel, by decide +kernel⟩
theorem ok_Scale_pick_of (G : Gx K mg) : KnownM P w K mg base CX0 1 (He.ga K "Scale") "pick_of" ["self", "asker", "rank"] (spPick K) := by
  have sc := sc_Scale_pick_of
  refine G.f_Scale_pick_of.known sc (fun _ _ _ _ _ _ us hl => match us, hl with | [_, _, _], _ => rfl) (fun vs H Q E h => ?_) (fun cdv A outer s H vs Q E hr h => ?_)
  · obtain ⟨a, s, B, R, i, k, rfl, _⟩ := h; rfl
  · obtain ⟨a, s, B, R, i, k, rfl, ⟨dx, tl, sl, pl, ha, htl, hsl, hpl⟩, q⟩ := h
    refine ⟨_, (pss_cons (ps_if (pt_cmpR op_notIn_seq (pv 1) (pe_fld (pv 0) rfl) rfl)
      (pss_one (ps_ret pe_int)) pss_nil)
      (pss_cons (ps_set (i := 3) sc.nd rfl (Or.inl rfl) (pe_op op_sub (pe_op op_sub (pe_callB call_len_seq (by rfl) G.n_len (by decide +kernel) (pa_cons (pe_fld (pv 0) rfl) pa_nil)) pe_int) (pe_bm PySem.F.plainAttrs_list PySem.F.slot_list_index PySem.F.type_list_index mt_index (pe_fld (pv 0) rfl) (pa_cons (pv 1) pa_nil))))
      (pss_one (ps_ret (pe_op op_mul (pe_op op_sub (pe_op op_add (pe_fld (pv 0) rfl) pe_int) (pv 2)) (pe_ix ix_list (pe_fld (pv 0) rfl) (pv 3) (fun _ _ => rfl))))))), ?_⟩
    refine ss_if (b := true) (pt_t (pv_in (neg := true) (pv_var rfl) (pv_fld (pv_var rfl) ha G.c_Scale G.a_Scale_turns rfl) htl rfl rfl rfl)) (fun H1 e1 _ => ?_) fun H1 e1 h => nomatch h
    exact ss_ret pv_c (q.mn e1)
def spOf (K : Frg) : Sp := fun vs H Q _ => ∃ a s B R i t k, vs = [.ref a, vn i, vn t, vn k] ∧ ScAt K H a s B R ∧ B ≤ 100 ∧ 1 ≤ k ∧ k ≤ R ∧ RetG (.int (wrth s B R k)) H Q
theorem sc_Scale_of : FnScope N_Scale_of ["self", "asker", "thing", "rank"] (defScope s_Scale_of) := ⟨rfl, rfl, rfl, by decide +kernel, rfl, by decide +kernel, by decide +kernel⟩
theorem ok_Scale_of (G : Gx K mg) : KnownM P w K mg base CX0 2 (He.ga K "Scale") "of" ["self", "asker", "thing", "rank"] (spOf K) := by
  have sc := sc_Scale_of
  have k_Scale_by_order := ok_Scale_by_order (P := P) (w := w) (base := base) G
  have k_Scale_pick_of := ok_Scale_pick_of (P := P) (w := w) (base := base) G
  refine G.f_Scale_of.known sc (fun _ _ _ _ _ _ us hl => match us, hl with | [_, _, _, _], _ => rfl) (fun vs H Q E h => ?_) (fun cdv A outer s H vs Q E hr h => ?_)
  · obtain ⟨a, s, B, R, i, t, k, rfl, _⟩ := h; rfl
  · obtain ⟨a, s, B, R, i, t, k, rfl, hS, hB, h1, h2, q⟩ := h
    obtain ⟨dx, tl, sl, pl, ha, htl, hsl, hpl⟩ := id hS
    refine ⟨_, (pss_cons (ps_set (i := 4) sc.nd rfl (Or.inl rfl) (pe_op op_mul (pe_knM k_Scale_by_order G.c_Scale (hr.mono (by decide)) pass0 (pv 0) (pa_cons (pv 3) pa_nil)) (pe_fld (pv 0) rfl)))
      (pss_cons (ps_if (PW.pt (pw_and (pt_cmpR op_notN (pe_fld (pv 0) rfl) pe_non (nomark _)) (pw_and1 (pt_cmpR op_eq (pe_ix ix_list (pe_fld (pv 0) rfl) (pv 1) (fun _ _ => rfl)) (pv 2) (nomark _)))))
      (pss_one (ps_aug (i := 4) sc.nd rfl (Or.inl rfl) pe_int ip_add)) pss_nil)
      (pss_one (ps_ret (pe_op op_add (pe_op op_mul (pv 4) (pe_ix ix_list (pe_fld (pv 0) rfl) (pe_un un_neg pe_int) (fun _ _ => rfl))) (pe_knM k_Scale_pick_of G.c_Scale (hr.mono (by decide)) pass0 (pv 0) (pa_cons (pv 1) (pa_cons (pv 3) pa_nil)))))))), ?_⟩
    refine ss_set (v := .int (wrth s B R k)) (pv_mul (i := byO s B R k) (j := (B : Int)) (pv_meth (pv_var rfl) ha rfl (pva_1 (pv_var rfl)) fun H1 e Q q => ⟨a, s, B, R, k, rfl, hS.mn e, h1, h2, q⟩) (pv_fld (pv_var rfl) ha G.c_Scale G.a_Scale_base rfl) (.inr ⟨by omega, by omega⟩)) fun H1 e1 => ?_
    dsimp only
    refine st_seq ?_
    refine ss_if (b := false && true) (pt_and (b := false) (pt_t (pv_notN (pv_fld (pv_var rfl) (e1 _ _ ha) G.c_Scale G.a_Scale_old rfl) rfl)) fun h => nomatch h) (fun H2 e2 h => nomatch h) fun H2 e2 _ => ?_
    have e02 := e1.trans e2
    have ha2 := e02 _ _ ha
    refine st_next ?_
    dsimp only
    refine ss_ret (v := .int (wrth s B R k)) (Pv.to (pv_add (pv_mul (i := wrth s B R k) (j := 1) (pv_var rfl) (pv_ixL (pv_fld (pv_var rfl) ha2 G.c_Scale G.a_Scale_picks rfl) (pv_neg pv_c) (SqL.mn e02 hpl) rfl) (.inr ⟨by omega, by omega⟩)) (pv_meth (v := .int 0) (pv_var rfl) ha2 rfl (pva_2 (pv_var rfl) (pv_var rfl)) fun H3 e Q q => ⟨a, s, B, R, i, k, rfl, hS.mn (e02.trans e), q⟩)) (by congr 1; omega)) (q.mn e02)
/-! ### worths_of -/
def wdict (s : Str) (B R : Nat) (rs : List (List Nat)) : List (Key × V) := kd (fun t => .int (wrth s B R (rankIn rs t))) rs.flatten
def spWof (K : Frg) : Sp := fun vs H Q _ => ∃ a s B R i r rs, vs = [.ref a, vn i, r] ∧ ScAt K H a s B R ∧ B ≤ 100 ∧ LLN K H r rs ∧ rs.length ≤ R ∧ rs.flatten.Nodup ∧ rs.flatten.length < 1000 ∧ RetD (wdict s B R rs) H Q
theorem sc_worths_of : FnScope N_worths_of ["scale", "asker", "ranks"] (defScope s_worths_of) := ⟨rfl, rfl, rfl, by decide +kernel, rfl, by decide +kernel, by decide +kernel⟩
theorem flat_split {rs : List (List Nat)} {i j : Nat} {r : List Nat} {t : Nat} (h : rs[i]? = some r) (ht : r[j]? = some t) : rs.flatten = ((rs.take i).flatten ++ r.take j) ++ t :: (r.drop (j + 1) ++ (rs.drop (i + 1)).flatten) := by
  obtain ⟨hi, e⟩ := List.getElem?_eq_some_iff.mp h
  have e1 : rs = rs.take i ++ r :: rs.drop (i + 1) := by
    rw [← e]
    simp
  obtain ⟨hj, e2⟩ := List.getElem?_eq_some_iff.mp ht
  have e3 : r = r.take j ++ t :: r.drop (j + 1) := by
    rw [← e2]
    simp
  calc rs.flatten = (rs.take i ++ r :: rs.drop (i + 1)).flatten := congrArg List.flatten e1
    _ = (rs.take i).flatten ++ (r ++ (rs.drop (i + 1)).flatten) := by rw [List.flatten_append, List.flatten_cons]
    _ = (rs.take i).flatten ++ ((r.take j ++ t :: r.drop (j + 1)) ++ (rs.drop (i + 1)).flatten) := by rw [← e3]
    _ = _ := by simp
theorem rank_here {rs : List (List Nat)} {i : Nat} {r : List Nat} {t : Nat} (nd : rs.flatten.Nodup) (h : rs[i]? = some r) (ht : t ∈ r) : rankIn rs t = i + 1 := by
  refine rankIn_at (fun j hj r' hr' hin => ?_) h ht
  have e1 : rs = rs.take i ++ r :: rs.drop (i + 1) := by
    obtain ⟨hi, e⟩ := List.getElem?_eq_some_iff.mp h
    rw [← e]
    simp
  rw [e1, List.flatten_append, List.flatten_cons] at nd
  have : r' ∈ rs.take i := by
    refine List.mem_iff_getElem?.mpr ⟨j, ?_⟩
    rw [List.getElem?_take, if_pos hj]
    exact hr'
  exact (List.nodup_append.mp nd).2.2 t (List.mem_flatten.mpr ⟨r', this, hin⟩) t (List.mem_append_left _ ht) rfl
theorem ok_worths_of (G : Gx K mg) : Known P w K mg base CX0 3 "worths_of" ["scale", "asker", "ranks"] (spWof K) := by
  have sc := sc_worths_of
  have k_Scale_of := ok_Scale_of (P := P) (w := w) (base := base) G
  refine G.f_worths_of.known sc (fun _ _ _ _ _ _ us hl => match us, hl with | [_, _, _], _ => rfl) (fun vs H Q E h => ?_) (fun cdv A outer s H vs Q E hr h => ?_)
  · obtain ⟨a, s, B, R, i, r, rs, rfl, _⟩ := h; rfl
  · obtain ⟨a, s, B, R, i, r, rs, rfl, hS, hB, ⟨ra, us, rfl, hr0, hp⟩, hR, nd, hz, q⟩ := h
    refine ⟨_, (pss_cons (ps_set (i := 3) sc.nd rfl (Or.inl rfl) pe_dnewK)
      (pss_cons (ps_for PassesOwn.never rfl (pi_enum rfl G.n_enumerate (pa_cons (pv 2) pa_nil)) (pg_tup rfl (pgs_cons (pg_name (i := 4) sc.nd rfl (Or.inl rfl)) (pgs_cons (pg_name (i := 5) sc.nd rfl (Or.inl rfl)) pgs_nil)))
      (pss_one (ps_for PassesOwn.never rfl (pi_list (pv 5)) (pg_name (i := 6) sc.nd rfl (Or.inl rfl))
      (pss_one (ps_dput (hu_of hr) (pv 3) (pv 6) (pe_knM k_Scale_of G.c_Scale (hr.mono (by decide)) pass0 (pv 0) (pa_cons (pv 1) (pa_cons (pv 6) (pa_cons (pe_op op_add (pv 4) pe_int) pa_nil)))) rfl)))))
      (pss_one (ps_ret (pv 3))))), ?_⟩
    refine sd_set ed_new fun d H1 hd e1 h1 => ?_
    dsimp only
    refine st_seq ?_
    refine w_forE (fun Q q => ⟨_, rfl, q⟩) (SqL.mn e1 hr0) (fun k σ H' => ∃ x y z, σ = [some (.ref a), some (vn i), some (.ref ra), some (.ref d), x, y, z] ∧ Same H H' ∧ H' d = some (.dK (kd (fun t => .int (wrth s B R (rankIn rs t))) (rs.take k).flatten))) ⟨_, _, _, rfl, e1, h1⟩ (fun k σ H' _ ⟨_, _, _, _, e, _⟩ => SqL.mn e hr0) ?_ ?_
    · rintro k x σ H2 H3 hk ⟨y1, y2, y3, rfl, e2, h2⟩ e3
      obtain ⟨row, hrow, ⟨b, rfl, hb⟩⟩ := paired_get hp hk
      have e03 := e2.trans e3
      refine w_forL (val_var rfl) (SqL.mn e03 hb) (fun j σ H' => ∃ z, σ = [some (.ref a), some (vn i), some (.ref ra), some (.ref d), some (vn k), some (.ref b), z] ∧ Same H H' ∧ H' d = some (.dK (kd (fun t => .int (wrth s B R (rankIn rs t))) ((rs.take k).flatten ++ row.take j)))) ⟨_, rfl, e03, by rw [e3 _ _ h2]; simp⟩ (fun k σ H' _ ⟨_, _, e, _⟩ => SqL.mn e hb) ?_ ?_
      · rintro j x σ H4 hj ⟨z, rfl, e4, h4⟩
        rw [List.getElem?_map] at hj
        cases hj' : row[j]? with
        | none => rw [hj'] at hj; cases hj
        | some t =>
        rw [hj'] at hj
        cases hj
        have esp := flat_split hrow hj'
        have hnin : t ∉ (rs.take k).flatten ++ row.take j := fun hin => by
          rw [esp] at nd
          exact (List.nodup_append.mp nd).2.2 t hin t List.mem_cons_self rfl
        have hrk := rank_here nd hrow (List.mem_of_getElem? hj')
        have hkl : k < rs.length := (List.getElem?_eq_some_iff.mp hrow).1
        have hlen : ((rs.take k).flatten ++ row.take j).length < 1000 := by
          have := congrArg List.length esp
          rw [List.length_append] at this
          omega
        obtain ⟨dx, tl, sl, pl, ha, _⟩ := id (hS.mn e4)
        refine ss_dput (k := NK t) (v := .int (wrth s B R (rankIn rs t))) (pv_meth (pv_var rfl) ha rfl (pva_3 (pv_var rfl) (pv_var rfl) (pv_add (i := (k : Int)) (j := 1) (pv_var rfl) pv_c)) fun H5 e Q q => ⟨a, s, B, R, i, t, k + 1, rfl, hS.mn (e4.trans e), hB, by omega, by omega, by rw [← hrk]; exact q⟩) (pv_var rfl) (pv_var rfl) h4 (by unfold kd; rw [List.length_map, sizeLine_eq]; omega) fun H5 e5 => ⟨_, rfl, same_mut (e4.trans e5) hd, ?_⟩
        rw [upd_same, kd_put (f := fun t => V.int (wrth s B R (rankIn rs t))) hnin, List.take_succ, hj', List.append_assoc]
        rfl
      · rintro σ H4 ⟨z, rfl, e4, h4⟩
        refine ⟨_, _, _, rfl, e4, ?_⟩
        rw [List.length_map, List.take_length] at h4
        rw [h4, List.take_succ, hrow, List.flatten_append]
        simp
    · rintro σ H2 ⟨y1, y2, y3, rfl, e2, h2⟩
      rw [hp.length, List.take_length] at h2
      exact ⟨_, rfl, q d H2 hd e2 h2⟩
end
end Wd
set_option Elab.async false
set_option linter.all false
set_option maxRecDepth 100000
set_option maxHeartbeats 4000000
/-! all_worths, rows_by, left_by -/
namespace Wd
open PySem PySem.Spec PyProof.Rows L2
theorem nd_len : ∀ {m : Nat} {l : List Nat}, l.Nodup → (∀ x ∈ l, x < m) → l.length ≤ m
  | 0, l, _, h => by
    cases l with
    | nil => exact Nat.le_refl _
    | cons a r => exact absurd (h a List.mem_cons_self) (Nat.not_lt_zero _)
  | m + 1, l, nd, h => by
    have h1 : (l.erase m).length ≤ m := nd_len (nd.erase m) fun x hx => by
      have h2 := h x (List.mem_of_mem_erase hx)
      have h3 : x ≠ m := fun z => by
        subst z
        exact (List.Nodup.not_mem_erase nd) hx
      omega
    by_cases hm : m ∈ l
    · rw [List.length_erase_of_mem hm] at h1; omega
    · rw [List.erase_of_not_mem hm] at h1; omega
theorem WG.fl {cs : List Nat} {ls : List (List (List Nat))} (W : WG cs ls) {r : List (List Nat)} (h : r ∈ ls) : r.flatten.length ≤ 6 := by
  have h1 := W.rk h
  have := nd_len h1.2.2 fun x hx => by
    obtain ⟨row, hr, hx⟩ := List.mem_flatten.mp hx
    exact (h1.2.1 row hr).2 x hx
  have := W.all.1.2
  omega
section
variable {X : Cx} {CX : CXT} {k : Nat} {C f' : Addr} {ps : List Str} {sp : Sp} {E : XK} {x : Str} {p pos : Pos} {e : Expr} {es : List Expr} {t : TA}
theorem pe_knMk (F : KnownM X.prog X.w X.K X.mg X.base CX k C "__init__" ps sp) (M : Mk X.K C f') (hr : Room (k + 1) X.A) (hm : X.mg x = some (.ref C)) (hx : Passes CX X E) (ha : PA X (e :: es) t) (hg : Gl X x := by rfl)
    (hdb : (x == ("__debug__" : Str)) = false := by decide) (he : starEach (e :: es) X.env = (false, eval e X.env) :: starEach es X.env := by rfl) (hpl : (backTo pos (starEach es X.env)).any (·.1) = false := by rfl) :
    PE X (.Call (.Name x p) (e :: es) [] pos) (tMake C sp [] E t) := by
  obtain ⟨f, fd, h1, h2, h3⟩ := F.ex
  have e1 := h1.at_
  rw [M.init] at e1
  cases e1
  exact pe_make M h2 hr hg hm h3 .nil hx ha hdb he hpl
end
/-- what stands in H' and did not in H -/
def newOf (H H' : Hp) : Hp := fun b => match H b with
  | none => H' b
  | some _ => none
theorem newOf_in {H H' : Hp} : NewIn H (newOf H H') H' := fun a o h => by
  unfold newOf at h
  cases e : H a with
  | none => rw [e] at h; exact ⟨h, rfl⟩
  | some u => rw [e] at h; cases h
theorem newOf_at {H H' : Hp} {a : Addr} (h : H a = none) : newOf H H' a = H' a := by
  unfold newOf
  rw [h]
/-! the worths of all wishes -/
def TssOk (ls : List (List (List Nat))) (tss : List (List Nat)) : Prop := tss.length = ls.length ∧ ∀ (j : Nat) (ts : List Nat) (rs : List (List Nat)), tss[j]? = some ts → ls[j]? = some rs → ts.Perm rs.flatten
def awr (s : Str) (ls : List (List (List Nat))) (tss : List (List Nat)) : List (Nat × Nat × Int) := tss.zipIdx.flatMap fun x => x.1.map fun t => (x.2, t, wth s ls x.2 t)
theorem awr_snoc {s : Str} {ls : List (List (List Nat))} {tss : List (List Nat)} {ts : List Nat} : awr s ls (tss ++ [ts]) = awr s ls tss ++ ts.map fun t => (tss.length, t, wth s ls tss.length t) := by
  unfold awr
  rw [List.zipIdx_append, List.flatMap_append]
  simp
abbrev tup3 (r : Nat × Nat × Int) : List V := [vn r.1, vn r.2.1, .int r.2.2]
def AW (N : Hp) (v : V) (rows : List (Nat × Nat × Int)) : Prop := ∃ p us, v = .ref p ∧ N p = some (.lst us) ∧ Paired (fun u r => ∃ q, u = .ref q ∧ N q = some (.tup (tup3 r))) us rows
theorem AW.mn {N M : Hp} {v : V} {rows : List (Nat × Nat × Int)} (e : Same N M) (h : AW N v rows) : AW M v rows := by
  obtain ⟨p, us, rfl, h1, h2⟩ := h
  exact ⟨p, us, rfl, e _ _ h1, Paired.mapP h2 fun u r ⟨q, hq, h3⟩ => ⟨q, hq, e _ _ h3⟩⟩
section
variable {P : Program} {w : World} {K : Frg} {mg : Str → Option Value} {base : Heap}
def spAW (K : Frg) : Sp := fun vs H Q _ => ∃ v x cs ls s, vs = [v, x] ∧ WS K H v cs ls ∧ WG cs ls ∧ AOk K H x s ∧ RetN (fun N v => ∃ tss, TssOk ls tss ∧ AW N v (awr s ls tss)) H Q
theorem sc_all_worths : FnScope N_all_worths ["wishes", "aim"] (defScope s_all_worths) := ⟨rfl, rfl, rfl, by decide +kernel, rfl, by decide +kernel, by decide +kernel⟩
theorem lookA_pv {σ : L2.St} {H : Hp} {ta tb : TE} {v x : V} {E : XK} {cs : List Nat} {ls : List (List (List Nat))} {s : Str} (ha : Pv ta σ H v) (hb : Pv tb σ H x) (hW : WS K H v cs ls) (W : WG cs ls) (hA : AOk K H x s) : Pv (tCall (spLookA K) [] E (tCons ta (tCons tb tNil))) σ H .non :=
  pv_call (pva_2 ha hb) fun H1 e Q q => ⟨v, x, rfl, .inr ⟨cs, ls, hW.mono (Le.of e), W, (hA.mn e).f, q⟩⟩
theorem map_nat {ys : List Int} {l : List Nat} (h : ys.Perm (l.map fun n : Nat => (n : Int))) : ∃ ts : List Nat, ys = ts.map (fun n : Nat => (n : Int)) ∧ ts.Perm l := by
  have h1 : ∀ y ∈ ys, ((y.toNat : Nat) : Int) = y := fun y hy => by
    obtain ⟨n, _, e⟩ := List.mem_map.mp (h.subset hy)
    omega
  refine ⟨ys.map Int.toNat, ?_, ?_⟩
  · rw [List.map_map]
    conv => lhs; rw [← List.map_id ys]
    exact List.map_congr_left fun y hy => (h1 y hy).symm
  · have h2 := h.map Int.toNat
    rw [List.map_map] at h2
    have e : (l.map (Int.toNat ∘ fun n : Nat => (n : Int))) = l := by
      conv => rhs; rw [← List.map_id l]
      exact List.map_congr_left fun y hy => by simp
    rw [e] at h2
    exact h2
theorem ok_all_worths (G : Gx K mg) : Known P w K mg base CX0 8 "all_worths" ["wishes", "aim"] (spAW K) := by
  have sc := sc_all_worths
  have k_look_at_aim := ok_look_at_aim (P := P) (w := w) (base := base) G
  have k_worths_of := ok_worths_of (P := P) (w := w) (base := base) G
  have k_Scale_init := ok_Scale_init (P := P) (w := w) (base := base) G
  refine G.f_all_worths.known sc (fun _ _ _ _ _ _ us hl => match us, hl with | [_, _], _ => rfl) (fun vs H Q E h => ?_) (fun cdv A outer s H vs Q E hr h => ?_)
  · obtain ⟨v, x, cs, ls, s, rfl, _⟩ := h; rfl
  · obtain ⟨v, x, cs, ls, s, rfl, hW, W, hA, q⟩ := h
    refine ⟨_, (pss_cons (ps_expr (pe_kn k_look_at_aim (hr.mono (by decide)) passL (pa_cons (pv 0) (pa_cons (pv 1) pa_nil))))
      (pss_cons (ps_set (i := 2) sc.nd rfl (Or.inl rfl) (pe_knMk k_Scale_init G.mk_Scale (hr.mono (by decide)) G.g_Scale pass0 (pa_cons (pv 0) (pa_cons (pv 1) pa_nil))))
      (pss_cons (ps_set (i := 3) sc.nd rfl (Or.inl rfl) (pe_lst pa_nil))
      (pss_cons (ps_for PassesOwn.never rfl (pi_enum rfl G.n_enumerate (pa_cons (pe_ix ix_tup (pv 0) pe_int (fun _ _ => rfl)) pa_nil)) (pg_tup rfl (pgs_cons (pg_name (i := 4) sc.nd rfl (Or.inr rfl)) (pgs_cons (pg_name (i := 5) sc.nd rfl (Or.inl rfl)) pgs_nil)))
      (pss_cons (ps_set (i := 6) sc.nd rfl (Or.inr rfl) (pe_kn k_worths_of (hr.mono (by decide)) pass0 (pa_cons (pv 2) (pa_cons (pv 4) (pa_cons (pv 5) pa_nil)))))
      (pss_one (ps_expr (pe_bm PySem.F.plainAttrs_list PySem.F.slot_list_extend PySem.F.type_list_extend mt_extend (pv 3) (pa_cons (pe_lc (own := [("thing", 7)]) rfl sc.nd (pi_list (pe_callB (call_sortedDI rfl) (by rfl) G.n_sorted (by decide +kernel) (pa_cons (pv 6) pa_nil))) (blkOk_by (by rfl)) (fun _ _ _ _ _ => (pg_name (i := 7) sc.nd rfl (Or.inl rfl))) (fun _ _ _ _ _ => pts_nil) (fun _ _ _ _ _ => (pe_tup (pa_cons (pv 4) (pa_cons (pv 7) (pa_cons (pe_dget (hu_of hr) (pv 6) (pv 7) (fun _ _ => rfl)) pa_nil)))))) pa_nil))))))
      (pss_one (ps_ret (pv 3))))))), ?_⟩
    refine ss_drop (lookA_pv (pv_var rfl) (pv_var rfl) hW W hA) fun H1 e1 => ?_
    dsimp only
    refine st_seq ⟨_, rfl, _, rfl, fun sa dx hsa hdx hne => ?_⟩
    have e2 : Same H (upd H1 dx (.own sa)) := e1.trans (same_new hdx)
    have hsa' : (upd H1 dx (.own sa)) sa = none := by rw [upd_ne (Ne.symm hne)]; exact hsa
    have e3 : Same H (upd (upd H1 dx (.own sa)) sa (.ins (He.ga K "Scale") dx [])) := e2.trans (same_new hsa')
    refine ⟨sa, dx, v, x, cs, ls, s, rfl, upd_same, hW.mono (Le.of e3), W, hA.mn e3, fun H4 hb hS => ⟨rfl, ?_⟩⟩
    have hsa0 : H sa = none := e2.free hsa'
    have e4 : Same H H4 := fun b o h => hb b o (fun z => by rw [List.mem_singleton] at z; subst z; rw [hsa0] at h; cases h) (e3 _ _ h)
    dsimp only
    refine ss_lst pva_nil (Nat.zero_le _) fun H5 p e5 hp => ?_
    have e05 : Same H H5 := e4.trans e5
    have hp0 : H p = none := e05.free hp
    have hS5 := hS.mn e5
    obtain ⟨pw, va, vb, rfl, hT, ⟨a1, rfl, ha1⟩, b, us, rfl, hb1, hpp⟩ := hW.mono (Le.of e05)
    have h7 := W.all.2.2.1
    have h5 := W.lng5
    dsimp only
    refine st_seq ?_
    refine w_forE (fun Q q => vl_ixT (val_var rfl) val_c (SqT.mn (same_new hp) hT) rfl _ q) (SqL.mn (same_new hp) hb1) (fun k σ H' => ∃ y1 y2 y3 y4, σ = [some (.ref pw), some x, some (.ref sa), some (.ref p), y1, y2, y3, y4] ∧ Same H5 H' ∧ ∃ tss ts2, H' p = some (.lst ts2) ∧ tss.length = k ∧ (∀ (j : Nat) (ts : List Nat) (rs : List (List Nat)), tss[j]? = some ts → ls[j]? = some rs → ts.Perm rs.flatten) ∧ Tups H H' ts2 ((awr s ls tss).map tup3) ∧ ts2.length ≤ 6 * k) ?_ ?_ ?_ ?_
    · exact ⟨_, _, _, _, rfl, same_new hp, [], [], upd_same, rfl, (fun j ts rs h => by simp at h), .nil, Nat.le_refl _⟩
    · exact fun k σ H' _ ⟨_, _, _, _, _, e, _⟩ => SqL.mn e hb1
    · rintro k y σ H6 H7 hk ⟨y1, y2, y3, y4, rfl, e6, tss, ts2, hp6, hl, hpm, htp, hsz⟩ e7
      obtain ⟨rs, hrs, hL⟩ := paired_get hpp hk
      have hkl : k < ls.length := (List.getElem?_eq_some_iff.mp hrs).1
      have hrm := List.mem_of_getElem? hrs
      have e57 := e6.trans e7
      have hfl := W.fl hrm
      refine sd_set (ed_call (pva_3 (pv_var rfl) (pv_var rfl) (pv_var rfl)) fun H8 e Q q => ⟨sa, s, ls.length + 1, lng ls, k, y, rs, rfl, hS5.mn (e57.trans e), by omega, hL.mono (Le.of (e57.trans e)), lng_mem hrm, (W.rk hrm).2.2, by omega, q⟩) fun d H8 hd e8 h8 => ?_
      have e58 := e57.trans e8
      have hp8 := (e7.trans e8) _ _ hp6
      dsimp only
      refine ⟨_, rfl, .inl ⟨rfl, ts2, SqL.of hp8⟩, sr_1 (lc_open ?_)⟩
      refine ⟨_, rfl, d, _, rs.flatten.map fun n : Nat => (n : Int), rfl, .inl h8, by unfold wdict kd; rw [List.map_map, List.map_map]; rfl, by rw [List.length_map]; omega, fun ys q1 hperm hpw hq1 => ⟨q1, rfl, ⟨_, SqL.of upd_same⟩, ?_⟩⟩
      obtain ⟨ts, rfl, hts⟩ := map_nat hperm
      have htl := hts.length_eq
      have e8q : Same H8 (upd H8 q1 (.lst ((ts.map fun n : Nat => (n : Int)).map V.int))) := same_new hq1
      refine lcT_go (xs := (ts.map fun n : Nat => (n : Int)).map V.int) (fun j => tup3 (k, ts[j]?.getD 0, wth s ls k (ts[j]?.getD 0))) (SqL.of upd_same) (by rw [List.length_map, List.length_map]; omega) (fun j x H9 hj e9 R q => ?_) fun D us2 H9 hD e9 h9 ht9 => ?_
      · rw [List.map_map, List.getElem?_map] at hj
        cases hj' : ts[j]? with
        | none => rw [hj'] at hj; cases hj
        | some t =>
        rw [hj'] at hj
        cases hj
        have eg : ts[j]?.getD 0 = t := by rw [hj']; rfl
        refine q _ H9 (Same.refl _) rfl ?_ (by show 3 ≤ _; rw [sizeLine_eq]; decide)
        rw [eg]
        refine pva_3 (pv_var rfl) (pv_var rfl) (pv_dget (k := NK t) (kvs := wdict s (ls.length + 1) (lng ls) rs) (pv_var rfl) (pv_var rfl) (.inl ((e8q.trans e9) _ _ h8)) ?_)
        have hin : t ∈ rs.flatten := hts.subset (List.mem_of_getElem? hj')
        unfold wdict
        rw [kd_val, if_pos hin]
        unfold wth
        rw [hrs]
        rfl
      · have e89 := e8q.trans e9
        have ht9' : Tups H H9 us2 (((ts.map fun t => (k, t, wth s ls k t))).map tup3) := by
          have el : (List.range ((ts.map fun n : Nat => (n : Int)).map V.int).length).map (fun j => tup3 (k, ts[j]?.getD 0, wth s ls k (ts[j]?.getD 0))) = (ts.map fun t => (k, t, wth s ls k t)).map tup3 := by
            refine range_map (by simp) fun j x hx => ?_
            rw [List.getElem?_map, List.getElem?_map] at hx
            cases hj : ts[j]? with
            | none => rw [hj] at hx; cases hx
            | some t => rw [hj] at hx; cases hx; rfl
          rw [el] at ht9
          exact Paired.mapP ht9 fun u r ⟨q, h1, h2, h3⟩ => ⟨q, h1, h2, (e05.trans (e58.trans e8q)).free h3⟩
        have hl2 := ht9.length
        rw [List.length_map, List.length_range, List.length_map, List.length_map] at hl2
        have hp9 := e89 _ _ hp8
        have hDp : D ≠ p := fun z => by
          subst z
          rw [e8q _ _ hp8] at hD
          cases hD
        refine ⟨p, D, ts2, us2, rfl, rfl, hp9, h9, by rw [sizeLine_eq]; omega, ⟨_, _, _, _, rfl, same_mut (e58.trans e89) hp, tss ++ [ts], ts2 ++ us2, upd_same, by rw [List.length_append, hl]; rfl, fun j ts' rs' hj hr' => ?_, ?_, by rw [List.length_append]; omega⟩⟩
        · rw [List.getElem?_append] at hj
          by_cases hjk : j < tss.length
          · rw [if_pos hjk] at hj
            exact hpm j ts' rs' hj hr'
          · rw [if_neg hjk] at hj
            have : j - tss.length = 0 := by
              have := (List.getElem?_eq_some_iff.mp hj).1
              simp at this
              omega
            rw [this] at hj
            cases hj
            have : j = k := by omega
            subst this
            rw [hrs] at hr'
            cases hr'
            exact hts
        · rw [awr_snoc, hl, List.map_append]
          have np : ∀ q, H9 q = some (.lst (ts2)) ∨ True := fun _ => .inr trivial
          have c1 : Tups H (upd H9 p (.lst (ts2 ++ us2))) ts2 ((awr s ls tss).map tup3) := Paired.mapP htp fun u r ⟨q, h1, h2, h3⟩ => ⟨q, h1, by
            have hne : q ≠ p := fun z => by
              subst z
              rw [hp6] at h2
              cases h2
            rw [upd_ne hne]
            exact (e7.trans (e8.trans e89)) _ _ h2, h3⟩
          have c2 : Tups H (upd H9 p (.lst (ts2 ++ us2))) us2 ((ts.map fun t => (k, t, wth s ls k t)).map tup3) := Paired.mapP ht9' fun u r ⟨q, h1, h2, h3⟩ => ⟨q, h1, by
            have hne : q ≠ p := fun z => by
              subst z
              rw [hp9] at h2
              cases h2
            rw [upd_ne hne]
            exact h2, h3⟩
          exact Paired.append c1 c2
    · rintro σ H6 ⟨y1, y2, y3, y4, rfl, e6, tss, ts2, hp6, hl, hpm, htp, hsz⟩
      refine ⟨_, rfl, q _ H6 (newOf H H6) (e05.trans e6) newOf_in ⟨tss, ⟨by rw [hl, hpp.length], hpm⟩, p, ts2, rfl, by rw [newOf_at hp0]; exact hp6, ?_⟩⟩
      have : ∀ (us : List V) (rows : List (Nat × Nat × Int)), Tups H H6 us (rows.map tup3) → Paired (fun u r => ∃ q, u = .ref q ∧ newOf H H6 q = some (.tup (tup3 r))) us rows := by
        intro us rows h
        induction rows generalizing us with
        | nil => cases h; exact .nil
        | cons r rs ih =>
          cases h with
          | cons h1 h2 =>
            obtain ⟨q, e1, e2, e3⟩ := h1
            exact .cons ⟨q, e1, by rw [newOf_at e3]; exact e2⟩ (ih _ h2)
      exact this _ _ htp
end
end Wd
set_option Elab.async false
set_option linter.all false
set_option maxRecDepth 100000
set_option maxHeartbeats 4000000
/-! rows_by, left_by -/
namespace Wd
open PySem PySem.Spec PyProof.Rows L2
/-- new dicts, all empty, unlike -/
theorem lcD_go {K : Frg} {σ : L2.St} {H : Hp} {Q : VK} {g : TG} {a : Addr} {xs : List V} {vs : List Nat} (hx : SqL K H a xs) (hz : xs.length ≤ 1000000)
    (hg : ∀ (i : Nat) (x : V) (H1 : Hp), xs[i]? = some x → Same H H1 → ∀ R : L2.St → Hp → Prop, (∀ σ2 H2, Same H1 H2 → wipe σ2 vs = wipe σ vs → R σ2 H2) → g x (wipe σ vs) H1 R)
    (q : ∀ D (ds : List Addr) H', H D = none → Same H H' → H' D = some (.lst (ds.map V.ref)) → ds.length = xs.length → (D :: ds).Nodup → (∀ d ∈ ds, H' d = some (.dK []) ∧ H d = none) → Q (.ref D) H') : LcGo (Itl K a) g tYes tDNewK vs σ H Q := by
  intro D hD
  refine lc_list (xs := xs) (fun i H' => Same H H' ∧ ∃ ds : List Addr, H' D = some (.lst (ds.map V.ref)) ∧ ds.length = i ∧ (D :: ds).Nodup ∧ ∀ d ∈ ds, H' d = some (.dK []) ∧ H d = none) ⟨same_new hD, [], upd_same, rfl, by simp, fun d hd => by simp at hd⟩ (fun i H' _ p => SqL.mn p.1 hx) (fun i x H1 hi p => ?_) (fun H' p => by obtain ⟨e, ds, h1, h2, h3, h4⟩ := p; exact q D ds H' hD e h1 h2 h3 h4)
  obtain ⟨e1, ds, hu, hl, hn, ht⟩ := p
  refine hg i x H1 hi e1 _ fun σ2 H2 e2 hw => ⟨hw, ?_⟩
  unfold tYes
  dsimp only
  rw [if_pos rfl]
  intro r hr
  have hDr : r ≠ D := fun z => by
    subst z
    have := e2 _ _ hu
    rw [hr] at this
    cases this
  refine ⟨ds.map V.ref, (e2.trans (same_new hr)) _ _ hu, ?_, ?_, ds ++ [r], by rw [upd_same, List.map_append]; rfl, by rw [List.length_append, hl]; rfl, ?_, fun d hd => ?_⟩
  · have := (List.getElem?_eq_some_iff.mp hi).1
    rw [List.length_map, sizeLine_eq]
    omega
  · exact same_mut (e1.trans (e2.trans (same_new hr))) hD
  · have hrd : r ∉ ds := fun z => by
      have := e2 _ _ (ht r z).1
      rw [hr] at this
      cases this
    rw [List.nodup_cons] at hn ⊢
    refine ⟨fun z => ?_, ?_⟩
    · rcases List.mem_append.mp z with z | z
      · exact hn.1 z
      · exact hDr (List.mem_singleton.mp z).symm
    · refine List.nodup_append.mpr ⟨hn.2, by simp, fun x hx y hy => ?_⟩
      rw [List.mem_singleton.mp hy]
      exact fun z => hrd (z ▸ hx)
  · rcases List.mem_append.mp hd with hd | hd
    · have hdD : d ≠ D := fun z => by
        subst z
        exact (List.nodup_cons.mp hn).1 hd
      exact ⟨by rw [upd_ne hdD]; exact (e2.trans (same_new hr)) _ _ (ht d hd).1, (ht d hd).2⟩
    · rw [List.mem_singleton.mp hd]
      exact ⟨by rw [upd_ne hDr, upd_same], (e1.trans e2).free hr⟩
def dk (l : List (Nat × Int)) : List (Key × V) := l.map fun r => (NK r.1, V.int r.2)
theorem dk_val {l : List (Nat × Int)} {t : Nat} : valV (dk l) (NK t) = (l.find? fun r => decide (r.1 = t)).map fun r => V.int r.2 := by
  unfold valV dk
  induction l with
  | nil => simp
  | cons n r ih =>
    rw [List.map_cons, List.find?_cons, List.find?_cons]
    by_cases h : n.1 = t
    · rw [decide_eq_true h, decide_eq_true (show NK n.1 = NK t by rw [h])]; rfl
    · have : decide (NK n.1 = NK t) = false := decide_eq_false fun z => h (NK.inj z)
      rw [this, decide_eq_false h]
      exact ih
theorem dk_put {l : List (Nat × Int)} {t : Nat} {x : Int} (h : t ∉ l.map (·.1)) : putK (dk l) (NK t) (.int x) = dk (l ++ [(t, x)]) := by
  rw [L2.putK_new]
  · unfold dk
    rw [List.map_append]
    rfl
  · rw [dk_val]
    have : l.find? (fun r => decide (r.1 = t)) = none := List.find?_eq_none.mpr fun r hr z => h (List.mem_map.mpr ⟨r, hr, of_decide_eq_true z⟩)
    rw [this]; rfl
/-- the rows of the worths -/
def RW (N : Hp) (v : V) (rows : List (List (Nat × Int))) : Prop := ∃ p ds, v = .ref p ∧ N p = some (.lst ds) ∧ Paired (fun u l => ∃ d, u = .ref d ∧ N d = some (.dK (dk l))) ds rows
theorem RW.mn {N M : Hp} {v : V} {rows : List (List (Nat × Int))} (e : Same N M) (h : RW N v rows) : RW M v rows := by
  obtain ⟨p, us, rfl, h1, h2⟩ := h
  exact ⟨p, us, rfl, e _ _ h1, Paired.mapP h2 fun u r ⟨q, hq, h3⟩ => ⟨q, hq, e _ _ h3⟩⟩
def rowsOf (s : Str) (ls : List (List (List Nat))) (tss : List (List Nat)) : List (List (Nat × Int)) := (List.range tss.length).map fun i => (tss[i]?.getD []).map fun t => (t, wth s ls i t)
def rowAt (rows : List (Nat × Nat × Int)) (i : Nat) : List (Nat × Int) := (rows.filter fun r => decide (r.1 = i)).map (·.2)
theorem rowAt_app {a b : List (Nat × Nat × Int)} {i : Nat} : rowAt (a ++ b) i = rowAt a i ++ rowAt b i := by
  unfold rowAt
  rw [List.filter_append, List.map_append]
theorem rowAt_gen {s : Str} {ls : List (List (List Nat))} {i : Nat} : ∀ {tss : List (List Nat)} {k : Nat}, rowAt ((tss.zipIdx k).flatMap fun x => x.1.map fun t => (x.2, t, wth s ls x.2 t)) i = if k ≤ i then (tss[i - k]?.getD []).map (fun t => (t, wth s ls i t)) else []
  | [], k => by
    split <;> simp [rowAt]
  | ts :: r, k => by
    rw [List.zipIdx_cons, List.flatMap_cons, rowAt_app, rowAt_gen]
    by_cases h : k = i
    · subst h
      rw [if_neg (by omega), if_pos (Nat.le_refl _), List.append_nil, Nat.sub_self]
      unfold rowAt
      rw [List.filter_eq_self.mpr (by intro x hx; obtain ⟨t, _, rfl⟩ := List.mem_map.mp hx; simp), List.map_map]
      rfl
    · have h0 : rowAt (ts.map fun t => (k, t, wth s ls k t)) i = [] := by
        unfold rowAt
        rw [List.filter_eq_nil_iff.mpr (by intro x hx; obtain ⟨t, _, rfl⟩ := List.mem_map.mp hx; simpa using h)]
        rfl
      rw [h0, List.nil_append]
      by_cases h2 : k ≤ i
      · rw [if_pos (by omega), if_pos h2]
        have : i - k = (i - (k + 1)) + 1 := by omega
        rw [this, List.getElem?_cons_succ]
      · rw [if_neg (by omega), if_neg h2]
theorem awr_mem {s : Str} {ls : List (List (List Nat))} {r : Nat × Nat × Int} : ∀ {tss : List (List Nat)} {k : Nat}, r ∈ ((tss.zipIdx k).flatMap fun x => x.1.map fun t => (x.2, t, wth s ls x.2 t)) → k ≤ r.1 ∧ r.1 < k + tss.length
  | [], k, h => by simp at h
  | ts :: rs, k, h => by
    rw [List.zipIdx_cons, List.flatMap_cons] at h
    rcases List.mem_append.mp h with h | h
    · obtain ⟨t, _, rfl⟩ := List.mem_map.mp h
      simp
    · have := awr_mem h
      rw [List.length_cons]
      omega
theorem rowAt_awr {s : Str} {ls : List (List (List Nat))} {tss : List (List Nat)} {i : Nat} : rowAt (awr s ls tss) i = (tss[i]?.getD []).map fun t => (t, wth s ls i t) := by
  have := rowAt_gen (s := s) (ls := ls) (i := i) (tss := tss) (k := 0)
  rw [if_pos (Nat.zero_le _)] at this
  exact this
section
variable {P : Program} {w : World} {K : Frg} {mg : Str → Option Value} {base : Heap}
def spRowsBy (K : Frg) : Sp := fun vs H Q _ => ∃ v x cs ls s, vs = [v, x] ∧ WS K H v cs ls ∧ WG cs ls ∧ AOk K H x s ∧ RetN (fun N v => ∃ tss, TssOk ls tss ∧ RW N v (rowsOf s ls tss)) H Q
theorem sc_rows_by : FnScope N_rows_by ["wishes", "aim"] (defScope s_rows_by) := ⟨rfl, rfl, rfl, by decide +kernel, rfl, by decide +kernel, by decide +kernel⟩
theorem ok_rows_by (G : Gx K mg) : Known P w K mg base CX0 9 "rows_by" ["wishes", "aim"] (spRowsBy K) := by
  have sc := sc_rows_by
  have k_all_worths := ok_all_worths (P := P) (w := w) (base := base) G
  refine G.f_rows_by.known sc (fun _ _ _ _ _ _ us hl => match us, hl with | [_, _], _ => rfl) (fun vs H Q E h => ?_) (fun cdv A outer s H vs Q E hr h => ?_)
  · obtain ⟨v, x, cs, ls, s, rfl, _⟩ := h; rfl
  · obtain ⟨v, x, cs, ls, s, rfl, hW, W, hA, q⟩ := h
    refine ⟨_, (pss_cons (ps_set (i := 2) sc.nd rfl (Or.inl rfl) (pe_kn k_all_worths (hr.mono (by decide)) pass0 (pa_cons (pv 0) (pa_cons (pv 1) pa_nil))))
      (pss_cons (ps_setLc (i := 4) (own := [("ranks", 3)]) rfl sc.nd rfl rfl (sw_true rfl rfl rfl (by decide +kernel)) (pi_list (pe_ix ix_tup (pv 0) pe_int (fun _ _ => rfl))) (blkOk_by (by rfl)) (fun _ _ _ _ _ => (pg_name (i := 3) sc.nd rfl (Or.inl rfl))) (fun _ _ _ _ _ => pts_nil) (fun _ _ _ _ _ => pe_dnewK))
      (pss_cons (ps_for PassesOwn.never rfl (pi_list (pv 2)) (pg_tup rfl (pgs_cons (pg_name (i := 5) sc.nd rfl (Or.inl rfl)) (pgs_cons (pg_name (i := 6) sc.nd rfl (Or.inl rfl)) (pgs_cons (pg_name (i := 7) sc.nd rfl (Or.inl rfl)) pgs_nil))))
      (pss_one (ps_dput (hu_of hr) (pe_ix ix_list (pv 4) (pv 5) (fun _ _ => rfl)) (pv 6) (pv 7) rfl)))
      (pss_one (ps_ret (pv 4)))))), ?_⟩
    refine st_seq ⟨_, rfl, _, rfl, v, x, cs, ls, s, rfl, hW, W, hA, fun wv H1 N1 e1 n1 ⟨tss, hT, hAW⟩ => ?_⟩
    obtain ⟨pa, us, rfl, hpa, hus⟩ := hAW
    obtain ⟨pw, va, vb, rfl, hTw, ⟨a1, rfl, ha1⟩, b, us1, rfl, hb1, hpp⟩ := hW.mono (Le.of e1)
    have h7 := W.all.2.2.1
    dsimp only
    refine st_seq ?_
    show tLc _ _ _ _ _ _ _ _
    refine lc_src (Src.pv (pv_ixT (pv_var rfl) pv_c hTw rfl) hb1) fun a H2 e2 h2 => lcD_go h2 (by rw [hpp.length]; omega) (fun i x H1 _ _ R q => q _ _ (Same.refl _) rfl) fun D ds H3 hD e3 h3 hdl hnd hds => ?_
    have e13 := e2.trans e3
    have hTl := hT.1
    have hD1 : H1 D = none := e2.free hD
    have hdl' : ds.length = ls.length := by rw [hdl, hpp.length]
    have hpa1 := (n1 _ _ hpa).1
    have hus1 : Paired (fun u r => ∃ q, u = V.ref q ∧ H1 q = some (.tup (tup3 r))) us (awr s ls tss) := Paired.mapP hus fun u r ⟨q, h1, h2⟩ => ⟨q, h1, (n1 _ _ h2).1⟩
    have ndt : ∀ i, ((rowAt (awr s ls tss) i).map (·.1)).Nodup := fun i => by
      rw [rowAt_awr, List.map_map]
      cases h : tss[i]? with
      | none => simp
      | some ts =>
        have hi : i < ls.length := by rw [← hTl]; exact (List.getElem?_eq_some_iff.mp h).1
        have hr := List.getElem?_eq_getElem hi
        have hp := hT.2 i ts _ h hr
        have : (ts.map ((fun x : Nat × Int => x.1) ∘ fun t => (t, wth s ls i t))) = ts := by
          conv => rhs; rw [← List.map_id ts]
          rfl
        show (ts.map ((fun x : Nat × Int => x.1) ∘ fun t => (t, wth s ls i t))).Nodup
        rw [this]
        exact hp.symm.nodup (W.rk (List.mem_of_getElem? hr)).2.2
    dsimp only
    refine st_seq ?_
    refine w_forG (val_var rfl) (SqL.of (e13 _ _ hpa1)) (fun m σ H' => ∃ y3 y5 y6 y7, σ = [some (.ref pw), some x, some (.ref pa), y3, some (.ref D), y5, y6, y7] ∧ Same H1 H' ∧ H' D = some (.lst (ds.map V.ref)) ∧ ∀ (i : Nat) (d : Addr), ds[i]? = some d → H' d = some (.dK (dk (rowAt ((awr s ls tss).take m) i)))) ⟨_, _, _, _, rfl, e13, h3, fun i d hd => (hds d (List.mem_of_getElem? hd)).1⟩ (fun m σ H' _ ⟨_, _, _, _, _, e, _⟩ => SqL.of (e _ _ hpa1)) ?_ ?_
    · rintro m u σ H4 hm ⟨y3, y5, y6, y7, rfl, e4, h4, hd4⟩
      obtain ⟨r, hr, q0, rfl, hq0⟩ := paired_get hus1 hm
      refine w_tg3 (SqT.of (e4 _ _ hq0)) ?_
      have hrm := List.mem_of_getElem? hr
      have hri := (awr_mem hrm).2
      have hil : r.1 < ds.length := by omega
      have hdi := List.getElem?_eq_getElem hil
      have hdin := hds _ (List.mem_of_getElem? hdi)
      have hspl : (awr s ls tss) = (awr s ls tss).take m ++ r :: (awr s ls tss).drop (m + 1) := by
        obtain ⟨hl, e⟩ := List.getElem?_eq_some_iff.mp hr
        rw [← e]
        simp
      have hone : rowAt [r] r.1 = [r.2] := by unfold rowAt; simp
      have hnk : r.2.1 ∉ (rowAt ((awr s ls tss).take m) r.1).map (·.1) := fun hin => by
        have nd := ndt r.1
        rw [hspl, ← List.singleton_append, rowAt_app, rowAt_app, hone, List.map_append, List.map_append] at nd
        exact (List.nodup_append.mp nd).2.2 _ hin _ (List.mem_append_left _ (by simp)) rfl
      have hsz : (rowAt ((awr s ls tss).take m) r.1).length ≤ 6 := by
        have hle : (rowAt ((awr s ls tss).take m) r.1).length ≤ (rowAt (awr s ls tss) r.1).length := (((List.take_sublist m _).filter _).map _).length_le
        have hi2 : r.1 < ls.length := by omega
        have ht : tss[r.1]? = some (tss[r.1]'(by omega)) := List.getElem?_eq_getElem (by omega)
        have h8 := (hT.2 _ _ _ ht (List.getElem?_eq_getElem hi2)).length_eq
        have h9 := W.fl (List.getElem_mem hi2)
        rw [rowAt_awr, ht, List.length_map] at hle
        have : ((some (tss[r.1]'(by omega))).getD []).length = (tss[r.1]'(by omega)).length := rfl
        omega
      refine ss_dput (k := NK r.2.1) (v := .int r.2.2) (pv_var rfl) (pv_ixL (i := (r.1 : Int)) (pv_var rfl) (pv_var rfl) (SqL.of h4) (atI_nat (by rw [List.getElem?_map, hdi]; rfl))) (pv_var rfl) (hd4 _ _ hdi) (by unfold dk; rw [List.length_map, sizeLine_eq]; omega) fun H5 e5 => ⟨_, _, _, _, rfl, ?_, ?_, fun i d hd => ?_⟩
      · exact same_mut (e4.trans e5) (e2.free hdin.2)
      · have : D ≠ ds[r.1] := fun z => (List.nodup_cons.mp hnd).1 (by rw [z]; exact List.getElem_mem hil)
        rw [upd_ne this]
        exact e5 _ _ h4
      · have htk : (awr s ls tss).take (m + 1) = (awr s ls tss).take m ++ [r] := by rw [List.take_succ, hr]; rfl
        by_cases hi : i = r.1
        · subst hi
          rw [hdi] at hd
          cases hd
          rw [upd_same, dk_put hnk, htk, rowAt_app, hone]
        · have hne : d ≠ ds[r.1] := fun z => by
            obtain ⟨hi2, e⟩ := List.getElem?_eq_some_iff.mp hd
            rw [← e] at z
            exact hi ((List.getElem_inj (List.nodup_cons.mp hnd).2).mp z)
          rw [upd_ne hne, htk, rowAt_app]
          have : rowAt [r] i = [] := by unfold rowAt; simp [Ne.symm hi]
          rw [this, List.append_nil]
          exact e5 _ _ (hd4 i d hd)
    · rintro σ H4 ⟨y3, y5, y6, y7, rfl, e4, h4, hd4⟩
      have e04 := e1.trans e4
      refine ⟨_, rfl, q _ H4 (newOf H H4) e04 newOf_in ⟨tss, hT, D, ds.map V.ref, rfl, by rw [newOf_at (e1.free hD1)]; exact h4, ?_⟩⟩
      rw [hus1.length, List.take_length] at hd4
      have hall : ∀ (ds' : List Addr) (k : Nat) (L : List (List (Nat × Int))), ds'.length = L.length → (∀ (i : Nat) (d : Addr), ds'[i]? = some d → newOf H H4 d = some (.dK (dk (L[i]?.getD [])))) → Paired (fun u l => ∃ d, u = V.ref d ∧ newOf H H4 d = some (.dK (dk l))) (ds'.map V.ref) L := by
        intro ds'
        induction ds' with
        | nil => intro k L hl h; cases L with | nil => exact .nil | cons _ _ => cases hl
        | cons d r ih =>
          intro k L hl h
          cases L with
          | nil => cases hl
          | cons l L => exact .cons ⟨d, rfl, h 0 d rfl⟩ (ih k L (Nat.succ.inj hl) fun i d' hd' => h (i + 1) d' hd')
      refine hall ds 0 (rowsOf s ls tss) (by unfold rowsOf; rw [List.length_map, List.length_range]; omega) fun i d hd => ?_
      have hil : i < ds.length := (List.getElem?_eq_some_iff.mp hd).1
      rw [newOf_at ((e1.trans e2).free (hds d (List.mem_of_getElem? hd)).2), hd4 i d hd, rowAt_awr]
      unfold rowsOf
      rw [List.getElem?_map, List.getElem?_range (by omega)]
      rfl
end
end Wd
set_option Elab.async false
set_option linter.all false
set_option maxRecDepth 100000
set_option maxHeartbeats 4000000
/-! Plain law: dealings, their duals, a way that gains most. -/
namespace Wd
/-- what the asker a has -/
def dl (D : List (Option Nat)) (a : Nat) : Option Nat := D[a]?.getD none
theorem dl_lt {D : List (Option Nat)} {a t : Nat} (h : dl D a = some t) : a < D.length ∧ D[a]? = some (some t) := by
  unfold dl at h
  cases e : D[a]? with
  | none => rw [e] at h; cases h
  | some x =>
    rw [e] at h
    have h' : x = some t := h
    exact ⟨(List.getElem?_eq_some_iff.mp e).1, by rw [h']⟩
theorem dl_set {D : List (Option Nat)} {a b : Nat} {x : Option Nat} (h : a < D.length) : dl (D.set a x) b = if b = a then x else dl D b := by
  unfold dl
  rw [List.getElem?_set]
  by_cases e : a = b
  · subst e; rw [if_pos rfl, if_pos h, if_pos rfl]; rfl
  · rw [if_neg e, if_neg (Ne.symm e)]
/-- a way done -/
def goWay (D : List (Option Nat)) (way : List (Nat × Option Nat)) : List (Option Nat) := way.foldl (fun d s => d.set s.1 s.2) D
theorem goWay_len {way : List (Nat × Option Nat)} : ∀ {D : List (Option Nat)}, (goWay D way).length = D.length := by
  induction way with
  | nil => intro D; rfl
  | cons s r ih =>
    intro D
    show (goWay (D.set s.1 s.2) r).length = _
    rw [ih, List.length_set]
theorem goWay_out {way : List (Nat × Option Nat)} {b : Nat} : ∀ {D : List (Option Nat)}, (∀ s ∈ way, s.1 < D.length) → b ∉ way.map (·.1) → dl (goWay D way) b = dl D b := by
  induction way with
  | nil => intro D _ _; rfl
  | cons s r ih =>
    intro D hl hb
    show dl (goWay (D.set s.1 s.2) r) b = _
    rw [List.map_cons, List.mem_cons, not_or] at hb
    rw [ih (fun x hx => by rw [List.length_set]; exact hl x (List.mem_cons_of_mem _ hx)) hb.2, dl_set (hl s List.mem_cons_self), if_neg hb.1]
theorem goWay_in {way : List (Nat × Option Nat)} {b : Nat} {x : Option Nat} : ∀ {D : List (Option Nat)}, (∀ s ∈ way, s.1 < D.length) → (way.map (·.1)).Nodup → (b, x) ∈ way → dl (goWay D way) b = x := by
  induction way with
  | nil => intro D _ _ h; cases h
  | cons s r ih =>
    intro D hl nd h
    show dl (goWay (D.set s.1 s.2) r) b = _
    rw [List.map_cons, List.nodup_cons] at nd
    have hl' : ∀ y ∈ r, y.1 < (D.set s.1 s.2).length := fun y hy => by rw [List.length_set]; exact hl y (List.mem_cons_of_mem _ hy)
    rcases List.mem_cons.mp h with h | h
    · subst h
      rw [goWay_out hl' nd.1, dl_set (hl _ List.mem_cons_self), if_pos rfl]
    · exact ih hl' nd.2 h
/-- each one takes what the next one has -/
def WChain (D : List (Option Nat)) : List (Nat × Option Nat) → Prop
  | [] => True
  | [_] => True
  | s :: s' :: r => s.2 ≠ none ∧ dl D s'.1 = s.2 ∧ WChain D (s' :: r)
def wLast : List (Nat × Option Nat) → Option Nat
  | [] => none
  | [s] => s.2
  | _ :: s' :: r => wLast (s' :: r)
def one (x : Option Nat) (t : Nat) : Nat := if x = some t then 1 else 0
theorem count_set1 {D : List (Option Nat)} {a t : Nat} {x : Option Nat} (h : a < D.length) : (D.set a x).count (some t) + one (dl D a) t = D.count (some t) + one x t := by
  rw [List.count_set h]
  have e : dl D a = D[a] := by unfold dl; rw [List.getElem?_eq_getElem h]; rfl
  rw [e]
  unfold one
  have hb : ∀ y : Option Nat, (y == some t) = decide (y = some t) := fun y => by
    by_cases hy : y = some t
    · rw [hy]; simp
    · rw [decide_eq_false hy, beq_eq_false_iff_ne.mpr hy]
  rw [hb, hb]
  by_cases h1 : D[a] = some t
  · have hp : 0 < D.count (some t) := List.count_pos_iff.mpr (by rw [← h1]; exact List.getElem_mem h)
    by_cases h2 : x = some t
    · simp only [h1, h2, decide_true, if_true]; omega
    · simp only [h1, h2, decide_true, decide_false, if_true, if_false, Bool.false_eq_true]; omega
  · by_cases h2 : x = some t
    · simp only [h1, h2, decide_true, decide_false, if_true, if_false, Bool.false_eq_true]; omega
    · simp only [h1, h2, decide_false, if_false, Bool.false_eq_true]; omega
theorem wchain_set {D : List (Option Nat)} {a : Nat} {x : Option Nat} (ha : a < D.length) : ∀ {way : List (Nat × Option Nat)}, a ∉ way.map (·.1) → WChain D way → WChain (D.set a x) way
  | [], _, _ => trivial
  | [_], _, _ => trivial
  | s :: s' :: r, hn, ⟨h1, h2, h3⟩ => by
    rw [List.map_cons, List.mem_cons, not_or] at hn
    refine ⟨h1, ?_, wchain_set ha hn.2 h3⟩
    have : s'.1 ≠ a := fun z => hn.2 (by rw [List.map_cons, z]; exact List.mem_cons_self)
    rw [dl_set ha, if_neg this]
    exact h2
theorem goWay_count {t : Nat} : ∀ {way : List (Nat × Option Nat)} {D : List (Option Nat)} {s : Nat × Option Nat}, (∀ y ∈ s :: way, y.1 < D.length) → ((s :: way).map (·.1)).Nodup → WChain D (s :: way) →
    (goWay D (s :: way)).count (some t) + one (dl D s.1) t = D.count (some t) + one (wLast (s :: way)) t
  | [], D, s, hl, _, _ => count_set1 (hl s List.mem_cons_self)
  | s' :: r, D, s, hl, nd, hc => by
    obtain ⟨h1, h2, h3⟩ := hc
    rw [List.map_cons, List.nodup_cons] at nd
    have hs := hl s List.mem_cons_self
    have ih := goWay_count (t := t) (way := r) (D := D.set s.1 s.2) (s := s') (fun y hy => by rw [List.length_set]; exact hl y (List.mem_cons_of_mem _ hy)) nd.2 (wchain_set hs nd.1 h3)
    have e1 := count_set1 (t := t) (x := s.2) hs
    have ne : s'.1 ≠ s.1 := fun z => nd.1 (by rw [List.map_cons, ← z]; exact List.mem_cons_self)
    rw [dl_set hs, if_neg ne, h2] at ih
    show (goWay (D.set s.1 s.2) (s' :: r)).count (some t) + _ = _ + one (wLast (s' :: r)) t
    omega
/-! ### duals -/
structure Dual (w : Nat → Nat → Option Int) (cs : Nat → Nat) (m s : Nat) (D : List (Option Nat)) (u p : Nat → Int) : Prop where
  u0 : ∀ a, 0 ≤ u a
  p0 : ∀ t, 0 ≤ p t
  cov : ∀ a, a < s → ∀ t x, w a t = some x → x ≤ u a + p t
  eq : ∀ a t, dl D a = some t → w a t = some (u a + p t)
  un : ∀ a, a < s → dl D a = none → u a = 0
  no : ∀ a, s ≤ a → dl D a = none
  lf : ∀ t, t < m → D.count (some t) < cs t → p t = 0
  cap : ∀ t, t < m → D.count (some t) ≤ cs t
/-- what the reach from s has found, at its end; M: the greatest gain -/
structure REnd (w : Nat → Nat → Option Int) (cs : Nat → Nat) (m s : Nat) (D : List (Option Nat)) (F T : Nat → Option Int) (M : Int) : Prop where
  f0 : F s = some 0
  sync : ∀ a t e, dl D a = some t → T t = some e → ∃ x, w a t = some x ∧ F a = some (e - x)
  fD : ∀ a g, F a = some g → a = s ∨ ∃ t e x, dl D a = some t ∧ T t = some e ∧ w a t = some x ∧ g = e - x
  fix : ∀ a g t x, F a = some g → w a t = some x → dl D a ≠ some t → ∃ e, T t = some e ∧ g + x ≤ e
  bF : ∀ a g, F a = some g → g ≤ M
  bT : ∀ t e, T t = some e → D.count (some t) < cs t → e ≤ M
  m0 : 0 ≤ M
def newU (F : Nat → Option Int) (s : Nat) (M : Int) (u : Nat → Int) (a : Nat) : Int := match F a with
  | none => u a
  | some g => if a = s then M else if u a ≤ M - g then u a else M - g
def newP (T : Nat → Option Int) (M : Int) (p : Nat → Int) (t : Nat) : Int := match T t with
  | none => p t
  | some e => if e - M ≤ p t then p t else e - M
/-- a way that gains M -/
structure WayOk (w : Nat → Nat → Option Int) (cs : Nat → Nat) (m s : Nat) (D : List (Option Nat)) (F T : Nat → Option Int) (M : Int) (p : Nat → Int) (way : List (Nat × Option Nat)) : Prop where
  nd : (way.map (·.1)).Nodup
  ch : WChain D way
  hd : ∀ y, way.head? = some y → y.1 = s
  len : ∀ y ∈ way, y.1 < D.length
  le : ∀ y ∈ way, y.1 ≤ s
  th : ∀ a t, (a, some t) ∈ way → ∃ g e x, F a = some g ∧ T t = some e ∧ w a t = some x ∧ e = g + x ∧ M ≤ e - p t ∧ t < m
  ho : ∀ a x, (a, x) ∈ way → a = s ∨ ∃ t e, dl D a = some t ∧ T t = some e ∧ M ≤ e - p t
  en : ∀ a, (a, none) ∈ way → F a = some M ∧ a ≠ s
  la : ∀ t, wLast way = some t → D.count (some t) < cs t
  em : way = [] → M = 0
theorem newP_le {T : Nat → Option Int} {M : Int} {p : Nat → Int} {t : Nat} : p t ≤ newP T M p t := by
  unfold newP
  split
  · exact Int.le_refl _
  · split <;> omega
section
variable {w : Nat → Nat → Option Int} {cs : Nat → Nat} {m s : Nat} {D : List (Option Nat)} {F T : Nat → Option Int} {M : Int} {u p : Nat → Int} {way : List (Nat × Option Nat)}
theorem dual_step (d : Dual w cs m s D u p) (r : REnd w cs m s D F T M) (y : WayOk w cs m s D F T M p way) : Dual w cs m (s + 1) (goWay D way) (newU F s M u) (newP T M p) := by
  have hs : dl D s = none := d.no s (Nat.le_refl s)
  have hu0 : ∀ a, 0 ≤ newU F s M u a := fun a => by
    unfold newU
    split
    · exact d.u0 a
    · rename_i g hg
      have := r.bF a g hg
      have := d.u0 a
      have := r.m0
      split
      · omega
      · split <;> omega
  have hp0 : ∀ t, 0 ≤ newP T M p t := fun t => Int.le_trans (d.p0 t) newP_le
  -- an asker that keeps what it has meets its price just
  have keep : ∀ a t, dl D a = some t → w a t = some (newU F s M u a + newP T M p t) := fun a t ha => by
    have h1 := d.eq a t ha
    have has : a ≠ s := fun z => by subst z; rw [hs] at ha; cases ha
    cases hT : T t with
    | some e =>
      obtain ⟨x, hx, hF⟩ := r.sync a t e ha hT
      rw [h1] at hx
      cases hx
      rw [h1]
      unfold newU newP
      rw [hF, hT]
      dsimp only
      rw [if_neg has]
      congr 1
      split <;> split <;> omega
    | none =>
      have hF : F a = none := by
        cases hF : F a with
        | none => rfl
        | some g =>
          rcases r.fD a g hF with z | ⟨t', e, x, h2, h3, _⟩
          · exact absurd z has
          · rw [ha] at h2; cases h2; rw [hT] at h3; cases h3
      rw [h1]
      unfold newU newP
      rw [hF, hT]
  refine ⟨hu0, hp0, fun a ha t x hx => ?_, fun a t hat => ?_, fun a ha hn => ?_, fun a ha => ?_, fun t ht hc => ?_, fun t ht => ?_⟩
  · -- cover
    cases hF : F a with
    | none =>
      have has : a ≠ s := fun z => by subst z; rw [r.f0] at hF; cases hF
      have h1 := d.cov a (by omega) t x hx
      have h2 : newU F s M u a = u a := by unfold newU; rw [hF]
      have h3 := newP_le (T := T) (M := M) (p := p) (t := t)
      omega
    | some g =>
      by_cases hd : dl D a = some t
      · have := keep a t hd
        rw [hx] at this
        cases this
        exact Int.le_refl _
      · obtain ⟨e, he, hle⟩ := r.fix a g t x hF hx hd
        have h3 := newP_le (T := T) (M := M) (p := p) (t := t)
        have h4 : e - M ≤ newP T M p t := by
          unfold newP; rw [he]; dsimp only; split <;> omega
        by_cases has : a = s
        · have h2 : newU F s M u a = M := by unfold newU; rw [hF]; dsimp only; rw [if_pos has]
          have hg : g = 0 := by rw [has, r.f0] at hF; cases hF; rfl
          omega
        · have h1 := d.cov a (by omega) t x hx
          have h2 : newU F s M u a = u a ∨ newU F s M u a = M - g := by
            unfold newU; rw [hF]; dsimp only; rw [if_neg has]; split
            · exact .inl rfl
            · exact .inr rfl
          rcases h2 with h2 | h2 <;> omega
  · -- just met
    by_cases hin : a ∈ way.map (·.1)
    · obtain ⟨z, hz, rfl⟩ := List.mem_map.mp hin
      have hz' : (z.1, z.2) ∈ way := hz
      have hgi := goWay_in y.len y.nd hz'
      rw [hgi] at hat
      rw [hat] at hz'
      obtain ⟨g, e, x, hF, hT, hw, he, hM, _⟩ := y.th z.1 t hz'
      rw [hw]
      have hp' : newP T M p t = e - M := by unfold newP; rw [hT]; dsimp only; split <;> omega
      have hu' : newU F s M u z.1 = M - g := by
        unfold newU
        rw [hF]
        dsimp only
        by_cases has : z.1 = s
        · rw [if_pos has]
          rw [has, r.f0] at hF
          cases hF
          omega
        · rw [if_neg has]
          rcases y.ho z.1 _ hz' with z1 | ⟨t', e', h1, h2, h3⟩
          · exact absurd z1 has
          · obtain ⟨x', hx', hF'⟩ := r.sync z.1 t' e' h1 h2
            have := d.eq z.1 t' h1
            rw [this] at hx'
            cases hx'
            rw [hF] at hF'
            cases hF'
            split <;> omega
      rw [hp', hu', he]
      congr 1
      omega
    · rw [goWay_out y.len hin] at hat
      exact keep a t hat
  · -- nothing
    by_cases hin : a ∈ way.map (·.1)
    · obtain ⟨z, hz, rfl⟩ := List.mem_map.mp hin
      have hz' : (z.1, z.2) ∈ way := hz
      have hgi := goWay_in y.len y.nd hz'
      rw [hgi] at hn
      rw [hn] at hz'
      obtain ⟨hF, has⟩ := y.en z.1 hz'
      unfold newU
      rw [hF]
      dsimp only
      rw [if_neg has]
      have := d.u0 z.1
      split <;> omega
    · rw [goWay_out y.len hin] at hn
      by_cases has : a = s
      · have hne : way = [] := by
          cases hw : way with
          | nil => rfl
          | cons b r =>
            have := y.hd b (by rw [hw]; rfl)
            exact absurd (List.mem_map.mpr ⟨b, by rw [hw]; exact List.mem_cons_self, by rw [this, has]⟩) hin
        have := y.em hne
        unfold newU
        rw [has, r.f0]
        dsimp only
        rw [if_pos rfl, this]
      · have hF : F a = none := by
          cases hF : F a with
          | none => rfl
          | some g =>
            rcases r.fD a g hF with z | ⟨t', e, x, h2, _⟩
            · exact absurd z has
            · rw [hn] at h2; cases h2
        have h2 : newU F s M u a = u a := by unfold newU; rw [hF]
        rw [h2]
        exact d.un a (by omega) hn
  · have hin : a ∉ way.map (·.1) := fun z => by
      obtain ⟨b, hb, e⟩ := List.mem_map.mp z
      have := y.le b hb
      omega
    rw [goWay_out y.len hin]
    exact d.no a (by omega)
  · -- left over
    have hc0 : D.count (some t) < cs t := by
      cases hw : way with
      | nil => rw [hw] at hc; exact hc
      | cons b r =>
        have h1 := goWay_count (t := t) (way := r) (D := D) (s := b) (by rw [← hw]; exact y.len) (by rw [← hw]; exact y.nd) (by rw [← hw]; exact y.ch)
        have hb : b.1 = s := y.hd b (by rw [hw]; rfl)
        rw [hb, hs] at h1
        have : one none t = 0 := rfl
        rw [hw] at hc
        omega
    have h0 := d.lf t ht hc0
    unfold newP
    cases hT : T t with
    | none => exact h0
    | some e =>
      have := r.bT t e hT hc0
      dsimp only
      rw [if_pos (by omega)]
      exact h0
  · cases hw : way with
    | nil => exact d.cap t ht
    | cons b r =>
      have h1 := goWay_count (t := t) (way := r) (D := D) (s := b) (by rw [← hw]; exact y.len) (by rw [← hw]; exact y.nd) (by rw [← hw]; exact y.ch)
      have h2 := d.cap t ht
      have h3 : one (wLast (b :: r)) t ≤ 1 ∧ (one (wLast (b :: r)) t = 1 → D.count (some t) < cs t) := by
        unfold one
        split
        · rename_i h; exact ⟨Nat.le_refl _, fun _ => y.la t (by rw [hw]; exact h)⟩
        · exact ⟨by omega, fun h => by omega⟩
      omega
end
end Wd
set_option Elab.async false
set_option linter.all false
set_option maxRecDepth 100000
set_option maxHeartbeats 4000000
/-! Plain law: the reach's steps. -/
namespace Wd
/-! ### lists as dicts -/
section
variable {β : Type}
def lkA (l : List (Nat × β)) (t : Nat) : Option β := (l.find? fun r => decide (r.1 = t)).map (·.2)
def putA (l : List (Nat × β)) (t : Nat) (x : β) : List (Nat × β) := if l.any (fun r => decide (r.1 = t)) = true then l.map (fun r => if r.1 = t then (r.1, x) else r) else l ++ [(t, x)]
theorem lkA_nil {t : Nat} : lkA ([] : List (Nat × β)) t = none := rfl
theorem lkA_cons {r : Nat × β} {l : List (Nat × β)} {t : Nat} : lkA (r :: l) t = if r.1 = t then some r.2 else lkA l t := by
  unfold lkA
  rw [List.find?_cons]
  by_cases h : r.1 = t
  · rw [decide_eq_true h, if_pos h]; rfl
  · rw [decide_eq_false h, if_neg h]
theorem lkA_some {l : List (Nat × β)} {t : Nat} {x : β} (h : lkA l t = some x) : (t, x) ∈ l := by
  induction l with
  | nil => cases h
  | cons r l ih =>
    rw [lkA_cons] at h
    by_cases e : r.1 = t
    · rw [if_pos e] at h
      cases h
      subst e
      exact List.mem_cons_self
    · rw [if_neg e] at h
      exact List.mem_cons_of_mem _ (ih h)
theorem lkA_none {l : List (Nat × β)} {t : Nat} : lkA l t = none ↔ t ∉ l.map (·.1) := by
  induction l with
  | nil => simp [lkA_nil]
  | cons r l ih =>
    rw [lkA_cons, List.map_cons, List.mem_cons, not_or]
    by_cases e : r.1 = t
    · rw [if_pos e]; simp [e]
    · rw [if_neg e, ih]; simp [Ne.symm e]
theorem lkA_mem {l : List (Nat × β)} {t : Nat} {x : β} (nd : (l.map (·.1)).Nodup) (h : (t, x) ∈ l) : lkA l t = some x := by
  induction l with
  | nil => cases h
  | cons r l ih =>
    rw [List.map_cons, List.nodup_cons] at nd
    rw [lkA_cons]
    rcases List.mem_cons.mp h with h | h
    · subst h; rw [if_pos rfl]
    · have : r.1 ≠ t := fun z => nd.1 (List.mem_map.mpr ⟨_, h, z.symm⟩)
      rw [if_neg this]
      exact ih nd.2 h
theorem any_key {l : List (Nat × β)} {t : Nat} : l.any (fun r => decide (r.1 = t)) = true ↔ t ∈ l.map (·.1) := by
  rw [List.any_eq_true, List.mem_map]
  constructor
  · rintro ⟨r, hr, h⟩; exact ⟨r, hr, of_decide_eq_true h⟩
  · rintro ⟨r, hr, h⟩; exact ⟨r, hr, decide_eq_true h⟩
theorem putA_new {l : List (Nat × β)} {t : Nat} {x : β} (h : lkA l t = none) : putA l t x = l ++ [(t, x)] := by
  unfold putA
  rw [if_neg (fun z => lkA_none.mp h (any_key.mp z))]
theorem putA_old {l : List (Nat × β)} {t : Nat} {x : β} (h : lkA l t ≠ none) : putA l t x = l.map fun r => if r.1 = t then (r.1, x) else r := by
  unfold putA
  rw [if_pos (any_key.mpr (Decidable.byContradiction fun z => h (lkA_none.mpr z)))]
theorem lkA_put {l : List (Nat × β)} {t v : Nat} {x : β} : lkA (putA l t x) v = if v = t then some x else lkA l v := by
  by_cases hk : lkA l t = none
  · rw [putA_new hk]
    have go : ∀ l' : List (Nat × β), lkA l' t = none → lkA (l' ++ [(t, x)]) v = if v = t then some x else lkA l' v := by
      intro l'
      induction l' with
      | nil =>
        intro _
        rw [List.nil_append, lkA_cons, lkA_nil]
        by_cases h : v = t
        · rw [if_pos h, if_pos h.symm]
        · rw [if_neg h, if_neg (Ne.symm h)]
      | cons r l' ih =>
        intro h
        rw [lkA_cons] at h
        by_cases e : r.1 = t
        · rw [if_pos e] at h; cases h
        · rw [if_neg e] at h
          rw [List.cons_append, lkA_cons, lkA_cons, ih h]
          by_cases h1 : r.1 = v
          · rw [if_pos h1, if_pos h1, if_neg (fun z => e (by rw [h1, z]))]
          · rw [if_neg h1, if_neg h1]
    exact go l hk
  · rw [putA_old hk]
    have go : ∀ l' : List (Nat × β), lkA (l'.map fun r => if r.1 = t then (r.1, x) else r) v = if v = t then (lkA l' t).map (fun _ => x) else lkA l' v := by
      intro l'
      induction l' with
      | nil => simp [lkA_nil]
      | cons r l' ih =>
        rw [List.map_cons, lkA_cons, ih]
        by_cases e : r.1 = t
        · rw [if_pos e]
          by_cases h1 : v = t
          · rw [if_pos (by rw [e, h1]), if_pos h1, lkA_cons, if_pos e]; rfl
          · rw [if_neg (show ¬ r.1 = v from fun z => h1 (by rw [← z, e])), if_neg h1, if_neg h1, lkA_cons, if_neg (show ¬ r.1 = v from fun z => h1 (by rw [← z, e]))]
        · rw [if_neg e]
          by_cases h1 : r.1 = v
          · rw [if_pos h1, if_neg (fun z => e (by rw [h1, z])), lkA_cons, if_pos h1]
          · rw [if_neg h1, lkA_cons, if_neg e, lkA_cons, if_neg h1]
    rw [go]
    by_cases h1 : v = t
    · rw [if_pos h1, if_pos h1]
      cases h : lkA l t with
      | none => exact absurd h hk
      | some y => rfl
    · rw [if_neg h1, if_neg h1]
theorem putA_keys {l : List (Nat × β)} {t : Nat} {x : β} (nd : (l.map (·.1)).Nodup) : ((putA l t x).map (·.1)).Nodup := by
  by_cases hk : lkA l t = none
  · rw [putA_new hk, List.map_append]
    refine List.nodup_append.mpr ⟨nd, by simp, fun a ha b hb => ?_⟩
    rw [List.mem_singleton.mp hb]
    exact fun z => lkA_none.mp hk (by have z' : a = t := z; rw [← z']; exact ha)
  · rw [putA_old hk, List.map_map]
    have : (l.map ((fun r : Nat × β => r.1) ∘ fun r => if r.1 = t then (r.1, x) else r)) = l.map (·.1) := List.map_congr_left fun r _ => by
      show (if r.1 = t then (r.1, x) else r).1 = r.1
      split <;> rfl
    rw [this]
    exact nd
theorem putA_len {l : List (Nat × β)} {t : Nat} {x : β} : (lkA l t = none → (putA l t x).length = l.length + 1) ∧ (lkA l t ≠ none → (putA l t x).length = l.length) :=
  ⟨fun h => by rw [putA_new h, List.length_append]; rfl, fun h => by rw [putA_old h, List.length_map]⟩
end
/-! ### the reach -/
structure RCx (w : Nat → Nat → Option Int) (cs : Nat → Nat) (m s : Nat) (D : List (Option Nat)) (u p : Nat → Int) (Wm : Int) : Prop where
  du : Dual w cs m s D u p
  hw : ∀ a t x, w a t = some x → 0 ≤ x ∧ x ≤ Wm ∧ t < m
  w0 : 0 ≤ Wm
  hl : s < D.length
structure RI (w : Nat → Nat → Option Int) (m s : Nat) (D : List (Option Nat)) (p : Nat → Int) (Wm : Int) (F T : List (Nat × Int)) (Pt : List (Nat × Nat)) : Prop where
  nF : (F.map (·.1)).Nodup
  nT : (T.map (·.1)).Nodup
  f0 : lkA F s = some 0
  fD : ∀ a g, lkA F a = some g → a = s ∨ ∃ t e x, dl D a = some t ∧ lkA T t = some e ∧ w a t = some x ∧ g ≤ e - x
  fl : ∀ a g, lkA F a = some g → -(Wm * (T.length : Int) + Wm) ≤ g
  tP : ∀ t e, lkA T t = some e → ∃ a g x, lkA Pt t = some a ∧ lkA F a = some g ∧ w a t = some x ∧ dl D a ≠ some t ∧ e ≤ g + x
  tl : ∀ t e, lkA T t = some e → -(Wm * (T.length : Int)) ≤ e
  tu : ∀ t e, lkA T t = some e → e - p t ≤ Wm
  tm : ∀ t e, lkA T t = some e → t < m
  rk : ∃ (τ : Nat → Nat) (c : Nat), (∀ t, τ t < c) ∧ ∀ t e a t' e', lkA T t = some e → lkA Pt t = some a → dl D a = some t' → lkA T t' = some e' → e - p t < e' - p t' ∨ (e - p t = e' - p t' ∧ τ t' < τ t)
section
variable {w : Nat → Nat → Option Int} {cs : Nat → Nat} {m s : Nat} {D : List (Option Nat)} {u p : Nat → Int} {Wm : Int} {F T : List (Nat × Int)} {Pt : List (Nat × Nat)}
theorem RI.lt (C : RCx w cs m s D u p Wm) (R : RI w m s D p Wm F T Pt) {a : Nat} {g : Int} (h : lkA F a = some g) : a ≤ s := by
  rcases R.fD a g h with h1 | ⟨t, e, x, h1, _⟩
  · omega
  · apply Decidable.byContradiction
    intro z
    have := C.du.no a (by omega)
    rw [this] at h1
    cases h1
/-- what the reach asks of a gain on the way to t: no greater than its holder's -/
theorem RI.gain (C : RCx w cs m s D u p Wm) (R : RI w m s D p Wm F T Pt) {a t : Nat} {g x : Int} (hF : lkA F a = some g) (hx : w a t = some x) : (a = s ∧ g = 0) ∨ ∃ t' e', dl D a = some t' ∧ lkA T t' = some e' ∧ g + x - p t ≤ e' - p t' := by
  rcases R.fD a g hF with h | ⟨t', e', x', h1, h2, h3, h4⟩
  · subst h
    rw [R.f0] at hF
    cases hF
    exact .inl ⟨rfl, rfl⟩
  · have h5 := C.du.eq a t' h1
    rw [h3] at h5
    cases h5
    have ha : a < s := by
      apply Decidable.byContradiction
      intro z
      have := C.du.no a (by omega)
      rw [this] at h1
      cases h1
    have := C.du.cov a ha t x hx
    exact .inr ⟨t', e', h1, h2, by omega⟩
theorem RI.better (C : RCx w cs m s D u p Wm) (R : RI w m s D p Wm F T Pt) {a t : Nat} {g x : Int} (hF : lkA F a = some g) (hx : w a t = some x) (hd : dl D a ≠ some t) (hb : ∀ e, lkA T t = some e → e < g + x) :
    RI w m s D p Wm F (putA T t (g + x)) (putA Pt t a) := by
  obtain ⟨hx0, hxW, htm⟩ := C.hw a t x hx
  have hg := R.gain C hF hx
  have hlen : (lkA T t = none ∧ (((putA T t (g + x)).length : Nat) : Int) = (T.length : Int) + 1) ∨ (lkA T t ≠ none ∧ (((putA T t (g + x)).length : Nat) : Int) = (T.length : Int)) := by
    by_cases h : lkA T t = none
    · exact .inl ⟨h, by have := (putA_len (l := T) (t := t) (x := g + x)).1 h; omega⟩
    · exact .inr ⟨h, by have := (putA_len (l := T) (t := t) (x := g + x)).2 h; omega⟩
  have hmul : Wm * (T.length : Int) ≤ Wm * (((putA T t (g + x)).length : Nat) : Int) := by
    have := C.w0
    rcases hlen with ⟨_, h⟩ | ⟨_, h⟩
    · rw [h, Int.mul_add]; omega
    · rw [h]; exact Int.le_refl _
  have hmul1 : lkA T t = none → Wm * (((putA T t (g + x)).length : Nat) : Int) = Wm * (T.length : Int) + Wm := fun h0 => by
    rcases hlen with ⟨_, h⟩ | ⟨h1, h⟩
    · rw [h, Int.mul_add, Int.mul_one]
    · exact absurd h0 h1
  refine ⟨R.nF, putA_keys R.nT, R.f0, fun b gb hb' => ?_, fun b gb hb' => ?_, fun v e hv => ?_, fun v e hv => ?_, fun v e hv => ?_, fun v e hv => ?_, ?_⟩
  · rcases R.fD b gb hb' with h | ⟨t', e', x', h1, h2, h3, h4⟩
    · exact .inl h
    · refine .inr ?_
      by_cases ht : t' = t
      · subst ht
        have := hb e' h2
        exact ⟨t', g + x, x', h1, by rw [lkA_put, if_pos rfl], h3, by omega⟩
      · exact ⟨t', e', x', h1, by rw [lkA_put, if_neg ht]; exact h2, h3, h4⟩
  · have := R.fl b gb hb'
    omega
  · rw [lkA_put] at hv
    by_cases ht : v = t
    · subst ht
      rw [if_pos rfl] at hv
      cases hv
      exact ⟨a, g, x, by rw [lkA_put, if_pos rfl], hF, hx, hd, Int.le_refl _⟩
    · rw [if_neg ht] at hv
      obtain ⟨a', g', x', h1, h2⟩ := R.tP v e hv
      exact ⟨a', g', x', by rw [lkA_put, if_neg ht]; exact h1, h2⟩
  · rw [lkA_put] at hv
    by_cases ht : v = t
    · subst ht
      rw [if_pos rfl] at hv
      cases hv
      have h1 := R.fl a g hF
      by_cases h0 : lkA T v = none
      · rw [hmul1 h0]; omega
      · cases h2 : lkA T v with
        | none => exact absurd h2 h0
        | some e0 =>
          have := R.tl v e0 h2
          have := hb e0 h2
          omega
    · rw [if_neg ht] at hv
      have := R.tl v e hv
      omega
  · rw [lkA_put] at hv
    by_cases ht : v = t
    · subst ht
      rw [if_pos rfl] at hv
      cases hv
      rcases hg with ⟨_, h⟩ | ⟨t', e', h1, h2, h3⟩
      · have := C.du.p0 v
        omega
      · have := R.tu t' e' h2
        omega
    · rw [if_neg ht] at hv
      exact R.tu v e hv
  · rw [lkA_put] at hv
    by_cases ht : v = t
    · subst ht; exact htm
    · rw [if_neg ht] at hv
      exact R.tm v e hv
  · obtain ⟨τ, c, hc, hr⟩ := R.rk
    refine ⟨fun y => if y = t then c else τ y, c + 1, fun y => ?_, fun v e b t' e' hv hP hD hT' => ?_⟩
    · dsimp only
      split
      · omega
      · have := hc y; omega
    · dsimp only
      rw [lkA_put] at hv hT' hP
      by_cases ht : v = t
      · subst ht
        rw [if_pos rfl] at hv hP
        cases hv
        cases hP
        have hne : t' ≠ v := fun z => hd (by rw [hD, z])
        rw [if_neg hne] at hT'
        rw [if_neg hne, if_pos rfl]
        rcases hg with ⟨h1, _⟩ | ⟨t2, e2, h1, h2, h3⟩
        · have := C.du.no s (Nat.le_refl _)
          rw [h1, this] at hD
          cases hD
        · rw [hD] at h1
          cases h1
          rw [hT'] at h2
          cases h2
          have := hc t'
          omega
      · rw [if_neg ht] at hv hP
        rw [if_neg ht]
        by_cases ht' : t' = t
        · subst ht'
          rw [if_pos rfl] at hT'
          cases hT'
          left
          obtain ⟨a1, g1, x1, h1, h2, _⟩ := R.tP v e hv
          rw [hP] at h1
          cases h1
          rcases R.fD b g1 h2 with h | ⟨t2, e2, x2, h3, h4, _⟩
          · have := C.du.no s (Nat.le_refl _)
            rw [h, this] at hD
            cases hD
          · rw [hD] at h3
            cases h3
            have h5 := hr v e b t' e2 hv hP hD h4
            have h6 := hb e2 h4
            omega
        · rw [if_neg ht'] at hT'
          rw [if_neg ht']
          exact hr v e b t' e' hv hP hD hT'
theorem RI.sync (C : RCx w cs m s D u p Wm) (R : RI w m s D p Wm F T Pt) {a t : Nat} {e x : Int} (hD : dl D a = some t) (hT : lkA T t = some e) (hx : w a t = some x) : RI w m s D p Wm (putA F a (e - x)) T Pt := by
  have has : a ≠ s := fun z => by
    have := C.du.no s (Nat.le_refl _)
    rw [z, this] at hD
    cases hD
  obtain ⟨hx0, hxW, htm⟩ := C.hw a t x hx
  refine ⟨putA_keys R.nF, R.nT, by rw [lkA_put, if_neg (Ne.symm has)]; exact R.f0, fun b g hb => ?_, fun b g hb => ?_, fun v e' hv => ?_, R.tl, R.tu, R.tm, R.rk⟩
  · rw [lkA_put] at hb
    by_cases h : b = a
    · subst h
      rw [if_pos rfl] at hb
      cases hb
      exact .inr ⟨t, e, x, hD, hT, hx, Int.le_refl _⟩
    · rw [if_neg h] at hb
      exact R.fD b g hb
  · rw [lkA_put] at hb
    by_cases h : b = a
    · subst h
      rw [if_pos rfl] at hb
      cases hb
      have := R.tl t e hT
      omega
    · rw [if_neg h] at hb
      exact R.fl b g hb
  · obtain ⟨b, g, x', h1, h2, h3, h4, h5⟩ := R.tP v e' hv
    by_cases h : b = a
    · subst h
      refine ⟨b, e - x, x', h1, by rw [lkA_put, if_pos rfl], h3, h4, ?_⟩
      rcases R.fD b g h2 with h6 | ⟨t2, e2, x2, h7, h8, h9, h10⟩
      · exact absurd h6 has
      · rw [hD] at h7
        cases h7
        rw [hT] at h8
        cases h8
        rw [hx] at h9
        cases h9
        omega
    · exact ⟨b, g, x', h1, by rw [lkA_put, if_neg h]; exact h2, h3, h4, h5⟩
end
end Wd
set_option Elab.async false
set_option linter.all false
set_option maxRecDepth 100000
set_option maxHeartbeats 4000000
/-! Plain law: the reach's start, measure, end; the way read off. -/
namespace Wd
theorem sum_lt {l : List Nat} {f g : Nat → Nat} (h : ∀ t ∈ l, f t ≤ g t) {t : Nat} (ht : t ∈ l) (hlt : f t < g t) : (l.map f).sum < (l.map g).sum := by
  induction l with
  | nil => cases ht
  | cons a r ih =>
    rw [List.map_cons, List.map_cons, List.sum_cons, List.sum_cons]
    have hle : (r.map f).sum ≤ (r.map g).sum := by
      have h' : ∀ t ∈ r, f t ≤ g t := fun t ht => h t (List.mem_cons_of_mem _ ht)
      clear ih ht h
      induction r with
      | nil => exact Nat.le_refl _
      | cons b r ih =>
        rw [List.map_cons, List.map_cons, List.sum_cons, List.sum_cons]
        have := h' b List.mem_cons_self
        have := ih fun t ht => h' t (List.mem_cons_of_mem _ ht)
        omega
    have h0 := h a List.mem_cons_self
    rcases List.mem_cons.mp ht with ht | ht
    · subst ht; omega
    · have := ih (fun t ht => h t (List.mem_cons_of_mem _ ht)) ht
      omega
def rCost (m : Nat) (p : Nat → Int) (Wm : Int) (T : List (Nat × Int)) (t : Nat) : Nat := match lkA T t with
  | none => (p t + Wm + Wm * (m : Int) + 1).toNat
  | some e => (p t + Wm - e).toNat
def rMeas (m : Nat) (p : Nat → Int) (Wm : Int) (T : List (Nat × Int)) : Nat := ((List.range m).map (rCost m p Wm T)).sum
section
variable {w : Nat → Nat → Option Int} {cs : Nat → Nat} {m s : Nat} {D : List (Option Nat)} {u p : Nat → Int} {Wm : Int} {F T : List (Nat × Int)} {Pt : List (Nat × Nat)}
theorem RI.start (C : RCx w cs m s D u p Wm) : RI w m s D p Wm [(s, 0)] [] [] := by
  have hw0 := C.w0
  refine ⟨by simp, by simp, by rw [lkA_cons]; simp, fun a g h => ?_, fun a g h => ?_, (fun t e h => by rw [lkA_nil] at h; cases h), (fun t e h => by rw [lkA_nil] at h; cases h), (fun t e h => by rw [lkA_nil] at h; cases h), (fun t e h => by rw [lkA_nil] at h; cases h), fun _ => 0, 1, fun _ => Nat.one_pos, (fun t e a t' e' h => by rw [lkA_nil] at h; cases h)⟩
  · rw [lkA_cons, lkA_nil] at h
    by_cases e : s = a
    · exact .inl e.symm
    · rw [if_neg e] at h; cases h
  · rw [lkA_cons, lkA_nil] at h
    by_cases e : s = a
    · rw [if_pos e] at h
      cases h
      have : Wm * (([] : List (Nat × Int)).length : Int) = 0 := by simp
      omega
    · rw [if_neg e] at h; cases h
theorem RI.len (R : RI w m s D p Wm F T Pt) : T.length ≤ m := by
  have h := nd_len R.nT fun t ht => by
    obtain ⟨r, hr, e⟩ := List.mem_map.mp ht
    have hr' : (t, r.2) ∈ T := by rw [← e]; exact hr
    exact R.tm t r.2 (lkA_mem R.nT hr')
  rw [List.length_map] at h
  exact h
theorem RI.less (C : RCx w cs m s D u p Wm) (R : RI w m s D p Wm F T Pt) {a t : Nat} {g x : Int} (hF : lkA F a = some g) (hx : w a t = some x) (hd : dl D a ≠ some t) (hb : ∀ e, lkA T t = some e → e < g + x) :
    rMeas m p Wm (putA T t (g + x)) < rMeas m p Wm T := by
  have R' := R.better C hF hx hd hb
  have htm := (C.hw a t x hx).2.2
  have hnew : lkA (putA T t (g + x)) t = some (g + x) := by rw [lkA_put, if_pos rfl]
  refine sum_lt (fun v _ => ?_) (List.mem_range.mpr htm) ?_
  · by_cases h : v = t
    · subst h
      refine Nat.le_of_lt ?_
      have h1 := R'.tu v _ hnew
      have h2 := R'.tl v _ hnew
      have h3 := R'.len
      have h4 := C.w0
      have h5 : Wm * (((putA T v (g + x)).length : Nat) : Int) ≤ Wm * (m : Int) := Int.mul_le_mul_of_nonneg_left (by omega) h4
      unfold rCost
      rw [hnew]
      cases hv : lkA T v with
      | none => dsimp only; omega
      | some e =>
        have := hb e hv
        have := R.tu v e hv
        dsimp only
        omega
    · unfold rCost
      rw [lkA_put, if_neg h]
      exact Nat.le_refl _
  · have h1 := R'.tu t _ hnew
    have h2 := R'.tl t _ hnew
    have h3 := R'.len
    have h4 := C.w0
    have h5 : Wm * (((putA T t (g + x)).length : Nat) : Int) ≤ Wm * (m : Int) := Int.mul_le_mul_of_nonneg_left (by omega) h4
    unfold rCost
    rw [hnew]
    cases hv : lkA T t with
    | none => dsimp only; omega
    | some e =>
      have := hb e hv
      have := R.tu t e hv
      dsimp only
      omega
/-- at the end nothing is reached better -/
structure RFix (w : Nat → Nat → Option Int) (D : List (Option Nat)) (F T : List (Nat × Int)) : Prop where
  sync : ∀ a t e, dl D a = some t → lkA T t = some e → ∃ x, w a t = some x ∧ lkA F a = some (e - x)
  fix : ∀ a g t x, lkA F a = some g → w a t = some x → dl D a ≠ some t → ∃ e, lkA T t = some e ∧ g + x ≤ e
/-- the greatest gain and the last step -/
structure REn (cs : Nat → Nat) (D : List (Option Nat)) (F T : List (Nat × Int)) (Pt : List (Nat × Nat)) (M : Int) (e : Option (Nat × Option Nat)) : Prop where
  bF : ∀ a g, lkA F a = some g → g ≤ M
  bT : ∀ t g, lkA T t = some g → D.count (some t) < cs t → g ≤ M
  m0 : 0 ≤ M
  en : match e with
    | none => M = 0
    | some (a, none) => lkA F a = some M ∧ 0 < M
    | some (a, some t) => lkA T t = some M ∧ lkA Pt t = some a ∧ D.count (some t) < cs t ∧ 0 < M
theorem REnd.of (C : RCx w cs m s D u p Wm) (R : RI w m s D p Wm F T Pt) (X : RFix w D F T) {M : Int} {e : Option (Nat × Option Nat)} (Z : REn cs D F T Pt M e) : REnd w cs m s D (lkA F) (lkA T) M := by
  refine ⟨R.f0, X.sync, fun a g h => ?_, X.fix, Z.bF, Z.bT, Z.m0⟩
  rcases R.fD a g h with h1 | ⟨t, e, x, h1, h2, h3, _⟩
  · exact .inl h1
  · obtain ⟨x', h4, h5⟩ := X.sync a t e h1 h2
    rw [h] at h5
    exact .inr ⟨t, e, x', h1, h2, h4, Option.some.inj h5⟩
/-- y is above t: reached at a greater gain, or at the same ahead of it -/
def Abv (p : Nat → Int) (T : List (Nat × Int)) (τ : Nat → Nat) (t y : Nat) : Prop := ∃ e e', lkA T t = some e ∧ lkA T y = some e' ∧ (e - p t < e' - p y ∨ (e - p t = e' - p y ∧ τ y < τ t))
theorem Abv.trans {τ : Nat → Nat} {a b c : Nat} (h1 : Abv p T τ a b) (h2 : Abv p T τ b c) : Abv p T τ a c := by
  obtain ⟨e1, e2, h3, h4, h5⟩ := h1
  obtain ⟨e3, e4, h6, h7, h8⟩ := h2
  rw [h4] at h6
  cases h6
  exact ⟨e1, e4, h3, h7, by omega⟩
theorem Abv.irr {τ : Nat → Nat} {a : Nat} (h : Abv p T τ a a) : False := by
  obtain ⟨e1, e2, h3, h4, h5⟩ := h
  rw [h3] at h4
  cases h4
  omega
/-- how many are above -/
noncomputable def nAbv (m : Nat) (p : Nat → Int) (T : List (Nat × Int)) (τ : Nat → Nat) (t : Nat) : Nat := ((List.range m).map fun y => @ite Nat (Abv p T τ t y) (Classical.propDecidable _) 1 0).sum
theorem nAbv_lt {τ : Nat → Nat} {t y : Nat} (h : Abv p T τ t y) (hm : y < m) : nAbv m p T τ y < nAbv m p T τ t := by
  unfold nAbv
  refine sum_lt (fun v _ => ?_) (List.mem_range.mpr hm) ?_
  · by_cases h1 : Abv p T τ y v
    · rw [if_pos h1, if_pos (h.trans h1)]; exact Nat.le_refl _
    · rw [if_neg h1]; exact Nat.zero_le _
  · rw [if_neg fun z => z.irr, if_pos h]
    exact Nat.one_pos
/-- the way so far, from its head on -/
structure WI (w : Nat → Nat → Option Int) (cs : Nat → Nat) (m s : Nat) (D : List (Option Nat)) (F T : List (Nat × Int)) (M : Int) (p : Nat → Int) (τ : Nat → Nat) (b : Nat) (x : Option Nat) (r : List (Nat × Option Nat)) : Prop where
  nd : (((b, x) :: r).map (·.1)).Nodup
  ch : WChain D ((b, x) :: r)
  len : ∀ y ∈ (b, x) :: r, y.1 < D.length
  le : ∀ y ∈ (b, x) :: r, y.1 ≤ s
  th : ∀ a t, (a, some t) ∈ (b, x) :: r → ∃ g e y, lkA F a = some g ∧ lkA T t = some e ∧ w a t = some y ∧ e = g + y ∧ M ≤ e - p t ∧ t < m
  ho : ∀ a y, (a, y) ∈ (b, x) :: r → a = s ∨ ∃ t e, dl D a = some t ∧ lkA T t = some e ∧ M ≤ e - p t
  en : ∀ a, (a, none) ∈ (b, x) :: r → lkA F a = some M ∧ a ≠ s
  la : ∀ t, wLast ((b, x) :: r) = some t → D.count (some t) < cs t
  ns : ∀ y ∈ r, ∃ t, dl D y.1 = some t ∧ (b ≠ s → ∃ t0, dl D b = some t0 ∧ Abv p T τ t t0)
theorem WI.fin {M : Int} {τ : Nat → Nat} {x : Option Nat} {r : List (Nat × Option Nat)} (h : WI w cs m s D F T M p τ s x r) : WayOk w cs m s D (lkA F) (lkA T) M p ((s, x) :: r) :=
  ⟨h.nd, h.ch, fun y hy => by cases hy; rfl, h.len, h.le, h.th, h.ho, h.en, h.la, fun z => by cases z⟩
theorem dl_len {a t : Nat} (h : dl D a = some t) : a < D.length := (dl_lt h).1
theorem RI.F_of (C : RCx w cs m s D u p Wm) (R : RI w m s D p Wm F T Pt) (X : RFix w D F T) {t : Nat} {e : Int} (h : lkA T t = some e) : ∃ a g y, lkA Pt t = some a ∧ lkA F a = some g ∧ w a t = some y ∧ dl D a ≠ some t ∧ e = g + y := by
  obtain ⟨a, g, y, h1, h2, h3, h4, h5⟩ := R.tP t e h
  obtain ⟨e', h6, h7⟩ := X.fix a g t y h2 h3 h4
  rw [h] at h6
  cases h6
  exact ⟨a, g, y, h1, h2, h3, h4, by omega⟩
theorem RI.F_len (C : RCx w cs m s D u p Wm) (R : RI w m s D p Wm F T Pt) {a : Nat} {g : Int} (h : lkA F a = some g) : a < D.length ∧ a ≤ s := by
  refine ⟨?_, R.lt C h⟩
  rcases R.fD a g h with h1 | ⟨t, e, x, h1, _⟩
  · rw [h1]; exact C.hl
  · exact dl_len h1
theorem RI.ho_of (C : RCx w cs m s D u p Wm) (R : RI w m s D p Wm F T Pt) {τ : Nat → Nat} (hτ : ∀ t e a t' e', lkA T t = some e → lkA Pt t = some a → dl D a = some t' → lkA T t' = some e' → e - p t < e' - p t' ∨ (e - p t = e' - p t' ∧ τ t' < τ t)) {t a : Nat} {e g : Int} (hT : lkA T t = some e) (hP : lkA Pt t = some a) (hF : lkA F a = some g) : a = s ∨ ∃ t' e', dl D a = some t' ∧ lkA T t' = some e' ∧ e - p t ≤ e' - p t' ∧ Abv p T τ t t' := by
  rcases R.fD a g hF with h | ⟨t', e', x', h1, h2, _⟩
  · exact .inl h
  · have h3 := hτ t e a t' e' hT hP h1 h2
    exact .inr ⟨t', e', h1, h2, by omega, e, e', hT, h2, h3⟩
theorem WI.begin (C : RCx w cs m s D u p Wm) (R : RI w m s D p Wm F T Pt) (X : RFix w D F T) {M : Int} {a : Nat} {y : Option Nat} (Z : REn cs D F T Pt M (some (a, y))) {τ : Nat → Nat} (hτ : ∀ t e a t' e', lkA T t = some e → lkA Pt t = some a → dl D a = some t' → lkA T t' = some e' → e - p t < e' - p t' ∨ (e - p t = e' - p t' ∧ τ t' < τ t)) : WI w cs m s D F T M p τ a y [] := by
  have hen := Z.en
  cases y with
  | none =>
    obtain ⟨h1, h2⟩ := hen
    have hl := R.F_len C h1
    have has : a ≠ s := fun z => by
      subst z
      rw [R.f0] at h1
      cases h1
      omega
    refine ⟨by simp, trivial, fun y hy => ?_, fun y hy => ?_, fun b t hb => ?_, fun b x hb => ?_, fun b hb => ?_, (fun t ht => by cases ht), (fun y hy => by cases hy)⟩
    · rw [List.mem_singleton.mp hy]; exact hl.1
    · rw [List.mem_singleton.mp hy]; exact hl.2
    · have := List.mem_singleton.mp hb
      cases this
    · cases List.mem_singleton.mp hb
      refine .inr ?_
      rcases R.fD a M h1 with h | ⟨t', e', x', h3, h4, h5, h6⟩
      · exact absurd h has
      · have h7 := C.du.eq a t' h3
        rw [h5] at h7
        cases h7
        have := C.du.u0 a
        exact ⟨t', e', h3, h4, by omega⟩
    · cases List.mem_singleton.mp hb
      exact ⟨h1, has⟩
  | some t =>
    obtain ⟨h1, h2, h3, h4⟩ := hen
    obtain ⟨a', g, x, h5, h6, h7, h8, h9⟩ := R.F_of C X h1
    rw [h2] at h5
    cases h5
    have hl := R.F_len C h6
    have htm := (C.hw a t x h7).2.2
    have hp0 := C.du.lf t htm h3
    refine ⟨by simp, trivial, fun y hy => ?_, fun y hy => ?_, fun b v hb => ?_, fun b x' hb => ?_, fun b hb => ?_, fun v hv => ?_, (fun y hy => by cases hy)⟩
    · rw [List.mem_singleton.mp hy]; exact hl.1
    · rw [List.mem_singleton.mp hy]; exact hl.2
    · cases List.mem_singleton.mp hb
      exact ⟨g, M, x, h6, h1, h7, h9, by omega, htm⟩
    · cases List.mem_singleton.mp hb
      rcases R.ho_of C hτ h1 h2 h6 with h | ⟨t', e', h10, h11, h12, _⟩
      · exact .inl h
      · exact .inr ⟨t', e', h10, h11, by omega⟩
    · have := List.mem_singleton.mp hb
      cases this
    · cases hv
      exact h3
theorem WI.step (C : RCx w cs m s D u p Wm) (R : RI w m s D p Wm F T Pt) (X : RFix w D F T) {M : Int} {τ : Nat → Nat} (hτ : ∀ t e a t' e', lkA T t = some e → lkA Pt t = some a → dl D a = some t' → lkA T t' = some e' → e - p t < e' - p t' ∨ (e - p t = e' - p t' ∧ τ t' < τ t))
    {b : Nat} {x : Option Nat} {r : List (Nat × Option Nat)} (h : WI w cs m s D F T M p τ b x r) (hb : b ≠ s) : ∃ t a, dl D b = some t ∧ lkA Pt t = some a ∧ t < m ∧ WI w cs m s D F T M p τ a (some t) ((b, x) :: r) ∧ (a ≠ s → ∃ t', dl D a = some t' ∧ t' < m ∧ Abv p T τ t t') := by
  rcases h.ho b x List.mem_cons_self with z | ⟨t, e, h1, h2, h3⟩
  · exact absurd z hb
  obtain ⟨a, g, y, h5, h6, h7, h8, h9⟩ := R.F_of C X h2
  have hl := R.F_len C h6
  have htm := (C.hw a t y h7).2.2
  have hho := R.ho_of C hτ h2 h5 h6
  -- all behind have a thing that is t or below it
  have hbel : ∀ z ∈ (b, x) :: r, ∃ v, dl D z.1 = some v ∧ (v = t ∨ Abv p T τ v t) := fun z hz => by
    rcases List.mem_cons.mp hz with hz | hz
    · subst hz; exact ⟨t, h1, .inl rfl⟩
    · obtain ⟨v, h10, h11⟩ := h.ns z hz
      obtain ⟨t0, h12, h13⟩ := h11 hb
      rw [h1] at h12
      cases h12
      exact ⟨v, h10, .inr h13⟩
  have hsn := C.du.no s (Nat.le_refl _)
  have han : a ∉ ((b, x) :: r).map (·.1) := fun hin => by
    obtain ⟨z, hz, e1⟩ := List.mem_map.mp hin
    obtain ⟨v, h10, h11⟩ := hbel z hz
    have e1' : z.1 = a := e1
    rw [e1'] at h10
    rcases hho with h12 | ⟨t', e', h12, _, _, h13⟩
    · rw [h12, hsn] at h10; cases h10
    · rw [h10] at h12
      cases h12
      rcases h11 with h11 | h11
      · subst h11; exact h13.irr
      · exact (h11.trans h13).irr
  refine ⟨t, a, h1, h5, htm, ⟨?_, ⟨?_, h1, h.ch⟩, fun z hz => ?_, fun z hz => ?_, fun c v hc => ?_, fun c v hc => ?_, fun c hc => ?_, h.la, fun z hz => ?_⟩, fun has => ?_⟩
  · rw [List.map_cons, List.nodup_cons]; exact ⟨han, h.nd⟩
  · exact fun z => by cases z
  · rcases List.mem_cons.mp hz with hz | hz
    · subst hz; exact hl.1
    · exact h.len z hz
  · rcases List.mem_cons.mp hz with hz | hz
    · subst hz; exact hl.2
    · exact h.le z hz
  · rcases List.mem_cons.mp hc with hc | hc
    · cases hc; exact ⟨g, e, y, h6, h2, h7, h9, h3, htm⟩
    · exact h.th c v hc
  · rcases List.mem_cons.mp hc with hc | hc
    · cases hc
      rcases hho with h12 | ⟨t', e', h12, h13, h14, _⟩
      · exact .inl h12
      · exact .inr ⟨t', e', h12, h13, by omega⟩
    · exact h.ho c v hc
  · rcases List.mem_cons.mp hc with hc | hc
    · cases hc
    · exact h.en c hc
  · obtain ⟨v, h10, h11⟩ := hbel z hz
    refine ⟨v, h10, fun has => ?_⟩
    rcases hho with h12 | ⟨t', e', h12, _, _, h13⟩
    · exact absurd h12 has
    · refine ⟨t', h12, ?_⟩
      rcases h11 with h11 | h11
      · rw [h11]; exact h13
      · exact h11.trans h13
  · rcases hho with h12 | ⟨t', e', h12, h13, _, h14⟩
    · exact absurd h12 has
    · exact ⟨t', h12, R.tm t' e' h13, h14⟩
end
end Wd
set_option Elab.async false
set_option linter.all false
set_option maxRecDepth 100000
set_option maxHeartbeats 4000000
/-! dicts by numbers, locked walks over them, parts of a heap -/
namespace Wd
open PySem PySem.Spec PyProof.Rows L2
section
variable {β : Type}
def dg (e : β → V) (l : List (Nat × β)) : List (Key × V) := l.map fun r => (NK r.1, e r.2)
theorem dg_val {e : β → V} {l : List (Nat × β)} {t : Nat} : valV (dg e l) (NK t) = (lkA l t).map e := by
  unfold valV dg lkA
  induction l with
  | nil => rfl
  | cons r l ih =>
    rw [List.map_cons, List.find?_cons, List.find?_cons]
    by_cases h : r.1 = t
    · rw [decide_eq_true h, decide_eq_true (show NK r.1 = NK t by rw [h])]; rfl
    · have : decide (NK r.1 = NK t) = false := decide_eq_false fun z => h (NK.inj z)
      rw [this, decide_eq_false h]
      exact ih
theorem dg_put {e : β → V} {l : List (Nat × β)} {t : Nat} {x : β} : putK (dg e l) (NK t) (e x) = dg e (putA l t x) := by
  unfold putK putA
  have ha : (dg e l).any (fun kv => decide (kv.1 = NK t)) = l.any (fun r => decide (r.1 = t)) := by
    unfold dg
    rw [List.any_map]
    congr 1
    funext r
    show decide (NK r.1 = NK t) = decide (r.1 = t)
    exact decide_eq_decide.mpr ⟨NK.inj, fun h => by rw [h]⟩
  rw [ha]
  by_cases h : l.any (fun r => decide (r.1 = t)) = true
  · rw [if_pos h, if_pos h]
    unfold dg
    rw [List.map_map, List.map_map]
    refine List.map_congr_left fun r _ => ?_
    show (if NK r.1 = NK t then (NK r.1, e x) else (NK r.1, e r.2)) = (NK (if r.1 = t then (r.1, x) else r).1, e (if r.1 = t then (r.1, x) else r).2)
    by_cases h1 : r.1 = t
    · rw [if_pos (show NK r.1 = NK t by rw [h1]), if_pos h1]
    · rw [if_neg (fun z => h1 (NK.inj z)), if_neg h1]
  · rw [if_neg h, if_neg h]
    unfold dg
    rw [List.map_append]
    rfl
theorem dg_len {e : β → V} {l : List (Nat × β)} : (dg e l).length = l.length := by unfold dg; rw [List.length_map]
end
theorem dk_dg {l : List (Nat × Int)} : dk l = dg V.int l := rfl
/-- the heap without these -/
def cut (H : Hp) (A : List Addr) : Hp := fun b => if b ∈ A then none else H b
theorem cut_same {H : Hp} {A : List Addr} : Same (cut H A) H := fun b o h => by
  unfold cut at h
  by_cases e : b ∈ A
  · rw [if_pos e] at h; cases h
  · rw [if_neg e] at h; exact h
theorem cut_none {H : Hp} {A : List Addr} {a : Addr} (h : a ∈ A) : cut H A a = none := if_pos h
theorem cut_at {H : Hp} {A : List Addr} {a : Addr} (h : a ∉ A) : cut H A a = H a := if_neg h
theorem cut_of {B H : Hp} {A : List Addr} (e : Same B H) (h : ∀ a ∈ A, B a = none) : Same B (cut H A) := fun b o hb => by
  rw [cut_at (fun z => by rw [h b z] at hb; cases hb)]
  exact e b o hb
theorem cut_less {B B' : Hp} {A : List Addr} (e : Same B B') : Same (cut B A) (cut B' A) := fun b o h => by
  unfold cut at h ⊢
  by_cases z : b ∈ A
  · rw [if_pos z] at h; cases h
  · rw [if_neg z] at h ⊢; exact e _ _ h
section
variable {K : Frg} {σ : L2.St} {H : Hp} {td : TE} {tb : TS} {D : Ends}
/-- for k, v in d.items(): the dict locked -/
theorem w_lockI {d : Addr} {l : List (Nat × Int)} {i j : Nat} (hd : H d = some (.dK (dk l))) (hv : ∀ od, Pv td σ (upd H d (.frz od (.dK (dk l)))) (.ref d)) (W : Obj → Nat → L2.St → Hp → Prop)
    (h0 : ∀ od H1, Same (upd H d (.frz od (.dK (dk l)))) H1 → W od 0 σ H1) (hl : ∀ od k σ' H', W od k σ' H' → H' d = some (.frz od (.dK (dk l))))
    (hs : ∀ od k r σ' H' H2, l[k]? = some r → W od k σ' H' → Same H' H2 → tb ⟨W od (k + 1), fun v H' => H' d = some (.frz od (.dK (dk l))) ∧ D.rt v (upd H' d (.dK (dk l))), fun σ' H' => H' d = some (.frz od (.dK (dk l))) ∧ D.nx σ' (upd H' d (.dK (dk l))), W od (k + 1)⟩ ((σ'.set i (some (vn r.1))).set j (some (.int r.2))) H2)
    (hn : ∀ od σ' H', W od l.length σ' H' → D.nx σ' (upd H' d (.dK (dk l)))) : tLock (tFor (iItems td) (gTup K 2 (gCons (gName i) (gCons (gName j) gNil))) tb) D σ H := by
  refine ⟨d, .dK (dk l), hd, trivial, fun od => (hv od).run fun H1 e1 => ⟨d, od, dk l, rfl, e1 _ _ upd_same, ?_⟩⟩
  have hlen : (dk l).length = l.length := dg_len (e := V.int)
  refine for_it (walk_items (d := d) (o := od) (kvs := dk l)) (W od) (h0 od H1 e1) (fun k σ' H' _ p => hl od k σ' H' p) (fun k x σ' H' H2 hk p y => ?_) fun σ' H' p => ⟨?_, ?_⟩
  · obtain ⟨T, u, v, rfl, hT, rfl, e2, e3⟩ := y
    rw [hlen] at hk
    have hr := List.getElem?_eq_getElem hk
    have hkv : (dk l)[k]? = some (NK l[k].1, V.int l[k].2) := by unfold dk; rw [List.getElem?_map, hr]; rfl
    dsimp only at e2 e3
    rw [hkv] at e2 e3
    cases e2
    cases e3
    exact ⟨T, _, rfl, SqT.of upd_same, rfl, _, _, rfl, _, _, rfl, rfl, hs od k _ σ' H' _ hr p (same_new hT)⟩
  · rw [hlen] at p; exact hl od _ σ' H' p
  · rw [hlen] at p; exact hn od σ' H' p
end
section
variable {P : Program} {w : World} {K : Frg} {mg : Str → Option Value} {base : Heap}
/-! ### left_by -/
abbrev csf (cs : List Nat) (t : Nat) : Nat := cs[t]?.getD 0
def leftL (cs : List Nat) (D : List (Option Nat)) : List V := (List.range cs.length).map fun t => V.int ((csf cs t : Int) - (D.count (some t) : Int))
theorem leftL_get {cs : List Nat} {D : List (Option Nat)} {t : Nat} (h : t < cs.length) : (leftL cs D)[t]? = some (.int ((csf cs t : Int) - (D.count (some t) : Int))) := by
  unfold leftL
  rw [List.getElem?_map, List.getElem?_range h]
  rfl
theorem leftL_len {cs : List Nat} {D : List (Option Nat)} : (leftL cs D).length = cs.length := by unfold leftL; simp
def spLeftBy (K : Frg) : Sp := fun vs H Q _ => ∃ ca da cs D, vs = [.ref ca, .ref da] ∧ SqL K H ca (cs.map vn) ∧ SqL K H da (D.map vo) ∧ (∀ t, some t ∈ D → t < cs.length) ∧ cs.length ≤ 1000 ∧ RetL (leftL cs D) H Q
theorem sc_left_by : FnScope N_left_by ["copies", "dealt"] (defScope s_left_by) := ⟨rfl, rfl, rfl, by decide +kernel, rfl, by decide +kernel, by decide +kernel⟩
theorem leftL_put {cs : List Nat} {D : List (Option Nat)} {t : Nat} (h : t < cs.length) : (leftL cs D).set t (.int ((csf cs t : Int) - (D.count (some t) : Int) - 1)) = leftL cs (D ++ [some t]) := by
  refine List.ext_getElem? fun j => ?_
  rw [List.getElem?_set, leftL_len]
  by_cases hj : t = j
  · subst hj
    rw [if_pos rfl, if_pos h, leftL_get h, List.count_append]
    simp
    omega
  · rw [if_neg hj]
    by_cases h2 : j < cs.length
    · rw [leftL_get h2, leftL_get h2, List.count_append]
      have : List.count (some j) [some t] = 0 := by rw [List.count_singleton]; simp [hj]
      rw [this]; simp
    · rw [List.getElem?_eq_none (by rw [leftL_len]; omega), List.getElem?_eq_none (by rw [leftL_len]; omega)]
theorem leftL_non {cs : List Nat} {D : List (Option Nat)} : leftL cs (D ++ [none]) = leftL cs D := by
  unfold leftL
  refine List.map_congr_left fun t _ => ?_
  rw [List.count_append]
  simp
theorem ok_left_by (G : Gx K mg) : Known P w K mg base CX0 1 "left_by" ["copies", "dealt"] (spLeftBy K) := by
  have sc := sc_left_by
  refine G.f_left_by.known sc (fun _ _ _ _ _ _ us hl => match us, hl with | [_, _], _ => rfl) (fun vs H Q E h => ?_) (fun cdv A outer s H vs Q E hr h => ?_)
  · obtain ⟨ca, da, cs, D, rfl, _⟩ := h; rfl
  · obtain ⟨ca, da, cs, D, rfl, hc, hd, hD, hz, q⟩ := h
    refine ⟨_, (pss_cons (ps_set (i := 2) sc.nd rfl (Or.inl rfl) (pe_callTy call_list_of (by rfl) G.n_list (by decide +kernel) (pa_cons (pv 0) pa_nil)))
      (pss_cons (ps_for PassesOwn.never rfl (pi_list (pv 1)) (pg_name (i := 3) sc.nd rfl (Or.inl rfl))
      (pss_one (ps_if (pt_cmpR op_notN (pv 3) pe_non (nomark _))
      (pss_one (ps_augS (pv 2) (pv 3) get_list pe_int ip_sub set_list)) pss_nil)))
      (pss_one (ps_ret (pv 2))))), ?_⟩
    refine sl_set (el_copy (pv_var rfl) hc) fun p H1 hp e1 h1 => ?_
    have e0 : leftL cs [] = cs.map vn := by
      unfold leftL
      refine range_map (by rw [List.length_map]) fun i x hx => ?_
      rw [List.getElem?_map] at hx
      cases h : cs[i]? with
      | none => rw [h] at hx; cases hx
      | some c =>
        rw [h] at hx
        cases hx
        simp [csf, h]
    dsimp only
    refine st_seq ?_
    refine w_forL (val_var rfl) (SqL.mn e1 hd) (fun i σ H' => ∃ x, σ = [some (.ref ca), some (.ref da), some (.ref p), x] ∧ Same H H' ∧ H' p = some (.lst (leftL cs (D.take i)))) ⟨_, rfl, e1, by rw [h1]; exact congrArg (fun z => some (HO.lst z)) e0.symm⟩ (fun i σ H' _ ⟨_, _, e, _⟩ => SqL.mn e hd) ?_ ?_
    · rintro i x σ H2 hx ⟨y, rfl, e2, h2⟩
      rw [List.getElem?_map] at hx
      cases hx' : D[i]? with
      | none => rw [hx'] at hx; cases hx
      | some d =>
      rw [hx'] at hx
      cases hx
      have htk : D.take (i + 1) = D.take i ++ [d] := by rw [List.take_succ, hx']; rfl
      cases d with
      | none =>
        refine ss_if (b := false) (pt_t (pv_notN (pv_var rfl) rfl)) (fun H3 e3 h => nomatch h) fun H3 e3 _ => ?_
        exact ⟨_, rfl, e2.trans e3, by rw [htk, leftL_non]; exact e3 _ _ h2⟩
      | some t =>
        refine ss_if (b := true) (pt_t (pv_notN (pv_var rfl) rfl)) (fun H3 e3 _ => ?_) fun H3 e3 h => nomatch h
        have ht := hD t (List.mem_of_getElem? hx')
        refine ss_inc (n := _) (j := t) (pv_var rfl) (pv_var rfl) pv_c (e3 _ _ h2) (atI_nat (leftL_get ht)) (by rw [leftL_len]; exact ixN_nat ht) fun H4 e4 => ⟨_, rfl, same_mut (e2.trans (e3.trans e4)) hp, ?_⟩
        rw [upd_same, htk, leftL_put ht]
    · rintro σ H2 ⟨y, rfl, e2, h2⟩
      rw [List.length_map, List.take_length] at h2
      exact ⟨_, rfl, q p H2 hp e2 h2⟩
end
end Wd
set_option Elab.async false
set_option linter.all false
set_option maxRecDepth 100000
set_option maxHeartbeats 4000000
/-! the reach: its object, to_things -/
namespace Wd
open PySem PySem.Spec PyProof.Rows L2
abbrev FGo (J : It) (g : TG) (tb : TS) (D : Ends) (σ : L2.St) (H : Hp) : Prop := ∃ W : Nat → Nat → L2.St → Hp → Prop, (∃ m, W 0 m σ H) ∧ ∀ i m σ H, W i m σ H →
  (J.stop i H ∧ D.nx σ H) ∨ (J.go i H ∧ ∃ N : L2.St → Hp → Prop, (∀ σ' H', N σ' H' → ∃ m', m' < m ∧ W (i + 1) m' σ' H') ∧ ∀ x H', J.yld i H x H' → g x σ H' fun σ2 H2 => tb { D with nx := N, ct := N, bk := D.nx } σ2 H2)
theorem f_open {K : Frg} {tl : TE} {g : TG} {tb : TS} {D : Ends} {σ : L2.St} {H : Hp} (h : tl σ H fun x H1 => ∃ a, x = .ref a ∧ (∃ xs, SqL K H1 a xs) ∧ FGo (Itl K a) g tb D σ H1) : tFor (iList K tl) g tb D σ H := h
theorem li_open {te : TE} {σ : L2.St} {H : Hp} {Q : VK} (h : te σ H fun x H1 => LiI.rItemsL x H1 Q) : LiI.tListItems te σ H Q := h
structure RSt where
  a : Addr
  dx : Addr
  rp : Addr
  dp : Addr
  fp : Addr
  tp : Addr
  kp : Addr
  s : Nat
  rows : List (List (Nat × Int))
  D : List (Option Nat)
def RSt.fs (r : RSt) : List (Str × V) := [("rows", .ref r.rp), ("dealt", .ref r.dp), ("start", vn r.s), ("freed", .ref r.fp), ("taken", .ref r.tp), ("takers", .ref r.kp)]
/-- the object in the heap, but for its rows -/
structure RHq (K : Frg) (r : RSt) (B H : Hp) (F T : List (Nat × Int)) (Pt : List (Nat × Nat)) : Prop where
  sB : Same B H
  nn : ∀ b ∈ [r.fp, r.tp, r.kp], B b = none
  ne : r.fp ≠ r.tp ∧ r.fp ≠ r.kp ∧ r.tp ≠ r.kp
  hF : H r.fp = some (.dK (dk F))
  hT : H r.tp = some (.dK (dk T))
  hP : H r.kp = some (.dK (dg vn Pt))
  ob : B r.a = some (.ins (He.ga K "Reach") r.dx r.fs)
  dl : SqL K B r.dp (r.D.map vo)
  kP : Pt.map (·.1) = T.map (·.1)
structure RHp (K : Frg) (r : RSt) (B H : Hp) (F T : List (Nat × Int)) (Pt : List (Nat × Nat)) : Prop where
  q : RHq K r B H F T Pt
  rw : RW B (.ref r.rp) r.rows
def wOf (rows : List (List (Nat × Int))) (a t : Nat) : Option Int := lkA (rows[a]?.getD []) t
/-- what the rows are like -/
structure RGood (r : RSt) : Prop where
  nd : ∀ l ∈ r.rows, (l.map (·.1)).Nodup
  len : r.D.length = r.rows.length
  l1 : r.rows.length ≤ 1000
section
variable {K : Frg} {r : RSt} {B B1 H H1 H2 : Hp} {F T F' T' : List (Nat × Int)} {Pt Pt' : List (Nat × Nat)}
theorem RHq.mn (h : RHq K r B H F T Pt) (e : Same H H1) : RHq K r B H1 F T Pt := ⟨h.sB.trans e, h.nn, h.ne, e _ _ h.hF, e _ _ h.hT, e _ _ h.hP, h.ob, h.dl, h.kP⟩
theorem RHp.mn (h : RHp K r B H F T Pt) (e : Same H H1) : RHp K r B H1 F T Pt := ⟨h.q.mn e, h.rw⟩
theorem RHq.up (h : RHq K r B H F T Pt) (e : Same B B1) (e2 : Same B1 H) (n : ∀ b ∈ [r.fp, r.tp, r.kp], B1 b = none) : RHq K r B1 H F T Pt := ⟨e2, n, h.ne, h.hF, h.hT, h.hP, e _ _ h.ob, SqL.mn e h.dl, h.kP⟩
theorem RHp.base (h : RHp K r B H F T Pt) : RHp K r (cut H [r.fp, r.tp, r.kp]) H F T Pt :=
  ⟨h.q.up (cut_of h.q.sB h.q.nn) cut_same (fun b hb => cut_none hb), h.rw.mn (cut_of h.q.sB h.q.nn)⟩
theorem RHq.down (h : RHq K r B1 H F T Pt) (e : Same B B1) (h0 : RHq K r B H1 F' T' Pt') : RHq K r B H F T Pt := ⟨e.trans h.sB, h0.nn, h.ne, h.hF, h.hT, h.hP, h0.ob, h0.dl, h.kP⟩
theorem RHp.down (h : RHp K r B1 H F T Pt) (e : Same B B1) (h0 : RHp K r B H1 F' T' Pt') : RHp K r B H F T Pt := ⟨h.q.down e h0.q, h0.rw⟩
theorem RHq.obH (h : RHq K r B H F T Pt) : H r.a = some (.ins (He.ga K "Reach") r.dx r.fs) := h.sB _ _ h.ob
theorem RHq.dlH (h : RHq K r B H F T Pt) : SqL K H r.dp (r.D.map vo) := SqL.mn h.sB h.dl
theorem RHq.putT {l : List (Nat × Int)} (h : RHq K r B H F T Pt) {t : Nat} {g : Int} {a : Nat} : RHq K r B (upd (upd H r.tp (.dK (dk (putA T t g)))) r.kp (.dK (dg vn (putA Pt t a)))) F (putA T t g) (putA Pt t a) := by
  have n2 := h.nn r.tp (by simp)
  have n3 := h.nn r.kp (by simp)
  refine ⟨same_mut (same_mut h.sB n2) n3, h.nn, h.ne, ?_, ?_, upd_same, h.ob, h.dl, ?_⟩
  · rw [upd_ne h.ne.2.1, upd_ne h.ne.1]; exact h.hF
  · rw [upd_ne h.ne.2.2, upd_same]
  · unfold putA
    have ha : Pt.any (fun r => decide (r.1 = t)) = T.any (fun r => decide (r.1 = t)) := by
      have e1 : Pt.any (fun r => decide (r.1 = t)) = (Pt.map (·.1)).any (fun k => decide (k = t)) := by rw [List.any_map]; rfl
      have e2 : T.any (fun r => decide (r.1 = t)) = (T.map (·.1)).any (fun k => decide (k = t)) := by rw [List.any_map]; rfl
      rw [e1, e2, h.kP]
    rw [ha]
    split
    · rw [List.map_map, List.map_map]
      have f1 : Pt.map ((fun r : Nat × Nat => r.1) ∘ fun r => if r.1 = t then (r.1, a) else r) = Pt.map (·.1) := List.map_congr_left fun r _ => by show (if r.1 = t then (r.1, a) else r).1 = r.1; split <;> rfl
      have f2 : T.map ((fun r : Nat × Int => r.1) ∘ fun r => if r.1 = t then (r.1, g) else r) = T.map (·.1) := List.map_congr_left fun r _ => by show (if r.1 = t then (r.1, g) else r).1 = r.1; split <;> rfl
      rw [f1, f2, h.kP]
    · rw [List.map_append, List.map_append, h.kP]
      rfl
theorem RHq.putF (h : RHq K r B H F T Pt) {t : Nat} {g : Int} : RHq K r B (upd H r.fp (.dK (dk (putA F t g)))) (putA F t g) T Pt := by
  have n1 := h.nn r.fp (by simp)
  refine ⟨same_mut h.sB n1, h.nn, h.ne, upd_same, ?_, ?_, h.ob, h.dl, h.kP⟩
  · rw [upd_ne (Ne.symm h.ne.1)]; exact h.hT
  · rw [upd_ne (Ne.symm h.ne.2.1)]; exact h.hP
theorem rw_get {rows : List (List (Nat × Int))} {p : Addr} (h : RW B (.ref p) rows) : ∃ ds : List V, B p = some (.lst ds) ∧ ds.length = rows.length ∧ ∀ (i : Nat) (l : List (Nat × Int)), rows[i]? = some l → ∃ d : Addr, ds[i]? = some (V.ref d) ∧ B d = some (.dK (dk l)) := by
  obtain ⟨p', ds, e, h1, h2⟩ := h
  cases e
  refine ⟨ds, h1, h2.length, fun i l hl => ?_⟩
  have hi := (List.getElem?_eq_some_iff.mp hl).1
  have hd : ds[i]? = some (ds[i]'(by rw [h2.length]; exact hi)) := List.getElem?_eq_getElem _
  obtain ⟨l', h3, d, h4, h5⟩ := paired_get h2 hd
  rw [hl] at h3
  cases h3
  exact ⟨d, by rw [hd, h4], h5⟩
end
/-- F's walk so far has found nothing better -/
def NoBet (w : Nat → Nat → Option Int) (D : List (Option Nat)) (T : List (Nat × Int)) (a : Nat) (g : Int) (l : List (Nat × Int)) : Prop := ∀ r ∈ l, dl D a ≠ some r.1 → ∃ e, lkA T r.1 = some e ∧ g + r.2 ≤ e
section
variable {P : Program} {w : World} {K : Frg} {mg : Str → Option Value} {base : Heap}
def spThings (K : Frg) : Sp := fun vs H Q _ => ∃ (r : RSt) (B : Hp) (F T : List (Nat × Int)) (Pt : List (Nat × Nat)) (cs : Nat → Nat) (m : Nat) (u p : Nat → Int) (Wm : Int), vs = [.ref r.a] ∧ RHp K r B H F T Pt ∧ RGood r ∧ m ≤ 1000 ∧ RCx (wOf r.rows) cs m r.s r.D u p Wm ∧ RI (wOf r.rows) m r.s r.D p Wm F T Pt ∧
  ∀ H' T' Pt' b, RHp K r B H' F T' Pt' → RI (wOf r.rows) m r.s r.D p Wm F T' Pt' → (b = true → rMeas m p Wm T' < rMeas m p Wm T) → (b = false → T' = T ∧ Pt' = Pt ∧ ∀ a g t x, lkA F a = some g → wOf r.rows a t = some x → dl r.D a ≠ some t → ∃ e, lkA T t = some e ∧ g + x ≤ e) → Q (.bl b) H'
theorem sc_Reach_to_things : FnScope N_Reach_to_things ["self"] (defScope s_Reach_to_things) := ⟨rfl, rfl, rfl, by decide +kernel, rfl, by decide +kernel, by decide +kernel⟩
theorem ok_Reach_to_things (G : Gx K mg) : KnownM P w K mg base CX0 1 (He.ga K "Reach") "to_things" ["self"] (spThings K) := by
  have sc := sc_Reach_to_things
  refine G.f_Reach_to_things.known sc (fun _ _ _ _ _ _ us hl => match us, hl with | [_], _ => rfl) (fun vs H Q E h => ?_) (fun cdv A outer s H vs Q E hr h => ?_)
  · obtain ⟨r, B, F, T, Pt, cs, m, u, p, Wm, rfl, _⟩ := h; rfl
  · obtain ⟨r, B, F, T, Pt, cs, m, u, p, Wm, rfl, hH, hG, hm, C, R, q⟩ := h
    refine ⟨_, (pss_cons (ps_set (i := 1) sc.nd rfl (Or.inl rfl) pe_bl)
      (pss_cons (ps_for PassesOwn.never rfl (pi_list (LiI.pe_listItems rfl (pe_fld (pv 0) rfl) (by rfl) G.n_list (by decide +kernel))) (pg_tup rfl (pgs_cons (pg_name (i := 2) sc.nd rfl (Or.inl rfl)) (pgs_cons (pg_name (i := 3) sc.nd rfl (Or.inl rfl)) pgs_nil)))
      (pss_one (ps_lock (ps_for PassesOwn.never rfl (pi_items (pe_ix ix_list (pe_fld (pv 0) rfl) (pv 2) (fun _ _ => rfl))) (pg_tup rfl (pgs_cons (pg_name (i := 4) sc.nd rfl (Or.inl rfl)) (pgs_cons (pg_name (i := 5) sc.nd rfl (Or.inl rfl)) pgs_nil)))
      (pss_cons (ps_if (pt_cmpR op_eq (pv 4) (pe_ix ix_list (pe_fld (pv 0) rfl) (pv 2) (fun _ _ => rfl)) (nomark _))
      (pss_one ps_continue) pss_nil)
      (pss_one (ps_if (PW.pt (pw_or (pt_cmp (pc_dnotin (hu_of hr) (pv 4) (pe_fld (pv 0) rfl))) (pw_or1 (pt_cmpR op_gt (pe_op op_add (pv 3) (pv 5)) (pe_dget (hu_of hr) (pe_fld (pv 0) rfl) (pv 4) (fun _ _ => rfl)) (nomark _)))))
      (pss_cons (ps_dput (hu_of hr) (pe_fld (pv 0) rfl) (pv 4) (pe_op op_add (pv 3) (pv 5)) rfl)
      (pss_cons (ps_dput (hu_of hr) (pe_fld (pv 0) rfl) (pv 4) (pv 2) rfl)
      (pss_one (ps_set (i := 1) sc.nd rfl (Or.inl rfl) pe_bl)))) pss_nil)))))))
      (pss_one (ps_ret (pv 1))))), ?_⟩
    refine ss_set pv_c fun H1 e1 => ?_
    have hH1 := hH.mn e1
    dsimp only
    refine st_seq ?_
    refine f_open (li_open ?_)
    refine (pv_fld (pv_var rfl) hH1.q.obH G.c_Reach G.a_Reach_freed rfl).run fun H2 e2 => ?_
    refine ⟨r.fp, dk F, rfl, (hH1.mn e2).q.hF, fun H3 pl ts e3 hpl hts hpts h3 hpair => ⟨pl, rfl, ⟨_, SqL.of h3⟩, ?_⟩⟩
    have hH3 := (hH1.mn e2).mn e3
    have hB := hH3.base
    have eB : Same B (cut H3 [r.fp, r.tp, r.kp]) := cut_of hH3.q.sB hH3.q.nn
    have hpl3 : pl ∉ [r.fp, r.tp, r.kp] := fun z => by
      simp only [List.mem_cons, List.not_mem_nil, or_false] at z
      rcases z with z | z | z
      · rw [z, hH3.q.hF] at h3; cases h3
      · rw [z, hH3.q.hT] at h3; cases h3
      · rw [z, hH3.q.hP] at h3; cases h3
    have hplB : (cut H3 [r.fp, r.tp, r.kp]) pl = some (.lst (ts.map V.ref)) := by rw [cut_at hpl3]; exact h3
    have htsB : ∀ (i : Nat) (v : V), (ts.map V.ref)[i]? = some v → ∃ f t, F[i]? = some f ∧ v = .ref t ∧ (cut H3 [r.fp, r.tp, r.kp]) t = some (.tup [vn f.1, .int f.2]) := fun i v hv => by
      rw [List.getElem?_map] at hv
      cases ht : ts[i]? with
      | none => rw [ht] at hv; cases hv
      | some t =>
        rw [ht] at hv
        cases hv
        obtain ⟨kv, hkv, ht2⟩ := paired_get hpair ht
        unfold dk at hkv
        rw [List.getElem?_map] at hkv
        cases hf : F[i]? with
        | none => rw [hf] at hkv; cases hkv
        | some f =>
          rw [hf] at hkv
          cases hkv
          refine ⟨f, t, rfl, rfl, ?_⟩
          have htn : t ∉ [r.fp, r.tp, r.kp] := fun z => by
            simp only [List.mem_cons, List.not_mem_nil, or_false] at z
            rcases z with z | z | z
            · rw [z, hH3.q.hF] at ht2; cases ht2
            · rw [z, hH3.q.hT] at ht2; cases ht2
            · rw [z, hH3.q.hP] at ht2; cases ht2
          rw [cut_at htn]
          exact ht2
    have hlenF : (ts.map V.ref).length = F.length := by
      have := hpair.length
      rw [List.length_map, this]
      exact dg_len (e := V.int)
    have hFm : ∀ (i : Nat) (f : Nat × Int), F[i]? = some f → lkA F f.1 = some f.2 := fun i f hf => lkA_mem R.nF (List.mem_of_getElem? hf)
    refine for_list (fun i σ H' => ∃ T' Pt' b y2 y3 y4 y5, σ = [some (.ref r.a), some (.bl b), y2, y3, y4, y5] ∧ RHp K r (cut H3 [r.fp, r.tp, r.kp]) H' F T' Pt' ∧ RI (wOf r.rows) m r.s r.D p Wm F T' Pt' ∧ (b = true → rMeas m p Wm T' < rMeas m p Wm T) ∧ (b = false → T' = T ∧ Pt' = Pt ∧ ∀ f ∈ F.take i, NoBet (wOf r.rows) r.D T f.1 f.2 (r.rows[f.1]?.getD []))) ?_ (fun i σ H' _ ⟨T', Pt', b, _, _, _, _, _, h, _⟩ => SqL.of (h.q.sB _ _ hplB)) ?_ ?_
    · exact ⟨T, Pt, false, _, _, _, _, rfl, hB, R, (fun h => nomatch h), fun _ => ⟨rfl, rfl, fun f hf => by simp at hf⟩⟩
    · rintro i v σ H4 hv ⟨T1, Pt1, b1, y2, y3, y4, y5, rfl, hH4, R1, hb1, hb0⟩
      obtain ⟨f, t, hf, rfl, ht⟩ := htsB i v hv
      have hfF := hFm i f hf
      obtain ⟨hfl, hfs⟩ := R.F_len C hfF
      refine w_tg2 (SqT.of (hH4.q.sB _ _ ht)) ?_
      -- the row
      obtain ⟨ds, hds, hdl, hdg⟩ := rw_get hH4.rw
      have hrow : r.rows[f.1]? = some (r.rows[f.1]'(by rw [← hG.len]; exact hfl)) := List.getElem?_eq_getElem _
      obtain ⟨d, hd1, hd2⟩ := hdg _ _ hrow
      have hgd : r.rows[f.1]?.getD [] = r.rows[f.1]'(by rw [← hG.len]; exact hfl) := by rw [hrow]; rfl
      generalize hrl : r.rows[f.1]'(by rw [← hG.len]; exact hfl) = l at *
      have hnd := hG.nd l (List.mem_of_getElem? hrow)
      have hw : ∀ e ∈ l, wOf r.rows f.1 e.1 = some e.2 := fun e he => by
        unfold wOf
        rw [hgd]
        exact lkA_mem hnd he
      have hdH : H4 d = some (.dK (dk l)) := hH4.q.sB _ _ hd2
      have hda : r.a ≠ d := ne_of hH4.q.obH hdH (fun z => by cases z)
      have hdr : r.rp ≠ d := ne_of (hH4.q.sB _ _ hds) hdH (fun z => by cases z)
      have hdn : d ∉ [r.fp, r.tp, r.kp] := fun z => by
        rw [hH4.q.nn d z] at hd2; cases hd2
      -- the base without the row
      have cB : ∀ {b o}, b ≠ d → (cut H3 [r.fp, r.tp, r.kp]) b = some o → (cut (cut H3 [r.fp, r.tp, r.kp]) [d]) b = some o := fun hb h => by rw [cut_at (by simpa using hb)]; exact h
      have hdpB : SqL K (cut (cut H3 [r.fp, r.tp, r.kp]) [d]) r.dp (r.D.map vo) := by
        rcases hH4.q.dl with (h | ⟨o, h⟩) | h
        · exact .inl (.inl (cB (ne_of h hd2 (fun z => by cases z)) h))
        · exact .inl (.inr ⟨o, cB (ne_of h hd2 (fun z => by cases z)) h⟩)
        · exact .inr h
      refine w_lockI (d := d) (l := l) hdH (fun od => ?_) (fun od k σ H' => ∃ T' Pt' b y4 y5, σ = [some (.ref r.a), some (.bl b), some (vn f.1), some (.int f.2), y4, y5] ∧ H' d = some (.frz od (.dK (dk l))) ∧ RHq K r (cut (cut H3 [r.fp, r.tp, r.kp]) [d]) H' F T' Pt' ∧ RI (wOf r.rows) m r.s r.D p Wm F T' Pt' ∧ (b = true → rMeas m p Wm T' < rMeas m p Wm T) ∧ (b = false → T' = T ∧ Pt' = Pt ∧ (∀ f ∈ F.take i, NoBet (wOf r.rows) r.D T f.1 f.2 (r.rows[f.1]?.getD [])) ∧ NoBet (wOf r.rows) r.D T f.1 f.2 (l.take k))) (fun od H5 e5 => ?_) (fun od k σ H' ⟨_, _, _, _, _, _, h, _⟩ => h) ?_ ?_
      · exact pv_ixL (pv_fld (pv_var rfl) (by rw [upd_ne hda]; exact hH4.q.obH) G.c_Reach G.a_Reach_rows rfl) (pv_var rfl) (SqL.of (by rw [upd_ne hdr]; exact hH4.q.sB _ _ hds)) (atI_nat hd1)
      · refine ⟨T1, Pt1, b1, _, _, rfl, e5 _ _ upd_same, ⟨?_, fun b hb => ?_, hH4.q.ne, e5 _ _ ?_, e5 _ _ ?_, e5 _ _ ?_, cB hda hH4.q.ob, hdpB, hH4.q.kP⟩, R1, hb1, fun h => ⟨(hb0 h).1, (hb0 h).2.1, (hb0 h).2.2, fun e he => by simp at he⟩⟩
        · intro b o hb
          have hbd : b ≠ d := fun z => by rw [z, cut_none (by simp)] at hb; cases hb
          rw [cut_at (by simpa using hbd)] at hb
          exact e5 _ _ (by rw [upd_ne hbd]; exact hH4.q.sB _ _ hb)
        · have hbd : b ≠ d := fun z => hdn (z ▸ hb)
          rw [cut_at (by simpa using hbd)]
          exact hH4.q.nn b hb
        · rw [upd_ne (fun z => hdn (by rw [← z]; simp))]; exact hH4.q.hF
        · rw [upd_ne (fun z => hdn (by rw [← z]; simp))]; exact hH4.q.hT
        · rw [upd_ne (fun z => hdn (by rw [← z]; simp))]; exact hH4.q.hP
      · rintro od k e σ H5 H6 he ⟨T2, Pt2, b2, y4, y5, rfl, hd5, hH5, R2, hb21, hb20⟩ e6
        have hH6 := hH5.mn e6
        have hd6 := e6 _ _ hd5
        have hem := List.mem_of_getElem? he
        have hwe := hw e hem
        have htk : l.take (k + 1) = l.take k ++ [e] := by rw [List.take_succ, he]; rfl
        have hdD : r.D[f.1]? = some (dl r.D f.1) := by unfold dl; rw [List.getElem?_eq_getElem hfl]; rfl
        refine ss_if (b := decide (dl r.D f.1 = some e.1)) (pt_t (pv_eq (pv_var rfl) (pv_ixL (pv_fld (pv_var rfl) hH6.obH G.c_Reach G.a_Reach_dealt rfl) (pv_var rfl) hH6.dlH (atI_nat (by rw [List.getElem?_map, hdD]; rfl))) (by cases dl r.D f.1 <;> rfl) ?_)) (fun H7 e7 hb => ?_) fun H7 e7 hb => ?_
        · cases h : dl r.D f.1 with
          | none => exact decide_eq_decide.mpr ⟨(fun z => by cases z), (fun z => by cases z)⟩
          | some t' => exact decide_eq_decide.mpr ⟨(fun z => by have := V.int.inj z; congr 1; omega), (fun z => by cases z; rfl)⟩
        · -- what it has
          refine ⟨T2, Pt2, b2, _, _, rfl, e7 _ _ hd6, hH6.mn e7, R2, hb21, fun h => ?_⟩
          obtain ⟨h1, h2, h3, h4⟩ := hb20 h
          refine ⟨h1, h2, h3, fun e' he' hne => ?_⟩
          rw [htk] at he'
          rcases List.mem_append.mp he' with he' | he'
          · exact h4 e' he' hne
          · rw [List.mem_singleton.mp he'] at hne
            exact absurd (of_decide_eq_true hb) hne
        · have hne := of_decide_eq_false hb
          refine st_next ?_
          dsimp only
          have hH7 := hH6.mn e7
          have hd7 := e7 _ _ hd6
          have hT7 : valV (dk T2) (NK e.1) = (lkA T2 e.1).map V.int := dg_val (e := V.int)
          refine ss_if (b := decide (∀ g, lkA T2 e.1 = some g → g < f.2 + e.2)) ?_ (fun H8 e8 hb => ?_) fun H8 e8 hb => ?_
          · cases hl2 : lkA T2 e.1 with
            | none =>
              rw [hl2] at hT7
              refine (pt_or (b := true) (c := true) (pt_b (pt_dnin (k := NK e.1) (pv_var rfl) (pv_fld (pv_var rfl) hH7.obH G.c_Reach G.a_Reach_taken rfl) (.inl hH7.hT) (by rw [hT7]; rfl))) fun h => nomatch h).to ?_
              exact (decide_eq_true (fun g hg => by cases hg)).symm
            | some e0 =>
              rw [hl2] at hT7
              refine (pt_or (b := false) (c := decide (e0 < f.2 + e.2)) (pt_b (pt_dnin (k := NK e.1) (pv_var rfl) (pv_fld (pv_var rfl) hH7.obH G.c_Reach G.a_Reach_taken rfl) (.inl hH7.hT) (by rw [hT7]; rfl))) fun _ => pt_t (pv_cmp (pv_add (pv_var rfl) (pv_var rfl)) (pv_dget (k := NK e.1) (pv_fld (pv_var rfl) hH7.obH G.c_Reach G.a_Reach_taken rfl) (pv_var rfl) (.inl hH7.hT) hT7) rfl)).to ?_
              rw [Bool.false_or]
              exact decide_eq_decide.mpr ⟨fun h g hg => by cases hg; exact h, fun h => h e0 rfl⟩
          · have hbet := of_decide_eq_true hb
            have hH8 := hH7.mn e8
            have hd8 := e8 _ _ hd7
            have R3 := R2.better C hfF hwe hne hbet
            have hless := R2.less C hfF hwe hne hbet
            have hlT := R2.len
            have hlP : Pt2.length = T2.length := by have := congrArg List.length hH8.kP; rwa [List.length_map, List.length_map] at this
            refine st_seq ?_
            refine ss_dput (k := NK e.1) (v := .int (f.2 + e.2)) (pv_add (pv_var rfl) (pv_var rfl)) (pv_fld (pv_var rfl) hH8.obH G.c_Reach G.a_Reach_taken rfl) (pv_var rfl) hH8.hT (by rw [dk_dg, dg_len, sizeLine_eq]; omega) fun H9 e9 => ?_
            have hH9 := hH8.mn e9
            have ep : putK (dk T2) (NK e.1) (V.int (f.2 + e.2)) = dk (putA T2 e.1 (f.2 + e.2)) := dg_put (e := V.int)
            rw [ep]
            have nta : r.a ≠ r.tp := ne_of_none hH9.ob (hH9.nn r.tp (by simp))
            have o9 : (upd H9 r.tp (.dK (dk (putA T2 e.1 (f.2 + e.2))))) r.a = some (.ins (He.ga K "Reach") r.dx r.fs) := by rw [upd_ne nta]; exact hH9.obH
            have k9 : (upd H9 r.tp (.dK (dk (putA T2 e.1 (f.2 + e.2))))) r.kp = some (.dK (dg vn Pt2)) := by rw [upd_ne (Ne.symm hH9.ne.2.2)]; exact hH9.hP
            dsimp only
            refine st_seq ?_
            refine ss_dput (k := NK e.1) (v := vn f.1) (pv_var rfl) (pv_fld (pv_var rfl) o9 G.c_Reach G.a_Reach_takers rfl) (pv_var rfl) k9 (by rw [dg_len, sizeLine_eq]; omega) fun H10 e10 => ?_
            have ep2 : putK (dg vn Pt2) (NK e.1) (vn f.1) = dg vn (putA Pt2 e.1 f.1) := dg_put (e := vn)
            rw [ep2]
            dsimp only
            have hput := (hH9.putT (l := []) (t := e.1) (g := f.2 + e.2) (a := f.1))
            have e10' : Same (upd (upd H9 r.tp (.dK (dk (putA T2 e.1 (f.2 + e.2))))) r.kp (.dK (dg vn (putA Pt2 e.1 f.1)))) (upd H10 r.kp (.dK (dg vn (putA Pt2 e.1 f.1)))) := fun b o hbo => by
              by_cases z : b = r.kp
              · rw [z, upd_same] at hbo ⊢; exact hbo
              · rw [upd_ne z] at hbo ⊢; exact e10 _ _ hbo
            have hH11 := hput.mn e10'
            refine ss_set pv_c fun H12 e12 => ?_
            have hnk : d ≠ r.kp := fun z => hdn (by rw [z]; simp)
            have hnt : d ≠ r.tp := fun z => hdn (by rw [z]; simp)
            exact ⟨_, _, true, _, _, rfl, e12 _ _ (by rw [upd_ne hnk]; exact e10 _ _ (by rw [upd_ne hnt]; exact e9 _ _ hd8)), hH11.mn e12, R3, (fun _ => by
              cases hb2 : b2 with
              | true => exact Nat.lt_trans hless (hb21 hb2)
              | false => rw [(hb20 hb2).1] at hless; exact (hb20 hb2).1 ▸ hless), fun h => nomatch h⟩
          · have hnb := of_decide_eq_false hb
            refine ⟨T2, Pt2, b2, _, _, rfl, e8 _ _ hd7, hH7.mn e8, R2, hb21, fun h => ?_⟩
            obtain ⟨h1, h2, h3, h4⟩ := hb20 h
            refine ⟨h1, h2, h3, fun e' he' hne' => ?_⟩
            rw [htk] at he'
            rcases List.mem_append.mp he' with he' | he'
            · exact h4 e' he' hne'
            · rw [List.mem_singleton.mp he']
              rw [h1] at hnb
              apply Decidable.byContradiction
              intro z
              refine hnb fun g hg => ?_
              apply Decidable.byContradiction
              intro z2
              exact z ⟨g, hg, by omega⟩
      · rintro od σ H5 ⟨T2, Pt2, b2, y4, y5, rfl, hd5, hH5, R2, hb21, hb20⟩
        refine ⟨T2, Pt2, b2, _, _, _, _, rfl, ⟨⟨?_, hH4.q.nn, hH5.ne, ?_, ?_, ?_, hH4.q.ob, hH4.q.dl, hH5.kP⟩, hH4.rw⟩, R2, hb21, fun h => ?_⟩
        · intro b o hb
          by_cases z : b = d
          · rw [z, hd2] at hb
            rw [z, upd_same]
            exact hb
          · rw [upd_ne z]
            exact hH5.sB _ _ (cB z hb)
        · rw [upd_ne (fun z => hdn (by rw [← z]; simp))]; exact hH5.hF
        · rw [upd_ne (fun z => hdn (by rw [← z]; simp))]; exact hH5.hT
        · rw [upd_ne (fun z => hdn (by rw [← z]; simp))]; exact hH5.hP
        · obtain ⟨h1, h2, h3, h4⟩ := hb20 h
          refine ⟨h1, h2, fun f' hf' => ?_⟩
          rw [List.take_succ, hf] at hf'
          rcases List.mem_append.mp hf' with hf' | hf'
          · exact h3 f' hf'
          · rw [(Option.some.inj (Option.mem_toList.mp hf')).symm, hgd]
            rw [List.take_length] at h4
            exact h4
    · rintro σ H4 ⟨T1, Pt1, b1, y2, y3, y4, y5, rfl, hH4, R1, hb1, hb0⟩
      refine ⟨_, rfl, q H4 T1 Pt1 b1 (hH4.down eB hH3) R1 hb1 fun h => ?_⟩
      obtain ⟨h1, h2, h3⟩ := hb0 h
      refine ⟨h1, h2, fun a g t x ha hx hne => ?_⟩
      rw [hlenF, List.take_length] at h3
      exact h3 _ (lkA_some ha) (t, x) (lkA_some hx) hne
end
end Wd
set_option Elab.async false
set_option linter.all false
set_option maxRecDepth 100000
set_option maxHeartbeats 4000000
/-! the reach: to_askers, go_on, end_by -/
namespace Wd
open PySem PySem.Spec PyProof.Rows L2
def RSyn (w : Nat → Nat → Option Int) (D : List (Option Nat)) (F T : List (Nat × Int)) : Prop := ∀ a t e, dl D a = some t → lkA T t = some e → ∃ x, w a t = some x ∧ lkA F a = some (e - x)
section
variable {P : Program} {w : World} {K : Frg} {mg : Str → Option Value} {base : Heap}
/-- what stands at a reach's method's entry -/
structure RIn (K : Frg) (r : RSt) (B H : Hp) (F T : List (Nat × Int)) (Pt : List (Nat × Nat)) (cs : Nat → Nat) (m : Nat) (u p : Nat → Int) (Wm : Int) : Prop where
  h : RHp K r B H F T Pt
  g : RGood r
  m1 : m ≤ 1000
  c : RCx (wOf r.rows) cs m r.s r.D u p Wm
  i : RI (wOf r.rows) m r.s r.D p Wm F T Pt
theorem RIn.mn {r : RSt} {B H H1 : Hp} {F T : List (Nat × Int)} {Pt : List (Nat × Nat)} {cs : Nat → Nat} {m : Nat} {u p : Nat → Int} {Wm : Int} (h : RIn K r B H F T Pt cs m u p Wm) (e : Same H H1) : RIn K r B H1 F T Pt cs m u p Wm := ⟨h.h.mn e, h.g, h.m1, h.c, h.i⟩
def spAskers (K : Frg) : Sp := fun vs H Q _ => ∃ (r : RSt) (B : Hp) (F T : List (Nat × Int)) (Pt : List (Nat × Nat)) (cs : Nat → Nat) (m : Nat) (u p : Nat → Int) (Wm : Int), vs = [.ref r.a] ∧ RIn K r B H F T Pt cs m u p Wm ∧
  ∀ H' F', RHp K r B H' F' T Pt → RI (wOf r.rows) m r.s r.D p Wm F' T Pt → RSyn (wOf r.rows) r.D F' T → Q .non H'
theorem sc_Reach_to_askers : FnScope N_Reach_to_askers ["self"] (defScope s_Reach_to_askers) := ⟨rfl, rfl, rfl, by decide +kernel, rfl, by decide +kernel, by decide +kernel⟩
theorem pt_dinN {σ : L2.St} {H : Hp} {ta tb : TE} {a : Addr} {k : Option Nat} {kvs : List (Key × V)} {b : Bool} (hb : Pv tb σ H (vo k)) (ha : Pv ta σ H (.ref a)) (h : RdD H a kvs) (hv : (match k with | none => false | some t => (valV kvs (NK t)).isSome) = b) : Pv (tDInN tb ta) σ H (.bl b) :=
  fun H1 e Q q => hb H1 e _ fun H2 e2 => ha H2 (e.trans e2) _ fun H3 e3 => by
    cases k with
    | none => exact .inr ⟨a, kvs, rfl, rfl, Le.of (e.trans (e2.trans e3)) _ _ h, by rw [show false = b from hv]; exact q H3 (e2.trans e3)⟩
    | some t => exact .inl ⟨a, _, rfl, dget_le (k := NK t) (Le.of (e.trans (e2.trans e3))) ⟨kvs, h, rfl⟩, by rw [show (valV kvs (NK t)).isSome = b from hv]; exact q H3 (e2.trans e3)⟩
theorem ok_Reach_to_askers (G : Gx K mg) : KnownM P w K mg base CX0 1 (He.ga K "Reach") "to_askers" ["self"] (spAskers K) := by
  have sc := sc_Reach_to_askers
  refine G.f_Reach_to_askers.known sc (fun _ _ _ _ _ _ us hl => match us, hl with | [_], _ => rfl) (fun vs H Q E h => ?_) (fun cdv A outer s H vs Q E hr h => ?_)
  · obtain ⟨r, B, F, T, Pt, cs, m, u, p, Wm, rfl, _⟩ := h; rfl
  · obtain ⟨r, B, F, T, Pt, cs, m, u, p, Wm, rfl, ⟨hH, hG, hm, C, R⟩, q⟩ := h
    refine ⟨_, (pss_one (ps_for PassesOwn.never rfl (pi_enum rfl G.n_enumerate (pa_cons (pe_fld (pv 0) rfl) pa_nil)) (pg_tup rfl (pgs_cons (pg_name (i := 1) sc.nd rfl (Or.inl rfl)) (pgs_cons (pg_name (i := 2) sc.nd rfl (Or.inl rfl)) pgs_nil)))
      (pss_one (ps_if (pt_cmp (pc_dinN (hu_of hr) (pv 2) (pe_fld (pv 0) rfl)))
      (pss_one (ps_dput (hu_of hr) (pe_fld (pv 0) rfl) (pv 1) (pe_op op_sub (pe_dget (hu_of hr) (pe_fld (pv 0) rfl) (pv 2) (fun _ _ => rfl)) (pe_dget (hu_of hr) (pe_ix ix_list (pe_fld (pv 0) rfl) (pv 1) (fun _ _ => rfl)) (pv 2) (fun _ _ => rfl))) rfl)) pss_nil)))), ?_⟩
    have hlD := hG.len
    have hl1 := hG.l1
    refine w_forE (fun Q q => val_fld (val_var rfl) hH.q.obH G.c_Reach G.a_Reach_dealt rfl _ q) hH.q.dlH (fun k σ H' => ∃ F' y1 y2, σ = [some (.ref r.a), y1, y2] ∧ RHp K r B H' F' T Pt ∧ RI (wOf r.rows) m r.s r.D p Wm F' T Pt ∧ ∀ a t e, a < k → dl r.D a = some t → lkA T t = some e → ∃ x, wOf r.rows a t = some x ∧ lkA F' a = some (e - x)) ⟨F, _, _, rfl, hH, R, fun a t e h => absurd h (Nat.not_lt_zero _)⟩ (fun k σ H' _ ⟨F', _, _, _, h, _⟩ => h.q.dlH) ?_ ?_
    · rintro k x σ H1 H2 hk ⟨F1, y1, y2, rfl, hH1, R1, hs⟩ e2
      have hH2 := hH1.mn e2
      rw [List.getElem?_map] at hk
      cases hk' : r.D[k]? with
      | none => rw [hk'] at hk; cases hk
      | some dk0 =>
      rw [hk'] at hk
      cases hk
      have hdl : dl r.D k = dk0 := by unfold dl; rw [hk']; rfl
      have hkl : k < r.D.length := (List.getElem?_eq_some_iff.mp hk').1
      have hTv : ∀ t, valV (dk T) (NK t) = (lkA T t).map V.int := fun t => dg_val (e := V.int)
      refine ss_if (b := match dk0 with | none => false | some t => (lkA T t).isSome) (pt_b (pt_dinN (k := dk0) (pv_var rfl) (pv_fld (pv_var rfl) hH2.q.obH G.c_Reach G.a_Reach_taken rfl) (.inl hH2.q.hT) ?_)) (fun H3 e3 hb => ?_) fun H3 e3 hb => ?_
      · cases dk0 with
        | none => rfl
        | some t => dsimp only; rw [hTv]; cases lkA T t <;> rfl
      · cases dk0 with
        | none => exact nomatch hb
        | some t =>
        dsimp only at hb
        cases hT : lkA T t with
        | none => rw [hT] at hb; exact nomatch hb
        | some e =>
        have hH3 := hH2.mn e3
        obtain ⟨ds, hds, hdsl, hdg⟩ := rw_get hH3.rw
        have hrow : r.rows[k]? = some (r.rows[k]'(by omega)) := List.getElem?_eq_getElem _
        obtain ⟨d, hd1, hd2⟩ := hdg _ _ hrow
        have hw := C.du.eq k t hdl
        have hw' : lkA (r.rows[k]'(by omega)) t = some (u k + p t) := by unfold wOf at hw; rw [hrow] at hw; exact hw
        have hlF : F1.length ≤ r.D.length := by
          have h1 := nd_len (m := r.D.length) R1.nF fun b hb => by
            obtain ⟨f, hf, rfl⟩ := List.mem_map.mp hb
            exact (R1.F_len C (lkA_mem R1.nF hf)).1
          rwa [List.length_map] at h1
        refine ss_dput (k := NK k) (v := .int (e - (u k + p t))) (pv_sub (pv_dget (k := NK t) (pv_fld (pv_var rfl) hH3.q.obH G.c_Reach G.a_Reach_taken rfl) (pv_var rfl) (.inl hH3.q.hT) (by rw [hTv, hT]; rfl)) (pv_dget (k := NK t) (pv_ixL (pv_fld (pv_var rfl) hH3.q.obH G.c_Reach G.a_Reach_rows rfl) (pv_var rfl) (SqL.of (hH3.q.sB _ _ hds)) (atI_nat hd1)) (pv_var rfl) (.inl (hH3.q.sB _ _ hd2)) (by rw [dk_dg, dg_val, hw']; rfl))) (pv_fld (pv_var rfl) hH3.q.obH G.c_Reach G.a_Reach_freed rfl) (pv_var rfl) hH3.q.hF (by rw [dk_dg, dg_len, sizeLine_eq]; omega) fun H4 e4 => ?_
        have ep : putK (dk F1) (NK k) (V.int (e - (u k + p t))) = dk (putA F1 k (e - (u k + p t))) := dg_put (e := V.int)
        rw [ep]
        refine ⟨_, _, _, rfl, ⟨(hH3.mn e4).q.putF, hH3.rw⟩, R1.sync C hdl hT hw, fun a t' e' ha hda hta => ?_⟩
        by_cases hak : a = k
        · subst hak
          rw [hdl] at hda
          cases hda
          rw [hT] at hta
          cases hta
          exact ⟨_, hw, by rw [lkA_put, if_pos rfl]⟩
        · obtain ⟨x, h1, h2⟩ := hs a t' e' (by omega) hda hta
          exact ⟨x, h1, by rw [lkA_put, if_neg hak]; exact h2⟩
      · refine ⟨F1, _, _, rfl, hH2.mn e3, R1, fun a t' e' ha hda hta => ?_⟩
        by_cases hak : a = k
        · subst hak
          rw [hdl] at hda
          subst hda
          dsimp only at hb
          rw [hta] at hb
          exact nomatch hb
        · exact hs a t' e' (by omega) hda hta
    · rintro σ H1 ⟨F1, y1, y2, rfl, hH1, R1, hs⟩
      refine q H1 F1 hH1 R1 fun a t e hda hta => hs a t e ?_ hda hta
      rw [List.length_map]
      exact dl_len hda
/-! ### go_on -/
def spGo (K : Frg) : Sp := fun vs H Q _ => ∃ (r : RSt) (B : Hp) (F T : List (Nat × Int)) (Pt : List (Nat × Nat)) (cs : Nat → Nat) (m : Nat) (u p : Nat → Int) (Wm : Int), vs = [.ref r.a] ∧ RIn K r B H F T Pt cs m u p Wm ∧ RSyn (wOf r.rows) r.D F T ∧
  ∀ H' F' T' Pt', RHp K r B H' F' T' Pt' → RI (wOf r.rows) m r.s r.D p Wm F' T' Pt' → RFix (wOf r.rows) r.D F' T' → Q .non H'
theorem sc_Reach_go_on : FnScope N_Reach_go_on ["self"] (defScope s_Reach_go_on) := ⟨rfl, rfl, rfl, by decide +kernel, rfl, by decide +kernel, by decide +kernel⟩
theorem ok_Reach_go_on (G : Gx K mg) : KnownM P w K mg base CX0 2 (He.ga K "Reach") "go_on" ["self"] (spGo K) := by
  have sc := sc_Reach_go_on
  have k_Reach_to_things := ok_Reach_to_things (P := P) (w := w) (base := base) G
  have k_Reach_to_askers := ok_Reach_to_askers (P := P) (w := w) (base := base) G
  refine G.f_Reach_go_on.known sc (fun _ _ _ _ _ _ us hl => match us, hl with | [_], _ => rfl) (fun vs H Q E h => ?_) (fun cdv A outer s H vs Q E hr h => ?_)
  · obtain ⟨r, B, F, T, Pt, cs, m, u, p, Wm, rfl, _⟩ := h; rfl
  · obtain ⟨r, B, F, T, Pt, cs, m, u, p, Wm, rfl, ⟨hH, hG, hm, C, R⟩, hs, q⟩ := h
    refine ⟨_, (pss_one (ps_while PassesOwn.never (pt_val (pe_knM0 k_Reach_to_things G.c_Reach (hr.mono (by decide)) pass0 (pv 0)))
      (pss_one (ps_expr (pe_knM0 k_Reach_to_askers G.c_Reach (hr.mono (by decide)) pass0 (pv 0)))))), ?_⟩
    refine w_while (fun n σ H' => ∃ F' T' Pt', σ = [some (.ref r.a)] ∧ RHp K r B H' F' T' Pt' ∧ RI (wOf r.rows) m r.s r.D p Wm F' T' Pt' ∧ RSyn (wOf r.rows) r.D F' T' ∧ n = rMeas m p Wm T') (rMeas m p Wm T) ⟨F, T, Pt, rfl, hH, R, hs, rfl⟩ ?_
    rintro n σ H1 ⟨F1, T1, Pt1, rfl, hH1, R1, hs1, rfl⟩
    refine ⟨_, rfl, r.a, r.dx, r.fs, rfl, hH1.q.obH, rfl, ?_⟩
    refine ⟨r, B, F1, T1, Pt1, cs, m, u, p, Wm, rfl, hH1, hG, hm, C, R1, fun H2 T2 Pt2 b hH2 R2 hb1 hb0 => ⟨b, rfl, ?_⟩⟩
    cases b with
    | true =>
      rw [if_pos rfl]
      refine ⟨fun σ H' => ∃ F' T' Pt', σ = [some (.ref r.a)] ∧ RHp K r B H' F' T' Pt' ∧ RI (wOf r.rows) m r.s r.D p Wm F' T' Pt' ∧ RSyn (wOf r.rows) r.D F' T' ∧ rMeas m p Wm T' < rMeas m p Wm T1, fun σ2 H3 ⟨F3, T3, Pt3, h1, h2, h3, h4, h5⟩ => ⟨_, h5, F3, T3, Pt3, h1, h2, h3, h4, rfl⟩, ?_⟩
      refine ⟨_, rfl, r.a, r.dx, r.fs, rfl, hH2.q.obH, rfl, ?_⟩
      exact ⟨r, B, F1, T2, Pt2, cs, m, u, p, Wm, rfl, ⟨hH2, hG, hm, C, R2⟩, fun H3 F3 hH3 R3 hs3 => ⟨F3, T2, Pt2, rfl, hH3, R3, hs3, hb1 rfl⟩⟩
    | false =>
      rw [if_neg (fun h => nomatch h)]
      obtain ⟨rfl, rfl, hf⟩ := hb0 rfl
      exact q H2 F1 T2 Pt2 hH2 R2 ⟨hs1, hf⟩
/-! ### end_by -/
def EnV (H0 H : Hp) (v : V) : Option (Nat × Option Nat) → Prop
  | none => v = .non
  | some e => ∃ q, v = .ref q ∧ H q = some (.tup [vn e.1, vo e.2])
theorem EnV.mn {H0 H H1 : Hp} {v : V} {e : Option (Nat × Option Nat)} (s : Same H H1) (h : EnV H0 H v e) : EnV H0 H1 v e := by
  cases e with
  | none => exact h
  | some e => obtain ⟨q, h1, h2⟩ := h; exact ⟨q, h1, s _ _ h2⟩
def spEnd (K : Frg) : Sp := fun vs H Q _ => ∃ (r : RSt) (B : Hp) (F T : List (Nat × Int)) (Pt : List (Nat × Nat)) (cs : List Nat) (u p : Nat → Int) (Wm : Int) (la : Addr), vs = [.ref r.a, .ref la] ∧ RIn K r B H F T Pt (csf cs) cs.length u p Wm ∧ SqL K H la (leftL cs r.D) ∧
  ∀ v H' M e, Same H H' → EnV H H' v e → REn (csf cs) r.D F T Pt M e → Q v H'
theorem sc_Reach_end_by : FnScope N_Reach_end_by ["self", "left"] (defScope s_Reach_end_by) := ⟨rfl, rfl, rfl, by decide +kernel, rfl, by decide +kernel, by decide +kernel⟩
/-- the last step so far -/
def EnOk (cs : Nat → Nat) (D : List (Option Nat)) (F T : List (Nat × Int)) (Pt : List (Nat × Nat)) (M : Int) : Option (Nat × Option Nat) → Prop
  | none => M = 0
  | some (a, none) => lkA F a = some M ∧ 0 < M
  | some (a, some t) => lkA T t = some M ∧ lkA Pt t = some a ∧ D.count (some t) < cs t ∧ 0 < M
theorem same_unlock {H H2 : Hp} {d : Addr} {u v : HO} (hd : H d = some u) (e : Same (upd H d v) H2) : Same H (upd H2 d u) := fun b o h => by
  by_cases z : b = d
  · rw [z, hd] at h; rw [z, upd_same]; exact h
  · rw [upd_ne z]; exact e _ _ (by rw [upd_ne z]; exact h)
theorem lock_at {H : Hp} {d b : Addr} {u v o : HO} (hd : H d = some u) (hb : H b = some o) (hne : o ≠ u) : (upd H d v) b = some o := by
  rw [upd_ne (ne_of hb hd hne)]; exact hb
theorem lock_l {H : Hp} {d a : Addr} {u v : HO} {xs : List V} (hd : H d = some u) (hn : ∀ xs, u ≠ .lst xs) (hn2 : ∀ o xs, u ≠ .frz o (.lst xs)) (h : SqL K H a xs) : SqL K (upd H d v) a xs := by
  rcases h with (h | ⟨o, h⟩) | h
  · exact .inl (.inl (lock_at hd h (Ne.symm (hn xs))))
  · exact .inl (.inr ⟨o, lock_at hd h (Ne.symm (hn2 o xs))⟩)
  · exact .inr h
theorem ok_Reach_end_by (G : Gx K mg) : KnownM P w K mg base CX0 1 (He.ga K "Reach") "end_by" ["self", "left"] (spEnd K) := by
  have sc := sc_Reach_end_by
  refine G.f_Reach_end_by.known sc (fun _ _ _ _ _ _ us hl => match us, hl with | [_, _], _ => rfl) (fun vs H Q E h => ?_) (fun cdv A outer s H vs Q E hr h => ?_)
  · obtain ⟨r, B, F, T, Pt, cs, u, p, Wm, la, rfl, _⟩ := h; rfl
  · obtain ⟨r, B, F, T, Pt, cs, u, p, Wm, la, rfl, ⟨hH, hG, hm, C, R⟩, hla, q⟩ := h
    refine ⟨_, (pss_cons (ps_set (i := 2) sc.nd rfl (Or.inl rfl) pe_int)
      (pss_cons (ps_set (i := 3) sc.nd rfl (Or.inl rfl) pe_non)
      (pss_cons (ps_lock (ps_for PassesOwn.never rfl (pi_items (pe_fld (pv 0) rfl)) (pg_tup rfl (pgs_cons (pg_name (i := 4) sc.nd rfl (Or.inl rfl)) (pgs_cons (pg_name (i := 5) sc.nd rfl (Or.inl rfl)) pgs_nil)))
      (pss_one (ps_if (pt_cmpR op_gt (pv 5) (pv 2) (nomark _))
      (pss_cons (ps_set (i := 2) sc.nd rfl (Or.inl rfl) (pv 5))
      (pss_one (ps_set (i := 3) sc.nd rfl (Or.inl rfl) (pe_tup (pa_cons (pv 4) (pa_cons pe_non pa_nil)))))) pss_nil))))
      (pss_cons (ps_lock (ps_for PassesOwn.never rfl (pi_items (pe_fld (pv 0) rfl)) (pg_tup rfl (pgs_cons (pg_name (i := 6) sc.nd rfl (Or.inl rfl)) (pgs_cons (pg_name (i := 5) sc.nd rfl (Or.inl rfl)) pgs_nil)))
      (pss_one (ps_if (PW.pt (pw_and (pt_cmpR op_gt (pe_ix ix_list (pv 1) (pv 6) (fun _ _ => rfl)) pe_int (nomark _)) (pw_and1 (pt_cmpR op_gt (pv 5) (pv 2) (nomark _)))))
      (pss_cons (ps_set (i := 2) sc.nd rfl (Or.inl rfl) (pv 5))
      (pss_one (ps_set (i := 3) sc.nd rfl (Or.inl rfl) (pe_tup (pa_cons (pe_dget (hu_of hr) (pe_fld (pv 0) rfl) (pv 6) (fun _ _ => rfl)) (pa_cons (pv 6) pa_nil)))))) pss_nil))))
      (pss_one (ps_ret (pv 3))))))), ?_⟩
    refine ss_set pv_c fun H1 e1 => ?_
    refine ss_set pv_c fun H2 e2 => ?_
    have e02 := e1.trans e2
    have hH2 := hH.mn e02
    have hla2 := SqL.mn e02 hla
    dsimp only
    refine st_seq ?_
    refine w_lockI (d := r.fp) (l := F) hH2.q.hF (fun od => pv_fld (pv_var rfl) (lock_at hH2.q.hF hH2.q.obH (fun z => by cases z)) G.c_Reach G.a_Reach_freed rfl)
      (fun od k σ H' => ∃ M e v y4 y5 y6, σ = [some (.ref r.a), some (.ref la), some (.int M), some v, y4, y5, y6] ∧ Same (upd H2 r.fp (.frz od (.dK (dk F)))) H' ∧ EnV H H' v e ∧ (∀ f ∈ F.take k, f.2 ≤ M) ∧ 0 ≤ M ∧ EnOk (csf cs) r.D F T Pt M e) (fun od H3 e3 => ⟨0, none, _, _, _, _, rfl, e3, rfl, (fun f hf => by simp at hf), Int.le_refl _, rfl⟩) (fun od k σ H' ⟨_, _, _, _, _, _, _, h, _⟩ => h _ _ upd_same) ?_ ?_
    · rintro od k f σ H3 H4 hf ⟨M, e, v, y4, y5, y6, rfl, e3, hv, hall, hM, hen⟩ e4
      have htk : F.take (k + 1) = F.take k ++ [f] := by rw [List.take_succ, hf]; rfl
      refine ss_if (b := decide (M < f.2)) (pt_t (pv_cmp (pv_var rfl) (pv_var rfl) rfl)) (fun H5 e5 hb => ?_) fun H5 e5 hb => ?_
      · have hlt := of_decide_eq_true hb
        refine ss_set (pv_var rfl) fun H6 e6 => ?_
        refine Wd.st_set (et_tup (pva_2 (pv_var rfl) pv_c)) fun t H7 ht e7 h7 => ?_
        refine ⟨f.2, some (f.1, none), _, _, _, _, rfl, e3.trans (e4.trans (e5.trans (e6.trans e7))), ⟨t, rfl, h7⟩, fun f' hf' => ?_, by omega, lkA_mem R.nF (List.mem_of_getElem? hf), by omega⟩
        rw [htk] at hf'
        rcases List.mem_append.mp hf' with hf' | hf'
        · have := hall f' hf'; omega
        · rw [List.mem_singleton.mp hf']; exact Int.le_refl _
      · have hlt := of_decide_eq_false hb
        refine ⟨M, e, v, _, _, _, rfl, e3.trans (e4.trans e5), hv.mn (e4.trans e5), fun f' hf' => ?_, hM, hen⟩
        rw [htk] at hf'
        rcases List.mem_append.mp hf' with hf' | hf'
        · exact hall f' hf'
        · rw [List.mem_singleton.mp hf']; omega
    · rintro od σ H3 ⟨M, e, v, y4, y5, y6, rfl, e3, hv, hall, hM, hen⟩
      rw [List.take_length] at hall
      have e04 : Same H2 (upd H3 r.fp (.dK (dk F))) := same_unlock hH2.q.hF e3
      have hv4 : EnV H (upd H3 r.fp (.dK (dk F))) v e := by
        cases e with
        | none => exact hv
        | some e =>
          obtain ⟨t, h1, h2⟩ := hv
          have h3 := e3 _ _ (upd_same (H := H2) (a := r.fp) (o := .frz od (.dK (dk F))))
          exact ⟨t, h1, by rw [upd_ne (ne_of h2 h3 (fun z => by cases z))]; exact h2⟩
      have hH4 := hH2.mn e04
      have hla4 := SqL.mn e04 hla2
      dsimp only
      refine st_seq ?_
      refine w_lockI (d := r.tp) (l := T) hH4.q.hT (fun od => pv_fld (pv_var rfl) (lock_at hH4.q.hT hH4.q.obH (fun z => by cases z)) G.c_Reach G.a_Reach_taken rfl)
        (fun od k σ H' => ∃ M e v y4 y5 y6, σ = [some (.ref r.a), some (.ref la), some (.int M), some v, y4, y5, y6] ∧ Same (upd (upd H3 r.fp (.dK (dk F))) r.tp (.frz od (.dK (dk T)))) H' ∧ EnV H H' v e ∧ (∀ f ∈ F, f.2 ≤ M) ∧ (∀ g ∈ T.take k, r.D.count (some g.1) < csf cs g.1 → g.2 ≤ M) ∧ 0 ≤ M ∧ EnOk (csf cs) r.D F T Pt M e) (fun od H5 e5 => ⟨M, e, v, _, _, _, rfl, e5, ?_, hall, (fun f hf => by simp at hf), hM, hen⟩) (fun od k σ H' ⟨_, _, _, _, _, _, _, h, _⟩ => h _ _ upd_same) ?_ ?_
      · cases e with
        | none => exact hv4
        | some e =>
          obtain ⟨t, h1, h2⟩ := hv4
          exact ⟨t, h1, e5 _ _ (lock_at hH4.q.hT h2 (fun z => by cases z))⟩
      · rintro od k g σ H5 H6 hg ⟨M, e, v, y4, y5, y6, rfl, e5, hv, hallF, hall, hM, hen⟩ e6
        have htk : T.take (k + 1) = T.take k ++ [g] := by rw [List.take_succ, hg]; rfl
        have hgT := lkA_mem R.nT (List.mem_of_getElem? hg)
        have hgm := R.tm _ _ hgT
        have e56 := e5.trans e6
        have hla6 : SqL K H6 la (leftL cs r.D) := SqL.mn e56 (lock_l hH4.q.hT (fun xs z => by cases z) (fun o xs z => by cases z) hla4)
        have o6 : H6 r.a = some (.ins (He.ga K "Reach") r.dx r.fs) := e56 _ _ (lock_at hH4.q.hT hH4.q.obH (fun z => by cases z))
        have k6 : H6 r.kp = some (.dK (dg vn Pt)) := e56 _ _ (by rw [upd_ne (Ne.symm hH4.q.ne.2.2)]; exact hH4.q.hP)
        refine ss_if (b := decide (r.D.count (some g.1) < csf cs g.1) && decide (M < g.2)) (pt_and (pt_t (pv_cmp (pv_ixL (pv_var rfl) (pv_var rfl) hla6 (atI_nat (leftL_get hgm))) pv_c (decide_eq_decide.mpr (by omega)))) fun _ => pt_t (pv_cmp (pv_var rfl) (pv_var rfl) rfl)) (fun H7 e7 hb => ?_) fun H7 e7 hb => ?_
        · rw [Bool.and_eq_true_iff] at hb
          have hc := of_decide_eq_true hb.1
          have hlt := of_decide_eq_true hb.2
          obtain ⟨a, g0, x, hP, _⟩ := R.tP _ _ hgT
          refine ss_set (pv_var rfl) fun H8 e8 => ?_
          refine Wd.st_set (et_tup (pva_2 (pv_dget (k := NK g.1) (v := vn a) (pv_fld (pv_var rfl) ((e7.trans e8) _ _ o6) G.c_Reach G.a_Reach_takers rfl) (pv_var rfl) (.inl ((e7.trans e8) _ _ k6)) (by rw [dg_val, hP]; rfl)) (pv_var rfl))) fun t H9 ht e9 h9 => ?_
          refine ⟨g.2, some (a, some g.1), _, _, _, _, rfl, e56.trans (e7.trans (e8.trans e9)), ⟨t, rfl, h9⟩, (fun f hf => by have := hallF f hf; omega), fun g' hg' hc' => ?_, by omega, hgT, hP, hc, by omega⟩
          rw [htk] at hg'
          rcases List.mem_append.mp hg' with hg' | hg'
          · have := hall g' hg' hc'; omega
          · rw [List.mem_singleton.mp hg']; exact Int.le_refl _
        · refine ⟨M, e, v, _, _, _, rfl, e56.trans e7, hv.mn (e6.trans e7), hallF, fun g' hg' hc' => ?_, hM, hen⟩
          rw [htk] at hg'
          rcases List.mem_append.mp hg' with hg' | hg'
          · exact hall g' hg' hc'
          · rw [List.mem_singleton.mp hg'] at hc' ⊢
            rw [decide_eq_true hc', Bool.true_and] at hb
            have := of_decide_eq_false hb
            omega
      · rintro od σ H5 ⟨M, e, v, y4, y5, y6, rfl, e5, hv, hallF, hall, hM, hen⟩
        rw [List.take_length] at hall
        refine ⟨_, rfl, q v _ M e (e02.trans (e04.trans (same_unlock hH4.q.hT e5))) ?_ ⟨fun a g h => hallF _ (lkA_some h), fun t g h hc => hall _ (lkA_some h) hc, hM, ?_⟩⟩
        · cases e with
          | none => exact hv
          | some e =>
            obtain ⟨t, h1, h2⟩ := hv
            have h3 := e5 _ _ (upd_same (H := upd H3 r.fp (.dK (dk F))) (a := r.tp) (o := .frz od (.dK (dk T))))
            exact ⟨t, h1, by rw [upd_ne (ne_of h2 h3 (fun z => by cases z))]; exact h2⟩
        · exact hen
end
end Wd
set_option Elab.async false
set_option linter.all false
set_option maxRecDepth 100000
set_option maxHeartbeats 4000000
/-! the reach: its start, the way; best_way, dealt_best -/
namespace Wd
open PySem PySem.Spec PyProof.Rows L2
/-- us stands for a way -/
def WayT (H : Hp) (us : List V) (way : List (Nat × Option Nat)) : Prop := Paired (fun u s => ∃ q, u = V.ref q ∧ H q = some (.tup [vn s.1, vo s.2])) us way
theorem WayT.mn {H H1 : Hp} {us : List V} {way : List (Nat × Option Nat)} (e : Same H H1) (h : WayT H us way) : WayT H1 us way := Paired.mapP h fun u s ⟨q, h1, h2⟩ => ⟨q, h1, e _ _ h2⟩
section
variable {P : Program} {w : World} {K : Frg} {mg : Str → Option Value} {base : Heap}
theorem ss_ins {D : Ends} {σ : L2.St} {H : Hp} {te : TE} {i : Nat} {p : Addr} {xs vs : List V} (ho : σ[i]? = some (some (.ref p))) (hp : H p = some (.lst xs)) (hl : xs.length < sizeLine) (ht : EvT te σ H vs) (q : ∀ t H1, H t = none → Same H H1 → H1 t = some (.tup vs) → D.nx σ (upd H1 p (.lst (.ref t :: xs)))) :
    tDrop (tBM K "list" (fun x vs H Q => ∃ (l : Addr) (xs : List V) (i : Int) (y : V), x = .ref l ∧ vs = [.int i, y] ∧ H l = some (.lst xs) ∧ xs.length < sizeLine ∧ 0 ≤ i ∧ i < 2 ^ 63 ∧ Q .non (upd H l (.lst (xs.take i.toNat ++ [y] ++ xs.drop i.toNat)))) (tVar i) (tCons (tC (.int 0)) (tCons te tNil))) D σ H :=
  ⟨_, ho, .inl ⟨rfl, xs, SqL.of hp⟩, ht _ fun t H1 hn e h1 => ⟨p, xs, 0, .ref t, rfl, rfl, e _ _ hp, hl, by decide, by decide, q t H1 hn e h1⟩⟩
def spWayTo (K : Frg) : Sp := fun vs H Q _ => ∃ (r : RSt) (B : Hp) (F T : List (Nat × Int)) (Pt : List (Nat × Nat)) (cs : List Nat) (u p : Nat → Int) (Wm M : Int) (q0 : Addr) (a : Nat) (y : Option Nat), vs = [.ref r.a, .ref q0] ∧ RIn K r B H F T Pt (csf cs) cs.length u p Wm ∧ RFix (wOf r.rows) r.D F T ∧ H q0 = some (.tup [vn a, vo y]) ∧ REn (csf cs) r.D F T Pt M (some (a, y)) ∧
  ∀ p' H' us way, H p' = none → Same H H' → H' p' = some (.lst us) → WayT H' us way → WayOk (wOf r.rows) (csf cs) cs.length r.s r.D (lkA F) (lkA T) M p way → Q (.ref p') H'
theorem sc_Reach_way_to : FnScope N_Reach_way_to ["self", "end"] (defScope s_Reach_way_to) := ⟨rfl, rfl, rfl, by decide +kernel, rfl, by decide +kernel, by decide +kernel⟩
theorem dec_ne_n {n m : Nat} : (!decide (vn n = vn m)) = decide (n ≠ m) := by
  rw [dec_nn, ← decide_not]
theorem ok_Reach_way_to (G : Gx K mg) : KnownM P w K mg base CX0 1 (He.ga K "Reach") "way_to" ["self", "end"] (spWayTo K) := by
  have sc := sc_Reach_way_to
  refine G.f_Reach_way_to.known sc (fun _ _ _ _ _ _ us hl => match us, hl with | [_, _], _ => rfl) (fun vs H Q E h => ?_) (fun cdv A outer s H vs Q E hr h => ?_)
  · obtain ⟨r, B, F, T, Pt, cs, u, p, Wm, M, q0, a, y, rfl, _⟩ := h; rfl
  · obtain ⟨r, B, F, T, Pt, cs, u, p, Wm, M, q0, a, y, rfl, ⟨hH, hG, hm, C, R⟩, X, hq0, Z, q⟩ := h
    refine ⟨_, (pss_cons (ps_set (i := 2) sc.nd rfl (Or.inl rfl) (pe_lst (pa_cons (pv 1) pa_nil)))
      (pss_cons (ps_while PassesOwn.never (pt_cmpR op_ne (pe_ix ix_tup (pe_ix ix_list (pv 2) pe_int (fun _ _ => rfl)) pe_int (fun _ _ => rfl)) (pe_fld (pv 0) rfl) (nomark _))
      (pss_cons (ps_set (i := 3) sc.nd rfl (Or.inl rfl) (pe_ix ix_list (pe_fld (pv 0) rfl) (pe_ix ix_tup (pe_ix ix_list (pv 2) pe_int (fun _ _ => rfl)) pe_int (fun _ _ => rfl)) (fun _ _ => rfl)))
      (pss_one (ps_expr (pe_bm PySem.F.plainAttrs_list PySem.F.slot_list_insert PySem.F.type_list_insert mt_insert (pv 2) (pa_cons pe_int (pa_cons (pe_tup (pa_cons (pe_dget (hu_of hr) (pe_fld (pv 0) rfl) (pv 3) (fun _ _ => rfl)) (pa_cons (pv 3) pa_nil))) pa_nil)))))))
      (pss_one (ps_ret (pv 2))))), ?_⟩
    obtain ⟨τ, c, hc, hτ⟩ := R.rk
    refine sl_set (el_lst (pva_1 (pv_var rfl)) (by rw [sizeLine_eq]; show 1 ≤ _; decide)) fun pl H1 hpl e1 h1 => ?_
    dsimp only
    refine st_seq ?_
    refine w_while (fun n σ H' => ∃ b x rest us y3, σ = [some (.ref r.a), some (.ref q0), some (.ref pl), y3] ∧ Same H H' ∧ H' pl = some (.lst us) ∧ WayT H' us ((b, x) :: rest) ∧ WI (wOf r.rows) (csf cs) cs.length r.s r.D F T M p τ b x rest ∧ (b ≠ r.s → ∃ t, dl r.D b = some t ∧ n = nAbv cs.length p T τ t + 1)) (match dl r.D a with | none => 0 | some t => nAbv cs.length p T τ t + 1) ?_ ?_
    · have hW := WI.begin C R X Z hτ
      refine ⟨a, y, [], [.ref q0], _, rfl, e1, h1, .cons ⟨q0, rfl, e1 _ _ hq0⟩ .nil, hW, fun has => ?_⟩
      rcases hW.ho a y List.mem_cons_self with z | ⟨t, e, h2, _⟩
      · exact absurd z has
      · rw [h2]; exact ⟨t, rfl, rfl⟩
    · rintro n σ H2 ⟨b, x, rest, us, y3, rfl, e2, h2, hwt, hW, hn⟩
      have hH2 := hH.mn e2
      obtain ⟨u0, us', rfl⟩ : ∃ u0 us', us = u0 :: us' := by cases hwt; exact ⟨_, _, rfl⟩
      obtain ⟨qb, rfl, hqb⟩ : ∃ qb, u0 = V.ref qb ∧ H2 qb = some (.tup [vn b, vo x]) := by cases hwt; assumption
      refine (pt_t (b := decide (b ≠ r.s)) (pv_ne (pv_ixT (v := vn b) (pv_ixL (pv_var rfl) pv_c (SqL.of h2) (atI_nat (j := 0) rfl)) pv_c (SqT.of hqb) rfl) (pv_fld (pv_var rfl) hH2.q.obH G.c_Reach G.a_Reach_start rfl) rfl dec_ne_n)) _ (Same.refl _) _ fun H3 e3 => ?_
      have hH3 := hH2.mn e3
      by_cases hbs : b = r.s
      · rw [decide_eq_false (fun z => z hbs), if_neg (fun h => nomatch h)]
        subst hbs
        have e03 := e2.trans e3
        exact ⟨_, rfl, q pl H3 _ _ hpl e03 (e3 _ _ h2) (hwt.mn e3) hW.fin⟩
      · rw [decide_eq_true hbs, if_pos rfl]
        obtain ⟨t, hdb, rfl⟩ := hn hbs
        obtain ⟨t', a', hdb', hPt, htm, hW', hup⟩ := hW.step C R X hτ hbs
        rw [hdb] at hdb'
        cases hdb'
        refine ⟨fun σ H' => ∃ n' b x rest us y3, n' < nAbv cs.length p T τ t + 1 ∧ σ = [some (.ref r.a), some (.ref q0), some (.ref pl), y3] ∧ Same H H' ∧ H' pl = some (.lst us) ∧ WayT H' us ((b, x) :: rest) ∧ WI (wOf r.rows) (csf cs) cs.length r.s r.D F T M p τ b x rest ∧ (b ≠ r.s → ∃ t, dl r.D b = some t ∧ n' = nAbv cs.length p T τ t + 1), fun σ2 H4 ⟨n', b, x, rest, us, y3, hlt, h⟩ => ⟨n', hlt, b, x, rest, us, y3, h⟩, ?_⟩
        obtain ⟨hbl, hbD⟩ := dl_lt hdb
        refine st_seq ?_
        refine ss_set (v := vn t) (pv_ixL (pv_fld (pv_var rfl) hH3.q.obH G.c_Reach G.a_Reach_dealt rfl) (pv_ixT (v := vn b) (pv_ixL (pv_var rfl) pv_c (SqL.of (e3 _ _ h2)) (atI_nat (j := 0) rfl)) pv_c (SqT.of (e3 _ _ hqb)) rfl) hH3.q.dlH (atI_nat (by rw [List.getElem?_map, hbD]; rfl))) fun H4 e4 => ?_
        have hH4 := hH3.mn e4
        have h4 := (e3.trans e4) _ _ h2
        dsimp only
        have hlw : (((b, x) :: rest).map (·.1)).length ≤ r.D.length := nd_len hW.nd fun z hz => by
          obtain ⟨f, hf, rfl⟩ := List.mem_map.mp hz
          exact hW.len f hf
        have hlus := hwt.length
        have hl1 := hG.l1
        have hlD := hG.len
        rw [List.length_map] at hlw
        refine ss_ins (xs := .ref qb :: us') rfl h4 (by rw [sizeLine_eq]; omega) (et_tup (vs := [vn a', vn t]) (pva_2 (pv_dget (k := NK t) (v := vn a') (pv_fld (pv_var rfl) hH4.q.obH G.c_Reach G.a_Reach_takers rfl) (pv_var rfl) (.inl hH4.q.hP) (by rw [dg_val, hPt]; rfl)) (pv_var rfl)) (by show 2 ≤ _; decide)) fun qn H5 hqn e5 h5 => ?_
        have e05 := e2.trans (e3.trans (e4.trans e5))
        have hne : qn ≠ pl := fun z => by rw [z, h4] at hqn; cases hqn
        refine ⟨(match dl r.D a' with | none => 0 | some t => nAbv cs.length p T τ t + 1), a', some t, (b, x) :: rest, .ref qn :: .ref qb :: us', _, ?_, rfl, same_mut e05 hpl, upd_same, ?_, hW', fun has => ?_⟩
        · cases hda : dl r.D a' with
          | none => exact Nat.succ_pos _
          | some t' =>
            have has : a' ≠ r.s := fun z => by
              have := C.du.no r.s (Nat.le_refl _)
              rw [z, this] at hda
              cases hda
            obtain ⟨t2, h6, h7, h8⟩ := hup has
            rw [hda] at h6
            cases h6
            have := nAbv_lt (m := cs.length) h8 h7
            dsimp only
            omega
        · refine .cons ⟨qn, rfl, by rw [upd_ne hne]; exact h5⟩ (Paired.mapP hwt fun u s ⟨q, h6, h7⟩ => ⟨q, h6, ?_⟩)
          have h8 := (e3.trans (e4.trans e5)) _ _ h7
          rw [upd_ne (ne_of h8 (e5 _ _ h4) (fun z => by cases z))]
          exact h8
        · obtain ⟨t2, h6, h7, h8⟩ := hup has
          rw [h6]
          exact ⟨t2, rfl, rfl⟩
/-! ### the start -/
def spRI (K : Frg) : Sp := fun vs H Q _ => ∃ (a dx rp dp : Addr) (s : Nat), vs = [.ref a, .ref rp, .ref dp, vn s] ∧ H a = some (.ins (He.ga K "Reach") dx []) ∧
  ∀ H' fp tp kp, But H H' [a] → H' a = some (.ins (He.ga K "Reach") dx [("rows", .ref rp), ("dealt", .ref dp), ("start", vn s), ("freed", .ref fp), ("taken", .ref tp), ("takers", .ref kp)]) → H fp = none → H tp = none → H kp = none → fp ≠ tp ∧ fp ≠ kp ∧ tp ≠ kp → H' fp = some (.dK (dk [(s, 0)])) → H' tp = some (.dK (dk [])) → H' kp = some (.dK (dg vn [])) → Q .non H'
theorem sc_Reach_init : FnScope N_Reach_init ["self", "rows", "dealt", "start"] (defScope s_Reach_init) := ⟨rfl, rfl, rfl, by decide +kernel, rfl, by decide +kernel, by decide +kernel⟩
theorem sd_fld {σ : L2.St} {H : Hp} {ta te : TE} {D : Ends} {kvs : List (Key × V)} {a C dx : Addr} {fs : List (Str × V)} {f : Str} (hv : EvD te σ H kvs) (ha : ∀ H1, Pv ta σ H1 (.ref a)) (h : H a = some (.ins C dx fs)) (hc : Cls K C) (hn : NoAttr K C f) (hl : fs.length < 1000) (q : ∀ p H1, H p = none → Same H H1 → H1 p = some (.dK kvs) → D.nx σ (upd H1 a (.ins C dx (putF f (.ref p) fs)))) : sFld K ta te f D σ H :=
  hv _ fun p H1 hp e h1 => (ha H1).run fun H2 e2 => ⟨a, C, dx, fs, rfl, e2 _ _ (e _ _ h), hc, hn, hl, q p H2 hp (e.trans e2) (e2 _ _ h1)⟩
theorem ed_disp1 {σ : L2.St} {H : Hp} {ta tb : TE} {k : Nat} {v : V} (ha : ∀ H1, Pv ta σ H1 (vn k)) (hb : ∀ H1, Pv tb σ H1 v) : EvD (tDisp [(ta, tb)]) σ H [(NK k, v)] := fun Q q p hp =>
  (ha _).run fun H1 e1 => (hb H1).run fun H2 e2 => ⟨(e1.trans e2) _ _ upd_same, [(NK k, v)], rfl, by simp, q p _ hp (same_mut ((same_new hp).trans (e1.trans e2)) hp) upd_same⟩
theorem ok_Reach_init (G : Gx K mg) : KnownM P w K mg base CX0 1 (He.ga K "Reach") "__init__" ["self", "rows", "dealt", "start"] (spRI K) := by
  have sc := sc_Reach_init
  refine G.f_Reach_init.known sc (fun _ _ _ _ _ _ us hl => match us, hl with | [_, _, _, _], _ => rfl) (fun vs H Q E h => ?_) (fun cdv A outer s H vs Q E hr h => ?_)
  · obtain ⟨a, dx, rp, dp, s, rfl, _⟩ := h; rfl
  · obtain ⟨a, dx, rp, dp, s, rfl, ha, q⟩ := h
    refine ⟨_, (pss_cons (ps_fld (pv 0) (pv 1) rfl)
      (pss_cons (ps_fld (pv 0) (pv 2) rfl)
      (pss_cons (ps_fld (pv 0) (pv 3) rfl)
      (pss_cons (ps_fld (pv 0) (pe_disp (pps_cons (pv 3) pe_int pps_nil) (by rfl) (by rfl) (fun z => by cases z) (by decide)) rfl)
      (pss_cons (ps_fld (pv 0) pe_dnewK rfl)
      (pss_one (ps_fld (pv 0) pe_dnewK rfl))))))), ?_⟩
    have I0 : InsUp H H a (He.ga K "Reach") dx [] := ⟨fun _ _ _ h => h, ha⟩
    refine ss_fld (pv_var rfl) (pv_var rfl) ha G.c_Reach G.a_Reach_rows (by simp) fun H1 e1 => ?_
    have I1 := (I0.go e1).put (fs' := [("rows", .ref rp)])
    refine ss_fld (pv_var rfl) (pv_var rfl) I1.at_ G.c_Reach G.a_Reach_dealt (by simp) fun H2 e2 => ?_
    have I2 := (I1.go e2).put (fs' := [("rows", .ref rp), ("dealt", .ref dp)])
    refine ss_fld (pv_var rfl) (pv_var rfl) I2.at_ G.c_Reach G.a_Reach_start (by simp) fun H3 e3 => ?_
    have I3 := (I2.go e3).put (fs' := [("rows", .ref rp), ("dealt", .ref dp), ("start", vn s)])
    refine sd_fld (ed_disp1 (k := s) (fun _ => pv_var rfl) fun _ => pv_c) (pv_vr rfl) I3.at_ G.c_Reach G.a_Reach_freed (by simp) fun fp H4 hfp e4 h4 => ?_
    have hfa : fp ≠ a := Ne.symm (ne_of_none I3.at_ hfp)
    have I4 := (I3.go e4).put (fs' := [("rows", .ref rp), ("dealt", .ref dp), ("start", vn s), ("freed", .ref fp)])
    have f4 : (upd H4 a (.ins (He.ga K "Reach") dx [("rows", .ref rp), ("dealt", .ref dp), ("start", vn s), ("freed", .ref fp)])) fp = some (.dK [(NK s, V.int 0)]) := by rw [upd_ne hfa]; exact h4
    refine sd_fld ed_new (pv_vr rfl) I4.at_ G.c_Reach G.a_Reach_taken (by simp) fun tp H5 htp e5 h5 => ?_
    have hta : tp ≠ a := Ne.symm (ne_of_none I4.at_ htp)
    have htf : fp ≠ tp := ne_of_none f4 htp
    have I5 := (I4.go e5).put (fs' := [("rows", .ref rp), ("dealt", .ref dp), ("start", vn s), ("freed", .ref fp), ("taken", .ref tp)])
    have f5 : (upd H5 a (.ins (He.ga K "Reach") dx [("rows", .ref rp), ("dealt", .ref dp), ("start", vn s), ("freed", .ref fp), ("taken", .ref tp)])) fp = some (.dK [(NK s, V.int 0)]) := by rw [upd_ne hfa]; exact e5 _ _ f4
    have t5 : (upd H5 a (.ins (He.ga K "Reach") dx [("rows", .ref rp), ("dealt", .ref dp), ("start", vn s), ("freed", .ref fp), ("taken", .ref tp)])) tp = some (.dK []) := by rw [upd_ne hta]; exact h5
    refine sd_fld ed_new (pv_vr rfl) I5.at_ G.c_Reach G.a_Reach_takers (by simp) fun kp H6 hkp e6 h6 => ?_
    have hka : kp ≠ a := Ne.symm (ne_of_none I5.at_ hkp)
    have I6 := (I5.go e6).put (fs' := [("rows", .ref rp), ("dealt", .ref dp), ("start", vn s), ("freed", .ref fp), ("taken", .ref tp), ("takers", .ref kp)])
    have fr : ∀ {b : Addr} {H' : Hp} {fs}, InsUp H H' a (He.ga K "Reach") dx fs → b ≠ a → H' b = none → H b = none := fun {b} {H'} {fs} I hb h => by
      cases e : H b with
      | none => rfl
      | some o => have := I.but b o (by simpa using hb) e; rw [h] at this; cases this
    refine q _ fp tp kp I6.but I6.at_ (fr I3 hfa hfp) (fr I4 hta htp) (fr I5 hka hkp) ⟨htf, ne_of_none f5 hkp, ne_of_none t5 hkp⟩ ?_ ?_ ?_
    · rw [upd_ne hfa]; exact e6 _ _ f5
    · rw [upd_ne hta]; exact e6 _ _ t5
    · rw [upd_ne hka]; exact h6
end
end Wd
set_option Elab.async false
set_option linter.all false
set_option maxRecDepth 100000
set_option maxHeartbeats 4000000
/-! best_way, dealt_best -/
namespace Wd
open PySem PySem.Spec PyProof.Rows L2
theorem c_call {σ : L2.St} {H : Hp} {t : TA} {vs : List V} {sp : Sp} {E : XK} {Q : VK} (ha : Pva t σ H vs) (h : ∀ H1, Same H H1 → sp vs H1 Q E) : tCall sp [] E t σ H Q := ha H (Same.refl H) _ fun H1 e => by
  rw [List.append_nil]
  exact h H1 e
theorem wayOk_nil {w : Nat → Nat → Option Int} {cs : Nat → Nat} {m s : Nat} {D : List (Option Nat)} {F T : Nat → Option Int} {p : Nat → Int} : WayOk w cs m s D F T 0 p [] :=
  ⟨by simp, trivial, (fun y h => by cases h), (fun y h => by cases h), (fun y h => by cases h), (fun a t h => by cases h), (fun a t h => by cases h), (fun a h => by cases h), (fun t h => by cases h), fun _ => rfl⟩
structure RwOk (rows : List (List (Nat × Int))) : Prop where
  nd : ∀ l ∈ rows, (l.map (·.1)).Nodup
  l1 : rows.length ≤ 1000
section
variable {P : Program} {w : World} {K : Frg} {mg : Str → Option Value} {base : Heap}
def spBestWay (K : Frg) : Sp := fun vs H Q _ => ∃ (rp ca dp : Addr) (s : Nat) (rows : List (List (Nat × Int))) (cs : List Nat) (D : List (Option Nat)) (u p : Nat → Int) (Wm : Int), vs = [.ref rp, .ref ca, .ref dp, vn s] ∧ RW H (.ref rp) rows ∧ SqL K H ca (cs.map vn) ∧ SqL K H dp (D.map vo) ∧ RwOk rows ∧ D.length = rows.length ∧ cs.length ≤ 1000 ∧ RCx (wOf rows) (csf cs) cs.length s D u p Wm ∧
  ∀ p' H' us way u' p'', H p' = none → Same H H' → H' p' = some (.lst us) → WayT H' us way → (∀ y ∈ way, y.1 < D.length) → Dual (wOf rows) (csf cs) cs.length (s + 1) (goWay D way) u' p'' → Q (.ref p') H'
theorem sc_best_way : FnScope N_best_way ["rows", "copies", "dealt", "start"] (defScope s_best_way) := ⟨rfl, rfl, rfl, by decide +kernel, rfl, by decide +kernel, by decide +kernel⟩
theorem ok_best_way (G : Gx K mg) : Known P w K mg base CX0 3 "best_way" ["rows", "copies", "dealt", "start"] (spBestWay K) := by
  have sc := sc_best_way
  have k_left_by := ok_left_by (P := P) (w := w) (base := base) G
  have k_Reach_init := ok_Reach_init (P := P) (w := w) (base := base) G
  have k_Reach_go_on := ok_Reach_go_on (P := P) (w := w) (base := base) G
  have k_Reach_end_by := ok_Reach_end_by (P := P) (w := w) (base := base) G
  have k_Reach_way_to := ok_Reach_way_to (P := P) (w := w) (base := base) G
  refine G.f_best_way.known sc (fun _ _ _ _ _ _ us hl => match us, hl with | [_, _, _, _], _ => rfl) (fun vs H Q E h => ?_) (fun cdv A outer s H vs Q E hr h => ?_)
  · obtain ⟨rp, ca, dp, s, rows, cs, D, u, p, Wm, rfl, _⟩ := h; rfl
  · obtain ⟨rp, ca, dp, s, rows, cs, D, u, p, Wm, rfl, hrw, hca, hdp, hok, hlen, hm, C, q⟩ := h
    refine ⟨_, (pss_cons (ps_set (i := 4) sc.nd rfl (Or.inl rfl) (pe_knMk k_Reach_init G.mk_Reach (hr.mono (by decide)) G.g_Reach pass0 (pa_cons (pv 0) (pa_cons (pv 2) (pa_cons (pv 3) pa_nil)))))
      (pss_cons (ps_expr (pe_knM0 k_Reach_go_on G.c_Reach (hr.mono (by decide)) pass0 (pv 4)))
      (pss_cons (ps_set (i := 5) sc.nd rfl (Or.inl rfl) (pe_knM k_Reach_end_by G.c_Reach (hr.mono (by decide)) pass0 (pv 4) (pa_cons (pe_kn k_left_by (hr.mono (by decide)) pass0 (pa_cons (pv 1) (pa_cons (pv 2) pa_nil))) pa_nil)))
      (pss_cons (ps_if (pt_cmpR op_isN (pv 5) pe_non (nomark _))
      (pss_one (ps_ret (pe_lst pa_nil))) pss_nil)
      (pss_one (ps_ret (pe_knM k_Reach_way_to G.c_Reach (hr.mono (by decide)) pass0 (pv 4) (pa_cons (pv 5) pa_nil)))))))), ?_⟩
    have hDt : ∀ t, some t ∈ D → t < cs.length := fun t ht => by
      obtain ⟨i, hi⟩ := List.mem_iff_getElem?.mp ht
      have : dl D i = some t := by unfold dl; rw [hi]; rfl
      exact (C.hw i t _ (C.du.eq i t this)).2.2
    refine st_seq ⟨_, rfl, _, rfl, _, rfl, fun x dx hx hdx hne => ?_⟩
    have hx' : (upd H dx (.own x)) x = none := by rw [upd_ne (Ne.symm hne)]; exact hx
    have e1 : Same H (upd (upd H dx (.own x)) x (.ins (He.ga K "Reach") dx [])) := (same_new hdx).trans (same_new hx')
    refine ⟨x, dx, rp, dp, s, rfl, upd_same, fun H1 fp tp kp hbut ho hfp htp hkp hnn h1 h2 h3 => ⟨rfl, ?_⟩⟩
    have e01 : Same H H1 := fun b o h => hbut b o (fun z => by rw [List.mem_singleton] at z; rw [z, hx] at h; cases h) (e1 _ _ h)
    have hn3 : ∀ b ∈ [fp, tp, kp], H b = none := fun b hb => by
      simp only [List.mem_cons, List.not_mem_nil, or_false] at hb
      rcases hb with rfl | rfl | rfl
      · exact e1.free hfp
      · exact e1.free htp
      · exact e1.free hkp
    have eB : Same H (cut H1 [fp, tp, kp]) := cut_of e01 hn3
    have hxn : x ∉ [fp, tp, kp] := fun z => by
      simp only [List.mem_cons, List.not_mem_nil, or_false] at z
      rcases z with z | z | z
      · rw [← z, upd_same] at hfp; cases hfp
      · rw [← z, upd_same] at htp; cases htp
      · rw [← z, upd_same] at hkp; cases hkp
    have hR : RHp K ⟨x, dx, rp, dp, fp, tp, kp, s, rows, D⟩ (cut H1 [fp, tp, kp]) H1 [(s, 0)] [] [] :=
      ⟨⟨cut_same, fun b hb => cut_none hb, hnn, h1, h2, h3, by rw [cut_at hxn]; exact ho, SqL.mn eB hdp, rfl⟩, hrw.mn eB⟩
    have hI : RIn K ⟨x, dx, rp, dp, fp, tp, kp, s, rows, D⟩ (cut H1 [fp, tp, kp]) H1 [(s, 0)] [] [] (csf cs) cs.length u p Wm := ⟨hR, ⟨hok.nd, hlen, hok.l1⟩, hm, C, RI.start C⟩
    dsimp only
    refine st_seq ⟨_, rfl, x, dx, _, rfl, ho, rfl, ?_⟩
    refine ⟨_, _, _, _, _, _, _, _, _, _, rfl, hI, (fun a t e hd ht => by rw [lkA_nil] at ht; cases ht), fun H2 F T Pt hH2 R2 X2 => ?_⟩
    -- go_on may have changed the three dicts only
    have e02 : Same H H2 := eB.trans hH2.q.sB
    have hI2 : RIn K ⟨x, dx, rp, dp, fp, tp, kp, s, rows, D⟩ (cut H1 [fp, tp, kp]) H2 F T Pt (csf cs) cs.length u p Wm := ⟨hH2, ⟨hok.nd, hlen, hok.l1⟩, hm, C, R2⟩
    dsimp only
    refine st_seq ⟨_, rfl, x, dx, _, rfl, hH2.q.obH, rfl, ?_⟩
    refine sr_1 ?_
    refine el_call (pva_2 (pv_var rfl) (pv_var rfl)) (fun H3 e3 Q3 q3 => ⟨ca, dp, cs, D, rfl, SqL.mn (e02.trans e3) hca, SqL.mn (e02.trans e3) hdp, hDt, hm, q3⟩) _ fun la H3 hla e3 h3 => ?_
    refine ⟨_, _, F, T, Pt, cs, u, p, Wm, la, rfl, hI2.mn e3, SqL.of h3, fun v H4 M e e4 hv Z => ?_⟩
    have e04 := e02.trans (e3.trans e4)
    have hI4 := hI2.mn (e3.trans e4)
    dsimp only
    refine st_seq ?_
    cases e with
    | none =>
      cases hv
      have hM : M = 0 := Z.en
      subst hM
      refine ss_if (b := true) (pt_t (pv_isN (pv_var rfl) rfl)) (fun H5 e5 _ => ?_) fun H5 e5 h => nomatch h
      refine sl_ret (el_lst pva_nil (Nat.zero_le _)) fun p' H6 hp' e6 h6 => ?_
      have e06 := e04.trans e5
      exact q p' H6 [] [] _ _ (e06.free hp') (e06.trans e6) h6 .nil (fun y hy => by cases hy) (dual_step C.du (REnd.of C R2 X2 Z) wayOk_nil)
    | some ay =>
      obtain ⟨a, y⟩ := ay
      obtain ⟨q0, rfl, hq0⟩ := hv
      refine ss_if (b := false) (pt_t (pv_isN (pv_var rfl) rfl)) (fun H5 e5 h => nomatch h) fun H5 e5 _ => ?_
      refine st_next ?_
      dsimp only
      have hI5 := hI4.mn e5
      refine sr_ret ⟨_, rfl, x, dx, _, rfl, hI5.h.q.obH, rfl, _, rfl, ?_⟩
      have e05 := e04.trans e5
      exact ⟨_, _, F, T, Pt, cs, u, p, Wm, M, q0, a, y, rfl, hI5, X2, e5 _ _ hq0, Z, fun p' H6 us way hp' e6 h6 hwt hway => q p' H6 us way _ _ (e05.free hp') (e05.trans e6) h6 hwt hway.len (dual_step C.du (REnd.of C R2 X2 Z) hway)⟩
end
/-! ### the rows of the worths are good -/
theorem byO_bd {s : Str} {B R k : Nat} (hB : 1 ≤ B) (h1 : 1 ≤ k) (h2 : k ≤ R) : 0 ≤ byO s B R k ∧ byO s B R k ≤ 2 * ((B ^ R : Nat) : Int) := by
  have a1 : B ^ (k - 1) ≤ B ^ R := Nat.pow_le_pow_right hB (by omega)
  have a2 : B ^ (R - k) ≤ B ^ R := Nat.pow_le_pow_right hB (by omega)
  unfold byO
  split
  · omega
  · split <;> omega
theorem wrth_bd {s : Str} {B R k : Nat} (hB : 1 ≤ B) (h1 : 1 ≤ k) (h2 : k ≤ R) : 0 ≤ wrth s B R k ∧ wrth s B R k ≤ 2 * ((B ^ R : Nat) : Int) * (B : Int) := by
  obtain ⟨a, b⟩ := byO_bd (s := s) hB h1 h2
  unfold wrth
  exact ⟨Int.mul_nonneg a (by omega), Int.mul_le_mul_of_nonneg_right b (by omega)⟩
def wBd (ls : List (List (List Nat))) : Int := 2 * (((ls.length + 1) ^ lng ls : Nat) : Int) * ((ls.length + 1 : Nat) : Int)
theorem find_map {ts : List Nat} {f : Nat → Int} {t : Nat} : lkA (ts.map fun t => (t, f t)) t = if t ∈ ts then some (f t) else none := by
  induction ts with
  | nil => simp [lkA_nil]
  | cons a r ih =>
    rw [List.map_cons, lkA_cons, ih]
    by_cases h : a = t
    · subst h; simp
    · rw [if_neg h]
      simp [Ne.symm h]
theorem wOf_rows {s : Str} {ls : List (List (List Nat))} {tss : List (List Nat)} {a t : Nat} {x : Int} (h : wOf (rowsOf s ls tss) a t = some x) : a < tss.length ∧ t ∈ tss[a]?.getD [] ∧ x = wth s ls a t := by
  unfold wOf rowsOf at h
  rw [List.getElem?_map] at h
  by_cases ha : a < tss.length
  · rw [List.getElem?_range ha] at h
    have h : lkA ((tss[a]?.getD []).map fun t => (t, wth s ls a t)) t = some x := h
    rw [find_map] at h
    split at h
    · rename_i hin
      cases h
      exact ⟨ha, hin, rfl⟩
    · cases h
  · rw [List.getElem?_eq_none (by simp; omega)] at h
    cases h
theorem wOf_rows' {s : Str} {ls : List (List (List Nat))} {tss : List (List Nat)} {a t : Nat} (ha : a < tss.length) (ht : t ∈ tss[a]?.getD []) : wOf (rowsOf s ls tss) a t = some (wth s ls a t) := by
  unfold wOf rowsOf
  rw [List.getElem?_map, List.getElem?_range ha]
  show lkA ((tss[a]?.getD []).map fun t => (t, wth s ls a t)) t = _
  rw [find_map, if_pos ht]
theorem tss_in {ls : List (List (List Nat))} {tss : List (List Nat)} (h : TssOk ls tss) {a t : Nat} (ha : a < ls.length) : t ∈ tss[a]?.getD [] ↔ t ∈ (ls[a]?.getD []).flatten := by
  have h1 : tss[a]? = some (tss[a]'(by rw [h.1]; exact ha)) := List.getElem?_eq_getElem _
  have h2 : ls[a]? = some ls[a] := List.getElem?_eq_getElem ha
  have := (h.2 a _ _ h1 h2).mem_iff (a := t)
  rw [h1, h2]
  exact this
theorem rows_hw {cs : List Nat} {ls : List (List (List Nat))} (W : WG cs ls) {s : Str} {tss : List (List Nat)} (h : TssOk ls tss) {a t : Nat} {x : Int} (hx : wOf (rowsOf s ls tss) a t = some x) : 0 ≤ x ∧ x ≤ wBd ls ∧ t < cs.length := by
  obtain ⟨h1, h2, rfl⟩ := wOf_rows hx
  have ha : a < ls.length := by rw [← h.1]; exact h1
  rw [tss_in h ha] at h2
  have hr : ls[a]? = some ls[a] := List.getElem?_eq_getElem ha
  have hm := List.mem_of_getElem? hr
  have hg : ls[a]?.getD [] = ls[a] := by rw [hr]; rfl
  rw [hg] at h2
  have k1 := rankIn_pos h2
  have k2 := rankIn_le (t := t) (rs := ls[a])
  have k3 := lng_mem hm
  have := wrth_bd (s := s) (B := ls.length + 1) (R := lng ls) (k := rankIn ls[a] t) (by omega) k1 (by omega)
  unfold wth
  rw [hg]
  refine ⟨this.1, this.2, ?_⟩
  obtain ⟨row, hrow, ht⟩ := List.mem_flatten.mp h2
  exact ((W.rk hm).2.1 row hrow).2 t ht
theorem rows_ok {cs : List Nat} {ls : List (List (List Nat))} (W : WG cs ls) {s : Str} {tss : List (List Nat)} (h : TssOk ls tss) : RwOk (rowsOf s ls tss) := by
  refine ⟨fun l hl => ?_, by unfold rowsOf; rw [List.length_map, List.length_range, h.1]; have := W.all.2.2.1; omega⟩
  obtain ⟨i, hi, rfl⟩ := List.mem_map.mp hl
  rw [List.mem_range, h.1] at hi
  have h1 : tss[i]? = some (tss[i]'(by rw [h.1]; exact hi)) := List.getElem?_eq_getElem _
  have h2 : ls[i]? = some ls[i] := List.getElem?_eq_getElem hi
  rw [List.map_map]
  have : ((tss[i]?.getD []).map ((fun x : Nat × Int => x.1) ∘ fun t => (t, wth s ls i t))) = tss[i]?.getD [] := by
    conv => rhs; rw [← List.map_id (tss[i]?.getD [])]
    rfl
  rw [this, h1]
  exact (h.2 i _ _ h1 h2).symm.nodup (W.rk (List.mem_of_getElem? h2)).2.2
theorem rows_len {s : Str} {ls : List (List (List Nat))} {tss : List (List Nat)} (h : TssOk ls tss) : (rowsOf s ls tss).length = ls.length := by unfold rowsOf; rw [List.length_map, List.length_range, h.1]
theorem dual_start {w : Nat → Nat → Option Int} {cs : Nat → Nat} {m n : Nat} : Dual w cs m 0 (List.replicate n none) (fun _ => 0) (fun _ => 0) := by
  have hd : ∀ a, dl (List.replicate n (none : Option Nat)) a = none := fun a => by
    unfold dl
    rw [List.getElem?_replicate]
    split <;> rfl
  have hc : ∀ t, (List.replicate n (none : Option Nat)).count (some t) = 0 := fun t => by
    rw [List.count_eq_zero]
    intro h
    cases (List.mem_replicate.mp h).2
  exact ⟨fun _ => Int.le_refl _, fun _ => Int.le_refl _, fun a h => absurd h (Nat.not_lt_zero _), (fun a t h => by rw [hd] at h; cases h), fun a h => absurd h (Nat.not_lt_zero _), fun a _ => hd a, fun _ _ _ => rfl, fun t _ => by rw [hc]; exact Nat.zero_le _⟩
section
variable {P : Program} {w : World} {K : Frg} {mg : Str → Option Value} {base : Heap}
/-- a dealing with its dual -/
structure DBest (s : Str) (cs : List Nat) (ls : List (List (List Nat))) (D : List (Option Nat)) : Prop where
  len : D.length = ls.length
  du : ∃ tss u p, TssOk ls tss ∧ Dual (wOf (rowsOf s ls tss)) (csf cs) cs.length ls.length D u p
def spDealt (K : Frg) : Sp := fun vs H Q _ => ∃ v x cs ls s, vs = [v, x] ∧ WS K H v cs ls ∧ WG cs ls ∧ AOk K H x s ∧ ∀ D, DBest s cs ls D → RetL (D.map vo) H Q
theorem sc_dealt_best : FnScope N_dealt_best ["wishes", "aim"] (defScope s_dealt_best) := ⟨rfl, rfl, rfl, by decide +kernel, rfl, by decide +kernel, by decide +kernel⟩
theorem ok_dealt_best (G : Gx K mg) : Known P w K mg base CX0 10 "dealt_best" ["wishes", "aim"] (spDealt K) := by
  have sc := sc_dealt_best
  have k_rows_by := ok_rows_by (P := P) (w := w) (base := base) G
  have k_best_way := ok_best_way (P := P) (w := w) (base := base) G
  refine G.f_dealt_best.known sc (fun _ _ _ _ _ _ us hl => match us, hl with | [_, _], _ => rfl) (fun vs H Q E h => ?_) (fun cdv A outer s H vs Q E hr h => ?_)
  · obtain ⟨v, x, cs, ls, s, rfl, _⟩ := h; rfl
  · obtain ⟨v, x, cs, ls, s, rfl, hW, W, hA, q⟩ := h
    refine ⟨_, (pss_cons (ps_set (i := 2) sc.nd rfl (Or.inl rfl) (pe_kn k_rows_by (hr.mono (by decide)) pass0 (pa_cons (pv 0) (pa_cons (pv 1) pa_nil))))
      (pss_cons (ps_setLc (i := 4) (own := [("row", 3)]) rfl sc.nd rfl rfl (sw_true rfl rfl rfl (by decide +kernel)) (pi_list (pv 2)) (blkOk_by (by rfl)) (fun _ _ _ _ _ => (pg_name (i := 3) sc.nd rfl (Or.inl rfl))) (fun _ _ _ _ _ => pts_nil) (fun _ _ _ _ _ => pe_non))
      (pss_cons (ps_for PassesOwn.never rfl (pi_range1 rfl G.n_range (pa_cons (pe_callB call_len_seq (by rfl) G.n_len (by decide +kernel) (pa_cons (pv 2) pa_nil)) pa_nil)) (pg_name (i := 5) sc.nd rfl (Or.inl rfl))
      (pss_one (ps_for PassesOwn.never rfl (pi_list (pe_kn k_best_way (hr.mono (by decide)) pass0 (pa_cons (pv 2) (pa_cons (pe_ix ix_tup (pv 0) pe_int (fun _ _ => rfl)) (pa_cons (pv 4) (pa_cons (pv 5) pa_nil)))))) (pg_tup rfl (pgs_cons (pg_name (i := 6) sc.nd rfl (Or.inl rfl)) (pgs_cons (pg_name (i := 7) sc.nd rfl (Or.inl rfl)) pgs_nil)))
      (pss_one (ps_asg (pv 7) (pg_sub (pv 4) (pv 6) set_list))))))
      (pss_one (ps_ret (pv 4)))))), ?_⟩
    refine st_seq ⟨_, rfl, _, rfl, v, x, cs, ls, s, rfl, hW, W, hA, fun wv H1 N1 e1 n1 ⟨tss, hT, hRW⟩ => ?_⟩
    have hRW1 := hRW.mn (fun b o h => (n1 b o h).1 : Same N1 H1)
    have hW1 := hW.mono (Le.of e1)
    obtain ⟨rp, ds, rfl, hrp, hds⟩ := id hRW1
    have hdl := hds.length
    rw [rows_len hT] at hdl
    have h7 := W.all
    have hrok := rows_ok W (s := s) hT
    dsimp only
    refine st_seq ?_
    refine c_lcL (xs := ds) (fun _ => .non) (val_var rfl) (SqL.of hrp) (by omega) (fun x => rfl) (fun i x _ => pv_c) fun dp H2 hdp e2 h2 => ?_
    have e02 := e1.trans e2
    have hd2 : H2 dp = some (.lst ((List.replicate ls.length (none : Option Nat)).map vo)) := by
      rw [h2]
      congr 2
      rw [hdl]
      refine range_map (by simp) fun i x hx => ?_
      have := List.mem_of_getElem? hx
      rw [List.map_replicate] at this
      exact (List.mem_replicate.mp this).2.symm
    obtain ⟨pw, va, vb, rfl, hTw, ⟨a1, rfl, ha1⟩, b, us1, rfl, hb1, hpp⟩ := id hW1
    dsimp only
    refine st_seq ?_
    have hH2 : RW H2 (.ref rp) (rowsOf s ls tss) := hRW1.mn e2
    refine w_forR (n := (ls.length : Int)) ?_ (by omega) (by omega) (fun k σ H' => ∃ y3 y5 y6 y7 D u p, σ = [some (.ref pw), some x, some (.ref rp), y3, some (.ref dp), y5, y6, y7] ∧ Same (cut H2 [dp]) H' ∧ H' dp = some (.lst (D.map vo)) ∧ D.length = ls.length ∧ Dual (wOf (rowsOf s ls tss)) (csf cs) cs.length k D u p) ?_ ?_ ?_
    · intro Q q
      refine ⟨_, rfl, rp, ds, rfl, .inl (SqL.of (e2 _ _ hrp)), ?_⟩
      rw [hdl]
      exact q
    · exact ⟨_, _, _, _, _, _, _, rfl, cut_same, hd2, by simp, dual_start⟩
    · rintro k σ H3 hk ⟨y3, y5, y6, y7, D, u, p, rfl, e3, hd3, hlD, hdu⟩
      have hB : Same H1 (cut H2 [dp]) := cut_of e2 (fun b hb => by rw [List.mem_singleton.mp hb]; exact hdp)
      have e13 : Same H1 H3 := hB.trans e3
      refine f_open (c_call (pva_cons (pv_var rfl) (pva_cons (pv_ixT (pv_var rfl) pv_c (SqT.mn e13 hTw) rfl) (pva_2 (pv_var rfl) (pv_var rfl)))) fun H4 e4 => ?_)
      have e14 := e13.trans e4
      refine ⟨rp, a1, dp, k, rowsOf s ls tss, cs, D, u, p, wBd ls, rfl, hRW1.mn e14, SqL.mn e14 ha1, SqL.of (e4 _ _ hd3), hrok, by rw [hlD, rows_len hT], by omega, ⟨hdu, fun a t x hx => rows_hw W hT hx, ?_, by omega⟩, fun p' H5 us way u' p'' hp' e5 h5 hwt hwl hdu' => ⟨p', rfl, ⟨_, SqL.of h5⟩, ?_⟩⟩
      · unfold wBd
        exact Int.mul_nonneg (by omega) (by omega)
      have hd5 := e5 _ _ (e4 _ _ hd3)
      have hpd : p' ≠ dp := fun z => by rw [z] at hp'; rw [e4 _ _ hd3] at hp'; cases hp'
      have eB5 : Same (cut H2 [dp]) (cut H5 [dp]) := cut_of (e3.trans (e4.trans e5)) (fun b hb => cut_none hb)
      have hp5 : (cut H5 [dp]) p' = some (.lst us) := by rw [cut_at (by simpa using hpd)]; exact h5
      have hwt5 : WayT (cut H5 [dp]) us way := Paired.mapP hwt fun u s ⟨q, h6, h7⟩ => ⟨q, h6, by rw [cut_at (by simpa using ne_of h7 hd5 (fun z => by cases z))]; exact h7⟩
      refine for_list (fun j σ H' => ∃ y6 y7, σ = [some (.ref pw), some x, some (.ref rp), y3, some (.ref dp), some (vn k), y6, y7] ∧ Same (cut H5 [dp]) H' ∧ H' dp = some (.lst ((goWay D (way.take j)).map vo))) ⟨_, _, rfl, cut_same, hd5⟩ (fun j σ H' _ ⟨_, _, _, e, _⟩ => SqL.of (e _ _ hp5)) ?_ ?_
      · rintro j v σ H6 hv ⟨y6, y7, rfl, e6, h6⟩
        obtain ⟨st, hst, qt, rfl, hqt⟩ := paired_get hwt5 hv
        refine w_tg2 (SqT.of (e6 _ _ hqt)) ?_
        have hsl := hwl st (List.mem_of_getElem? hst)
        refine ⟨_, rfl, _, rfl, _, rfl, dp, _, _, st.1, rfl, rfl, h6, ixN_nat (by rw [List.length_map, goWay_len]; exact hsl), ⟨_, _, rfl, same_mut e6 (cut_none (by simp)), ?_⟩⟩
        rw [upd_same, List.take_succ, hst]
        congr 2
        unfold goWay
        rw [List.foldl_append]
        show _ = List.map vo (List.set _ st.1 st.2)
        rw [List.map_set]
      · rintro σ H6 ⟨y6, y7, rfl, e6, h6⟩
        rw [hwt5.length, List.take_length] at h6
        exact ⟨y3, _, _, _, goWay D way, u', p'', rfl, eB5.trans e6, h6, by rw [goWay_len]; exact hlD, hdu'⟩
    · rintro σ H3 ⟨y3, y5, y6, y7, D, u, p, rfl, e3, hd3, hlD, hdu⟩
      have hB : Same H1 (cut H2 [dp]) := cut_of e2 (fun b hb => by rw [List.mem_singleton.mp hb]; exact hdp)
      have e13 : Same H1 H3 := hB.trans e3
      have hn : ((ls.length : Nat) : Int).toNat = ls.length := by omega
      rw [hn] at hdu
      exact ⟨_, rfl, q D ⟨hlD, tss, u, p, hT, hdu⟩ dp H3 (e1.free hdp) (e1.trans e13) hd3⟩
end
end Wd
set_option Elab.async false
set_option linter.all false
set_option maxRecDepth 100000
set_option maxHeartbeats 4000000
/-! Plain law: prices raised until none has to be raised. -/
namespace Wd
def qf (q : List Int) (t : Nat) : Int := q[t]?.getD 0
theorem qf_set {q : List Int} {t v : Nat} {x : Int} (h : t < q.length) : qf (q.set t x) v = if v = t then x else qf q v := by
  unfold qf
  rw [List.getElem?_set]
  by_cases e : t = v
  · subst e; rw [if_pos rfl, if_pos h, if_pos rfl]; rfl
  · rw [if_neg e, if_neg (Ne.symm e)]
/-- what an asker's thing is worth beyond its price -/
def restOf (w : Nat → Nat → Option Int) (D : List (Option Nat)) (q : List Int) (a : Nat) : Int := match dl D a with
  | none => 0
  | some t => (w a t).getD 0 - qf q t
structure PCx (w : Nat → Nat → Option Int) (cs : Nat → Nat) (m : Nat) (D : List (Option Nat)) (u p : Nat → Int) : Prop where
  du : Dual w cs m D.length D u p
  hw : ∀ a t x, w a t = some x → 0 ≤ x ∧ t < m
structure PI (m : Nat) (D : List (Option Nat)) (p : Nat → Int) (q : List Int) (rs : List (Option Nat)) : Prop where
  lq : q.length = m
  lr : rs.length = m
  q0 : ∀ t, t < m → 0 ≤ qf q t
  qp : ∀ t, t < m → qf q t ≤ p t
  ra : ∀ t a, dl rs t = some a → 0 < qf q t ∧ a < D.length
  rk : ∃ (τ : Nat → Nat) (c : Nat), (∀ t, τ t < c) ∧ ∀ t a t', dl rs t = some a → dl D a = some t' → p t' - qf q t' < p t - qf q t ∨ (p t' - qf q t' = p t - qf q t ∧ τ t' < τ t)
def pMeas (m : Nat) (p : Nat → Int) (q : List Int) : Nat := ((List.range m).map fun t => (p t - qf q t).toNat).sum
section
variable {w : Nat → Nat → Option Int} {cs : Nat → Nat} {m : Nat} {D : List (Option Nat)} {u p : Nat → Int} {q : List Int} {rs : List (Option Nat)}
theorem PI.start (C : PCx w cs m D u p) : PI m D p (List.replicate m 0) (List.replicate m none) := by
  have hq : ∀ t, qf (List.replicate m 0) t = 0 := fun t => by
    unfold qf
    rw [List.getElem?_replicate]
    split <;> rfl
  have hr : ∀ t, dl (List.replicate m (none : Option Nat)) t = none := fun t => by
    unfold dl
    rw [List.getElem?_replicate]
    split <;> rfl
  exact ⟨by simp, by simp, fun t _ => by rw [hq]; exact Int.le_refl _, fun t _ => by rw [hq]; exact C.du.p0 t, (fun t a h => by rw [hr] at h; cases h), fun _ => 0, 1, fun _ => Nat.one_pos, (fun t a t' h => by rw [hr] at h; cases h)⟩
theorem PI.rest (C : PCx w cs m D u p) (R : PI m D p q rs) {a : Nat} (ha : a < D.length) : u a ≤ restOf w D q a := by
  unfold restOf
  cases h : dl D a with
  | none => dsimp only; rw [C.du.un a ha h]; exact Int.le_refl _
  | some t =>
    dsimp only
    have h1 := C.du.eq a t h
    have h2 := (C.hw a t _ h1).2
    have := R.qp t h2
    rw [h1]
    show u a ≤ (u a + p t) - qf q t
    omega
theorem PI.rest0 (C : PCx w cs m D u p) (R : PI m D p q rs) {a : Nat} (ha : a < D.length) : 0 ≤ restOf w D q a := Int.le_trans (C.du.u0 a) (R.rest C ha)
theorem PI.raise (C : PCx w cs m D u p) (R : PI m D p q rs) {a t : Nat} {x : Int} (ha : a < D.length) (hx : w a t = some x) (hb : qf q t < x - restOf w D q a) : PI m D p (q.set t (x - restOf w D q a)) (rs.set t (some a)) ∧ pMeas m p (q.set t (x - restOf w D q a)) < pMeas m p q := by
  have htm := (C.hw a t x hx).2
  have htq : t < q.length := by rw [R.lq]; exact htm
  have htr : t < rs.length := by rw [R.lr]; exact htm
  have hr := R.rest C ha
  have hcov := C.du.cov a ha t x hx
  have h0 := R.q0 t htm
  have hne : ∀ t', dl D a = some t' → t' ≠ t := fun t' h z => by
    subst z
    have : restOf w D q a = x - qf q t' := by unfold restOf; rw [h]; dsimp only; rw [hx]; rfl
    omega
  have hsl : ∀ t', dl D a = some t' → p t' - qf q t' ≤ p t - (x - restOf w D q a) := fun t' h => by
    have h1 := C.du.eq a t' h
    have : restOf w D q a = u a + p t' - qf q t' := by unfold restOf; rw [h]; dsimp only; rw [h1]; rfl
    omega
  refine ⟨⟨by rw [List.length_set]; exact R.lq, by rw [List.length_set]; exact R.lr, fun v hv => ?_, fun v hv => ?_, fun v b hv => ?_, ?_⟩, ?_⟩
  · rw [qf_set htq]; split
    · omega
    · exact R.q0 v hv
  · rw [qf_set htq]; split
    · rename_i e; subst e; omega
    · exact R.qp v hv
  · rw [dl_set htr] at hv
    rw [qf_set htq]
    by_cases e : v = t
    · rw [if_pos e] at hv ⊢
      cases hv
      exact ⟨by omega, ha⟩
    · rw [if_neg e] at hv ⊢
      exact R.ra v b hv
  · obtain ⟨τ, c, hc, hk⟩ := R.rk
    refine ⟨fun y => if y = t then c else τ y, c + 1, fun y => ?_, fun v b t' hv hD => ?_⟩
    · dsimp only; split
      · omega
      · have := hc y; omega
    · dsimp only
      rw [dl_set htr] at hv
      rw [qf_set htq, qf_set htq]
      by_cases e : v = t
      · rw [if_pos e] at hv
        cases hv
        rw [if_pos e, if_pos e, if_neg (hne t' hD), if_neg (hne t' hD)]
        subst e
        have := hsl t' hD
        have := hc t'
        omega
      · rw [if_neg e] at hv
        rw [if_neg e, if_neg e]
        have h1 := hk v b t' hv hD
        by_cases e2 : t' = t
        · subst e2
          rw [if_pos rfl]
          left
          omega
        · rw [if_neg e2, if_neg e2]
          exact h1
  · unfold pMeas
    refine sum_lt (fun v hv => ?_) (List.mem_range.mpr htm) ?_
    · rw [qf_set htq]; split
      · rename_i e; subst e; omega
      · exact Nat.le_refl _
    · rw [qf_set htq, if_pos rfl]
      omega
/-- y is below t -/
def Blw (p : Nat → Int) (q : List Int) (τ : Nat → Nat) (t y : Nat) : Prop := p y - qf q y < p t - qf q t ∨ (p y - qf q y = p t - qf q t ∧ τ y < τ t)
theorem Blw.trans {τ : Nat → Nat} {a b c : Nat} (h1 : Blw p q τ a b) (h2 : Blw p q τ b c) : Blw p q τ a c := by
  unfold Blw at *; omega
theorem Blw.irr {τ : Nat → Nat} {a : Nat} (h : Blw p q τ a a) : False := by
  unfold Blw at h; omega
noncomputable def nBlw (m : Nat) (p : Nat → Int) (q : List Int) (τ : Nat → Nat) (t : Nat) : Nat := ((List.range m).map fun y => @ite Nat (Blw p q τ t y) (Classical.propDecidable _) 1 0).sum
theorem nBlw_lt {τ : Nat → Nat} {t y : Nat} (h : Blw p q τ t y) (hm : y < m) : nBlw m p q τ y < nBlw m p q τ t := by
  unfold nBlw
  refine sum_lt (fun v _ => ?_) (List.mem_range.mpr hm) ?_
  · by_cases h1 : Blw p q τ y v
    · rw [if_pos h1, if_pos (h.trans h1)]; exact Nat.le_refl _
    · rw [if_neg h1]; exact Nat.zero_le _
  · rw [if_neg fun z => z.irr, if_pos h]
    exact Nat.one_pos
/-- all is settled -/
def PFix (w : Nat → Nat → Option Int) (D : List (Option Nat)) (q : List Int) : Prop := ∀ a, a < D.length → ∀ t x, w a t = some x → x ≤ restOf w D q a + qf q t
end
/-! ### sums: what a paper claims -/
def sumR (n : Nat) (f : Nat → Int) : Int := ((List.range n).map f).sum
theorem sumR_succ {n : Nat} {f : Nat → Int} : sumR (n + 1) f = sumR n f + f n := by
  unfold sumR
  rw [List.range_succ, List.map_append, List.sum_append]
  simp
theorem sumR_congr {n : Nat} {f g : Nat → Int} (h : ∀ i, i < n → f i = g i) : sumR n f = sumR n g := by
  unfold sumR
  congr 1
  exact List.map_congr_left fun i hi => h i (List.mem_range.mp hi)
theorem sumR_add {n : Nat} {f g : Nat → Int} : sumR n (fun i => f i + g i) = sumR n f + sumR n g := by
  induction n with
  | zero => rfl
  | succ n ih => rw [sumR_succ, sumR_succ, sumR_succ, ih]; omega
theorem sumR_le {n : Nat} {f g : Nat → Int} (h : ∀ i, i < n → f i ≤ g i) : sumR n f ≤ sumR n g := by
  induction n with
  | zero => exact Int.le_refl _
  | succ n ih =>
    rw [sumR_succ, sumR_succ]
    have := ih fun i hi => h i (by omega)
    have := h n (by omega)
    omega
theorem sumR_zero {n : Nat} : sumR n (fun _ => 0) = 0 := by
  induction n with
  | zero => rfl
  | succ n ih => rw [sumR_succ, ih]; rfl
/-- counted by askers, counted by things -/
def pOf (q : List Int) : Option Nat → Int
  | none => 0
  | some t => qf q t
theorem sum_point {m t : Nat} (h : t < m) {f : Nat → Int} : sumR m (fun v => if some t = some v then f v else 0) = f t := by
  induction m with
  | zero => omega
  | succ m ih =>
    rw [sumR_succ]
    by_cases e : t = m
    · subst e
      rw [if_pos rfl]
      have : sumR t (fun v => if some t = some v then f v else 0) = sumR t (fun _ => 0) := sumR_congr fun i hi => if_neg fun z => by have := Option.some.inj z; omega
      rw [this, sumR_zero]
      omega
    · rw [ih (by omega), if_neg fun z => e (Option.some.inj z)]
      omega
theorem sum_swap {m : Nat} {q : List Int} : ∀ {D : List (Option Nat)}, (∀ t, some t ∈ D → t < m) → (D.map (pOf q)).sum = sumR m fun t => (D.count (some t) : Int) * qf q t
  | [], _ => by
    have : sumR m (fun t => (([] : List (Option Nat)).count (some t) : Int) * qf q t) = sumR m (fun _ => 0) := sumR_congr fun i _ => by simp
    rw [this, sumR_zero]
    rfl
  | x :: D, h => by
    have ih := sum_swap (q := q) (D := D) fun t ht => h t (List.mem_cons_of_mem _ ht)
    rw [List.map_cons, List.sum_cons, ih]
    have e : ∀ t, (((x :: D).count (some t) : Nat) : Int) * qf q t = ((D.count (some t) : Nat) : Int) * qf q t + (if x = some t then qf q t else 0) := fun t => by
      rw [List.count_cons]
      by_cases hx : x = some t
      · rw [if_pos hx, if_pos (by rw [hx]; simp)]
        push_cast
        rw [Int.add_mul, Int.one_mul]
      · rw [if_neg hx, if_neg (by simpa using hx)]
        simp
    have e2 : sumR m (fun t => (((x :: D).count (some t) : Nat) : Int) * qf q t) = sumR m (fun t => ((D.count (some t) : Nat) : Int) * qf q t) + sumR m (fun t => if x = some t then qf q t else 0) := by
      rw [← sumR_add]
      exact sumR_congr fun i _ => e i
    rw [e2]
    cases x with
    | none =>
      have : sumR m (fun t => if (none : Option Nat) = some t then qf q t else 0) = sumR m (fun _ => 0) := sumR_congr fun i _ => if_neg fun z => by cases z
      rw [this, sumR_zero]
      show 0 + _ = _ + 0
      omega
    | some t =>
      rw [sum_point (h t List.mem_cons_self)]
      show qf q t + _ = _
      omega
/-- a best dealing with a paper that claims just its worth -/
structure Paper (w : Nat → Nat → Option Int) (cs : Nat → Nat) (m : Nat) (D : List (Option Nat)) (asks prices : List Int) : Prop where
  la : asks.length = D.length
  lp : prices.length = m
  a0 : ∀ a, 0 ≤ qf asks a
  p0 : ∀ t, 0 ≤ qf prices t
  cov : ∀ a, a < D.length → ∀ t x, w a t = some x → x ≤ qf asks a + qf prices t
  eq : ∀ a t, dl D a = some t → w a t = some (qf asks a + qf prices t)
  un : ∀ a, a < D.length → dl D a = none → qf asks a = 0
  lf : ∀ t, t < m → D.count (some t) < cs t → qf prices t = 0
  cap : ∀ t, t < m → D.count (some t) ≤ cs t
theorem paper_of {w : Nat → Nat → Option Int} {cs : Nat → Nat} {m : Nat} {D : List (Option Nat)} {u p : Nat → Int} {q : List Int} {rs : List (Option Nat)} (C : PCx w cs m D u p) (R : PI m D p q rs) (X : PFix w D q) : Paper w cs m D ((List.range D.length).map (restOf w D q)) q := by
  have hq : ∀ a, a < D.length → qf ((List.range D.length).map (restOf w D q)) a = restOf w D q a := fun a ha => by
    unfold qf
    rw [List.getElem?_map, List.getElem?_range ha]
    rfl
  have hq2 : ∀ a, ¬ a < D.length → qf ((List.range D.length).map (restOf w D q)) a = 0 := fun a ha => by
    unfold qf
    rw [List.getElem?_eq_none (by simp; omega)]
    rfl
  refine ⟨by simp, R.lq, fun a => ?_, fun t => ?_, fun a ha t x hx => ?_, fun a t h => ?_, fun a ha h => ?_, fun t ht hc => ?_, C.du.cap⟩
  · by_cases ha : a < D.length
    · rw [hq a ha]; exact R.rest0 C ha
    · rw [hq2 a ha]; exact Int.le_refl _
  · by_cases ht : t < m
    · exact R.q0 t ht
    · unfold qf
      rw [List.getElem?_eq_none (by rw [R.lq]; omega)]
      exact Int.le_refl _
  · rw [hq a ha]; exact X a ha t x hx
  · have ha := (dl_lt h).1
    rw [hq a ha]
    have h1 := C.du.eq a t h
    rw [h1]
    unfold restOf
    rw [h]
    dsimp only
    rw [h1]
    congr 1
    show u a + p t = (u a + p t - qf q t) + qf q t
    omega
  · rw [hq a ha]
    unfold restOf
    rw [h]
  · have h1 := C.du.lf t ht hc
    have h2 := R.q0 t ht
    have h3 := R.qp t ht
    omega
/-- the worth of a dealing -/
def worthD (w : Nat → Nat → Option Int) (D : List (Option Nat)) : Int := sumR D.length fun a => match dl D a with
  | none => 0
  | some t => (w a t).getD 0
theorem sum_list {α : Type} {f : α → Int} {d : α} : ∀ {xs : List α}, (xs.map f).sum = sumR xs.length fun i => f (xs[i]?.getD d)
  | [] => rfl
  | x :: xs => by
    have ih := sum_list (f := f) (d := d) (xs := xs)
    rw [List.map_cons, List.sum_cons, ih]
    unfold sumR
    rw [List.length_cons, List.range_succ_eq_map, List.map_cons, List.sum_cons, List.map_map]
    rfl
theorem Paper.claim {w : Nat → Nat → Option Int} {cs : Nat → Nat} {m : Nat} {D : List (Option Nat)} {asks prices : List Int} (h : Paper w cs m D asks prices) (hm : ∀ a t, dl D a = some t → t < m) :
    sumR D.length (qf asks) + sumR m (fun t => (cs t : Int) * qf prices t) = worthD w D := by
  have hD : ∀ t, some t ∈ D → t < m := fun t ht => by
    obtain ⟨i, hi⟩ := List.mem_iff_getElem?.mp ht
    exact hm i t (by unfold dl; rw [hi]; rfl)
  have e1 : sumR m (fun t => (cs t : Int) * qf prices t) = sumR m fun t => (D.count (some t) : Int) * qf prices t := sumR_congr fun t ht => by
    have h1 := h.cap t ht
    by_cases h2 : D.count (some t) < cs t
    · rw [h.lf t ht h2]; simp
    · have : cs t = D.count (some t) := by omega
      rw [this]
  rw [e1, ← sum_swap hD, sum_list (d := none), ← sumR_add]
  unfold worthD
  refine sumR_congr fun a ha => ?_
  show qf asks a + pOf prices (dl D a) = _
  cases hd : dl D a with
  | none => rw [h.un a ha hd]; rfl
  | some t =>
    dsimp only
    rw [h.eq a t hd]
    rfl
/-- no dealing is worth more than a paper claims -/
theorem Paper.weak {w : Nat → Nat → Option Int} {cs : Nat → Nat} {m : Nat} {D D' : List (Option Nat)} {asks prices : List Int} (h : Paper w cs m D asks prices) (hl : D'.length = D.length) (hw : ∀ a t, dl D' a = some t → t < m ∧ ∃ x, w a t = some x) (hc : ∀ t, t < m → D'.count (some t) ≤ cs t) :
    worthD w D' ≤ sumR D.length (qf asks) + sumR m (fun t => (cs t : Int) * qf prices t) := by
  have hD : ∀ t, some t ∈ D' → t < m := fun t ht => by
    obtain ⟨i, hi⟩ := List.mem_iff_getElem?.mp ht
    exact (hw i t (by unfold dl; rw [hi]; rfl)).1
  have e1 : sumR m (fun t => (D'.count (some t) : Int) * qf prices t) ≤ sumR m (fun t => (cs t : Int) * qf prices t) := sumR_le fun t ht => Int.mul_le_mul_of_nonneg_right (by have := hc t ht; omega) (h.p0 t)
  rw [← sum_swap hD, sum_list (d := none)] at e1
  have e2 : worthD w D' ≤ sumR D'.length fun a => qf asks a + pOf prices (dl D' a) := by
    unfold worthD
    refine sumR_le fun a ha => ?_
    cases hd : dl D' a with
    | none => have := h.a0 a; show (0 : Int) ≤ qf asks a + 0; omega
    | some t =>
      obtain ⟨_, x, hx⟩ := hw a t hd
      dsimp only
      rw [hx]
      exact h.cov a (by omega) t x hx
  rw [sumR_add] at e2
  rw [hl] at e1 e2
  have e3 : sumR D.length (fun a => pOf prices (dl D' a)) = sumR D.length (fun i => pOf prices (D'[i]?.getD none)) := rfl
  rw [e3] at e2
  have e4 : sumR D.length (fun a => qf asks a) = sumR D.length (qf asks) := rfl
  omega
end Wd
set_option Elab.async false
set_option linter.all false
set_option maxRecDepth 100000
set_option maxHeartbeats 4000000
/-! prices: rest, chain, way_by -/
namespace Wd
open PySem PySem.Spec PyProof.Rows L2
structure PSt where
  a : Addr
  dx : Addr
  rp : Addr
  dp : Addr
  lp : Addr
  pp : Addr
  kp : Addr
  rows : List (List (Nat × Int))
  D : List (Option Nat)
  cs : List Nat
def PSt.fs (r : PSt) : List (Str × V) := [("rows", .ref r.rp), ("dealt", .ref r.dp), ("left", .ref r.lp), ("prices", .ref r.pp), ("raisers", .ref r.kp)]
def RWr (B : Hp) (p : Addr) (rows : List (List (Nat × Int))) : Prop := ∃ ds : List V, B p = some (.lst ds) ∧ ds.length = rows.length ∧ ∀ (i : Nat) (l : List (Nat × Int)), rows[i]? = some l → ∃ d : Addr, ds[i]? = some (V.ref d) ∧ RdD B d (dk l)
theorem RW.r {B : Hp} {p : Addr} {rows : List (List (Nat × Int))} (h : RW B (.ref p) rows) : RWr B p rows := by
  obtain ⟨ds, h1, h2, h3⟩ := rw_get h
  exact ⟨ds, h1, h2, fun i l hl => by obtain ⟨d, h4, h5⟩ := h3 i l hl; exact ⟨d, h4, .inl h5⟩⟩
structure PHq (K : Frg) (r : PSt) (B H : Hp) (q : List Int) (rs : List (Option Nat)) : Prop where
  sB : Same B H
  n1 : B r.pp = none
  n2 : B r.kp = none
  ne : r.pp ≠ r.kp
  hp : H r.pp = some (.lst (q.map V.int))
  hk : H r.kp = some (.lst (rs.map vo))
  ob : B r.a = some (.ins (He.ga K "Prices") r.dx r.fs)
  dl : SqL K B r.dp (r.D.map vo)
  lf : SqL K B r.lp (leftL r.cs r.D)
  rw : RWr B r.rp r.rows
theorem PHq.mn {K : Frg} {r : PSt} {B H H1 : Hp} {q : List Int} {rs : List (Option Nat)} (h : PHq K r B H q rs) (e : Same H H1) : PHq K r B H1 q rs := ⟨h.sB.trans e, h.n1, h.n2, h.ne, e _ _ h.hp, e _ _ h.hk, h.ob, h.dl, h.lf, h.rw⟩
theorem PHq.obH {K : Frg} {r : PSt} {B H : Hp} {q : List Int} {rs : List (Option Nat)} (h : PHq K r B H q rs) : H r.a = some (.ins (He.ga K "Prices") r.dx r.fs) := h.sB _ _ h.ob
structure PIn (K : Frg) (r : PSt) (B H : Hp) (q : List Int) (rs : List (Option Nat)) (u p : Nat → Int) : Prop where
  h : PHq K r B H q rs
  c : PCx (wOf r.rows) (csf r.cs) r.cs.length r.D u p
  i : PI r.cs.length r.D p q rs
  len : r.rows.length = r.D.length
  l1 : r.D.length ≤ 1000
  m1 : r.cs.length ≤ 1000
theorem PIn.mn {K : Frg} {r : PSt} {B H H1 : Hp} {q : List Int} {rs : List (Option Nat)} {u p : Nat → Int} (h : PIn K r B H q rs u p) (e : Same H H1) : PIn K r B H1 q rs u p := ⟨h.h.mn e, h.c, h.i, h.len, h.l1, h.m1⟩
theorem q_get {q : List Int} {t : Nat} (h : t < q.length) : (q.map V.int)[t]? = some (.int (qf q t)) := by
  rw [List.getElem?_map]
  unfold qf
  rw [List.getElem?_eq_getElem h]
  rfl
theorem d_get {D : List (Option Nat)} {a : Nat} (h : a < D.length) : (D.map vo)[a]? = some (vo (dl D a)) := by
  rw [List.getElem?_map]
  unfold dl
  rw [List.getElem?_eq_getElem h]
  rfl
theorem vo_non {x : Option Nat} : decide (vo x = .non) = x.isNone := by
  cases x with
  | none => rfl
  | some t => exact decide_eq_false fun z => by cases z
theorem vo_eq {x : Option Nat} {t : Nat} : decide (vo x = vn t) = decide (x = some t) := by
  cases x with
  | none => exact decide_eq_decide.mpr ⟨(fun z => by cases z), (fun z => by cases z)⟩
  | some s => exact decide_eq_decide.mpr ⟨(fun z => by have := V.int.inj z; congr 1; omega), (fun z => by cases z; rfl)⟩
theorem vo_scal {x : Option Nat} {t : Nat} : scal (vo x) (vn t) = true := by cases x <;> rfl
section
variable {P : Program} {w : World} {K : Frg} {mg : Str → Option Value} {base : Heap}
def spRest (K : Frg) : Sp := fun vs H Q _ => ∃ (r : PSt) (B : Hp) (q : List Int) (rs : List (Option Nat)) (u p : Nat → Int) (i : Nat), vs = [.ref r.a, vn i] ∧ PIn K r B H q rs u p ∧ i < r.D.length ∧ RetG (.int (restOf (wOf r.rows) r.D q i)) H Q
theorem sc_Prices_rest : FnScope N_Prices_rest ["self", "asker"] (defScope s_Prices_rest) := ⟨rfl, rfl, rfl, by decide +kernel, rfl, by decide +kernel, by decide +kernel⟩
theorem ok_Prices_rest (G : Gx K mg) : KnownM P w K mg base CX0 1 (He.ga K "Prices") "rest" ["self", "asker"] (spRest K) := by
  have sc := sc_Prices_rest
  refine G.f_Prices_rest.known sc (fun _ _ _ _ _ _ us hl => match us, hl with | [_, _], _ => rfl) (fun vs H Q E h => ?_) (fun cdv A outer s H vs Q E hr h => ?_)
  · obtain ⟨r, B, q, rs, u, p, i, rfl, _⟩ := h; rfl
  · obtain ⟨r, B, q, rs, u, p, i, rfl, I, hi, k⟩ := h
    refine ⟨_, (pss_cons (ps_set (i := 2) sc.nd rfl (Or.inl rfl) (pe_ix ix_list (pe_fld (pv 0) rfl) (pv 1) (fun _ _ => rfl)))
      (pss_cons (ps_if (pt_cmpR op_isN (pv 2) pe_non (nomark _))
      (pss_one (ps_ret pe_int)) pss_nil)
      (pss_one (ps_ret (pe_op op_sub (pe_dget (hu_of hr) (pe_ix ix_list (pe_fld (pv 0) rfl) (pv 1) (fun _ _ => rfl)) (pv 2) (fun _ _ => rfl)) (pe_ix ix_list (pe_fld (pv 0) rfl) (pv 2) (fun _ _ => rfl))))))), ?_⟩
    refine ss_set (pv_ixL (pv_fld (pv_var rfl) I.h.obH G.c_Prices G.a_Prices_dealt rfl) (pv_var rfl) (SqL.mn I.h.sB I.h.dl) (atI_nat (d_get hi))) fun H1 e1 => ?_
    have I1 := I.mn e1
    dsimp only
    refine st_seq ?_
    cases hd : dl r.D i with
    | none =>
      refine ss_if (b := true) (pt_t (pv_isN (pv_var rfl) rfl)) (fun H2 e2 _ => ?_) fun H2 e2 h => nomatch h
      have : restOf (wOf r.rows) r.D q i = 0 := by unfold restOf; rw [hd]
      rw [this] at k
      exact ss_ret pv_c (k.mn (e1.trans e2))
    | some t =>
      refine ss_if (b := false) (pt_t (pv_isN (pv_var rfl) rfl)) (fun H2 e2 h => nomatch h) fun H2 e2 _ => ?_
      refine st_next ?_
      dsimp only
      have I2 := I1.mn e2
      have hw := I.c.du.eq i t hd
      have htm := (I.c.hw i t _ hw).2
      obtain ⟨ds, hds, hdl, hdg⟩ := I2.h.rw
      have hrow : r.rows[i]? = some (r.rows[i]'(by rw [I.len]; exact hi)) := List.getElem?_eq_getElem _
      obtain ⟨d, hd1, hd2⟩ := hdg _ _ hrow
      have hw' : lkA (r.rows[i]'(by rw [I.len]; exact hi)) t = some (u i + p t) := by unfold wOf at hw; rw [hrow] at hw; exact hw
      have hres : restOf (wOf r.rows) r.D q i = u i + p t - qf q t := by unfold restOf; rw [hd]; dsimp only; rw [hw]; rfl
      rw [hres] at k
      refine ss_ret (pv_sub (pv_dget (k := NK t) (v := .int (u i + p t)) (kvs := dk (r.rows[i]'(by rw [I.len]; exact hi))) (pv_ixL (pv_fld (pv_var rfl) I2.h.obH G.c_Prices G.a_Prices_rows rfl) (pv_var rfl) (SqL.of (I2.h.sB _ _ hds)) (atI_nat hd1)) (pv_var rfl) (Le.of I2.h.sB _ _ hd2) (by rw [dk_dg, dg_val, hw']; rfl)) (pv_ixL (pv_fld (pv_var rfl) I2.h.obH G.c_Prices G.a_Prices_prices rfl) (pv_var rfl) (SqL.of I2.h.hp) (atI_nat (q_get (by rw [I.i.lq]; exact htm))))) (k.mn (e1.trans e2))
/-! ### chain -/
def spChain (K : Frg) : Sp := fun vs H Q _ => ∃ (r : PSt) (B : Hp) (q : List Int) (rs : List (Option Nat)) (u p : Nat → Int) (t : Nat), vs = [.ref r.a, vn t] ∧ PIn K r B H q rs u p ∧ t < r.cs.length ∧ dl rs t ≠ none ∧
  ∀ p' H' q0 us a0 y, H p' = none → Same H H' → H' p' = some (.lst (.ref q0 :: us)) → H' q0 = some (.tup [vn a0, y]) → a0 < r.D.length → dl r.D a0 ≠ some t → Q (.ref p') H'
theorem sc_Prices_chain : FnScope N_Prices_chain ["self", "thing"] (defScope s_Prices_chain) := ⟨rfl, rfl, rfl, by decide +kernel, rfl, by decide +kernel, by decide +kernel⟩
theorem nBlw_le {m : Nat} {p : Nat → Int} {q : List Int} {τ : Nat → Nat} {t : Nat} : nBlw m p q τ t ≤ m := by
  unfold nBlw
  induction m with
  | zero => exact Nat.le_refl _
  | succ m ih =>
    rw [List.range_succ, List.map_append, List.sum_append]
    have : ([m].map fun y => @ite Nat (Blw p q τ t y) (Classical.propDecidable _) 1 0).sum ≤ 1 := by
      rw [List.map_cons, List.map_nil, List.sum_cons, List.sum_nil]
      split <;> omega
    omega
theorem ok_Prices_chain (G : Gx K mg) : KnownM P w K mg base CX0 1 (He.ga K "Prices") "chain" ["self", "thing"] (spChain K) := by
  have sc := sc_Prices_chain
  refine G.f_Prices_chain.known sc (fun _ _ _ _ _ _ us hl => match us, hl with | [_, _], _ => rfl) (fun vs H Q E h => ?_) (fun cdv A outer s H vs Q E hr h => ?_)
  · obtain ⟨r, B, q, rs, u, p, t, rfl, _⟩ := h; rfl
  · obtain ⟨r, B, q, rs, u, p, t, rfl, I, ht, hrt, k⟩ := h
    refine ⟨_, (pss_cons (ps_set (i := 2) sc.nd rfl (Or.inl rfl) (pe_lst pa_nil))
      (pss_cons (ps_set (i := 3) sc.nd rfl (Or.inl rfl) (pv 1))
      (pss_cons (ps_while PassesOwn.never (PW.pt (pw_and (pt_cmpR op_notN (pv 3) pe_non (nomark _)) (pw_and1 (pt_cmpR op_notN (pe_ix ix_list (pe_fld (pv 0) rfl) (pv 3) (fun _ _ => rfl)) pe_non (nomark _)))))
      (pss_cons (ps_set (i := 4) sc.nd rfl (Or.inl rfl) (pe_ix ix_list (pe_fld (pv 0) rfl) (pv 3) (fun _ _ => rfl)))
      (pss_cons (ps_expr (pe_bm PySem.F.plainAttrs_list PySem.F.slot_list_insert PySem.F.type_list_insert mt_insert (pv 2) (pa_cons pe_int (pa_cons (pe_tup (pa_cons (pv 4) (pa_cons (pv 3) pa_nil))) pa_nil))))
      (pss_cons (ps_set (i := 3) sc.nd rfl (Or.inl rfl) (pe_ix ix_list (pe_fld (pv 0) rfl) (pv 4) (fun _ _ => rfl)))
      (pss_one (ps_if (pt_cmpR op_eq (pv 3) (pv 1) (nomark _))
      (pss_one (ps_ret (pv 2))) pss_nil))))))
      (pss_one (ps_ret (pv 2)))))), ?_⟩
    obtain ⟨τ, c, hc, hτ⟩ := I.i.rk
    have hm1 := I.m1
    refine ss_lst pva_nil (Nat.zero_le _) fun H1 pl e1 hpl => ?_
    have hpl0 := e1.free hpl
    have e01 : Same H (upd H1 pl (.lst [])) := e1.trans (same_new hpl)
    dsimp only
    refine st_seq ?_
    refine ss_set (pv_var rfl) fun H2 e2 => ?_
    have e02 := e01.trans e2
    dsimp only
    refine st_seq ?_
    let msr : Option Nat → Nat := fun at_ => match at_ with | none => 0 | some y => nBlw r.cs.length p q τ y + 1
    refine w_while (fun n σ H' => ∃ (at_ : Option Nat) (us : List V) (y4 : Option V), n = msr at_ ∧ σ = [some (.ref r.a), some (vn t), some (.ref pl), some (vo at_), y4] ∧ Same H H' ∧ H' pl = some (.lst us) ∧ us.length + msr at_ ≤ msr (some t) ∧
      ((at_ = some t ∧ us = []) ∨ (∃ a0 q0 us' y, us = .ref q0 :: us' ∧ H' q0 = some (.tup [vn a0, y]) ∧ a0 < r.D.length ∧ dl r.D a0 = at_ ∧ ∀ y, at_ = some y → y < r.cs.length ∧ Blw p q τ t y))) (msr (some t)) ⟨some t, [], _, rfl, rfl, e02, e2 _ _ upd_same, Nat.le_of_eq (Nat.zero_add _), .inl ⟨rfl, rfl⟩⟩ ?_
    rintro n σ H3 ⟨at_, us, y4, rfl, rfl, e3, h3, hlen, hst⟩
    have I3 := I.mn e3
    have hatm : ∀ y, at_ = some y → y < r.cs.length := fun y hy => by
      rcases hst with ⟨h, _⟩ | ⟨_, _, _, _, _, _, _, _, h⟩
      · rw [h] at hy; cases hy; exact ht
      · exact (h y hy).1
    -- the head's end
    have fin : ∀ H4, Same H3 H4 → (∀ y, at_ = some y → dl rs y = none) → Q (.ref pl) H4 := fun H4 e4 hno => by
      rcases hst with ⟨h, _⟩ | ⟨a0, q0, us', y, rfl, hq0, ha0, hd0, hb⟩
      · exact absurd (hno t h) hrt
      · refine k pl H4 q0 us' a0 y hpl0 (e3.trans e4) (e4 _ _ h3) (e4 _ _ hq0) ha0 fun z => ?_
        rw [hd0] at z
        exact (hb t z).2.irr
    cases at_ with
    | none =>
      refine (pt_and (b := false) (c := false) (pt_t (pv_notN (pv_var rfl) rfl)) fun h => nomatch h) _ (Same.refl _) _ fun H4 e4 => ?_
      rw [if_neg (fun h => nomatch h)]
      exact ⟨_, rfl, fin H4 e4 fun y hy => by cases hy⟩
    | some y =>
      have hym := hatm y rfl
      refine (pt_and (b := true) (c := (dl rs y).isSome) (pt_t (pv_notN (pv_var rfl) rfl)) fun _ => pt_t (pv_notN (pv_ixL (pv_fld (pv_var rfl) I3.h.obH G.c_Prices G.a_Prices_raisers rfl) (pv_var rfl) (SqL.of I3.h.hk) (atI_nat (d_get (by rw [I.i.lr]; exact hym)))) (by rw [vo_non]; cases dl rs y <;> rfl))) _ (Same.refl _) _ fun H4 e4 => ?_
      have I4 := I3.mn e4
      cases hry : dl rs y with
      | none =>
        rw [if_neg (fun h => by cases h)]
        exact ⟨_, rfl, fin H4 e4 fun y' hy => by cases hy; exact hry⟩
      | some a =>
        rw [if_pos (show (true && (some a).isSome) = true from rfl)]
        obtain ⟨hq0, haD⟩ := I.i.ra y a hry
        have hnb := nBlw_le (m := r.cs.length) (p := p) (q := q) (τ := τ) (t := t)
        have hmst : msr (some t) = nBlw r.cs.length p q τ t + 1 := rfl
        have hmsy : msr (some y) = nBlw r.cs.length p q τ y + 1 := rfl
        have hbl : ∀ t', dl r.D a = some t' → t' < r.cs.length ∧ Blw p q τ y t' := fun t' h => ⟨(I.c.hw a t' _ (I.c.du.eq a t' h)).2, hτ y a t' hry h⟩
        have hbt : ∀ t', dl r.D a = some t' → Blw p q τ t t' := fun t' h => by
          rcases hst with ⟨h1, _⟩ | ⟨_, _, _, _, _, _, _, _, h1⟩
          · cases h1; exact (hbl t' h).2
          · exact (h1 y rfl).2.trans (hbl t' h).2
        have hms : msr (dl r.D a) < msr (some y) := by
          cases hda : dl r.D a with
          | none => exact Nat.succ_pos _
          | some t' =>
            have := nBlw_lt (m := r.cs.length) (hbl t' hda).2 (hbl t' hda).1
            show nBlw _ _ _ _ _ + 1 < nBlw _ _ _ _ _ + 1
            omega
        refine ⟨fun σ H' => ∃ (at_ : Option Nat) (us : List V) (y4 : Option V), msr at_ < msr (some y) ∧ σ = [some (.ref r.a), some (vn t), some (.ref pl), some (vo at_), y4] ∧ Same H H' ∧ H' pl = some (.lst us) ∧ us.length + msr at_ ≤ msr (some t) ∧
      ((at_ = some t ∧ us = []) ∨ (∃ a0 q0 us' y, us = .ref q0 :: us' ∧ H' q0 = some (.tup [vn a0, y]) ∧ a0 < r.D.length ∧ dl r.D a0 = at_ ∧ ∀ y, at_ = some y → y < r.cs.length ∧ Blw p q τ t y)), fun σ2 H5 ⟨at2, us2, y5, hlt, h⟩ => ⟨_, hlt, at2, us2, y5, rfl, h⟩, ?_⟩
        refine st_seq ?_
        refine ss_set (v := vn a) (pv_ixL (pv_fld (pv_var rfl) I4.h.obH G.c_Prices G.a_Prices_raisers rfl) (pv_var rfl) (SqL.of I4.h.hk) (atI_nat (by rw [d_get (by rw [I.i.lr]; exact hym), hry]; rfl))) fun H5 e5 => ?_
        have h5 := (e4.trans e5) _ _ h3
        dsimp only
        refine st_seq ?_
        refine ss_ins (xs := us) rfl h5 (by rw [sizeLine_eq]; omega) (et_tup (vs := [vn a, vn y]) (pva_2 (pv_var rfl) (pv_var rfl)) (by show 2 ≤ _; decide)) fun qn H6 hqn e6 h6 => ?_
        have e06 := e3.trans (e4.trans (e5.trans e6))
        have hne : qn ≠ pl := fun z => by rw [z, h5] at hqn; cases hqn
        have e07 : Same H (upd H6 pl (.lst (.ref qn :: us))) := same_mut e06 hpl0
        have I7 := I.mn e07
        have hq7 : (upd H6 pl (.lst (.ref qn :: us))) qn = some (.tup [vn a, vn y]) := by rw [upd_ne hne]; exact h6
        dsimp only
        refine st_seq ?_
        refine ss_set (v := vo (dl r.D a)) (pv_ixL (pv_fld (pv_var rfl) I7.h.obH G.c_Prices G.a_Prices_dealt rfl) (pv_var rfl) (SqL.mn I7.h.sB I.h.dl) (atI_nat (d_get haD))) fun H8 e8 => ?_
        have hne2 : dl r.D a ≠ some t := fun z => (hbt t z).irr
        refine ss_if (b := false) (pt_t (pv_eq (pv_var rfl) (pv_var rfl) vo_scal (by rw [vo_eq]; exact decide_eq_false hne2))) (fun H9 e9 h => nomatch h) fun H9 e9 _ => ?_
        refine ⟨dl r.D a, .ref qn :: us, _, hms, rfl, e07.trans (e8.trans e9), (e8.trans e9) _ _ upd_same, ?_, .inr ⟨a, qn, us, vn y, rfl, (e8.trans e9) _ _ hq7, haD, rfl, fun t' h => ⟨(hbl t' h).1, hbt t' h⟩⟩⟩
        rw [List.length_cons]
        omega
/-! ### way_by -/
def spWayBy (K : Frg) : Sp := fun vs H Q _ => ∃ (r : PSt) (B : Hp) (q : List Int) (rs : List (Option Nat)) (u p : Nat → Int) (t : Nat), vs = [.ref r.a, vn t] ∧ PIn K r B H q rs u p ∧ t < r.cs.length ∧ dl rs t ≠ none ∧ RetG .non H Q
theorem sc_Prices_way_by : FnScope N_Prices_way_by ["self", "thing"] (defScope s_Prices_way_by) := ⟨rfl, rfl, rfl, by decide +kernel, rfl, by decide +kernel, by decide +kernel⟩
theorem ok_Prices_way_by (G : Gx K mg) : KnownM P w K mg base CX0 2 (He.ga K "Prices") "way_by" ["self", "thing"] (spWayBy K) := by
  have sc := sc_Prices_way_by
  have k_Prices_chain := ok_Prices_chain (P := P) (w := w) (base := base) G
  have k_Prices_rest := ok_Prices_rest (P := P) (w := w) (base := base) G
  refine G.f_Prices_way_by.known sc (fun _ _ _ _ _ _ us hl => match us, hl with | [_, _], _ => rfl) (fun vs H Q E h => ?_) (fun cdv A outer s H vs Q E hr h => ?_)
  · obtain ⟨r, B, q, rs, u, p, t, rfl, _⟩ := h; rfl
  · obtain ⟨r, B, q, rs, u, p, t, rfl, I, ht, hrt, k⟩ := h
    refine ⟨_, (pss_cons (ps_set (i := 2) sc.nd rfl (Or.inl rfl) (pe_knM k_Prices_chain G.c_Prices (hr.mono (by decide)) pass0 (pv 0) (pa_cons (pv 1) pa_nil)))
      (pss_cons (ps_if (PW.pt (pw_or (pt_cmpR op_gt (pe_ix ix_list (pe_fld (pv 0) rfl) (pv 1) (fun _ _ => rfl)) pe_int (nomark _)) (pw_or1 (pt_cmpR op_eq (pe_ix ix_list (pe_fld (pv 0) rfl) (pe_ix ix_tup (pe_ix ix_list (pv 2) pe_int (fun _ _ => rfl)) pe_int (fun _ _ => rfl)) (fun _ _ => rfl)) (pv 1) (nomark _)))))
      (pss_one (ps_ret (pv 2))) pss_nil)
      (pss_cons (ps_for PassesOwn.never rfl (pi_enum rfl G.n_enumerate (pa_cons (pe_fld (pv 0) rfl) pa_nil)) (pg_tup rfl (pgs_cons (pg_name (i := 3) sc.nd rfl (Or.inl rfl)) (pgs_cons (pg_name (i := 4) sc.nd rfl (Or.inl rfl)) pgs_nil)))
      (pss_one (ps_if (PW.pt (pw_and (pt_cmpR op_eq (pv 4) (pv 1) (nomark _)) (pw_and1 (pt_cmpR op_lt (pe_knM k_Prices_rest G.c_Prices (hr.mono (by decide)) pass0 (pv 0) (pa_cons (pv 3) pa_nil)) pe_int (nomark _)))))
      (pss_one (ps_ret (pe_op op_cat (pv 2) (pe_lst (pa_cons (pe_tup (pa_cons (pv 3) (pa_cons pe_non pa_nil))) pa_nil))))) pss_nil)))
      (pss_one (ps_ret pe_non))))), ?_⟩
    refine st_seq ⟨_, rfl, r.a, r.dx, r.fs, rfl, I.h.obH, rfl, _, rfl, ?_⟩
    refine ⟨r, B, q, rs, u, p, t, rfl, I, ht, hrt, fun pl H1 q0 us a0 y hpl e1 h1 hq0 ha0 hd0 => ?_⟩
    have I1 := I.mn e1
    have hl0 : ¬ (0 : Int) < (csf r.cs t : Int) - (r.D.count (some t) : Int) := fun z => by
      have h2 := I.c.du.lf t ht (by omega)
      have h3 := I.i.qp t ht
      cases hra : dl rs t with
      | none => exact hrt hra
      | some a => have := (I.i.ra t a hra).1; omega
    dsimp only
    refine st_seq ?_
    refine ss_if (b := false || false) (pt_or (pt_t (pv_cmp (pv_ixL (pv_fld (pv_var rfl) I1.h.obH G.c_Prices G.a_Prices_left rfl) (pv_var rfl) (SqL.mn I1.h.sB I.h.lf) (atI_nat (leftL_get ht))) pv_c (decide_eq_false hl0))) fun _ => pt_t (pv_eq (pv_ixL (pv_fld (pv_var rfl) I1.h.obH G.c_Prices G.a_Prices_dealt rfl) (pv_ixT (v := vn a0) (pv_ixL (pv_var rfl) pv_c (SqL.of h1) (atI_nat (j := 0) rfl)) pv_c (SqT.of hq0) rfl) (SqL.mn I1.h.sB I.h.dl) (atI_nat (d_get ha0))) (pv_var rfl) vo_scal (by rw [vo_eq]; exact decide_eq_false hd0))) (fun H2 e2 h => nomatch h) fun H2 e2 _ => ?_
    refine st_next ?_
    dsimp only
    refine st_seq ?_
    have e02 := e1.trans e2
    refine w_forE (fun Q q => val_fld (val_var rfl) (I.mn e02).h.obH G.c_Prices G.a_Prices_dealt rfl _ q) (SqL.mn (I.mn e02).h.sB I.h.dl) (fun j σ H' => ∃ y3 y4, σ = [some (.ref r.a), some (vn t), some (.ref pl), y3, y4] ∧ Same H H') ⟨_, _, rfl, e02⟩ (fun j σ H' _ ⟨_, _, _, e⟩ => SqL.mn (I.mn e).h.sB I.h.dl) ?_ ?_
    · rintro j x σ H3 H4 hj ⟨y3, y4, rfl, e3⟩ e4
      have e04 := e3.trans e4
      have hjl : j < r.D.length := by have := (List.getElem?_eq_some_iff.mp hj).1; rwa [List.length_map] at this
      rw [d_get hjl] at hj
      cases hj
      have I4 := I.mn e04
      refine ss_if (b := decide (dl r.D j = some t) && false) (pt_and (pt_t (pv_eq (pv_var rfl) (pv_var rfl) vo_scal vo_eq)) fun _ => pt_t (pv_cmp (i := restOf (wOf r.rows) r.D q j) (pv_meth (pv_var rfl) I4.h.obH rfl (pva_1 (pv_var rfl)) fun H5 e Q k => ⟨r, B, q, rs, u, p, j, rfl, I4.mn e, hjl, k⟩) pv_c (decide_eq_false (by have := I.i.rest0 I.c hjl; omega)))) (fun H5 e5 h => by rw [Bool.and_false] at h; cases h) fun H5 e5 _ => ?_
      exact ⟨_, _, rfl, e04.trans e5⟩
    · rintro σ H3 ⟨y3, y4, rfl, e3⟩
      dsimp only
      exact ss_ret pv_c (k.mn e3)
end
end Wd
set_option Elab.async false
set_option linter.all false
set_option maxRecDepth 100000
set_option maxHeartbeats 4000000
/-! prices: raised_by, settle, told; best_dealing -/
namespace Wd
open PySem PySem.Spec PyProof.Rows L2
section
variable {K : Frg} {r : PSt} {B H H1 H' : Hp} {q q' : List Int} {rs rs' : List (Option Nat)}
theorem PHq.lock {l : List (Nat × Int)} {d : Addr} {od : Obj} (h : PHq K r B H q rs) (hd : B d = some (.dK (dk l))) (e : Same (upd H d (.frz od (.dK (dk l)))) H') : PHq K r (upd B d (.frz od (.dK (dk l)))) H' q rs := by
  have p1 : r.pp ≠ d := Ne.symm (ne_of_none hd h.n1)
  have p2 : r.kp ≠ d := Ne.symm (ne_of_none hd h.n2)
  refine ⟨fun b o hb => e _ _ ?_, by rw [upd_ne p1]; exact h.n1, by rw [upd_ne p2]; exact h.n2, h.ne, e _ _ (by rw [upd_ne p1]; exact h.hp), e _ _ (by rw [upd_ne p2]; exact h.hk), lock_at hd h.ob (fun z => by cases z), lock_l hd (fun xs z => by cases z) (fun o xs z => by cases z) h.dl, lock_l hd (fun xs z => by cases z) (fun o xs z => by cases z) h.lf, ?_⟩
  · by_cases z : b = d
    · rw [z, upd_same] at hb ⊢; exact hb
    · rw [upd_ne z] at hb ⊢; exact h.sB _ _ hb
  · obtain ⟨ds, h1, h2, h3⟩ := h.rw
    refine ⟨ds, lock_at hd h1 (fun z => by cases z), h2, fun i l' hl => ?_⟩
    obtain ⟨d', h4, h5⟩ := h3 i l' hl
    refine ⟨d', h4, ?_⟩
    by_cases z : d' = d
    · rw [z] at h5 ⊢
      rcases h5 with h5 | ⟨o, h5⟩
      · rw [hd] at h5
        have h6 := HO.dK.inj (Option.some.inj h5)
        rw [← h6]
        exact .inr ⟨od, upd_same⟩
      · rw [hd] at h5; cases h5
    · rcases h5 with h5 | ⟨o, h5⟩
      · exact .inl (by rw [upd_ne z]; exact h5)
      · exact .inr ⟨o, by rw [upd_ne z]; exact h5⟩
theorem PHq.unlock {l : List (Nat × Int)} {d : Addr} {od : Obj} (h : PHq K r (upd B d (.frz od (.dK (dk l)))) H' q' rs') (h0 : PHq K r B H q rs) (hd : B d = some (.dK (dk l))) : PHq K r B (upd H' d (.dK (dk l))) q' rs' := by
  have p1 : r.pp ≠ d := Ne.symm (ne_of_none hd h0.n1)
  have p2 : r.kp ≠ d := Ne.symm (ne_of_none hd h0.n2)
  refine ⟨fun b o hb => ?_, h0.n1, h0.n2, h0.ne, by rw [upd_ne p1]; exact h.hp, by rw [upd_ne p2]; exact h.hk, h0.ob, h0.dl, h0.lf, h0.rw⟩
  by_cases z : b = d
  · rw [z, hd] at hb; rw [z, upd_same]; exact hb
  · rw [upd_ne z]; exact h.sB _ _ (by rw [upd_ne z]; exact hb)
theorem PHq.putP (h : PHq K r B H q rs) : PHq K r B (upd H r.pp (.lst (q'.map V.int))) q' rs := ⟨same_mut h.sB h.n1, h.n1, h.n2, h.ne, upd_same, by rw [upd_ne (Ne.symm h.ne)]; exact h.hk, h.ob, h.dl, h.lf, h.rw⟩
theorem PHq.putK (h : PHq K r B H q rs) : PHq K r B (upd H r.kp (.lst (rs'.map vo))) q rs' := ⟨same_mut h.sB h.n2, h.n1, h.n2, h.ne, by rw [upd_ne h.ne]; exact h.hp, upd_same, h.ob, h.dl, h.lf, h.rw⟩
theorem ss_setix {σ : L2.St} {D : Ends} {te to ti : TE} {a : Addr} {xs : List V} {j : Nat} {v : V} (hv : Pv te σ H v) (ho : Pv to σ H (.ref a)) (hi : Pv ti σ H (vn j)) (h : H a = some (.lst xs)) (hj : j < xs.length) (k : ∀ H1, Same H H1 → D.nx σ (upd H1 a (.lst (xs.set j v)))) : tAsg te (gSub to ti rSetL) D σ H :=
  hv.run fun H1 e1 => ho H1 e1 _ fun H2 e2 => hi H2 (e1.trans e2) _ fun H3 e3 => ⟨a, xs, j, j, rfl, rfl, (e1.trans (e2.trans e3)) _ _ h, ixN_nat hj, k H3 (e1.trans (e2.trans e3))⟩
end
section
variable {P : Program} {w : World} {K : Frg} {mg : Str → Option Value} {base : Heap}
def spRaise (K : Frg) : Sp := fun vs H Q _ => ∃ (r : PSt) (B : Hp) (q : List Int) (rs : List (Option Nat)) (u p : Nat → Int) (i : Nat), vs = [.ref r.a, vn i] ∧ PIn K r B H q rs u p ∧ RW B (.ref r.rp) r.rows ∧ RwOk r.rows ∧ i < r.D.length ∧
  ∀ tp H' q' rs' b, PHq K r B H' q' rs' → PI r.cs.length r.D p q' rs' → (b = true → pMeas r.cs.length p q' < pMeas r.cs.length p q) → (b = false → q' = q ∧ rs' = rs ∧ ∀ t x, wOf r.rows i t = some x → x ≤ restOf (wOf r.rows) r.D q i + qf q t) → H' tp = some (.tup [.bl b, .non]) → Q (.ref tp) H'
theorem sc_Prices_raised_by : FnScope N_Prices_raised_by ["self", "asker"] (defScope s_Prices_raised_by) := ⟨rfl, rfl, rfl, by decide +kernel, rfl, by decide +kernel, by decide +kernel⟩
theorem ok_Prices_raised_by (G : Gx K mg) : KnownM P w K mg base CX0 3 (He.ga K "Prices") "raised_by" ["self", "asker"] (spRaise K) := by
  have sc := sc_Prices_raised_by
  have k_Prices_rest := ok_Prices_rest (P := P) (w := w) (base := base) G
  have k_Prices_way_by := ok_Prices_way_by (P := P) (w := w) (base := base) G
  refine G.f_Prices_raised_by.known sc (fun _ _ _ _ _ _ us hl => match us, hl with | [_, _], _ => rfl) (fun vs H Q E h => ?_) (fun cdv A outer s H vs Q E hr h => ?_)
  · obtain ⟨r, B, q, rs, u, p, i, rfl, _⟩ := h; rfl
  · obtain ⟨r, B, q, rs, u, p, i, rfl, I, hRW, hok, hi, k⟩ := h
    refine ⟨_, (pss_cons (ps_set (i := 2) sc.nd rfl (Or.inl rfl) pe_bl)
      (pss_cons (ps_lock (ps_for PassesOwn.never rfl (pi_items (pe_ix ix_list (pe_fld (pv 0) rfl) (pv 1) (fun _ _ => rfl))) (pg_tup rfl (pgs_cons (pg_name (i := 3) sc.nd rfl (Or.inl rfl)) (pgs_cons (pg_name (i := 4) sc.nd rfl (Or.inl rfl)) pgs_nil)))
      (pss_cons (ps_set (i := 5) sc.nd rfl (Or.inl rfl) (pe_op op_sub (pv 4) (pe_knM k_Prices_rest G.c_Prices (hr.mono (by decide)) pass0 (pv 0) (pa_cons (pv 1) pa_nil))))
      (pss_one (ps_if (pt_cmpR op_gt (pv 5) (pe_ix ix_list (pe_fld (pv 0) rfl) (pv 3) (fun _ _ => rfl)) (nomark _))
      (pss_cons (ps_asg (pv 5) (pg_sub (pe_fld (pv 0) rfl) (pv 3) set_list))
      (pss_cons (ps_asg (pv 1) (pg_sub (pe_fld (pv 0) rfl) (pv 3) set_list))
      (pss_cons (ps_set (i := 2) sc.nd rfl (Or.inl rfl) pe_bl)
      (pss_cons (ps_set (i := 6) sc.nd rfl (Or.inl rfl) (pe_knM k_Prices_way_by G.c_Prices (hr.mono (by decide)) pass0 (pv 0) (pa_cons (pv 3) pa_nil)))
      (pss_one (ps_if (pt_cmpR op_notN (pv 6) pe_non (nomark _))
      (pss_one (ps_ret (pe_tup (pa_cons (pv 2) (pa_cons (pv 6) pa_nil))))) pss_nil)))))) pss_nil)))))
      (pss_one (ps_ret (pe_tup (pa_cons (pv 2) (pa_cons pe_non pa_nil))))))), ?_⟩
    refine ss_set pv_c fun H1 e1 => ?_
    have I1 := I.mn e1
    obtain ⟨ds, hds, hdl, hdg⟩ := rw_get hRW
    have hrow : r.rows[i]? = some (r.rows[i]'(by rw [I.len]; exact hi)) := List.getElem?_eq_getElem _
    obtain ⟨d, hd1, hd2⟩ := hdg _ _ hrow
    have hgd : r.rows[i]?.getD [] = r.rows[i]'(by rw [I.len]; exact hi) := by rw [hrow]; rfl
    generalize hrl : r.rows[i]'(by rw [I.len]; exact hi) = l at *
    have hnd := hok.nd l (List.mem_of_getElem? hrow)
    have hw : ∀ e ∈ l, wOf r.rows i e.1 = some e.2 := fun e he => by
      unfold wOf
      rw [hgd]
      exact lkA_mem hnd he
    have hdH := I1.h.sB _ _ hd2
    dsimp only
    refine st_seq ?_
    refine w_lockI (d := d) (l := l) hdH (fun od => ?_) (fun od k σ H' => ∃ q' rs' b y3 y4 y5 y6, σ = [some (.ref r.a), some (vn i), some (.bl b), y3, y4, y5, y6] ∧ H' d = some (.frz od (.dK (dk l))) ∧ PHq K r (upd B d (.frz od (.dK (dk l)))) H' q' rs' ∧ PI r.cs.length r.D p q' rs' ∧ (b = true → pMeas r.cs.length p q' < pMeas r.cs.length p q) ∧ (b = false → q' = q ∧ rs' = rs ∧ ∀ e ∈ l.take k, e.2 ≤ restOf (wOf r.rows) r.D q i + qf q e.1)) (fun od H2 e2 => ?_) (fun od k σ H' ⟨_, _, _, _, _, _, _, _, h, _⟩ => h) ?_ ?_
    · exact pv_ixL (pv_fld (pv_var rfl) (lock_at hdH I1.h.obH (fun z => by cases z)) G.c_Prices G.a_Prices_rows rfl) (pv_var rfl) (SqL.of (lock_at hdH (I1.h.sB _ _ hds) (fun z => by cases z))) (atI_nat hd1)
    · exact ⟨q, rs, false, _, _, _, _, rfl, e2 _ _ upd_same, I1.h.lock hd2 e2, I.i, (fun h => nomatch h), fun _ => ⟨rfl, rfl, fun e he => by simp at he⟩⟩
    · rintro od j e σ H2 H3 he ⟨q1, rs1, b1, y3, y4, y5, y6, rfl, hd3, hP, R1, hb1, hb0⟩ e3
      have hem := List.mem_of_getElem? he
      have hwe := hw e hem
      have htm := (I.c.hw i e.1 _ hwe).2
      have htk : l.take (j + 1) = l.take j ++ [e] := by rw [List.take_succ, he]; rfl
      have I3 : PIn K r (upd B d (.frz od (.dK (dk l)))) H3 q1 rs1 u p := ⟨hP.mn e3, I.c, R1, I.len, I.l1, I.m1⟩
      refine ss_set (v := .int (e.2 - restOf (wOf r.rows) r.D q1 i)) (pv_sub (pv_var rfl) (pv_meth (pv_var rfl) I3.h.obH rfl (pva_1 (pv_var rfl)) fun H4 e4 Q k => ⟨r, _, q1, rs1, u, p, i, rfl, I3.mn e4, hi, k⟩)) fun H4 e4 => ?_
      have I4 := I3.mn e4
      dsimp only
      refine ss_if (b := decide (qf q1 e.1 < e.2 - restOf (wOf r.rows) r.D q1 i)) (pt_t (pv_cmp (pv_var rfl) (pv_ixL (pv_fld (pv_var rfl) I4.h.obH G.c_Prices G.a_Prices_prices rfl) (pv_var rfl) (SqL.of I4.h.hp) (atI_nat (q_get (by rw [R1.lq]; exact htm)))) rfl)) (fun H5 e5 hb => ?_) fun H5 e5 hb => ?_
      · have hbet := of_decide_eq_true hb
        obtain ⟨R2, hless⟩ := R1.raise I.c hi hwe hbet
        have I5 := I4.mn e5
        refine st_seq ?_
        refine ss_setix (j := e.1) (pv_var rfl) (pv_fld (pv_var rfl) I5.h.obH G.c_Prices G.a_Prices_prices rfl) (pv_var rfl) I5.h.hp (by rw [List.length_map, R1.lq]; exact htm) fun H6 e6 => ?_
        have eq1 : (q1.map V.int).set e.1 (.int (e.2 - restOf (wOf r.rows) r.D q1 i)) = (q1.set e.1 (e.2 - restOf (wOf r.rows) r.D q1 i)).map V.int := by rw [List.map_set]
        rw [eq1]
        have h7 := (I5.mn e6).h.putP (q' := q1.set e.1 (e.2 - restOf (wOf r.rows) r.D q1 i))
        dsimp only
        refine st_seq ?_
        refine ss_setix (j := e.1) (v := vo (some i)) (pv_var rfl) (pv_fld (pv_var rfl) h7.obH G.c_Prices G.a_Prices_raisers rfl) (pv_var rfl) h7.hk (by rw [List.length_map, R1.lr]; exact htm) fun H8 e8 => ?_
        have eq2 : (rs1.map vo).set e.1 (vo (some i)) = (rs1.set e.1 (some i)).map vo := by rw [List.map_set]
        rw [eq2]
        have h9 := (h7.mn e8).putK (rs' := rs1.set e.1 (some i))
        dsimp only
        refine st_seq ?_
        refine ss_set pv_c fun H10 e10 => ?_
        have I10 : PIn K r (upd B d (.frz od (.dK (dk l)))) H10 (q1.set e.1 (e.2 - restOf (wOf r.rows) r.D q1 i)) (rs1.set e.1 (some i)) u p := ⟨h9.mn e10, I.c, R2, I.len, I.l1, I.m1⟩
        dsimp only
        refine st_seq ?_
        refine ss_set (v := .non) (pv_meth (pv_var rfl) I10.h.obH rfl (pva_1 (pv_var rfl)) fun H11 e11 Q k => ⟨r, _, _, _, u, p, e.1, rfl, I10.mn e11, htm, (by rw [dl_set (by rw [R1.lr]; exact htm), if_pos rfl]; exact fun z => by cases z), k⟩) fun H11 e11 => ?_
        refine ss_if (b := false) (pt_t (pv_notN (pv_var rfl) rfl)) (fun H12 e12 h => nomatch h) fun H12 e12 _ => ?_
        have h12 := h9.mn (e10.trans (e11.trans e12))
        refine ⟨_, _, true, _, _, _, _, rfl, h12.sB _ _ upd_same, h12, R2, (fun _ => ?_), fun h => nomatch h⟩
        cases hb2 : b1 with
        | true => exact Nat.lt_trans hless (hb1 hb2)
        | false => rw [(hb0 hb2).1] at hless ⊢; exact hless
      · have hnb := of_decide_eq_false hb
        refine ⟨q1, rs1, b1, _, _, _, _, rfl, (I4.mn e5).h.sB _ _ upd_same, (I4.mn e5).h, R1, hb1, fun h => ?_⟩
        obtain ⟨h1, h2, h3⟩ := hb0 h
        refine ⟨h1, h2, fun e' he' => ?_⟩
        rw [htk] at he'
        rcases List.mem_append.mp he' with he' | he'
        · exact h3 e' he'
        · rw [List.mem_singleton.mp he']
          rw [h1] at hnb
          omega
    · rintro od σ H2 ⟨q1, rs1, b1, y3, y4, y5, y6, rfl, hd3, hP, R1, hb1, hb0⟩
      have h3 := hP.unlock I.h hd2
      refine Wd.st_rett (et_tup (vs := [.bl b1, .non]) (pva_2 (pv_var rfl) pv_c) (by show 2 ≤ _; decide)) fun tp H4 htp e4 h4 => ?_
      refine k tp H4 q1 rs1 b1 (h3.mn e4) R1 hb1 (fun h => ?_) h4
      obtain ⟨h5, h6, h7⟩ := hb0 h
      refine ⟨h5, h6, fun t x hx => ?_⟩
      rw [List.take_length] at h7
      have hx' : lkA l t = some x := by
        unfold wOf at hx
        rw [hgd] at hx
        exact hx
      exact h7 (t, x) (lkA_some hx')
/-! ### settle -/
def spSettle (K : Frg) : Sp := fun vs H Q _ => ∃ (r : PSt) (B : Hp) (q : List Int) (rs : List (Option Nat)) (u p : Nat → Int), vs = [.ref r.a] ∧ PIn K r B H q rs u p ∧ RW B (.ref r.rp) r.rows ∧ RwOk r.rows ∧
  ∀ H' q' rs', PHq K r B H' q' rs' → PI r.cs.length r.D p q' rs' → PFix (wOf r.rows) r.D q' → Q .non H'
theorem sc_Prices_settle : FnScope N_Prices_settle ["self"] (defScope s_Prices_settle) := ⟨rfl, rfl, rfl, by decide +kernel, rfl, by decide +kernel, by decide +kernel⟩
theorem ok_Prices_settle (G : Gx K mg) : KnownM P w K mg base CX0 4 (He.ga K "Prices") "settle" ["self"] (spSettle K) := by
  have sc := sc_Prices_settle
  have k_Prices_raised_by := ok_Prices_raised_by (P := P) (w := w) (base := base) G
  refine G.f_Prices_settle.known sc (fun _ _ _ _ _ _ us hl => match us, hl with | [_], _ => rfl) (fun vs H Q E h => ?_) (fun cdv A outer s H vs Q E hr h => ?_)
  · obtain ⟨r, B, q, rs, u, p, rfl, _⟩ := h; rfl
  · obtain ⟨r, B, q, rs, u, p, rfl, I, hRW, hok, k⟩ := h
    refine ⟨_, (pss_cons (ps_set (i := 1) sc.nd rfl (Or.inl rfl) pe_bl)
      (pss_cons (ps_while PassesOwn.never (pt_val (pv 1))
      (pss_cons (ps_set (i := 1) sc.nd rfl (Or.inl rfl) pe_bl)
      (pss_one (ps_for PassesOwn.never rfl (pi_range1 rfl G.n_range (pa_cons (pe_callB call_len_seq (by rfl) G.n_len (by decide +kernel) (pa_cons (pe_fld (pv 0) rfl) pa_nil)) pa_nil)) (pg_name (i := 2) sc.nd rfl (Or.inl rfl))
      (pss_cons (ps_asg (pe_knM k_Prices_raised_by G.c_Prices (hr.mono (by decide)) pass0 (pv 0) (pa_cons (pv 2) pa_nil)) (pg_tup rfl (pgs_cons (pg_name (i := 3) sc.nd rfl (Or.inl rfl)) (pgs_cons (pg_name (i := 4) sc.nd rfl (Or.inl rfl)) pgs_nil))))
      (pss_cons (ps_if (pt_cmpR op_notN (pv 4) pe_non (nomark _))
      (pss_one (ps_ret (pv 4))) pss_nil)
      (pss_one (ps_set (i := 1) sc.nd rfl (Or.inl rfl) (pe_or (pv 1) (pe_one (pv 3)))))))))))
      (pss_one (ps_ret pe_non)))), ?_⟩
    obtain ⟨ds, hds, hdl, hdg⟩ := rw_get hRW
    have hl1 := I.l1
    have hlen := I.len
    refine ss_set pv_c fun H1 e1 => ?_
    dsimp only
    refine st_seq ?_
    refine w_while (fun n σ H' => ∃ q' rs' b y2 y3 y4, σ = [some (.ref r.a), some (.bl b), y2, y3, y4] ∧ PHq K r B H' q' rs' ∧ PI r.cs.length r.D p q' rs' ∧ (b = false → PFix (wOf r.rows) r.D q') ∧ n = pMeas r.cs.length p q' + (if b then 1 else 0)) (pMeas r.cs.length p q + 1) ⟨q, rs, true, _, _, _, rfl, (I.mn e1).h, I.i, (fun h => nomatch h), rfl⟩ ?_
    rintro n σ H2 ⟨q1, rs1, b1, y2, y3, y4, rfl, hP, R1, hf, rfl⟩
    refine (pt_b (b := b1) (pv_var rfl)) _ (Same.refl _) _ fun H3 e3 => ?_
    cases b1 with
    | false =>
      rw [if_neg (fun h => nomatch h)]
      dsimp only
      exact ss_ret pv_c fun H4 e4 => k H4 q1 rs1 (hP.mn (e3.trans e4)) R1 (hf rfl)
    | true =>
      rw [if_pos rfl]
      refine ⟨fun σ H' => ∃ q' rs' b y2 y3 y4, σ = [some (.ref r.a), some (.bl b), y2, y3, y4] ∧ PHq K r B H' q' rs' ∧ PI r.cs.length r.D p q' rs' ∧ (b = false → PFix (wOf r.rows) r.D q') ∧ pMeas r.cs.length p q' + (if b then 1 else 0) < pMeas r.cs.length p q1 + 1, fun σ2 H4 ⟨q', rs', b, y2, y3, y4, h1, h2, h3, h4, h5⟩ => ⟨_, h5, q', rs', b, y2, y3, y4, h1, h2, h3, h4, rfl⟩, ?_⟩
      refine st_seq ?_
      refine ss_set pv_c fun H4 e4 => ?_
      have hP4 := hP.mn (e3.trans e4)
      dsimp only
      refine w_forR (n := (r.D.length : Int)) (fun Q q => ?_) (by omega) (by omega) (fun j σ H' => ∃ q' rs' b y2 y3 y4, σ = [some (.ref r.a), some (.bl b), y2, y3, y4] ∧ PHq K r B H' q' rs' ∧ PI r.cs.length r.D p q' rs' ∧ (b = false → q' = q1 ∧ rs' = rs1 ∧ ∀ a, a < j → ∀ t x, wOf r.rows a t = some x → x ≤ restOf (wOf r.rows) r.D q1 a + qf q1 t) ∧ (b = true → pMeas r.cs.length p q' < pMeas r.cs.length p q1)) ⟨q1, rs1, false, _, _, _, rfl, hP4, R1, fun _ => ⟨rfl, rfl, fun a h => absurd h (Nat.not_lt_zero _)⟩, fun h => nomatch h⟩ ?_ ?_
      · refine val_fld (val_var rfl) hP4.obH G.c_Prices G.a_Prices_rows rfl _ ⟨r.rp, ds, rfl, .inl (SqL.of (hP4.sB _ _ hds)), ?_⟩
        rw [hdl, hlen]
        exact q
      · rintro j σ H5 hj ⟨q2, rs2, b2, y2', y3', y4', rfl, hP5, R2, hb0, hb1⟩
        have hjD : j < r.D.length := by omega
        have I5 : PIn K r B H5 q2 rs2 u p := ⟨hP5, I.c, R2, I.len, I.l1, I.m1⟩
        refine st_seq ⟨_, rfl, r.a, r.dx, r.fs, rfl, hP5.obH, rfl, _, rfl, ?_⟩
        refine ⟨r, B, q2, rs2, u, p, j, rfl, I5, hRW, hok, hjD, fun tp H6 q3 rs3 b3 hP6 R3 hc1 hc0 h6 => ?_⟩
        refine w_tg2 (SqT.of h6) ?_
        dsimp only
        refine st_seq ?_
        refine ss_if (b := false) (pt_t (pv_notN (pv_var rfl) rfl)) (fun H7 e7 h => nomatch h) fun H7 e7 _ => ?_
        refine st_next ?_
        dsimp only
        have hP7 := hP6.mn e7
        refine ⟨_, rfl, b2, rfl, ?_⟩
        cases b2 with
        | true =>
          rw [if_pos rfl]
          refine ⟨q3, rs3, true, _, _, _, rfl, hP7, R3, (fun h => nomatch h), fun _ => ?_⟩
          have h8 := hb1 rfl
          cases b3 with
          | true => exact Nat.lt_trans (hc1 rfl) h8
          | false => rw [(hc0 rfl).1]; exact h8
        | false =>
          rw [if_neg (fun h => nomatch h)]
          obtain ⟨rfl, rfl, hall⟩ := hb0 rfl
          refine ⟨_, rfl, q3, rs3, b3, _, _, _, rfl, hP7, R3, fun h => ?_, hc1⟩
          obtain ⟨h8, h9, h10⟩ := hc0 h
          refine ⟨h8, h9, fun a ha t x hx => ?_⟩
          by_cases haj : a = j
          · subst haj; exact h10 t x hx
          · exact hall a (by omega) t x hx
      · rintro σ H5 ⟨q2, rs2, b2, y2', y3', y4', rfl, hP5, R2, hb0, hb1⟩
        refine ⟨q2, rs2, b2, _, _, _, rfl, hP5, R2, fun h => ?_, ?_⟩
        · obtain ⟨rfl, rfl, hall⟩ := hb0 h
          exact fun a ha t x hx => hall a (by omega) t x hx
        · cases b2 with
          | true => have := hb1 rfl; show pMeas _ _ _ + 1 < _; omega
          | false => rw [(hb0 rfl).1]; show pMeas _ _ _ + 0 < _; omega
end
end Wd
set_option Elab.async false
set_option linter.all false
set_option maxRecDepth 100000
set_option maxHeartbeats 4000000
/-! prices: told, the start; best_dealing -/
namespace Wd
open PySem PySem.Spec PyProof.Rows L2
/-- the worths of the wishes -/
def wL (s : Str) (ls : List (List (List Nat))) (a t : Nat) : Option Int := if a < ls.length ∧ t ∈ (ls[a]?.getD []).flatten then some (wth s ls a t) else none
theorem wOf_eq {s : Str} {ls : List (List (List Nat))} {tss : List (List Nat)} (h : TssOk ls tss) : wOf (rowsOf s ls tss) = wL s ls := by
  funext a t
  unfold wL
  by_cases ha : a < ls.length ∧ t ∈ (ls[a]?.getD []).flatten
  · rw [if_pos ha]
    exact wOf_rows' (by rw [h.1]; exact ha.1) ((tss_in h ha.1).mpr ha.2)
  · rw [if_neg ha]
    cases hx : wOf (rowsOf s ls tss) a t with
    | none => rfl
    | some x =>
      obtain ⟨h1, h2, _⟩ := wOf_rows hx
      rw [h.1] at h1
      exact absurd ⟨h1, (tss_in h h1).mp h2⟩ ha
theorem wL_hw {cs : List Nat} {ls : List (List (List Nat))} (W : WG cs ls) {s : Str} {a t : Nat} {x : Int} (hx : wL s ls a t = some x) : a < ls.length ∧ t ∈ (ls[a]?.getD []).flatten ∧ x = wth s ls a t ∧ 0 ≤ x ∧ x ≤ wBd ls ∧ t < cs.length := by
  unfold wL at hx
  split at hx
  · rename_i ha
    cases hx
    have ha1 := ha.1
    have hr : ls[a]? = some (ls[a]'ha1) := List.getElem?_eq_getElem ha.1
    have hm := List.mem_of_getElem? hr
    have hg : ls[a]?.getD [] = ls[a]'ha1 := by rw [hr]; rfl
    have h2 := ha.2
    rw [hg] at h2
    have k1 := rankIn_pos h2
    have k2 := rankIn_le (t := t) (rs := ls[a]'ha1)
    have k3 := lng_mem hm
    have := wrth_bd (s := s) (B := ls.length + 1) (R := lng ls) (k := rankIn (ls[a]'ha1) t) (by omega) k1 (by omega)
    refine ⟨ha.1, ha.2, rfl, ?_, ?_, ?_⟩
    · unfold wth; rw [hg]; exact this.1
    · unfold wth; rw [hg]; exact this.2
    · obtain ⟨row, hrow, ht⟩ := List.mem_flatten.mp h2
      exact ((W.rk hm).2.1 row hrow).2 t ht
  · cases hx
section
variable {P : Program} {w : World} {K : Frg} {mg : Str → Option Value} {base : Heap}
def asksOf (w : Nat → Nat → Option Int) (D : List (Option Nat)) (q : List Int) : List Int := (List.range D.length).map (restOf w D q)
def spTold (K : Frg) : Sp := fun vs H Q _ => ∃ (r : PSt) (B : Hp) (q : List Int) (rs : List (Option Nat)) (u p : Nat → Int), vs = [.ref r.a] ∧ PIn K r B H q rs u p ∧
  ∀ tp ap qp H', H tp = none → H ap = none → H qp = none → Same H H' → H' tp = some (.tup [.int 1, .ref ap, .ref qp]) → H' ap = some (.lst ((asksOf (wOf r.rows) r.D q).map V.int)) → H' qp = some (.lst (q.map V.int)) → Q (.ref tp) H'
theorem sc_Prices_told : FnScope N_Prices_told ["self"] (defScope s_Prices_told) := ⟨rfl, rfl, rfl, by decide +kernel, rfl, by decide +kernel, by decide +kernel⟩
theorem ok_Prices_told (G : Gx K mg) : KnownM P w K mg base CX0 2 (He.ga K "Prices") "told" ["self"] (spTold K) := by
  have sc := sc_Prices_told
  have k_Prices_rest := ok_Prices_rest (P := P) (w := w) (base := base) G
  refine G.f_Prices_told.known sc (fun _ _ _ _ _ _ us hl => match us, hl with | [_], _ => rfl) (fun vs H Q E h => ?_) (fun cdv A outer s H vs Q E hr h => ?_)
  · obtain ⟨r, B, q, rs, u, p, rfl, _⟩ := h; rfl
  · obtain ⟨r, B, q, rs, u, p, rfl, I, k⟩ := h
    refine ⟨_, (pss_cons (ps_setLc (i := 2) (own := [("asker", 1)]) rfl sc.nd rfl rfl (sw_true rfl rfl rfl (by decide +kernel)) (pi_range1 rfl G.n_range (pa_cons (pe_callB call_len_seq (by rfl) G.n_len (by decide +kernel) (pa_cons (pe_fld (pv 0) rfl) pa_nil)) pa_nil)) (blkOk_by (by rfl)) (fun _ _ _ _ _ => (pg_name (i := 1) sc.nd rfl (Or.inl rfl))) (fun _ _ _ _ _ => pts_nil) (fun _ _ _ _ _ => (pe_knM k_Prices_rest G.c_Prices (hr.mono (by decide)) pass0 (pv 0) (pa_cons (pv 1) pa_nil))))
      (pss_one (ps_ret (pe_tup (pa_cons pe_int (pa_cons (pv 2) (pa_cons (pe_callTy call_list_of (by rfl) G.n_list (by decide +kernel) (pa_cons (pe_fld (pv 0) rfl) pa_nil)) pa_nil))))))), ?_⟩
    obtain ⟨ds, hds, hdl, hdg⟩ := I.h.rw
    have hl1 := I.l1
    have hlen := I.len
    refine st_seq ?_
    refine c_lcR (n := (r.D.length : Int)) (fun i => .int (restOf (wOf r.rows) r.D q i)) (fun Q q => ?_) (by omega) (by omega) (by intro x; rfl) (fun i hi => ?_) fun ap H1 hap e1 h1 => ?_
    · refine val_fld (val_var rfl) I.h.obH G.c_Prices G.a_Prices_rows rfl _ ⟨r.rp, ds, rfl, .inl (SqL.of (I.h.sB _ _ hds)), ?_⟩
      rw [hdl, hlen]
      exact q
    · exact pv_meth (pv_var rfl) I.h.obH rfl (pva_1 (pv_var rfl)) fun H4 e4 Q k => ⟨r, B, q, rs, u, p, i, rfl, I.mn e4, by omega, k⟩
    · have I1 := I.mn e1
      have hn : ((r.D.length : Nat) : Int).toNat = r.D.length := by omega
      rw [hn] at h1
      have ha1 : H1 ap = some (.lst ((asksOf (wOf r.rows) r.D q).map V.int)) := by
        rw [h1]
        unfold asksOf
        rw [List.map_map]
        rfl
      dsimp only
      refine sr_ret ⟨_, rfl, ?_⟩
      refine sr_1 (el_copy (pv_fld (pv_var rfl) I1.h.obH G.c_Prices G.a_Prices_prices rfl) (SqL.of I1.h.hp) _ fun qp H2 hqp e2 h2 => ?_)
      refine ⟨by show 3 ≤ _; rw [sizeLine_eq]; decide, fun tp htp => ?_⟩
      have e02 := e1.trans e2
      exact k tp ap qp _ (e02.free htp) hap (e1.free hqp) (e02.trans (same_new htp)) upd_same (by rw [upd_ne (ne_of_none (e2 _ _ ha1) htp)]; exact e2 _ _ ha1) (by rw [upd_ne (ne_of_none h2 htp)]; exact h2)
/-! ### the start -/
def spPI (K : Frg) : Sp := fun vs H Q _ => ∃ (a dx rp ca dp : Addr) (cs : List Nat) (D : List (Option Nat)), vs = [.ref a, .ref rp, .ref ca, .ref dp] ∧ H a = some (.ins (He.ga K "Prices") dx []) ∧ SqL K H ca (cs.map vn) ∧ SqL K H dp (D.map vo) ∧ (∀ t, some t ∈ D → t < cs.length) ∧ cs.length ≤ 1000 ∧
  ∀ H' dp' lp pp kp, But H H' [a] → H' a = some (.ins (He.ga K "Prices") dx [("rows", .ref rp), ("dealt", .ref dp'), ("left", .ref lp), ("prices", .ref pp), ("raisers", .ref kp)]) → H dp' = none → H lp = none → H pp = none → H kp = none → pp ≠ kp → dp' ≠ pp → dp' ≠ kp → lp ≠ pp → lp ≠ kp → H' dp' = some (.lst (D.map vo)) → H' lp = some (.lst (leftL cs D)) → H' pp = some (.lst ((List.replicate cs.length (0 : Int)).map V.int)) → H' kp = some (.lst ((List.replicate cs.length (none : Option Nat)).map vo)) → Q .non H'
theorem sc_Prices_init : FnScope N_Prices_init ["self", "rows", "copies", "dealt"] (defScope s_Prices_init) := ⟨rfl, rfl, rfl, by decide +kernel, rfl, by decide +kernel, by decide +kernel⟩
theorem el_lcL {σ : L2.St} {H : Hp} {tl te : TE} {a : Addr} {xs : List V} {j : Nat} {vs : List Nat} (f : Nat → V) (h : Val tl σ H (.ref a)) (hx : SqL K H a xs) (hz : xs.length ≤ 1000000) (hw : ∀ x, wipe ((wipe σ vs).set j (some x)) vs = wipe σ vs)
    (he : ∀ i x, xs[i]? = some x → Pv te ((wipe σ vs).set j (some x)) H (f i)) : EvL (tLc (iList K tl) (gName j) tYes te vs) σ H ((List.range xs.length).map f) := fun Q q => c_lcL f h hx hz hw he q
theorem ok_Prices_init (G : Gx K mg) : KnownM P w K mg base CX0 2 (He.ga K "Prices") "__init__" ["self", "rows", "copies", "dealt"] (spPI K) := by
  have sc := sc_Prices_init
  have k_left_by := ok_left_by (P := P) (w := w) (base := base) G
  refine G.f_Prices_init.known sc (fun _ _ _ _ _ _ us hl => match us, hl with | [_, _, _, _], _ => rfl) (fun vs H Q E h => ?_) (fun cdv A outer s H vs Q E hr h => ?_)
  · obtain ⟨a, dx, rp, ca, dp, cs, D, rfl, _⟩ := h; rfl
  · obtain ⟨a, dx, rp, ca, dp, cs, D, rfl, ha, hca, hdp, hD, hm, q⟩ := h
    refine ⟨_, (pss_cons (ps_fld (pv 0) (pv 1) rfl)
      (pss_cons (ps_fld (pv 0) (pe_callTy call_list_of (by rfl) G.n_list (by decide +kernel) (pa_cons (pv 3) pa_nil)) rfl)
      (pss_cons (ps_fld (pv 0) (pe_kn k_left_by (hr.mono (by decide)) pass0 (pa_cons (pv 2) (pa_cons (pv 3) pa_nil))) rfl)
      (pss_cons (ps_fld (pv 0) (pe_lc (own := [("many", 4)]) rfl sc.nd (pi_list (pv 2)) (blkOk_by (by rfl)) (fun _ _ _ _ _ => (pg_name (i := 4) sc.nd rfl (Or.inl rfl))) (fun _ _ _ _ _ => pts_nil) (fun _ _ _ _ _ => pe_int)) rfl)
      (pss_one (ps_fld (pv 0) (pe_lc (own := [("many", 4)]) rfl sc.nd (pi_list (pv 2)) (blkOk_by (by rfl)) (fun _ _ _ _ _ => (pg_name (i := 4) sc.nd rfl (Or.inl rfl))) (fun _ _ _ _ _ => pts_nil) (fun _ _ _ _ _ => pe_non)) rfl)))))), ?_⟩
    have I0 : InsUp H H a (He.ga K "Prices") dx [] := ⟨fun _ _ _ h => h, ha⟩
    have fr : ∀ {b : Addr} {H' : Hp} {fs}, InsUp H H' a (He.ga K "Prices") dx fs → b ≠ a → H' b = none → H b = none := fun {b} {H'} {fs} I hb h => by
      cases e : H b with
      | none => rfl
      | some o => have := I.but b o (by simpa using hb) e; rw [h] at this; cases this
    refine ss_fld (pv_var rfl) (pv_var rfl) ha G.c_Prices G.a_Prices_rows (by simp) fun H1 e1 => ?_
    have I1 := (I0.go e1).put (fs' := [("rows", .ref rp)])
    refine sl_fld (el_copy (pv_var rfl) (I1.l ha hdp)) (pv_vr rfl) I1.at_ G.c_Prices G.a_Prices_dealt (by simp) fun dp' H2 hdp' e2 h2 => ?_
    have hda : dp' ≠ a := Ne.symm (ne_of_none I1.at_ hdp')
    have I2 := (I1.go e2).put (fs' := [("rows", .ref rp), ("dealt", .ref dp')])
    have d2 : (upd H2 a (.ins (He.ga K "Prices") dx [("rows", .ref rp), ("dealt", .ref dp')])) dp' = some (.lst (D.map vo)) := by rw [upd_ne hda]; exact h2
    refine sl_fld (el_call (pva_2 (pv_var rfl) (pv_var rfl)) fun H3 e Q q => ⟨ca, dp, cs, D, rfl, SqL.mn e (I2.l ha hca), SqL.mn e (I2.l ha hdp), hD, hm, q⟩) (pv_vr rfl) I2.at_ G.c_Prices G.a_Prices_left (by simp) fun lp H3 hlp e3 h3 => ?_
    have hla : lp ≠ a := Ne.symm (ne_of_none I2.at_ hlp)
    have hld : dp' ≠ lp := ne_of_none d2 hlp
    have I3 := (I2.go e3).put (fs' := [("rows", .ref rp), ("dealt", .ref dp'), ("left", .ref lp)])
    have d3 : (upd H3 a (.ins (He.ga K "Prices") dx [("rows", .ref rp), ("dealt", .ref dp'), ("left", .ref lp)])) dp' = some (.lst (D.map vo)) := by rw [upd_ne hda]; exact e3 _ _ d2
    have l3 : (upd H3 a (.ins (He.ga K "Prices") dx [("rows", .ref rp), ("dealt", .ref dp'), ("left", .ref lp)])) lp = some (.lst (leftL cs D)) := by rw [upd_ne hla]; exact h3
    refine sl_fld (el_lcL (fun _ => .int 0) (val_var rfl) (I3.l ha hca) (by rw [List.length_map]; omega) (by intro x; rfl) (fun i x _ => pv_c)) (pv_vr rfl) I3.at_ G.c_Prices G.a_Prices_prices (by simp) fun pp H4 hpp e4 h4 => ?_
    have hpa : pp ≠ a := Ne.symm (ne_of_none I3.at_ hpp)
    have I4 := (I3.go e4).put (fs' := [("rows", .ref rp), ("dealt", .ref dp'), ("left", .ref lp), ("prices", .ref pp)])
    have d4 : (upd H4 a (.ins (He.ga K "Prices") dx [("rows", .ref rp), ("dealt", .ref dp'), ("left", .ref lp), ("prices", .ref pp)])) dp' = some (.lst (D.map vo)) := by rw [upd_ne hda]; exact e4 _ _ d3
    have l4 : (upd H4 a (.ins (He.ga K "Prices") dx [("rows", .ref rp), ("dealt", .ref dp'), ("left", .ref lp), ("prices", .ref pp)])) lp = some (.lst (leftL cs D)) := by rw [upd_ne hla]; exact e4 _ _ l3
    have p4 : (upd H4 a (.ins (He.ga K "Prices") dx [("rows", .ref rp), ("dealt", .ref dp'), ("left", .ref lp), ("prices", .ref pp)])) pp = some (.lst ((List.range (cs.map vn).length).map fun _ => V.int 0)) := by rw [upd_ne hpa]; exact h4
    refine sl_fld (el_lcL (fun _ => .non) (val_var rfl) (I4.l ha hca) (by rw [List.length_map]; omega) (by intro x; rfl) (fun i x _ => pv_c)) (pv_vr rfl) I4.at_ G.c_Prices G.a_Prices_raisers (by simp) fun kp H5 hkp e5 h5 => ?_
    have hka : kp ≠ a := Ne.symm (ne_of_none I4.at_ hkp)
    have I5 := (I4.go e5).put (fs' := [("rows", .ref rp), ("dealt", .ref dp'), ("left", .ref lp), ("prices", .ref pp), ("raisers", .ref kp)])
    refine q _ dp' lp pp kp I5.but I5.at_ (fr I1 hda hdp') (fr I2 hla hlp) (fr I3 hpa hpp) (fr I4 hka hkp) (ne_of_none p4 hkp) (ne_of_none d3 hpp) (ne_of_none d4 hkp) (ne_of_none l3 hpp) (ne_of_none l4 hkp) ?_ ?_ ?_ ?_
    · rw [upd_ne hda]; exact e5 _ _ d4
    · rw [upd_ne hla]; exact e5 _ _ l4
    · rw [upd_ne hpa]
      refine (e5 _ _ p4).trans ?_
      congr 2
      rw [List.length_map]
      refine range_map (by simp) fun i x hx => ?_
      have := List.mem_of_getElem? hx
      rw [List.map_replicate] at this
      exact (List.mem_replicate.mp this).2.symm
    · rw [upd_ne hka]
      refine h5.trans ?_
      congr 2
      rw [List.length_map]
      refine range_map (by simp) fun i x hx => ?_
      have := List.mem_of_getElem? hx
      rw [List.map_replicate] at this
      exact (List.mem_replicate.mp this).2.symm
/-! ### best_dealing -/
/-- what best_dealing gives -/
structure BOk (s : Str) (cs : List Nat) (ls : List (List (List Nat))) (D : List (Option Nat)) (asks prices : List Int) : Prop where
  len : D.length = ls.length
  pap : Paper (wL s ls) (csf cs) cs.length D asks prices
def spBest (K : Frg) : Sp := fun vs H Q _ => ∃ v x cs ls s, vs = [v, x] ∧ WS K H v cs ls ∧ WG cs ls ∧ AOk K H x s ∧
  ∀ D asks prices, BOk s cs ls D asks prices → ∀ tp dd pt ap qp H', H tp = none → H dd = none → H pt = none → H ap = none → H qp = none → Same H H' → H' tp = some (.tup [.ref dd, .ref pt]) → H' dd = some (.lst (D.map vo)) → H' pt = some (.tup [.int 1, .ref ap, .ref qp]) → H' ap = some (.lst (asks.map V.int)) → H' qp = some (.lst (prices.map V.int)) → Q (.ref tp) H'
theorem sc_best_dealing : FnScope N_best_dealing ["wishes", "aim"] (defScope s_best_dealing) := ⟨rfl, rfl, rfl, by decide +kernel, rfl, by decide +kernel, by decide +kernel⟩
theorem ok_best_dealing (G : Gx K mg) : Known P w K mg base CX0 11 "best_dealing" ["wishes", "aim"] (spBest K) := by
  have sc := sc_best_dealing
  have k_dealt_best := ok_dealt_best (P := P) (w := w) (base := base) G
  have k_rows_by := ok_rows_by (P := P) (w := w) (base := base) G
  have k_Prices_init := ok_Prices_init (P := P) (w := w) (base := base) G
  have k_Prices_settle := ok_Prices_settle (P := P) (w := w) (base := base) G
  have k_Prices_told := ok_Prices_told (P := P) (w := w) (base := base) G
  refine G.f_best_dealing.known sc (fun _ _ _ _ _ _ us hl => match us, hl with | [_, _], _ => rfl) (fun vs H Q E h => ?_) (fun cdv A outer s H vs Q E hr h => ?_)
  · obtain ⟨v, x, cs, ls, s, rfl, _⟩ := h; rfl
  · obtain ⟨v, x, cs, ls, s, rfl, hW, W, hA, k⟩ := h
    refine ⟨_, (pss_cons (ps_set (i := 2) sc.nd rfl (Or.inl rfl) (pe_kn k_dealt_best (hr.mono (by decide)) pass0 (pa_cons (pv 0) (pa_cons (pv 1) pa_nil))))
      (pss_cons (ps_set (i := 3) sc.nd rfl (Or.inl rfl) (pe_knMk k_Prices_init G.mk_Prices (hr.mono (by decide)) G.g_Prices pass0 (pa_cons (pe_kn k_rows_by (hr.mono (by decide)) pass0 (pa_cons (pv 0) (pa_cons (pv 1) pa_nil))) (pa_cons (pe_ix ix_tup (pv 0) pe_int (fun _ _ => rfl)) (pa_cons (pv 2) pa_nil)))))
      (pss_cons (ps_expr (pe_knM0 k_Prices_settle G.c_Prices (hr.mono (by decide)) pass0 (pv 3)))
      (pss_one (ps_ret (pe_tup (pa_cons (pv 2) (pa_cons (pe_knM0 k_Prices_told G.c_Prices (hr.mono (by decide)) pass0 (pv 3)) pa_nil)))))))), ?_⟩
    refine st_seq ⟨_, rfl, _, rfl, v, x, cs, ls, s, rfl, hW, W, hA, fun D hD dd H1 hdd e1 h1 => ?_⟩
    obtain ⟨tss1, u, p, hT1, hdu⟩ := hD.du
    rw [wOf_eq hT1] at hdu
    have h7 := W.all
    dsimp only
    refine st_seq ⟨_, rfl, _, rfl, v, x, cs, ls, s, rfl, hW.mono (Le.of e1), W, hA.mn e1, fun rv H2 N2 e2 n2 ⟨tss, hT, hRW⟩ => ?_⟩
    have hRW2 := hRW.mn (fun b o h => (n2 b o h).1 : Same N2 H2)
    obtain ⟨rp, ds, rfl, hrp, hds⟩ := id hRW2
    have e02 := e1.trans e2
    have hw := wOf_eq (s := s) hT
    obtain ⟨pw, va, vb, rfl, hTw, ⟨a1, rfl, ha1⟩, b, us1, rfl, hb1, hpp⟩ := hW.mono (Le.of e02)
    refine vl_ixT (val_var rfl) val_c hTw rfl _ ⟨_, rfl, ?_⟩
    intro y dx hy hdx hne
    have hy' : (upd H2 dx (.own y)) y = none := by rw [upd_ne (Ne.symm hne)]; exact hy
    have e3 : Same H2 (upd (upd H2 dx (.own y)) y (.ins (He.ga K "Prices") dx [])) := (same_new hdx).trans (same_new hy')
    have C : PCx (wL s ls) (csf cs) cs.length D u p := ⟨by rw [hD.len]; exact hdu, fun a t x hx => by have := wL_hw W hx; exact ⟨this.2.2.2.1, this.2.2.2.2.2⟩⟩
    have hDt : ∀ t, some t ∈ D → t < cs.length := fun t ht => by
      obtain ⟨i, hi⟩ := List.mem_iff_getElem?.mp ht
      have : dl D i = some t := by unfold dl; rw [hi]; rfl
      exact (C.hw i t _ (C.du.eq i t this)).2
    refine ⟨y, dx, rp, a1, dd, cs, D, rfl, upd_same, SqL.mn e3 ha1, SqL.of (e3 _ _ (e2 _ _ h1)), hDt, by omega, fun H4 dp' lp pp kp hbut ho hdp' hlp hpp' hkp n1 n2' n3 n4 n5 h4d h4l h4p h4k => ⟨rfl, ?_⟩⟩
    have e24 : Same H2 H4 := fun b o h => hbut b o (fun z => by rw [List.mem_singleton] at z; rw [z, hy] at h; cases h) (e3 _ _ h)
    have yp : ∀ {b : Addr}, (upd (upd H2 dx (.own y)) y (.ins (He.ga K "Prices") dx [])) b = none → y ≠ b := fun h => ne_of_none upd_same h
    have hB : PHq K ⟨y, dx, rp, dp', lp, pp, kp, rowsOf s ls tss, D, cs⟩ (cut H4 [pp, kp]) H4 (List.replicate cs.length 0) (List.replicate cs.length none) := by
      have ca : ∀ {b o}, b ≠ pp → b ≠ kp → H4 b = some o → (cut H4 [pp, kp]) b = some o := fun hb1 hb2 h => by rw [cut_at (by simp [hb1, hb2])]; exact h
      have eB : Same H2 (cut H4 [pp, kp]) := cut_of e24 (fun b hb => by
        simp only [List.mem_cons, List.not_mem_nil, or_false] at hb
        rcases hb with rfl | rfl
        · exact e3.free hpp'
        · exact e3.free hkp)
      exact ⟨cut_same, cut_none (by simp), cut_none (by simp), n1, h4p, h4k, ca (yp hpp') (yp hkp) ho, SqL.of (ca n2' n3 h4d), SqL.of (ca n4 n5 h4l), (hRW2.mn eB).r⟩
    have eB : Same H2 (cut H4 [pp, kp]) := cut_of e24 (fun b hb => by
      simp only [List.mem_cons, List.not_mem_nil, or_false] at hb
      rcases hb with rfl | rfl
      · exact e3.free hpp'
      · exact e3.free hkp)
    have I : PIn K ⟨y, dx, rp, dp', lp, pp, kp, rowsOf s ls tss, D, cs⟩ (cut H4 [pp, kp]) H4 (List.replicate cs.length 0) (List.replicate cs.length none) u p :=
      ⟨hB, by rw [hw]; exact C, PI.start C, by rw [rows_len hT, hD.len], by show D.length ≤ 1000; rw [hD.len]; omega, by show cs.length ≤ 1000; omega⟩
    dsimp only
    refine st_seq ⟨_, rfl, y, dx, _, rfl, ho, rfl, ?_⟩
    refine ⟨_, _, _, _, u, p, rfl, I, hRW2.mn eB, rows_ok W hT, fun H5 q5 rs5 hP5 R5 X5 => ?_⟩
    have I5 : PIn K ⟨y, dx, rp, dp', lp, pp, kp, rowsOf s ls tss, D, cs⟩ (cut H4 [pp, kp]) H5 q5 rs5 u p := ⟨hP5, I.c, R5, I.len, I.l1, I.m1⟩
    have e05 : Same H H5 := e02.trans (eB.trans hP5.sB)
    have hdd5 : H5 dd = some (.lst (D.map vo)) := (eB.trans hP5.sB) _ _ (e2 _ _ h1)
    dsimp only
    refine sr_ret ⟨_, rfl, _, rfl, y, dx, _, rfl, hP5.obH, rfl, ?_⟩
    refine ⟨_, _, _, _, u, p, rfl, I5, fun pt ap qp H6 hpt hap hqp e6 h6 h6a h6q => ?_⟩
    refine ⟨by show 2 ≤ _; rw [sizeLine_eq]; decide, fun tp htp => ?_⟩
    have e06 := e05.trans e6
    have hpap : Paper (wL s ls) (csf cs) cs.length D (asksOf (wL s ls) D q5) q5 := paper_of C R5 (by have := X5; dsimp only at this; rw [hw] at this; exact this)
    refine k D (asksOf (wL s ls) D q5) q5 ⟨hD.len, hpap⟩ tp dd pt ap qp _ (e06.free htp) hdd (e05.free hpt) (e05.free hap) (e05.free hqp) (e06.trans (same_new htp)) upd_same ?_ ?_ ?_ ?_
    · rw [upd_ne (ne_of_none (e6 _ _ hdd5) htp)]; exact e6 _ _ hdd5
    · rw [upd_ne (ne_of_none h6 htp)]; exact h6
    · rw [upd_ne (ne_of_none h6a htp)]
      rw [h6a]
      dsimp only
      rw [hw]
    · rw [upd_ne (ne_of_none h6q htp)]; exact h6q
end
end Wd
set_option Elab.async false
set_option linter.all false
set_option maxRecDepth 100000
set_option maxHeartbeats 4000000
/-! doors that refuse; orders_part -/
namespace Wd
open PySem PySem.Spec PyProof.Rows L2
/-- statements that are not reached -/
theorem pss_no {X : Cx} {b : List Stmt} : PSs X b (fun _ _ _ => False) := ⟨fun _ _ _ _ _ _ h => h.elim⟩
section
variable {P : Program} {w : World} {K : Frg} {mg : Str → Option Value} {base : Heap}
def spDoor (K : Frg) : Sp := fun vs H Q E => ∃ v x rest, vs = v :: x :: rest ∧ Refuse K v x H E
/-- look_at_wishes, then look_at_aim: refused at the one or the other -/
theorem door_t {v x : V} {rest : List (Option V)} {H : Hp} {D : Ends} {E : XK} {t3 : TS} (h : Refuse K v x H E) : tSeq (tDrop (tCall (spLook K) [] E (tCons (tVar 0) tNil))) (tSeq (tDrop (tCall (spLookA K) [] E (tCons (tVar 0) (tCons (tVar 1) tNil)))) t3) D (some v :: some x :: rest) H := by
  rcases h with ⟨p, n, hb, q⟩ | ⟨cs, ls, p, hW, W, hA, q⟩
  · exact sd_call (pva_1 (pv_var rfl)) fun H1 e1 => look_bad (hb.mn e1) (q.mn e1)
  · refine ss_drop (look_pv (pv_var rfl) hW W) fun H1 e1 => ?_
    exact sd_call (pva_2 (pv_var rfl) (pv_var rfl)) fun H2 e2 => ⟨v, x, rfl, .inl (.inr ⟨cs, ls, p, hW.mono (Le.of (e1.trans e2)), W, hA.mn (e1.trans e2), q.mn (e1.trans e2)⟩)⟩
def spDoor2 (K : Frg) : Sp := fun vs H Q E => ∃ v x, vs = [v, x] ∧ Refuse K v x H E
def spDoor3 (K : Frg) : Sp := fun vs H Q E => ∃ v x y, vs = [v, x, y] ∧ Refuse K v x H E
def spDoor4 (K : Frg) : Sp := fun vs H Q E => ∃ v x y z, vs = [v, x, y, z] ∧ Refuse K v x H E
theorem sc_how_many : FnScope N_how_many ["wishes", "aim"] (defScope s_how_many) := ⟨rfl, rfl, rfl, by decide +kernel, rfl, by decide +kernel, by decide +kernel⟩
theorem ok_how_many (G : Gx K mg) : Known P w K mg base (L2.CX P w) 6 "how_many" ["wishes", "aim"] (spDoor2 K) := by
  have sc := sc_how_many
  have k_look_at_wishes := ok_look_at_wishes (P := P) (w := w) (base := base) G
  have k_look_at_aim := ok_look_at_aim (P := P) (w := w) (base := base) G
  refine G.f_how_many.knownX sc (fun _ _ _ _ _ _ us hl => match us, hl with | [_, _], _ => rfl) (fun vs H Q E h => ?_) (fun cdv A outer s H vs Q E hr h => ?_)
  · obtain ⟨v, x, rfl, _⟩ := h; rfl
  · obtain ⟨v, x, rfl, h⟩ := h
    have tk := takes_of (X := cxOf (L2.CX P w) P w K mg base N_how_many "how_many" (defScope s_how_many) (He.ga K "how_many") cdv A outer s H E) (E := E) rfl rfl rfl rfl
    refine ⟨_, pss_cons (ps_expr (pe_kn k_look_at_wishes (hr.mono (by decide)) (passes_call tk (fun _ _ _ _ h => h)) (pa_cons (pv 0) pa_nil))) (pss_cons (ps_expr (pe_kn k_look_at_aim (hr.mono (by decide)) (passes_call tk (fun _ _ _ _ h => h)) (pa_cons (pv 0) (pa_cons (pv 1) pa_nil)))) pss_no), ?_⟩
    exact door_t h
theorem sc_opened : FnScope N_opened ["wishes", "aim"] (defScope s_opened) := ⟨rfl, rfl, rfl, by decide +kernel, rfl, by decide +kernel, by decide +kernel⟩
theorem ok_opened (G : Gx K mg) : Known P w K mg base (L2.CX P w) 6 "opened" ["wishes", "aim"] (spDoor2 K) := by
  have sc := sc_opened
  have k_look_at_wishes := ok_look_at_wishes (P := P) (w := w) (base := base) G
  have k_look_at_aim := ok_look_at_aim (P := P) (w := w) (base := base) G
  refine G.f_opened.knownX sc (fun _ _ _ _ _ _ us hl => match us, hl with | [_, _], _ => rfl) (fun vs H Q E h => ?_) (fun cdv A outer s H vs Q E hr h => ?_)
  · obtain ⟨v, x, rfl, _⟩ := h; rfl
  · obtain ⟨v, x, rfl, h⟩ := h
    have tk := takes_of (X := cxOf (L2.CX P w) P w K mg base N_opened "opened" (defScope s_opened) (He.ga K "opened") cdv A outer s H E) (E := E) rfl rfl rfl rfl
    refine ⟨_, pss_cons (ps_expr (pe_kn k_look_at_wishes (hr.mono (by decide)) (passes_call tk (fun _ _ _ _ h => h)) (pa_cons (pv 0) pa_nil))) (pss_cons (ps_expr (pe_kn k_look_at_aim (hr.mono (by decide)) (passes_call tk (fun _ _ _ _ h => h)) (pa_cons (pv 0) (pa_cons (pv 1) pa_nil)))) pss_no), ?_⟩
    exact door_t h
theorem sc_numbered : FnScope N_numbered ["wishes", "aim", "number"] (defScope s_numbered) := ⟨rfl, rfl, rfl, by decide +kernel, rfl, by decide +kernel, by decide +kernel⟩
theorem ok_numbered (G : Gx K mg) : Known P w K mg base (L2.CX P w) 6 "numbered" ["wishes", "aim", "number"] (spDoor3 K) := by
  have sc := sc_numbered
  have k_look_at_wishes := ok_look_at_wishes (P := P) (w := w) (base := base) G
  have k_look_at_aim := ok_look_at_aim (P := P) (w := w) (base := base) G
  refine G.f_numbered.knownX sc (fun _ _ _ _ _ _ us hl => match us, hl with | [_, _, _], _ => rfl) (fun vs H Q E h => ?_) (fun cdv A outer s H vs Q E hr h => ?_)
  · obtain ⟨v, x, y, rfl, _⟩ := h; rfl
  · obtain ⟨v, x, y, rfl, h⟩ := h
    have tk := takes_of (X := cxOf (L2.CX P w) P w K mg base N_numbered "numbered" (defScope s_numbered) (He.ga K "numbered") cdv A outer s H E) (E := E) rfl rfl rfl rfl
    refine ⟨_, pss_cons (ps_expr (pe_kn k_look_at_wishes (hr.mono (by decide)) (passes_call tk (fun _ _ _ _ h => h)) (pa_cons (pv 0) pa_nil))) (pss_cons (ps_expr (pe_kn k_look_at_aim (hr.mono (by decide)) (passes_call tk (fun _ _ _ _ h => h)) (pa_cons (pv 0) (pa_cons (pv 1) pa_nil)))) pss_no), ?_⟩
    exact door_t h
theorem sc_ledger_of : FnScope N_ledger_of ["wishes", "aim", "web"] (defScope s_ledger_of) := ⟨rfl, rfl, rfl, by decide +kernel, rfl, by decide +kernel, by decide +kernel⟩
theorem ok_ledger_of (G : Gx K mg) : Known P w K mg base (L2.CX P w) 6 "ledger_of" ["wishes", "aim", "web"] (spDoor3 K) := by
  have sc := sc_ledger_of
  have k_look_at_wishes := ok_look_at_wishes (P := P) (w := w) (base := base) G
  have k_look_at_aim := ok_look_at_aim (P := P) (w := w) (base := base) G
  refine G.f_ledger_of.knownX sc (fun _ _ _ _ _ _ us hl => match us, hl with | [_, _, _], _ => rfl) (fun vs H Q E h => ?_) (fun cdv A outer s H vs Q E hr h => ?_)
  · obtain ⟨v, x, y, rfl, _⟩ := h; rfl
  · obtain ⟨v, x, y, rfl, h⟩ := h
    have tk := takes_of (X := cxOf (L2.CX P w) P w K mg base N_ledger_of "ledger_of" (defScope s_ledger_of) (He.ga K "ledger_of") cdv A outer s H E) (E := E) rfl rfl rfl rfl
    refine ⟨_, pss_cons (ps_expr (pe_kn k_look_at_wishes (hr.mono (by decide)) (passes_call tk (fun _ _ _ _ h => h)) (pa_cons (pv 0) pa_nil))) (pss_cons (ps_expr (pe_kn k_look_at_aim (hr.mono (by decide)) (passes_call tk (fun _ _ _ _ h => h)) (pa_cons (pv 0) (pa_cons (pv 1) pa_nil)))) pss_no), ?_⟩
    exact door_t h
theorem sc_lets_ledger : FnScope N_lets_ledger ["wishes", "aim", "web", "thing"] (defScope s_lets_ledger) := ⟨rfl, rfl, rfl, by decide +kernel, rfl, by decide +kernel, by decide +kernel⟩
theorem ok_lets_ledger (G : Gx K mg) : Known P w K mg base (L2.CX P w) 6 "lets_ledger" ["wishes", "aim", "web", "thing"] (spDoor4 K) := by
  have sc := sc_lets_ledger
  have k_look_at_wishes := ok_look_at_wishes (P := P) (w := w) (base := base) G
  have k_look_at_aim := ok_look_at_aim (P := P) (w := w) (base := base) G
  refine G.f_lets_ledger.knownX sc (fun _ _ _ _ _ _ us hl => match us, hl with | [_, _, _, _], _ => rfl) (fun vs H Q E h => ?_) (fun cdv A outer s H vs Q E hr h => ?_)
  · obtain ⟨v, x, y, z, rfl, _⟩ := h; rfl
  · obtain ⟨v, x, y, z, rfl, h⟩ := h
    have tk := takes_of (X := cxOf (L2.CX P w) P w K mg base N_lets_ledger "lets_ledger" (defScope s_lets_ledger) (He.ga K "lets_ledger") cdv A outer s H E) (E := E) rfl rfl rfl rfl
    refine ⟨_, pss_cons (ps_expr (pe_kn k_look_at_wishes (hr.mono (by decide)) (passes_call tk (fun _ _ _ _ h => h)) (pa_cons (pv 0) pa_nil))) (pss_cons (ps_expr (pe_kn k_look_at_aim (hr.mono (by decide)) (passes_call tk (fun _ _ _ _ h => h)) (pa_cons (pv 0) (pa_cons (pv 1) pa_nil)))) pss_no), ?_⟩
    exact door_t h
/-! those that open first -/
theorem open_t {v x : V} {rest : List (Option V)} {H : Hp} {D : Ends} {E : XK} {t3 : TS} {i j : Nat} (h : Refuse K v x H E) : tSeq (tAsg (tCall (spDoor2 K) [] E (tCons (tVar 0) (tCons (tVar 1) tNil))) (gTup K 2 (gCons (gName i) (gCons (gName j) gNil)))) t3 D (some v :: some x :: rest) H :=
  ⟨_, rfl, _, rfl, v, x, rfl, h⟩
theorem sc_number_of : FnScope N_number_of ["wishes", "aim", "thing"] (defScope s_number_of) := ⟨rfl, rfl, rfl, by decide +kernel, rfl, by decide +kernel, by decide +kernel⟩
theorem ok_number_of (G : Gx K mg) : Known P w K mg base (L2.CX P w) 7 "number_of" ["wishes", "aim", "thing"] (spDoor3 K) := by
  have sc := sc_number_of
  have k_opened := ok_opened (P := P) (w := w) (base := base) G
  refine G.f_number_of.knownX sc (fun _ _ _ _ _ _ us hl => match us, hl with | [_, _, _], _ => rfl) (fun vs H Q E h => ?_) (fun cdv A outer s H vs Q E hr h => ?_)
  · obtain ⟨v, x, y, rfl, _⟩ := h; rfl
  · obtain ⟨v, x, y, rfl, h⟩ := h
    have tk := takes_of (X := cxOf (L2.CX P w) P w K mg base N_number_of "number_of" (defScope s_number_of) (He.ga K "number_of") cdv A outer s H E) (E := E) rfl rfl rfl rfl
    refine ⟨_, pss_cons (ps_asg (pe_kn k_opened (hr.mono (by decide)) (passes_call tk (fun _ _ _ _ h => h)) (pa_cons (pv 0) (pa_cons (pv 1) pa_nil))) (pg_tup rfl (pgs_cons (pg_name (i := 3) sc.nd rfl (Or.inl rfl)) (pgs_cons (pg_name (i := 4) sc.nd rfl (Or.inl rfl)) pgs_nil)))) pss_no, ?_⟩
    exact open_t h
theorem sc_shares : FnScope N_shares ["wishes", "aim", "asker"] (defScope s_shares) := ⟨rfl, rfl, rfl, by decide +kernel, rfl, by decide +kernel, by decide +kernel⟩
theorem ok_shares (G : Gx K mg) : Known P w K mg base (L2.CX P w) 7 "shares" ["wishes", "aim", "asker"] (spDoor3 K) := by
  have sc := sc_shares
  have k_opened := ok_opened (P := P) (w := w) (base := base) G
  refine G.f_shares.knownX sc (fun _ _ _ _ _ _ us hl => match us, hl with | [_, _, _], _ => rfl) (fun vs H Q E h => ?_) (fun cdv A outer s H vs Q E hr h => ?_)
  · obtain ⟨v, x, y, rfl, _⟩ := h; rfl
  · obtain ⟨v, x, y, rfl, h⟩ := h
    have tk := takes_of (X := cxOf (L2.CX P w) P w K mg base N_shares "shares" (defScope s_shares) (He.ga K "shares") cdv A outer s H E) (E := E) rfl rfl rfl rfl
    refine ⟨_, pss_cons (ps_asg (pe_kn k_opened (hr.mono (by decide)) (passes_call tk (fun _ _ _ _ h => h)) (pa_cons (pv 0) (pa_cons (pv 1) pa_nil))) (pg_tup rfl (pgs_cons (pg_name (i := 3) sc.nd rfl (Or.inl rfl)) (pgs_cons (pg_name (i := 4) sc.nd rfl (Or.inl rfl)) pgs_nil)))) pss_no, ?_⟩
    exact open_t h
theorem sc_all_best : FnScope N_all_best ["wishes", "aim"] (defScope s_all_best) := ⟨rfl, rfl, rfl, by decide +kernel, rfl, by decide +kernel, by decide +kernel⟩
theorem ok_all_best (G : Gx K mg) : Known P w K mg base (L2.CX P w) 7 "all_best" ["wishes", "aim"] (spDoor2 K) := by
  have sc := sc_all_best
  have k_opened := ok_opened (P := P) (w := w) (base := base) G
  refine G.f_all_best.knownX sc (fun _ _ _ _ _ _ us hl => match us, hl with | [_, _], _ => rfl) (fun vs H Q E h => ?_) (fun cdv A outer s H vs Q E hr h => ?_)
  · obtain ⟨v, x, rfl, _⟩ := h; rfl
  · obtain ⟨v, x, rfl, h⟩ := h
    have tk := takes_of (X := cxOf (L2.CX P w) P w K mg base N_all_best "all_best" (defScope s_all_best) (He.ga K "all_best") cdv A outer s H E) (E := E) rfl rfl rfl rfl
    refine ⟨_, pss_cons (ps_asg (pe_kn k_opened (hr.mono (by decide)) (passes_call tk (fun _ _ _ _ h => h)) (pa_cons (pv 0) (pa_cons (pv 1) pa_nil))) (pg_tup rfl (pgs_cons (pg_name (i := 2) sc.nd rfl (Or.inl rfl)) (pgs_cons (pg_name (i := 3) sc.nd rfl (Or.inl rfl)) pgs_nil)))) pss_no, ?_⟩
    exact open_t h
end
end Wd
set_option Elab.async false
set_option linter.all false
set_option maxRecDepth 100000
set_option maxHeartbeats 4000000
/-! orders_part -/
namespace Wd
open PySem PySem.Spec PyProof.Rows L2
/-! ### data -/
def pdn (ns : List Nat) : PyData := .list (ns.map fun n : Nat => .int (n : Int))
theorem eqvAll_n : ∀ {a b : List Nat}, PyData.eqvAll (a.map fun n : Nat => .int (n : Int)) (b.map fun n : Nat => .int (n : Int)) = decide (a = b)
  | [], [] => rfl
  | [], _ :: _ => rfl
  | _ :: _, [] => rfl
  | x :: a, y :: b => by
    rw [List.map_cons, List.map_cons, PyData.eqvAll, eqvAll_n]
    show ((x : Int) == (y : Int) && _) = _
    by_cases h : x = y
    · subst h; simp
    · have : ((x : Int) == (y : Int)) = false := beq_eq_false_iff_ne.mpr (by omega)
      rw [this, Bool.false_and]
      exact (decide_eq_false fun z => h (by cases z; rfl)).symm
theorem eqv_n {a b : List Nat} : PyData.eqv (pdn a) (pdn b) = decide (a = b) := by
  unfold pdn
  rw [PyData.eqv]
  exact eqvAll_n
theorem shp_n {a : List Nat} : SeqAt.shaped (pdn a) = true := shp_list (n := 0) (fun d hd => by obtain ⟨i, _, rfl⟩ := List.mem_map.mp hd; exact ⟨rfl, Nat.le_refl _⟩) (by decide)
theorem dp_n {K : Frg} {H : Hp} {a : Addr} {ns : List Nat} (h : SqL K H a (ns.map vn)) : Dp K H (.ref a) (pdn ns) := .lst h (dp_ns ns)
/-- the counts as numbers -/
def cntN (L : Nat) (sl : List Nat) : List Nat := (List.range (L + 1)).map fun k => sl.count k
theorem cntL_N {L : Nat} {sl : List Nat} : cntL L sl = (cntN L sl).map vn := by
  unfold cntL cntN
  rw [List.map_map]
  rfl
def cntOf (ls : List (List (List Nat))) (D : List (Option Nat)) : List Nat := cntN (lng ls) (slots ls D)
theorem BOk.prp {cs : List Nat} {ls : List (List (List Nat))} {s : Str} {D : List (Option Nat)} {asks prices : List Int} (h : BOk s cs ls D asks prices) : Prp ls D := by
  refine ⟨h.len, fun i t rs hi hr => ?_⟩
  have hd : dl D i = some t := by unfold dl; rw [hi]; rfl
  have hw := h.pap.eq i t hd
  unfold wL at hw
  split at hw
  · rename_i hz
    rw [hr] at hz
    exact hz.2
  · cases hw
section
variable {P : Program} {w : World} {K : Frg} {mg : Str → Option Value} {base : Heap}
theorem ev_aim {σ : L2.St} {H : Hp} {i : Nat} {o : V} {Q : VK} (h : σ[i]? = some (some o)) (q : ∀ a b H', H a = none → Same H H' → H' a = some (.tup [o, .non, .ref b]) → H' b = some (.lst []) → Q (.ref a) H') :
    tTup (tCons (tVar i) (tCons (tC .non) (tCons (tLst tNil) tNil))) σ H Q := by
  refine ⟨o, h, ?_⟩
  refine ⟨Nat.zero_le _, fun b hb => ⟨by show 3 ≤ _; rw [sizeLine_eq]; decide, fun a ha => ?_⟩⟩
  have e := same_new (o := HO.lst []) hb
  exact q a b _ (e.free ha) (e.trans (same_new ha)) upd_same (by rw [upd_ne (ne_of_none (H := upd H b (.lst [])) upd_same ha), upd_same])
/-- the orders are refused, or the wishes -/
def RefP (K : Frg) (v o1 o2 : V) (H : Hp) (E : XK) : Prop := (∃ p n, BadW K H v p n ∧ RzW K p n H E) ∨ ∃ cs ls, WS K H v cs ls ∧ WG cs ls ∧ (OrdBad K H o1 ∨ ∃ s, o1 = .str s ∧ ordB s = true ∧ OrdBad K H o2) ∧ RzA K (.str "order") H E
def spPart (K : Frg) : Sp := fun vs H Q E => ∃ v o1 o2, vs = [v, o1, o2] ∧ (RefP K v o1 o2 H E ∨ ∃ cs ls s1 s2, WS K H v cs ls ∧ WG cs ls ∧ o1 = .str s1 ∧ ordB s1 = true ∧ o2 = .str s2 ∧ ordB s2 = true ∧
  ∀ D1 D2 a1 p1 a2 p2, BOk s1 cs ls D1 a1 p1 → BOk s2 cs ls D2 a2 p2 → (cntOf ls D1 = cntOf ls D2 → RetG .non H Q) ∧ (cntOf ls D1 ≠ cntOf ls D2 → ∀ tp d1 d2 H', H tp = none → H d1 = none → H d2 = none → d1 ≠ d2 → Same H H' → H' tp = some (.tup [.ref d1, .ref d2]) → H' d1 = some (.lst (D1.map vo)) → H' d2 = some (.lst (D2.map vo)) → Q (.ref tp) H'))
theorem sc_orders_part : FnScope N_orders_part ["wishes", "one", "other"] (defScope s_orders_part) := ⟨rfl, rfl, rfl, by decide +kernel, rfl, by decide +kernel, by decide +kernel⟩
/-- the look at one order's aim -/
theorem look_ord {σ : L2.St} {H : Hp} {D : Ends} {E : XK} {v o : V} {i : Nat} {cs : List Nat} {ls : List (List (List Nat))} (hv : σ[0]? = some (some v)) (ho : σ[i]? = some (some o)) (hW : WS K H v cs ls) (W : WG cs ls)
    (h : (OrdBad K H o ∧ RzA K (.str "order") H E) ∨ ∃ s, o = .str s ∧ ordB s = true ∧ ∀ H1, Same H H1 → D.nx σ H1) : tDrop (tCall (spLookA K) [] E (tCons (tVar 0) (tCons (tTup (tCons (tVar i) (tCons (tC .non) (tCons (tLst tNil) tNil)))) tNil))) D σ H := by
  refine ⟨v, hv, ?_⟩
  refine ev_aim ho fun a b H' ha e h1 h2 => ?_
  refine ⟨v, .ref a, rfl, ?_⟩
  rcases h with ⟨hb, q⟩ | ⟨s, rfl, hs, q⟩
  · exact .inl (.inr ⟨cs, ls, "order", hW.mono (Le.of e), W, .ord (SqT.of h1) (hb.imp (NoStr.mn e) id), q.mn e⟩)
  · exact .inr ⟨cs, ls, hW.mono (Le.of e), W, .ok (SqT.of h1) hs (SqL.of h2), fun H2 e2 => q H2 (e.trans e2)⟩
theorem ok_orders_part (G : Gx K mg) : Known P w K mg base (L2.CX P w) 12 "orders_part" ["wishes", "one", "other"] (spPart K) := by
  have sc := sc_orders_part
  have k_look_at_aim := ok_look_at_aim (P := P) (w := w) (base := base) G
  have k_best_dealing := ok_best_dealing (P := P) (w := w) (base := base) G
  have k_counts_of := ok_counts_of (P := P) (w := w) (base := base) G
  refine G.f_orders_part.knownX sc (fun _ _ _ _ _ _ us hl => match us, hl with | [_, _, _], _ => rfl) (fun vs H Q E h => ?_) (fun cdv A outer s H vs Q E hr h => ?_)
  · obtain ⟨v, o1, o2, rfl, _⟩ := h; rfl
  · obtain ⟨v, o1, o2, rfl, h⟩ := h
    have tk := takes_of (X := cxOf (L2.CX P w) P w K mg base N_orders_part "orders_part" (defScope s_orders_part) (He.ga K "orders_part") cdv A outer s H E) (E := E) rfl rfl rfl rfl
    refine ⟨_, (pss_cons (ps_expr (pe_kn k_look_at_aim (hr.mono (by decide)) (passes_call tk (fun _ _ _ _ h => h)) (pa_cons (pv 0) (pa_cons (pe_tup (pa_cons (pv 1) (pa_cons pe_non (pa_cons (pe_lst pa_nil) pa_nil)))) pa_nil))))
      (pss_cons (ps_expr (pe_kn k_look_at_aim (hr.mono (by decide)) (passes_call tk (fun _ _ _ _ h => h)) (pa_cons (pv 0) (pa_cons (pe_tup (pa_cons (pv 2) (pa_cons pe_non (pa_cons (pe_lst pa_nil) pa_nil)))) pa_nil))))
      (pss_cons (ps_set (i := 3) sc.nd rfl (Or.inl rfl) (pe_ix ix_tup (pe_kn k_best_dealing (hr.mono (by decide)) pass0 (pa_cons (pv 0) (pa_cons (pe_tup (pa_cons (pv 1) (pa_cons pe_non (pa_cons (pe_lst pa_nil) pa_nil)))) pa_nil))) pe_int (fun _ _ => rfl)))
      (pss_cons (ps_set (i := 4) sc.nd rfl (Or.inl rfl) (pe_ix ix_tup (pe_kn k_best_dealing (hr.mono (by decide)) pass0 (pa_cons (pv 0) (pa_cons (pe_tup (pa_cons (pv 2) (pa_cons pe_non (pa_cons (pe_lst pa_nil) pa_nil)))) pa_nil))) pe_int (fun _ _ => rfl)))
      (pss_cons (ps_if (pt_cmpR (op_eqD hr.units) (pe_kn k_counts_of (hr.mono (by decide)) pass0 (pa_cons (pv 0) (pa_cons (pv 3) pa_nil))) (pe_kn k_counts_of (hr.mono (by decide)) pass0 (pa_cons (pv 0) (pa_cons (pv 4) pa_nil))) (nomark _))
      (pss_one (ps_ret pe_non)) pss_nil)
      (pss_one (ps_ret (pe_tup (pa_cons (pv 3) (pa_cons (pv 4) pa_nil)))))))))), ?_⟩
    rcases h with (⟨p, n, hb, q⟩ | ⟨cs, ls, hW, W, hbad, q⟩) | ⟨cs, ls, s1, s2, hW, W, rfl, hs1, rfl, hs2, k⟩
    · refine st_seq ⟨v, rfl, ?_⟩
      exact ev_aim rfl fun a b H' ha e h1 h2 => ⟨v, _, rfl, .inl (.inl ⟨p, n, hb.mn e, q.mn e⟩)⟩
    · refine st_seq (look_ord rfl rfl hW W ?_)
      rcases hbad with hbad | ⟨s, rfl, hs, hbad⟩
      · exact .inl ⟨hbad, q⟩
      · refine .inr ⟨s, rfl, hs, fun H1 e1 => ?_⟩
        dsimp only
        exact st_seq (look_ord rfl rfl (hW.mono (Le.of e1)) W (.inl ⟨hbad.imp (NoStr.mn e1) id, q.mn e1⟩))
    · refine st_seq (look_ord rfl rfl hW W (.inr ⟨s1, rfl, hs1, fun H1 e1 => ?_⟩))
      dsimp only
      refine st_seq (look_ord rfl rfl (hW.mono (Le.of e1)) W (.inr ⟨s2, rfl, hs2, fun H2 e2 => ?_⟩))
      have e02 := e1.trans e2
      dsimp only
      -- the first
      refine st_seq ⟨v, rfl, ?_⟩
      refine ev_aim rfl fun aa ab H3 ha e3 h3a h3b => ?_
      have e03 := e02.trans e3
      refine ⟨v, _, cs, ls, s1, rfl, hW.mono (Le.of e03), W, ⟨aa, ab, rfl, SqT.of h3a, hs1, SqL.of h3b⟩, fun D1 asks1 pr1 hB1 tp1 d1 pt1 ap1 qp1 H4 htp1 hd1 _ _ _ e4 h4 h4d _ _ _ => ?_⟩
      have e04 := e03.trans e4
      refine ⟨tp1, _, 0, .ref d1, rfl, rfl, SqT.of h4, rfl, ?_⟩
      dsimp only
      -- the second
      refine st_seq ⟨v, rfl, ?_⟩
      refine ev_aim rfl fun aa2 ab2 H5 ha2 e5 h5a h5b => ?_
      have e05 := e04.trans e5
      refine ⟨v, _, cs, ls, s2, rfl, hW.mono (Le.of e05), W, ⟨aa2, ab2, rfl, SqT.of h5a, hs2, SqL.of h5b⟩, fun D2 asks2 pr2 hB2 tp2 d2 pt2 ap2 qp2 H6 htp2 hd2 _ _ _ e6 h6 h6d _ _ _ => ?_⟩
      have e06 := e05.trans e6
      refine ⟨tp2, _, 0, .ref d2, rfl, rfl, SqT.of h6, rfl, ?_⟩
      have hd16 := (e5.trans e6) _ _ h4d
      obtain ⟨k1, k2⟩ := k D1 D2 asks1 pr1 asks2 pr2 hB1 hB2
      dsimp only
      refine st_seq ?_
      refine ss_if (b := decide (cntOf ls D1 = cntOf ls D2)) (pt_t ?_) (fun H7 e7 hb => ?_) fun H7 e7 hb => ?_
      · intro H7 e7 Q' q'
        refine el_call (pva_2 (pv_var rfl) (pv_var rfl)) (fun H8 e8 Q8 q8 => ⟨v, cs, ls, d1, D1, rfl, hW.mono (Le.of (e06.trans (e7.trans e8))), W, SqL.of ((e7.trans e8) _ _ hd16), hB1.prp, q8⟩) _ fun c1 H8 hc1 e8 h8 => ?_
        refine el_call (pva_2 (pv_var rfl) (pv_var rfl)) (fun H9 e9 Q9 q9 => ⟨v, cs, ls, d2, D2, rfl, hW.mono (Le.of (e06.trans (e7.trans (e8.trans e9)))), W, SqL.of ((e7.trans (e8.trans e9)) _ _ h6d), hB2.prp, q9⟩) _ fun c2 H9 hc2 e9 h9 => ?_
        rw [cntL_N] at h8 h9
        refine ⟨pdn (cntOf ls D1), pdn (cntOf ls D2), dp_n (SqL.of (e9 _ _ h8)), dp_n (SqL.of h9), shp_n, shp_n, ?_⟩
        rw [eqv_n]
        exact q' _ (e8.trans e9)
      · exact ss_ret pv_c ((k1 (of_decide_eq_true hb)).mn (e06.trans e7))
      · refine st_next ?_
        dsimp only
        have hne : d1 ≠ d2 := ne_of_none (e5 _ _ h4d) hd2
        refine Wd.st_rett (et_tup (vs := [.ref d1, .ref d2]) (pva_2 (pv_var rfl) (pv_var rfl)) (by show 2 ≤ _; decide)) fun tp H8 htp e8 h8 => ?_
        have e07 := e06.trans e7
        exact k2 (of_decide_eq_false hb) tp d1 d2 H8 (e07.free htp) (e03.free hd1) (e05.free hd2) hne (e07.trans e8) h8 ((e7.trans e8) _ _ hd16) ((e7.trans e8) _ _ h6d)
end
end Wd
set_option Elab.async false
set_option linter.all false
set_option maxRecDepth 100000
set_option maxHeartbeats 4000000
/-! Plain law: nodes led to by arcs. -/
namespace Wd
theorem sub_len {α : Type} [DecidableEq α] : ∀ {l1 l2 : List α}, l1.Nodup → l1 ⊆ l2 → l1.length ≤ l2.length
  | [], _, _, _ => Nat.zero_le _
  | a :: r, l2, nd, h => by
    have ha : a ∈ l2 := h List.mem_cons_self
    have nd' := List.nodup_cons.mp nd
    have h1 : r ⊆ l2.erase a := fun x hx => (List.mem_erase_of_ne (fun z : x = a => nd'.1 (by rw [← z]; exact hx))).mpr (h (List.mem_cons_of_mem _ hx))
    have h2 := sub_len nd'.2 h1
    rw [List.length_erase_of_mem ha] at h2
    have := List.length_pos_of_mem ha
    rw [List.length_cons]
    omega
inductive Rch (arcs : List (List Nat)) (s : Nat) : Nat → Prop where
  | refl : Rch arcs s s
  | step {x y : Nat} : Rch arcs s x → y ∈ arcs[x]?.getD [] → Rch arcs s y
theorem Rch.trans {arcs : List (List Nat)} {a b c : Nat} (h1 : Rch arcs a b) (h2 : Rch arcs b c) : Rch arcs a c := by
  induction h2 with
  | refl => exact h1
  | step _ h ih => exact ih.step h
def AGood (arcs : List (List Nat)) : Prop := ∀ i x : Nat, x ∈ arcs[i]?.getD [] → x < arcs.length
theorem Rch.lt {arcs : List (List Nat)} {a b : Nat} (g : AGood arcs) (ha : a < arcs.length) (h : Rch arcs a b) : b < arcs.length := by
  cases h with
  | refl => exact ha
  | step _ h => exact g _ _ h
noncomputable def rchL (arcs : List (List Nat)) (s : Nat) : List Nat := (List.range arcs.length).filter fun x => @decide (Rch arcs s x) (Classical.propDecidable _)
noncomputable def plc (arcs : List (List Nat)) (s : Nat) : Nat := (rchL arcs s).length
theorem rchL_mem {arcs : List (List Nat)} {s x : Nat} : x ∈ rchL arcs s ↔ x < arcs.length ∧ Rch arcs s x := by
  unfold rchL
  rw [List.mem_filter, List.mem_range]
  simp
theorem rchL_nd {arcs : List (List Nat)} {s : Nat} : (rchL arcs s).Nodup := List.nodup_range.sublist List.filter_sublist
theorem plc_le {arcs : List (List Nat)} {s : Nat} : plc arcs s ≤ arcs.length := by
  have := sub_len (rchL_nd (arcs := arcs) (s := s)) (l2 := List.range arcs.length) fun x hx => List.mem_range.mpr (rchL_mem.mp hx).1
  rwa [List.length_range] at this
theorem plc_pos {arcs : List (List Nat)} {s : Nat} (h : s < arcs.length) : 1 ≤ plc arcs s := List.length_pos_of_mem (rchL_mem.mpr ⟨h, .refl⟩)
theorem plc_back {arcs : List (List Nat)} {a b : Nat} (ha : a < arcs.length) (h : Rch arcs a b) (e : plc arcs a = plc arcs b) : Rch arcs b a := by
  apply Classical.byContradiction
  intro hn
  have h1 : rchL arcs b ⊆ (rchL arcs a).erase a := fun x hx => by
    have hx' := rchL_mem.mp hx
    have hne : x ≠ a := fun z => hn (z ▸ hx'.2)
    exact (List.mem_erase_of_ne hne).mpr (rchL_mem.mpr ⟨hx'.1, h.trans hx'.2⟩)
  have h2 := sub_len rchL_nd h1
  rw [List.length_erase_of_mem (rchL_mem.mpr ⟨ha, .refl⟩)] at h2
  have h3 := plc_pos (s := a) ha
  unfold plc at e h3
  omega
/-- what led_to tells -/
structure LedOk (arcs : List (List Nat)) (s : Nat) (F : List (Nat × Option Nat)) : Prop where
  nd : (F.map (·.1)).Nodup
  mem : ∀ x, x ∈ F.map (·.1) ↔ Rch arcs s x
  tr : ∀ (i x y : Nat), F[i]? = some (x, some y) → ∃ j, j < i ∧ (F[j]?).map (·.1) = some y
theorem LedOk.len {arcs : List (List Nat)} {s : Nat} {F : List (Nat × Option Nat)} (g : AGood arcs) (hs : s < arcs.length) (h : LedOk arcs s F) : F.length = plc arcs s := by
  have h1 := sub_len h.nd (l2 := rchL arcs s) fun x hx => rchL_mem.mpr ⟨((h.mem x).mp hx).lt g hs, (h.mem x).mp hx⟩
  have h2 := sub_len (rchL_nd (arcs := arcs) (s := s)) (l2 := F.map (·.1)) fun x hx => (h.mem x).mpr (rchL_mem.mp hx).2
  rw [List.length_map] at h1 h2
  unfold plc
  omega
/-- the walk on its way; e: the node just taken off the row -/
structure BI (arcs : List (List Nat)) (s : Nat) (e : Option Nat) (F : List (Nat × Option Nat)) (row : List Nat) : Prop where
  nd : (F.map (·.1)).Nodup
  lt : ∀ x ∈ F.map (·.1), x < arcs.length
  s0 : s ∈ F.map (·.1)
  rc : ∀ x ∈ F.map (·.1), Rch arcs s x
  rn : row.Nodup
  rm : ∀ x ∈ row, x ∈ F.map (·.1)
  tr : ∀ (i x y : Nat), F[i]? = some (x, some y) → ∃ j, j < i ∧ (F[j]?).map (·.1) = some y
  cl : ∀ x ∈ F.map (·.1), x ∉ row → e ≠ some x → ∀ y ∈ arcs[x]?.getD [], y ∈ F.map (·.1)
section
variable {arcs : List (List Nat)} {s h : Nat} {F : List (Nat × Option Nat)} {row : List Nat}
theorem BI.start (hs : s < arcs.length) : BI arcs s none [(s, none)] [s] :=
  ⟨by simp, (fun x hx => by simp at hx; omega), by simp, (fun x hx => by simp at hx; rw [hx]; exact .refl), by simp, (fun x hx => by simpa using hx), (fun i x y h => by
    cases i with
    | zero => simp at h
    | succ i => simp at h), fun x hx hn => by simp at hx hn; exact absurd hx hn⟩
theorem BI.pop (B : BI arcs s none F (h :: row)) : BI arcs s (some h) F row ∧ h ∈ F.map (·.1) ∧ h ∉ row :=
  ⟨⟨B.nd, B.lt, B.s0, B.rc, (List.nodup_cons.mp B.rn).2, fun x hx => B.rm x (List.mem_cons_of_mem _ hx), B.tr, fun x hx hn he => B.cl x hx (fun z => by
    rcases List.mem_cons.mp z with z | z
    · exact he (by rw [z])
    · exact hn z) (fun z => by cases z)⟩, B.rm h List.mem_cons_self, (List.nodup_cons.mp B.rn).1⟩
theorem BI.add {y : Nat} (B : BI arcs s (some h) F row) (hh : h ∈ F.map (·.1)) (hy : y ∉ F.map (·.1)) (hya : y ∈ arcs[h]?.getD []) (hyl : y < arcs.length) : BI arcs s (some h) (F ++ [(y, some h)]) (row ++ [y]) := by
  have hk : ∀ x, x ∈ (F ++ [(y, some h)]).map (·.1) ↔ x ∈ F.map (·.1) ∨ x = y := fun x => by
    rw [List.map_append, List.mem_append]
    simp
  refine ⟨?_, fun x hx => ?_, (hk _).mpr (.inl B.s0), fun x hx => ?_, ?_, fun x hx => ?_, fun i x z hi => ?_, fun x hx hn he z hz => ?_⟩
  · rw [List.map_append]
    refine List.nodup_append.mpr ⟨B.nd, by simp, fun a ha b hb => ?_⟩
    have hb' : b = y := by simpa using hb
    rw [hb']
    exact fun z => hy (z ▸ ha)
  · rcases (hk x).mp hx with h1 | h1
    · exact B.lt x h1
    · rw [h1]; exact hyl
  · rcases (hk x).mp hx with h1 | h1
    · exact B.rc x h1
    · rw [h1]; exact (B.rc h hh).step hya
  · refine List.nodup_append.mpr ⟨B.rn, by simp, fun a ha b hb => ?_⟩
    have hb' : b = y := by simpa using hb
    rw [hb']
    exact fun z => hy (z ▸ B.rm a ha)
  · rcases List.mem_append.mp hx with h1 | h1
    · exact (hk x).mpr (.inl (B.rm x h1))
    · exact (hk x).mpr (.inr (List.mem_singleton.mp h1))
  · rw [List.getElem?_append] at hi
    by_cases hl : i < F.length
    · rw [if_pos hl] at hi
      obtain ⟨j, hj, h1⟩ := B.tr i x z hi
      exact ⟨j, hj, by rw [List.getElem?_append_left (by omega)]; exact h1⟩
    · rw [if_neg hl] at hi
      have : i - F.length = 0 := by
        have := (List.getElem?_eq_some_iff.mp hi).1
        simp at this
        omega
      rw [this] at hi
      cases hi
      obtain ⟨j, hj⟩ := List.mem_iff_getElem?.mp hh
      have hjl := (List.getElem?_eq_some_iff.mp hj).1
      rw [List.length_map] at hjl
      rw [List.getElem?_map] at hj
      exact ⟨j, by omega, by rw [List.getElem?_append_left hjl]; exact hj⟩
  · rw [List.mem_append, not_or] at hn
    rcases (hk x).mp hx with h1 | h1
    · exact (hk z).mpr (.inl (B.cl x h1 hn.1 he z hz))
    · exact absurd h1 (fun z2 => hn.2 (List.mem_singleton.mpr z2))
theorem BI.done (B : BI arcs s (some h) F row) (hc : ∀ y ∈ arcs[h]?.getD [], y ∈ F.map (·.1)) : BI arcs s none F row :=
  ⟨B.nd, B.lt, B.s0, B.rc, B.rn, B.rm, B.tr, fun x hx hn _ => by
    by_cases e : h = x
    · subst e; exact hc
    · exact B.cl x hx hn (fun z => e (Option.some.inj z))⟩
theorem BI.led (B : BI arcs s none F []) : LedOk arcs s F :=
  ⟨B.nd, fun x => ⟨B.rc x, fun h => by
    induction h with
    | refl => exact B.s0
    | step _ h ih => exact B.cl _ ih (by simp) (fun z => by cases z) _ h⟩, B.tr⟩
theorem BI.size (B : BI arcs s (some h) F row) : F.length ≤ arcs.length := by
  have := sub_len B.nd (l2 := List.range arcs.length) fun x hx => List.mem_range.mpr (B.lt x hx)
  rwa [List.length_map, List.length_range] at this
theorem BI.rsize {e : Option Nat} (B : BI arcs s e F row) : row.length ≤ arcs.length ∧ F.length ≤ arcs.length := by
  have h1 := sub_len B.nd (l2 := List.range arcs.length) fun x hx => List.mem_range.mpr (B.lt x hx)
  have h2 := sub_len B.rn (l2 := List.range arcs.length) fun x hx => List.mem_range.mpr (B.lt x (B.rm x hx))
  rw [List.length_range] at h2
  rw [List.length_map, List.length_range] at h1
  exact ⟨h2, h1⟩
end
end Wd
set_option Elab.async false
set_option linter.all false
set_option maxRecDepth 100000
set_option maxHeartbeats 4000000
/-! led_to, places_of, strict_paper, moved_round -/
namespace Wd
open PySem PySem.Spec PyProof.Rows L2
theorem lln_get {K : Frg} {H : Hp} {a : Addr} {nss : List (List Nat)} (h : LLN K H (.ref a) nss) : ∃ vs, SqL K H a vs ∧ vs.length = nss.length ∧ ∀ (i : Nat) (ns : List Nat), nss[i]? = some ns → ∃ b : Addr, vs[i]? = some (V.ref b) ∧ SqL K H b (ns.map vn) := by
  obtain ⟨a', vs, e, h1, h2⟩ := h
  cases e
  refine ⟨vs, h1, h2.length, fun i ns hn => ?_⟩
  have hi := (List.getElem?_eq_some_iff.mp hn).1
  have hv : vs[i]? = some (vs[i]'(by rw [h2.length]; exact hi)) := List.getElem?_eq_getElem _
  obtain ⟨ns', h3, b, h4, h5⟩ := paired_get h2 hv
  rw [hn] at h3
  cases h3
  exact ⟨b, by rw [hv, h4], h5⟩
section
variable {P : Program} {w : World} {K : Frg} {mg : Str → Option Value} {base : Heap}
def spLed (K : Frg) : Sp := fun vs H Q _ => ∃ (ap : Addr) (arcs : List (List Nat)) (s : Nat), vs = [.ref ap, vn s] ∧ LLN K H (.ref ap) arcs ∧ AGood arcs ∧ s < arcs.length ∧ arcs.length ≤ 1000 ∧ ∀ F, LedOk arcs s F → RetD (dg vo F) H Q
theorem sc_led_to : FnScope N_led_to ["arcs", "node"] (defScope s_led_to) := ⟨rfl, rfl, rfl, by decide +kernel, rfl, by decide +kernel, by decide +kernel⟩
theorem lk_key {F : List (Nat × Option Nat)} {x : Nat} : (lkA F x).isSome = decide (x ∈ F.map (·.1)) := by
  by_cases h : x ∈ F.map (·.1)
  · rw [decide_eq_true h]
    cases e : lkA F x with
    | none => exact absurd h (lkA_none.mp e)
    | some _ => rfl
  · rw [decide_eq_false h, lkA_none.mpr h]; rfl
theorem pt_nil {K : Frg} {σ : L2.St} {H : Hp} {ta : TE} {a : Addr} {ns : List Nat} (ha : Pv ta σ H (.ref a)) (h : SqL K H a (ns.map vn)) : Pv (tOp (rNeD K) ta (tLst tNil)) σ H (.bl (decide (ns ≠ []))) :=
  fun H1 e Q q => ha H1 e _ fun H2 e2 => ⟨Nat.zero_le _, fun p hp => ⟨pdn ns, pdn [], dp_n (SqL.mn (e.trans (e2.trans (same_new hp))) h), dp_n (SqL.of upd_same), shp_n, shp_n, by
    rw [eqv_n, ← decide_not]
    exact q _ (e2.trans (same_new hp))⟩⟩
theorem ok_led_to (G : Gx K mg) : Known P w K mg base CX0 1 "led_to" ["arcs", "node"] (spLed K) := by
  have sc := sc_led_to
  refine G.f_led_to.known sc (fun _ _ _ _ _ _ us hl => match us, hl with | [_, _], _ => rfl) (fun vs H Q E h => ?_) (fun cdv A outer s H vs Q E hr h => ?_)
  · obtain ⟨ap, arcs, s, rfl, _⟩ := h; rfl
  · obtain ⟨ap, arcs, s, rfl, hL, hg, hs, hN, q⟩ := h
    refine ⟨_, (pss_cons (ps_set (i := 2) sc.nd rfl (Or.inl rfl) (pe_disp (pps_cons (pv 1) pe_non pps_nil) (by rfl) (by rfl) (fun z => by cases z) (by decide)))
      (pss_cons (ps_set (i := 3) sc.nd rfl (Or.inl rfl) (pe_lst (pa_cons (pv 1) pa_nil)))
      (pss_cons (ps_while PassesOwn.never (pt_cmpR (op_neD hr.units) (pv 3) (pe_lst pa_nil) (nomark _))
      (pss_cons (ps_set (i := 4) sc.nd rfl (Or.inl rfl) (pe_bm PySem.F.plainAttrs_list PySem.F.slot_list_pop PySem.F.type_list_pop mt_popAt (pv 3) (pa_cons pe_int pa_nil)))
      (pss_one (ps_for PassesOwn.never rfl (pi_list (pe_ix ix_list (pv 0) (pv 4) (fun _ _ => rfl))) (pg_name (i := 5) sc.nd rfl (Or.inl rfl))
      (pss_one (ps_if (pt_cmp (pc_dnotin (hu_of hr) (pv 5) (pv 2)))
      (pss_cons (ps_dput (hu_of hr) (pv 2) (pv 5) (pv 4) rfl)
      (pss_one (ps_expr (pe_bm PySem.F.plainAttrs_list PySem.F.slot_list_append PySem.F.type_list_append mt_append (pv 3) (pa_cons (pv 5) pa_nil))))) pss_nil))))))
      (pss_one (ps_ret (pv 2)))))), ?_⟩
    obtain ⟨us, hus, hul, hug⟩ := lln_get hL
    refine sd_set (ed_disp1 (k := s) (fun _ => pv_var rfl) fun _ => pv_c) fun d H1 hd e1 h1 => ?_
    dsimp only
    refine st_seq ?_
    refine sl_set (el_lst (pva_1 (pv_var rfl)) (by show 1 ≤ _; rw [sizeLine_eq]; decide)) fun p H2 hp e2 h2 => ?_
    have hp0 : H p = none := e1.free hp
    have hdp : d ≠ p := ne_of_none h1 hp
    dsimp only
    refine st_seq ?_
    refine w_while (fun n σ H' => ∃ F row y4 y5, σ = [some (.ref ap), some (vn s), some (.ref d), some (.ref p), y4, y5] ∧ Same H H' ∧ H' d = some (.dK (dg vo F)) ∧ H' p = some (.lst (row.map vn)) ∧ BI arcs s none F row ∧ n = 2 * (arcs.length - F.length) + row.length) (2 * (arcs.length - 1) + 1) ⟨[(s, none)], [s], _, _, rfl, e1.trans e2, e2 _ _ h1, h2, BI.start hs, rfl⟩ ?_
    rintro n σ H3 ⟨F, row, y4, y5, rfl, e3, hd3, hp3, hB, rfl⟩
    refine (pt_t (pt_nil (pv_var rfl) (SqL.of hp3))) _ (Same.refl _) _ fun H4 e4 => ?_
    cases row with
    | nil =>
      rw [if_neg (fun h => by simp at h)]
      dsimp only
      exact ⟨_, rfl, q F hB.led d H4 hd (e3.trans e4) (e4 _ _ hd3)⟩
    | cons h row =>
      rw [if_pos (by simp)]
      obtain ⟨hB2, hh, hhr⟩ := hB.pop
      have hhl := hB.lt h hh
      refine ⟨fun σ H' => ∃ F' row' y4 y5, σ = [some (.ref ap), some (vn s), some (.ref d), some (.ref p), y4, y5] ∧ Same H H' ∧ H' d = some (.dK (dg vo F')) ∧ H' p = some (.lst (row'.map vn)) ∧ BI arcs s none F' row' ∧ 2 * (arcs.length - F'.length) + row'.length < 2 * (arcs.length - F.length) + (h :: row).length, fun σ2 H5 ⟨F', row', y4, y5, h1, h2, h3, h4, h5, h6⟩ => ⟨_, h6, F', row', y4, y5, h1, h2, h3, h4, h5, rfl⟩, ?_⟩
      refine st_seq ?_
      refine ⟨_, rfl, .inl ⟨rfl, _, SqL.of (e4 _ _ hp3)⟩, p, _, 0, 0, vn h, rfl, rfl, e4 _ _ hp3, by decide, by decide, ?_, rfl, ?_⟩
      · exact seqIndex_of (k := 0) (by decide) (by rw [List.length_map, List.length_cons]; omega)
      have e5 : Same H (upd H4 p (.lst (row.map vn))) := same_mut (e3.trans e4) hp0
      have hd5 : (upd H4 p (.lst (row.map vn))) d = some (.dK (dg vo F)) := by rw [upd_ne hdp]; exact e4 _ _ hd3
      have har : arcs[h]? = some (arcs[h]'hhl) := List.getElem?_eq_getElem _
      obtain ⟨b, hb1, hb2⟩ := hug _ _ har
      have hgd : arcs[h]?.getD [] = arcs[h]'hhl := by rw [har]; rfl
      dsimp only [gName]
      refine w_forL (a := b) (xs := (arcs[h]'hhl).map vn) (vl_ixL (val_var rfl) (val_var rfl) (SqL.mn e5 hus) (atI_nat hb1)) (SqL.mn e5 hb2) (fun j σ H' => ∃ F' row' y5, σ = [some (.ref ap), some (vn s), some (.ref d), some (.ref p), some (vn h), y5] ∧ Same H H' ∧ H' d = some (.dK (dg vo F')) ∧ H' p = some (.lst (row'.map vn)) ∧ BI arcs s (some h) F' row' ∧ h ∈ F'.map (·.1) ∧ (∀ y ∈ (arcs[h]'hhl).take j, y ∈ F'.map (·.1)) ∧ 2 * (arcs.length - F'.length) + row'.length ≤ 2 * (arcs.length - F.length) + row.length) ⟨F, row, _, rfl, e5, hd5, upd_same, hB2, hh, (fun y hy => by simp at hy), Nat.le_refl _⟩ (fun j σ H' _ ⟨_, _, _, _, e, _⟩ => SqL.mn e hb2) ?_ ?_
      · rintro j x σ H6 hj ⟨F1, row1, y5, rfl, e6, hd6, hp6, hB6, hh6, hall, hsz⟩
        rw [List.getElem?_map] at hj
        cases hj' : (arcs[h]'hhl)[j]? with
        | none => rw [hj'] at hj; cases hj
        | some y =>
        rw [hj'] at hj
        cases hj
        have hyin : y ∈ arcs[h]?.getD [] := by rw [hgd]; exact List.mem_of_getElem? hj'
        have hyl := hg h y hyin
        have htk : (arcs[h]'hhl).take (j + 1) = (arcs[h]'hhl).take j ++ [y] := by rw [List.take_succ, hj']; rfl
        obtain ⟨hrl, hFl⟩ := hB6.rsize
        refine ss_if (b := !decide (y ∈ F1.map (·.1))) (pt_b (pt_dnin (k := NK y) (pv_var rfl) (pv_var rfl) (.inl hd6) (by rw [dg_val, Option.isSome_map, lk_key]))) (fun H7 e7 hb => ?_) fun H7 e7 hb => ?_
        · have hny : y ∉ F1.map (·.1) := fun z => by rw [decide_eq_true z] at hb; cases hb
          refine st_seq ?_
          refine ss_dput (k := NK y) (v := vn h) (pv_var rfl) (pv_var rfl) (pv_var rfl) (e7 _ _ hd6) (by rw [dg_len, sizeLine_eq]; omega) fun H8 e8 => ?_
          have ep : putK (dg vo F1) (NK y) (vn h) = dg vo (F1 ++ [(y, some h)]) := by
            have : putK (dg vo F1) (NK y) (vo (some h)) = dg vo (putA F1 y (some h)) := dg_put (e := vo)
            rw [putA_new (lkA_none.mpr hny)] at this
            exact this
          rw [ep]
          dsimp only
          have e68 := e6.trans (e7.trans e8)
          have hp8 : (upd H8 d (.dK (dg vo (F1 ++ [(y, some h)])))) p = some (.lst (row1.map vn)) := by rw [upd_ne (Ne.symm hdp)]; exact (e7.trans e8) _ _ hp6
          have hB8 := hB6.add hh6 hny hyin hyl
          obtain ⟨hrl8, hFl8⟩ := hB8.rsize
          rw [List.length_append, List.length_singleton] at hFl8 hrl8
          refine ss_app rfl hp8 (by rw [List.length_map, sizeLine_eq]; omega) (pv_var rfl) fun H9 e9 => ⟨_, _, _, rfl, same_mut ((same_mut e68 hd).trans e9) hp0, ?_, by rw [upd_same, List.map_append]; rfl, hB8, ?_, fun z hz => ?_, ?_⟩
          · rw [upd_ne hdp]; exact e9 _ _ upd_same
          · rw [List.map_append]; exact List.mem_append_left _ hh6
          · rw [List.map_append]
            rw [htk] at hz
            rcases List.mem_append.mp hz with hz | hz
            · exact List.mem_append_left _ (hall z hz)
            · rw [List.mem_singleton.mp hz]; exact List.mem_append_right _ (by simp)
          · rw [List.length_append, List.length_append, List.length_singleton, List.length_singleton]
            omega
        · have hiy : y ∈ F1.map (·.1) := by
            cases h1 : decide (y ∈ F1.map (·.1)) with
            | true => exact of_decide_eq_true h1
            | false => rw [h1] at hb; cases hb
          refine ⟨F1, row1, _, rfl, e6.trans e7, e7 _ _ hd6, e7 _ _ hp6, hB6, hh6, fun z hz => ?_, hsz⟩
          rw [htk] at hz
          rcases List.mem_append.mp hz with hz | hz
          · exact hall z hz
          · rw [List.mem_singleton.mp hz]; exact hiy
      · rintro σ H6 ⟨F1, row1, y5, rfl, e6, hd6, hp6, hB6, hh6, hall, hsz⟩
        rw [List.length_map, List.take_length] at hall
        refine ⟨F1, row1, _, _, rfl, e6, hd6, hp6, hB6.done (by rw [hgd]; exact hall), ?_⟩
        rw [List.length_cons]
        omega
/-! ### places_of -/
def spPlaces (K : Frg) : Sp := fun vs H Q _ => ∃ (ap : Addr) (arcs : List (List Nat)), vs = [.ref ap] ∧ LLN K H (.ref ap) arcs ∧ AGood arcs ∧ arcs.length ≤ 1000 ∧ RetL ((List.range arcs.length).map fun i => vn (plc arcs i)) H Q
theorem sc_places_of : FnScope N_places_of ["arcs"] (defScope s_places_of) := ⟨rfl, rfl, rfl, by decide +kernel, rfl, by decide +kernel, by decide +kernel⟩
theorem ok_places_of (G : Gx K mg) : Known P w K mg base CX0 2 "places_of" ["arcs"] (spPlaces K) := by
  have sc := sc_places_of
  have k_led_to := ok_led_to (P := P) (w := w) (base := base) G
  refine G.f_places_of.known sc (fun _ _ _ _ _ _ us hl => match us, hl with | [_], _ => rfl) (fun vs H Q E h => ?_) (fun cdv A outer s H vs Q E hr h => ?_)
  · obtain ⟨ap, arcs, rfl, _⟩ := h; rfl
  · obtain ⟨ap, arcs, rfl, hL, hg, hN, q⟩ := h
    refine ⟨_, (pss_one (ps_ret (pe_lc (own := [("node", 1)]) rfl sc.nd (pi_range1 rfl G.n_range (pa_cons (pe_callB call_len_seq (by rfl) G.n_len (by decide +kernel) (pa_cons (pv 0) pa_nil)) pa_nil)) (blkOk_by (by rfl)) (fun _ _ _ _ _ => (pg_name (i := 1) sc.nd rfl (Or.inl rfl))) (fun _ _ _ _ _ => pts_nil) (fun _ _ _ _ _ => (pe_callB call_lenD (by rfl) G.n_len (by decide +kernel) (pa_cons (pe_kn k_led_to (hr.mono (by decide)) pass0 (pa_cons (pv 0) (pa_cons (pv 1) pa_nil))) pa_nil)))))), ?_⟩
    obtain ⟨us, hus, hul, hug⟩ := lln_get hL
    refine sr_ret ?_
    refine c_lcR (n := (arcs.length : Int)) (fun i => vn (plc arcs i)) (fun Q q => ⟨_, rfl, ap, us, rfl, .inl hus, by rw [hul]; exact q⟩) (by omega) (by omega) (by intro x; rfl) (fun i hi => ?_) ?_
    · intro H1 e1 Q1 q1
      refine sr_1 (c_call (pva_2 (pv_var rfl) (pv_var rfl)) fun H2 e2 => ⟨ap, arcs, i, rfl, hL.mono (Le.of (e1.trans e2)), hg, by omega, hN, fun F hF d H3 hd e3 h3 => ⟨d, _, rfl, h3, ?_⟩⟩)
      rw [dg_len, hF.len hg (by omega)]
      exact q1 H3 (e2.trans e3)
    · have hn : ((arcs.length : Nat) : Int).toNat = arcs.length := by omega
      rw [hn]
      exact q
/-! ### strict_paper -/
/-- the strict paper's numbers -/
noncomputable def sAsk (arcs : List (List Nat)) (asks : List Int) (a : Nat) : Int := (arcs.length : Int) * qf asks a + (plc arcs a : Int) - (plc arcs (arcs.length - 1) : Int)
noncomputable def sPri (arcs : List (List Nat)) (n : Nat) (prices : List Int) (t : Nat) : Int := (arcs.length : Int) * qf prices t + (plc arcs (arcs.length - 1) : Int) - (plc arcs (n + t) : Int)
def spStrict (K : Frg) : Sp := fun vs H Q _ => ∃ (pt ask pri ap : Addr) (asks prices : List Int) (arcs : List (List Nat)), vs = [.ref pt, .ref ap] ∧ SqT K H pt [.int 1, .ref ask, .ref pri] ∧ SqL K H ask (asks.map V.int) ∧ SqL K H pri (prices.map V.int) ∧ LLN K H (.ref ap) arcs ∧ AGood arcs ∧ arcs.length ≤ 1000 ∧ arcs.length = asks.length + prices.length + 1 ∧
  ∀ tp a1 p1 H', H tp = none → H a1 = none → H p1 = none → Same H H' → H' tp = some (.tup [.int (arcs.length : Int), .ref a1, .ref p1]) → H' a1 = some (.lst ((List.range asks.length).map fun a => V.int (sAsk arcs asks a))) → H' p1 = some (.lst ((List.range prices.length).map fun t => V.int (sPri arcs asks.length prices t))) → Q (.ref tp) H'
theorem sc_strict_paper : FnScope N_strict_paper ["paper", "arcs"] (defScope s_strict_paper) := ⟨rfl, rfl, rfl, by decide +kernel, rfl, by decide +kernel, by decide +kernel⟩
theorem pl_get {arcs : List (List Nat)} {i : Nat} (h : i < arcs.length) : ((List.range arcs.length).map fun i => vn (plc arcs i))[i]? = some (vn (plc arcs i)) := by
  rw [List.getElem?_map, List.getElem?_range h]; rfl
theorem ok_strict_paper (G : Gx K mg) : Known P w K mg base CX0 3 "strict_paper" ["paper", "arcs"] (spStrict K) := by
  have sc := sc_strict_paper
  have k_places_of := ok_places_of (P := P) (w := w) (base := base) G
  refine G.f_strict_paper.known sc (fun _ _ _ _ _ _ us hl => match us, hl with | [_, _], _ => rfl) (fun vs H Q E h => ?_) (fun cdv A outer s H vs Q E hr h => ?_)
  · obtain ⟨pt, ask, pri, ap, asks, prices, arcs, rfl, _⟩ := h; rfl
  · obtain ⟨pt, ask, pri, ap, asks, prices, arcs, rfl, hT, hA, hP, hL, hg, hN, hlen, q⟩ := h
    refine ⟨_, (pss_cons (ps_asg (pv 0) (pg_tup rfl (pgs_cons (pg_name (i := 2) sc.nd rfl (Or.inl rfl)) (pgs_cons (pg_name (i := 3) sc.nd rfl (Or.inr rfl)) (pgs_cons (pg_name (i := 4) sc.nd rfl (Or.inr rfl)) pgs_nil)))))
      (pss_cons (ps_set (i := 5) sc.nd rfl (Or.inr rfl) (pe_kn k_places_of (hr.mono (by decide)) pass0 (pa_cons (pv 1) pa_nil)))
      (pss_cons (ps_set (i := 6) sc.nd rfl (Or.inr rfl) (pe_callB call_len_seq (by rfl) G.n_len (by decide +kernel) (pa_cons (pv 3) pa_nil)))
      (pss_cons (ps_set (i := 7) sc.nd rfl (Or.inr rfl) (pe_callB call_len_seq (by rfl) G.n_len (by decide +kernel) (pa_cons (pv 1) pa_nil)))
      (pss_cons (ps_setLc (i := 9) (own := [("asker", 8)]) rfl sc.nd rfl rfl (sw_true rfl rfl rfl (by decide +kernel)) (pi_range1 rfl G.n_range (pa_cons (pv 6) pa_nil)) (blkOk_by (by rfl)) (fun _ _ _ _ _ => (pg_name (i := 8) sc.nd rfl (Or.inl rfl))) (fun _ _ _ _ _ => pts_nil) (fun _ _ _ _ _ => (pe_op op_sub (pe_op op_add (pe_op op_mul (pv 7) (pe_ix (ix_listK (K := K)) (pv 3) (pv 8) (fun _ _ => rfl))) (pe_ix (ix_listK (K := K)) (pv 5) (pv 8) (fun _ _ => rfl))) (pe_ix (ix_listK (K := K)) (pv 5) (pe_un un_neg pe_int) (fun _ _ => rfl)))))
      (pss_cons (ps_setLc (i := 11) (own := [("thing", 10)]) rfl sc.nd rfl rfl (sw_true rfl rfl rfl (by decide +kernel)) (pi_range1 rfl G.n_range (pa_cons (pe_callB call_len_seq (by rfl) G.n_len (by decide +kernel) (pa_cons (pv 4) pa_nil)) pa_nil)) (blkOk_by (by rfl)) (fun _ _ _ _ _ => (pg_name (i := 10) sc.nd rfl (Or.inl rfl))) (fun _ _ _ _ _ => pts_nil) (fun _ _ _ _ _ => (pe_op op_sub (pe_op op_add (pe_op op_mul (pv 7) (pe_ix (ix_listK (K := K)) (pv 4) (pv 10) (fun _ _ => rfl))) (pe_ix (ix_listK (K := K)) (pv 5) (pe_un un_neg pe_int) (fun _ _ => rfl))) (pe_ix (ix_listK (K := K)) (pv 5) (pe_op op_add (pv 6) (pv 10)) (fun _ _ => rfl)))))
      (pss_one (ps_ret (pe_tup (pa_cons (pe_op op_mul (pv 7) (pv 2)) (pa_cons (pv 9) (pa_cons (pv 11) pa_nil)))))))))))), ?_⟩
    obtain ⟨us, hus, hul, hug⟩ := lln_get hL
    refine st_seq ⟨_, rfl, w_tg3 hT ?_⟩
    dsimp only
    refine st_seq ?_
    refine sl_set (el_call (pva_1 (pv_var rfl)) fun H1 e1 Q1 q1 => ⟨ap, arcs, rfl, hL.mono (Le.of e1), hg, hN, q1⟩) fun pl H1 hpl e1 h1 => ?_
    dsimp only
    refine st_seq ?_
    refine ss_set (pv_len (n := asks.length) (pv_var rfl) (.inl (SqL.mn e1 hA)) (by rw [List.length_map])) fun H2 e2 => ?_
    have e02 := e1.trans e2
    dsimp only
    refine st_seq ?_
    refine ss_set (pv_len (n := arcs.length) (pv_var rfl) (.inl (SqL.mn e02 hus)) hul) fun H3 e3 => ?_
    have e03 := e02.trans e3
    have h3 := (e2.trans e3) _ _ h1
    have hlast : ((List.range arcs.length).map fun i => vn (plc arcs i))[arcs.length - 1]? = some (vn (plc arcs (arcs.length - 1))) := pl_get (by omega)
    have hneg : ∀ {v : V}, ((List.range arcs.length).map fun i => vn (plc arcs i))[arcs.length - 1]? = some v → atI ((List.range arcs.length).map fun i => vn (plc arcs i)) (-1) = some v := fun h => atI_neg1 (n := arcs.length - 1) (by simp; omega) h
    dsimp only
    refine st_seq ?_
    refine c_lcR (n := (asks.length : Int)) (fun a => V.int (sAsk arcs asks a)) (fun Q q => ⟨_, rfl, q⟩) (by omega) (by omega) (by intro x; rfl) (fun i hi => ?_) fun a1 H4 ha1 e4 h4 => ?_
    · exact pv_sub (pv_add (pv_mul (i := (arcs.length : Int)) (j := qf asks i) (pv_var rfl) (pv_ixL (pv_var rfl) (pv_var rfl) (SqL.mn e03 hA) (atI_nat (q_get (by omega)))) (.inl ⟨by omega, by omega⟩)) (pv_ixL (pv_var rfl) (pv_var rfl) (SqL.of h3) (atI_nat (pl_get (by omega))))) (pv_ixL (pv_var rfl) (pv_neg pv_c) (SqL.of h3) (hneg hlast))
    have e04 := e03.trans e4
    have hnn : ((asks.length : Nat) : Int).toNat = asks.length := by omega
    rw [hnn] at h4
    dsimp only
    refine st_seq ?_
    refine c_lcR (n := (prices.length : Int)) (fun t => V.int (sPri arcs asks.length prices t)) (fun Q q => ⟨_, rfl, pri, _, rfl, .inl (SqL.mn e04 hP), by rw [List.length_map]; exact q⟩) (by omega) (by omega) (by intro x; rfl) (fun i hi => ?_) fun p1 H5 hp1 e5 h5 => ?_
    · refine Pv.to (pv_sub (pv_add (pv_mul (i := (arcs.length : Int)) (j := qf prices i) (pv_var rfl) (pv_ixL (pv_var rfl) (pv_var rfl) (SqL.mn e04 hP) (atI_nat (q_get (by omega)))) (.inl ⟨by omega, by omega⟩)) (pv_ixL (pv_var rfl) (pv_neg pv_c) (SqL.of (e4 _ _ h3)) (hneg hlast))) (pv_ixL (i := ((asks.length + i : Nat) : Int)) (pv_var rfl) (Pv.to (pv_add (i := (asks.length : Int)) (j := (i : Int)) (pv_var rfl) (pv_var rfl)) (by rw [Int.natCast_add])) (SqL.of (e4 _ _ h3)) (atI_nat (pl_get (by omega))))) rfl
    have hnn2 : ((prices.length : Nat) : Int).toNat = prices.length := by omega
    rw [hnn2] at h5
    dsimp only
    refine Wd.st_rett (et_tup (vs := [.int (arcs.length : Int), .ref a1, .ref p1]) (pva_3 (Pv.to (pv_mul (i := (arcs.length : Int)) (j := 1) (pv_var rfl) (pv_var rfl) (.inr ⟨by omega, by omega⟩)) (by rw [Int.mul_one])) (pv_var rfl) (pv_var rfl)) (by show 3 ≤ _; decide)) fun tp H6 htp e6 h6 => ?_
    exact q tp a1 p1 H6 ((e04.trans e5).free htp) (e03.free ha1) (e04.free hp1) (e04.trans (e5.trans e6)) h6 ((e5.trans e6) _ _ h4) (e6 _ _ h5)
end
end Wd
set_option Elab.async false
set_option linter.all false
set_option maxRecDepth 100000
set_option maxHeartbeats 4000000
/-! moved_round, has_dealt, has_left, tight_wishes -/
namespace Wd
open PySem PySem.Spec PyProof.Rows L2
def NI (y : V) : Prop := y = .non ∨ ∃ i, y = .int i
theorem NI.flat {y : V} (h : NI y) : flatV y = true := by
  rcases h with rfl | ⟨i, rfl⟩ <;> rfl
theorem ni_all {ys : List V} (h : ∀ y ∈ ys, NI y) : ys.all flatV = true := List.all_eq_true.mpr fun y hy => (h y hy).flat
theorem ni_vo {D : List (Option Nat)} : ∀ y ∈ D.map vo, NI y := fun y hy => by
  obtain ⟨x, _, rfl⟩ := List.mem_map.mp hy
  cases x with
  | none => exact .inl rfl
  | some t => exact .inr ⟨_, rfl⟩
section
variable {K : Frg} {σ : L2.St} {H : Hp} {D : Ends} {te to : TE} {vs xs : List V}
theorem ss_lstT {i : Nat} (h : EvT te σ H vs) (q : ∀ t p H1, H t = none → H p = none → t ≠ p → Same H H1 → H1 t = some (.tup vs) → H1 p = some (.lst [.ref t]) → D.nx (σ.set i (some (.ref p))) H1) : tAsg (tLst (tCons te tNil)) (gName i) D σ H :=
  h _ fun t H1 ht e h1 => ⟨by show 1 ≤ _; rw [sizeLine_eq]; decide, fun p hp => q t p _ ht (e.free hp) (ne_of_none h1 hp) (e.trans (same_new hp)) (by rw [upd_ne (ne_of_none h1 hp)]; exact h1) upd_same⟩
theorem ss_appT {p : Addr} (ho : Pv to σ H (.ref p)) (hp : H p = some (.lst xs)) (hl : xs.length < sizeLine) (h : ∀ H1, Same H H1 → EvT te σ H1 vs) (q : ∀ t H1, H t = none → Same H H1 → H1 t = some (.tup vs) → D.nx σ (upd H1 p (.lst (xs ++ [.ref t])))) : tDrop (tBM K "list" rAppend to (tCons te tNil)) D σ H :=
  ho.run fun H1 e1 => ⟨.inl ⟨rfl, xs, SqL.of (e1 _ _ hp)⟩, h H1 e1 _ fun t H2 ht e2 h2 => ⟨p, xs, .ref t, rfl, rfl, (e1.trans e2) _ _ hp, hl, q t H2 (e1.free ht) (e1.trans e2) h2⟩⟩
theorem ss_appG {p : Addr} {v : V} (ho : Pv to σ H (.ref p)) (hp : H p = some (.lst xs)) (hl : xs.length < sizeLine) (h : Pv te σ H v) (q : ∀ H1, Same H H1 → D.nx σ (upd H1 p (.lst (xs ++ [v])))) : tDrop (tBM K "list" rAppend to (tCons te tNil)) D σ H :=
  ho.run fun H1 e1 => ⟨.inl ⟨rfl, xs, SqL.of (e1 _ _ hp)⟩, h H1 e1 _ fun H2 e2 => ⟨p, xs, v, rfl, rfl, (e1.trans e2) _ _ hp, hl, q H2 (e1.trans e2)⟩⟩
end
/-- pairs of numbers -/
def PairsT (H : Hp) (us : List V) : Prop := ∀ u ∈ us, ∃ q a b, u = V.ref q ∧ H q = some (.tup [vn a, vn b])
theorem PairsT.mn {H H1 : Hp} {us : List V} (e : Same H H1) (h : PairsT H us) : PairsT H1 us := fun u hu => by
  obtain ⟨q, a, b, h1, h2⟩ := h u hu
  exact ⟨q, a, b, h1, e _ _ h2⟩
theorem PairsT.put {H : Hp} {us : List V} {p : Addr} {xs ys : List V} (hp : H p = some (.lst xs)) (h : PairsT H us) : PairsT (upd H p (.lst ys)) us := fun u hu => by
  obtain ⟨q, a, b, h1, h2⟩ := h u hu
  exact ⟨q, a, b, h1, by rw [upd_ne (ne_of h2 hp (fun z => by cases z))]; exact h2⟩
section
variable {P : Program} {w : World} {K : Frg} {mg : Str → Option Value} {base : Heap}
def spMoved (K : Frg) : Sp := fun vs H Q _ => ∃ (dp ap : Addr) (ys : List V) (arcs : List (List Nat)) (one other : Nat), vs = [.ref dp, .ref ap, vn one, vn other] ∧ SqL K H dp ys ∧ (∀ y ∈ ys, NI y) ∧ LLN K H (.ref ap) arcs ∧ AGood arcs ∧ arcs.length ≤ 1000 ∧ other < arcs.length ∧ Rch arcs other one ∧
  ∀ p H' zs, H p = none → Same H H' → H' p = some (.lst zs) → zs.length = ys.length → (∀ y ∈ zs, NI y) → Q (.ref p) H'
theorem sc_moved_round : FnScope N_moved_round ["dealing", "arcs", "one", "other"] (defScope s_moved_round) := ⟨rfl, rfl, rfl, by decide +kernel, rfl, by decide +kernel, by decide +kernel⟩
theorem ok_moved_round (G : Gx K mg) : Known P w K mg base CX0 2 "moved_round" ["dealing", "arcs", "one", "other"] (spMoved K) := by
  have sc := sc_moved_round
  have k_led_to := ok_led_to (P := P) (w := w) (base := base) G
  refine G.f_moved_round.known sc (fun _ _ _ _ _ _ us hl => match us, hl with | [_, _, _, _], _ => rfl) (fun vs H Q E h => ?_) (fun cdv A outer s H vs Q E hr h => ?_)
  · obtain ⟨dp, ap, ys, arcs, one, other, rfl, _⟩ := h; rfl
  · obtain ⟨dp, ap, ys, arcs, one, other, rfl, hdp, hni, hL, hg, hN, hol, hrch, q⟩ := h
    refine ⟨_, (pss_cons (ps_set (i := 4) sc.nd rfl (Or.inl rfl) (pe_kn k_led_to (hr.mono (by decide)) pass0 (pa_cons (pv 1) (pa_cons (pv 3) pa_nil))))
      (pss_cons (ps_set (i := 5) sc.nd rfl (Or.inl rfl) (pe_lst (pa_cons (pe_tup (pa_cons (pv 2) (pa_cons (pv 3) pa_nil))) pa_nil)))
      (pss_cons (ps_set (i := 6) sc.nd rfl (Or.inl rfl) (pv 2))
      (pss_cons (ps_while PassesOwn.never (pt_cmpR op_notN (pe_dget (hu_of hr) (pv 4) (pv 6) (fun _ _ => rfl)) pe_non (nomark _))
      (pss_cons (ps_expr (pe_bm PySem.F.plainAttrs_list PySem.F.slot_list_append PySem.F.type_list_append mt_append (pv 5) (pa_cons (pe_tup (pa_cons (pe_dget (hu_of hr) (pv 4) (pv 6) (fun _ _ => rfl)) (pa_cons (pv 6) pa_nil))) pa_nil)))
      (pss_one (ps_set (i := 6) sc.nd rfl (Or.inl rfl) (pe_dget (hu_of hr) (pv 4) (pv 6) (fun _ _ => rfl))))))
      (pss_cons (ps_set (i := 7) sc.nd rfl (Or.inl rfl) (pe_callTy call_list_of (by rfl) G.n_list (by decide +kernel) (pa_cons (pv 0) pa_nil)))
      (pss_cons (ps_set (i := 8) sc.nd rfl (Or.inl rfl) (pe_callB call_len_seq (by rfl) G.n_len (by decide +kernel) (pa_cons (pv 0) pa_nil)))
      (pss_cons (ps_for PassesOwn.never rfl (pi_list (pv 5)) (pg_tup rfl (pgs_cons (pg_name (i := 6) sc.nd rfl (Or.inl rfl)) (pgs_cons (pg_name (i := 9) sc.nd rfl (Or.inl rfl)) pgs_nil)))
      (pss_one (ps_if (pt_cmpR op_lt (pv 6) (pv 8) (nomark _))
      (pss_cons (ps_asg pe_non (pg_sub (pv 7) (pv 6) set_list))
      (pss_one (ps_if (pt_cmpR op_lt (pv 9) (pe_op op_sub (pe_callB call_len_seq (by rfl) G.n_len (by decide +kernel) (pa_cons (pv 1) pa_nil)) pe_int) (nomark _))
      (pss_one (ps_asg (pe_op op_sub (pv 9) (pv 8)) (pg_sub (pv 7) (pv 6) set_list))) pss_nil))) pss_nil)))
      (pss_one (ps_ret (pv 7)))))))))), ?_⟩
    obtain ⟨us, hus, hul, hug⟩ := lln_get hL
    refine st_seq (c_call (pva_2 (pv_var rfl) (pv_var rfl)) fun H1 e1 => ⟨ap, arcs, other, rfl, hL.mono (Le.of e1), hg, hol, hN, fun F hF d H2 hd e2 h2 => ?_⟩)
    have e02 := e1.trans e2
    have hFl : F.length ≤ arcs.length := by rw [hF.len hg hol]; exact plc_le
    dsimp only [gName]
    refine st_seq ?_
    refine ss_lstT (et_tup (vs := [vn one, vn other]) (pva_2 (pv_var rfl) (pv_var rfl)) (by show 2 ≤ _; decide)) fun t0 sp H3 ht0 hsp htsp e3 h3t h3s => ?_
    have e03 := e02.trans e3
    have hsp0 : H sp = none := e02.free hsp
    have hdH3 := e3 _ _ h2
    have hdsp : d ≠ sp := ne_of_none h2 hsp
    dsimp only
    refine st_seq ?_
    refine ss_set (pv_var rfl) fun H4 e4 => ?_
    have hdv : ∀ {h : Nat} {y : Option Nat}, lkA F h = some y → valV (dg vo F) (NK h) = some (vo y) := fun hh => by rw [dg_val, hh]; rfl
    have hidx : ∀ {h : Nat}, h ∈ F.map (·.1) → ∃ (i : Nat) (y : Option Nat), F[i]? = some (h, y) ∧ lkA F h = some y := fun {h} hh => by
      obtain ⟨f, hf, rfl⟩ := List.mem_map.mp hh
      obtain ⟨i, hi⟩ := List.mem_iff_getElem?.mp hf
      exact ⟨i, f.2, hi, lkA_mem hF.nd hf⟩
    obtain ⟨i0, y0, hi0, hl0⟩ := hidx ((hF.mem one).mpr hrch)
    have hi0l := (List.getElem?_eq_some_iff.mp hi0).1
    dsimp only
    refine st_seq ?_
    refine w_while (fun n σ H' => ∃ h y us, σ = [some (.ref dp), some (.ref ap), some (vn one), some (vn other), some (.ref d), some (.ref sp), some (vn h), none, none, none] ∧ Same H H' ∧ H' d = some (.dK (dg vo F)) ∧ H' sp = some (.lst us) ∧ PairsT H' us ∧ F[n]? = some (h, y) ∧ lkA F h = some y ∧ us.length + n ≤ F.length) i0
      ⟨one, y0, [.ref t0], rfl, e03.trans e4, e4 _ _ hdH3, e4 _ _ h3s, fun u hu => ⟨t0, one, other, List.mem_singleton.mp hu, e4 _ _ h3t⟩, hi0, hl0, by show 1 + i0 ≤ _; omega⟩ ?_
    rintro n σ H5 ⟨h, y, us5, rfl, e5, hd5, hs5, hps5, hn5, hl5, hsz5⟩
    refine (pt_t (b := y.isSome) (pv_notN (pv_dget (k := NK h) (v := vo y) (pv_var rfl) (pv_var rfl) (.inl hd5) (hdv hl5)) (by rw [vo_non]; cases y <;> rfl))) _ (Same.refl _) _ fun H6 e6 => ?_
    have hd6 := e6 _ _ hd5
    have hs6 := e6 _ _ hs5
    have hps6 := hps5.mn e6
    cases y with
    | some y =>
      rw [if_pos (show (some y).isSome = true from rfl)]
      obtain ⟨j, hj, hjy⟩ := hF.tr n h y hn5
      obtain ⟨f, hf, hfe⟩ : ∃ f, F[j]? = some f ∧ f.1 = y := by
        cases hf : F[j]? with
        | none => rw [hf] at hjy; cases hjy
        | some f => rw [hf] at hjy; exact ⟨f, rfl, Option.some.inj hjy⟩
      refine ⟨fun σ H' => ∃ n', n' < n ∧ ∃ h y us, σ = [some (.ref dp), some (.ref ap), some (vn one), some (vn other), some (.ref d), some (.ref sp), some (vn h), none, none, none] ∧ Same H H' ∧ H' d = some (.dK (dg vo F)) ∧ H' sp = some (.lst us) ∧ PairsT H' us ∧ F[n']? = some (h, y) ∧ lkA F h = some y ∧ us.length + n' ≤ F.length, fun σ2 H7 h7 => h7, ?_⟩
      refine st_seq ?_
      refine ss_appT (pv_var rfl) hs6 (by rw [sizeLine_eq]; omega) (fun H7 e7 => et_tup (vs := [vn y, vn h]) (pva_2 (pv_dget (k := NK h) (v := vo (some y)) (pv_var rfl) (pv_var rfl) (.inl (e7 _ _ hd6)) (hdv hl5)) (pv_var rfl)) (by show 2 ≤ _; decide)) fun t H7 ht e7 h7 => ?_
      have hd7 : (upd H7 sp (.lst (us5 ++ [.ref t]))) d = some (.dK (dg vo F)) := by rw [upd_ne hdsp]; exact e7 _ _ hd6
      have htsp2 : t ≠ sp := fun z => by rw [z, hs6] at ht; cases ht
      dsimp only
      refine ss_set (v := vn y) (pv_dget (k := NK h) (v := vo (some y)) (pv_var rfl) (pv_var rfl) (.inl hd7) (hdv hl5)) fun H8 e8 => ?_
      refine ⟨j, hj, y, f.2, us5 ++ [.ref t], rfl, (same_mut (e5.trans (e6.trans e7)) hsp0).trans e8, e8 _ _ hd7, e8 _ _ upd_same, fun u hu => ?_, by rw [hf, ← hfe], by rw [← hfe]; exact lkA_mem hF.nd (List.mem_of_getElem? hf), by rw [List.length_append, List.length_singleton]; omega⟩
      rcases List.mem_append.mp hu with hu | hu
      · exact ((PairsT.put (e7 _ _ hs6) (hps6.mn e7)).mn e8) u hu
      · exact ⟨t, y, h, List.mem_singleton.mp hu, e8 _ _ (by rw [upd_ne htsp2]; exact h7)⟩
    | none =>
      rw [if_neg (show ¬ ((none : Option Nat).isSome = true) from fun z => by cases z)]
      have e06 := e5.trans e6
      dsimp only
      refine st_seq ?_
      refine sl_set (el_copy (pv_var rfl) (SqL.mn e06 hdp)) fun fp H7 hfp e7 h7 => ?_
      have hfp0 := e06.free hfp
      dsimp only
      refine st_seq ?_
      refine ss_set (pv_len (n := ys.length) (pv_var rfl) (.inl (SqL.mn (e06.trans e7) hdp)) rfl) fun H8 e8 => ?_
      have e08 := e06.trans (e7.trans e8)
      have hfs : sp ≠ fp := ne_of_none hs6 hfp
      -- what stays while the copy changes
      dsimp only
      refine st_seq ?_
      have hs8 := (e7.trans e8) _ _ hs6
      have hps8 := hps6.mn (e7.trans e8)
      refine w_forG (a := sp) (xs := us5) (val_var rfl) (SqL.of hs8) (fun j σ H' => ∃ y6 y9 zs, σ = [some (.ref dp), some (.ref ap), some (vn one), some (vn other), some (.ref d), some (.ref sp), y6, some (.ref fp), some (vn ys.length), y9] ∧ Same H H' ∧ Same (cut H8 [fp]) H' ∧ H' fp = some (.lst zs) ∧ zs.length = ys.length ∧ ∀ y ∈ zs, NI y) ⟨_, _, ys, rfl, e08, cut_same, e8 _ _ h7, rfl, hni⟩ (fun j σ H' _ ⟨_, _, _, _, _, e, _⟩ => SqL.of (e _ _ (by rw [cut_at (by simpa using hfs)]; exact hs8))) ?_ ?_
      · rintro j u σ H9 hj ⟨y6, y9, zs, rfl, e9, ec9, h9, hzl, hzn⟩
        obtain ⟨q0, a, b, rfl, hq0⟩ := hps8 u (List.mem_of_getElem? hj)
        have hq9 : H9 q0 = some (.tup [vn a, vn b]) := ec9 _ _ (by rw [cut_at (by simpa using ne_of hq0 (e8 _ _ h7) (fun z => by cases z))]; exact hq0)
        refine w_tg2 (SqT.of hq9) ?_
        refine ss_if (b := decide (a < ys.length)) (pt_t (pv_cmp (pv_var rfl) (pv_var rfl) (decide_eq_decide.mpr (by omega)))) (fun H10 e10 hb => ?_) fun H10 e10 hb => ?_
        · have hal := of_decide_eq_true hb
          refine st_seq ?_
          refine ss_setix (j := a) pv_c (pv_var rfl) (pv_var rfl) (e10 _ _ h9) (by rw [hzl]; exact hal) fun H11 e11 => ?_
          have hz1 : ∀ y ∈ zs.set a .non, NI y := fun y hy => by
            rcases List.mem_or_eq_of_mem_set hy with h | h
            · exact hzn y h
            · exact .inl h
          have e011 : Same H (upd H11 fp (.lst (zs.set a .non))) := same_mut (e9.trans (e10.trans e11)) hfp0
          have ec11 : Same (cut H8 [fp]) (upd H11 fp (.lst (zs.set a .non))) := same_mut (ec9.trans (e10.trans e11)) (cut_none (by simp))
          dsimp only
          refine ss_if (b := decide (b < arcs.length - 1)) (pt_t (pv_cmp (pv_var rfl) (pv_sub (i := (arcs.length : Int)) (j := 1) (pv_len (n := arcs.length) (pv_var rfl) (.inl (SqL.mn e011 hus)) hul) pv_c) (decide_eq_decide.mpr (by omega)))) (fun H12 e12 hb => ?_) fun H12 e12 hb => ?_
          · refine ss_setix (j := a) (pv_sub (i := (b : Int)) (j := (ys.length : Int)) (pv_var rfl) (pv_var rfl)) (pv_var rfl) (pv_var rfl) (e12 _ _ upd_same) (by rw [List.length_set, hzl]; exact hal) fun H13 e13 => ?_
            refine ⟨_, _, _, rfl, same_mut (e011.trans (e12.trans e13)) hfp0, same_mut (ec11.trans (e12.trans e13)) (cut_none (by simp)), upd_same, by rw [List.length_set, List.length_set, hzl], fun y hy => ?_⟩
            rcases List.mem_or_eq_of_mem_set hy with h | h
            · exact hz1 y h
            · exact .inr ⟨_, h⟩
          · exact ⟨_, _, _, rfl, e011.trans e12, ec11.trans e12, e12 _ _ upd_same, by rw [List.length_set, hzl], hz1⟩
        · exact ⟨_, _, _, rfl, e9.trans e10, ec9.trans e10, e10 _ _ h9, hzl, hzn⟩
      · rintro σ H9 ⟨y6, y9, zs, rfl, e9, ec9, h9, hzl, hzn⟩
        exact ⟨_, rfl, q fp H9 zs hfp0 e9 h9 hzl hzn⟩
/-! ### dealings in a list -/
def DealV (K : Frg) (H : Hp) (n : Nat) (u : V) : Prop := ∃ d ys, u = V.ref d ∧ SqL K H d ys ∧ ys.length = n ∧ ∀ y ∈ ys, NI y
theorem DealV.mn {K : Frg} {H H1 : Hp} {n : Nat} {u : V} (e : Same H H1) (h : DealV K H n u) : DealV K H1 n u := by
  obtain ⟨d, ys, h1, h2, h3⟩ := h
  exact ⟨d, ys, h1, SqL.mn e h2, h3⟩
theorem dp_ni {K : Frg} {H : Hp} : ∀ {ys : List V}, (∀ y ∈ ys, NI y) → ∃ ds, DpAll K H ys ds ∧ ∀ d ∈ ds, PyData.canLay0 d = true ∧ PyData.depth d ≤ 0
  | [], _ => ⟨[], .nil, fun d hd => by cases hd⟩
  | y :: ys, h => by
    obtain ⟨ds, h1, h2⟩ := dp_ni (K := K) (H := H) (ys := ys) fun z hz => h z (List.mem_cons_of_mem _ hz)
    rcases h y List.mem_cons_self with rfl | ⟨i, rfl⟩
    · refine ⟨PyData.none :: ds, .cons .non h1, fun d hd => ?_⟩
      rcases List.mem_cons.mp hd with rfl | hd
      · exact ⟨rfl, Nat.le_refl _⟩
      · exact h2 d hd
    · refine ⟨PyData.int i :: ds, .cons (.int i) h1, fun d hd => ?_⟩
      rcases List.mem_cons.mp hd with rfl | hd
      · exact ⟨rfl, Nat.le_refl _⟩
      · exact h2 d hd
theorem lay_list {n : Nat} {ds : List PyData} (h : ∀ d ∈ ds, PyData.canLay0 d = true ∧ PyData.depth d ≤ n) : PyData.canLay0 (.list ds) = true ∧ PyData.depth (.list ds) ≤ n + 1 := by
  have h1 : PyData.canLayAll0 ds = true := by
    induction ds with
    | nil => rfl
    | cons d r ih =>
      rw [PyData.canLayAll0, (h d List.mem_cons_self).1, ih fun x hx => h x (List.mem_cons_of_mem _ hx)]
      rfl
  have h2 : PyData.depthAll ds ≤ n := by
    clear h1
    induction ds with
    | nil => exact Nat.zero_le _
    | cons d r ih =>
      rw [PyData.depthAll]
      exact Nat.max_le.mpr ⟨(h d List.mem_cons_self).2, ih fun x hx => h x (List.mem_cons_of_mem _ hx)⟩
  exact ⟨by rw [PyData.canLay0]; exact h1, by rw [PyData.depth]; omega⟩
theorem dp_deals {K : Frg} {H : Hp} {n : Nat} : ∀ {us : List V}, (∀ u ∈ us, DealV K H n u) → ∃ ds, DpAll K H us ds ∧ ∀ d ∈ ds, PyData.canLay0 d = true ∧ PyData.depth d ≤ 1
  | [], _ => ⟨[], .nil, fun d hd => by cases hd⟩
  | u :: us, h => by
    obtain ⟨ds, h1, h2⟩ := dp_deals (us := us) fun z hz => h z (List.mem_cons_of_mem _ hz)
    obtain ⟨d, ys, rfl, h3, _, h4⟩ := h u List.mem_cons_self
    obtain ⟨es, h5, h6⟩ := dp_ni (K := K) (H := H) h4
    refine ⟨PyData.list es :: ds, .cons (.lst h3 h5) h1, fun d hd => ?_⟩
    rcases List.mem_cons.mp hd with rfl | hd
    · exact lay_list h6
    · exact h2 d hd
/-- some of a list -/
theorem lcF_go {K : Frg} {σ : L2.St} {H : Hp} {Q : VK} {a : Addr} {xs : List V} {j : Nat} {vs : List Nat} {tt : TT} (hx : SqL K H a xs) (hz : xs.length ≤ 1000000) (hw : ∀ x, wipe ((wipe σ vs).set j (some x)) vs = wipe σ vs) (hj : ∀ x, ((wipe σ vs).set j (some x))[j]? = some (some x))
    (ht : ∀ (i : Nat) (x : V), xs[i]? = some x → ∃ b, Pt tt ((wipe σ vs).set j (some x)) H b)
    (q : ∀ D zs H', H D = none → Same H H' → H' D = some (.lst zs) → (∀ z ∈ zs, z ∈ xs) → Q (.ref D) H') : LcGo (Itl K a) (gName j) tt (tVar j) vs σ H Q := by
  intro D hD
  refine lc_list (xs := xs) (fun i H' => Same H H' ∧ ∃ zs, H' D = some (.lst zs) ∧ zs.length ≤ i ∧ ∀ z ∈ zs, z ∈ xs) ⟨same_new hD, [], upd_same, Nat.le_refl _, fun z hz => by cases hz⟩ (fun i H' _ p => SqL.mn p.1 hx) (fun i x H1 hi p => ?_) (fun H' p => by obtain ⟨e, zs, h1, h2, h3⟩ := p; exact q D zs H' hD e h1 h3)
  obtain ⟨e1, zs, hu, hl, hs⟩ := p
  obtain ⟨b, hb⟩ := ht i x hi
  refine ⟨hw x, hb H1 e1 _ fun H2 e2 => ?_⟩
  cases b with
  | true =>
    rw [if_pos rfl]
    refine ⟨x, hj x, zs, e2 _ _ hu, ?_, same_mut (e1.trans e2) hD, zs ++ [x], upd_same, by rw [List.length_append, List.length_singleton]; omega, fun z hz => ?_⟩
    · have := (List.getElem?_eq_some_iff.mp hi).1
      rw [sizeLine_eq]; omega
    · rcases List.mem_append.mp hz with hz | hz
      · exact hs z hz
      · rw [List.mem_singleton.mp hz]; exact List.mem_of_getElem? hi
  | false =>
    rw [if_neg (fun h => nomatch h)]
    exact ⟨e1.trans e2, zs, e2 _ _ hu, by omega, hs⟩
/-- [..] != [] of dealings -/
theorem ne_nil_q {K : Frg} {σ : L2.St} {H : Hp} {Q : VK} {D : Addr} {zs : List V} {n : Nat} (h : H D = some (.lst zs)) (hz : ∀ z ∈ zs, DealV K H n z) (q : ∀ b H', Same H H' → Q (.bl b) H') : tLst tNil σ H fun y H2 => rNeD K (.ref D) y H2 Q :=
  ⟨Nat.zero_le _, fun p hp => by
    obtain ⟨ds, h1, h2⟩ := dp_deals (K := K) (H := upd H p (.lst [])) (n := n) fun z hz' => (hz z hz').mn (same_new hp)
    exact ⟨.list ds, .list [], .lst (SqL.of (same_new hp _ _ h)) h1, .lst (SqL.of upd_same) .nil, shp_list h2 (by decide), shp_list (n := 0) (fun d hd => by cases hd) (by decide), q _ _ (same_new hp)⟩⟩
def spHasD (K : Frg) : Sp := fun vs H Q _ => ∃ (lp : Addr) (us : List V) (n a : Nat) (y : V), vs = [.ref lp, vn a, y] ∧ SqL K H lp us ∧ us.length ≤ 1000 ∧ (∀ u ∈ us, DealV K H n u) ∧ a < n ∧ NI y ∧ ∀ b, RetG (.bl b) H Q
theorem sc_has_dealt : FnScope N_has_dealt ["dealings", "asker", "thing"] (defScope s_has_dealt) := ⟨rfl, rfl, rfl, by decide +kernel, rfl, by decide +kernel, by decide +kernel⟩
theorem ni_scal {x y : V} (h1 : NI x) (h2 : NI y) : scal x y = true := by
  rcases h1 with rfl | ⟨i, rfl⟩ <;> rcases h2 with rfl | ⟨j, rfl⟩ <;> rfl
theorem ok_has_dealt (G : Gx K mg) : Known P w K mg base CX0 1 "has_dealt" ["dealings", "asker", "thing"] (spHasD K) := by
  have sc := sc_has_dealt
  refine G.f_has_dealt.known sc (fun _ _ _ _ _ _ us hl => match us, hl with | [_, _, _], _ => rfl) (fun vs H Q E h => ?_) (fun cdv A outer s H vs Q E hr h => ?_)
  · obtain ⟨lp, us, n, a, y, rfl, _⟩ := h; rfl
  · obtain ⟨lp, us, n, a, y, rfl, hlp, hul, hus, ha, hy, q⟩ := h
    refine ⟨_, (pss_one (ps_ret (pe_cmpR (op_neD hr.units) (pe_lc (own := [("one", 3)]) rfl sc.nd (pi_list (pv 0)) (blkOk_by (by rfl)) (fun _ _ _ _ _ => (pg_name (i := 3) sc.nd rfl (Or.inl rfl))) (fun _ _ _ _ _ => pts_one (pt_cmpR op_eq (pe_ix (ix_listK (K := K)) (pv 3) (pv 1) (fun _ _ => rfl)) (pv 2) (nomark _))) (fun _ _ _ _ _ => (pv 3))) (pe_lst pa_nil) (nomark _)))), ?_⟩
    refine sr_ret ?_
    refine lc_src (Src.pv (pv_var rfl) hlp) fun a' H1 e1 hx => lcF_go hx (by omega) (by intro x; rfl) (by intro x; rfl) (fun i u hu => ?_) fun D zs H2 hD e2 h2 hz => ?_
    · obtain ⟨d, ys, rfl, h2, h3, h4⟩ := hus u (List.mem_of_getElem? hu)
      have hv : ys[a]? = some (ys[a]'(by omega)) := List.getElem?_eq_getElem _
      exact ⟨_, pt_t (pv_eq (pv_ixL (pv_var rfl) (pv_var rfl) (SqL.mn e1 h2) (atI_nat hv)) (pv_var rfl) (ni_scal (h4 _ (List.getElem_mem _)) hy) rfl)⟩
    · exact ne_nil_q (n := n) h2 (fun z hz' => (hus z (hz z hz')).mn (e1.trans e2)) fun b H3 e3 => q b H3 (e1.trans (e2.trans e3))
/-! ### has_left -/
def spHasL (K : Frg) : Sp := fun vs H Q _ => ∃ (v : V) (cs : List Nat) (ls : List (List (List Nat))) (lp : Addr) (us : List V) (n t : Nat), vs = [v, .ref lp, vn t] ∧ WS K H v cs ls ∧ WG cs ls ∧ SqL K H lp us ∧ us.length ≤ 1000 ∧ (∀ u ∈ us, DealV K H n u) ∧ t < cs.length ∧ ∀ b, RetG (.bl b) H Q
theorem sc_has_left : FnScope N_has_left ["wishes", "dealings", "thing"] (defScope s_has_left) := ⟨rfl, rfl, rfl, by decide +kernel, rfl, by decide +kernel, by decide +kernel⟩
theorem ok_has_left (G : Gx K mg) : Known P w K mg base CX0 6 "has_left" ["wishes", "dealings", "thing"] (spHasL K) := by
  have sc := sc_has_left
  have k_copies_left := ok_copies_left (P := P) (w := w) (base := base) G
  refine G.f_has_left.known sc (fun _ _ _ _ _ _ us hl => match us, hl with | [_, _, _], _ => rfl) (fun vs H Q E h => ?_) (fun cdv A outer s H vs Q E hr h => ?_)
  · obtain ⟨v, cs, ls, lp, us, n, t, rfl, _⟩ := h; rfl
  · obtain ⟨v, cs, ls, lp, us, n, t, rfl, hW, W, hlp, hul, hus, ht, q⟩ := h
    refine ⟨_, (pss_one (ps_ret (pe_cmpR (op_neD hr.units) (pe_lc (own := [("one", 3)]) rfl sc.nd (pi_list (pv 1)) (blkOk_by (by rfl)) (fun _ _ _ _ _ => (pg_name (i := 3) sc.nd rfl (Or.inl rfl))) (fun _ _ _ _ _ => pts_one (pt_cmpR op_gt (pe_ix (ix_listK (K := K)) (pe_kn k_copies_left (hr.mono (by decide)) pass0 (pa_cons (pv 0) (pa_cons (pv 3) pa_nil))) (pv 2) (fun _ _ => rfl)) pe_int (nomark _))) (fun _ _ _ _ _ => (pv 3))) (pe_lst pa_nil) (nomark _)))), ?_⟩
    refine sr_ret ?_
    refine lc_src (Src.pv (pv_var rfl) hlp) fun a' H1 e1 hx => lcF_go hx (by omega) (by intro x; rfl) (by intro x; rfl) (fun i u hu => ?_) fun D zs H2 hD e2 h2 hz => ?_
    · obtain ⟨d, ys, rfl, h2, h3, h4⟩ := hus u (List.mem_of_getElem? hu)
      have hv : (leftV cs ys)[t]? = some (.int ((cs[t]?.getD 0 : Nat) - ((ys.countP fun z => eqV z (vn t) : Nat) : Int))) := by
        unfold leftV
        rw [List.getElem?_map, List.getElem?_range ht]
        rfl
      refine ⟨_, pt_t (pv_cmp (i := ((cs[t]?.getD 0 : Nat) - ((ys.countP fun z => eqV z (vn t) : Nat) : Int))) (j := 0) ?_ pv_c rfl)⟩
      intro H3 e3 Q3 q3
      refine el_call (pva_2 (pv_var rfl) (pv_var rfl)) (fun H4 e4 Q4 q4 => ⟨v, cs, ls, d, ys, rfl, hW.mono (Le.of (e1.trans (e3.trans e4))), W, SqL.mn (e1.trans (e3.trans e4)) h2, ni_all h4, q4⟩) _ fun p H4 hp e4 h5 => ?_
      exact ⟨_, rfl, p, _, _, _, rfl, rfl, SqL.of h5, atI_nat hv, q3 H4 e4⟩
    · exact ne_nil_q (n := n) h2 (fun z hz' => (hus z (hz z hz')).mn (e1.trans e2)) fun b H3 e3 => q b H3 (e1.trans (e2.trans e3))
/-! ### tight_wishes -/
theorem awr_w {s : Str} {ls : List (List (List Nat))} {tss : List (List Nat)} (h : TssOk ls tss) {r : Nat × Nat × Int} (hr : r ∈ awr s ls tss) : wL s ls r.1 r.2.1 = some r.2.2 := by
  have h1 : r.2 ∈ rowAt (awr s ls tss) r.1 := by
    unfold rowAt
    exact List.mem_map.mpr ⟨r, List.mem_filter.mpr ⟨hr, by simp⟩, rfl⟩
  rw [rowAt_awr] at h1
  obtain ⟨t, ht, e⟩ := List.mem_map.mp h1
  have hi := (awr_mem hr).2
  rw [Nat.zero_add, h.1] at hi
  rw [← e]
  unfold wL
  rw [if_pos ⟨hi, (tss_in h hi).mp ht⟩]
theorem awr_of {s : Str} {ls : List (List (List Nat))} {tss : List (List Nat)} (h : TssOk ls tss) {a t : Nat} {x : Int} (hx : wL s ls a t = some x) : (a, t, x) ∈ awr s ls tss := by
  unfold wL at hx
  split at hx
  · rename_i hz
    cases hx
    have h1 : (t, wth s ls a t) ∈ rowAt (awr s ls tss) a := by
      rw [rowAt_awr]
      exact List.mem_map.mpr ⟨t, (tss_in h hz.1).mpr hz.2, rfl⟩
    unfold rowAt at h1
    obtain ⟨r, hr, e⟩ := List.mem_map.mp h1
    have h2 := List.mem_filter.mp hr
    have h3 : r.1 = a := by simpa using h2.2
    have : r = (a, t, wth s ls a t) := Prod.ext h3 e
    rw [← this]
    exact h2.1
  · cases hx
theorem awr_len {s : Str} {ls : List (List (List Nat))} {b : Nat} : ∀ {tss : List (List Nat)} {k : Nat}, (∀ ts ∈ tss, ts.length ≤ b) → ((tss.zipIdx k).flatMap fun x => x.1.map fun t => (x.2, t, wth s ls x.2 t)).length ≤ b * tss.length
  | [], _, _ => by simp
  | ts :: r, k, h => by
    have h1 := h ts List.mem_cons_self
    have h2 := awr_len (s := s) (ls := ls) (tss := r) (k := k + 1) fun x hx => h x (List.mem_cons_of_mem _ hx)
    have h3 : ((fun x : List Nat × Nat => x.1.map fun t => (x.2, t, wth s ls x.2 t)) (ts, k)).length = ts.length := by
      show (ts.map _).length = _
      rw [List.length_map]
    rw [List.zipIdx_cons, List.flatMap_cons, List.length_append, h3, List.length_cons, Nat.mul_add, Nat.mul_one]
    omega
theorem awr_42 {s : Str} {cs : List Nat} {ls : List (List (List Nat))} {tss : List (List Nat)} (W : WG cs ls) (h : TssOk ls tss) : (awr s ls tss).length ≤ 42 := by
  have h1 := awr_len (s := s) (ls := ls) (b := 6) (tss := tss) (k := 0) fun ts hts => by
    obtain ⟨i, hi⟩ := List.mem_iff_getElem?.mp hts
    have hil := (List.getElem?_eq_some_iff.mp hi).1
    have hr := List.getElem?_eq_getElem (show i < ls.length by rw [← h.1]; exact hil)
    have := (h.2 i _ _ hi hr).length_eq
    have := W.fl (List.mem_of_getElem? hr)
    omega
  have h2 := W.all.2.2.1
  have h3 := h.1
  show ((tss.zipIdx 0).flatMap fun x => x.1.map fun t => (x.2, t, wth s ls x.2 t)).length ≤ 42
  omega
def spTight (K : Frg) : Sp := fun vs H Q _ => ∃ (v x : V) (cs : List Nat) (ls : List (List (List Nat))) (s : Str) (pt a1 p1 : Addr) (tm : Int) (fa fp : Nat → Int), vs = [v, x, .ref pt] ∧ WS K H v cs ls ∧ WG cs ls ∧ AOk K H x s ∧ SqT K H pt [.int tm, .ref a1, .ref p1] ∧ 0 ≤ tm ∧ tm ≤ 1000 ∧ SqL K H a1 ((List.range ls.length).map fun a => V.int (fa a)) ∧ SqL K H p1 ((List.range cs.length).map fun t => V.int (fp t)) ∧
  ∀ p us H', H p = none → Same H H' → H' p = some (.lst us) → us.length ≤ 42 → (∀ u ∈ us, ∃ q a t y, u = V.ref q ∧ H' q = some (.tup [vn a, vn t]) ∧ wL s ls a t = some y ∧ fa a + fp t = tm * y) → Q (.ref p) H'
theorem sc_tight_wishes : FnScope N_tight_wishes ["wishes", "aim", "paper"] (defScope s_tight_wishes) := ⟨rfl, rfl, rfl, by decide +kernel, rfl, by decide +kernel, by decide +kernel⟩
theorem fr_get {f : Nat → Int} {n i : Nat} (h : i < n) : ((List.range n).map fun a => V.int (f a))[i]? = some (.int (f i)) := by
  rw [List.getElem?_map, List.getElem?_range h]; rfl
theorem dec_i {i j : Int} : decide (V.int i = V.int j) = decide (i = j) := decide_eq_decide.mpr ⟨fun h => V.int.inj h, fun h => by rw [h]⟩
theorem ok_tight_wishes (G : Gx K mg) : Known P w K mg base CX0 9 "tight_wishes" ["wishes", "aim", "paper"] (spTight K) := by
  have sc := sc_tight_wishes
  have k_all_worths := ok_all_worths (P := P) (w := w) (base := base) G
  refine G.f_tight_wishes.known sc (fun _ _ _ _ _ _ us hl => match us, hl with | [_, _, _], _ => rfl) (fun vs H Q E h => ?_) (fun cdv A outer s H vs Q E hr h => ?_)
  · obtain ⟨v, x, cs, ls, s, pt, a1, p1, tm, fa, fp, rfl, _⟩ := h; rfl
  · obtain ⟨v, x, cs, ls, s, pt, a1, p1, tm, fa, fp, rfl, hW, W, hA, hT, htm0, htm1, ha1, hp1, q⟩ := h
    refine ⟨_, (pss_cons (ps_asg (pv 2) (pg_tup rfl (pgs_cons (pg_name (i := 3) sc.nd rfl (Or.inl rfl)) (pgs_cons (pg_name (i := 4) sc.nd rfl (Or.inl rfl)) (pgs_cons (pg_name (i := 5) sc.nd rfl (Or.inl rfl)) pgs_nil)))))
      (pss_cons (ps_set (i := 6) sc.nd rfl (Or.inl rfl) (pe_lst pa_nil))
      (pss_cons (ps_for PassesOwn.never rfl (pi_list (pe_kn k_all_worths (hr.mono (by decide)) pass0 (pa_cons (pv 0) (pa_cons (pv 1) pa_nil)))) (pg_tup rfl (pgs_cons (pg_name (i := 7) sc.nd rfl (Or.inl rfl)) (pgs_cons (pg_name (i := 8) sc.nd rfl (Or.inl rfl)) (pgs_cons (pg_name (i := 9) sc.nd rfl (Or.inl rfl)) pgs_nil))))
      (pss_one (ps_if (pt_cmpR op_eq (pe_op op_add (pe_ix ix_list (pv 4) (pv 7) (fun _ _ => rfl)) (pe_ix ix_list (pv 5) (pv 8) (fun _ _ => rfl))) (pe_op op_mul (pv 3) (pv 9)) (nomark _))
      (pss_one (ps_expr (pe_bm PySem.F.plainAttrs_list PySem.F.slot_list_append PySem.F.type_list_append mt_append (pv 6) (pa_cons (pe_tup (pa_cons (pv 7) (pa_cons (pv 8) pa_nil))) pa_nil)))) pss_nil)))
      (pss_one (ps_ret (pv 6)))))), ?_⟩
    refine st_seq ⟨_, rfl, w_tg3 hT ?_⟩
    dsimp only
    refine st_seq ?_
    refine ss_lst pva_nil (Nat.zero_le _) fun H1 p e1 hp => ?_
    have hp0 := e1.free hp
    have e01 : Same H (upd H1 p (.lst [])) := e1.trans (same_new hp)
    dsimp only
    refine st_seq (f_open (c_call (pva_2 (pv_var rfl) (pv_var rfl)) fun H2 e2 => ⟨v, x, cs, ls, s, rfl, hW.mono (Le.of (e01.trans e2)), W, hA.mn (e01.trans e2), fun wv H3 N3 e3 n3 ⟨tss, hTs, hAW⟩ => ?_⟩))
    obtain ⟨wp, us, rfl, hwp, hus⟩ := hAW
    have e03 := e01.trans (e2.trans e3)
    have hp3 : H3 p = some (.lst []) := (e2.trans e3) _ _ upd_same
    have hwp3 := (n3 _ _ hwp).1
    have hwn : wp ≠ p := Ne.symm (ne_of_none (e2 _ _ upd_same) (n3 _ _ hwp).2)
    refine ⟨wp, rfl, ⟨_, SqL.of hwp3⟩, ?_⟩
    have h42 := awr_42 (s := s) W hTs
    refine for_list (fun j σ H' => ∃ y7 y8 y9 us', σ = [some v, some x, some (.ref pt), some (.int tm), some (.ref a1), some (.ref p1), some (.ref p), y7, y8, y9] ∧ Same H H' ∧ Same (cut H3 [p]) H' ∧ H' p = some (.lst us') ∧ us'.length ≤ j ∧ (∀ u ∈ us', ∃ q a t y, u = V.ref q ∧ H' q = some (.tup [vn a, vn t]) ∧ wL s ls a t = some y ∧ fa a + fp t = tm * y)) ⟨_, _, _, [], rfl, e03, cut_same, hp3, Nat.le_refl _, fun u hu => by cases hu⟩ (fun j σ H' _ ⟨_, _, _, _, _, _, e, _⟩ => SqL.of (e _ _ (by rw [cut_at (by simpa using hwn)]; exact hwp3))) ?_ ?_
    · rintro j u σ H4 hj ⟨y7, y8, y9, us', rfl, e4, ec4, h4, hl4, hall⟩
      obtain ⟨r, hr, q0, rfl, hq0⟩ := paired_get hus hj
      have hq3 := (n3 _ _ hq0).1
      have hq4 : H4 q0 = some (.tup (tup3 r)) := ec4 _ _ (by rw [cut_at (by simpa using ne_of hq3 hp3 (fun z => by cases z))]; exact hq3)
      refine w_tg3 (SqT.of hq4) ?_
      have hrm := List.mem_of_getElem? hr
      have hw := awr_w hTs hrm
      obtain ⟨hal, _, _, _, _, htl⟩ := wL_hw W hw
      have hjl := (List.getElem?_eq_some_iff.mp hr).1
      refine ss_if (b := decide (fa r.1 + fp r.2.1 = tm * r.2.2)) (pt_t (pv_eq (pv_add (pv_ixL (pv_var rfl) (pv_var rfl) (SqL.mn e4 ha1) (atI_nat (fr_get hal))) (pv_ixL (pv_var rfl) (pv_var rfl) (SqL.mn e4 hp1) (atI_nat (fr_get htl)))) (pv_mul (i := tm) (j := r.2.2) (pv_var rfl) (pv_var rfl) (.inl ⟨by omega, by omega⟩)) rfl dec_i)) (fun H5 e5 hb => ?_) fun H5 e5 hb => ?_
      · refine ss_appT (pv_var rfl) (e5 _ _ h4) (by rw [sizeLine_eq]; omega) (fun H6 e6 => et_tup (vs := [vn r.1, vn r.2.1]) (pva_2 (pv_var rfl) (pv_var rfl)) (by show 2 ≤ _; decide)) fun t H6 ht e6 h6 => ?_
        have htp : t ≠ p := fun z => by rw [z, e5 _ _ h4] at ht; cases ht
        refine ⟨_, _, _, us' ++ [.ref t], rfl, same_mut (e4.trans (e5.trans e6)) hp0, same_mut (ec4.trans (e5.trans e6)) (cut_none (by simp)), upd_same, by rw [List.length_append, List.length_singleton]; omega, fun u hu => ?_⟩
        rcases List.mem_append.mp hu with hu | hu
        · obtain ⟨q1, a, t', y, h7, h8, h9⟩ := hall u hu
          have h10 := (e5.trans e6) _ _ h8
          exact ⟨q1, a, t', y, h7, by rw [upd_ne (ne_of h10 ((e5.trans e6) _ _ h4) (fun z => by cases z))]; exact h10, h9⟩
        · exact ⟨t, r.1, r.2.1, r.2.2, List.mem_singleton.mp hu, by rw [upd_ne htp]; exact h6, hw, of_decide_eq_true hb⟩
      · refine ⟨_, _, _, us', rfl, e4.trans e5, ec4.trans e5, e5 _ _ h4, by omega, fun u hu => ?_⟩
        obtain ⟨q1, a, t', y, h7, h8, h9⟩ := hall u hu
        exact ⟨q1, a, t', y, h7, e5 _ _ h8, h9⟩
    · rintro σ H4 ⟨y7, y8, y9, us', rfl, e4, ec4, h4, hl4, hall⟩
      have := hus.length
      exact ⟨_, rfl, q p us' H4 hp0 e4 h4 (by omega) hall⟩
end
end Wd
set_option Elab.async false
set_option linter.all false
set_option maxRecDepth 100000
set_option maxHeartbeats 4000000
/-! met_arcs -/
namespace Wd
open PySem PySem.Spec PyProof.Rows L2
/-- for i, x in enumerate(..) of a list just made -/
theorem w_forE' {K : Frg} {σ : L2.St} {H : Hp} {tb : TS} {D : Ends} {a : Addr} {xs : List V} {i j : Nat} (hx : SqL K H a xs) (Pv : Nat → L2.St → Hp → Prop) (h0 : Pv 0 σ H) (hl : ∀ i σ' H', i ≤ xs.length → Pv i σ' H' → SqL K H' a xs)
    (hs : ∀ k x σ' H' H2, xs[k]? = some x → Pv k σ' H' → Same H' H2 → tb { D with nx := Pv (k + 1), ct := Pv (k + 1), bk := D.nx } ((σ'.set i (some (vn k))).set j (some x)) H2) (hd : ∀ σ' H', Pv xs.length σ' H' → D.nx σ' H') :
    ∃ a' xs', [V.ref a] = [.ref a'] ∧ SqL K H a' xs' ∧ FGo (Ite K a') (gTup K 2 (gCons (gName i) (gCons (gName j) gNil))) tb D σ H := by
  refine ⟨a, xs, rfl, hx, for_it (walk_enum (K := K) (a := a) (xs := xs)) Pv h0 hl (fun k x σ' H' H2 hk p y => ?_) hd⟩
  obtain ⟨T, u, v, rfl, hT, rfl, e1, e2⟩ := y
  cases e1
  exact ⟨T, _, rfl, SqT.of upd_same, rfl, _, _, rfl, _, _, rfl, rfl, hs k v σ' H' _ e2 p (same_new hT)⟩
theorem sr_1' {K : Frg} {σ : L2.St} {H : Hp} {te : TE} {tb : TS} {D : Ends} {g : TG} {xs : List V} (h : EvL te σ H xs) (q : ∀ p H1, H p = none → Same H H1 → H1 p = some (.lst xs) → ∃ a' xs', [V.ref p] = [.ref a'] ∧ SqL K H1 a' xs' ∧ FGo (Ite K a') g tb D σ H1) : tFor (iEnum K (tCons te tNil)) g tb D σ H :=
  h _ fun p H1 hp e h1 => q p H1 hp e h1
theorem vn_add {a b : Nat} : V.int ((a : Int) + (b : Int)) = vn (a + b) := congrArg V.int (Int.natCast_add a b).symm
theorem lc_openR {σ : L2.St} {H : Hp} {Q : VK} {ta : TA} {g : TG} {tt : TT} {te : TE} {vs : List Nat} (h : ta σ H fun xs H1 => ∃ j : Int, xs = [.int j] ∧ -(2 ^ 62) ≤ j ∧ j < 2 ^ 62 ∧ LcGo (Itr 0 j.toNat) g tt te vs σ H1 Q) : tLc (iRng1 ta) g tt te vs σ H Q := h
/-- the arcs as new lists -/
structure ArcsAt (H0 H : Hp) (fp : Addr) (ds : List Addr) (arcs : List (List Nat)) : Prop where
  old : Same H0 H
  hf : H fp = some (.lst (ds.map V.ref))
  nd : (fp :: ds).Nodup
  len : ds.length = arcs.length
  at_ : ∀ (i : Nat) (d : Addr), ds[i]? = some d → H d = some (.lst ((arcs[i]?.getD []).map vn))
  n0 : ∀ d ∈ fp :: ds, H0 d = none
theorem ArcsAt.mn {H0 H H1 : Hp} {fp : Addr} {ds : List Addr} {arcs : List (List Nat)} (e : Same H H1) (h : ArcsAt H0 H fp ds arcs) : ArcsAt H0 H1 fp ds arcs := ⟨h.old.trans e, e _ _ h.hf, h.nd, h.len, fun i d hd => e _ _ (h.at_ i d hd), h.n0⟩
theorem ArcsAt.app {H0 H : Hp} {fp d : Addr} {ds : List Addr} {arcs : List (List Nat)} {i x : Nat} (h : ArcsAt H0 H fp ds arcs) (hd : ds[i]? = some d) : ArcsAt H0 (upd H d (.lst ((arcs[i]?.getD []).map vn ++ [vn x]))) fp ds (arcs.set i (arcs[i]?.getD [] ++ [x])) := by
  obtain ⟨hi, he⟩ := List.getElem?_eq_some_iff.mp hd
  have hm : d ∈ ds := List.mem_of_getElem? hd
  have hfd : fp ≠ d := fun z => (List.nodup_cons.mp h.nd).1 (z ▸ hm)
  have hil : i < arcs.length := by rw [← h.len]; exact hi
  refine ⟨same_mut h.old (h.n0 d (List.mem_cons_of_mem _ hm)), by rw [upd_ne hfd]; exact h.hf, h.nd, by rw [List.length_set]; exact h.len, fun j d' hj => ?_, h.n0⟩
  rw [List.getElem?_set]
  by_cases e : i = j
  · subst e
    rw [hd] at hj
    cases hj
    rw [upd_same, if_pos rfl, if_pos hil]
    show _ = some (HO.lst ((arcs[i]?.getD [] ++ [x]).map vn))
    rw [List.map_append]
    rfl
  · obtain ⟨hj2, he2⟩ := List.getElem?_eq_some_iff.mp hj
    have hne : d' ≠ d := fun z => by
      rw [← he2, ← he] at z
      exact e ((List.getElem_inj (List.nodup_cons.mp h.nd).2).mp z).symm
    rw [upd_ne hne, if_neg e]
    exact h.at_ j d' hj
theorem ArcsAt.lln {K : Frg} {H0 H : Hp} {fp : Addr} {ds : List Addr} {arcs : List (List Nat)} (h : ArcsAt H0 H fp ds arcs) : LLN K H (.ref fp) arcs := by
  refine ⟨fp, ds.map V.ref, rfl, SqL.of h.hf, ?_⟩
  have hall : ∀ (ds' : List Addr) (L : List (List Nat)), ds'.length = L.length → (∀ (i : Nat) (d : Addr), ds'[i]? = some d → H d = some (.lst ((L[i]?.getD []).map vn))) → Paired (LN K H) (ds'.map V.ref) L := by
    intro ds'
    induction ds' with
    | nil => intro L hl h; cases L with | nil => exact .nil | cons _ _ => cases hl
    | cons d r ih =>
      intro L hl h
      cases L with
      | nil => cases hl
      | cons l L => exact .cons ⟨d, rfl, SqL.of (h 0 d rfl)⟩ (ih L (Nat.succ.inj hl) fun i d' hd' => h (i + 1) d' hd')
  exact hall ds arcs h.len h.at_
/-- the walk's arcs so far: the targets, the sizes -/
structure AOkc (N c : Nat) (arcs : List (List Nat)) : Prop where
  len : arcs.length = N
  lt : ∀ i x : Nat, x ∈ arcs[i]?.getD [] → x < N
  sz : ∀ i : Nat, (arcs[i]?.getD []).length ≤ c
def ASub (a b : List (List Nat)) : Prop := ∀ i x : Nat, x ∈ a[i]?.getD [] → x ∈ b[i]?.getD []
theorem set_get {arcs : List (List Nat)} {i x j : Nat} (hi : i < arcs.length) : (arcs.set i (arcs[i]?.getD [] ++ [x]))[j]?.getD [] = if j = i then arcs[i]?.getD [] ++ [x] else arcs[j]?.getD [] := by
  rw [List.getElem?_set]
  by_cases e : i = j
  · subst e; rw [if_pos rfl, if_pos hi, if_pos rfl]; rfl
  · rw [if_neg e, if_neg (Ne.symm e)]
theorem AOkc.app {N c : Nat} {arcs : List (List Nat)} {i x : Nat} (h : AOkc N c arcs) (hi : i < N) (hx : x < N) : AOkc N (c + 1) (arcs.set i (arcs[i]?.getD [] ++ [x])) ∧ ASub arcs (arcs.set i (arcs[i]?.getD [] ++ [x])) ∧ x ∈ (arcs.set i (arcs[i]?.getD [] ++ [x]))[i]?.getD [] := by
  have hil : i < arcs.length := by rw [h.len]; exact hi
  refine ⟨⟨by rw [List.length_set]; exact h.len, fun j y hy => ?_, fun j => ?_⟩, fun j y hy => ?_, ?_⟩
  · rw [set_get hil] at hy
    split at hy
    · rcases List.mem_append.mp hy with hy | hy
      · exact h.lt i y hy
      · rw [List.mem_singleton.mp hy]; exact hx
    · exact h.lt j y hy
  · rw [set_get hil]
    split
    · rw [List.length_append, List.length_singleton]; have := h.sz i; omega
    · have := h.sz j; omega
  · rw [set_get hil]
    split
    · rename_i e; subst e; exact List.mem_append_left _ hy
    · exact hy
  · rw [set_get hil, if_pos rfl]
    exact List.mem_append_right _ (by simp)
theorem AOkc.mono {N c d : Nat} {arcs : List (List Nat)} (h : AOkc N c arcs) (e : c ≤ d) : AOkc N d arcs := ⟨h.len, h.lt, fun i => Nat.le_trans (h.sz i) e⟩
theorem lcN_go {σ : L2.St} {H : Hp} {Q : VK} {n j : Nat} {vs : List Nat} (hz : n ≤ 1000000) (hw : ∀ x, wipe ((wipe σ vs).set j (some x)) vs = wipe σ vs)
    (q : ∀ D (ds : List Addr) H', H D = none → Same H H' → H' D = some (.lst (ds.map V.ref)) → ds.length = n → (D :: ds).Nodup → (∀ d ∈ ds, H' d = some (.lst []) ∧ H d = none) → Q (.ref D) H') : LcGo (Itr 0 n) (gName j) tYes (tLst tNil) vs σ H Q := by
  intro D hD
  refine lc_range (lo := 0) (n := n) (fun i H' => Same H H' ∧ ∃ ds : List Addr, H' D = some (.lst (ds.map V.ref)) ∧ ds.length = i ∧ (D :: ds).Nodup ∧ ∀ d ∈ ds, H' d = some (.lst []) ∧ H d = none) ⟨same_new hD, [], upd_same, rfl, by simp, fun d hd => by simp at hd⟩ (fun i H1 hi p => ?_) (fun H' p => by obtain ⟨e, ds, h1, h2, h3, h4⟩ := p; exact q D ds H' hD e h1 h2 h3 h4)
  obtain ⟨e1, ds, hu, hl, hn, ht⟩ := p
  refine ⟨hw _, ?_⟩
  unfold tYes
  dsimp only
  rw [if_pos rfl]
  refine ⟨Nat.zero_le _, ?_⟩
  intro r hr
  have hDr : r ≠ D := fun z => by
    subst z
    rw [hr] at hu
    cases hu
  refine ⟨ds.map V.ref, same_new hr _ _ hu, ?_, ?_, ds ++ [r], by rw [upd_same, List.map_append]; rfl, by rw [List.length_append, hl]; rfl, ?_, fun d hd => ?_⟩
  · rw [List.length_map, sizeLine_eq]
    omega
  · exact same_mut (e1.trans (same_new hr)) hD
  · have hrd : r ∉ ds := fun z => by
      have := (ht r z).1
      rw [hr] at this
      cases this
    rw [List.nodup_cons] at hn ⊢
    refine ⟨fun z => ?_, ?_⟩
    · rcases List.mem_append.mp z with z | z
      · exact hn.1 z
      · exact hDr (List.mem_singleton.mp z).symm
    · refine List.nodup_append.mpr ⟨hn.2, by simp, fun x hx y hy => ?_⟩
      rw [List.mem_singleton.mp hy]
      exact fun z => hrd (z ▸ hx)
  · rcases List.mem_append.mp hd with hd | hd
    · have hdD : d ≠ D := fun z => by
        subst z
        exact (List.nodup_cons.mp hn).1 hd
      exact ⟨by rw [upd_ne hdD]; exact same_new hr _ _ (ht d hd).1, (ht d hd).2⟩
    · rw [List.mem_singleton.mp hd]
      exact ⟨by rw [upd_ne hDr, upd_same], e1.free hr⟩
/-- what met_arcs tells -/
structure MetOk (w : Nat → Nat → Option Int) (n m : Nat) (asks prices : List Int) (arcs : List (List Nat)) : Prop where
  len : arcs.length = n + m + 1
  lt : ∀ i x : Nat, x ∈ arcs[i]?.getD [] → x < n + m + 1
  wi : ∀ a t x, w a t = some x → qf asks a + qf prices t = x → n + t ∈ arcs[a]?.getD []
  as : ∀ a, a < n → qf asks a = 0 → n + m ∈ arcs[a]?.getD []
  pr : ∀ t, t < m → qf prices t = 0 → n + t ∈ arcs[n + m]?.getD []
section
variable {P : Program} {w : World} {K : Frg} {mg : Str → Option Value} {base : Heap}
theorem ss_arc {σ : L2.St} {H0 H : Hp} {D : Ends} {to ti te : TE} {fp : Addr} {ds : List Addr} {arcs : List (List Nat)} {N c i x : Nat} (h : ArcsAt H0 H fp ds arcs) (g : AOkc N c arcs) (hc : c < 1000) (hi : i < N) (hx : x < N) (ho : Pv to σ H (.ref fp)) (hti : Pv ti σ H (vn i)) (hte : Pv te σ H (vn x))
    (q : ∀ H1, ArcsAt H0 H1 fp ds (arcs.set i (arcs[i]?.getD [] ++ [x])) → AOkc N (c + 1) (arcs.set i (arcs[i]?.getD [] ++ [x])) → ASub arcs (arcs.set i (arcs[i]?.getD [] ++ [x])) → x ∈ (arcs.set i (arcs[i]?.getD [] ++ [x]))[i]?.getD [] → D.nx σ H1) : tDrop (tBM K "list" rAppend (tOp (rIxL K) to ti) (tCons te tNil)) D σ H := by
  have hil : i < ds.length := by rw [h.len, g.len]; exact hi
  have hd := List.getElem?_eq_getElem hil
  have hsz := g.sz i
  refine ss_appG (pv_ixL (i := (i : Int)) ho hti (SqL.of h.hf) (atI_nat (by rw [List.getElem?_map, hd]; rfl))) (h.at_ i _ hd) (by rw [List.length_map, sizeLine_eq]; omega) hte fun H1 e1 => ?_
  obtain ⟨k1, k2, k3⟩ := g.app hi hx
  exact q _ ((h.mn e1).app hd) k1 k2 k3
def spMet (K : Frg) : Sp := fun vs H Q _ => ∃ (v x : V) (cs : List Nat) (ls : List (List (List Nat))) (s : Str) (dd pt ask pri : Addr) (D : List (Option Nat)) (asks prices : List Int), vs = [v, x, .ref dd, .ref pt] ∧ WS K H v cs ls ∧ WG cs ls ∧ AOk K H x s ∧ SqL K H dd (D.map vo) ∧ SqT K H pt [.int 1, .ref ask, .ref pri] ∧ SqL K H ask (asks.map V.int) ∧ SqL K H pri (prices.map V.int) ∧ D.length = ls.length ∧ asks.length = ls.length ∧ prices.length = cs.length ∧ (∀ a t, dl D a = some t → t < cs.length) ∧
  ∀ p H' arcs, H p = none → Same H H' → LLN K H' (.ref p) arcs → MetOk (wL s ls) ls.length cs.length asks prices arcs → Q (.ref p) H'
theorem sc_met_arcs : FnScope N_met_arcs ["wishes", "aim", "dealing", "paper"] (defScope s_met_arcs) := ⟨rfl, rfl, rfl, by decide +kernel, rfl, by decide +kernel, by decide +kernel⟩
theorem ASub.trans {a b c : List (List Nat)} (h1 : ASub a b) (h2 : ASub b c) : ASub a c := fun i x h => h2 i x (h1 i x h)
theorem ASub.refl {a : List (List Nat)} : ASub a a := fun _ _ h => h
theorem ok_met_arcs (G : Gx K mg) : Known P w K mg base CX0 9 "met_arcs" ["wishes", "aim", "dealing", "paper"] (spMet K) := by
  have sc := sc_met_arcs
  have k_all_worths := ok_all_worths (P := P) (w := w) (base := base) G
  have k_copies_left := ok_copies_left (P := P) (w := w) (base := base) G
  refine G.f_met_arcs.known sc (fun _ _ _ _ _ _ us hl => match us, hl with | [_, _, _, _], _ => rfl) (fun vs H Q E h => ?_) (fun cdv A outer s H vs Q E hr h => ?_)
  · obtain ⟨v, x, cs, ls, s, dd, pt, ask, pri, D, asks, prices, rfl, _⟩ := h; rfl
  · obtain ⟨v, x, cs, ls, s, dd, pt, ask, pri, D, asks, prices, rfl, hW, W, hA, hdd, hT, ha, hp, hlD, hla, hlp, hDt, q⟩ := h
    refine ⟨_, (pss_cons (ps_asg (pv 3) (pg_tup rfl (pgs_cons (pg_name (i := 4) sc.nd rfl (Or.inl rfl)) (pgs_cons (pg_name (i := 5) sc.nd rfl (Or.inl rfl)) (pgs_cons (pg_name (i := 6) sc.nd rfl (Or.inl rfl)) pgs_nil)))))
      (pss_cons (ps_set (i := 7) sc.nd rfl (Or.inl rfl) (pe_callB call_len_seq (by rfl) G.n_len (by decide +kernel) (pa_cons (pv 5) pa_nil)))
      (pss_cons (ps_set (i := 8) sc.nd rfl (Or.inl rfl) (pe_op op_add (pv 7) (pe_callB call_len_seq (by rfl) G.n_len (by decide +kernel) (pa_cons (pv 6) pa_nil))))
      (pss_cons (ps_setLc (i := 10) (own := [("node", 9)]) rfl sc.nd rfl rfl (sw_true rfl rfl rfl (by decide +kernel)) (pi_range1 rfl G.n_range (pa_cons (pe_op op_add (pv 8) pe_int) pa_nil)) (blkOk_by (by rfl)) (fun _ _ _ _ _ => (pg_name (i := 9) sc.nd rfl (Or.inl rfl))) (fun _ _ _ _ _ => pts_nil) (fun _ _ _ _ _ => (pe_lst pa_nil)))
      (pss_cons (ps_for PassesOwn.never rfl (pi_list (pe_kn k_all_worths (hr.mono (by decide)) pass0 (pa_cons (pv 0) (pa_cons (pv 1) pa_nil)))) (pg_tup rfl (pgs_cons (pg_name (i := 11) sc.nd rfl (Or.inl rfl)) (pgs_cons (pg_name (i := 12) sc.nd rfl (Or.inl rfl)) (pgs_cons (pg_name (i := 13) sc.nd rfl (Or.inl rfl)) pgs_nil))))
      (pss_one (ps_if (pt_cmpR op_eq (pe_op op_add (pe_ix ix_list (pv 5) (pv 11) (fun _ _ => rfl)) (pe_ix ix_list (pv 6) (pv 12) (fun _ _ => rfl))) (pv 13) (nomark _))
      (pss_one (ps_expr (pe_bm PySem.F.plainAttrs_list PySem.F.slot_list_append PySem.F.type_list_append mt_append (pe_ix ix_list (pv 10) (pv 11) (fun _ _ => rfl)) (pa_cons (pe_op op_add (pv 7) (pv 12)) pa_nil)))) pss_nil)))
      (pss_cons (ps_for PassesOwn.never rfl (pi_range1 rfl G.n_range (pa_cons (pv 7) pa_nil)) (pg_name (i := 11) sc.nd rfl (Or.inl rfl))
      (pss_cons (ps_if (pt_cmpR op_eq (pe_ix ix_list (pv 5) (pv 11) (fun _ _ => rfl)) pe_int (nomark _))
      (pss_one (ps_expr (pe_bm PySem.F.plainAttrs_list PySem.F.slot_list_append PySem.F.type_list_append mt_append (pe_ix ix_list (pv 10) (pv 11) (fun _ _ => rfl)) (pa_cons (pv 8) pa_nil)))) pss_nil)
      (pss_one (ps_if (pt_cmpR op_isN (pe_ix ix_list (pv 2) (pv 11) (fun _ _ => rfl)) pe_non (nomark _))
      (pss_one (ps_expr (pe_bm PySem.F.plainAttrs_list PySem.F.slot_list_append PySem.F.type_list_append mt_append (pe_ix ix_list (pv 10) (pv 8) (fun _ _ => rfl)) (pa_cons (pv 11) pa_nil)))) (pss_one (ps_expr (pe_bm PySem.F.plainAttrs_list PySem.F.slot_list_append PySem.F.type_list_append mt_append (pe_ix ix_list (pv 10) (pe_op op_add (pv 7) (pe_ix ix_list (pv 2) (pv 11) (fun _ _ => rfl))) (fun _ _ => rfl)) (pa_cons (pv 11) pa_nil))))))))
      (pss_cons (ps_for PassesOwn.never rfl (pi_enum rfl G.n_enumerate (pa_cons (pe_kn k_copies_left (hr.mono (by decide)) pass0 (pa_cons (pv 0) (pa_cons (pv 2) pa_nil))) pa_nil)) (pg_tup rfl (pgs_cons (pg_name (i := 12) sc.nd rfl (Or.inl rfl)) (pgs_cons (pg_name (i := 14) sc.nd rfl (Or.inl rfl)) pgs_nil)))
      (pss_cons (ps_if (pt_cmpR op_eq (pe_ix ix_list (pv 6) (pv 12) (fun _ _ => rfl)) pe_int (nomark _))
      (pss_one (ps_expr (pe_bm PySem.F.plainAttrs_list PySem.F.slot_list_append PySem.F.type_list_append mt_append (pe_ix ix_list (pv 10) (pv 8) (fun _ _ => rfl)) (pa_cons (pe_op op_add (pv 7) (pv 12)) pa_nil)))) pss_nil)
      (pss_one (ps_if (pt_cmpR op_gt (pv 14) pe_int (nomark _))
      (pss_one (ps_expr (pe_bm PySem.F.plainAttrs_list PySem.F.slot_list_append PySem.F.type_list_append mt_append (pe_ix ix_list (pv 10) (pe_op op_add (pv 7) (pv 12)) (fun _ _ => rfl)) (pa_cons (pv 8) pa_nil)))) pss_nil))))
      (pss_one (ps_ret (pv 10)))))))))), ?_⟩
    have h7 := W.all
    generalize hn : ls.length = n at *
    generalize hm : cs.length = m at *
    refine st_seq ⟨_, rfl, w_tg3 hT ?_⟩
    dsimp only
    refine st_seq ?_
    refine ss_set (pv_len (n := n) (pv_var rfl) (.inl ha) (by rw [List.length_map, hla])) fun H1 e1 => ?_
    dsimp only
    refine st_seq ?_
    refine ss_set (v := vn (n + m)) (Pv.to (pv_add (i := (n : Int)) (j := (m : Int)) (pv_var rfl) (pv_len (pv_var rfl) (.inl (SqL.mn e1 hp)) (by rw [List.length_map, hlp]))) vn_add) fun H2 e2 => ?_
    have e02 := e1.trans e2
    dsimp only
    refine st_seq ?_
    refine sr_set (lc_openR (sr_1 ((pv_add (i := ((n + m : Nat) : Int)) (j := 1) (pv_var rfl) pv_c).run fun H3 e3 => ⟨_, rfl, by omega, by omega, ?_⟩)))
    have hNN : (((n + m : Nat) : Int) + 1).toNat = n + m + 1 := by omega
    rw [hNN]
    refine lcN_go (n := n + m + 1) (by omega) (by intro x; rfl) fun fp ds H4 hfp e4 h4 hdl hnd hds => ?_
    have e04 := e02.trans (e3.trans e4)
    have A0 : ArcsAt H H4 fp ds (List.replicate (n + m + 1) []) := by
      refine ⟨e04, h4, hnd, by rw [hdl]; simp, fun i d hd => ?_, fun d hd => ?_⟩
      · rw [(hds d (List.mem_of_getElem? hd)).1, List.getElem?_replicate]
        split <;> rfl
      · rcases List.mem_cons.mp hd with rfl | hd
        · exact (e02.trans e3).free hfp
        · exact (e02.trans e3).free (hds d hd).2
    have G0 : AOkc (n + m + 1) 0 (List.replicate (n + m + 1) ([] : List Nat)) := by
      have hh : ∀ i : Nat, (List.replicate (n + m + 1) ([] : List Nat))[i]?.getD [] = [] := fun i => by
        rw [List.getElem?_replicate]; split <;> rfl
      exact ⟨by simp, (fun i x hx => by rw [hh] at hx; cases hx), fun i => by rw [hh]; exact Nat.le_refl _⟩
    dsimp only
    refine st_seq (f_open (c_call (pva_2 (pv_var rfl) (pv_var rfl)) fun H5 e5 => ⟨v, x, cs, ls, s, rfl, hW.mono (Le.of (e04.trans e5)), W, hA.mn (e04.trans e5), fun wv H6 N6 e6 n6 ⟨tss, hTs, hAW⟩ => ?_⟩))
    obtain ⟨wp, us, rfl, hwp, hus⟩ := hAW
    have hwp6 := (n6 _ _ hwp).1
    have A6 := (A0.mn e5).mn e6
    have h42 := awr_42 (s := s) W hTs
    -- the heap without the arcs
    have hcut : ∀ {b o}, N6 b = some o → (cut H6 (fp :: ds)) b = some o := fun {b o} hb => by
      rw [cut_at (fun z => ?_)]
      · exact (n6 _ _ hb).1
      · have h1 := (n6 _ _ hb).2
        rcases List.mem_cons.mp z with z | z
        · rw [z, (A0.mn e5).hf] at h1; cases h1
        · obtain ⟨i, hi⟩ := List.mem_iff_getElem?.mp z
          rw [(A0.mn e5).at_ i b hi] at h1; cases h1
    refine ⟨wp, rfl, ⟨_, SqL.of hwp6⟩, ?_⟩
    refine for_list (fun j σ H' => ∃ y9 y11 y12 y13 y14 arcs, σ = [some v, some x, some (.ref dd), some (.ref pt), some (.int 1), some (.ref ask), some (.ref pri), some (vn n), some (vn (n + m)), y9, some (.ref fp), y11, y12, y13, y14] ∧ ArcsAt (cut H6 (fp :: ds)) H' fp ds arcs ∧ AOkc (n + m + 1) j arcs ∧ ∀ r ∈ (awr s ls tss).take j, qf asks r.1 + qf prices r.2.1 = r.2.2 → n + r.2.1 ∈ arcs[r.1]?.getD [])
      ⟨_, _, _, _, _, _, rfl, ⟨cut_same, A6.hf, A6.nd, A6.len, A6.at_, fun d hd => cut_none hd⟩, G0, fun r hr => by simp at hr⟩ (fun j σ H' _ ⟨_, _, _, _, _, _, _, A, _⟩ => SqL.of (A.old _ _ (hcut hwp))) ?_ ?_
    · rintro j u σ H7 hj ⟨y9, y11, y12, y13, y14, arcs, rfl, A7, G7, hall⟩
      obtain ⟨r, hr, q0, rfl, hq0⟩ := paired_get hus hj
      refine w_tg3 (SqT.of (A7.old _ _ (hcut hq0))) ?_
      have hrm := List.mem_of_getElem? hr
      have hw := awr_w hTs hrm
      obtain ⟨hal, _, _, _, _, htl⟩ := wL_hw W hw
      rw [hn] at hal
      rw [hm] at htl
      have hjl := (List.getElem?_eq_some_iff.mp hr).1
      have htk : (awr s ls tss).take (j + 1) = (awr s ls tss).take j ++ [r] := by rw [List.take_succ, hr]; rfl
      have eold : Same H (cut H6 (fp :: ds)) := cut_of (e04.trans (e5.trans e6)) A0.n0
      have e7 := eold.trans A7.old
      refine ss_if (b := decide (qf asks r.1 + qf prices r.2.1 = r.2.2)) (pt_t (pv_eq (pv_add (pv_ixL (pv_var rfl) (pv_var rfl) (SqL.mn e7 ha) (atI_nat (q_get (by omega)))) (pv_ixL (pv_var rfl) (pv_var rfl) (SqL.mn e7 hp) (atI_nat (q_get (by omega))))) (pv_var rfl) rfl dec_i)) (fun H8 e8 hb => ?_) fun H8 e8 hb => ?_
      · refine ss_arc (i := r.1) (x := n + r.2.1) (A7.mn e8) G7 (by omega) (by omega) (by omega) (pv_var rfl) (pv_var rfl) (Pv.to (pv_add (i := (n : Int)) (j := (r.2.1 : Int)) (pv_var rfl) (pv_var rfl)) vn_add) fun H9 A9 G9 hsub hin => ?_
        refine ⟨_, _, _, _, _, _, rfl, A9, G9, fun r' hr' he => ?_⟩
        rw [htk] at hr'
        rcases List.mem_append.mp hr' with hr' | hr'
        · exact hsub _ _ (hall r' hr' he)
        · rw [List.mem_singleton.mp hr']; exact hin
      · refine ⟨_, _, _, _, _, _, rfl, A7.mn e8, G7.mono (Nat.le_succ _), fun r' hr' he => ?_⟩
        rw [htk] at hr'
        rcases List.mem_append.mp hr' with hr' | hr'
        · exact hall r' hr' he
        · rw [List.mem_singleton.mp hr'] at he; exact absurd he (of_decide_eq_false hb)
    · rintro σ H7 ⟨y9, y11, y12, y13, y14, arcs1, rfl, A7, G7, hall⟩
      have hlu := hus.length
      rw [hlu, List.take_length] at hall
      have hG1 : AOkc (n + m + 1) 42 arcs1 := G7.mono (by omega)
      have eold : Same H (cut H6 (fp :: ds)) := cut_of (e04.trans (e5.trans e6)) A0.n0
      dsimp only
      refine st_seq ?_
      refine w_forR (n := (n : Int)) (fun Q q => ⟨_, rfl, q⟩) (by omega) (by omega) (fun j σ H' => ∃ y9 y11 y12 y13 y14 arcs, σ = [some v, some x, some (.ref dd), some (.ref pt), some (.int 1), some (.ref ask), some (.ref pri), some (vn n), some (vn (n + m)), y9, some (.ref fp), y11, y12, y13, y14] ∧ ArcsAt (cut H6 (fp :: ds)) H' fp ds arcs ∧ AOkc (n + m + 1) (42 + 2 * j) arcs ∧ ASub arcs1 arcs ∧ ∀ a, a < j → qf asks a = 0 → n + m ∈ arcs[a]?.getD [])
        ⟨_, _, _, _, _, arcs1, rfl, A7, hG1, ASub.refl, fun a h => absurd h (Nat.not_lt_zero _)⟩ ?_ ?_
      · rintro j σ H8 hj ⟨y9', y11', y12', y13', y14', arcs2, rfl, A8, G8, hs2, hall2⟩
        have hjn : j < n := by omega
        have e8 := eold.trans A8.old
        -- nothing asked
        have step1 : ∀ {H9 : Hp} {arcs3 : List (List Nat)}, ArcsAt (cut H6 (fp :: ds)) H9 fp ds arcs3 → AOkc (n + m + 1) (42 + 2 * j + 1) arcs3 → ASub arcs1 arcs3 → (∀ a, a < j + 1 → qf asks a = 0 → n + m ∈ arcs3[a]?.getD []) →
            tIfS (tTest (tOp (fun x y H Q => y = .non ∧ Q (.bl (decide (x = .non))) H) (tOp (rIxL K) (tVar 2) (tVar 11)) (tC .non))) (tDrop (tBM K "list" rAppend (tOp (rIxL K) (tVar 10) (tVar 8)) (tCons (tVar 11) tNil))) (tDrop (tBM K "list" rAppend (tOp (rIxL K) (tVar 10) (tOp (rI0 fun i j => .int (i + j)) (tVar 7) (tOp (rIxL K) (tVar 2) (tVar 11)))) (tCons (tVar 11) tNil)))
            { nx := fun σ H' => ∃ y9 y11 y12 y13 y14 arcs, σ = [some v, some x, some (.ref dd), some (.ref pt), some (.int 1), some (.ref ask), some (.ref pri), some (vn n), some (vn (n + m)), y9, some (.ref fp), y11, y12, y13, y14] ∧ ArcsAt (cut H6 (fp :: ds)) H' fp ds arcs ∧ AOkc (n + m + 1) (42 + 2 * (j + 1)) arcs ∧ ASub arcs1 arcs ∧ ∀ a, a < j + 1 → qf asks a = 0 → n + m ∈ arcs[a]?.getD [], rt := Q, bk := fun _ _ => False, ct := fun _ _ => False } [some v, some x, some (.ref dd), some (.ref pt), some (.int 1), some (.ref ask), some (.ref pri), some (vn n), some (vn (n + m)), y9', some (.ref fp), some (vn j), y12', y13', y14'] H9 := by
          intro H9 arcs3 A9 G9 hs3 hall3
          have e9 := eold.trans A9.old
          refine ss_if (b := (dl D j).isNone) (pt_t (pv_isN (pv_ixL (pv_var rfl) (pv_var rfl) (SqL.mn e9 hdd) (atI_nat (d_get (by omega)))) vo_non)) (fun H10 e10 hb => ?_) fun H10 e10 hb => ?_
          · refine ss_arc (i := n + m) (x := j) (A9.mn e10) G9 (by omega) (by omega) (by omega) (pv_var rfl) (pv_var rfl) (pv_var rfl) fun H11 A11 G11 hsub _ => ?_
            exact ⟨_, _, _, _, _, _, rfl, A11, G11.mono (by omega), hs3.trans hsub, fun a ha' h0 => hsub _ _ (hall3 a ha' h0)⟩
          · cases hd : dl D j with
            | none => rw [hd] at hb; cases hb
            | some t =>
              have htm := hDt j t hd
              have e10' := e9.trans e10
              refine ss_arc (i := n + t) (x := j) (A9.mn e10) G9 (by omega) (by omega) (by omega) (pv_var rfl) (Pv.to (pv_add (i := (n : Int)) (j := (t : Int)) (pv_var rfl) (pv_ixL (pv_var rfl) (pv_var rfl) (SqL.mn e10' hdd) (atI_nat (by rw [d_get (by omega), hd]; rfl)))) vn_add) (pv_var rfl) fun H11 A11 G11 hsub _ => ?_
              exact ⟨_, _, _, _, _, _, rfl, A11, G11.mono (by omega), hs3.trans hsub, fun a ha' h0 => hsub _ _ (hall3 a ha' h0)⟩
        refine st_seq ?_
        refine ss_if (b := decide (qf asks j = 0)) (pt_t (pv_eq (pv_ixL (pv_var rfl) (pv_var rfl) (SqL.mn e8 ha) (atI_nat (q_get (by omega)))) pv_c rfl dec_i)) (fun H9 e9 hb => ?_) fun H9 e9 hb => ?_
        · refine ss_arc (i := j) (x := n + m) (A8.mn e9) G8 (by omega) (by omega) (by omega) (pv_var rfl) (pv_var rfl) (pv_var rfl) fun H10 A10 G10 hsub hin => ?_
          refine step1 A10 G10 (hs2.trans hsub) fun a ha' h0 => ?_
          by_cases haj : a = j
          · subst haj; exact hin
          · exact hsub _ _ (hall2 a (by omega) h0)
        · refine st_next ?_
          refine step1 (A8.mn e9) (G8.mono (by omega)) hs2 fun a ha' h0 => ?_
          by_cases haj : a = j
          · subst haj; exact absurd h0 (of_decide_eq_false hb)
          · exact hall2 a (by omega) h0
      · rintro σ H8 ⟨y9', y11', y12', y13', y14', arcs2, rfl, A8, G8, hs2, hall2⟩
        have hn2 : ((n : Nat) : Int).toNat = n := by omega
        rw [hn2] at G8 hall2
        have e8 := eold.trans A8.old
        dsimp only
        refine st_seq ?_
        refine sr_1' (el_call (pva_2 (pv_var rfl) (pv_var rfl)) (fun H9 e9 Q9 q9 => ⟨v, cs, ls, dd, D.map vo, rfl, hW.mono (Le.of (e8.trans e9)), W, SqL.mn (e8.trans e9) hdd, ni_all ni_vo, q9⟩)) fun lp H9 hlp e9 h9 => ?_
        have hll : (leftV cs (D.map vo)).length = m := by unfold leftV; rw [List.length_map, List.length_range, hm]
        have A9 := A8.mn e9
        have hlpn : lp ∉ fp :: ds := fun z => by
          rcases List.mem_cons.mp z with z | z
          · rw [z, A8.hf] at hlp; cases hlp
          · obtain ⟨i, hi⟩ := List.mem_iff_getElem?.mp z
            rw [A8.at_ i lp hi] at hlp; cases hlp
        have A9' : ArcsAt (cut H9 (fp :: ds)) H9 fp ds arcs2 := ⟨cut_same, A9.hf, A9.nd, A9.len, A9.at_, fun d hd => cut_none hd⟩
        have eold9 : Same H (cut H9 (fp :: ds)) := cut_of (e8.trans e9) A0.n0
        have hlp9 : (cut H9 (fp :: ds)) lp = some (.lst (leftV cs (D.map vo))) := by rw [cut_at hlpn]; exact h9
        refine w_forE' (a := lp) (xs := leftV cs (D.map vo)) (SqL.of h9) (fun j σ H' => ∃ y9 y11 y12 y13 y14 arcs, σ = [some v, some x, some (.ref dd), some (.ref pt), some (.int 1), some (.ref ask), some (.ref pri), some (vn n), some (vn (n + m)), y9, some (.ref fp), y11, y12, y13, y14] ∧ ArcsAt (cut H9 (fp :: ds)) H' fp ds arcs ∧ AOkc (n + m + 1) (42 + 2 * n + 2 * j) arcs ∧ ASub arcs2 arcs ∧ ∀ t, t < j → qf prices t = 0 → n + t ∈ arcs[n + m]?.getD [])
          ⟨_, _, _, _, _, arcs2, rfl, A9', G8, ASub.refl, fun a h => absurd h (Nat.not_lt_zero _)⟩ (fun j σ H' _ ⟨_, _, _, _, _, _, _, A, _⟩ => SqL.of (A.old _ _ hlp9)) ?_ ?_
        · rintro j u σ H10 H11 hj ⟨z9, z11, z12, z13, z14, arcs3, rfl, A10, G10, hs3, hall3⟩ e11
          have hjm : j < m := by have := (List.getElem?_eq_some_iff.mp hj).1; rwa [hll] at this
          obtain ⟨iu, rfl⟩ : ∃ iu, u = V.int iu := by
            have hm' := List.mem_of_getElem? hj
            unfold leftV at hm'
            obtain ⟨i, _, e⟩ := List.mem_map.mp hm'
            exact ⟨_, e.symm⟩
          have A11 := A10.mn e11
          have e011 := eold9.trans A11.old
          have step2 : ∀ {H9' : Hp} {arcs4 : List (List Nat)}, ArcsAt (cut H9 (fp :: ds)) H9' fp ds arcs4 → AOkc (n + m + 1) (42 + 2 * n + 2 * j + 1) arcs4 → ASub arcs2 arcs4 → (∀ a, a < j + 1 → qf prices a = 0 → n + a ∈ arcs4[n + m]?.getD []) →
              tIfS (tTest (tOp (rI0 fun i j => .bl (decide (j < i))) (tVar 14) (tC (.int 0)))) (tDrop (tBM K "list" rAppend (tOp (rIxL K) (tVar 10) (tOp (rI0 fun i j => .int (i + j)) (tVar 7) (tVar 12))) (tCons (tVar 8) tNil))) tNext
              { nx := fun σ H' => ∃ y9 y11 y12 y13 y14 arcs, σ = [some v, some x, some (.ref dd), some (.ref pt), some (.int 1), some (.ref ask), some (.ref pri), some (vn n), some (vn (n + m)), y9, some (.ref fp), y11, y12, y13, y14] ∧ ArcsAt (cut H9 (fp :: ds)) H' fp ds arcs ∧ AOkc (n + m + 1) (42 + 2 * n + 2 * (j + 1)) arcs ∧ ASub arcs2 arcs ∧ ∀ t, t < j + 1 → qf prices t = 0 → n + t ∈ arcs[n + m]?.getD [], rt := Q, bk := fun _ _ => False, ct := fun _ _ => False } [some v, some x, some (.ref dd), some (.ref pt), some (.int 1), some (.ref ask), some (.ref pri), some (vn n), some (vn (n + m)), z9, some (.ref fp), z11, some (vn j), z13, some (.int iu)] H9' := by
            intro H9' arcs4 A12 G12 hs4 hall4
            refine ss_if (b := decide (0 < iu)) (pt_t (pv_cmp (pv_var rfl) pv_c rfl)) (fun H13 e13 hb => ?_) fun H13 e13 hb => ?_
            · refine ss_arc (i := n + j) (x := n + m) (A12.mn e13) G12 (by omega) (by omega) (by omega) (pv_var rfl) (Pv.to (pv_add (i := (n : Int)) (j := (j : Int)) (pv_var rfl) (pv_var rfl)) vn_add) (pv_var rfl) fun H14 A14 G14 hsub _ => ?_
              exact ⟨_, _, _, _, _, _, rfl, A14, G14.mono (by omega), hs4.trans hsub, fun a ha' h0 => hsub _ _ (hall4 a ha' h0)⟩
            · exact ⟨_, _, _, _, _, _, rfl, A12.mn e13, G12.mono (by omega), hs4, hall4⟩
          refine st_seq ?_
          refine ss_if (b := decide (qf prices j = 0)) (pt_t (pv_eq (pv_ixL (pv_var rfl) (pv_var rfl) (SqL.mn e011 hp) (atI_nat (q_get (by omega)))) pv_c rfl dec_i)) (fun H12 e12 hb => ?_) fun H12 e12 hb => ?_
          · refine ss_arc (i := n + m) (x := n + j) (A11.mn e12) G10 (by omega) (by omega) (by omega) (pv_var rfl) (pv_var rfl) (Pv.to (pv_add (i := (n : Int)) (j := (j : Int)) (pv_var rfl) (pv_var rfl)) vn_add) fun H13 A13 G13 hsub hin => ?_
            refine step2 A13 G13 (hs3.trans hsub) fun a ha' h0 => ?_
            by_cases haj : a = j
            · subst haj; exact hin
            · exact hsub _ _ (hall3 a (by omega) h0)
          · refine st_next ?_
            refine step2 (A11.mn e12) (G10.mono (by omega)) hs3 fun a ha' h0 => ?_
            by_cases haj : a = j
            · subst haj; exact absurd h0 (of_decide_eq_false hb)
            · exact hall3 a (by omega) h0
        · rintro σ H10 ⟨z9, z11, z12, z13, z14, arcs3, rfl, A10, G10, hs3, hall3⟩
          rw [hll] at hall3
          refine ⟨_, rfl, q fp H10 arcs3 (A0.n0 fp List.mem_cons_self) (eold9.trans A10.old) A10.lln ⟨G10.len, G10.lt, fun a t y hy he => ?_, fun a ha' h0 => ?_, hall3⟩⟩
          · exact hs3 _ _ (hs2 _ _ (hall (a, t, y) (awr_of hTs hy) he))
          · exact hs3 _ _ (hall2 a ha' h0)
end
end Wd
set_option Elab.async false
set_option linter.all false
set_option maxRecDepth 100000
set_option maxHeartbeats 4000000
/-! web_of -/
namespace Wd
open PySem PySem.Spec PyProof.Rows L2
theorem tight_back {w : Nat → Nat → Option Int} {n m : Nat} {asks prices : List Int} {arcs : List (List Nat)} (M : MetOk w n m asks prices arcs) {a t : Nat} {y : Int} (ha : a < n) (ht : t < m) (hw : w a t = some y) (hc : y ≤ qf asks a + qf prices t) (he : sAsk arcs asks a + sPri arcs n prices t = (arcs.length : Int) * y) : Rch arcs (n + t) a := by
  have hN := M.len
  have p1 := plc_le (arcs := arcs) (s := n + t)
  have p2 := plc_pos (arcs := arcs) (s := a) (by omega)
  have p3 := plc_pos (arcs := arcs) (s := n + t) (by omega)
  have p4 := plc_le (arcs := arcs) (s := a)
  unfold sAsk sPri at he
  have e1 : (arcs.length : Int) * (qf asks a + qf prices t - y) = (plc arcs (n + t) : Int) - (plc arcs a : Int) := by
    rw [Int.mul_sub, Int.mul_add]
    omega
  have h0 : qf asks a + qf prices t - y = 0 := by
    apply Decidable.byContradiction
    intro h
    have h1 : 1 ≤ qf asks a + qf prices t - y := by omega
    have h2 : (arcs.length : Int) * 1 ≤ (arcs.length : Int) * (qf asks a + qf prices t - y) := Int.mul_le_mul_of_nonneg_left h1 (by omega)
    omega
  rw [h0, Int.mul_zero] at e1
  exact plc_back (by omega) (Rch.refl.step (M.wi a t y hw (by omega))) (by omega)
theorem ask_back {w : Nat → Nat → Option Int} {n m : Nat} {asks prices : List Int} {arcs : List (List Nat)} (M : MetOk w n m asks prices arcs) {a : Nat} (ha : a < n) (h0 : 0 ≤ qf asks a) (he : sAsk arcs asks a = 0) : Rch arcs (n + m) a := by
  have hN := M.len
  have hL : arcs.length - 1 = n + m := by omega
  have p1 := plc_le (arcs := arcs) (s := n + m)
  have p2 := plc_pos (arcs := arcs) (s := a) (by omega)
  unfold sAsk at he
  rw [hL] at he
  have hz : qf asks a = 0 := by
    apply Decidable.byContradiction
    intro h
    have h2 : (arcs.length : Int) * 1 ≤ (arcs.length : Int) * qf asks a := Int.mul_le_mul_of_nonneg_left (by omega) (by omega)
    omega
  rw [hz, Int.mul_zero] at he
  exact plc_back (by omega) (Rch.refl.step (M.as a ha hz)) (by omega)
theorem pri_back {w : Nat → Nat → Option Int} {n m : Nat} {asks prices : List Int} {arcs : List (List Nat)} (M : MetOk w n m asks prices arcs) {t : Nat} (ht : t < m) (h0 : 0 ≤ qf prices t) (he : sPri arcs n prices t = 0) : Rch arcs (n + t) (n + m) := by
  have hN := M.len
  have hL : arcs.length - 1 = n + m := by omega
  have p1 := plc_le (arcs := arcs) (s := n + t)
  have p2 := plc_pos (arcs := arcs) (s := n + m) (by omega)
  unfold sPri at he
  rw [hL] at he
  have hz : qf prices t = 0 := by
    apply Decidable.byContradiction
    intro h
    have h2 : (arcs.length : Int) * 1 ≤ (arcs.length : Int) * qf prices t := Int.mul_le_mul_of_nonneg_left (by omega) (by omega)
    omega
  rw [hz, Int.mul_zero] at he
  exact plc_back (by omega) (Rch.refl.step (M.pr t ht hz)) (by omega)
section
variable {P : Program} {w : World} {K : Frg} {mg : Str → Option Value} {base : Heap}
theorem if_call {σ : L2.St} {H : Hp} {D : Ends} {t : TA} {vs : List V} {sp : Sp} {E : XK} {t1 t2 : TS} (ha : Pva t σ H vs) (h : ∀ H1, Same H H1 → ∀ Q : VK, (∀ b, RetG (.bl b) H1 Q) → sp vs H1 Q E) (q1 : ∀ H2, Same H H2 → t1 D σ H2) (q2 : ∀ H2, Same H H2 → t2 D σ H2) :
    tIfS (tNot (tB (tCall sp [] E t))) t1 t2 D σ H := ha H (Same.refl H) _ fun H1 e1 => by
  rw [List.append_nil]
  refine h H1 e1 _ fun b H2 e2 => ⟨b, rfl, ?_⟩
  cases b with
  | true => exact q2 H2 (e1.trans e2)
  | false => exact q1 H2 (e1.trans e2)
theorem if_and_call {σ : L2.St} {H : Hp} {D : Ends} {t : TA} {vs : List V} {sp : Sp} {E : XK} {t1 t2 : TS} {u : TT} {c : Bool} (hu : Pt u σ H c) (ha : Pva t σ H vs) (h : c = true → ∀ H1, Same H H1 → ∀ Q : VK, (∀ b, RetG (.bl b) H1 Q) → sp vs H1 Q E) (q1 : c = true → ∀ H2, Same H H2 → t1 D σ H2) (q2 : ∀ H2, Same H H2 → t2 D σ H2) :
    tIfS (tAnd u (tNot (tB (tCall sp [] E t)))) t1 t2 D σ H := hu H (Same.refl H) _ fun H0 e0 => by
  cases c with
  | false =>
    rw [if_neg (fun h => nomatch h)]
    exact q2 H0 e0
  | true =>
    rw [if_pos rfl]
    refine ha H0 e0 _ fun H1 e1 => ?_
    rw [List.append_nil]
    refine h rfl H1 (e0.trans e1) _ fun b H2 e2 => ⟨b, rfl, ?_⟩
    cases b with
    | true => exact q2 H2 (e0.trans (e1.trans e2))
    | false => exact q1 rfl H2 (e0.trans (e1.trans e2))
theorem cut_grow {H H1 : Hp} {p : Addr} {o : HO} (e : Same H H1) : Same (cut H [p]) (cut (upd H1 p o) [p]) := fun b u h => by
  by_cases z : b = p
  · rw [z, cut_none (by simp)] at h; cases h
  · rw [cut_at (by simpa using z)] at h ⊢
    rw [upd_ne z]
    exact e _ _ h
theorem mv_app {σ : L2.St} {D : Ends} {H : Hp} {t1 t2 : TE} {lp dd ap : Addr} {us ys : List V} {arcs : List (List Nat)} {one other n : Nat} (h8 : σ[8]? = some (some (.ref lp))) (h2 : σ[2]? = some (some (.ref dd))) (h4 : σ[4]? = some (some (.ref ap))) (p1 : Pv t1 σ H (vn one)) (p2 : Pv t2 σ H (vn other))
    (hl : H lp = some (.lst us)) (hul : us.length ≤ 1000) (hdd : SqL K H dd ys) (hys : ys.length = n) (hni : ∀ y ∈ ys, NI y) (hL : LLN K H (.ref ap) arcs) (hg : AGood arcs) (hN : arcs.length ≤ 1000) (ho : other < arcs.length) (hr : Rch arcs other one) (hdc : ∀ u ∈ us, DealV K (cut H [lp]) n u)
    (q : ∀ us' H', Same (cut H [lp]) (cut H' [lp]) → H' lp = some (.lst us') → us'.length ≤ us.length + 1 → (∀ u ∈ us', DealV K (cut H' [lp]) n u) → D.nx σ H') :
    tDrop (tBM K "list" rAppend (tVar 8) (tCons (tCall (spMoved K) [] E0 (tCons (tVar 2) (tCons (tVar 4) (tCons t1 (tCons t2 tNil))))) tNil)) D σ H := by
  refine ⟨_, h8, .inl ⟨rfl, us, SqL.of hl⟩, sr_1 (c_call (pva_cons (pv_var h2) (pva_3 (pv_var h4) p1 p2)) fun H1 e1 => ⟨dd, ap, ys, arcs, one, other, rfl, SqL.mn e1 hdd, hni, hL.mono (Le.of e1), hg, hN, ho, hr, fun p H2 zs hp e2 h2' hz hzn => ?_⟩)⟩
  have e02 := e1.trans e2
  have hpl : p ≠ lp := fun z => by rw [z, e1 _ _ hl] at hp; cases hp
  refine ⟨lp, us, .ref p, rfl, rfl, e02 _ _ hl, by rw [sizeLine_eq]; omega, q (us ++ [.ref p]) _ (cut_grow e02) upd_same (by rw [List.length_append, List.length_singleton]; omega) fun u hu => ?_⟩
  rcases List.mem_append.mp hu with hu | hu
  · exact (hdc u hu).mn (cut_grow e02)
  · exact ⟨p, zs, List.mem_singleton.mp hu, SqL.of (by rw [cut_at (by simpa using hpl), upd_ne hpl]; exact h2'), by rw [hz, hys], hzn⟩
def spWeb (K : Frg) : Sp := fun vs H Q _ => ∃ v x cs ls s, vs = [v, x] ∧ WS K H v cs ls ∧ WG cs ls ∧ AOk K H x s ∧ ∀ v' H', Same H H' → Q v' H'
theorem sc_web_of : FnScope N_web_of ["wishes", "aim"] (defScope s_web_of) := ⟨rfl, rfl, rfl, by decide +kernel, rfl, by decide +kernel, by decide +kernel⟩
theorem ok_web_of (G : Gx K mg) : Known P w K mg base CX0 12 "web_of" ["wishes", "aim"] (spWeb K) := by
  have sc := sc_web_of
  have k_best_dealing := ok_best_dealing (P := P) (w := w) (base := base) G
  have k_met_arcs := ok_met_arcs (P := P) (w := w) (base := base) G
  have k_strict_paper := ok_strict_paper (P := P) (w := w) (base := base) G
  have k_tight_wishes := ok_tight_wishes (P := P) (w := w) (base := base) G
  have k_has_dealt := ok_has_dealt (P := P) (w := w) (base := base) G
  have k_has_left := ok_has_left (P := P) (w := w) (base := base) G
  have k_moved_round := ok_moved_round (P := P) (w := w) (base := base) G
  refine G.f_web_of.known sc (fun _ _ _ _ _ _ us hl => match us, hl with | [_, _], _ => rfl) (fun vs H Q E h => ?_) (fun cdv A outer s H vs Q E hr h => ?_)
  · obtain ⟨v, x, cs, ls, s, rfl, _⟩ := h; rfl
  · obtain ⟨v, x, cs, ls, s, rfl, hW, W, hA, q⟩ := h
    refine ⟨_, (pss_cons (ps_asg (pe_kn k_best_dealing (hr.mono (by decide)) pass0 (pa_cons (pv 0) (pa_cons (pv 1) pa_nil))) (pg_tup rfl (pgs_cons (pg_name (i := 2) sc.nd rfl (Or.inl rfl)) (pgs_cons (pg_name (i := 3) sc.nd rfl (Or.inl rfl)) pgs_nil))))
      (pss_cons (ps_set (i := 4) sc.nd rfl (Or.inl rfl) (pe_kn k_met_arcs (hr.mono (by decide)) pass0 (pa_cons (pv 0) (pa_cons (pv 1) (pa_cons (pv 2) (pa_cons (pv 3) pa_nil))))))
      (pss_cons (ps_set (i := 5) sc.nd rfl (Or.inl rfl) (pe_kn k_strict_paper (hr.mono (by decide)) pass0 (pa_cons (pv 3) (pa_cons (pv 4) pa_nil))))
      (pss_cons (ps_set (i := 6) sc.nd rfl (Or.inl rfl) (pe_callB call_len_seq (by rfl) G.n_len (by decide +kernel) (pa_cons (pv 2) pa_nil)))
      (pss_cons (ps_set (i := 7) sc.nd rfl (Or.inl rfl) (pe_op op_sub (pe_callB call_len_seq (by rfl) G.n_len (by decide +kernel) (pa_cons (pv 4) pa_nil)) pe_int))
      (pss_cons (ps_set (i := 8) sc.nd rfl (Or.inl rfl) (pe_lst (pa_cons (pv 2) pa_nil)))
      (pss_cons (ps_for PassesOwn.never rfl (pi_list (pe_kn k_tight_wishes (hr.mono (by decide)) pass0 (pa_cons (pv 0) (pa_cons (pv 1) (pa_cons (pv 5) pa_nil))))) (pg_tup rfl (pgs_cons (pg_name (i := 9) sc.nd rfl (Or.inl rfl)) (pgs_cons (pg_name (i := 10) sc.nd rfl (Or.inl rfl)) pgs_nil)))
      (pss_one (ps_if (pt_not (pt_val (pe_kn k_has_dealt (hr.mono (by decide)) pass0 (pa_cons (pv 8) (pa_cons (pv 9) (pa_cons (pv 10) pa_nil))))))
      (pss_one (ps_expr (pe_bm PySem.F.plainAttrs_list PySem.F.slot_list_append PySem.F.type_list_append mt_append (pv 8) (pa_cons (pe_kn k_moved_round (hr.mono (by decide)) pass0 (pa_cons (pv 2) (pa_cons (pv 4) (pa_cons (pv 9) (pa_cons (pe_op op_add (pv 6) (pv 10)) pa_nil))))) pa_nil)))) pss_nil)))
      (pss_cons (ps_for PassesOwn.never rfl (pi_enum rfl G.n_enumerate (pa_cons (pe_ix ix_tup (pv 5) pe_int (fun _ _ => rfl)) pa_nil)) (pg_tup rfl (pgs_cons (pg_name (i := 9) sc.nd rfl (Or.inl rfl)) (pgs_cons (pg_name (i := 11) sc.nd rfl (Or.inl rfl)) pgs_nil)))
      (pss_one (ps_if (PW.pt (pw_and (pt_cmpR op_eq (pv 11) pe_int (nomark _)) (pw_and1 (pt_not (pt_val (pe_kn k_has_dealt (hr.mono (by decide)) pass0 (pa_cons (pv 8) (pa_cons (pv 9) (pa_cons pe_non pa_nil)))))))))
      (pss_one (ps_expr (pe_bm PySem.F.plainAttrs_list PySem.F.slot_list_append PySem.F.type_list_append mt_append (pv 8) (pa_cons (pe_kn k_moved_round (hr.mono (by decide)) pass0 (pa_cons (pv 2) (pa_cons (pv 4) (pa_cons (pv 9) (pa_cons (pv 7) pa_nil))))) pa_nil)))) pss_nil)))
      (pss_cons (ps_for PassesOwn.never rfl (pi_enum rfl G.n_enumerate (pa_cons (pe_ix ix_tup (pv 5) pe_int (fun _ _ => rfl)) pa_nil)) (pg_tup rfl (pgs_cons (pg_name (i := 10) sc.nd rfl (Or.inl rfl)) (pgs_cons (pg_name (i := 12) sc.nd rfl (Or.inl rfl)) pgs_nil)))
      (pss_one (ps_if (PW.pt (pw_and (pt_cmpR op_eq (pv 12) pe_int (nomark _)) (pw_and1 (pt_not (pt_val (pe_kn k_has_left (hr.mono (by decide)) pass0 (pa_cons (pv 0) (pa_cons (pv 8) (pa_cons (pv 10) pa_nil)))))))))
      (pss_one (ps_expr (pe_bm PySem.F.plainAttrs_list PySem.F.slot_list_append PySem.F.type_list_append mt_append (pv 8) (pa_cons (pe_kn k_moved_round (hr.mono (by decide)) pass0 (pa_cons (pv 2) (pa_cons (pv 4) (pa_cons (pv 7) (pa_cons (pe_op op_add (pv 6) (pv 10)) pa_nil))))) pa_nil)))) pss_nil)))
      (pss_one (ps_ret (pe_tup (pa_cons (pv 5) (pa_cons (pv 8) pa_nil)))))))))))))), ?_⟩
    have h7 := W.all
    refine st_seq (c_call (pva_2 (pv_var rfl) (pv_var rfl)) fun H1 e1 => ⟨v, x, cs, ls, s, rfl, hW.mono (Le.of e1), W, hA.mn e1, fun D asks prices hB tp dd pt ask pri H2 htp hdd hpt hap hqp e2 h2 h2d h2p h2a h2q => w_tg2 (SqT.of h2) ?_⟩)
    have e02 := e1.trans e2
    have hlD := hB.len
    have hla := hB.pap.la
    have hlp := hB.pap.lp
    have hDt : ∀ a t, dl D a = some t → t < cs.length := fun a t h => (wL_hw W (hB.pap.eq a t h)).2.2.2.2.2
    dsimp only
    refine st_seq (c_call (pva_cons (pv_var rfl) (pva_3 (pv_var rfl) (pv_var rfl) (pv_var rfl))) fun H3 e3 => ⟨v, x, cs, ls, s, dd, pt, ask, pri, D, asks, prices, rfl, hW.mono (Le.of (e02.trans e3)), W, hA.mn (e02.trans e3), SqL.of (e3 _ _ h2d), SqT.of (e3 _ _ h2p), SqL.of (e3 _ _ h2a), SqL.of (e3 _ _ h2q), hlD, by omega, hlp, hDt, fun ap H4 arcs hap4 e4 hL hM => ?_⟩)
    have e24 := e3.trans e4
    have hNl := hM.len
    have hg : AGood arcs := fun i y hy => by rw [hNl]; exact hM.lt i y hy
    dsimp only [gName]
    refine st_seq (c_call (pva_2 (pv_var rfl) (pv_var rfl)) fun H5 e5 => ⟨pt, ask, pri, ap, asks, prices, arcs, rfl, SqT.of ((e24.trans e5) _ _ h2p), SqL.of ((e24.trans e5) _ _ h2a), SqL.of ((e24.trans e5) _ _ h2q), hL.mono (Le.of e5), hg, by omega, by omega, fun st sa sp H6 hst hsa hsp e6 h6 h6a h6p => ?_⟩)
    have e26 := e24.trans (e5.trans e6)
    have e06 := e02.trans e26
    have hL6 := hL.mono (Le.of (e5.trans e6))
    obtain ⟨avs, havs, havl, _⟩ := lln_get hL6
    have hla' : asks.length = ls.length := by omega
    rw [hla'] at h6a h6p
    rw [hlp] at h6p
    dsimp only [gName]
    refine st_seq ?_
    refine ss_set (pv_len (n := ls.length) (pv_var rfl) (.inl (SqL.of (e26 _ _ h2d))) (by rw [List.length_map, hlD])) fun H7 e7 => ?_
    dsimp only
    refine st_seq ?_
    refine ss_set (v := vn (ls.length + cs.length)) (Pv.to (pv_sub (i := (arcs.length : Int)) (j := 1) (pv_len (n := arcs.length) (pv_var rfl) (.inl (SqL.mn e7 havs)) havl) pv_c) (by show V.int _ = V.int _; congr 1; omega)) fun H8 e8 => ?_
    have e68 := e7.trans e8
    dsimp only
    refine st_seq ?_
    refine sl_set (el_lst (pva_1 (pv_var rfl)) (by show 1 ≤ _; rw [sizeLine_eq]; decide)) fun lp H9 hlp9 e9 h9 => ?_
    have e69 := e68.trans e9
    have e09 := e06.trans e69
    have eB : Same H8 (cut H9 [lp]) := cut_of e9 (fun b hb => by rw [List.mem_singleton.mp hb]; exact hlp9)
    have eB6 : Same H6 (cut H9 [lp]) := e68.trans eB
    have eB0 : Same H (cut H9 [lp]) := e06.trans eB6
    have hdd6 := e26 _ _ h2d
    have c0 : ∀ u ∈ [V.ref dd], DealV K (cut H9 [lp]) ls.length u := fun u hu => ⟨dd, D.map vo, List.mem_singleton.mp hu, SqL.of (eB6 _ _ hdd6), by rw [List.length_map, hlD], ni_vo⟩
    have hA0 : ∀ a, 0 ≤ qf asks a := hB.pap.a0
    have hP0 : ∀ t, 0 ≤ qf prices t := hB.pap.p0
    dsimp only
    refine st_seq (f_open (c_call (pva_3 (pv_var rfl) (pv_var rfl) (pv_var rfl)) fun H10 e10 => ⟨v, x, cs, ls, s, st, sa, sp, (arcs.length : Int), sAsk arcs asks, sPri arcs ls.length prices, rfl, hW.mono (Le.of (e09.trans e10)), W, hA.mn (e09.trans e10), SqT.of ((e69.trans e10) _ _ h6), by omega, by omega, SqL.of ((e69.trans e10) _ _ h6a), SqL.of ((e69.trans e10) _ _ h6p), fun tl tus H11 htl e11 h11 htl42 htus => ⟨tl, rfl, ⟨_, SqL.of h11⟩, ?_⟩⟩))
    have e911 := e10.trans e11
    have htlp : tl ≠ lp := fun z => by rw [z, e10 _ _ h9] at htl; cases htl
    have eB11 : Same (cut H9 [lp]) (cut H11 [lp]) := cut_less e911
    -- the loop over the tight wishes
    refine for_list (fun j σ H' => ∃ y9 y10 us, σ = [some v, some x, some (.ref dd), some (.ref pt), some (.ref ap), some (.ref st), some (vn ls.length), some (vn (ls.length + cs.length)), some (.ref lp), y9, y10, none, none] ∧ Same (cut H11 [lp]) (cut H' [lp]) ∧ H' lp = some (.lst us) ∧ us.length ≤ 1 + j ∧ ∀ u ∈ us, DealV K (cut H' [lp]) ls.length u)
      ⟨_, _, [.ref dd], rfl, Same.refl _, e911 _ _ h9, Nat.le_refl _, fun u hu => (c0 u hu).mn eB11⟩ (fun j σ H' _ ⟨_, _, _, _, e, _⟩ => SqL.of (cut_same _ _ (e _ _ (by rw [cut_at (by simpa using htlp)]; exact h11)))) ?_ ?_
    · rintro j u σ H12 hj ⟨y9, y10, us, rfl, ec, h12, hul, hdv⟩
      obtain ⟨q0, a, t, y, rfl, hq0, hw, hsum⟩ := htus u (List.mem_of_getElem? hj)
      have hjl := (List.getElem?_eq_some_iff.mp hj).1
      have hq12 : H12 q0 = some (.tup [vn a, vn t]) := cut_same _ _ (ec _ _ (by rw [cut_at (by simpa using ne_of hq0 (e911 _ _ h9) (fun z => by cases z))]; exact hq0))
      refine w_tg2 (SqT.of hq12) ?_
      obtain ⟨hal, _, _, _, _, htl'⟩ := wL_hw W hw
      have hback := tight_back hM hal htl' hw (hB.pap.cov a (by omega) t y hw) hsum
      have eC : Same (cut H9 [lp]) H12 := (eB11.trans ec).trans cut_same
      refine if_call (pva_3 (pv_var rfl) (pv_var rfl) (pv_var rfl)) (fun H13 e13 Q' q' => ⟨lp, us, ls.length, a, vn t, rfl, SqL.of (e13 _ _ h12), by omega, fun u hu => ((hdv u hu).mn (cut_less e13)).mn cut_same, hal, .inr ⟨_, rfl⟩, q'⟩) (fun H14 e14 => ?_) fun H14 e14 => ?_
      · have ec14 : Same (cut H12 [lp]) (cut H14 [lp]) := cut_less e14
        have eC14 := eC.trans e14
        refine mv_app (n := ls.length) (other := ls.length + t) rfl rfl rfl (pv_var rfl) (Pv.to (pv_add (i := (ls.length : Int)) (j := (t : Int)) (pv_var rfl) (pv_var rfl)) vn_add) (e14 _ _ h12) (by omega) (SqL.of (eC14 _ _ (eB6 _ _ hdd6))) (by rw [List.length_map, hlD]) ni_vo ((hL6.mono (Le.of eB6)).mono (Le.of eC14)) hg (by omega) (by omega) hback (fun u hu => (hdv u hu).mn ec14) fun us' H' ec' h' hul' hdv' => ?_
        exact ⟨_, _, us', rfl, ec.trans (ec14.trans ec'), h', by omega, hdv'⟩
      · have ec14 : Same (cut H12 [lp]) (cut H14 [lp]) := cut_less e14
        exact ⟨_, _, us, rfl, ec.trans ec14, e14 _ _ h12, by omega, fun u hu => (hdv u hu).mn ec14⟩
    rintro σ H12 ⟨y9, y10, us, rfl, ec, h12, hul, hdv⟩
    have eC : Same (cut H9 [lp]) (cut H12 [lp]) := eB11.trans ec
    have eC' := eC.trans cut_same
    dsimp only
    refine st_seq ?_
    refine w_forE (a := sa) (xs := (List.range ls.length).map fun a => V.int (sAsk arcs asks a)) (fun Q q => vl_ixT (val_var rfl) val_c (SqT.of (eC' _ _ (eB6 _ _ h6))) rfl _ q) (SqL.of (eC' _ _ (eB6 _ _ h6a))) (fun j σ H' => ∃ y9 y10 y11 us, σ = [some v, some x, some (.ref dd), some (.ref pt), some (.ref ap), some (.ref st), some (vn ls.length), some (vn (ls.length + cs.length)), some (.ref lp), y9, y10, y11, none] ∧ Same (cut H9 [lp]) (cut H' [lp]) ∧ H' lp = some (.lst us) ∧ us.length ≤ 43 + j ∧ ∀ u ∈ us, DealV K (cut H' [lp]) ls.length u)
      ⟨_, _, _, us, rfl, eC, h12, by omega, hdv⟩ (fun j σ H' _ ⟨_, _, _, _, _, e, _⟩ => SqL.of (cut_same _ _ (e _ _ (eB6 _ _ h6a)))) ?_ ?_
    · rintro j u σ H13 H14 hj ⟨z9, z10, z11, us2, rfl, ec2, h13, hul2, hdv2⟩ e14
      have hjl : j < ls.length := by have := (List.getElem?_eq_some_iff.mp hj).1; rwa [List.length_map, List.length_range] at this
      rw [fr_get hjl] at hj
      cases hj
      have ec14 : Same (cut H13 [lp]) (cut H14 [lp]) := cut_less e14
      refine if_and_call (c := decide (sAsk arcs asks j = 0)) (pt_t (pv_eq (pv_var rfl) pv_c rfl dec_i)) (pva_3 (pv_var rfl) (pv_var rfl) pv_c) (fun hz H16 e16 Q' q' => ⟨lp, us2, ls.length, j, .non, rfl, SqL.of ((e14.trans e16) _ _ h13), by omega, fun u hu => ((hdv2 u hu).mn (cut_less (e14.trans e16))).mn cut_same, hjl, .inl rfl, q'⟩) (fun hz H17 e17 => ?_) fun H17 e17 => ?_
      · have e1317 := e14.trans e17
        have ec17 : Same (cut H13 [lp]) (cut H17 [lp]) := cut_less e1317
        have eC17 := (ec2.trans cut_same).trans e1317
        refine mv_app (n := ls.length) (other := ls.length + cs.length) rfl rfl rfl (pv_var rfl) (pv_var rfl) (e1317 _ _ h13) (by omega) (SqL.of (eC17 _ _ (eB6 _ _ hdd6))) (by rw [List.length_map, hlD]) ni_vo ((hL6.mono (Le.of eB6)).mono (Le.of eC17)) hg (by omega) (by omega) (ask_back hM hjl (hA0 j) (of_decide_eq_true hz)) (fun u hu => (hdv2 u hu).mn ec17) fun us' H' ec' h' hul' hdv' => ?_
        exact ⟨_, _, _, us', rfl, ec2.trans (ec17.trans ec'), h', by omega, hdv'⟩
      · have e1317 := e14.trans e17
        have ec17 : Same (cut H13 [lp]) (cut H17 [lp]) := cut_less e1317
        exact ⟨_, _, _, us2, rfl, ec2.trans ec17, e1317 _ _ h13, by omega, fun u hu => (hdv2 u hu).mn ec17⟩
    rintro σ H13 ⟨z9, z10, z11, us2, rfl, ec2, h13, hul2, hdv2⟩
    rw [List.length_map, List.length_range] at hul2
    have eD := ec2.trans cut_same
    dsimp only
    refine st_seq ?_
    refine w_forE (a := sp) (xs := (List.range cs.length).map fun t => V.int (sPri arcs ls.length prices t)) (fun Q q => vl_ixT (val_var rfl) val_c (SqT.of (eD _ _ (eB6 _ _ h6))) rfl _ q) (SqL.of (eD _ _ (eB6 _ _ h6p))) (fun j σ H' => ∃ y9 y10 y11 y12 us, σ = [some v, some x, some (.ref dd), some (.ref pt), some (.ref ap), some (.ref st), some (vn ls.length), some (vn (ls.length + cs.length)), some (.ref lp), y9, y10, y11, y12] ∧ Same (cut H9 [lp]) (cut H' [lp]) ∧ H' lp = some (.lst us) ∧ us.length ≤ 50 + j ∧ ∀ u ∈ us, DealV K (cut H' [lp]) ls.length u)
      ⟨_, _, _, _, us2, rfl, ec2, h13, by omega, hdv2⟩ (fun j σ H' _ ⟨_, _, _, _, _, _, e, _⟩ => SqL.of (cut_same _ _ (e _ _ (eB6 _ _ h6p)))) ?_ ?_
    · rintro j u σ H14 H15 hj ⟨w9, w10, w11, w12, us3, rfl, ec3, h14, hul3, hdv3⟩ e15
      have hjl : j < cs.length := by have := (List.getElem?_eq_some_iff.mp hj).1; rwa [List.length_map, List.length_range] at this
      rw [fr_get hjl] at hj
      cases hj
      refine if_and_call (c := decide (sPri arcs ls.length prices j = 0)) (pt_t (pv_eq (pv_var rfl) pv_c rfl dec_i)) (pva_3 (pv_var rfl) (pv_var rfl) (pv_var rfl)) (fun hz H17 e17 Q' q' => ?_) (fun hz H18 e18 => ?_) fun H18 e18 => ?_
      · have e1417 := e15.trans e17
        have eW : Same H H17 := ((eB0.trans ec3).trans cut_same).trans e1417
        exact ⟨v, cs, ls, lp, us3, ls.length, j, rfl, hW.mono (Le.of eW), W, SqL.of (e1417 _ _ h14), by omega, fun u hu => ((hdv3 u hu).mn (cut_less e1417)).mn cut_same, hjl, q'⟩
      · have e1418 := e15.trans e18
        have ec18 : Same (cut H14 [lp]) (cut H18 [lp]) := cut_less e1418
        have eC18 := (ec3.trans cut_same).trans e1418
        refine mv_app (n := ls.length) (one := ls.length + cs.length) (other := ls.length + j) rfl rfl rfl (pv_var rfl) (Pv.to (pv_add (i := (ls.length : Int)) (j := (j : Int)) (pv_var rfl) (pv_var rfl)) vn_add) (e1418 _ _ h14) (by omega) (SqL.of (eC18 _ _ (eB6 _ _ hdd6))) (by rw [List.length_map, hlD]) ni_vo ((hL6.mono (Le.of eB6)).mono (Le.of eC18)) hg (by omega) (by omega) (pri_back hM hjl (hP0 j) (of_decide_eq_true hz)) (fun u hu => (hdv3 u hu).mn ec18) fun us' H' ec' h' hul' hdv' => ?_
        exact ⟨_, _, _, _, us', rfl, ec3.trans (ec18.trans ec'), h', by omega, hdv'⟩
      · have e1418 := e15.trans e18
        have ec18 : Same (cut H14 [lp]) (cut H18 [lp]) := cut_less e1418
        exact ⟨_, _, _, _, us3, rfl, ec3.trans ec18, e1418 _ _ h14, by omega, fun u hu => (hdv3 u hu).mn ec18⟩
    rintro σ H14 ⟨w9, w10, w11, w12, us3, rfl, ec3, h14, hul3, hdv3⟩
    dsimp only
    refine Wd.st_rett (et_tup (vs := [.ref st, .ref lp]) (pva_2 (pv_var rfl) (pv_var rfl)) (by show 2 ≤ _; decide)) fun tp2 H15 _ e15 _ => ?_
    exact q _ H15 (((eB0.trans ec3).trans cut_same).trans e15)
end
end Wd
set_option Elab.async false
set_option linter.all false
set_option maxRecDepth 100000
set_option maxHeartbeats 4000000
/-! the law's own: ranks, counts, worths -/
namespace Wd
open PySem PySem.Spec PyProof.Rows L2
section
variable {P : Program} {w : World} {K : Frg} {mg : Str → Option Value} {base : Heap}
theorem sc_law_is_whole : FnScope N_law_is_whole ["_law_thing"] (defScope s_law_is_whole) := ⟨rfl, rfl, rfl, by decide +kernel, rfl, by decide +kernel, by decide +kernel⟩
theorem ok_law_is_whole (G : Gx K mg) : Known P w K mg base CX0 1 "_law_is_whole" ["_law_thing"] spWhole := by
  have sc := sc_law_is_whole
  refine G.f_law_is_whole.known sc (fun _ _ _ _ _ _ us hl => match us, hl with | [_], _ => rfl) (fun vs H Q E h => ?_) (fun cdv A outer s H vs Q E hr h => ?_)
  · obtain ⟨i, rfl, _⟩ := h; rfl
  · obtain ⟨i, rfl, q⟩ := h
    refine ⟨_, (pss_one (ps_ret (pe_and (pe_callB call_isi (by rfl) G.n_isinstance (by decide +kernel) (pa_cons (pv 0) (pa_cons (pe_bltn (by rfl) G.n_int (by decide +kernel) (v := .ty "int") rfl) pa_nil))) (pe_one (pe_not (pe_callB call_isi (by rfl) G.n_isinstance (by decide +kernel) (pa_cons (pv 0) (pa_cons (pe_bltn (by rfl) G.n_bool (by decide +kernel) (v := .ty "bool") rfl) pa_nil)))))))), ?_⟩
    refine ⟨_, rfl, _, _, _, _, true, rfl, .ty _, tyx_i, kit_ty (by decide +kernel), true, rfl, ?_⟩
    refine iteT ⟨_, rfl, _, _, _, _, false, rfl, .ty _, tyx_i, kit_ty (by decide +kernel), false, rfl, q⟩
/-! _law_cell_at -/
def spCell (K : Frg) : Sp := fun vs H Q _ => ∃ (a : Addr) (ns : List Int) (k : Nat), vs = [.ref a, vn k] ∧ SqL K H a (ns.map V.int) ∧ RetG (.int (ns[k]?.getD 0)) H Q
theorem sc_law_cell_at : FnScope N_law_cell_at ["_law_script", "_law_k"] (defScope s_law_cell_at) := ⟨rfl, rfl, rfl, by decide +kernel, rfl, by decide +kernel, by decide +kernel⟩
theorem ok_law_cell_at (G : Gx K mg) : Known P w K mg base CX0 1 "_law_cell_at" ["_law_script", "_law_k"] (spCell K) := by
  have sc := sc_law_cell_at
  refine G.f_law_cell_at.known sc (fun _ _ _ _ _ _ us hl => match us, hl with | [_, _], _ => rfl) (fun vs H Q E h => ?_) (fun cdv A outer s H vs Q E hr h => ?_)
  · obtain ⟨a, ns, k, rfl, _⟩ := h; rfl
  · obtain ⟨a, ns, k, rfl, ha, q⟩ := h
    refine ⟨_, (pss_cons (ps_if (pt_cmpR op_lt (pv 1) (pe_callB call_len_seq (by rfl) G.n_len (by decide +kernel) (pa_cons (pv 0) pa_nil)) (nomark _))
      (pss_one (ps_ret (pe_ix ix_list (pv 0) (pv 1) (fun _ _ => rfl)))) pss_nil)
      (pss_one (ps_ret pe_int))), ?_⟩
    refine ss_if (b := decide (k < ns.length)) (pt_t (pv_cmp (pv_var rfl) (pv_len (n := ns.length) (pv_var rfl) (.inl ha) (by rw [List.length_map])) (decide_eq_decide.mpr (by omega)))) (fun H1 e1 hb => ?_) fun H1 e1 hb => ?_
    · have hk := of_decide_eq_true hb
      have hg : ns[k]? = some ns[k] := List.getElem?_eq_getElem hk
      rw [hg] at q
      exact ss_ret (pv_ixL (pv_var rfl) (pv_var rfl) (SqL.mn e1 ha) (atI_nat (by rw [List.getElem?_map, hg]; rfl))) (q.mn e1)
    · have hk := of_decide_eq_false hb
      rw [List.getElem?_eq_none (by omega)] at q
      refine st_next ?_
      dsimp only
      exact ss_ret pv_c (q.mn e1)
/-! _law_rank -/
def spLRank (K : Frg) : Sp := fun vs H Q _ => ∃ v cs ls a t, vs = [v, vn a, vn t] ∧ WS K H v cs ls ∧ a < ls.length ∧ RetG (vn (rankIn (ls[a]?.getD []) t)) H Q
theorem sc_law_rank : FnScope N_law_rank ["_law_wishes_here", "_law_asker", "_law_thing"] (defScope s_law_rank) := ⟨rfl, rfl, rfl, by decide +kernel, rfl, by decide +kernel, by decide +kernel⟩
theorem ws_row {H : Hp} {v : V} {cs : List Nat} {ls : List (List (List Nat))} (h : WS K H v cs ls) {a : Nat} (ha : a < ls.length) : ∃ p va b us r, v = .ref p ∧ SqT K H p [va, .ref b] ∧ SqL K H b us ∧ us[a]? = some (V.ref r) ∧ LLN K H (.ref r) (ls[a]?.getD []) := by
  obtain ⟨p, va, vb, rfl, hT, hc, b, us, rfl, hb, hp⟩ := h
  have hr : ls[a]? = some ls[a] := List.getElem?_eq_getElem ha
  have hu : us[a]? = some (us[a]'(by rw [hp.length]; exact ha)) := List.getElem?_eq_getElem _
  obtain ⟨rs, h1, hL⟩ := paired_get hp hu
  rw [hr] at h1
  cases h1
  obtain ⟨r, vs, e, h2⟩ := id hL
  refine ⟨p, va, b, us, r, rfl, hT, hb, by rw [hu, e], ?_⟩
  rw [hr, ← e]
  exact hL
theorem ok_law_rank (G : Gx K mg) : Known P w K mg base CX0 1 "_law_rank" ["_law_wishes_here", "_law_asker", "_law_thing"] (spLRank K) := by
  have sc := sc_law_rank
  refine G.f_law_rank.known sc (fun _ _ _ _ _ _ us hl => match us, hl with | [_, _, _], _ => rfl) (fun vs H Q E h => ?_) (fun cdv A outer s H vs Q E hr h => ?_)
  · obtain ⟨v, cs, ls, a, t, rfl, _⟩ := h; rfl
  · obtain ⟨v, cs, ls, a, t, rfl, hW, ha, q⟩ := h
    refine ⟨_, (pss_cons (ps_for PassesOwn.never rfl (pi_enum rfl G.n_enumerate (pa_cons (pe_ix ix_list (pe_ix ix_tup (pv 0) pe_int (fun _ _ => rfl)) (pv 1) (fun _ _ => rfl)) pa_nil)) (pg_tup rfl (pgs_cons (pg_name (i := 3) sc.nd rfl (Or.inl rfl)) (pgs_cons (pg_name (i := 4) sc.nd rfl (Or.inl rfl)) pgs_nil)))
      (pss_one (ps_if (pt_cmpR op_in_seq (pv 2) (pv 4) rfl)
      (pss_one (ps_ret (pe_op op_add (pv 3) pe_int))) pss_nil)))
      (pss_one (ps_ret pe_int))), ?_⟩
    obtain ⟨p, va, b, us, r, rfl, hT, hb, hu, rr, us2, e, hL, hp⟩ := ws_row hW ha
    cases e
    generalize ls[a]?.getD [] = rs at *
    refine st_seq ?_
    refine w_forE (fun Q q => vl_ixL (vl_ixT (val_var rfl) val_c hT rfl) (val_var rfl) hb (atI_nat hu) _ q) hL (fun k σ H' => ∃ x y, σ = [some (.ref p), some (vn a), some (vn t), x, y] ∧ Same H H' ∧ ∀ j, j < k → ∀ r', rs[j]? = some r' → t ∉ r') ⟨_, _, rfl, Same.refl _, fun j hj => absurd hj (Nat.not_lt_zero _)⟩ (fun i σ H' _ ⟨_, _, _, e, _⟩ => SqL.mn e hL) ?_ ?_
    · rintro k x σ H1 H2 hk ⟨y1, y2, rfl, e1, hn⟩ e2
      obtain ⟨r', hr', ⟨b', rfl, hb'⟩⟩ := paired_get hp hk
      refine ss_if (b := decide (t ∈ r')) (pt_t (pv_in (neg := false) (pv_var rfl) (pv_var rfl) (SqL.mn (e1.trans e2) hb') rfl (flat_n _) (inV_n _ _))) (fun H3 e3 hb => ?_) fun H3 e3 hb => ?_
      · have e := rankIn_at hn hr' (of_decide_eq_true hb)
        have q' : RetG (.int ((k : Int) + 1)) H Q := by
          rw [e] at q
          exact q
        exact ss_ret (pv_add (i := (k : Int)) (j := 1) (pv_var rfl) pv_c) (q'.mn (e1.trans (e2.trans e3)))
      · refine ⟨_, _, rfl, e1.trans (e2.trans e3), fun j hj r2 hr2 => ?_⟩
        by_cases ej : j = k
        · subst ej
          rw [hr'] at hr2
          cases hr2
          exact of_decide_eq_false hb
        · exact hn j (by omega) r2 hr2
    · rintro σ H1 ⟨y1, y2, rfl, e1, hn⟩
      have e : rankIn rs t = 0 := rankIn_no fun r hr => by
        obtain ⟨j, hj⟩ := List.mem_iff_getElem?.mp hr
        exact hn j (by have := (List.getElem?_eq_some_iff.mp hj).1; have := hp.length; omega) r hj
      rw [e] at q
      dsimp only
      exact ss_ret pv_c (q.mn e1)
/-! _law_longest -/
def spLLong (K : Frg) : Sp := fun vs H Q _ => ∃ v cs ls, vs = [v] ∧ WS K H v cs ls ∧ ls ≠ [] ∧ ls.length ≤ 1000 ∧ RetG (vn (lng ls)) H Q
theorem sc_law_longest : FnScope N_law_longest ["_law_wishes_here"] (defScope s_law_longest) := ⟨rfl, rfl, rfl, by decide +kernel, rfl, by decide +kernel, by decide +kernel⟩
theorem ok_law_longest (G : Gx K mg) : Known P w K mg base CX0 1 "_law_longest" ["_law_wishes_here"] (spLLong K) := by
  have sc := sc_law_longest
  refine G.f_law_longest.known sc (fun _ _ _ _ _ _ us hl => match us, hl with | [_], _ => rfl) (fun vs H Q E h => ?_) (fun cdv A outer s H vs Q E hr h => ?_)
  · obtain ⟨v, cs, ls, rfl, _⟩ := h; rfl
  · obtain ⟨v, cs, ls, rfl, hW, hne, hz, q⟩ := h
    refine ⟨_, (pss_one (ps_ret (pe_callB (cr_max rfl) (by rfl) G.n_max (by decide +kernel) (pa_cons (pe_lc (own := [("_law_ranks", 1)]) rfl sc.nd (pi_list (pe_ix ix_tup (pv 0) pe_int (fun _ _ => rfl))) (blkOk_by (by rfl)) (fun _ _ _ _ _ => (pg_name (i := 1) sc.nd rfl (Or.inl rfl))) (fun _ _ _ _ _ => pts_nil) (fun _ _ _ _ _ => (pe_callB (call_lenK (K := K)) (by rfl) G.n_len (by decide +kernel) (pa_cons (pv 1) pa_nil)))) pa_nil)))), ?_⟩
    obtain ⟨p, va, vb, rfl, hT, hc, b, us, rfl, hb, hp⟩ := hW
    refine sr_cb (sr_1 ?_)
    refine c_lcL (xs := us) (fun i => vn (ls[i]?.getD []).length) (vl_ixT (val_var rfl) val_c hT rfl) hb (by rw [hp.length]; omega) (by intro x; rfl) (fun i x hx => ?_) fun D H2 hD e2 hd => ?_
    · obtain ⟨rs, hrs, ⟨c, vs, rfl, hc, hpc⟩⟩ := paired_get hp hx
      exact pv_len (pv_var rfl) (.inl hc) (by rw [hpc.length, hrs]; rfl)
    · have el : (List.range us.length).map (fun i => vn (ls[i]?.getD []).length) = (ls.map fun r => (r.length : Int)).map V.int := by
        rw [hp.length, List.map_map]
        refine range_map (by rw [List.length_map]) fun i x hx => ?_
        rw [List.getElem?_map] at hx
        cases h : ls[i]? with
        | none => rw [h] at hx; cases hx
        | some r => rw [h] at hx; cases hx; rfl
      rw [el] at hd
      refine ⟨D, _, rfl, SqL.of hd, by rw [List.length_map]; exact List.length_pos_iff.mpr hne, fun m hm hall => ?_⟩
      obtain ⟨r, hr, er⟩ := lng_at hne
      obtain ⟨r2, hr2, e2'⟩ := List.mem_map.mp hm
      have h1 := hall _ (List.mem_map.mpr ⟨r, hr, rfl⟩)
      have h2 := lng_mem hr2
      have hm' : m = ((lng ls : Nat) : Int) := by omega
      subst hm'
      exact q _ e2
theorem WG.ne {cs : List Nat} {ls : List (List (List Nat))} (W : WG cs ls) : ls ≠ [] ∧ ls.length ≤ 1000 := by
  have := W.all.2.2.1
  exact ⟨fun z => by rw [z] at this; simp at this, by omega⟩
/-! _law_counts -/
theorem sc_law_counts : FnScope N_law_counts ["_law_wishes_here", "_law_dealing"] (defScope s_law_counts) := ⟨rfl, rfl, rfl, by decide +kernel, rfl, by decide +kernel, by decide +kernel⟩
theorem ok_law_counts (G : Gx K mg) : Known P w K mg base CX0 2 "_law_counts" ["_law_wishes_here", "_law_dealing"] (spCnt K) := by
  have sc := sc_law_counts
  have k_law_longest := ok_law_longest (P := P) (w := w) (base := base) G
  have k_law_rank := ok_law_rank (P := P) (w := w) (base := base) G
  refine G.f_law_counts.known sc (fun _ _ _ _ _ _ us hl => match us, hl with | [_, _], _ => rfl) (fun vs H Q E h => ?_) (fun cdv A outer s H vs Q E hr h => ?_)
  · obtain ⟨v, cs, ls, da, d, rfl, _⟩ := h; rfl
  · obtain ⟨v, cs, ls, da, d, rfl, hW, W, hd, hP, q⟩ := h
    refine ⟨_, (pss_cons (ps_set (i := 2) sc.nd rfl (Or.inl rfl) (pe_op op_rep (pe_lst (pa_cons pe_int pa_nil)) (pe_op op_add (pe_kn k_law_longest (hr.mono (by decide)) pass0 (pa_cons (pv 0) pa_nil)) pe_int)))
      (pss_cons (ps_for PassesOwn.never rfl (pi_enum rfl G.n_enumerate (pa_cons (pv 1) pa_nil)) (pg_tup rfl (pgs_cons (pg_name (i := 3) sc.nd rfl (Or.inl rfl)) (pgs_cons (pg_name (i := 4) sc.nd rfl (Or.inl rfl)) pgs_nil)))
      (pss_one (ps_if (pt_cmpR op_isN (pv 4) pe_non (nomark _))
      (pss_one (ps_augS (pv 2) (pe_un un_neg pe_int) get_list pe_int ip_add set_list)) (pss_one (ps_augS (pv 2) (pe_op op_sub (pe_kn k_law_rank (hr.mono (by decide)) pass0 (pa_cons (pv 0) (pa_cons (pv 3) (pa_cons (pv 4) pa_nil)))) pe_int) get_list pe_int ip_add set_list)))))
      (pss_one (ps_ret (pv 2))))), ?_⟩
    refine ⟨by decide, fun p0 hp0 => ?_⟩
    have e0 : Same H (upd H p0 (.lst [.int 0])) := same_new hp0
    refine (pv_add (i := ((lng ls : Nat) : Int)) (j := 1) (pv_call (v := vn (lng ls)) (pva_1 (pv_var rfl)) fun H1 e Q q => ⟨v, cs, ls, rfl, hW.mono (Le.of (e0.trans e)), W.ne.1, W.ne.2, q⟩) pv_c).run fun H1 e1 => ?_
    have h5 := W.lng5
    refine ⟨p0, _, _, rfl, rfl, e1 _ _ upd_same, by omega, by omega, by have := sizeLine_eq; simp only [List.length_singleton]; omega, fun p hp => ?_⟩
    have e01 : Same H (upd H1 p (.lst (List.replicate (((lng ls : Nat) : Int) + 1).toNat [V.int 0]).flatten)) := e0.trans (e1.trans (same_new hp))
    have ez : (List.replicate (((lng ls : Nat) : Int) + 1).toNat [V.int 0]).flatten = cntL (lng ls) [] := by
      unfold cntL
      refine (range_map ?_ fun i x hx => ?_).symm
      · simp
      · have : (((lng ls : Nat) : Int) + 1).toNat = lng ls + 1 := by omega
        rw [this] at hx
        have hm := List.mem_of_getElem? hx
        rw [List.mem_flatten] at hm
        obtain ⟨l, hl, hx2⟩ := hm
        rw [(List.mem_replicate.mp hl).2, List.mem_singleton] at hx2
        rw [hx2]; rfl
    rw [ez] at e01 ⊢
    have hp' : H p = none := (e0.trans e1).free hp
    dsimp only
    refine st_seq ?_
    refine w_forE (fun Q q => ⟨_, rfl, q⟩) (SqL.mn e01 hd) (fun k σ H' => ∃ x y, σ = [some v, some (.ref da), some (.ref p), x, y] ∧ Same H H' ∧ H' p = some (.lst (cntL (lng ls) ((List.range k).map fun i => slotOf (lng ls) (ls[i]?.getD []) (d[i]?.getD none))))) ⟨_, _, rfl, e01, upd_same⟩ (fun i σ H' _ ⟨_, _, _, e, _⟩ => SqL.mn e hd) ?_ ?_
    · rintro k x σ H4 H5 hk ⟨y1, y2, rfl, e4, h4⟩ e5
      rw [List.getElem?_map] at hk
      cases hk' : d[k]? with
      | none => rw [hk'] at hk; cases hk
      | some dk =>
      rw [hk'] at hk
      cases hk
      have e05 := e4.trans e5
      have hls : k < ls.length := by have := (List.getElem?_eq_some_iff.mp hk').1; have := hP.1; omega
      have hrs : ls[k]? = some ls[k] := List.getElem?_eq_getElem hls
      have hrm := List.mem_of_getElem? hrs
      have hLe := lng_mem hrm
      cases dk with
      | none =>
        refine ss_if (b := true) (pt_t (pv_isN (pv_var rfl) rfl)) (fun H6 e6 _ => ?_) fun H6 e6 hb => nomatch hb
        have h6 := (e5.trans e6) _ _ h4
        refine ss_inc (n := _) (j := lng ls) (pv_var rfl) (pv_neg pv_c) pv_c h6 (atI_neg1 cnt_len (cnt_get (Nat.le_refl _))) (by rw [cnt_len]; exact ixN_neg1) fun H7 e7 => ⟨_, _, rfl, same_mut (e05.trans (e6.trans e7)) hp', ?_⟩
        rw [upd_same, slots_succ, hk']
        exact congrArg some (congrArg HO.lst cnt_set)
      | some t =>
        refine ss_if (b := false) (pt_t (pv_isN (pv_var rfl) rfl)) (fun H6 e6 hb => nomatch hb) fun H6 e6 _ => ?_
        have h6 := (e5.trans e6) _ _ h4
        have ht : t ∈ ls[k].flatten := hP.2 k t _ hk' hrs
        have r1 := rankIn_pos ht
        have r2 := rankIn_le (t := t) (rs := ls[k])
        have hg : ls[k]?.getD [] = ls[k] := by rw [hrs]; rfl
        have esl : slotOf (lng ls) (ls[k]?.getD []) (d[k]?.getD none) = rankIn ls[k] t - 1 := by rw [hk', hrs]; rfl
        have hi : ((rankIn ls[k] t : Nat) : Int) - 1 = ((rankIn ls[k] t - 1 : Nat) : Int) := by omega
        refine ss_inc (n := _) (j := rankIn ls[k] t - 1) (pv_var rfl) (pv_sub (i := ((rankIn ls[k] t : Nat) : Int)) (j := 1) (pv_call (v := vn (rankIn ls[k] t)) (pva_3 (pv_var rfl) (pv_var rfl) (pv_var rfl)) fun H1 e Q q => ⟨v, cs, ls, k, t, rfl, hW.mono (Le.of (e05.trans (e6.trans e))), hls, by rw [hg]; exact q⟩) pv_c) pv_c h6 (by rw [hi]; exact atI_nat (cnt_get (by omega))) (by rw [hi, cnt_len]; exact ixN_nat (by omega)) fun H7 e7 => ⟨_, _, rfl, same_mut (e05.trans (e6.trans e7)) hp', ?_⟩
        rw [upd_same, slots_succ, esl]
        exact congrArg some (congrArg HO.lst cnt_set)
    · rintro σ H4 ⟨y1, y2, rfl, e4, h4⟩
      rw [List.length_map] at h4
      exact ⟨_, rfl, q p H4 hp' e4 h4⟩
theorem if_int {σ : L2.St} {H : Hp} {D : Ends} {u : TT} {te : TE} {i : Nat} {b : Bool} {z0 z1 : Int} (hc : Pt u σ H b) (h0 : σ.set i (some (.int z0)) = σ) (hv : b = true → ∀ H1, Same H H1 → Pv te σ H1 (.int z1)) (q : ∀ H1, Same H H1 → D.nx (σ.set i (some (.int (if b = true then z1 else z0)))) H1) : tIfS u (tAsg te (gName i)) tNext D σ H :=
  ss_if hc (fun H1 e1 hb => ss_set (hv hb H1 e1) fun H2 e2 => by have := q H2 (e1.trans e2); rw [if_pos hb] at this; exact this) fun H1 e1 hb => by
    have := q H1 e1
    rw [if_neg (by rw [hb]; decide), h0] at this
    exact this
/-! _law_worth -/
def spLWorth (K : Frg) : Sp := fun vs H Q _ => ∃ v x cs ls s a t, vs = [v, x, vn a, vn t] ∧ WS K H v cs ls ∧ WG cs ls ∧ AOk K H x s ∧ a < ls.length ∧ t ∈ (ls[a]?.getD []).flatten ∧ RetG (.int (wth s ls a t)) H Q
theorem sc_law_worth : FnScope N_law_worth ["_law_wishes_here", "_law_aim", "_law_asker", "_law_thing"] (defScope s_law_worth) := ⟨rfl, rfl, rfl, by decide +kernel, rfl, by decide +kernel, by decide +kernel⟩
theorem ok_law_worth (G : Gx K mg) : Known P w K mg base CX0 2 "_law_worth" ["_law_wishes_here", "_law_aim", "_law_asker", "_law_thing"] (spLWorth K) := by
  have sc := sc_law_worth
  have k_law_longest := ok_law_longest (P := P) (w := w) (base := base) G
  have k_law_rank := ok_law_rank (P := P) (w := w) (base := base) G
  refine G.f_law_worth.known sc (fun _ _ _ _ _ _ us hl => match us, hl with | [_, _, _, _], _ => rfl) (fun vs H Q E h => ?_) (fun cdv A outer s H vs Q E hr h => ?_)
  · obtain ⟨v, x, cs, ls, s, a, t, rfl, _⟩ := h; rfl
  · obtain ⟨v, x, cs, ls, s, a, t, rfl, hW, W, ⟨xa, tb, rfl, hx, hs, htb⟩, ha, ht, q⟩ := h
    refine ⟨_, (pss_cons (ps_asg (pv 1) (pg_tup rfl (pgs_cons (pg_name (i := 4) sc.nd rfl (Or.inl rfl)) (pgs_cons (pg_name (i := 5) sc.nd rfl (Or.inl rfl)) (pgs_cons (pg_name (i := 6) sc.nd rfl (Or.inl rfl)) pgs_nil)))))
      (pss_cons (ps_set (i := 7) sc.nd rfl (Or.inl rfl) (pe_op op_add (pe_callB call_len_seq (by rfl) G.n_len (by decide +kernel) (pa_cons (pe_ix ix_tup (pv 0) pe_int (fun _ _ => rfl)) pa_nil)) pe_int))
      (pss_cons (ps_set (i := 8) sc.nd rfl (Or.inl rfl) (pe_kn k_law_longest (hr.mono (by decide)) pass0 (pa_cons (pv 0) pa_nil)))
      (pss_cons (ps_set (i := 9) sc.nd rfl (Or.inl rfl) (pe_kn k_law_rank (hr.mono (by decide)) pass0 (pa_cons (pv 0) (pa_cons (pv 2) (pa_cons (pv 3) pa_nil)))))
      (pss_cons (ps_set (i := 10) sc.nd rfl (Or.inl rfl) (pe_lst (pa_cons pe_int pa_nil)))
      (pss_cons (ps_for PassesOwn.never rfl (pi_range1 rfl G.n_range (pa_cons (pv 8) pa_nil)) (pg_name (i := 11) sc.nd rfl (Or.inl rfl))
      (pss_one (ps_expr (pe_bm PySem.F.plainAttrs_list PySem.F.slot_list_append PySem.F.type_list_append mt_append (pv 10) (pa_cons (pe_op op_mul (pe_ix ix_list (pv 10) (pe_un un_neg pe_int) (fun _ _ => rfl)) (pv 7)) pa_nil)))))
      (pss_cons (ps_set (i := 12) sc.nd rfl (Or.inl rfl) (pe_ix ix_list (pv 10) (pe_op op_sub (pv 8) (pv 9)) (fun _ _ => rfl)))
      (pss_cons (ps_if (pt_cmpR op_eq (pv 4) pe_str (nomark _))
      (pss_one (ps_set (i := 12) sc.nd rfl (Or.inl rfl) (pe_op op_add (pv 12) (pe_ix ix_list (pv 10) (pv 8) (fun _ _ => rfl))))) pss_nil)
      (pss_cons (ps_if (pt_cmpR op_eq (pv 4) pe_str (nomark _))
      (pss_one (ps_set (i := 12) sc.nd rfl (Or.inl rfl) (pe_op op_sub (pe_ix ix_list (pv 10) (pv 8) (fun _ _ => rfl)) (pe_ix ix_list (pv 10) (pe_op op_sub (pv 9) pe_int) (fun _ _ => rfl))))) pss_nil)
      (pss_cons (ps_set (i := 12) sc.nd rfl (Or.inl rfl) (pe_op op_mul (pv 12) (pv 7)))
      (pss_cons (ps_if (PW.pt (pw_and (pt_cmpR op_notN (pv 5) pe_non (nomark _)) (pw_and1 (pt_cmpR op_eq (pe_ix ix_list (pv 5) (pv 2) (fun _ _ => rfl)) (pv 3) (nomark _)))))
      (pss_one (ps_set (i := 12) sc.nd rfl (Or.inl rfl) (pe_op op_add (pv 12) pe_int))) pss_nil)
      (pss_cons (ps_set (i := 13) sc.nd rfl (Or.inl rfl) pe_int)
      (pss_cons (ps_for PassesOwn.never rfl (pi_list (pv 6)) (pg_name (i := 14) sc.nd rfl (Or.inl rfl))
      (pss_cons (ps_set (i := 12) sc.nd rfl (Or.inl rfl) (pe_op op_mul (pv 12) (pe_op op_add (pv 8) pe_int)))
      (pss_cons (ps_set (i := 13) sc.nd rfl (Or.inl rfl) (pe_op op_mul (pv 13) (pe_op op_add (pv 8) pe_int)))
      (pss_one (ps_if (pt_cmpR op_eq (pv 14) (pv 2) (nomark _))
      (pss_one (ps_set (i := 13) sc.nd rfl (Or.inl rfl) (pe_op op_sub (pe_op op_add (pe_op op_add (pv 13) (pv 8)) pe_int) (pv 9)))) pss_nil)))))
      (pss_one (ps_ret (pe_op op_add (pv 12) (pv 13))))))))))))))))), ?_⟩
    obtain ⟨p, va, vb, rfl, hT, hc, b, us, rfl, hb, hp⟩ := id hW
    have h7 := W.all.2.2.1
    have h5 := W.lng5
    have hrk1 := rankIn_pos ht
    have hrk2 : rankIn (ls[a]?.getD []) t ≤ lng ls := by
      have hr : ls[a]? = some ls[a] := List.getElem?_eq_getElem ha
      have h1 := rankIn_le (t := t) (rs := ls[a])
      have h2 := lng_mem (List.getElem_mem ha)
      rw [hr]
      show rankIn ls[a] t ≤ _
      omega
    have hwth : wth s ls a t = wrth s (ls.length + 1) (lng ls) (rankIn (ls[a]?.getD []) t) := rfl
    rw [hwth] at q
    generalize hk : rankIn (ls[a]?.getD []) t = k at *
    generalize hR : lng ls = R at *
    refine st_seq ⟨_, rfl, w_tg3 hx ?_⟩
    dsimp only
    refine st_seq ?_
    refine ss_set (v := vn (ls.length + 1)) (Pv.to (pv_add (i := (ls.length : Int)) (j := 1) (pv_len (n := ls.length) (pv_ixT (pv_var rfl) pv_c hT rfl) (.inl hb) hp.length) pv_c) rfl) fun H1 e1 => ?_
    dsimp only
    refine st_seq ?_
    refine ss_set (v := vn R) (pv_call (pva_1 (pv_var rfl)) fun H2 e Q q => ⟨_, cs, ls, rfl, hW.mono (Le.of (e1.trans e)), W.ne.1, W.ne.2, by rw [hR]; exact q⟩) fun H2 e2 => ?_
    have e02 := e1.trans e2
    dsimp only
    refine st_seq ?_
    refine ss_set (v := vn k) (pv_call (pva_3 (pv_var rfl) (pv_var rfl) (pv_var rfl)) fun H3 e Q q => ⟨_, cs, ls, a, t, rfl, hW.mono (Le.of (e02.trans e)), ha, by rw [hk]; exact q⟩) fun H3 e3 => ?_
    have e03 := e02.trans e3
    dsimp only
    refine st_seq ?_
    refine ss_lst (pva_1 pv_c) (by show 1 ≤ _; rw [sizeLine_eq]; decide) fun H4 pp e4 hpp => ?_
    have e04 := e03.trans e4
    have hpp0 := e04.free hpp
    dsimp only
    refine st_seq ?_
    refine w_forR (n := (R : Int)) (fun Q q => ⟨_, rfl, q⟩) (by omega) (by omega) (fun i σ H' => ∃ y11, σ = [some (.ref p), some (.ref xa), some (vn a), some (vn t), some (.str s), some .non, some (.ref tb), some (vn (ls.length + 1)), some (vn R), some (vn k), some (.ref pp), y11, none, none, none] ∧ Same H H' ∧ H' pp = some (.lst (pows (ls.length + 1) i))) ⟨_, rfl, e04.trans (same_new hpp), by rw [upd_same]; rfl⟩ ?_ ?_
    · rintro i σ H5 hi ⟨y11, rfl, e5, h5⟩
      refine ss_app (v := vn ((ls.length + 1) ^ (i + 1))) rfl h5 (by rw [pows_len, sizeLine_eq]; omega) ?_ fun H6 e6 => ⟨_, rfl, same_mut (e5.trans e6) hpp0, by rw [upd_same, pows_succ]⟩
      refine Pv.to (pv_mul (i := (((ls.length + 1) ^ i : Nat) : Int)) (j := ((ls.length + 1 : Nat) : Int)) (pv_ixL (pv_var rfl) (pv_neg pv_c) (SqL.of h5) (atI_neg1 pows_len (pows_get (Nat.le_refl _)))) (pv_var rfl) (.inr ⟨by omega, by omega⟩)) ?_
      show V.int _ = V.int _
      rw [Nat.pow_succ, Int.natCast_mul]
    · rintro σ H5 ⟨y11, rfl, e5, h5⟩
      have hRn : ((R : Nat) : Int).toNat = R := by omega
      rw [hRn] at h5
      dsimp only
      refine st_seq ?_
      have pg : ∀ {j : Nat} {H' : Hp} {y12 : Option V}, Same H5 H' → j ≤ R → ∀ (ti : TE), Pv ti [some (.ref p), some (.ref xa), some (vn a), some (vn t), some (.str s), some .non, some (.ref tb), some (vn (ls.length + 1)), some (vn R), some (vn k), some (.ref pp), y11, y12, none, none] H' (vn j) → Pv (tOp (rIxL K) (tVar 10) ti) [some (.ref p), some (.ref xa), some (vn a), some (vn t), some (.str s), some .non, some (.ref tb), some (vn (ls.length + 1)), some (vn R), some (vn k), some (.ref pp), y11, y12, none, none] H' (vn ((ls.length + 1) ^ j))   := fun e hj ti h => pv_ixL (pv_var rfl) h (SqL.of (e _ _ h5)) (atI_nat (pows_get hj))
      refine ss_set (v := vn ((ls.length + 1) ^ (R - k))) (pg (Same.refl _) (by omega) _ (Pv.to (pv_sub (i := (R : Int)) (j := (k : Int)) (pv_var rfl) (pv_var rfl)) (by show V.int _ = V.int _; congr 1; omega))) fun H6 e6 => ?_
      dsimp only
      refine st_seq ?_
      refine if_int (i := 12) (z0 := (((ls.length + 1) ^ (R - k) : Nat) : Int)) (z1 := (((ls.length + 1) ^ (R - k) : Nat) : Int) + (((ls.length + 1) ^ R : Nat) : Int)) (pt_t (pv_eq (pv_var rfl) pv_c rfl dec_str)) rfl (fun _ H7 e7 => pv_add (pv_var rfl) (pg (e6.trans e7) (Nat.le_refl _) _ (pv_var rfl))) fun H7 e7 => ?_
      dsimp only
      refine st_seq ?_
      refine if_int (i := 12) (z1 := (((ls.length + 1) ^ R : Nat) : Int) - (((ls.length + 1) ^ (k - 1) : Nat) : Int)) (pt_t (pv_eq (pv_var rfl) pv_c rfl dec_str)) rfl (fun _ H8 e8 => pv_sub (pg (e6.trans (e7.trans e8)) (Nat.le_refl _) _ (pv_var rfl)) (pg (j := k - 1) (e6.trans (e7.trans e8)) (by omega) _ (Pv.to (pv_sub (i := (k : Int)) (j := 1) (pv_var rfl) pv_c) (by show V.int _ = V.int _; congr 1; omega)))) fun H8 e8 => ?_
      have hz : (if decide (s = "lasts") = true then (((ls.length + 1) ^ R : Nat) : Int) - (((ls.length + 1) ^ (k - 1) : Nat) : Int) else if decide (s = "full") = true then (((ls.length + 1) ^ (R - k) : Nat) : Int) + (((ls.length + 1) ^ R : Nat) : Int) else (((ls.length + 1) ^ (R - k) : Nat) : Int)) = byO s (ls.length + 1) R k := by
        unfold byO
        by_cases h1 : s = "lasts"
        · rw [if_pos h1, if_pos (decide_eq_true h1)]
        · rw [if_neg h1, if_neg (by rw [decide_eq_false h1]; decide)]
          by_cases h2 : s = "full"
          · rw [if_pos h2, if_pos (decide_eq_true h2)]
          · rw [if_neg h2, if_neg (by rw [decide_eq_false h2]; decide)]
      rw [hz]
      have e08 := e5.trans (e6.trans (e7.trans e8))
      dsimp only
      refine st_seq ?_
      refine ss_set (pv_mul (i := byO s (ls.length + 1) R k) (j := ((ls.length + 1 : Nat) : Int)) (pv_var rfl) (pv_var rfl) (.inr ⟨by omega, by omega⟩)) fun H9 e9 => ?_
      dsimp only
      refine st_seq ?_
      refine ss_if (b := false && true) (pt_and (b := false) (c := true) (pt_t (pv_notN (pv_var rfl) rfl)) fun h => nomatch h) (fun H10 e10 h => nomatch h) fun H10 e10 _ => ?_
      refine st_next ?_
      dsimp only
      refine st_seq ?_
      refine ss_set pv_c fun H11 e11 => ?_
      have e011 := e08.trans (e9.trans (e10.trans e11))
      dsimp only
      refine st_seq ?_
      refine w_forL (a := tb) (xs := []) (val_var rfl) (SqL.mn e011 htb) (fun i σ H' => i = 0 ∧ Same H H' ∧ σ = [some (.ref p), some (.ref xa), some (vn a), some (vn t), some (.str s), some .non, some (.ref tb), some (vn (ls.length + 1)), some (vn R), some (vn k), some (.ref pp), y11, some (.int (byO s (ls.length + 1) R k * ((ls.length + 1 : Nat) : Int))), some (.int 0), none]) ⟨rfl, e011, rfl⟩ (fun i σ H' _ h => SqL.mn h.2.1 htb) (fun i x σ H' h => by simp at h) ?_
      rintro σ H12 ⟨_, e12, rfl⟩
      dsimp only
      exact ss_ret (Pv.to (pv_add (i := byO s (ls.length + 1) R k * ((ls.length + 1 : Nat) : Int)) (j := 0) (pv_var rfl) (pv_var rfl)) (by unfold wrth; rw [Int.add_zero])) (q.mn e12)
/-! _law_whole -/
def wAt (w : Nat → Nat → Option Int) (D : List (Option Nat)) (a : Nat) : Int := match dl D a with
  | none => 0
  | some t => (w a t).getD 0
theorem worthD_at {w : Nat → Nat → Option Int} {D : List (Option Nat)} : worthD w D = sumR D.length (wAt w D) := rfl
theorem wAt_none {w : Nat → Nat → Option Int} {D : List (Option Nat)} {a : Nat} (h : dl D a = none) : wAt w D a = 0 := by unfold wAt; rw [h]
theorem wAt_some {w : Nat → Nat → Option Int} {D : List (Option Nat)} {a t : Nat} {x : Int} (h : dl D a = some t) (hx : w a t = some x) : wAt w D a = x := by unfold wAt; rw [h]; dsimp only; rw [hx]; rfl
def spLWhole (K : Frg) : Sp := fun vs H Q _ => ∃ v x cs ls s da D, vs = [v, x, .ref da] ∧ WS K H v cs ls ∧ WG cs ls ∧ AOk K H x s ∧ SqL K H da (D.map vo) ∧ Prp ls D ∧ RetG (.int (worthD (wL s ls) D)) H Q
theorem sc_law_whole : FnScope N_law_whole ["_law_wishes_here", "_law_aim", "_law_dealing"] (defScope s_law_whole) := ⟨rfl, rfl, rfl, by decide +kernel, rfl, by decide +kernel, by decide +kernel⟩
theorem ok_law_whole (G : Gx K mg) : Known P w K mg base CX0 3 "_law_whole" ["_law_wishes_here", "_law_aim", "_law_dealing"] (spLWhole K) := by
  have sc := sc_law_whole
  have k_law_worth := ok_law_worth (P := P) (w := w) (base := base) G
  refine G.f_law_whole.known sc (fun _ _ _ _ _ _ us hl => match us, hl with | [_, _, _], _ => rfl) (fun vs H Q E h => ?_) (fun cdv A outer s H vs Q E hr h => ?_)
  · obtain ⟨v, x, cs, ls, s, da, D, rfl, _⟩ := h; rfl
  · obtain ⟨v, x, cs, ls, s, da, D, rfl, hW, W, hA, hd, hP, q⟩ := h
    refine ⟨_, (pss_cons (ps_set (i := 3) sc.nd rfl (Or.inl rfl) pe_int)
      (pss_cons (ps_for PassesOwn.never rfl (pi_enum rfl G.n_enumerate (pa_cons (pv 2) pa_nil)) (pg_tup rfl (pgs_cons (pg_name (i := 4) sc.nd rfl (Or.inl rfl)) (pgs_cons (pg_name (i := 5) sc.nd rfl (Or.inl rfl)) pgs_nil)))
      (pss_one (ps_if (pt_cmpR op_notN (pv 5) pe_non (nomark _))
      (pss_one (ps_set (i := 3) sc.nd rfl (Or.inl rfl) (pe_op op_add (pv 3) (pe_kn k_law_worth (hr.mono (by decide)) pass0 (pa_cons (pv 0) (pa_cons (pv 1) (pa_cons (pv 4) (pa_cons (pv 5) pa_nil)))))))) pss_nil)))
      (pss_one (ps_ret (pv 3))))), ?_⟩
    refine ss_set pv_c fun H1 e1 => ?_
    dsimp only
    refine st_seq ?_
    refine w_forE (fun Q q => ⟨_, rfl, q⟩) (SqL.mn e1 hd) (fun j σ H' => ∃ y4 y5, σ = [some v, some x, some (.ref da), some (.int (sumR j (wAt (wL s ls) D))), y4, y5] ∧ Same H H') ⟨_, _, rfl, e1⟩ (fun j σ H' _ ⟨_, _, _, e⟩ => SqL.mn e hd) ?_ ?_
    · rintro j y σ H2 H3 hj ⟨y4, y5, rfl, e2⟩ e3
      have hjl : j < D.length := by have := (List.getElem?_eq_some_iff.mp hj).1; rwa [List.length_map] at this
      rw [d_get hjl] at hj
      cases hj
      cases hd2 : dl D j with
      | none =>
        refine ss_if (b := false) (pt_t (pv_notN (pv_var rfl) rfl)) (fun H4 e4 h => nomatch h) fun H4 e4 _ => ?_
        refine ⟨some (vn j), some .non, ?_, e2.trans (e3.trans e4)⟩
        rw [sumR_succ, wAt_none hd2, Int.add_zero]
        rfl
      | some t =>
        refine ss_if (b := true) (pt_t (pv_notN (pv_var rfl) rfl)) (fun H4 e4 _ => ?_) fun H4 e4 h => nomatch h
        have hjls : j < ls.length := by have := hP.1; omega
        have hr : ls[j]? = some ls[j] := List.getElem?_eq_getElem hjls
        have ht : t ∈ (ls[j]?.getD []).flatten := by rw [hr]; exact hP.2 j t _ (dl_lt hd2).2 hr
        have hw : wL s ls j t = some (wth s ls j t) := by unfold wL; rw [if_pos ⟨hjls, ht⟩]
        refine ss_set (pv_add (pv_var rfl) (pv_call (v := .int (wth s ls j t)) (pva_cons (pv_var rfl) (pva_3 (pv_var rfl) (pv_var rfl) (pv_var rfl))) fun H5 e Q q => ⟨v, x, cs, ls, s, j, t, rfl, hW.mono (Le.of (e2.trans (e3.trans (e4.trans e)))), W, hA.mn (e2.trans (e3.trans (e4.trans e))), hjls, ht, q⟩)) fun H5 e5 => ?_
        refine ⟨some (vn j), some (vn t), ?_, e2.trans (e3.trans (e4.trans e5))⟩
        rw [sumR_succ, wAt_some hd2 hw]
        rfl
    · rintro σ H2 ⟨y4, y5, rfl, e2⟩
      rw [List.length_map]
      dsimp only
      exact ss_ret (pv_var rfl) (q.mn e2)
end
end Wd
set_option Elab.async false
set_option linter.all false
set_option maxRecDepth 100000
set_option maxHeartbeats 4000000
/-! sum(lists, []) -/
namespace Wd
open PySem PySem.Spec PyProof.Rows
section
variable {prog : Program} {w : World} {A : Around} {R : Result → Shared → Prop} {I : Addr} {fp wr : List Addr} {n : Nat} {Pw : Nat → Value → Prop} {St : Nat → Heap → Prop}
theorem sum_loopL (W : Walks prog w A.in1 I fp wr n Pw St) (h0 : Heap) (item : Nat → List Value) (hval : ∀ i v, i < n → Pw i v → ∃ d c, v = .ref d ∧ d ∉ wr ∧ h0.get? d = some { cls := .type "list", dict := none, data := .seq (item i).toArray c, slots := #[] }) (S : Addr) (hSf : S ∉ fp) (hS0 : h0.get? S = none) (hwr : ∀ i h, St i h → ∀ b ∈ wr, ∃ o, h.get? b = some o) :
    ∀ (b0 : Addr) (k i : Nat) (s : Shared) (T : Addr) (acc : List Value) (cT c : Nat), (T = b0 ∨ S < T) → n - i = k → i ≤ n → St i s.heap → s.heap.get? S = some { cls := .type "list", dict := none, data := .seq #[.ref T] c, slots := #[] } →
    (∀ b o, b ∉ wr → b ≠ S → h0.get? b = some o → s.heap.get? b = some o) → T ∉ wr → T ≠ S → s.heap.get? T = some { cls := .type "list", dict := none, data := .seq acc.toArray cT, slots := #[] } →
    acc.length + (((List.range n).drop i).map fun j => (item j).length).sum ≤ sizeLine →
    (∀ h' tk T' cT', (T' = b0 ∨ S < T') → (∀ b o, b ∉ wr → b ≠ S → h0.get? b = some o → h'.get? b = some o) → h'.get? T' = some { cls := .type "list", dict := none, data := .seq (acc ++ (((List.range n).drop i).map item).flatten).toArray cT', slots := #[] } → R (.ok (.ret (.ref T'))) { s with heap := h', toks := tk }) →
    codeAny (model prog w) A (.builtin "sum.loop" ⟨[.ref I, .ref S, rawInt 2, rawInt 0], []⟩) R s := by
  have hSw : S ∉ wr := fun h => hSf (W.sub _ h)
  intro b0 k
  induction k with
  | zero =>
    intro i s T acc cT c hTb hk hi hst hS hold hTw hTS hT hsz hR
    have hin : i = n := by omega
    subst hin
    refine codeAny_builtin PySem.F.entry_sum_loop ?_
    rw [Around.under_plainId PySem.F.plain_sum_loop _]
    show wpAny _ A.in1 (seqItems? (.ref S) >>= _) _ _ s
    refine wpAny_bind (wpAny_seqItems hS rfl ?_)
    show wpAny _ A.in1 (tryCatch (pyNext (.ref I)) _ >>= _) _ _ s
    refine wpAny_bind (wpAny_tryCatch (W.done s _ _ hst fun h' tk hk' => ?_))
    refine wpAny_pure (hR h' tk T cT hTb (fun b o hb hbS e => hk' b o hb (hold b o hb hbS e)) ?_)
    rw [List.drop_of_length_le (by simp), List.map_nil, List.flatten_nil, List.append_nil]
    exact hk' T _ hTw hT
  | succ k ih =>
    intro i s T acc cT c hTb hk hi hst hS hold hTw hTS hT hsz hR
    have hlt : i < n := by omega
    have hdrop : (List.range n).drop i = i :: (List.range n).drop (i + 1) := by
      rw [List.drop_eq_getElem_cons (by simpa using hlt)]
      simp
    refine codeAny_builtin PySem.F.entry_sum_loop ?_
    rw [Around.under_plainId PySem.F.plain_sum_loop _]
    show wpAny _ A.in1 (seqItems? (.ref S) >>= _) _ _ s
    refine wpAny_bind (wpAny_seqItems hS rfl ?_)
    show wpAny _ A.in1 (tryCatch (pyNext (.ref I)) _ >>= _) _ _ s
    refine wpAny_bind (wpAny_tryCatch (W.item i s _ _ hlt hst fun v h' tk hP hst' hk' => ?_))
    obtain ⟨d, cd, rfl, hdw, hd0⟩ := hval i v hlt hP
    have hdS : d ≠ S := fun z => by rw [z, hS0] at hd0; cases hd0
    have hS' := hk' S _ hSw hS
    have hT' := hk' T _ hTw hT
    have hd' := hk' d _ hdw (hold d _ hdw hdS hd0)
    rw [hdrop, List.map_cons, List.sum_cons] at hsz
    show wpAny _ A.in1 ((holding [Value.ref d] (binaryOp .Add (.ref T) (.ref d))).attempt >>= _) _ _ _
    refine wpAny_bind (wpAny_attempt (wpAny_holding (PySem.P.add_list hT' hd' ?_ (by rw [List.size_toArray, List.size_toArray]; omega))))
    have hpS : (h'.push { cls := .type "list", data := .seq (acc.toArray ++ (item i).toArray) }).get? S = some { cls := .type "list", dict := none, data := .seq #[.ref T] c, slots := #[] } := Heap.get?_push_of_some _ hS'
    show wpAny _ A.in1 (updateSeq S (fun _ => #[.ref h'.objs.size]) >>= _) _ _ _
    refine wpAny_bind ?_
    refine wpAny_updateSeq hpS rfl ?_
    have hS2 := Heap.get?_update_self (Obj.mapSeq fun _ => #[Value.ref h'.objs.size]) hpS rfl
    refine wpAny_bind (wpAny_letGo ?_)
    refine wpAny_bind ?_
    have hnS : h'.objs.size ≠ S := Ne.symm (Nat.ne_of_lt (Heap.lt_size hS'))
    have keep : ∀ b o, b ≠ S → h'.get? b = some o → (((h'.push { cls := .type "list", data := .seq (acc.toArray ++ (item i).toArray) }).update S (Obj.mapSeq fun _ => #[Value.ref h'.objs.size])).update S (Obj.mapSeq fun _ => #[Value.ref h'.objs.size])).get? b = some o := fun b o hb e =>
      (Heap.get?_update_other _ _ (Ne.symm hb)).trans ((Heap.get?_update_other _ _ (Ne.symm hb)).trans (Heap.get?_push_of_some _ e))
    refine wpAny_updateSeq hS2 rfl (wpAny_pure ⟨plainId_quiet PySem.F.plain_sum_loop _, ih (i + 1) _ h'.objs.size (acc ++ item i) 0 _ (.inr (Heap.lt_size hS')) (by omega) hlt (W.frame _ _ _ hst' fun b hb o e => ?_) (Heap.get?_update_self _ hS2 rfl) (fun b o hb hbS e => ?_) ?_ hnS ?_ ?_ fun h'' tk'' T'' cT'' hTb'' hk'' hT'' => ?_⟩)
    · exact keep b o (fun h => hSf (by rw [← h]; exact hb)) e
    · exact keep b o hbS (hk' b o hb (hold b o hb hbS e))
    · intro hin
      obtain ⟨o, ho⟩ := hwr _ _ hst' _ hin
      exact absurd (Heap.lt_size ho) (Nat.lt_irrefl _)
    · have ea : acc.toArray ++ (item i).toArray = (acc ++ item i).toArray := by simp
      rw [← ea]
      exact (Heap.get?_update_other _ _ (Ne.symm hnS)).trans ((Heap.get?_update_other _ _ (Ne.symm hnS)).trans (Heap.get?_push_size _ rfl))
    · rw [List.length_append]; omega
    · refine hR h'' tk'' T'' cT'' hTb'' hk'' ?_
      rw [hdrop, List.map_cons, List.flatten_cons, ← List.append_assoc]
      exact hT''
end
section
variable {prog : Program} {w : World} {A : Around} {E : Value → Shared → Prop} {s : Shared}
theorem sub_lists : isSubtype (.type "list") (.type "str") = pure false ∧ isSubtype (.type "list") (.type "bytes") = pure false ∧ isSubtype (.type "list") (.type "bytearray") = pure false := ⟨PySem.F.sub_list_str, PySem.F.sub_list_bytes, PySem.F.sub_list_bytearray⟩
theorem args_sum2 (a b : Value) : argsOk "sum" ⟨[a, b], []⟩ := by unfold argsOk; kernel_rfl
theorem sum_lists {l b : Addr} {its : List Value} {item : Nat → List Value} {cb : Nat} {Q : Value → Shared → Prop} (hh : A.handled = none) (hl : s.heap.IsList l its.toArray) (hb : s.heap.get? b = some { cls := .type "list", dict := none, data := .seq #[] cb, slots := #[] })
    (hi : ∀ i v, its[i]? = some v → ∃ d c, v = .ref d ∧ s.heap.get? d = some { cls := .type "list", dict := none, data := .seq (item i).toArray c, slots := #[] }) (hsz : ((List.range its.length).map fun j => (item j).length).sum ≤ sizeLine)
    (h : ∀ h' tk T c, (T = b ∨ s.heap.objs.size < T) → (∀ b o, s.heap.get? b = some o → h'.get? b = some o) → h'.get? T = some { cls := .type "list", dict := none, data := .seq (((List.range its.length).map item).flatten).toArray c, slots := #[] } → Q (.ref T) { s with heap := h', toks := tk }) :
    wpAny (model prog w) A (call (.builtin "sum") [.ref l, .ref b]) Q E s := by
  refine call_function_tree PySem.F.kind_sum PySem.F.plain_sum PySem.F.entry_sum (args_sum2 _ _) ?_
  unfold Builtin.«sum»
  simp only [List.length_cons, List.length_nil]
  rw [if_neg (by decide)]
  refine wpAny_bind (wpAny_of_eq (show Builtin.Builtins.bindParams "sum" ["start"] 0 ⟨[.ref b], []⟩ = pure [some (.ref b)] from rfl) ?_)
  have hlt : l < s.heap.objs.size := by obtain ⟨_, e, _⟩ := hl; exact Heap.lt_size e
  refine wpAny_bind (wpAny_pyIter_list hl ?_)
  refine wpAny_bind (wpAny_pure ?_)
  simp only [List.forIn_cons, List.forIn_nil]
  have tb : ∀ h : Heap, (∀ b o, s.heap.get? b = some o → h.get? b = some o) → ∀ g d t os, Shared.TypeIs ⟨h, g, d, t, os⟩ (.ref b) "list" := fun h hk g d t os => ⟨_, hk b _ hb, rfl⟩
  have hpush : ∀ b o, s.heap.get? b = some o → (s.heap.push { cls := .type "list_iterator", data := .fields #[.ref l, .int 0 0] }).get? b = some o := fun b o e => Heap.get?_push_of_some _ e
  refine wpAny_bind (wpAny_bind (wpAny_bind (wpAny_isInstance (T := "list") (b := false) (tb _ hpush _ _ _ _) sub_lists.1 ?_)))
  simp only [Bool.false_eq_true, if_false]
  refine wpAny_pure (wpAny_bind (wpAny_bind (wpAny_isInstance (T := "list") (b := false) (tb _ hpush _ _ _ _) sub_lists.2.1 ?_)))
  simp only [Bool.false_eq_true, if_false]
  refine wpAny_pure (wpAny_bind (wpAny_bind (wpAny_isInstance (T := "list") (b := false) (tb _ hpush _ _ _ _) sub_lists.2.2 ?_)))
  simp only [Bool.false_eq_true, if_false]
  refine wpAny_pure (wpAny_pure ?_)
  refine wpAny_bind (wpAny_newObj_type ?_)
  have hne : l ≠ s.heap.objs.size := Nat.ne_of_lt hlt
  have hsz1 : (s.heap.push { cls := .type "list_iterator", data := .fields #[.ref l, .int 0 0] }).objs.size = s.heap.objs.size + 1 := Heap.size_push _ _
  have hbl : b < s.heap.objs.size := Heap.lt_size hb
  have hn : its.toArray.size = its.length := by simp
  refine wpAny_pure ⟨plainId_quiet PySem.F.plain_sum_loop _, sum_loopL (Walks.list (A := A.in1) hh s.heap.objs.size l hne its.toArray) (s.heap.push { cls := .type "list_iterator", data := .fields #[.ref l, .int 0 0] }) item (fun i v hi' hv => ?_) (s.heap.push { cls := .type "list_iterator", data := .fields #[.ref l, .int 0 0] }).objs.size ?_ ?_ ?_ b its.toArray.size 0 _ b [] cb 0 (.inl rfl) (by omega) (Nat.zero_le _) ⟨⟨_, Heap.get?_push_of_some _ (Heap.get?_push_size _ rfl), rfl, rfl⟩, (hl.push _).push _⟩ (Heap.get?_push_size _ rfl) (fun b' o _ _ e => Heap.get?_push_of_some _ e) ?_ ?_ (Heap.get?_push_of_some _ (hpush _ _ hb)) ?_ fun h' tk T' cT' hTb hk hT' => ?_⟩
  · rw [List.getElem?_toArray] at hv
    obtain ⟨d, c, rfl, hd⟩ := hi i v hv
    exact ⟨d, c, rfl, by simpa using Nat.ne_of_lt (Heap.lt_size hd), hpush _ _ hd⟩
  · rw [hsz1]
    simp only [List.mem_cons, List.not_mem_nil, or_false, not_or]
    refine ⟨Nat.succ_ne_self _, fun z => ?_⟩
    have h2 : l < s.heap.objs.size := hlt
    rw [← z] at h2
    exact absurd h2 (Nat.not_lt.mpr (Nat.le_succ _))
  · cases e : (s.heap.push { cls := .type "list_iterator", data := .fields #[.ref l, .int 0 0] }).get? (s.heap.push { cls := .type "list_iterator", data := .fields #[.ref l, .int 0 0] }).objs.size with
    | none => rfl
    | some o => exact absurd (Heap.lt_size e) (Nat.lt_irrefl _)
  · intro i h hst b' hb'
    rw [List.mem_singleton.mp hb']
    obtain ⟨⟨o, e, _⟩, _⟩ := hst
    exact ⟨o, e⟩
  · simpa using Nat.ne_of_lt hbl
  · rw [hsz1]; exact Nat.ne_of_lt (Nat.lt_succ_of_lt hbl)
  · rw [hn, List.drop_zero, List.length_nil, Nat.zero_add]; exact hsz
  · rw [hn, List.drop_zero, List.nil_append] at hT'
    exact h h' tk T' cT' (hTb.imp id fun z => by rw [hsz1] at z; exact Nat.lt_of_succ_lt z) (fun b' o e => hk b' o (by simpa using Nat.ne_of_lt (Heap.lt_size e)) (by rw [hsz1]; exact Nat.ne_of_lt (Nat.lt_succ_of_lt (Heap.lt_size e))) (hpush _ _ e)) hT'
end
namespace K1r
open L2
section
variable {X : Cx}
/-- sum(ranks, []): the ranks new lists -/
def rSumL (K : Frg) : List V → Hp → VK → Prop := fun vs H Q => ∃ (a b : Addr) (us : List V) (xss : List (List V)), vs = [V.ref a, V.ref b] ∧ SqL K H a us ∧ Paired (fun u xs => ∃ d, u = V.ref d ∧ H d = some (.lst xs)) us xss ∧ H b = some (.lst []) ∧ xss.flatten.length ≤ 1000 ∧
  ∀ p H', Same H H' → H' p = some (.lst xss.flatten) → Q (.ref p) H'
theorem vals_flat : ∀ {xss : List (List V)} {item : Nat → List Value} , (∀ i xs, xss[i]? = some xs → Vals xs (item i)) → Vals xss.flatten ((List.range xss.length).map item).flatten
  | [], _, _ => .nil
  | xs :: xss, item, h => by
    rw [List.flatten_cons, List.length_cons, List.range_succ_eq_map, List.map_cons, List.flatten_cons, List.map_map]
    exact Vals.append (h 0 xs rfl) (vals_flat (item := item ∘ Nat.succ) fun i ys hi => h (i + 1) ys hi)
theorem len_flat {α β : Type} : ∀ {xss : List (List α)} {item : Nat → List β}, (∀ i xs, xss[i]? = some xs → xs.length = (item i).length) → ((List.range xss.length).map fun j => (item j).length).sum = xss.flatten.length
  | [], _, _ => rfl
  | xs :: xss, item, h => by
    rw [List.flatten_cons, List.length_cons, List.range_succ_eq_map, List.map_cons, List.sum_cons, List.map_map, List.length_append, h 0 xs rfl]
    have := len_flat (xss := xss) (item := item ∘ Nat.succ) fun i ys hi => h (i + 1) ys hi
    rw [← this]
    rfl
theorem cr_sumL (hc : X.calm = true) : CallR X (.builtin "sum") (rSumL X.K) := by
  intro pins s σ H vs us Q I r h
  obtain ⟨a, b, us', xss, rfl, ha, hp, hb, hz, q⟩ := h
  obtain ⟨its, rv, hl, _⟩ := I.list ha
  obtain ⟨u1, u2, rfl, r1, r2⟩ := r.two
  cases r1
  cases r2
  obtain ⟨_, bi, bn, bv, _, be⟩ := I.lstM hb
  cases bv
  have hlen : its.length = xss.length := by rw [← rv.length, hp.length]
  have hex : ∀ (i : Nat) (xs : List V), xss[i]? = some xs → ∃ (l : List Value) (d : Addr) (c : Nat), its[i]? = some (Value.ref d) ∧ Vals xs l ∧ s.heap.get? d = some { cls := .type "list", dict := none, data := .seq l.toArray c, slots := #[] } := fun i xs hx => by
    have hil : i < us'.length := by rw [hp.length]; exact (List.getElem?_eq_some_iff.mp hx).1
    have hu := List.getElem?_eq_getElem hil
    obtain ⟨ys, h1, d, h2, h3⟩ := paired_get hp hu
    rw [hx] at h1
    cases h1
    obtain ⟨w, hw, rw'⟩ := rv.get hu
    rw [h2] at rw'
    cases rw'
    obtain ⟨_, l, c, lv, _, le⟩ := I.lstM h3
    exact ⟨l, d, c, hw, lv, le⟩
  obtain ⟨item, hitem⟩ : ∃ item : Nat → List Value, ∀ (i : Nat) (xs : List V), xss[i]? = some xs → ∃ (d : Addr) (c : Nat), its[i]? = some (Value.ref d) ∧ Vals xs (item i) ∧ s.heap.get? d = some { cls := .type "list", dict := none, data := .seq (item i).toArray c, slots := #[] } := by
    refine ⟨fun i => @dite _ (∃ (l : List Value) (d : Addr) (c : Nat) (xs : List V), xss[i]? = some xs ∧ its[i]? = some (Value.ref d) ∧ Vals xs l ∧ s.heap.get? d = some { cls := .type "list", dict := none, data := .seq l.toArray c, slots := #[] }) (Classical.propDecidable _) (fun h => Classical.choose h) (fun _ => []), fun i xs hx => ?_⟩
    obtain ⟨l, d, c, h1, h2, h3⟩ := hex i xs hx
    have he : ∃ (l : List Value) (d : Addr) (c : Nat) (xs : List V), xss[i]? = some xs ∧ its[i]? = some (Value.ref d) ∧ Vals xs l ∧ s.heap.get? d = some { cls := .type "list", dict := none, data := .seq l.toArray c, slots := #[] } := ⟨l, d, c, xs, hx, h1, h2, h3⟩
    obtain ⟨d', c', xs', k1, k2, k3, k4⟩ := Classical.choose_spec he
    rw [hx] at k1
    cases k1
    dsimp only
    rw [dif_pos he]
    exact ⟨d', c', k2, k3, k4⟩
  refine sum_lists (item := item) (I.ok.hd hc) hl.isList be (fun i v hv => ?_) ?_ fun h' tk T c hTb hk hT => ?_
  · have hil : i < xss.length := by rw [← hlen]; exact (List.getElem?_eq_some_iff.mp hv).1
    obtain ⟨d, c, k1, _, k3⟩ := hitem i _ (List.getElem?_eq_getElem hil)
    rw [hv] at k1
    cases k1
    exact ⟨d, c, rfl, k3⟩
  · rw [hlen, len_flat (xss := xss) fun i xs hx => (hitem i xs hx).choose_spec.choose_spec.2.1.length]
    rw [sizeLine_eq]
    omega
  · rw [hlen] at hT
    have hv := vals_flat (xss := xss) (item := item) fun i xs hx => (hitem i xs hx).choose_spec.choose_spec.2.1
    rcases hTb with rfl | hlt
    · have h1 := hk _ _ be
      rw [h1] at hT
      have h2 : ((List.range xss.length).map item).flatten = [] := by
        have := congrArg (fun o : Option Obj => match o with | some ⟨_, _, .seq xs _, _⟩ => xs.toList | _ => []) hT
        simpa using this.symm
      rw [h2] at hv
      have h3 : xss.flatten = [] := by cases hv' : xss.flatten with | nil => rfl | cons a r => rw [hv'] at hv; cases hv
      rw [h3] at q
      exact ⟨.ref T, H, I.kept hk, rfl, q T H (Same.refl H) hb⟩
    · have hfr : H T = none := I.hok.fresh (Nat.le_of_lt hlt)
      exact ⟨.ref T, _, I.laid (t' := tk) (o := .lst xss.flatten) hk (Nat.le_of_lt hlt) ⟨by rw [sizeLine_eq]; omega, _, c, hv, hT⟩, rfl, q T _ (same_new hfr) upd_same⟩
end
end K1r
end Wd
set_option Elab.async false
set_option linter.all false
set_option maxRecDepth 100000
set_option maxHeartbeats 4000000
/-! the law's own: what is wished, dealings held -/
namespace Wd
open PySem PySem.Spec PyProof.Rows L2
/-! ### wishes of new lists -/
def LNn (H : Hp) (v : V) (ns : List Nat) : Prop := ∃ a, v = .ref a ∧ H a = some (.lst (ns.map vn))
def LLNn (H : Hp) (v : V) (nss : List (List Nat)) : Prop := ∃ a vs, v = .ref a ∧ H a = some (.lst vs) ∧ Paired (LNn H) vs nss
def LLLNn (H : Hp) (v : V) (lss : List (List (List Nat))) : Prop := ∃ a vs, v = .ref a ∧ H a = some (.lst vs) ∧ Paired (LLNn H) vs lss
def WN (H : Hp) (v : V) (cs : List Nat) (ls : List (List (List Nat))) : Prop := ∃ p a b, v = .ref p ∧ H p = some (.tup [a, b]) ∧ LNn H a cs ∧ LLLNn H b ls
theorem LNn.ln {K : Frg} {H : Hp} {v : V} {ns : List Nat} (h : LNn H v ns) : LN K H v ns := by
  obtain ⟨a, rfl, h⟩ := h; exact ⟨a, rfl, SqL.of h⟩
theorem LLNn.ln {K : Frg} {H : Hp} {v : V} {ns : List (List Nat)} (h : LLNn H v ns) : LLN K H v ns := by
  obtain ⟨a, vs, rfl, h, p⟩ := h; exact ⟨a, vs, rfl, SqL.of h, Paired.mapP p fun _ _ => LNn.ln⟩
theorem LLLNn.ln {K : Frg} {H : Hp} {v : V} {ns : List (List (List Nat))} (h : LLLNn H v ns) : LLLN K H v ns := by
  obtain ⟨a, vs, rfl, h, p⟩ := h; exact ⟨a, vs, rfl, SqL.of h, Paired.mapP p fun _ _ => LLNn.ln⟩
theorem WN.ws {K : Frg} {H : Hp} {v : V} {cs : List Nat} {ls : List (List (List Nat))} (h : WN H v cs ls) : WS K H v cs ls := by
  obtain ⟨p, a, b, rfl, h1, h2, h3⟩ := h; exact ⟨p, a, b, rfl, SqT.of h1, h2.ln, h3.ln⟩
theorem LNn.mn {H H1 : Hp} (e : Same H H1) {v : V} {ns : List Nat} (h : LNn H v ns) : LNn H1 v ns := by
  obtain ⟨a, rfl, h⟩ := h; exact ⟨a, rfl, e _ _ h⟩
theorem LLNn.mn {H H1 : Hp} (e : Same H H1) {v : V} {ns : List (List Nat)} (h : LLNn H v ns) : LLNn H1 v ns := by
  obtain ⟨a, vs, rfl, h, p⟩ := h; exact ⟨a, vs, rfl, e _ _ h, Paired.mapP p fun _ _ => LNn.mn e⟩
theorem LLLNn.mn {H H1 : Hp} (e : Same H H1) {v : V} {ns : List (List (List Nat))} (h : LLLNn H v ns) : LLLNn H1 v ns := by
  obtain ⟨a, vs, rfl, h, p⟩ := h; exact ⟨a, vs, rfl, e _ _ h, Paired.mapP p fun _ _ => LLNn.mn e⟩
theorem WN.mn {H H1 : Hp} (e : Same H H1) {v : V} {cs : List Nat} {ls : List (List (List Nat))} (h : WN H v cs ls) : WN H1 v cs ls := by
  obtain ⟨p, a, b, rfl, h1, h2, h3⟩ := h; exact ⟨p, a, b, rfl, e _ _ h1, h2.mn e, h3.mn e⟩
theorem wn_row {H : Hp} {v : V} {cs : List Nat} {ls : List (List (List Nat))} (h : WN H v cs ls) {a : Nat} (ha : a < ls.length) : ∃ p va b us r rs, v = .ref p ∧ H p = some (.tup [va, .ref b]) ∧ H b = some (.lst us) ∧ us[a]? = some (V.ref r) ∧ H r = some (.lst rs) ∧ Paired (LNn H) rs (ls[a]?.getD []) := by
  obtain ⟨p, va, vb, rfl, hT, hc, b, us, rfl, hb, hp⟩ := h
  have hr : ls[a]? = some ls[a] := List.getElem?_eq_getElem ha
  have hu : us[a]? = some (us[a]'(by rw [hp.length]; exact ha)) := List.getElem?_eq_getElem _
  obtain ⟨rs, h1, r, rvs, e, h2, h3⟩ := paired_get hp hu
  rw [hr] at h1
  cases h1
  refine ⟨p, va, b, us, r, rvs, rfl, hT, hb, by rw [hu, e], h2, ?_⟩
  rw [hr]
  exact h3
theorem wn_copies {H : Hp} {v : V} {cs : List Nat} {ls : List (List (List Nat))} (h : WN H v cs ls) : ∃ p ca vb, v = .ref p ∧ H p = some (.tup [.ref ca, vb]) ∧ H ca = some (.lst (cs.map vn)) := by
  obtain ⟨p, va, vb, rfl, hT, ⟨ca, rfl, hc⟩, _⟩ := h
  exact ⟨p, ca, vb, rfl, hT, hc⟩
theorem wn_lens {H : Hp} {v : V} {cs : List Nat} {ls : List (List (List Nat))} (h : WN H v cs ls) : ∃ p va b us, v = .ref p ∧ H p = some (.tup [va, .ref b]) ∧ H b = some (.lst us) ∧ us.length = ls.length := by
  obtain ⟨p, va, vb, rfl, hT, _, b, us, rfl, hb, hp⟩ := h
  exact ⟨p, va, b, us, rfl, hT, hb, hp.length⟩
section
variable {P : Program} {w : World} {K : Frg} {mg : Str → Option Value} {base : Heap}
def spWished (K : Frg) : Sp := fun vs H Q _ => ∃ v cs ls a, vs = [v, vn a] ∧ WN H v cs ls ∧ a < ls.length ∧ (ls[a]?.getD []).flatten.length ≤ 50 ∧ ∀ ts : List Nat, ts.Perm (ls[a]?.getD []).flatten → RetL (ts.map vn) H Q
theorem sc_law_wished : FnScope N_law_wished ["_law_wishes_here", "_law_asker"] (defScope s_law_wished) := ⟨rfl, rfl, rfl, by decide +kernel, rfl, by decide +kernel, by decide +kernel⟩
theorem flat_vn {H : Hp} : ∀ {rs : List V} {nss : List (List Nat)}, Paired (LNn H) rs nss → Paired (fun u xs => ∃ d, u = V.ref d ∧ H d = some (.lst xs)) rs (nss.map fun ns => ns.map vn)
  | _, _, .nil => .nil
  | _, _, .cons h t => .cons h (flat_vn t)
theorem flat_map_vn {nss : List (List Nat)} : (nss.map fun ns => ns.map vn).flatten = nss.flatten.map vn := by
  rw [List.map_flatten]
theorem ok_law_wished (G : Gx K mg) : Known P w K mg base CX0 1 "_law_wished" ["_law_wishes_here", "_law_asker"] (spWished K) := by
  have sc := sc_law_wished
  refine G.f_law_wished.known sc (fun _ _ _ _ _ _ us hl => match us, hl with | [_, _], _ => rfl) (fun vs H Q E h => ?_) (fun cdv A outer s H vs Q E hr h => ?_)
  · obtain ⟨v, cs, ls, a, rfl, _⟩ := h; rfl
  · obtain ⟨v, cs, ls, a, rfl, hW, ha, hz, q⟩ := h
    refine ⟨_, (pss_one (ps_ret (pe_callB cr_sorted (by rfl) G.n_sorted (by decide +kernel) (pa_cons (pe_callB (K1r.cr_sumL rfl) (by rfl) G.n_sum (by decide +kernel) (pa_cons (pe_ix ix_list (pe_ix ix_tup (pv 0) pe_int (fun _ _ => rfl)) (pv 1) (fun _ _ => rfl)) (pa_cons (pe_lst pa_nil) pa_nil))) pa_nil)))), ?_⟩
    obtain ⟨p, va, b, us, r, rs, rfl, hT, hb, hu, hr', hp⟩ := wn_row hW ha
    refine sr_cb (sr_1 ?_)
    refine vl_ixL (vl_ixT (val_var rfl) val_c (SqT.of hT) rfl) (val_var rfl) (SqL.of hb) (atI_nat hu) _ ?_
    refine ⟨Nat.zero_le _, fun st hst => ?_⟩
    have e1 : Same H (upd H st (.lst [])) := same_new hst
    refine ⟨r, st, rs, (ls[a]?.getD []).map (fun ns => ns.map vn), rfl, SqL.of (e1 _ _ hr'), Paired.mapP (flat_vn hp) fun u xs ⟨d, h1, h2⟩ => ⟨d, h1, e1 _ _ h2⟩, upd_same, by rw [flat_map_vn, List.length_map]; omega, fun sp H2 e2 h2 => ?_⟩
    rw [flat_map_vn] at h2
    have hmm : (ls[a]?.getD []).flatten.map vn = ((ls[a]?.getD []).flatten.map fun n : Nat => (n : Int)).map V.int := by rw [List.map_map]; rfl
    rw [hmm] at h2
    refine ⟨sp, _, rfl, SqL.of h2, by rw [List.length_map]; omega, fun ys pp hperm hpw hpp => ?_⟩
    obtain ⟨ts, rfl, hts⟩ := map_nat hperm
    have e02 := e1.trans e2
    refine q ts hts pp _ (e02.free hpp) (e02.trans (same_new hpp)) ?_
    rw [upd_same, List.map_map]
    rfl
/-- a dealing that holds: its wishes, its copies -/
structure DOk (cs : List Nat) (ls : List (List (List Nat))) (D : List (Option Nat)) : Prop where
  prp : Prp ls D
  cap : ∀ t, t < cs.length → D.count (some t) ≤ csf cs t
theorem countP_vo {D : List (Option Nat)} {t : Nat} : (D.map vo).countP (fun z => eqV z (vn t)) = D.count (some t) := by
  induction D with
  | nil => rfl
  | cons d r ih =>
    rw [List.map_cons, List.countP_cons, List.count_cons, ih]
    congr 1
    cases d with
    | none => rfl
    | some u =>
      show (if decide ((u : Int) = (t : Int)) = true then 1 else 0) = (if (some u == some t) = true then 1 else 0)
      by_cases h : u = t
      · subst h; simp
      · have h1 : ¬ ((u : Int) = (t : Int)) := by omega
        simp [h, h1]
def spIsD (K : Frg) : Sp := fun vs H Q _ => ∃ v cs ls da D, vs = [v, .ref da] ∧ WN H v cs ls ∧ WG cs ls ∧ SqL K H da (D.map vo) ∧ DOk cs ls D ∧ RetG (.bl true) H Q
theorem sc_law_is_dealing : FnScope N_law_is_dealing ["_law_wishes_here", "_law_thing"] (defScope s_law_is_dealing) := ⟨rfl, rfl, rfl, by decide +kernel, rfl, by decide +kernel, by decide +kernel⟩
theorem row_in {cs : List Nat} {ls : List (List (List Nat))} {D : List (Option Nat)} (W : WG cs ls) (h : Prp ls D) {a t : Nat} (hd : dl D a = some t) : a < ls.length ∧ t ∈ (ls[a]?.getD []).flatten ∧ (ls[a]?.getD []).flatten.length ≤ 6 ∧ t < cs.length := by
  obtain ⟨h1, h2⟩ := dl_lt hd
  have ha : a < ls.length := by have := h.1; omega
  have hr : ls[a]? = some ls[a] := List.getElem?_eq_getElem ha
  have hm := List.mem_of_getElem? hr
  have ht := h.2 a t _ h2 hr
  have hg : ls[a]?.getD [] = ls[a] := by rw [hr]; rfl
  rw [hg]
  obtain ⟨row, hrow, htr⟩ := List.mem_flatten.mp ht
  exact ⟨ha, ht, W.fl hm, ((W.rk hm).2.1 row hrow).2 t htr⟩
theorem pv_notin_wished {σ : L2.St} {H : Hp} {tx ta tb : TE} {E : XK} {v : V} {cs : List Nat} {ls : List (List (List Nat))} {a t : Nat} (hx : Pv tx σ H (vn t)) (ha : Pv ta σ H v) (hb : Pv tb σ H (vn a)) (hW : WN H v cs ls) (hal : a < ls.length) (hz : (ls[a]?.getD []).flatten.length ≤ 50) (ht : t ∈ (ls[a]?.getD []).flatten) :
    Pv (tOp (rIn K true) tx (tCall (spWished K) [] E (tCons ta (tCons tb tNil)))) σ H (.bl false) := fun H1 e1 Q q => hx H1 e1 _ fun H2 e2 => by
  have e02 := e1.trans e2
  refine pva_2 ha hb H2 e02 _ fun H3 e3 => ?_
  refine ⟨v, cs, ls, a, rfl, hW.mn (e02.trans e3), hal, hz, fun ts hts p H4 hp e4 h4 => ⟨p, _, rfl, .inl (SqL.of h4), rfl, flat_n _, ?_⟩⟩
  have : inV (vn t) (ts.map vn) = true := by rw [inV_n]; exact decide_eq_true (hts.symm.subset ht)
  rw [this]
  exact q H4 (e2.trans (e3.trans e4))
theorem ok_law_is_dealing (G : Gx K mg) : Known P w K mg base CX0 2 "_law_is_dealing" ["_law_wishes_here", "_law_thing"] (spIsD K) := by
  have sc := sc_law_is_dealing
  have k_law_is_whole := ok_law_is_whole (P := P) (w := w) (base := base) G
  have k_law_wished := ok_law_wished (P := P) (w := w) (base := base) G
  refine G.f_law_is_dealing.known sc (fun _ _ _ _ _ _ us hl => match us, hl with | [_, _], _ => rfl) (fun vs H Q E h => ?_) (fun cdv A outer s H vs Q E hr h => ?_)
  · obtain ⟨v, cs, ls, da, D, rfl, _⟩ := h; rfl
  · obtain ⟨v, cs, ls, da, D, rfl, hW, W, hd, hO, q⟩ := h
    refine ⟨_, (pss_cons (ps_if (PW.pt (pw_or (pt_not (pt_val (pe_callB call_isi (by rfl) G.n_isinstance (by decide +kernel) (pa_cons (pv 1) (pa_cons (pe_bltn (by rfl) G.n_list (by decide +kernel) (v := .ty "list") rfl) pa_nil))))) (pw_or1 (pt_cmpR op_ne (pe_callB call_len_seq (by rfl) G.n_len (by decide +kernel) (pa_cons (pv 1) pa_nil)) (pe_callB call_len_seq (by rfl) G.n_len (by decide +kernel) (pa_cons (pe_ix ix_tup (pv 0) pe_int (fun _ _ => rfl)) pa_nil)) (nomark _)))))
      (pss_one (ps_ret pe_bl)) pss_nil)
      (pss_cons (ps_for PassesOwn.never rfl (pi_enum rfl G.n_enumerate (pa_cons (pv 1) pa_nil)) (pg_tup rfl (pgs_cons (pg_name (i := 2) sc.nd rfl (Or.inl rfl)) (pgs_cons (pg_name (i := 3) sc.nd rfl (Or.inl rfl)) pgs_nil)))
      (pss_one (ps_if (pt_cmpR op_notN (pv 3) pe_non (nomark _))
      (pss_cons (ps_if (PW.pt (pw_or (pt_not (pt_val (pe_kn k_law_is_whole (hr.mono (by decide)) pass0 (pa_cons (pv 3) pa_nil)))) (pw_or1 (pt_cmpR op_notIn_seq (pv 3) (pe_kn k_law_wished (hr.mono (by decide)) pass0 (pa_cons (pv 0) (pa_cons (pv 2) pa_nil))) rfl))))
      (pss_one (ps_ret pe_bl)) pss_nil)
      (pss_one (ps_if (pt_cmpR op_gt (pe_bm PySem.F.plainAttrs_list PySem.F.slot_list_count PySem.F.type_list_count mt_countV (pv 1) (pa_cons (pv 3) pa_nil)) (pe_ix ix_list (pe_ix ix_tup (pv 0) pe_int (fun _ _ => rfl)) (pv 3) (fun _ _ => rfl)) (nomark _))
      (pss_one (ps_ret pe_bl)) pss_nil))) pss_nil)))
      (pss_one (ps_ret pe_bl)))), ?_⟩
    obtain ⟨p, va, b, us, e0, hT, hb, hul⟩ := wn_lens hW
    obtain ⟨p', ca, vb, e0', hT', hca⟩ := wn_copies hW
    rw [e0] at e0'
    cases e0'
    subst e0
    refine st_seq ?_
    refine ss_if (b := false || false) (pt_or (pt_n (b := true) (pt_b (pv_isT (pv_var rfl) fun H1 e => tyx_l (SqL.mn e hd)))) fun _ => pt_t (pv_ne (pv_len (n := ls.length) (pv_var rfl) (.inl hd) (by rw [List.length_map, hO.prp.1])) (pv_len (n := ls.length) (pv_ixT (pv_var rfl) pv_c (SqT.of hT) rfl) (.inl (SqL.of hb)) hul) rfl (by rw [dec_nn]; simp))) (fun H1 e h => nomatch h) fun H1 e1 _ => ?_
    refine st_next ?_
    dsimp only
    refine st_seq ?_
    refine w_forE (fun Q q => ⟨_, rfl, q⟩) (SqL.mn e1 hd) (fun j σ H' => ∃ y2 y3, σ = [some (.ref p), some (.ref da), y2, y3] ∧ Same H H') ⟨_, _, rfl, e1⟩ (fun j σ H' _ ⟨_, _, _, e⟩ => SqL.mn e hd) ?_ ?_
    · rintro j y σ H2 H3 hj ⟨y2, y3, rfl, e2⟩ e3
      have hjl : j < D.length := by have := (List.getElem?_eq_some_iff.mp hj).1; rwa [List.length_map] at this
      rw [d_get hjl] at hj
      cases hj
      cases hd2 : dl D j with
      | none =>
        refine ss_if (b := false) (pt_t (pv_notN (pv_var rfl) rfl)) (fun H4 e4 h => nomatch h) fun H4 e4 _ => ?_
        exact ⟨some (vn j), some .non, rfl, e2.trans (e3.trans e4)⟩
      | some t =>
        obtain ⟨ha, ht, hz, htm⟩ := row_in W hO.prp hd2
        refine ss_if (b := true) (pt_t (pv_notN (pv_var rfl) rfl)) (fun H4 e4 _ => ?_) fun H4 e4 h => nomatch h
        have e04 := e2.trans (e3.trans e4)
        refine st_seq ?_
        refine ss_if (b := false || false) (pt_or (pt_n (b := true) (pt_b (whole_pv (sp := spWhole) (pv_var rfl)))) fun _ => pt_t (pv_notin_wished (pv_var rfl) (pv_var rfl) (pv_var rfl) (hW.mn e04) ha (by omega) ht)) (fun H5 e5 h => nomatch h) fun H5 e5 _ => ?_
        have e05 := e04.trans e5
        refine st_next ?_
        dsimp only
        have hcap := hO.cap t htm
        refine ss_if (b := false) (pt_t (pv_cmp (pv_countV (n := D.count (some t)) (pv_var rfl) (pv_var rfl) (SqL.mn e05 hd) rfl (ni_all ni_vo) countP_vo) (pv_ixL (v := vn (csf cs t)) (pv_ixT (pv_var rfl) pv_c (SqT.of (e05 _ _ hT')) rfl) (pv_var rfl) (SqL.of (e05 _ _ hca)) (atI_nat (by rw [List.getElem?_map, List.getElem?_eq_getElem htm]; unfold csf; rw [List.getElem?_eq_getElem htm]; rfl))) (decide_eq_false (by omega)))) (fun H6 e6 h => nomatch h) fun H6 e6 _ => ?_
        exact ⟨some (vn j), some (vn t), rfl, e05.trans e6⟩
    · rintro σ H2 ⟨y2, y3, rfl, e2⟩
      dsimp only
      exact ss_ret pv_c (q.mn e2)
/-! _law_proper -/
def spProper (K : Frg) : Sp := fun vs H Q _ => ∃ (a : Addr) (ns : List Int) (n : Nat), vs = [.ref a, vn n] ∧ SqL K H a (ns.map V.int) ∧ ns.length = n ∧ n ≤ 1000 ∧ (∀ i, 0 ≤ qf ns i) ∧ RetG (.bl true) H Q
theorem sc_law_proper : FnScope N_law_proper ["_law_thing", "_law_many"] (defScope s_law_proper) := ⟨rfl, rfl, rfl, by decide +kernel, rfl, by decide +kernel, by decide +kernel⟩
theorem ok_law_proper (G : Gx K mg) : Known P w K mg base CX0 2 "_law_proper" ["_law_thing", "_law_many"] (spProper K) := by
  have sc := sc_law_proper
  have k_law_is_whole := ok_law_is_whole (P := P) (w := w) (base := base) G
  refine G.f_law_proper.known sc (fun _ _ _ _ _ _ us hl => match us, hl with | [_, _], _ => rfl) (fun vs H Q E h => ?_) (fun cdv A outer s H vs Q E hr h => ?_)
  · obtain ⟨a, ns, n, rfl, _⟩ := h; rfl
  · obtain ⟨a, ns, n, rfl, ha, hn, hz, h0, q⟩ := h
    refine ⟨_, (pss_cons (ps_if (PW.pt (pw_or (pt_not (pt_val (pe_callB call_isi (by rfl) G.n_isinstance (by decide +kernel) (pa_cons (pv 0) (pa_cons (pe_bltn (by rfl) G.n_list (by decide +kernel) (v := .ty "list") rfl) pa_nil))))) (pw_or1 (pt_cmpR op_ne (pe_callB call_len_seq (by rfl) G.n_len (by decide +kernel) (pa_cons (pv 0) pa_nil)) (pv 1) (nomark _)))))
      (pss_one (ps_ret pe_bl)) pss_nil)
      (pss_one (ps_ret (pe_callB (cr_all rfl) (by rfl) G.n_all (by decide +kernel) (pa_cons (pe_lc (own := [("_law_one", 2)]) rfl sc.nd (pi_list (pv 0)) (blkOk_by (by rfl)) (fun _ _ _ _ _ => (pg_name (i := 2) sc.nd rfl (Or.inl rfl))) (fun _ _ _ _ _ => pts_nil) (fun _ _ _ _ _ => (pe_and (pe_kn k_law_is_whole (hr.mono (by decide)) pass0 (pa_cons (pv 2) pa_nil)) (pe_one (pe_cmpR op_ge (pv 2) pe_int (nomark _)))))) pa_nil))))), ?_⟩
    refine st_seq ?_
    refine ss_if (b := false || false) (pt_or (pt_n (b := true) (pt_b (pv_isT (pv_var rfl) fun H1 e => tyx_l (SqL.mn e ha)))) fun _ => pt_t (pv_ne (pv_len (n := n) (pv_var rfl) (.inl ha) (by rw [List.length_map, hn])) (pv_var rfl) rfl (by rw [dec_nn]; simp))) (fun H1 e h => nomatch h) fun H1 e1 _ => ?_
    refine st_next ?_
    dsimp only
    refine sr_cb (sr_1 ?_)
    refine c_lcL (xs := ns.map V.int) (fun i => .bl true) (val_var rfl) (SqL.mn e1 ha) (by rw [List.length_map]; omega) (by intro x; rfl) (fun i x hx => ?_) fun D H2 hD e2 hd => ?_
    · have hil : i < ns.length := by have := (List.getElem?_eq_some_iff.mp hx).1; rwa [List.length_map] at this
      rw [q_get hil] at hx
      cases hx
      have := h0 i
      exact pv_and (b := true) (c := true) (whole_pv (sp := spWhole) (pv_var rfl)) fun _ => pv_cmp (pv_var rfl) pv_c (decide_eq_true (by omega))
    · refine ⟨D, List.replicate ns.length true, rfl, SqL.of (hd.trans ?_), ?_⟩
      · congr 2
        rw [List.length_map]
        refine range_map (by simp) fun i x hx => ?_
        rw [List.map_replicate] at hx
        exact (List.mem_replicate.mp (List.mem_of_getElem? hx)).2.symm
      · have : (List.replicate ns.length true).all id = true := List.all_eq_true.mpr fun x hx => (List.mem_replicate.mp hx).2
        rw [this]
        exact q _ (e1.trans e2)
/-! _law_shown_best -/
def spShown (K : Frg) : Sp := fun vs H Q _ => ∃ v x cs ls s da pt ap pp D asks prices, vs = [v, x, .ref da, .ref pt] ∧ WN H v cs ls ∧ WG cs ls ∧ AOk K H x s ∧ SqL K H da (D.map vo) ∧ SqT K H pt [.int 1, .ref ap, .ref pp] ∧ SqL K H ap (asks.map V.int) ∧ SqL K H pp (prices.map V.int) ∧ BOk s cs ls D asks prices ∧ RetG (.bl true) H Q
theorem sc_law_shown_best : FnScope N_law_shown_best ["_law_wishes_here", "_law_aim", "_law_dealing", "_law_paper"] (defScope s_law_shown_best) := ⟨rfl, rfl, rfl, by decide +kernel, rfl, by decide +kernel, by decide +kernel⟩
theorem BOk.dok {s : Str} {cs : List Nat} {ls : List (List (List Nat))} {D : List (Option Nat)} {asks prices : List Int} (h : BOk s cs ls D asks prices) : DOk cs ls D := ⟨h.prp, h.pap.cap⟩
theorem sum_qf {ns : List Int} : ns.sum = sumR ns.length (qf ns) := by
  have := sum_list (f := fun x : Int => x) (d := 0) (xs := ns)
  rw [List.map_id'] at this
  exact this
theorem ok_law_shown_best (G : Gx K mg) : Known P w K mg base CX0 4 "_law_shown_best" ["_law_wishes_here", "_law_aim", "_law_dealing", "_law_paper"] (spShown K) := by
  have sc := sc_law_shown_best
  have k_law_is_whole := ok_law_is_whole (P := P) (w := w) (base := base) G
  have k_law_is_dealing := ok_law_is_dealing (P := P) (w := w) (base := base) G
  have k_law_proper := ok_law_proper (P := P) (w := w) (base := base) G
  have k_law_wished := ok_law_wished (P := P) (w := w) (base := base) G
  have k_law_worth := ok_law_worth (P := P) (w := w) (base := base) G
  have k_law_whole := ok_law_whole (P := P) (w := w) (base := base) G
  refine G.f_law_shown_best.known sc (fun _ _ _ _ _ _ us hl => match us, hl with | [_, _, _, _], _ => rfl) (fun vs H Q E h => ?_) (fun cdv A outer s H vs Q E hr h => ?_)
  · obtain ⟨v, x, cs, ls, s, da, pt, ap, pp, D, asks, prices, rfl, _⟩ := h; rfl
  · obtain ⟨v, x, cs, ls, s, da, pt, ap, pp, D, asks, prices, rfl, hW, W, hA, hd, hT, ha, hp, hB, q⟩ := h
    refine ⟨_, (pss_cons (ps_if (PW.pt (pw_or (pt_not (pt_val (pe_kn k_law_is_dealing (hr.mono (by decide)) pass0 (pa_cons (pv 0) (pa_cons (pv 2) pa_nil))))) (pw_or (pt_not (pt_val (pe_callB call_isi (by rfl) G.n_isinstance (by decide +kernel) (pa_cons (pv 3) (pa_cons (pe_bltn (by rfl) G.n_tuple (by decide +kernel) (v := .ty "tuple") rfl) pa_nil))))) (pw_or1 (pt_cmpR op_ne (pe_callB call_len_seq (by rfl) G.n_len (by decide +kernel) (pa_cons (pv 3) pa_nil)) pe_int (nomark _))))))
      (pss_one (ps_ret pe_bl)) pss_nil)
      (pss_cons (ps_asg (pv 3) (pg_tup rfl (pgs_cons (pg_name (i := 4) sc.nd rfl (Or.inl rfl)) (pgs_cons (pg_name (i := 5) sc.nd rfl (Or.inl rfl)) (pgs_cons (pg_name (i := 6) sc.nd rfl (Or.inl rfl)) pgs_nil)))))
      (pss_cons (ps_if (PW.pt (pw_or (pt_not (pt_val (pe_kn k_law_is_whole (hr.mono (by decide)) pass0 (pa_cons (pv 4) pa_nil)))) (pw_or1 (pt_cmpR op_ne (pv 4) pe_int (nomark _)))))
      (pss_one (ps_ret pe_bl)) pss_nil)
      (pss_cons (ps_if (PW.pt (pw_or (pt_not (pt_val (pe_kn k_law_proper (hr.mono (by decide)) pass0 (pa_cons (pv 5) (pa_cons (pe_callB call_len_seq (by rfl) G.n_len (by decide +kernel) (pa_cons (pe_ix ix_tup (pv 0) pe_int (fun _ _ => rfl)) pa_nil)) pa_nil))))) (pw_or1 (pt_not (pt_val (pe_kn k_law_proper (hr.mono (by decide)) pass0 (pa_cons (pv 6) (pa_cons (pe_callB call_len_seq (by rfl) G.n_len (by decide +kernel) (pa_cons (pe_ix ix_tup (pv 0) pe_int (fun _ _ => rfl)) pa_nil)) pa_nil))))))))
      (pss_one (ps_ret pe_bl)) pss_nil)
      (pss_cons (ps_for PassesOwn.never rfl (pi_range1 rfl G.n_range (pa_cons (pe_callB call_len_seq (by rfl) G.n_len (by decide +kernel) (pa_cons (pv 5) pa_nil)) pa_nil)) (pg_name (i := 7) sc.nd rfl (Or.inl rfl))
      (pss_one (ps_for PassesOwn.never rfl (pi_list (pe_kn k_law_wished (hr.mono (by decide)) pass0 (pa_cons (pv 0) (pa_cons (pv 7) pa_nil)))) (pg_name (i := 8) sc.nd rfl (Or.inl rfl))
      (pss_one (ps_if (pt_cmpR op_lt (pe_op op_add (pe_ix ix_list (pv 5) (pv 7) (fun _ _ => rfl)) (pe_ix ix_list (pv 6) (pv 8) (fun _ _ => rfl))) (pe_kn k_law_worth (hr.mono (by decide)) pass0 (pa_cons (pv 0) (pa_cons (pv 1) (pa_cons (pv 7) (pa_cons (pv 8) pa_nil))))) (nomark _))
      (pss_one (ps_ret pe_bl)) pss_nil)))))
      (pss_cons (ps_set (i := 9) sc.nd rfl (Or.inl rfl) (pe_callB (cr_sum rfl) (by rfl) G.n_sum (by decide +kernel) (pa_cons (pv 5) pa_nil)))
      (pss_cons (ps_for PassesOwn.never rfl (pi_zip rfl G.n_zip (pa_cons (pv 6) (pa_cons (pe_ix ix_tup (pv 0) pe_int (fun _ _ => rfl)) pa_nil))) (pg_tup rfl (pgs_cons (pg_name (i := 10) sc.nd rfl (Or.inl rfl)) (pgs_cons (pg_name (i := 11) sc.nd rfl (Or.inl rfl)) pgs_nil)))
      (pss_one (ps_set (i := 9) sc.nd rfl (Or.inl rfl) (pe_op op_add (pv 9) (pe_op op_mul (pv 10) (pv 11))))))
      (pss_one (ps_ret (pe_cmpR op_eq (pv 9) (pe_kn k_law_whole (hr.mono (by decide)) pass0 (pa_cons (pv 0) (pa_cons (pv 1) (pa_cons (pv 2) pa_nil)))) (nomark _))))))))))), ?_⟩
    obtain ⟨p, va, b, us, e0, hTw, hb, hul⟩ := wn_lens hW
    obtain ⟨p', ca, vb, e0', hTw', hca⟩ := wn_copies hW
    rw [e0] at e0'
    cases e0'
    subst e0
    have h7 := W.all
    have hla := hB.pap.la
    have hlp := hB.pap.lp
    have hlD := hB.len
    refine st_seq ?_
    refine ss_if (b := false || (false || false)) (pt_or (pt_n (b := true) (pt_b (pv_call (v := .bl true) (pva_2 (pv_var rfl) (pv_var rfl)) fun H1 e Q q => ⟨_, cs, ls, da, D, rfl, hW.mn e, W, SqL.mn e hd, hB.dok, q⟩))) fun _ => pt_or (pt_n (b := true) (pt_b (pv_isT (pv_var rfl) fun H1 e => tyx_t (SqT.mn e hT)))) fun _ => pt_t (pv_ne (pv_len (n := 3) (pv_var rfl) (.inr hT) rfl) pv_c rfl (by decide))) (fun H1 e h => nomatch h) fun H1 e1 _ => ?_
    refine st_next ?_
    dsimp only
    refine st_seq ⟨_, rfl, w_tg3 (SqT.mn e1 hT) ?_⟩
    dsimp only
    refine st_seq ?_
    refine ss_if (b := false || false) (pt_or (pt_n (b := true) (pt_b (whole_pv (sp := spWhole) (pv_var rfl)))) fun _ => pt_t (pv_ne (pv_var rfl) pv_c rfl (by decide))) (fun H2 e h => nomatch h) fun H2 e2 _ => ?_
    have e02 := e1.trans e2
    refine st_next ?_
    dsimp only
    refine st_seq ?_
    refine ss_if (b := false || false) (pt_or (pt_n (b := true) (pt_b (pv_call (v := .bl true) (pva_2 (pv_var rfl) (pv_len (n := ls.length) (pv_ixT (pv_var rfl) pv_c (SqT.of (e02 _ _ hTw)) rfl) (.inl (SqL.of (e02 _ _ hb))) hul)) fun H3 e Q q => ⟨ap, asks, ls.length, rfl, SqL.mn (e02.trans e) ha, by omega, by omega, hB.pap.a0, q⟩))) fun _ => pt_n (b := true) (pt_b (pv_call (v := .bl true) (pva_2 (pv_var rfl) (pv_len (n := cs.length) (pv_ixT (pv_var rfl) pv_c (SqT.of (e02 _ _ hTw')) rfl) (.inl (SqL.of (e02 _ _ hca))) (by rw [List.length_map]))) fun H3 e Q q => ⟨pp, prices, cs.length, rfl, SqL.mn (e02.trans e) hp, hlp, by omega, hB.pap.p0, q⟩))) (fun H3 e h => nomatch h) fun H3 e3 _ => ?_
    have e03 := e02.trans e3
    refine st_next ?_
    dsimp only
    refine st_seq ?_
    refine w_forR (n := (ls.length : Int)) (fun Q q => ⟨_, rfl, ap, _, rfl, .inl (SqL.mn e03 ha), by rw [List.length_map, hla, hlD]; exact q⟩) (by omega) (by omega) (fun j σ H' => ∃ y7 y8, σ = [some (.ref p), some x, some (.ref da), some (.ref pt), some (.int 1), some (.ref ap), some (.ref pp), y7, y8, none, none, none] ∧ Same H H') ⟨_, _, rfl, e03⟩ ?_ ?_
    · rintro j σ H4 hj ⟨y7, y8, rfl, e4⟩
      have hjl : j < ls.length := by omega
      have hr' : ls[j]? = some ls[j] := List.getElem?_eq_getElem hjl
      have hg : ls[j]?.getD [] = ls[j] := by rw [hr']; rfl
      have hfl := W.fl (List.mem_of_getElem? hr')
      refine f_open (c_call (pva_2 (pv_var rfl) (pv_var rfl)) fun H5 e5 => ⟨_, cs, ls, j, rfl, hW.mn (e4.trans e5), hjl, by rw [hg]; omega, fun ts hts tp H6 htp e6 h6 => ⟨tp, rfl, ⟨_, SqL.of h6⟩, ?_⟩⟩)
      have e06 := e4.trans (e5.trans e6)
      refine for_list (fun k σ H' => ∃ y8, σ = [some (.ref p), some x, some (.ref da), some (.ref pt), some (.int 1), some (.ref ap), some (.ref pp), some (vn j), y8, none, none, none] ∧ Same H6 H') ⟨_, rfl, Same.refl _⟩ (fun k σ H' _ ⟨_, _, e⟩ => SqL.of (e _ _ h6)) ?_ ?_
      · rintro k u σ H7 hk ⟨y8, rfl, e7⟩
        rw [List.getElem?_map] at hk
        cases hk' : ts[k]? with
        | none => rw [hk'] at hk; cases hk
        | some t =>
        rw [hk'] at hk
        cases hk
        have ht : t ∈ (ls[j]?.getD []).flatten := hts.subset (List.mem_of_getElem? hk')
        have hw : wL s ls j t = some (wth s ls j t) := by unfold wL; rw [if_pos ⟨hjl, ht⟩]
        have htm := (wL_hw W hw).2.2.2.2.2
        have hcov := hB.pap.cov j (by omega) t _ hw
        have e07 := e06.trans e7
        refine ss_if (b := false) (pt_t (pv_cmp (pv_add (pv_ixL (pv_var rfl) (pv_var rfl) (SqL.mn e07 ha) (atI_nat (q_get (by omega)))) (pv_ixL (pv_var rfl) (pv_var rfl) (SqL.mn e07 hp) (atI_nat (q_get (by omega))))) (pv_call (v := .int (wth s ls j t)) (pva_cons (pv_var rfl) (pva_3 (pv_var rfl) (pv_var rfl) (pv_var rfl))) fun H8 e Q q => ⟨_, x, cs, ls, s, j, t, rfl, (hW.mn (e07.trans e)).ws, W, hA.mn (e07.trans e), hjl, ht, q⟩) (decide_eq_false (by omega)))) (fun H8 e8 h => nomatch h) fun H8 e8 _ => ?_
        exact ⟨_, rfl, e7.trans e8⟩
      · rintro σ H7 ⟨y8, rfl, e7⟩
        exact ⟨_, _, rfl, e06.trans e7⟩
    · rintro σ H4 ⟨y7, y8, rfl, e4⟩
      dsimp only
      refine st_seq ?_
      refine ss_set (v := .int asks.sum) (pv_cb (pva_1 (pv_var rfl)) fun H5 e Q q => ⟨ap, asks, rfl, SqL.mn (e4.trans e) ha, q H5 (Same.refl _)⟩) fun H5 e5 => ?_
      have e05 := e4.trans e5
      dsimp only
      refine st_seq ?_
      refine w_forZ (xs := prices.map V.int) (ys := cs.map vn) (fun Q q => ⟨_, rfl, vl_ixT (val_var rfl) val_c (SqT.of (e05 _ _ hTw')) rfl _ q⟩) (SqL.mn e05 hp) (SqL.of (e05 _ _ hca)) (by rw [List.length_map, List.length_map, hlp]) (fun j σ H' => ∃ y10 y11, σ = [some (.ref p), some x, some (.ref da), some (.ref pt), some (.int 1), some (.ref ap), some (.ref pp), y7, y8, some (.int (asks.sum + sumR j fun t => (csf cs t : Int) * qf prices t)), y10, y11] ∧ Same H H') ⟨_, _, by show _ = [_, _, _, _, _, _, _, _, _, some (V.int (asks.sum + 0)), _, _]; rw [Int.add_zero]; rfl, e05⟩ (fun j σ H' _ ⟨_, _, _, e⟩ => ⟨SqL.mn e hp, SqL.of (e _ _ hca)⟩) ?_ ?_
      · rintro j u z σ H6 H7 hu hz ⟨y10, y11, rfl, e6⟩ e7
        have hjl : j < prices.length := by have := (List.getElem?_eq_some_iff.mp hu).1; rwa [List.length_map] at this
        rw [q_get hjl] at hu
        cases hu
        have hjc : j < cs.length := by omega
        rw [List.getElem?_map, List.getElem?_eq_getElem hjc] at hz
        cases hz
        have hcs : csf cs j = cs[j] := by unfold csf; rw [List.getElem?_eq_getElem hjc]; rfl
        have hc7 := h7.2.1 _ (List.getElem_mem hjc)
        refine ss_set (pv_add (pv_var rfl) (pv_mul (i := qf prices j) (j := (cs[j] : Int)) (pv_var rfl) (pv_var rfl) (.inr ⟨by omega, by omega⟩))) fun H8 e8 => ?_
        refine ⟨some (.int (qf prices j)), some (vn cs[j]), ?_, e6.trans (e7.trans e8)⟩
        rw [sumR_succ, hcs, ← Int.add_assoc, Int.mul_comm (cs[j] : Int)]
        rfl
      · rintro σ H6 ⟨y10, y11, rfl, e6⟩
        rw [List.length_map, hlp]
        dsimp only
        have hcl := hB.pap.claim fun a t h => (wL_hw W (hB.pap.eq a t h)).2.2.2.2.2
        refine ss_ret (v := .bl true) (pv_eq (x := .int (asks.sum + sumR cs.length fun t => (csf cs t : Int) * qf prices t)) (y := .int (worthD (wL s ls) D)) (pv_var rfl) (pv_call (pva_3 (pv_var rfl) (pv_var rfl) (pv_var rfl)) fun H7 e Q q => ⟨_, x, cs, ls, s, da, D, rfl, (hW.mn (e6.trans e)).ws, W, hA.mn (e6.trans e), SqL.mn (e6.trans e) hd, hB.prp, q⟩) rfl ?_) (q.mn e6)
        rw [dec_i, sum_qf, hla, hcl]
        exact decide_eq_true rfl
end
end Wd
set_option Elab.async false
set_option linter.all false
set_option maxRecDepth 100000
set_option maxHeartbeats 4000000
/-! all the dealings, listed: plain -/
namespace Wd
/-- dealings that hold so far -/
def GdD (w : Nat → Nat → Option Int) (cs : Nat → Nat) (m : Nat) (D : List (Option Nat)) : Prop := (∀ a t, dl D a = some t → t < m ∧ ∃ x, w a t = some x) ∧ ∀ t, t < m → D.count (some t) ≤ cs t
def condB (cs : Nat → Nat) (D : List (Option Nat)) : Option Nat → Bool
  | none => true
  | some t => decide (D.count (some t) < cs t)
def extB (cs : Nat → Nat) (S : List (Option Nat × Int)) (e : List (Option Nat) × Int) : List (List (Option Nat) × Int) := (S.filter fun s => condB cs e.1 s.1).map fun s => (e.1 ++ [s.1], e.2 + s.2)
theorem ext_snoc {cs : Nat → Nat} {S : List (Option Nat × Int)} {s : Option Nat × Int} {e : List (Option Nat) × Int} : extB cs (S ++ [s]) e = extB cs S e ++ if condB cs e.1 s.1 = true then [(e.1 ++ [s.1], e.2 + s.2)] else [] := by
  unfold extB
  rw [List.filter_append, List.map_append]
  congr 1
  by_cases h : condB cs e.1 s.1 = true
  · simp [h]
  · simp [h]
theorem ext_len {cs : Nat → Nat} {S : List (Option Nat × Int)} {e : List (Option Nat) × Int} : (extB cs S e).length ≤ S.length := by
  unfold extB
  rw [List.length_map]
  exact List.length_filter_le _ _
theorem flatMap_len {α β : Type} {f : α → List β} {n : Nat} (h : ∀ x, (f x).length ≤ n) : ∀ {xs : List α}, (xs.flatMap f).length ≤ xs.length * n
  | [] => by simp
  | x :: xs => by
    rw [List.flatMap_cons, List.length_append, List.length_cons, Nat.add_mul, Nat.one_mul]
    have := flatMap_len h (xs := xs)
    have := h x
    omega
structure FI (w : Nat → Nat → Option Int) (cs : Nat → Nat) (m j : Nat) (F : List (List (Option Nat) × Int)) : Prop where
  snd : ∀ e ∈ F, e.1.length = j ∧ GdD w cs m e.1 ∧ e.2 = worthD w e.1
  all : ∀ D, D.length = j → GdD w cs m D → (D, worthD w D) ∈ F
def vlO (w : Nat → Nat → Option Int) (a : Nat) : Option Nat → Int
  | none => 0
  | some t => (w a t).getD 0
theorem dl_old {D : List (Option Nat)} {o : Option Nat} {a : Nat} (h : a < D.length) : dl (D ++ [o]) a = dl D a := by
  unfold dl
  rw [List.getElem?_append_left h]
theorem dl_new {D : List (Option Nat)} {o : Option Nat} : dl (D ++ [o]) D.length = o := by
  unfold dl
  rw [List.getElem?_append_right (Nat.le_refl _), Nat.sub_self]
  rfl
theorem worthD_snoc {w : Nat → Nat → Option Int} {D : List (Option Nat)} {o : Option Nat} : worthD w (D ++ [o]) = worthD w D + vlO w D.length o := by
  unfold worthD
  rw [List.length_append, List.length_singleton, sumR_succ]
  congr 1
  · refine sumR_congr fun a ha => ?_
    rw [dl_old ha]
  · rw [dl_new]
    cases o <;> rfl
theorem fi_zero {w : Nat → Nat → Option Int} {cs : Nat → Nat} {m : Nat} : FI w cs m 0 [([], 0)] :=
  ⟨fun e he => by
    rw [List.mem_singleton.mp he]
    exact ⟨rfl, ⟨(fun a t h => (by cases h)), fun t _ => Nat.zero_le _⟩, rfl⟩,
   fun D hD _ => by
    rw [List.eq_nil_of_length_eq_zero hD]
    exact List.mem_singleton.mpr rfl⟩
theorem fi_succ {w : Nat → Nat → Option Int} {cs : Nat → Nat} {m j : Nat} {F : List (List (Option Nat) × Int)} {S : List (Option Nat × Int)} (h : FI w cs m j F) (hS : ∀ o x, (o, x) ∈ S ↔ x = vlO w j o ∧ ∀ t, o = some t → ∃ y, w j t = some y) (hw : ∀ t x, w j t = some x → t < m) : FI w cs m (j + 1) (F.flatMap (extB cs S)) := by
  constructor
  · intro e he
    obtain ⟨f, hf, he⟩ := List.mem_flatMap.mp he
    obtain ⟨s, hs, rfl⟩ := List.mem_map.mp he
    obtain ⟨hs, hc⟩ := List.mem_filter.mp hs
    obtain ⟨h1, h2, h3⟩ := h.snd f hf
    obtain ⟨h4, h5⟩ := (hS s.1 s.2).mp hs
    refine ⟨by show (f.1 ++ [s.1]).length = _; rw [List.length_append, h1]; rfl, ⟨fun a t hd => ?_, fun t ht => ?_⟩, ?_⟩
    · by_cases ha : a < f.1.length
      · rw [dl_old ha] at hd
        exact h2.1 a t hd
      · have hl := (dl_lt hd).1
        rw [List.length_append, List.length_singleton] at hl
        have ea : a = f.1.length := by omega
        subst ea
        rw [dl_new] at hd
        obtain ⟨y, hy⟩ := h5 t hd
        rw [h1]
        exact ⟨hw t y hy, y, hy⟩
    · show (f.1 ++ [s.1]).count (some t) ≤ cs t
      rw [List.count_append]
      have h6 := h2.2 t ht
      by_cases e : s.1 = some t
      · rw [e] at hc ⊢
        have hc' : f.1.count (some t) < cs t := of_decide_eq_true hc
        simp
        omega
      · rw [List.count_singleton, if_neg (by simpa using e)]
        exact h6
    · show f.2 + s.2 = worthD w (f.1 ++ [s.1])
      rw [worthD_snoc, h3, h4, h1]
  · intro D hD hg
    have hne : D ≠ [] := fun e => by rw [e] at hD; cases hD
    obtain ⟨B, o, rfl⟩ : ∃ B o, D = B ++ [o] := ⟨D.dropLast, D.getLast hne, (List.dropLast_concat_getLast hne).symm⟩
    rw [List.length_append, List.length_singleton] at hD
    have hB : B.length = j := by omega
    have hgB : GdD w cs m B := ⟨fun a t hd => by
      have ha := (dl_lt hd).1
      exact hg.1 a t (by rw [dl_old ha]; exact hd), fun t ht => by
      have := hg.2 t ht
      rw [List.count_append] at this
      omega⟩
    refine List.mem_flatMap.mpr ⟨_, h.all B hB hgB, List.mem_map.mpr ⟨(o, vlO w j o), List.mem_filter.mpr ⟨(hS o _).mpr ⟨rfl, fun t e => ?_⟩, ?_⟩, ?_⟩⟩
    · subst e
      have := (hg.1 B.length t dl_new).2
      rwa [hB] at this
    · show condB cs B o = true
      cases o with
      | none => rfl
      | some t =>
        have h1 := hg.2 t (hg.1 B.length t dl_new).1
        rw [List.count_append] at h1
        simp at h1
        exact decide_eq_true (by omega)
    · show (B ++ [o], worthD w B + vlO w j o) = _
      rw [worthD_snoc, hB]
end Wd
set_option Elab.async false
set_option linter.all false
set_option maxRecDepth 100000
set_option maxHeartbeats 4000000
/-! law_bests -/
namespace Wd
open PySem PySem.Spec PyProof.Rows L2
section
variable {K : Frg} {σ : L2.St} {H : Hp} {D : Ends} {te to ty ta tl : TE} {vs xs : List V} {Q : VK}
theorem ss_bests0 {i : Nat} (q : ∀ d t p H1, H p = none → Same H H1 → H1 d = some (.lst []) → H1 t = some (.tup [.ref d, .int 0]) → H1 p = some (.lst [.ref t]) → D.nx (σ.set i (some (.ref p))) H1) : tAsg (tLst (tCons (tTup (tCons (tLst tNil) (tCons (tC (.int 0)) tNil))) tNil)) (gName i) D σ H :=
  ⟨Nat.zero_le _, fun d hd => ⟨by show 2 ≤ _; rw [sizeLine_eq]; decide, fun t ht => ⟨by show 1 ≤ _; rw [sizeLine_eq]; decide, fun p hp =>
    q d t p _ ((same_new hd).trans (same_new ht) |>.free hp) (((same_new hd).trans (same_new ht)).trans (same_new hp)) (((same_new ht).trans (same_new hp)) _ _ upd_same) (same_new hp _ _ upd_same) upd_same⟩⟩⟩
theorem el_cat {a : Addr} {y : V} (ha : Pv ta σ H (.ref a)) (hy : Pv te σ H y) (h : H a = some (.lst xs)) (hz : xs.length + 1 ≤ sizeLine) : EvL (tOp rCat ta (tLst (tCons te tNil))) σ H (xs ++ [y]) := fun Q q => ha H (Same.refl _) _ fun H1 e1 => hy H1 e1 _ fun H2 e2 =>
  ⟨by show 1 ≤ _; rw [sizeLine_eq]; decide, fun p hp => ⟨a, p, xs, [y], rfl, rfl, ((e1.trans e2).trans (same_new hp)) _ _ h, upd_same, hz, fun r hr => q r _ (((e1.trans e2).trans (same_new hp)).free hr) (((e1.trans e2).trans (same_new hp)).trans (same_new hr)) upd_same⟩⟩
theorem ss_appLT {p : Addr} {zs : List V} {y : V} (ho : Pv to σ H (.ref p)) (hp : H p = some (.lst xs)) (hl : xs.length < sizeLine) (h : ∀ H1, Same H H1 → EvL te σ H1 zs) (hy : Pv ty σ H y) (q : ∀ d t H1, H d = none → H t = none → Same H H1 → H1 d = some (.lst zs) → H1 t = some (.tup [.ref d, y]) → D.nx σ (upd H1 p (.lst (xs ++ [.ref t])))) : tDrop (tBM K "list" rAppend to (tCons (tTup (tCons te (tCons ty tNil))) tNil)) D σ H :=
  ho.run fun H1 e1 => ⟨.inl ⟨rfl, xs, SqL.of (e1 _ _ hp)⟩, h H1 e1 _ fun d H2 hd e2 h2 => hy H2 (e1.trans e2) _ fun H3 e3 => ⟨by show 2 ≤ _; rw [sizeLine_eq]; decide, fun t ht =>
    ⟨p, xs, .ref t, rfl, rfl, ((e1.trans (e2.trans e3)).trans (same_new ht)) _ _ hp, hl, q d t _ (e1.free hd) ((e1.trans (e2.trans e3)).free ht) ((e1.trans (e2.trans e3)).trans (same_new ht)) (same_new ht _ _ (e3 _ _ h2)) upd_same⟩⟩⟩
/-- a comprehension, any target, some told -/
theorem lcG_go {a : Addr} {vs : List Nat} {tt : TT} {g : TG} (f : Nat → V) (b : Nat → Bool) (hx : SqL K H a xs) (hz : xs.length ≤ 1000000)
    (hg : ∀ i x H1, xs[i]? = some x → Same H H1 → ∀ R : L2.St → Hp → Prop, (∀ σ2 H2, Same H1 H2 → wipe σ2 vs = wipe σ vs → Pt tt σ2 H2 (b i) → Pv te σ2 H2 (f i) → R σ2 H2) → g x (wipe σ vs) H1 R)
    (q : RetL (((List.range xs.length).filter b).map f) H Q) : LcGo (Itl K a) g tt te vs σ H Q := by
  intro D hD
  refine lc_list (xs := xs) (fun i H' => Same H H' ∧ H' D = some (.lst (((List.range i).filter b).map f))) ⟨same_new hD, upd_same⟩ (fun i H' _ p => SqL.mn p.1 hx) (fun i x H1 hi p => ?_) (fun H' p => q D H' hD p.1 p.2)
  obtain ⟨e1, hu⟩ := p
  refine hg i x H1 hi e1 _ fun σ2 H2 e2 hw ht hp => ⟨hw, ht H2 (Same.refl _) _ fun H3 e3 => ?_⟩
  rw [List.range_succ, List.filter_append, List.map_append]
  cases hb : b i with
  | true =>
    rw [if_pos rfl]
    refine hp H3 e3 _ fun H4 e4 => ⟨_, (e2.trans (e3.trans e4)) _ _ hu, ?_, same_mut (e1.trans (e2.trans (e3.trans e4))) hD, ?_⟩
    · have h1 := List.length_filter_le b (List.range i)
      have := (List.getElem?_eq_some_iff.mp hi).1
      rw [List.length_range] at h1
      rw [List.length_map, sizeLine_eq]
      omega
    · rw [upd_same]
      simp [hb]
  | false =>
    rw [if_neg (fun h => nomatch h)]
    refine ⟨e1.trans (e2.trans e3), ?_⟩
    rw [(e2.trans e3) _ _ hu]
    simp [hb]
theorem pt_yes : Pt tYes σ H true := fun H1 e Q q => q H1 (Same.refl _)
theorem paired_of {α β : Type} {R : α → β → Prop} {f : Nat → α} {g : Nat → β} : ∀ {l : List Nat}, (∀ i ∈ l, R (f i) (g i)) → Paired R (l.map f) (l.map g)
  | [], _ => .nil
  | i :: l, h => .cons (h i (List.mem_cons_self ..)) (paired_of fun j hj => h j (List.mem_cons_of_mem _ hj))
end
theorem sr_setcb {i : Nat} {σ : L2.St} {H : Hp} {D : Ends} {r : List V → Hp → VK → Prop} {ta : TA} (h : ta σ H fun vs H1 => r vs H1 fun x H2 => D.nx (σ.set i (some x)) H2) : tAsg (tCB r ta) (gName i) D σ H := h
def PF (H : Hp) (u : V) (e : List (Option Nat) × Int) : Prop := ∃ p d, u = .ref p ∧ H p = some (.tup [.ref d, .int e.2]) ∧ H d = some (.lst (e.1.map vo))
def PSo (H : Hp) (u : V) (e : Option Nat × Int) : Prop := ∃ p, u = .ref p ∧ H p = some (.tup [vo e.1, .int e.2])
theorem PF.mn {H H1 : Hp} (e : Same H H1) {u : V} {x : List (Option Nat) × Int} (h : PF H u x) : PF H1 u x := by
  obtain ⟨p, d, rfl, h1, h2⟩ := h; exact ⟨p, d, rfl, e _ _ h1, e _ _ h2⟩
theorem PSo.mn {H H1 : Hp} (e : Same H H1) {u : V} {x : Option Nat × Int} (h : PSo H u x) : PSo H1 u x := by
  obtain ⟨p, rfl, h1⟩ := h; exact ⟨p, rfl, e _ _ h1⟩
theorem pf_ds {H : Hp} : ∀ {us : List V} {F : List (List (Option Nat) × Int)}, Paired (PF H) us F → ∃ ds : List Addr, ∀ (i : Nat) (e : List (Option Nat) × Int), F[i]? = some e → ∃ p d, us[i]? = some (V.ref p) ∧ ds[i]? = some d ∧ H p = some (.tup [.ref d, .int e.2]) ∧ H d = some (.lst (e.1.map vo))
  | _, _, .nil => ⟨[], fun i e h => by simp at h⟩
  | _, _, .cons h t => by
    obtain ⟨ds, hd⟩ := pf_ds t
    obtain ⟨p, d, rfl, h1, h2⟩ := h
    refine ⟨d :: ds, fun i e hi => ?_⟩
    cases i with
    | zero => cases hi; exact ⟨p, d, rfl, rfl, h1, h2⟩
    | succ i => exact hd i e hi
def someOf (s : Str) (ls : List (List (List Nat))) (j : Nat) (ts : List Nat) : List (Option Nat × Int) := (none, 0) :: ts.map fun t => (some t, wth s ls j t)
theorem some_iff {s : Str} {ls : List (List (List Nat))} {j : Nat} {ts : List Nat} (hj : j < ls.length) (h : ts.Perm (ls[j]?.getD []).flatten) (o : Option Nat) (x : Int) : (o, x) ∈ someOf s ls j ts ↔ x = vlO (wL s ls) j o ∧ ∀ t, o = some t → ∃ y, wL s ls j t = some y := by
  cases o with
  | none =>
    unfold someOf vlO
    simp
  | some t =>
    show (some t, x) ∈ (none, 0) :: ts.map (fun t => (some t, wth s ls j t)) ↔ x = (wL s ls j t).getD 0 ∧ _
    have hw : wL s ls j t = if t ∈ ts then some (wth s ls j t) else none := by
      unfold wL
      by_cases ht : t ∈ ts
      · rw [if_pos ht, if_pos ⟨hj, h.mem_iff.mp ht⟩]
      · rw [if_neg ht, if_neg fun z => ht (h.mem_iff.mpr z.2)]
    constructor
    · intro hm
      rcases List.mem_cons.mp hm with e | hm
      · cases e
      · obtain ⟨t', ht, e⟩ := List.mem_map.mp hm
        cases e
        rw [if_pos ht] at hw
        exact ⟨by rw [hw]; rfl, fun t2 e2 => by cases e2; exact ⟨_, hw⟩⟩
    · rintro ⟨h1, h2⟩
      obtain ⟨y, hy⟩ := h2 t rfl
      by_cases ht : t ∈ ts
      · rw [if_pos ht] at hw
        rw [hw] at h1
        exact List.mem_cons_of_mem _ (List.mem_map.mpr ⟨t, ht, by rw [h1]; rfl⟩)
      · rw [if_neg ht, hy] at hw
        cases hw
theorem BOk.gd {s : Str} {cs : List Nat} {ls : List (List (List Nat))} {D : List (Option Nat)} {asks prices : List Int} (W : WG cs ls) (h : BOk s cs ls D asks prices) : GdD (wL s ls) (csf cs) cs.length D :=
  ⟨fun a t hd => ⟨(wL_hw W (h.pap.eq a t hd)).2.2.2.2.2, _, h.pap.eq a t hd⟩, h.pap.cap⟩
theorem BOk.top {s : Str} {cs : List Nat} {ls : List (List (List Nat))} {D E : List (Option Nat)} {asks prices : List Int} (W : WG cs ls) (h : BOk s cs ls D asks prices) (hl : E.length = ls.length) (hE : GdD (wL s ls) (csf cs) cs.length E) : worthD (wL s ls) E ≤ worthD (wL s ls) D := by
  have h1 := h.pap.weak (D' := E) (by rw [hl, h.len]) hE.1 hE.2
  have h2 := h.pap.claim fun a t hd => (wL_hw W (h.pap.eq a t hd)).2.2.2.2.2
  omega
section
variable {P : Program} {w : World} {K : Frg} {mg : Str → Option Value} {base : Heap}
def spBests (K : Frg) : Sp := fun vs H Q _ => ∃ v x cs ls s D asks prices, vs = [v, x] ∧ WN H v cs ls ∧ WG cs ls ∧ AOk K H x s ∧ ls.length ≤ 3 ∧ (∀ a : Nat, (ls[a]?.getD []).flatten.length ≤ 3) ∧ BOk s cs ls D asks prices ∧
  ∀ p H' us Es, H p = none → Same H H' → H' p = some (.lst us) → Paired (fun u E => ∃ d, u = V.ref d ∧ H' d = some (.lst (List.map vo E))) us Es → Es.length ≤ 64 → (∀ E ∈ Es, E.length = ls.length) → D ∈ Es → Q (.ref p) H'
theorem sc_law_bests : FnScope N_law_bests ["_law_wishes_here", "_law_aim"] (defScope s_law_bests) := ⟨rfl, rfl, rfl, by decide +kernel, rfl, by decide +kernel, by decide +kernel⟩
theorem ok_law_bests (G : Gx K mg) : Known P w K mg base CX0 4 "_law_bests" ["_law_wishes_here", "_law_aim"] (spBests K) := by
  have sc := sc_law_bests
  have k_law_wished := ok_law_wished (P := P) (w := w) (base := base) G
  have k_law_worth := ok_law_worth (P := P) (w := w) (base := base) G
  refine G.f_law_bests.known sc (fun _ _ _ _ _ _ us hl => match us, hl with | [_, _], _ => rfl) (fun vs H Q E h => ?_) (fun cdv A outer s H vs Q E hr h => ?_)
  · obtain ⟨v, x, cs, ls, s, D, asks, prices, rfl, _⟩ := h; rfl
  · obtain ⟨v, x, cs, ls, s, D, asks, prices, rfl, hW, W, hA, h3, hf3, hB, q⟩ := h
    refine ⟨_, (pss_cons (ps_set (i := 2) sc.nd rfl (Or.inl rfl) (pe_lst (pa_cons (pe_tup (pa_cons (pe_lst pa_nil) (pa_cons pe_int pa_nil))) pa_nil)))
      (pss_cons (ps_for PassesOwn.never rfl (pi_range1 rfl G.n_range (pa_cons (pe_callB call_len_seq (by rfl) G.n_len (by decide +kernel) (pa_cons (pe_ix ix_tup (pv 0) pe_int (fun _ _ => rfl)) pa_nil)) pa_nil)) (pg_name (i := 3) sc.nd rfl (Or.inl rfl))
      (pss_cons (ps_set (i := 4) sc.nd rfl (Or.inl rfl) (pe_lst (pa_cons (pe_tup (pa_cons pe_non (pa_cons pe_int pa_nil))) pa_nil)))
      (pss_cons (ps_for PassesOwn.never rfl (pi_list (pe_kn k_law_wished (hr.mono (by decide)) pass0 (pa_cons (pv 0) (pa_cons (pv 3) pa_nil)))) (pg_name (i := 5) sc.nd rfl (Or.inl rfl))
      (pss_one (ps_expr (pe_bm PySem.F.plainAttrs_list PySem.F.slot_list_append PySem.F.type_list_append mt_append (pv 4) (pa_cons (pe_tup (pa_cons (pv 5) (pa_cons (pe_kn k_law_worth (hr.mono (by decide)) pass0 (pa_cons (pv 0) (pa_cons (pv 1) (pa_cons (pv 3) (pa_cons (pv 5) pa_nil))))) pa_nil))) pa_nil)))))
      (pss_cons (ps_set (i := 6) sc.nd rfl (Or.inl rfl) (pe_lst pa_nil))
      (pss_cons (ps_for PassesOwn.never rfl (pi_list (pv 2)) (pg_tup rfl (pgs_cons (pg_name (i := 7) sc.nd rfl (Or.inl rfl)) (pgs_cons (pg_name (i := 8) sc.nd rfl (Or.inl rfl)) pgs_nil)))
      (pss_one (ps_for PassesOwn.never rfl (pi_list (pv 4)) (pg_tup rfl (pgs_cons (pg_name (i := 5) sc.nd rfl (Or.inl rfl)) (pgs_cons (pg_name (i := 9) sc.nd rfl (Or.inl rfl)) pgs_nil)))
      (pss_one (ps_if (PW.pt (pw_or (pt_cmpR op_isN (pv 5) pe_non (nomark _)) (pw_or1 (pt_cmpR op_lt (pe_bm PySem.F.plainAttrs_list PySem.F.slot_list_count PySem.F.type_list_count mt_countV (pv 7) (pa_cons (pv 5) pa_nil)) (pe_ix ix_list (pe_ix ix_tup (pv 0) pe_int (fun _ _ => rfl)) (pv 5) (fun _ _ => rfl)) (nomark _)))))
      (pss_one (ps_expr (pe_bm PySem.F.plainAttrs_list PySem.F.slot_list_append PySem.F.type_list_append mt_append (pv 6) (pa_cons (pe_tup (pa_cons (pe_op op_cat (pv 7) (pe_lst (pa_cons (pv 5) pa_nil))) (pa_cons (pe_op op_add (pv 8) (pv 9)) pa_nil))) pa_nil)))) pss_nil)))))
      (pss_one (ps_set (i := 2) sc.nd rfl (Or.inl rfl) (pv 6))))))))
      (pss_cons (ps_set (i := 10) sc.nd rfl (Or.inr rfl) (pe_callB (cr_max rfl) (by rfl) G.n_max (by decide +kernel) (pa_cons (pe_lc (own := [("_law_dealing", 7), ("_law_worth_here", 8)]) rfl sc.nd (pi_list (pv 2)) (blkOk_by (by rfl)) (fun _ _ _ _ _ => (pg_tupK (K := K) (n := 2) rfl (pgs_cons (pg_name (i := 7) sc.nd rfl (Or.inl rfl)) (pgs_cons (pg_name (i := 8) sc.nd rfl (Or.inl rfl)) pgs_nil)))) (fun _ _ _ _ _ => pts_nil) (fun _ _ _ _ _ => (pv 8))) pa_nil)))
      (pss_one (ps_ret (pe_lc (own := [("_law_dealing", 7), ("_law_worth_here", 8)]) rfl sc.nd (pi_list (pv 2)) (blkOk_by (by rfl)) (fun _ _ _ _ _ => (pg_tupK (K := K) (n := 2) rfl (pgs_cons (pg_name (i := 7) sc.nd rfl (Or.inl rfl)) (pgs_cons (pg_name (i := 8) sc.nd rfl (Or.inl rfl)) pgs_nil)))) (fun _ _ _ _ _ => pts_one (pt_cmpR op_eq (pv 8) (pv 10) (nomark _))) (fun _ _ _ _ _ => (pv 7)))))))), ?_⟩
    obtain ⟨p, va, b, us, e0, hT, hb, hul⟩ := wn_lens hW
    obtain ⟨p', ca, vb, e0', hT', hca⟩ := wn_copies hW
    rw [e0] at e0'
    cases e0'
    subst e0
    refine st_seq ?_
    refine ss_bests0 fun d0 t0 f0 H1 hf0 e1 hd0 ht0 hf1 => ?_
    dsimp only
    refine st_seq ?_
    refine w_forR (n := (ls.length : Int)) (fun Q q => vl_ixT (val_var rfl) val_c (SqT.of (e1 _ _ hT)) rfl _ ⟨b, us, rfl, .inl (SqL.of (e1 _ _ hb)), by rw [hul]; exact q⟩) (by omega) (by omega) (fun j σ H' => ∃ fa fus F y3 y4 y5 y6 y7 y8 y9, σ = [some (.ref p), some x, some (.ref fa), y3, y4, y5, y6, y7, y8, y9, none] ∧ Same H H' ∧ H' fa = some (.lst fus) ∧ Paired (PF H') fus F ∧ FI (wL s ls) (csf cs) cs.length j F ∧ F.length ≤ 4 ^ j) ⟨f0, _, [([], 0)], _, _, _, _, _, _, _, rfl, e1, hf1, .cons ⟨t0, d0, rfl, ht0, hd0⟩ .nil, fi_zero, by simp⟩ ?_ ?_
    · rintro j σ H2 hj ⟨fa, fus, F, y3, y4, y5, y6, y7, y8, y9, rfl, e2, hfa, hpF, hFI, hFl⟩
      have hjl : j < ls.length := by omega
      have hj64 : 4 ^ j ≤ 16 := by
        have : j ≤ 2 := by omega
        rcases j with _ | _ | _ | j <;> first | omega | decide
      dsimp only
      refine st_seq ?_
      refine ss_lstT (et_tup (pva_2 pv_c pv_c)) fun t4 p4 H3 ht4 hp4 hne4 e3 h4t h4p => ?_
      dsimp only
      refine st_seq ?_
      refine f_open (c_call (pva_2 (pv_var rfl) (pv_var rfl)) fun H4 e4 => ⟨_, cs, ls, j, rfl, hW.mn (e2.trans (e3.trans e4)), hjl, (by have := hf3 j; omega), fun ts hts tp H5 htp e5 h5 => ⟨tp, rfl, ⟨_, SqL.of h5⟩, ?_⟩⟩)
      have htl : ts.length ≤ 3 := by rw [hts.length_eq]; exact hf3 j
      have h45 := e4.trans e5
      have htp4 : tp ≠ p4 := fun z => by
        have := e4 _ _ h4p
        rw [← z, htp] at this
        cases this
      have B5 : Same H2 (cut H5 [p4]) := cut_of (e3.trans h45) fun a ha => by rw [List.mem_singleton.mp ha]; exact hp4
      have E5 := e2.trans B5
      refine for_list (fun k σ H' => ∃ y5 us4, σ = [some (.ref p), some x, some (.ref fa), some (vn j), some (.ref p4), y5, y6, y7, y8, y9, none] ∧ Same (cut H5 [p4]) (cut H' [p4]) ∧ H' p4 = some (.lst us4) ∧ Paired (PSo (cut H' [p4])) us4 (someOf s ls j (ts.take k))) ⟨_, _, rfl, Same.refl _, h45 _ _ h4p, .cons ⟨t4, rfl, by rw [cut_at (by simpa using hne4)]; exact h45 _ _ h4t⟩ .nil⟩ (fun k σ H' _ ⟨_, _, _, e, _⟩ => SqL.of (cut_same _ _ (e _ _ (by rw [cut_at (by simpa using htp4)]; exact h5)))) ?_ ?_
      · rintro k u σ H6 hk ⟨z5, us4, rfl, e6, h6, hp6⟩
        rw [List.getElem?_map] at hk
        cases hk' : ts[k]? with
        | none => rw [hk'] at hk; cases hk
        | some t =>
        rw [hk'] at hk
        cases hk
        have ht : t ∈ (ls[j]?.getD []).flatten := hts.subset (List.mem_of_getElem? hk')
        have E6 : Same H H6 := (E5.trans e6).trans cut_same
        have hul4 : us4.length ≤ 4 := by
          rw [hp6.length]
          show ((ts.take k).map _).length + 1 ≤ 4
          rw [List.length_map, List.length_take]
          omega
        refine ss_appT (vs := [vn t, .int (wth s ls j t)]) (pv_var rfl) h6 (by rw [sizeLine_eq]; omega) (fun H7 e7 => et_tup (pva_2 (pv_var rfl) (pv_call (v := .int (wth s ls j t)) (pva_cons (pv_var rfl) (pva_3 (pv_var rfl) (pv_var rfl) (pv_var rfl))) fun H8 e Q q => ⟨_, x, cs, ls, s, j, t, rfl, (hW.mn (E6.trans (e7.trans e))).ws, W, hA.mn (E6.trans (e7.trans e)), hjl, ht, q⟩))) fun t7 H7 ht7 e7 h7 => ?_
        have hne7 : t7 ≠ p4 := fun z => by rw [z, h6] at ht7; cases ht7
        refine ⟨_, _, rfl, e6.trans (cut_grow e7), upd_same, ?_⟩
        show Paired _ _ ((none, 0) :: (ts.take (k + 1)).map _)
        rw [List.take_succ, hk', List.map_append]
        exact Paired.snoc (Paired.mapP hp6 fun u e h => h.mn (cut_grow e7)) ⟨t7, rfl, by rw [cut_at (by simpa using hne7), upd_ne hne7]; exact h7⟩
      · rintro σ H6 ⟨z5, us4, rfl, e6, h6, hp6⟩
        rw [List.length_map, List.take_length] at hp6
        have hS := fun o x => some_iff (s := s) (ts := ts) hjl hts o x
        have hSl : (someOf s ls j ts).length ≤ 4 := by
          show (ts.map _).length + 1 ≤ 4
          rw [List.length_map]
          omega
        generalize hSe : someOf s ls j ts = S at hp6 hS hSl
        have S26 : Same H2 H6 := (B5.trans e6).trans cut_same
        have E6 := e2.trans S26
        have hpS : Paired (PSo H6) us4 S := Paired.mapP hp6 fun u e h => h.mn cut_same
        have hpF6 : Paired (PF H6) fus F := Paired.mapP hpF fun u e h => h.mn S26
        have hfa6 := S26 _ _ hfa
        dsimp only
        refine st_seq ?_
        refine sl_set (el_lst pva_nil (Nat.zero_le _)) fun la H7 hla e7 h7 => ?_
        dsimp only
        refine st_seq ?_
        refine w_forG (val_var rfl) (SqL.of (e7 _ _ hfa6)) (fun i σ H' => ∃ y5 y7 y8 y9 zs, σ = [some (.ref p), some x, some (.ref fa), some (vn j), some (.ref p4), y5, some (.ref la), y7, y8, y9, none] ∧ Same H6 (cut H' [la]) ∧ H' la = some (.lst zs) ∧ Paired (PF (cut H' [la])) zs ((F.take i).flatMap (extB (csf cs) S))) ⟨_, _, _, _, _, rfl, cut_of e7 fun a ha => by rw [List.mem_singleton.mp ha]; exact hla, h7, .nil⟩ (fun i σ H' _ ⟨_, _, _, _, _, _, e, _⟩ => SqL.of (cut_same _ _ (e _ _ hfa6))) ?_ ?_
        · rintro i u σ H8 hu ⟨w5, w7, w8, w9, zs, rfl, e8, h8, hp8⟩
          obtain ⟨e, hF, pe, de, rfl, hpe, hde⟩ := paired_get hpF6 hu
          have S8 := e8.trans cut_same
          have hie := (List.getElem?_eq_some_iff.mp hF).1
          refine w_tg2 (SqT.of (S8 _ _ hpe)) ?_
          dsimp only
          refine w_forG (val_var rfl) (SqL.of (S8 _ _ h6)) (fun k σ H' => ∃ y5 y9 zs, σ = [some (.ref p), some x, some (.ref fa), some (vn j), some (.ref p4), y5, some (.ref la), some (.ref de), some (.int e.2), y9, none] ∧ Same H6 (cut H' [la]) ∧ H' la = some (.lst zs) ∧ Paired (PF (cut H' [la])) zs ((F.take i).flatMap (extB (csf cs) S) ++ extB (csf cs) (S.take k) e)) ⟨_, _, _, rfl, e8, h8, by rw [List.take_zero]; show Paired _ _ (_ ++ []); rw [List.append_nil]; exact hp8⟩ (fun i σ H' _ ⟨_, _, _, _, e, _⟩ => SqL.of (cut_same _ _ (e _ _ h6))) ?_ ?_
          · rintro k u σ H9 hu ⟨w5, w9, zs, rfl, e9, h9, hp9⟩
            obtain ⟨so, hso, ps, rfl, hps⟩ := paired_get hpS hu
            have S9 := e9.trans cut_same
            refine w_tg2 (SqT.of (S9 _ _ hps)) ?_
            dsimp only
            have hel : e.1.length ≤ 3 := by rw [(hFI.snd e (List.mem_of_getElem? hF)).1]; omega
            refine ss_if (b := condB (csf cs) e.1 so.1) ?_ (fun H10 e10 hc => ?_) fun H10 e10 hc => ?_
            · obtain ⟨o, y⟩ := so
              cases o with
              | none => exact pt_or (b := true) (c := false) (pt_t (pv_isN (pv_var rfl) rfl)) fun h => nomatch h
              | some t =>
                obtain ⟨y', hy⟩ := ((hS (some t) y).mp (List.mem_of_getElem? hso)).2 t rfl
                have htm := (wL_hw W hy).2.2.2.2.2
                exact pt_or (b := false) (c := decide (e.1.count (some t) < csf cs t)) (pt_t (pv_isN (pv_var rfl) rfl)) fun _ => pt_t (pv_cmp (i := (e.1.count (some t) : Int)) (j := (csf cs t : Int)) (pv_countV (n := e.1.count (some t)) (pv_var rfl) (pv_var rfl) (SqL.of (S9 _ _ hde)) rfl (ni_all ni_vo) countP_vo) (pv_ixL (v := vn (csf cs t)) (pv_ixT (pv_var rfl) pv_c (SqT.of ((E6.trans S9) _ _ hT')) rfl) (pv_var rfl) (SqL.of ((E6.trans S9) _ _ hca)) (atI_nat (by rw [List.getElem?_map, List.getElem?_eq_getElem htm]; unfold csf; rw [List.getElem?_eq_getElem htm]; rfl))) (decide_eq_decide.mpr (by omega)))
            · have hzl : zs.length ≤ 1000 := by
                rw [hp9.length, List.length_append]
                have h1 := flatMap_len (f := extB (csf cs) S) (n := 4) (fun x => Nat.le_trans ext_len hSl) (xs := F.take i)
                have h2 := ext_len (cs := csf cs) (S := S.take k) (e := e)
                rw [List.length_take] at h1 h2
                omega
              refine ss_appLT (zs := e.1.map vo ++ [vo so.1]) (y := .int (e.2 + so.2)) (pv_var rfl) (e10 _ _ h9) (by rw [sizeLine_eq]; omega) (fun H11 e11 => el_cat (pv_var rfl) (pv_var rfl) ((S9.trans (e10.trans e11)) _ _ hde) (by rw [List.length_map, sizeLine_eq]; omega)) (pv_add (pv_var rfl) (pv_var rfl)) fun d t H11 hd ht e11 h11 h12 => ?_
              have hnd : d ≠ la := fun z => by rw [z, e10 _ _ h9] at hd; cases hd
              have hnt : t ≠ la := fun z => by rw [z, e10 _ _ h9] at ht; cases ht
              have ec := cut_grow (p := la) (o := .lst (zs ++ [.ref t])) (e10.trans e11)
              refine ⟨_, _, _, rfl, e9.trans ec, upd_same, ?_⟩
              rw [List.take_succ, hso]
              show Paired _ _ (_ ++ extB _ (_ ++ [so]) _)
              rw [ext_snoc, if_pos hc, ← List.append_assoc]
              refine Paired.snoc (Paired.mapP hp9 fun u e h => h.mn ec) ⟨t, d, rfl, by rw [cut_at (by simpa using hnt), upd_ne hnt]; exact h12, ?_⟩
              rw [cut_at (by simpa using hnd), upd_ne hnd, h11, List.map_append]
              rfl
            · have ec := cut_less (A := [la]) e10
              refine ⟨_, _, _, rfl, e9.trans ec, e10 _ _ h9, ?_⟩
              rw [List.take_succ, hso]
              show Paired _ _ (_ ++ extB _ (_ ++ [so]) _)
              rw [ext_snoc, if_neg (by rw [hc]; exact fun h => nomatch h), List.append_nil]
              exact Paired.mapP hp9 fun u e h => h.mn ec
          · rintro σ H9 ⟨w5, w9, zs, rfl, e9, h9, hp9⟩
            refine ⟨_, _, _, _, _, rfl, e9, h9, ?_⟩
            rw [List.take_succ, hF, List.flatMap_append]
            rw [hpS.length, List.take_length] at hp9
            show Paired _ _ (_ ++ [e].flatMap _)
            rw [List.flatMap_singleton]
            exact hp9
        · rintro σ H8 ⟨w5, w7, w8, w9, zs, rfl, e8, h8, hp8⟩
          rw [hpF6.length, List.take_length] at hp8
          refine ss_set (pv_var rfl) fun H9 e9 => ?_
          refine ⟨la, zs, F.flatMap (extB (csf cs) S), _, _, _, _, _, _, _, rfl, (E6.trans (e8.trans cut_same)).trans e9, e9 _ _ h8, Paired.mapP hp8 fun u e h => h.mn (cut_same.trans e9), fi_succ hFI (fun o y => ?_) (fun t y h => (wL_hw W h).2.2.2.2.2), ?_⟩
          · exact hS o y
          · have h1 := flatMap_len (f := extB (csf cs) S) (n := 4) (fun x => Nat.le_trans ext_len hSl) (xs := F)
            rw [Nat.pow_succ]
            omega
    · rintro σ H2 ⟨fa, fus, F, y3, y4, y5, y6, y7, y8, y9, rfl, e2, hfa, hpF, hFI, hFl⟩
      have hln : ((ls.length : Nat) : Int).toNat = ls.length := by omega
      rw [hln] at hFI hFl
      have hF64 : F.length ≤ 64 := by
        have : 4 ^ ls.length ≤ 4 ^ 3 := Nat.pow_le_pow_right (by decide) h3
        omega
      have hgD := hFI.all D hB.len (hB.gd W)
      have hfl := hpF.length
      dsimp only
      refine st_seq ?_
      refine sr_setcb (sr_1 (lc_open (val_var rfl _ ⟨fa, rfl, ⟨fus, SqL.of hfa⟩, lcG_go (fun i => .int ((F[i]?.getD ([], 0)).2)) (fun _ => true) (SqL.of hfa) (by omega) (fun i u H3 hi e3 R k => ?_) (fun lp H4 hlp e4 h4 => ?_)⟩)))
      · obtain ⟨e, hF, pe, de, rfl, hpe, hde⟩ := paired_get hpF hi
        refine w_tg2 (SqT.of (e3 _ _ hpe)) (k _ _ (Same.refl _) rfl pt_yes ?_)
        rw [hF]
        exact pv_var rfl
      · rw [hfl, List.filter_eq_self.mpr (fun _ _ => rfl), range_map (xs := (F.map (·.2)).map V.int) (by simp) (fun i x hx => by
          rw [List.getElem?_map, List.getElem?_map] at hx
          cases hF : F[i]? with
          | none => rw [hF] at hx; cases hx
          | some e => rw [hF] at hx; cases hx; rfl)] at h4
        refine ⟨lp, _, rfl, SqL.of h4, by rw [List.length_map]; exact List.length_pos_of_mem hgD, fun m hm hmax => ?_⟩
        have hmD : m = worthD (wL s ls) D := by
          obtain ⟨e, he, rfl⟩ := List.mem_map.mp hm
          obtain ⟨h1, h2, h3'⟩ := hFI.snd e he
          have h4' := hB.top W h1 h2
          have h5' := hmax _ (List.mem_map.mpr ⟨_, hgD, rfl⟩)
          have h6' : e.2 = worthD (wL s ls) e.1 := h3'
          show e.2 = _
          have h7' : worthD (wL s ls) D ≤ e.2 := h5'
          omega
        subst hmD
        dsimp only
        obtain ⟨ds, hds⟩ := pf_ds hpF
        refine sr_ret (lc_open (val_var rfl _ ⟨fa, rfl, ⟨fus, SqL.of (e4 _ _ hfa)⟩, lcG_go (fun i => .ref (ds[i]?.getD 0)) (fun i => decide ((F[i]?.getD ([], 0)).2 = worthD (wL s ls) D)) (SqL.of (e4 _ _ hfa)) (by omega) (fun i u H3 hi e3 R k => ?_) (fun rp H5 hrp e5 h5 => ?_)⟩))
        · obtain ⟨e, hF, _⟩ := paired_get hpF hi
          obtain ⟨pe, de, hu, hd, hpe, hde⟩ := hds i e hF
          rw [hu] at hi
          cases hi
          refine w_tg2 (SqT.of ((e4.trans e3) _ _ hpe)) (k _ _ (Same.refl _) rfl (pt_t ?_) ?_)
          · rw [hF]
            exact pv_eq (pv_var rfl) (pv_var rfl) rfl dec_i
          · rw [hd]
            exact pv_var rfl
        · refine q rp H5 _ ((((List.range fus.length).filter fun i => decide ((F[i]?.getD ([], 0)).2 = worthD (wL s ls) D))).map fun i => (F[i]?.getD ([], 0)).1) ((e2.trans e4).free hrp) (e2.trans (e4.trans e5)) h5 (paired_of fun i hi => ?_) ?_ ?_ ?_
          · have hil := List.mem_range.mp (List.mem_filter.mp hi).1
            have hF : F[i]? = some (F[i]'(by omega)) := List.getElem?_eq_getElem _
            obtain ⟨pe, de, hu, hd, hpe, hde⟩ := hds i _ hF
            refine ⟨de, by rw [hd]; rfl, ?_⟩
            rw [hF]
            exact (e4.trans e5) _ _ hde
          · rw [List.length_map]
            have := List.length_filter_le (fun i => decide ((F[i]?.getD ([], 0)).2 = worthD (wL s ls) D)) (List.range fus.length)
            rw [List.length_range] at this
            omega
          · intro E hE
            obtain ⟨i, hi, rfl⟩ := List.mem_map.mp hE
            have hil := List.mem_range.mp (List.mem_filter.mp hi).1
            have hF : F[i]? = some (F[i]'(by omega)) := List.getElem?_eq_getElem _
            rw [hF]
            exact (hFI.snd _ (List.mem_of_getElem? hF)).1
          · obtain ⟨i, hi⟩ := List.mem_iff_getElem?.mp hgD
            refine List.mem_map.mpr ⟨i, List.mem_filter.mpr ⟨List.mem_range.mpr (by have := (List.getElem?_eq_some_iff.mp hi).1; omega), ?_⟩, ?_⟩
            · rw [hi]; exact decide_eq_true rfl
            · rw [hi]; rfl
end
end Wd
set_option Elab.async false
set_option linter.all false
set_option maxRecDepth 100000
set_option maxHeartbeats 4000000
/-! law_due -/
namespace Wd
open PySem PySem.Spec PyProof.Rows L2
theorem room65 {k : Nat} {A : Around} (r : Room k A) : A.units + 65 < cLine := by have := r.un; omega
def pdo : Option Nat → PyData
  | none => .none
  | some t => .int (t : Int)
def pdd (D : List (Option Nat)) : PyData := .list (D.map pdo)
theorem dp_os {K : Frg} {H : Hp} : ∀ {D : List (Option Nat)}, DpAll K H (D.map vo) (D.map pdo)
  | [] => .nil
  | none :: D => .cons .non dp_os
  | some t :: D => .cons (.int _) dp_os
theorem lay_pdo {D : List (Option Nat)} : ∀ d ∈ D.map pdo, PyData.canLay0 d = true ∧ PyData.depth d ≤ 0 := fun d hd => by
  obtain ⟨o, _, rfl⟩ := List.mem_map.mp hd
  cases o <;> exact ⟨rfl, Nat.le_refl _⟩
theorem lay_pdd {D : List (Option Nat)} : PyData.canLay0 (pdd D) = true ∧ PyData.depth (pdd D) ≤ 1 := lay_list lay_pdo
theorem shp_pdd {D : List (Option Nat)} : SeqAt.shaped (pdd D) = true := shp_list lay_pdo (by decide)
theorem dp_Es {K : Frg} {H : Hp} : ∀ {us : List V} {Es : List (List (Option Nat))}, Paired (fun u E => ∃ d, u = V.ref d ∧ H d = some (.lst (List.map vo E))) us Es → DpAll K H us (Es.map pdd)
  | _, _, .nil => .nil
  | _, _, .cons ⟨d, h1, h2⟩ t => by
    subst h1
    exact .cons (.lst (SqL.of h2) dp_os) (dp_Es t)
theorem row3 {cs : List Nat} {ls : List (List (List Nat))} (W : WG cs ls) (h : cs.length ≤ 3) (a : Nat) : (ls[a]?.getD []).flatten.length ≤ 3 := by
  cases hr : ls[a]? with
  | none => exact Nat.zero_le _
  | some r =>
    show r.flatten.length ≤ 3
    have hm := List.mem_of_getElem? hr
    obtain ⟨_, h2, h3⟩ := W.rk hm
    have h4 := nd_len h3 fun t ht => by
      obtain ⟨row, hrow, htr⟩ := List.mem_flatten.mp ht
      exact (h2 row hrow).2 t htr
    omega
section
variable {P : Program} {w : World} {K : Frg} {mg : Str → Option Value} {base : Heap}
def spDue (K : Frg) : Sp := fun vs H Q _ => ∃ v x cs ls s b, vs = [v, x, .bl b] ∧ WN H v cs ls ∧ WG cs ls ∧ AOk K H x s ∧ (b = true → ls.length ≤ 3 ∧ cs.length ≤ 3) ∧ ∀ D asks prices, BOk s cs ls D asks prices → RetL ((cntOf ls D).map vn) H Q
theorem sc_law_due : FnScope N_law_due ["_law_wishes_here", "_law_aim", "_law_small"] (defScope s_law_due) := ⟨rfl, rfl, rfl, by decide +kernel, rfl, by decide +kernel, by decide +kernel⟩
theorem ok_law_due (G : Gx K mg) : Known P w K mg base CX0 12 "_law_due" ["_law_wishes_here", "_law_aim", "_law_small"] (spDue K) := by
  have sc := sc_law_due
  have k_best_dealing := ok_best_dealing (P := P) (w := w) (base := base) G
  have k_law_shown_best := ok_law_shown_best (P := P) (w := w) (base := base) G
  have k_law_bests := ok_law_bests (P := P) (w := w) (base := base) G
  have k_law_counts := ok_law_counts (P := P) (w := w) (base := base) G
  refine G.f_law_due.known sc (fun _ _ _ _ _ _ us hl => match us, hl with | [_, _, _], _ => rfl) (fun vs H Q E h => ?_) (fun cdv A outer s H vs Q E hr h => ?_)
  · obtain ⟨v, x, cs, ls, s, b, rfl, _⟩ := h; rfl
  · obtain ⟨v, x, cs, ls, s, b, rfl, hW, W, hA, hsm, q⟩ := h
    refine ⟨_, (pss_cons (ps_asg (pe_kn k_best_dealing (hr.mono (by decide)) pass0 (pa_cons (pv 0) (pa_cons (pv 1) pa_nil))) (pg_tup rfl (pgs_cons (pg_name (i := 3) sc.nd rfl (Or.inl rfl)) (pgs_cons (pg_name (i := 4) sc.nd rfl (Or.inl rfl)) pgs_nil))))
      (pss_cons (ps_if (pt_not (pt_val (pe_kn k_law_shown_best (hr.mono (by decide)) pass0 (pa_cons (pv 0) (pa_cons (pv 1) (pa_cons (pv 3) (pa_cons (pv 4) pa_nil)))))))
      (pss_one (ps_ret pe_non)) pss_nil)
      (pss_cons (ps_if (PW.pt (pw_and (pt_val (pv 2)) (pw_and1 (pt_cmpR (op_notInD (room65 hr)) (pv 3) (pe_kn k_law_bests (hr.mono (by decide)) pass0 (pa_cons (pv 0) (pa_cons (pv 1) pa_nil))) rfl))))
      (pss_one (ps_ret pe_non)) pss_nil)
      (pss_one (ps_ret (pe_kn k_law_counts (hr.mono (by decide)) pass0 (pa_cons (pv 0) (pa_cons (pv 3) pa_nil)))))))), ?_⟩
    refine st_seq ?_
    refine c_call (pva_2 (pv_var rfl) (pv_var rfl)) fun H1 e1 => ⟨v, x, cs, ls, s, rfl, (hW.mn e1).ws, W, hA.mn e1, fun D asks prices hB tp dd pt ap qp H2 htp hdd hpt hap hqp e2 h1 h2 h3 h4 h5 => w_tg2 (SqT.of h1) ?_⟩
    have e02 := e1.trans e2
    dsimp only
    refine st_seq ?_
    refine ss_if (b := false) (pt_n (b := true) (pt_b (pv_call (v := .bl true) (pva_cons (pv_var rfl) (pva_3 (pv_var rfl) (pv_var rfl) (pv_var rfl))) fun H3 e Q q => ⟨v, x, cs, ls, s, dd, pt, ap, qp, D, asks, prices, rfl, hW.mn (e02.trans e), W, hA.mn (e02.trans e), SqL.of (e _ _ h2), SqT.of (e _ _ h3), SqL.of (e _ _ h4), SqL.of (e _ _ h5), hB, q⟩))) (fun H3 e3 h => nomatch h) fun H3 e3 _ => ?_
    refine st_next ?_
    dsimp only
    refine st_seq ?_
    have e03 := e02.trans e3
    refine ss_if (b := b && false) (pt_and (pt_b (pv_var rfl)) fun hb => pt_t fun H4 e4 Q q => ?_) (fun H4 e4 h => by rw [Bool.and_false] at h; cases h) fun H4 e4 _ => ?_
    · refine pv_var rfl H4 e4 _ fun H5 e5 => ?_
      have e05 := e03.trans (e4.trans e5)
      obtain ⟨hl3, hc3⟩ := hsm hb
      refine c_call (pva_2 (pv_var rfl) (pv_var rfl)) fun H6 e6 => ⟨v, x, cs, ls, s, D, asks, prices, rfl, hW.mn (e05.trans e6), W, hA.mn (e05.trans e6), hl3, row3 W hc3, hB, fun p H7 us Es hp e7 h7 hpr hEl _ hD => ?_⟩
      have e37 := e3.trans (e4.trans (e5.trans (e6.trans e7)))
      refine ⟨pdd D, Es.map pdd, .lst (SqL.of (e37 _ _ h2)) dp_os, .lst (SqL.of h7) (dp_Es hpr), shp_pdd, shp_list (n := 1) (fun d hd => ?_) (by decide), ?_⟩
      · obtain ⟨E, _, rfl⟩ := List.mem_map.mp hd
        exact lay_pdd
      · have : ((Es.map pdd).any fun z => PyData.eqv z (pdd D)) = true := List.any_eq_true.mpr ⟨pdd D, List.mem_map.mpr ⟨D, hD, rfl⟩, SeqAt.eqv_refl _ lay_pdd.1⟩
        rw [this]
        exact q _ (e5.trans (e6.trans e7))
    · refine st_next ?_
      dsimp only
      have e34 := e3.trans e4
      refine sl_ret (xs := (cntOf ls D).map vn) (el_call (pva_2 (pv_var rfl) (pv_var rfl)) fun H5 e Q q => ⟨v, cs, ls, dd, D, rfl, (hW.mn (e03.trans (e4.trans e))).ws, W, SqL.of ((e34.trans e) _ _ h2), hB.prp, q.to cntL_N.symm⟩) ((q D asks prices hB).mn (e03.trans e4))
end
end Wd
set_option Elab.async false
set_option linter.all false
set_option maxRecDepth 100000
set_option maxHeartbeats 4000000
/-! law_told -/
namespace Wd
open PySem PySem.Spec PyProof.Rows L2
section
variable {P : Program} {w : World} {K : Frg} {mg : Str → Option Value} {base : Heap}
theorem pv_eqDn {σ : L2.St} {H : Hp} {ta tb : TE} {a b : Addr} {A B : List Nat} (ha : Pv ta σ H (.ref a)) (hb : Pv tb σ H (.ref b)) (h1 : SqL K H a (A.map vn)) (h2 : SqL K H b (B.map vn)) : Pv (tOp (rEqD K) ta tb) σ H (.bl (decide (A = B))) := fun H1 e1 Q q => ha H1 e1 _ fun H2 e2 => hb H2 (e1.trans e2) _ fun H3 e3 =>
  ⟨pdn A, pdn B, dp_n (SqL.mn (e1.trans (e2.trans e3)) h1), dp_n (SqL.mn (e1.trans (e2.trans e3)) h2), shp_n, shp_n, by rw [eqv_n]; exact q H3 (e2.trans e3)⟩
def spLTold (K : Frg) : Sp := fun vs H Q _ => ∃ v y cs ls da f a b C1 C2, vs = [v, y, .ref da, f] ∧ WN H v cs ls ∧ WG cs ls ∧ SqL K H da [.ref a, .ref b] ∧ SqL K H a (List.map vn C1) ∧ SqL K H b (List.map vn C2) ∧
  ((f = .non ∧ C1 = C2) ∨ (C1 ≠ C2 ∧ ∃ tp d1 d2 D1 D2, f = .ref tp ∧ SqT K H tp [.ref d1, .ref d2] ∧ SqL K H d1 (List.map vo D1) ∧ SqL K H d2 (List.map vo D2) ∧ DOk cs ls D1 ∧ DOk cs ls D2 ∧ cntOf ls D1 = C1 ∧ cntOf ls D2 = C2)) ∧ RetG (.bl true) H Q
theorem sc_law_told : FnScope N_law_told ["_law_wishes_here", "_law_aims", "_law_due_here", "_law_found"] (defScope s_law_told) := ⟨rfl, rfl, rfl, by decide +kernel, rfl, by decide +kernel, by decide +kernel⟩
theorem ok_law_told (G : Gx K mg) : Known P w K mg base CX0 4 "_law_told" ["_law_wishes_here", "_law_aims", "_law_due_here", "_law_found"] (spLTold K) := by
  have sc := sc_law_told
  have k_law_is_dealing := ok_law_is_dealing (P := P) (w := w) (base := base) G
  have k_law_counts := ok_law_counts (P := P) (w := w) (base := base) G
  refine G.f_law_told.known sc (fun _ _ _ _ _ _ us hl => match us, hl with | [_, _, _, _], _ => rfl) (fun vs H Q E h => ?_) (fun cdv A outer s H vs Q E hr h => ?_)
  · obtain ⟨v, y, cs, ls, da, f, a, b, C1, C2, rfl, _⟩ := h; rfl
  · obtain ⟨v, y, cs, ls, da, f, a, b, C1, C2, rfl, hW, W, hda, ha, hb, hor, q⟩ := h
    refine ⟨_, (pss_cons (ps_if (pt_cmpR op_isN (pv 3) pe_non (nomark _))
      (pss_one (ps_ret (pe_cmpR (op_eqD hr.units) (pe_ix ix_list (pv 2) pe_int (fun _ _ => rfl)) (pe_ix ix_list (pv 2) pe_int (fun _ _ => rfl)) (nomark _)))) pss_nil)
      (pss_cons (ps_if (PW.pt (pw_or (pt_cmpR (op_eqD hr.units) (pe_ix ix_list (pv 2) pe_int (fun _ _ => rfl)) (pe_ix ix_list (pv 2) pe_int (fun _ _ => rfl)) (nomark _)) (pw_or (pt_not (pt_val (pe_callB call_isi (by rfl) G.n_isinstance (by decide +kernel) (pa_cons (pv 3) (pa_cons (pe_bltn (by rfl) G.n_tuple (by decide +kernel) (v := .ty "tuple") rfl) pa_nil))))) (pw_or1 (pt_cmpR op_ne (pe_callB call_len_seq (by rfl) G.n_len (by decide +kernel) (pa_cons (pv 3) pa_nil)) pe_int (nomark _))))))
      (pss_one (ps_ret pe_bl)) pss_nil)
      (pss_cons (ps_for PassesOwn.never rfl (pi_range1 rfl G.n_range (pa_cons pe_int pa_nil)) (pg_name (i := 4) sc.nd rfl (Or.inl rfl))
      (pss_one (ps_if (PW.pt (pw_or (pt_not (pt_val (pe_kn k_law_is_dealing (hr.mono (by decide)) pass0 (pa_cons (pv 0) (pa_cons (pe_ix ix_tup (pv 3) (pv 4) (fun _ _ => rfl)) pa_nil))))) (pw_or1 (pt_cmpR (op_neD hr.units) (pe_kn k_law_counts (hr.mono (by decide)) pass0 (pa_cons (pv 0) (pa_cons (pe_ix ix_tup (pv 3) (pv 4) (fun _ _ => rfl)) pa_nil))) (pe_ix ix_list (pv 2) (pv 4) (fun _ _ => rfl)) (nomark _)))))
      (pss_one (ps_ret pe_bl)) pss_nil)))
      (pss_one (ps_ret pe_bl))))), ?_⟩
    rcases hor with ⟨rfl, hC⟩ | ⟨hC, tp, d1, d2, D1, D2, rfl, hT, h1, h2, hO1, hO2, hc1, hc2⟩
    · refine st_seq ?_
      refine ss_if (b := true) (pt_t (pv_isN (pv_var rfl) rfl)) (fun H1 e1 _ => ?_) fun H1 e1 h => nomatch h
      refine ss_ret (v := .bl true) ((Pv.to (x := .bl (decide (C1 = C2))) (pv_eqDn (A := C1) (B := C2) (pv_ixL (v := .ref a) (pv_var rfl) pv_c (SqL.mn e1 hda) rfl) (pv_ixL (v := .ref b) (pv_var rfl) pv_c (SqL.mn e1 hda) rfl) (SqL.mn e1 ha) (SqL.mn e1 hb))) (by rw [decide_eq_true hC])) (q.mn e1)
    · refine st_seq ?_
      refine ss_if (b := false) (pt_t (pv_isN (pv_var rfl) rfl)) (fun H1 e1 h => nomatch h) fun H1 e1 _ => ?_
      refine st_next ?_
      dsimp only
      refine st_seq ?_
      refine ss_if (b := false || (false || false)) (pt_or (pt_t ((Pv.to (x := .bl (decide (C1 = C2))) (pv_eqDn (A := C1) (B := C2) (pv_ixL (v := .ref a) (pv_var rfl) pv_c (SqL.mn e1 hda) rfl) (pv_ixL (v := .ref b) (pv_var rfl) pv_c (SqL.mn e1 hda) rfl) (SqL.mn e1 ha) (SqL.mn e1 hb))) (by rw [decide_eq_false hC]))) fun _ => pt_or (pt_n (b := true) (pt_b (pv_isT (pv_var rfl) fun H2 e => tyx_t (SqT.mn (e1.trans e) hT)))) fun _ => pt_t (pv_ne (pv_len (n := 2) (pv_var rfl) (.inr (SqT.mn e1 hT)) rfl) pv_c rfl (by decide))) (fun H2 e h => nomatch h) fun H2 e2 _ => ?_
      have e02 := e1.trans e2
      refine st_next ?_
      dsimp only
      refine st_seq ?_
      refine w_forR (n := 2) (fun Q q => q) (by decide) (by decide) (fun j σ H' => ∃ y4, σ = [some v, some y, some (.ref da), some (.ref tp), y4] ∧ Same H H') ⟨_, rfl, e02⟩ ?_ ?_
      · rintro j σ H3 hj ⟨y4, rfl, e3⟩
        have hj2 : j < 2 := by omega
        obtain ⟨dk, Dk, ck, g1, g2, g3, g4, g5⟩ : ∃ dk Dk ck, [V.ref d1, V.ref d2][j]? = some (.ref dk) ∧ [V.ref a, V.ref b][j]? = some (.ref ck) ∧ SqL K H dk (List.map vo Dk) ∧ SqL K H ck ((cntOf ls Dk).map vn) ∧ DOk cs ls Dk := by
          rcases j with _ | _ | j
          · exact ⟨d1, D1, a, rfl, rfl, h1, hc1 ▸ ha, hO1⟩
          · exact ⟨d2, D2, b, rfl, rfl, h2, hc2 ▸ hb, hO2⟩
          · omega
        refine ss_if (b := false || false) (pt_or (pt_n (b := true) (pt_b (pv_call (v := .bl true) (pva_2 (pv_var rfl) (pv_ixT (pv_var rfl) (pv_var rfl) (SqT.mn e3 hT) (atI_nat g1))) fun H4 e Q q => ⟨v, cs, ls, dk, Dk, rfl, hW.mn (e3.trans e), W, SqL.mn (e3.trans e) g3, g5, q⟩))) fun _ => pt_t fun H4 e4 Q q => ?_) (fun H4 e h => nomatch h) fun H4 e4 _ => ⟨_, rfl, e3.trans e4⟩
        have e04 := e3.trans e4
        refine c_call (H := H4) (pva_2 (pv_var rfl) (pv_ixT (pv_var rfl) (pv_var rfl) (SqT.mn e04 hT) (atI_nat g1))) fun H5 e5 => ⟨v, cs, ls, dk, Dk, rfl, (hW.mn (e04.trans e5)).ws, W, SqL.mn (e04.trans e5) g3, g5.prp, fun p H6 hp e6 h6 => ?_⟩
        rw [cntL_N] at h6
        have e06 := (e04.trans e5).trans e6
        refine pv_ixL (pv_var rfl) (pv_var rfl) (SqL.mn e06 hda) (atI_nat g2) H6 (Same.refl _) _ fun H7 e7 => ?_
        refine ⟨pdn (cntOf ls Dk), pdn (cntOf ls Dk), dp_n (SqL.of (e7 _ _ h6)), dp_n (SqL.mn (e06.trans e7) g4), shp_n, shp_n, ?_⟩
        rw [eqv_n, decide_eq_true rfl]
        exact q H7 (e5.trans (e6.trans e7))
      · rintro σ H3 ⟨y4, rfl, e3⟩
        dsimp only
        exact ss_ret pv_c (q.mn e3)
end
end Wd
set_option Elab.async false
set_option linter.all false
set_option maxRecDepth 100000
set_option maxHeartbeats 4000000
/-! law_numbers -/
namespace Wd
open PySem PySem.Spec PyProof.Rows L2
section
variable {P : Program} {w : World} {K : Frg} {mg : Str → Option Value} {base : Heap}
theorem pv_rI {σ : L2.St} {H : Hp} {ta tb : TE} {i j : Int} {C : Int → Int → Prop} {g : Int → Int → V} (ha : Pv ta σ H (.int i)) (hb : Pv tb σ H (.int j)) (hc : C i j) : Pv (tOp (rI C g) ta tb) σ H (g i j) := pv_op ha hb fun H1 _ _ q => ⟨i, j, rfl, rfl, hc, q H1 (Same.refl H1)⟩
/-- digits under their sizes -/
def Dig (ds sizes : List Nat) : Prop := ds.length = sizes.length ∧ ∀ i : Nat, i < sizes.length → ds[i]?.getD 0 < sizes[i]?.getD 0
def spNums (K : Frg) : Sp := fun vs H Q _ => ∃ (cell salt : Int) (sa : Addr) (sizes : List Nat), vs = [.int cell, .int salt, .ref sa] ∧ SqL K H sa (sizes.map vn) ∧ sizes.length ≤ 1000 ∧ (∀ s ∈ sizes, 1 ≤ s ∧ s ≤ 1000) ∧ ∀ ds : List Nat, Dig ds sizes → RetL (ds.map vn) H Q
theorem sc_law_numbers : FnScope N_law_numbers ["_law_cell", "_law_salt", "_law_sizes"] (defScope s_law_numbers) := ⟨rfl, rfl, rfl, by decide +kernel, rfl, by decide +kernel, by decide +kernel⟩
theorem ok_law_numbers (G : Gx K mg) : Known P w K mg base CX0 1 "_law_numbers" ["_law_cell", "_law_salt", "_law_sizes"] (spNums K) := by
  have sc := sc_law_numbers
  refine G.f_law_numbers.known sc (fun _ _ _ _ _ _ us hl => match us, hl with | [_, _, _], _ => rfl) (fun vs H Q E h => ?_) (fun cdv A outer s H vs Q E hr h => ?_)
  · obtain ⟨cell, salt, sa, sizes, rfl, _⟩ := h; rfl
  · obtain ⟨cell, salt, sa, sizes, rfl, hsa, hl, hsz, q⟩ := h
    refine ⟨_, (pss_cons (ps_set (i := 3) sc.nd rfl (Or.inl rfl) (pe_callB (call_max2 rfl) (by rfl) G.n_max (by decide +kernel) (pa_cons (pv 0) (pa_cons (pe_op op_sub (pe_un un_neg pe_int) (pv 0)) pa_nil))))
      (pss_cons (ps_set (i := 4) sc.nd rfl (Or.inl rfl) (pv 3))
      (pss_cons (ps_set (i := 5) sc.nd rfl (Or.inl rfl) (pe_lst pa_nil))
      (pss_cons (ps_for PassesOwn.never rfl (pi_range1 rfl G.n_range (pa_cons (pe_callB call_len_seq (by rfl) G.n_len (by decide +kernel) (pa_cons (pv 2) pa_nil)) pa_nil)) (pg_name (i := 6) sc.nd rfl (Or.inl rfl))
      (pss_one (ps_if (PW.pt (pw_and (pt_cmpR op_ge (pv 3) (pe_op op_pow pe_int pe_int) (nomark _)) (pw_and1 (pt_cmpR op_gt (pv 4) pe_int (nomark _)))))
      (pss_cons (ps_expr (pe_bm PySem.F.plainAttrs_list PySem.F.slot_list_append PySem.F.type_list_append mt_append (pv 5) (pa_cons (pe_op op_mod (pv 4) (pe_ix ix_list (pv 2) (pv 6) (fun _ _ => rfl))) pa_nil)))
      (pss_one (ps_set (i := 4) sc.nd rfl (Or.inl rfl) (pe_op op_fdiv (pv 4) (pe_ix ix_list (pv 2) (pv 6) (fun _ _ => rfl)))))) (pss_cons (ps_set (i := 7) sc.nd rfl (Or.inl rfl) (pe_op op_mod (pe_op op_add (pe_op op_add (pe_op op_add (pv 3) (pe_op op_mul pe_int (pv 1))) (pe_op op_mul (pe_op op_mul pe_int (pv 6)) (pv 6))) (pv 6)) pe_int))
      (pss_cons (ps_set (i := 7) sc.nd rfl (Or.inl rfl) (pe_op op_mod (pe_op op_mul (pv 7) pe_int) pe_int))
      (pss_cons (ps_set (i := 7) sc.nd rfl (Or.inl rfl) (pe_op op_mod (pe_op op_mul (pe_op op_mod (pe_op op_mul (pv 7) (pv 7)) pe_int) pe_int) pe_int))
      (pss_one (ps_expr (pe_bm PySem.F.plainAttrs_list PySem.F.slot_list_append PySem.F.type_list_append mt_append (pv 5) (pa_cons (pe_op op_mod (pe_op op_fdiv (pv 7) pe_int) (pe_ix ix_list (pv 2) (pv 6) (fun _ _ => rfl))) pa_nil))))))))))
      (pss_one (ps_ret (pv 5))))))), ?_⟩
    refine st_seq ?_
    refine ss_set (pv_cb (v := .int (if (-1 - cell) > cell then (-1 - cell) else cell)) (pva_2 (pv_var rfl) (pv_sub (pv_neg pv_c) (pv_var rfl))) fun H1 e1 Q q => ⟨cell, _, rfl, q H1 (Same.refl _)⟩) fun H1 e1 => ?_
    have hn0 : 0 ≤ (if (-1 - cell) > cell then (-1 - cell) else cell) := by split <;> omega
    generalize (if (-1 - cell) > cell then (-1 - cell) else cell) = number at hn0 ⊢
    dsimp only
    refine st_seq ?_
    refine ss_set (pv_var rfl) fun H2 e2 => ?_
    dsimp only
    refine st_seq ?_
    refine sl_set (el_lst pva_nil (Nat.zero_le _)) fun fp H3 hfp e3 h3 => ?_
    have e03 := e1.trans (e2.trans e3)
    have hfp0 := (e1.trans e2).free hfp
    dsimp only
    refine st_seq ?_
    refine w_forR (n := (sizes.length : Int)) (fun Q q => ⟨_, rfl, sa, _, rfl, .inl (SqL.mn e03 hsa), by rw [List.length_map]; exact q⟩) (by omega) (by omega) (fun j σ H' => ∃ y6 y7 left ds, σ = [some (.int cell), some (.int salt), some (.ref sa), some (.int number), some (.int left), some (.ref fp), y6, y7] ∧ Same H H' ∧ H' fp = some (.lst (List.map vn ds)) ∧ ds.length = j ∧ (∀ i : Nat, i < j → ds[i]?.getD 0 < sizes[i]?.getD 0) ∧ 0 ≤ left) ⟨_, _, number, [], rfl, e03, h3, rfl, fun i h => absurd h (Nat.not_lt_zero _), hn0⟩ ?_ ?_
    · rintro j σ H4 hj ⟨y6, y7, left, ds, rfl, e4, h4, hdl, hds, hleft⟩
      have hjl : j < sizes.length := by omega
      have hsj : sizes[j]? = some sizes[j] := List.getElem?_eq_getElem hjl
      have hs1 := hsz _ (List.getElem_mem hjl)
      have hgj : sizes[j]?.getD 0 = sizes[j] := by rw [hsj]; rfl
      generalize sizes[j] = sj at hsj hs1 hgj
      have hix : ∀ {σ : L2.St} {H1 : Hp}, Same H4 H1 → σ[2]? = some (some (V.ref sa)) → σ[6]? = some (some (vn j)) → Pv (tOp (rIxL K) (tVar 2) (tVar 6)) σ H1 (vn sj) := fun e h1 h2 => pv_ixL (pv_var h1) (pv_var h2) (SqL.mn (e4.trans e) hsa) (atI_nat (by rw [List.getElem?_map, hsj]; rfl))
      have step : ∀ {d : Int}, 0 ≤ d → d < (sj : Int) → (∀ i : Nat, i < j + 1 → (ds ++ [d.toNat])[i]?.getD 0 < sizes[i]?.getD 0) := fun {d} h0 h1 i hi => by
        by_cases hij : i < j
        · rw [List.getElem?_append_left (by omega)]; exact hds i hij
        · have : i = j := by omega
          subst this
          rw [List.getElem?_append_right (by omega), hdl, Nat.sub_self, hgj]
          show d.toNat < sj
          omega
      have hmv : ∀ {d : Int}, 0 ≤ d → V.int d = vn d.toNat := fun {d} h => congrArg V.int (Int.toNat_of_nonneg h).symm
      refine ss_if (b := (decide (number ≥ 1000000000000000000) && decide (left > 0))) (pt_and (pt_t (pv_cmp (pv_var rfl) (pv_rI (i := 10) (j := 18) pv_c pv_c ⟨by decide, by decide, by decide⟩) rfl)) fun _ => pt_t (pv_cmp (pv_var rfl) pv_c rfl)) (fun H5 e5 _ => ?_) fun H5 e5 _ => ?_
      · have m0 : 0 ≤ left % (sj : Int) := Int.emod_nonneg _ (by omega)
        have m1 : left % (sj : Int) < (sj : Int) := Int.emod_lt_of_pos _ (by omega)
        refine st_seq ?_
        refine ss_app (v := .int (left % (sj : Int))) rfl (e5 _ _ h4) (by rw [List.length_map, sizeLine_eq]; omega) (pv_rI (i := left) (j := (sj : Int)) (pv_var rfl) (hix e5 rfl rfl) (by show (0 : Int) < _; omega)) fun H6 e6 => ?_
        have hfp6 : H4 fp = some (.lst (ds.map vn)) := h4
        refine ss_set (pv_rI (i := left) (j := (sj : Int)) (pv_var rfl) (pv_ixL (v := vn sj) (pv_var rfl) (pv_var rfl) (SqL.mn (same_mut (e4.trans (e5.trans e6)) hfp0) hsa) (atI_nat (by rw [List.getElem?_map, hsj]; rfl))) ⟨by omega, by omega⟩) fun H7 e7 => ?_
        refine ⟨_, _, left / (sj : Int), ds ++ [(left % (sj : Int)).toNat], rfl, (same_mut (e4.trans (e5.trans e6)) hfp0).trans e7, e7 _ _ (by rw [upd_same, List.map_append, hmv m0]; rfl), by rw [List.length_append, hdl]; rfl, step m0 m1, Int.ediv_nonneg hleft (by omega)⟩
      · refine st_seq ?_
        refine ss_set (pv_rI (pv_add (pv_add (pv_add (pv_var rfl) (pv_mul (i := 7919) pv_c (pv_var rfl) (.inl ⟨by decide, by decide⟩))) (pv_mul (i := 101 * (j : Int)) (j := (j : Int)) (pv_mul (i := 101) (j := (j : Int)) pv_c (pv_var rfl) (.inl ⟨by decide, by decide⟩)) (pv_var rfl) (.inr ⟨by omega, by omega⟩))) (pv_var rfl)) pv_c (by decide)) fun H6 e6 => ?_
        generalize (number + 7919 * salt + 101 * (j : Int) * (j : Int) + (j : Int)) = big
        dsimp only
        refine st_seq ?_
        refine ss_set (pv_rI (pv_mul (j := 48271) (pv_var rfl) pv_c (.inr ⟨by decide, by decide⟩)) pv_c (by decide)) fun H7 e7 => ?_
        have o0 : 0 ≤ big % 2147483647 * 48271 % 2147483647 := Int.emod_nonneg _ (by decide)
        have o1 : big % 2147483647 * 48271 % 2147483647 < 2147483647 := Int.emod_lt_of_pos _ (by decide)
        generalize big % 2147483647 * 48271 % 2147483647 = one at o0 o1
        dsimp only
        refine st_seq ?_
        refine ss_set (pv_rI (pv_mul (j := 48271) (pv_rI (pv_mul (i := one) (j := one) (pv_var rfl) (pv_var rfl) (.inr ⟨by omega, by omega⟩)) pv_c (by decide)) pv_c (.inr ⟨by decide, by decide⟩)) pv_c (by decide)) fun H8 e8 => ?_
        have p0 : 0 ≤ one * one % 2147483629 * 48271 % 2147483647 := Int.emod_nonneg _ (by decide)
        generalize one * one % 2147483629 * 48271 % 2147483647 = two at p0
        dsimp only
        have e58 := e5.trans (e6.trans (e7.trans e8))
        have m0 : 0 ≤ two / 16 % (sj : Int) := Int.emod_nonneg _ (by omega)
        have m1 : two / 16 % (sj : Int) < (sj : Int) := Int.emod_lt_of_pos _ (by omega)
        refine ss_app (v := .int (two / 16 % (sj : Int))) rfl (e58 _ _ h4) (by rw [List.length_map, sizeLine_eq]; omega) (pv_rI (i := two / 16) (j := (sj : Int)) (pv_rI (i := two) (j := 16) (pv_var rfl) pv_c ⟨by decide, by decide⟩) (hix e58 rfl rfl) (by show (0 : Int) < _; omega)) fun H9 e9 => ?_
        exact ⟨_, _, left, ds ++ [(two / 16 % (sj : Int)).toNat], rfl, same_mut (e4.trans (e58.trans e9)) hfp0, by rw [upd_same, List.map_append, hmv m0]; rfl, by rw [List.length_append, hdl]; rfl, step m0 m1, hleft⟩
    · rintro σ H4 ⟨y6, y7, left, ds, rfl, e4, h4, hdl, hds, hleft⟩
      have hln : ((sizes.length : Nat) : Int).toNat = sizes.length := by omega
      rw [hln] at hdl hds
      dsimp only
      exact ss_ret (pv_var rfl) fun H5 e5 => q ds ⟨hdl, hds⟩ fp H5 hfp0 (e4.trans e5) (e5 _ _ h4)
end
end Wd
set_option Elab.async false
set_option linter.all false
set_option maxRecDepth 100000
set_option maxHeartbeats 4000000
/-! law_wishes: plain, and its steps -/
namespace Wd
open PySem PySem.Spec PyProof.Rows L2
def tbl : List Nat := [1, 1, 2, 0, 3, 7, 1, 4, 5, 6, 1]
theorem tbl_le (d : Nat) : tbl[d]?.getD 0 ≤ 7 := by
  cases h : tbl[d]? with
  | none => exact Nat.zero_le _
  | some x =>
    have : ∀ x ∈ tbl, x ≤ 7 := by decide
    exact this x (List.mem_of_getElem? h)
structure RwI (n : Nat) (ps : List Nat) (r : Nat) (rs : List (List Nat)) : Prop where
  ln : rs.length ≤ r
  ne : ∀ row ∈ rs, row ≠ [] ∧ ∀ t ∈ row, t < n ∧ ps[t]?.getD 0 ≤ r
  nd : rs.flatten.Nodup
theorem ri_zero {n : Nat} {ps : List Nat} : RwI n ps 0 [] := ⟨Nat.le_refl _, (fun _ h => by cases h), .nil⟩
theorem ri_skip {n : Nat} {ps : List Nat} {r : Nat} {rs : List (List Nat)} (h : RwI n ps r rs) : RwI n ps (r + 1) rs :=
  ⟨by have := h.ln; omega, fun row hr => ⟨(h.ne row hr).1, fun t ht => ⟨((h.ne row hr).2 t ht).1, by have := ((h.ne row hr).2 t ht).2; omega⟩⟩, h.nd⟩
theorem ri_add {n : Nat} {ps : List Nat} {r : Nat} {rs : List (List Nat)} {row : List Nat} (h : RwI n ps r rs) (h1 : row ≠ []) (h2 : row.Nodup) (h3 : ∀ t ∈ row, t < n ∧ ps[t]?.getD 0 = r + 1) : RwI n ps (r + 1) (rs ++ [row]) := by
  refine ⟨by rw [List.length_append, List.length_singleton]; have := h.ln; omega, fun row' hr => ?_, ?_⟩
  · rcases List.mem_append.mp hr with hr | hr
    · exact (ri_skip h).ne row' hr
    · rw [List.mem_singleton.mp hr]
      exact ⟨h1, fun t ht => ⟨(h3 t ht).1, by rw [(h3 t ht).2]; exact Nat.le_refl _⟩⟩
  · rw [List.flatten_append, List.nodup_append]
    refine ⟨h.nd, by simpa using h2, fun a ha b hb e => ?_⟩
    subst e
    obtain ⟨row', hr, ha⟩ := List.mem_flatten.mp ha
    have h4 := ((h.ne row' hr).2 a ha).2
    have h5 := (h3 a (by simpa using hb)).2
    omega
theorem ri_rank {n : Nat} {ps : List Nat} {r : Nat} {rs : List (List Nat)} (h : RwI n ps r rs) (h5 : r ≤ 5) : rank5 n rs = true := by
  unfold rank5
  rw [Bool.and_eq_true_iff, Bool.and_eq_true_iff, List.all_eq_true]
  refine ⟨decide_eq_true (by have := h.ln; omega), fun row hr => ?_, decide_eq_true h.nd⟩
  rw [Bool.and_eq_true_iff, List.all_eq_true]
  obtain ⟨h1, h2⟩ := h.ne row hr
  refine ⟨?_, fun t ht => decide_eq_true (h2 t ht).1⟩
  cases row with
  | nil => exact absurd rfl h1
  | cons _ _ => rfl
def rowOf (n : Nat) (ps : List Nat) (r : Nat) : List Nat := (List.range n).filter fun t => decide (ps[t]?.getD 0 = r)
theorem rowOf_nd {n : Nat} {ps : List Nat} {r : Nat} : (rowOf n ps r).Nodup := List.nodup_range.filter _
theorem rowOf_mem {n : Nat} {ps : List Nat} {r t : Nat} (h : t ∈ rowOf n ps r) : t < n ∧ ps[t]?.getD 0 = r := by
  obtain ⟨h1, h2⟩ := List.mem_filter.mp h
  exact ⟨List.mem_range.mp h1, of_decide_eq_true h2⟩
theorem firstBad_all {α : Type} {Pb : α → Bool} {xs : List α} (h : ∀ x ∈ xs, Pb x = true) : firstBad Pb xs = none := by
  unfold firstBad
  rw [if_pos (List.all_eq_true.mpr h)]
theorem WG.of {cs : List Nat} {ls : List (List (List Nat))} (h1 : 1 ≤ cs.length ∧ cs.length ≤ 6) (h2 : ∀ c ∈ cs, c ≤ 7) (h3 : 1 ≤ ls.length ∧ ls.length ≤ 7) (h4 : ∀ r ∈ ls, rank5 cs.length r = true) : WG cs ls := by
  refine ⟨?_, fun rs hr => ?_⟩
  · unfold wFault
    rw [if_neg (by omega), firstBad_all fun c hc => decide_eq_true (h2 c hc)]
    dsimp only
    rw [if_neg (by omega), firstBad_all h4]
  · have h5 := h4 rs hr
    unfold rank5 at h5
    rw [Bool.and_eq_true_iff, Bool.and_eq_true_iff, List.all_eq_true] at h5
    have h6 := nd_len (of_decide_eq_true h5.2.2) (m := cs.length) fun t ht => by
      obtain ⟨row, hrow, htr⟩ := List.mem_flatten.mp ht
      have h7 := h5.2.1 row hrow
      rw [Bool.and_eq_true_iff, List.all_eq_true] at h7
      exact of_decide_eq_true (h7.2 t htr)
    omega
section
variable {K : Frg} {σ : L2.St} {H : Hp} {D : Ends} {te to ty ta tb tl : TE} {t : TA} {v : V} {vs xs ys : List V} {Q : VK}
theorem el_catL (h1 : EvL ta σ H xs) (h2 : ∀ H1, Same H H1 → EvL tb σ H1 ys) (hz : xs.length + ys.length ≤ sizeLine) : EvL (tOp rCat ta tb) σ H (xs ++ ys) := fun Q q => h1 _ fun p1 H1 hp1 e1 g1 => h2 H1 e1 _ fun p2 H2 hp2 e2 g2 =>
  ⟨p1, p2, xs, ys, rfl, rfl, e2 _ _ g1, g2, hz, fun r hr => q r _ ((e1.trans e2).free hr) ((e1.trans e2).trans (same_new hr)) upd_same⟩
theorem el_rep {k : Int} (h1 : EvL ta σ H xs) (h2 : ∀ H1, Same H H1 → Pv tb σ H1 (.int k)) (hk : 0 ≤ k ∧ k ≤ 1000) (hz : xs.length ≤ 1000) : EvL (tOp rRep ta tb) σ H (List.replicate k.toNat xs).flatten := fun Q q => h1 _ fun p1 H1 hp1 e1 g1 => h2 H1 e1 H1 (Same.refl _) _ fun H2 e2 =>
  ⟨p1, k, xs, rfl, rfl, e2 _ _ g1, by omega, by omega, by
    have h3 : k.toNat ≤ 1000 := by omega
    have := Nat.mul_le_mul hz h3
    rw [sizeLine_eq]; omega, fun r hr => q r _ ((e1.trans e2).free hr) ((e1.trans e2).trans (same_new hr)) upd_same⟩
theorem pv_ixNew {i : Int} (ht : Pva t σ H xs) (hz : xs.length ≤ sizeLine) (hb : Pv tb σ H (.int i)) (hi : atI xs i = some v) : Pv (tOp (rIxL K) (tLst t) tb) σ H v := fun H1 e1 Q q => ht H1 e1 _ fun H2 e2 => ⟨hz, fun p hp => hb _ (e1.trans (e2.trans (same_new hp))) _ fun H3 e3 => ⟨p, xs, i, v, rfl, rfl, SqL.of (e3 _ _ upd_same), hi, q H3 (e2.trans ((same_new hp).trans e3))⟩⟩
/-- a comprehension over a range, some told -/
theorem lcRF_go {n j : Nat} {vs : List Nat} {tt : TT} (f : Nat → V) (b : Nat → Bool) (hz : n ≤ 1000000) (hw : ∀ x, wipe ((wipe σ vs).set j (some x)) vs = wipe σ vs)
    (ht : ∀ i, i < n → Pt tt ((wipe σ vs).set j (some (vn i))) H (b i)) (hp : ∀ i, i < n → Pv te ((wipe σ vs).set j (some (vn i))) H (f i))
    (q : RetL (((List.range n).filter b).map f) H Q) : LcGo (Itr 0 n) (gName j) tt te vs σ H Q := by
  intro D hD
  refine lc_range (lo := 0) (n := n) (fun i H' => Same H H' ∧ H' D = some (.lst (((List.range i).filter b).map f))) ⟨same_new hD, upd_same⟩ (fun i H1 hi p => ?_) (fun H' p => q D H' hD p.1 p.2)
  obtain ⟨e1, hu⟩ := p
  rw [Int.zero_add]
  refine ⟨hw _, ht i hi H1 e1 _ fun H3 e3 => ?_⟩
  rw [List.range_succ, List.filter_append, List.map_append]
  cases hb : b i with
  | true =>
    rw [if_pos rfl]
    refine hp i hi H3 (e1.trans e3) _ fun H4 e4 => ⟨_, (e3.trans e4) _ _ hu, ?_, same_mut (e1.trans (e3.trans e4)) hD, ?_⟩
    · have h1 := List.length_filter_le b (List.range i)
      rw [List.length_range] at h1
      rw [List.length_map, sizeLine_eq]
      omega
    · rw [upd_same]
      simp [hb]
  | false =>
    rw [if_neg (fun h => nomatch h)]
    refine ⟨e1.trans e3, ?_⟩
    rw [e3 _ _ hu]
    simp [hb]
theorem w_forR2 {j m : Nat} {ta : TA} (h : ∀ Q : List V → Hp → Prop, Q [.int 1, .int ((m : Int) + 1)] H → ta σ H Q) (hm : m ≤ 1000000) {tb : TS} (Pv : Nat → L2.St → Hp → Prop) (h0 : Pv 0 σ H)
    (hs : ∀ (i : Nat) σ' H', i < m → Pv i σ' H' → tb { D with nx := Pv (i + 1), ct := Pv (i + 1), bk := D.nx } (σ'.set j (some (vn (i + 1)))) H') (hd : ∀ σ' H', Pv m σ' H' → D.nx σ' H') : tFor (iRng2 ta) (gName j) tb D σ H := by
  have em : ((m : Int) + 1 - 1).toNat = m := by omega
  refine h _ ⟨1, (m : Int) + 1, rfl, ⟨by omega, by omega, by omega, by omega⟩, ?_⟩
  rw [em]
  refine for_range (lo := 1) (n := m) Pv h0 (fun i σ' H' hi p => ?_) hd
  have e0 : (1 : Int) + (i : Int) = ((i + 1 : Nat) : Int) := by omega
  show tb _ (σ'.set j (some (.int ((1 : Int) + (i : Int))))) H'
  rw [e0]
  exact hs i σ' H' hi p
end
theorem cut_up {H H1 : Hp} {p : Addr} {o : HO} {A : List Addr} (hp : p ∈ A) (e : Same H H1) : Same (cut H A) (cut (upd H1 p o) A) := fun b u h => by
  by_cases z : b ∈ A
  · rw [cut_none z] at h; cases h
  · rw [cut_at z] at h ⊢
    rw [upd_ne fun e => z (by rw [e]; exact hp)]
    exact e b u h
end Wd
set_option Elab.async false
set_option linter.all false
set_option maxRecDepth 100000
set_option maxHeartbeats 4000000
/-! law_wishes -/
namespace Wd
open PySem PySem.Spec PyProof.Rows L2
theorem ne_nilN {K : Frg} {σ : L2.St} {H : Hp} {ta : TE} {a : Addr} {row : List Nat} (ha : Pv ta σ H (.ref a)) (h : SqL K H a (row.map vn)) : Pv (tOp (rNeD K) ta (tLst tNil)) σ H (.bl (!decide (row = []))) := fun H1 e1 Q q => ha H1 e1 _ fun H2 e2 =>
  ⟨Nat.zero_le _, fun p hp => ⟨pdn row, pdn [], dp_n (SqL.mn (e1.trans (e2.trans (same_new hp))) h), dp_n (ns := []) (SqL.of upd_same), shp_n, shp_n, by rw [eqv_n]; exact q _ (e2.trans (same_new hp))⟩⟩
theorem rep_flat {α : Type} {x : α} : ∀ {k : Nat}, (List.replicate k [x]).flatten = List.replicate k x
  | 0 => rfl
  | k + 1 => by rw [List.replicate_succ, List.flatten_cons, rep_flat, List.replicate_succ]; rfl
theorem cut_eq {ds : List Nat} {m : Nat} (hl : ds.length = 2 + m) {d0 : Nat} (hd : d0 < m) : cutV (ds.map vn) (some 2) (some ((3 : Int) + (d0 : Int))) = ((ds.drop 2).take (1 + d0)).map vn := by
  unfold cutV
  have e1 : HT.sIx (ds.map vn).length 0 (some (2 : Int)) = 2 := by
    show HT.sIx _ _ (some ((2 : Nat) : Int)) = 2
    rw [HT.sIx_nat, List.length_map]
    omega
  have e2 : HT.sIx (ds.map vn).length (ds.map vn).length (some ((3 : Int) + (d0 : Int))) = 3 + d0 := by
    have : (3 : Int) + (d0 : Int) = ((3 + d0 : Nat) : Int) := by omega
    rw [this, HT.sIx_nat, List.length_map]
    omega
  rw [e1, e2, ← List.map_drop, ← List.map_take]
  congr 2
  omega
theorem cut_cons {H H1 : Hp} {p : Addr} {A : List Addr} (e : Same H H1) (h : H p = none) : Same (cut H A) (cut H1 (p :: A)) := fun b u hb => by
  by_cases z : b ∈ A
  · rw [cut_none z] at hb; cases hb
  · rw [cut_at z] at hb
    have hbp : b ≠ p := fun z => by rw [z, h] at hb; cases hb
    rw [cut_at (fun m => by
      rcases List.mem_cons.mp m with m | m
      · exact hbp m
      · exact z m)]
    exact e b u hb
theorem cut_drop {H : Hp} {p : Addr} {A : List Addr} : Same (cut H (p :: A)) (cut H A) := fun b u hb => by
  by_cases z : b ∈ p :: A
  · rw [cut_none z] at hb; cases hb
  · rw [cut_at z] at hb
    rw [cut_at fun m => z (List.mem_cons_of_mem _ m)]
    exact hb
section
variable {P : Program} {w : World} {K : Frg} {mg : Str → Option Value} {base : Heap}
def spWishes (K : Frg) : Sp := fun vs H Q _ => ∃ (sa : Addr) (ns : List Int) (t MT MA MR : Nat), vs = [.ref sa, vn t, vn MT, vn MA, vn MR] ∧ SqL K H sa (ns.map V.int) ∧ (1 ≤ MT ∧ MT ≤ 6) ∧ (1 ≤ MA ∧ MA ≤ 7) ∧ (1 ≤ MR ∧ MR ≤ 5) ∧
  ∀ v H' cs ls, Same H H' → WN H' v cs ls → WG cs ls → cs.length ≤ MT → ls.length ≤ MA → Q v H'
theorem sc_law_wishes : FnScope N_law_wishes ["_law_script", "_law_at", "_law_most_things", "_law_most_askers", "_law_most_ranks"] (defScope s_law_wishes) := ⟨rfl, rfl, rfl, by decide +kernel, rfl, by decide +kernel, by decide +kernel⟩
theorem ok_law_wishes (G : Gx K mg) : Known P w K mg base CX0 2 "_law_wishes" ["_law_script", "_law_at", "_law_most_things", "_law_most_askers", "_law_most_ranks"] (spWishes K) := by
  have sc := sc_law_wishes
  have k_law_numbers := ok_law_numbers (P := P) (w := w) (base := base) G
  have k_law_cell_at := ok_law_cell_at (P := P) (w := w) (base := base) G
  refine G.f_law_wishes.known sc (fun _ _ _ _ _ _ us hl => match us, hl with | [_, _, _, _, _], _ => rfl) (fun vs H Q E h => ?_) (fun cdv A outer s H vs Q E hr h => ?_)
  · obtain ⟨sa, ns, t, MT, MA, MR, rfl, _⟩ := h; rfl
  · obtain ⟨sa, ns, t, MT, MA, MR, rfl, hsa, hMT, hMA, hMR, q⟩ := h
    refine ⟨_, (pss_cons (ps_set (i := 5) sc.nd rfl (Or.inl rfl) (pe_op op_cat (pe_lst (pa_cons (pv 2) (pa_cons (pv 3) pa_nil))) (pe_op op_rep (pe_lst (pa_cons pe_int pa_nil)) (pv 2))))
      (pss_cons (ps_set (i := 6) sc.nd rfl (Or.inl rfl) (pe_kn k_law_numbers (hr.mono (by decide)) pass0 (pa_cons (pe_kn k_law_cell_at (hr.mono (by decide)) pass0 (pa_cons (pv 0) (pa_cons (pv 1) pa_nil))) (pa_cons (pv 1) (pa_cons (pv 5) pa_nil)))))
      (pss_cons (ps_setLc (i := 8) (own := [("_law_digit", 7)]) rfl sc.nd rfl rfl (sw_true rfl rfl rfl (by decide +kernel)) (pi_list (pe_slice sl_list (pv 6) (po_some pe_int) (po_some (pe_op op_add pe_int (pe_ix ix_list (pv 6) pe_int (fun _ _ => rfl)))))) (blkOk_by (by rfl)) (fun _ _ _ _ _ => (pg_name (i := 7) sc.nd rfl (Or.inl rfl))) (fun _ _ _ _ _ => pts_nil) (fun _ _ _ _ _ => (pe_ix (ix_listK (K := K)) (pe_lst (pa_cons pe_int (pa_cons pe_int (pa_cons pe_int (pa_cons pe_int (pa_cons pe_int (pa_cons pe_int (pa_cons pe_int (pa_cons pe_int (pa_cons pe_int (pa_cons pe_int (pa_cons pe_int pa_nil)))))))))))) (pv 7) (fun _ _ => rfl))))
      (pss_cons (ps_set (i := 9) sc.nd rfl (Or.inl rfl) (pe_lst pa_nil))
      (pss_cons (ps_for PassesOwn.never rfl (pi_range1 rfl G.n_range (pa_cons (pe_op op_add pe_int (pe_ix ix_list (pv 6) pe_int (fun _ _ => rfl))) pa_nil)) (pg_name (i := 10) sc.nd rfl (Or.inl rfl))
      (pss_cons (ps_set (i := 11) sc.nd rfl (Or.inl rfl) (pe_kn k_law_cell_at (hr.mono (by decide)) pass0 (pa_cons (pv 0) (pa_cons (pe_op op_add (pe_op op_add (pv 1) pe_int) (pv 10)) pa_nil))))
      (pss_cons (ps_set (i := 5) sc.nd rfl (Or.inl rfl) (pe_op op_cat (pe_op op_rep (pe_lst (pa_cons (pe_op op_add (pv 4) pe_int) pa_nil)) (pv 2)) (pe_lst (pa_cons pe_int pa_nil))))
      (pss_cons (ps_set (i := 12) sc.nd rfl (Or.inr rfl) (pe_kn k_law_numbers (hr.mono (by decide)) pass0 (pa_cons (pv 11) (pa_cons (pe_op op_add (pe_op op_add (pe_op op_mul pe_int (pv 1)) (pe_op op_mul pe_int (pv 10))) pe_int) (pa_cons (pv 5) pa_nil)))))
      (pss_cons (ps_set (i := 13) sc.nd rfl (Or.inl rfl) (pe_lst pa_nil))
      (pss_cons (ps_for PassesOwn.never rfl (pi_range2 rfl G.n_range (pa_cons pe_int (pa_cons (pe_op op_add (pv 4) pe_int) pa_nil))) (pg_name (i := 14) sc.nd rfl (Or.inr rfl))
      (pss_cons (ps_setLc (i := 16) (own := [("_law_thing", 15)]) rfl sc.nd rfl rfl (sw_true rfl rfl rfl (by decide +kernel)) (pi_range1 rfl G.n_range (pa_cons (pe_callB call_len_seq (by rfl) G.n_len (by decide +kernel) (pa_cons (pv 8) pa_nil)) pa_nil)) (blkOk_by (by rfl)) (fun _ _ _ _ _ => (pg_name (i := 15) sc.nd rfl (Or.inl rfl))) (fun _ _ _ _ _ => pts_one (pt_cmpR op_eq (pe_ix (ix_listK (K := K)) (pv 12) (pv 15) (fun _ _ => rfl)) (pv 14) (nomark _))) (fun _ _ _ _ _ => (pv 15)))
      (pss_one (ps_if (pt_cmpR (op_neD hr.units) (pv 16) (pe_lst pa_nil) (nomark _))
      (pss_one (ps_expr (pe_bm PySem.F.plainAttrs_list PySem.F.slot_list_append PySem.F.type_list_append mt_append (pv 13) (pa_cons (pe_ix ix_list (pe_lst (pa_cons (pv 16) (pa_cons (pe_revL (pv 16)) pa_nil))) (pe_ix ix_list (pv 12) (pe_un un_neg pe_int) (fun _ _ => rfl)) (fun _ _ => rfl)) pa_nil)))) pss_nil))))
      (pss_one (ps_expr (pe_bm PySem.F.plainAttrs_list PySem.F.slot_list_append PySem.F.type_list_append mt_append (pv 9) (pa_cons (pv 13) pa_nil))))))))))
      (pss_one (ps_ret (pe_tup (pa_cons (pv 8) (pa_cons (pv 9) pa_nil)))))))))), ?_⟩
    refine st_seq ?_
    refine sl_set (el_catL (el_lst (pva_2 (pv_var rfl) (pv_var rfl)) (by show 2 ≤ _; rw [sizeLine_eq]; decide)) (fun H1 e => el_rep (k := (MT : Int)) (el_lst (pva_1 pv_c) (by show 1 ≤ _; rw [sizeLine_eq]; decide)) (fun H2 e2 => pv_var rfl) (by omega) (by show 1 ≤ _; omega)) (by
      rw [List.length_flatten]
      simp
      rw [sizeLine_eq]
      omega)) fun sp H1 hsp e1 h1 => ?_
    have hsz : [vn MT, vn MA] ++ (List.replicate (MT : Int).toNat [V.int 11]).flatten = (MT :: MA :: List.replicate MT 11).map vn := by
      rw [show ((MT : Int)).toNat = MT by omega, List.map_cons, List.map_cons, List.map_replicate]
      rw [rep_flat]
      rfl
    rw [hsz] at h1
    dsimp only
    refine st_seq ?_
    refine sr_set (c_call (pva_cons (pv_call (v := .int (ns[t]?.getD 0)) (pva_2 (pv_var rfl) (pv_var rfl)) fun H2 e Q q => ⟨sa, ns, t, rfl, SqL.mn (e1.trans e) hsa, q⟩) (pva_2 (pv_var rfl) (pv_var rfl))) fun H2 e2 => ⟨_, _, sp, MT :: MA :: List.replicate MT 11, rfl, SqL.of (e2 _ _ h1), ?_, ?_, fun ds hds dp H3 hdp e3 h3 => ?_⟩)
    · simp; omega
    · intro s hs
      rcases List.mem_cons.mp hs with rfl | hs
      · omega
      rcases List.mem_cons.mp hs with rfl | hs
      · omega
      · rw [(List.mem_replicate.mp hs).2]; omega
    have e03 := e1.trans (e2.trans e3)
    obtain ⟨hdl, hdd⟩ := hds
    have hdl' : ds.length = 2 + MT := by rw [hdl]; simp; omega
    have hd0 : ds[0]?.getD 0 < MT := hdd 0 (by simp)
    have hd1 : ds[1]?.getD 0 < MA := hdd 1 (by simp)
    have hg0 : ds[0]? = some (ds[0]?.getD 0) := by rw [List.getElem?_eq_getElem (by omega)]; rfl
    have hg1 : ds[1]? = some (ds[1]?.getD 0) := by rw [List.getElem?_eq_getElem (by omega)]; rfl
    generalize ds[0]?.getD 0 = d0 at hd0 hg0
    generalize ds[1]?.getD 0 = d1 at hd1 hg1
    dsimp only
    refine st_seq ?_
    refine sr_set (lc_open (val_var rfl _ ⟨2, rfl, (pv_add pv_c (pv_ixL (v := vn d0) (pv_var rfl) pv_c (SqL.of h3) (atI_nat (j := 0) (by rw [List.getElem?_map, hg0]; rfl)))) H3 (Same.refl _) _ fun H4 e4 => ⟨(3 : Int) + (d0 : Int), rfl, dp, ds.map vn, rfl, SqL.of (e4 _ _ h3), fun p hp => ⟨p, rfl, ⟨_, SqL.of upd_same⟩, ?_⟩⟩⟩))
    rw [cut_eq hdl' hd0]
    have hcl : ((ds.drop 2).take (1 + d0)).length = 1 + d0 := by rw [List.length_take, List.length_drop]; omega
    have hcm : ∀ d ∈ (ds.drop 2).take (1 + d0), d < 11 := fun d hd => by
      have h5 := List.mem_of_mem_take hd
      obtain ⟨i, hi⟩ := List.mem_iff_getElem?.mp h5
      rw [List.getElem?_drop] at hi
      have hil := (List.getElem?_eq_some_iff.mp hi).1
      have h6 := hdd (2 + i) (by omega)
      rw [hi] at h6
      have h7 : (MT :: MA :: List.replicate MT 11)[2 + i]?.getD 0 = 11 := by
        rw [show 2 + i = i + 1 + 1 by omega, List.getElem?_cons_succ, List.getElem?_cons_succ, List.getElem?_replicate, if_pos (by omega)]
        rfl
      rw [h7] at h6
      exact h6
    generalize (ds.drop 2).take (1 + d0) = dcut at hcl hcm
    refine lcG_go (fun i => vn (tbl[dcut[i]?.getD 0]?.getD 0)) (fun _ => true) (SqL.of upd_same) (by rw [List.length_map]; omega) (fun i u H5 hi e5 R k => k _ _ (Same.refl _) rfl pt_yes ?_) fun cp H5 hcp e5 h5 => ?_
    · rw [List.getElem?_map] at hi
      cases hc : dcut[i]? with
      | none => rw [hc] at hi; cases hi
      | some d =>
        rw [hc] at hi
        cases hi
        have hd := hcm d (List.mem_of_getElem? hc)
        refine pv_ixNew (i := (d : Int)) (xs := tbl.map vn) (by repeat first | exact pva_nil | refine pva_cons pv_c ?_) (by rw [sizeLine_eq]; decide) (pv_var rfl) (atI_nat ?_)
        show (tbl.map vn)[d]? = some (vn (tbl[d]?.getD 0))
        have hdt : d < tbl.length := hd
        rw [List.getElem?_map, List.getElem?_eq_getElem hdt]
        rfl
    rw [List.filter_eq_self.mpr (fun _ _ => rfl), List.length_map, hcl] at h5
    have hcs : (List.range (1 + d0)).map (fun i => vn (tbl[dcut[i]?.getD 0]?.getD 0)) = ((List.range (1 + d0)).map fun i => tbl[dcut[i]?.getD 0]?.getD 0).map vn := by rw [List.map_map]; rfl
    rw [hcs] at h5
    have hcs7 : ∀ c ∈ (List.range (1 + d0)).map (fun i => tbl[dcut[i]?.getD 0]?.getD 0), c ≤ 7 := fun c hc => by
      obtain ⟨i, _, rfl⟩ := List.mem_map.mp hc
      exact tbl_le _
    have hcsl : ((List.range (1 + d0)).map (fun i => tbl[dcut[i]?.getD 0]?.getD 0)).length = 1 + d0 := by rw [List.length_map, List.length_range]
    generalize (List.range (1 + d0)).map (fun i => tbl[dcut[i]?.getD 0]?.getD 0) = cs at h5 hcs7 hcsl
    have e35 : Same H3 H5 := e4.trans ((same_new hp).trans e5)
    have e05 := e03.trans e35
    dsimp only
    refine st_seq ?_
    refine sl_set (el_lst pva_nil (Nat.zero_le _)) fun la H6 hla e6 h6 => ?_
    have e06 := e05.trans e6
    dsimp only
    refine st_seq ?_
    refine w_forR (n := 1 + (d1 : Int)) (fun Q q => vl_ixL (val_var rfl) val_c (SqL.of ((e35.trans e6) _ _ h3)) (atI_nat (j := 1) (v := vn d1) (by rw [List.getElem?_map, hg1]; rfl)) _ ⟨1, d1, rfl, rfl, q⟩) (by omega) (by omega) (fun i σ H' => ∃ y5 y10 y11 y12 y13 y14 y16 us ls, σ = [some (.ref sa), some (vn t), some (vn MT), some (vn MA), some (vn MR), y5, some (.ref dp), none, some (.ref cp), some (.ref la), y10, y11, y12, y13, y14, none, y16] ∧ Same H5 (cut H' [la]) ∧ H' la = some (.lst us) ∧ Paired (LLNn (cut H' [la])) us ls ∧ ls.length = i ∧ ∀ r ∈ ls, rank5 cs.length r = true) ⟨_, _, _, _, _, _, _, [], [], rfl, cut_of e6 fun a ha => by rw [List.mem_singleton.mp ha]; exact hla, h6, .nil, rfl, fun r hr => by cases hr⟩ ?_ ?_
    · rintro i σ H7 hi ⟨y5, y10, y11, y12, y13, y14, y16, us, ls, rfl, e7, h7, hp7, hll, hlr⟩
      have e07 := e05.trans (e7.trans cut_same)
      have hil : i < 1 + d1 := by omega
      dsimp only
      refine st_seq ?_
      refine ss_set (v := .int (ns[t + 1 + i]?.getD 0)) (pv_call (pva_2 (pv_var rfl) ((pv_add (pv_add (pv_var rfl) pv_c) (pv_var rfl)).to (y := vn (t + 1 + i)) (congrArg V.int (by omega)))) fun H8 e Q q => ⟨sa, ns, t + 1 + i, rfl, SqL.mn (e07.trans e) hsa, q⟩) fun H8 e8 => ?_
      generalize ns[t + 1 + i]?.getD 0 = cell
      dsimp only
      refine st_seq ?_
      refine sl_set (el_catL (el_rep (k := (MT : Int)) (el_lst (pva_1 (pv_add (pv_var rfl) pv_c)) (by show 1 ≤ _; rw [sizeLine_eq]; decide)) (fun H2 e2 => pv_var rfl) (by omega) (by show 1 ≤ _; omega)) (fun H1 e => el_lst (pva_1 pv_c) (by show 1 ≤ _; rw [sizeLine_eq]; decide)) (by
        rw [rep_flat, List.length_replicate]
        show _ + 1 ≤ _
        rw [sizeLine_eq]
        omega)) fun s2 H9 hs2 e9 h9 => ?_
      have hsz2 : (List.replicate (MT : Int).toNat [V.int ((MR : Int) + 1)]).flatten ++ [V.int 2] = (List.replicate MT (MR + 1) ++ [2]).map vn := by
        rw [show ((MT : Int)).toNat = MT by omega, rep_flat, List.map_append, List.map_replicate]
        rfl
      rw [hsz2] at h9
      dsimp only
      refine st_seq ?_
      refine sr_set (c_call (pva_3 (pv_var rfl) (pv_add (pv_add (pv_mul (i := 11) (j := (t : Int)) pv_c (pv_var rfl) (.inl ⟨by decide, by decide⟩)) (pv_mul (i := 3) (j := (i : Int)) pv_c (pv_var rfl) (.inl ⟨by decide, by decide⟩))) pv_c) (pv_var rfl)) fun H10 e10 => ⟨_, _, s2, List.replicate MT (MR + 1) ++ [2], rfl, SqL.of (e10 _ _ h9), by simp; omega, ?_, fun ps hps pp H11 hpp e11 h11 => ?_⟩)
      · intro s hs
        rcases List.mem_append.mp hs with hs | hs
        · rw [(List.mem_replicate.mp hs).2]; omega
        · rw [List.mem_singleton.mp hs]; omega
      obtain ⟨hpl, hpd⟩ := hps
      have hpl' : ps.length = MT + 1 := by rw [hpl]; simp
      have hbb := hpd MT (by simp)
      rw [List.getElem?_append_right (by simp), List.length_replicate, Nat.sub_self] at hbb
      have hbb2 : ps[MT]?.getD 0 < 2 := hbb
      have hbg : ps[MT]? = some (ps[MT]?.getD 0) := by rw [List.getElem?_eq_getElem (by omega)]; rfl
      generalize ps[MT]?.getD 0 = bb at hbb2 hbg
      dsimp only
      refine st_seq ?_
      refine sl_set (el_lst pva_nil (Nat.zero_le _)) fun ra H12 hra e12 h12 => ?_
      have e711 := e8.trans (e9.trans (e10.trans e11))
      have e712 := e711.trans e12
      have hne : ra ≠ la := fun z => by rw [z, e711 _ _ h7] at hra; cases hra
      have BC : Same (cut H7 [la]) (cut H12 [ra, la]) := (cut_less e711).trans (cut_cons e12 hra)
      have e5c := e7.trans BC
      have hcp12 : (cut H12 [ra, la]) cp = some (.lst (cs.map vn)) := e5c _ _ h5
      have hpp12 : (cut H12 [ra, la]) pp = some (.lst (ps.map vn)) := by
        have hppl : pp ≠ la := fun z => by rw [z, (e8.trans (e9.trans e10)) _ _ h7] at hpp; cases hpp
        have hppr : pp ≠ ra := fun z => by rw [← z, h11] at hra; cases hra
        rw [cut_at (by simp [hppl, hppr])]
        exact e12 _ _ h11
      dsimp only
      refine st_seq ?_
      refine w_forR2 (m := MR) (fun Q q => ⟨_, rfl, (MR : Int), 1, rfl, rfl, q⟩) (by omega) (fun r σ H' => ∃ y14 y16 vs rs, σ = [some (.ref sa), some (vn t), some (vn MT), some (vn MA), some (vn MR), some (.ref s2), some (.ref dp), none, some (.ref cp), some (.ref la), some (vn i), some (.int cell), some (.ref pp), some (.ref ra), y14, none, y16] ∧ Same (cut H12 [ra, la]) (cut H' [ra, la]) ∧ H' la = some (.lst us) ∧ H' ra = some (.lst vs) ∧ Paired (LNn (cut H' [ra, la])) vs rs ∧ RwI cs.length ps r rs) ⟨_, _, [], [], rfl, Same.refl _, e712 _ _ h7, h12, .nil, ri_zero⟩ ?_ ?_
      · rintro r σ H13 hrl ⟨z14, z16, vs, rs, rfl, e13, hla13, hra13, hp13, hI⟩
        have S13 : Same (cut H12 [ra, la]) H13 := e13.trans cut_same
        have hvl : vs.length ≤ 5 := by rw [hp13.length]; have := hI.ln; omega
        dsimp only
        refine st_seq ?_
        refine sr_set (lc_openR ⟨_, rfl, cp, cs.map vn, rfl, .inl (SqL.of (S13 _ _ hcp12)), (((cs.map vn).length : Nat) : Int), rfl, by omega, by rw [List.length_map]; omega, ?_⟩)
        rw [show ((((cs.map vn).length : Nat) : Int)).toNat = cs.length by rw [List.length_map]; omega]
        refine lcRF_go (fun t => vn t) (fun t => decide (ps[t]?.getD 0 = r + 1)) (by omega) (fun x => rfl) (fun t ht => pt_t (pv_eq (pv_ixL (v := vn (ps[t]?.getD 0)) (pv_var rfl) (pv_var rfl) (SqL.of (S13 _ _ hpp12)) (atI_nat (by rw [List.getElem?_map, List.getElem?_eq_getElem (by omega)]; rfl))) (pv_var rfl) rfl (dec_i.trans (decide_eq_decide.mpr (by omega))))) (fun t ht => pv_var rfl) fun rp H14 hrp e14 h14 => ?_
        change H14 rp = some (HO.lst ((rowOf cs.length ps (r + 1)).map vn)) at h14
        dsimp only
        refine ss_if (b := !decide (rowOf cs.length ps (r + 1) = [])) (pt_t (ne_nilN (pv_var rfl) (SqL.of h14))) (fun H15 e15 hb => ?_) fun H15 e15 hb => ?_
        · have hrow : rowOf cs.length ps (r + 1) ≠ [] := fun z => by rw [z] at hb; cases hb
          have e1315 := e14.trans e15
          refine ⟨_, rfl, .inl ⟨rfl, vs, SqL.of (e1315 _ _ hra13)⟩, _, rfl, _, rfl, rp, _, rfl, SqL.of (e15 _ _ h14), fun qp hqp => ⟨by show 2 ≤ _; rw [sizeLine_eq]; decide, fun lp hlp => ?_⟩⟩
          have e1517 : Same H15 (upd (upd H15 qp (.lst (List.map vn (rowOf cs.length ps (r + 1))).reverse)) lp (.lst [.ref rp, .ref qp])) := (same_new hqp).trans (same_new hlp)
          refine pv_ixL (v := vn bb) (pv_var rfl) (pv_neg pv_c) (SqL.of ((e1315.trans e1517) _ _ (S13 _ _ hpp12))) (atI_neg1 (n := MT) (by rw [List.length_map]; exact hpl') (by rw [List.getElem?_map, hbg]; rfl)) _ (Same.refl _) _ fun H16 e16 => ?_
          have e1516 := e1517.trans e16
          have e1316 := e1315.trans e1516
          have hq16 : H16 qp = some (.lst ((rowOf cs.length ps (r + 1)).reverse.map vn)) := by
            rw [List.map_reverse]
            exact ((same_new hlp).trans e16) _ _ upd_same
          have hrpA : rp ≠ ra ∧ rp ≠ la := ⟨(fun z => by rw [z, hra13] at hrp; cases hrp), (fun z => by rw [z, hla13] at hrp; cases hrp)⟩
          have hqpA : qp ≠ ra ∧ qp ≠ la := ⟨(fun z => by rw [z, e1315 _ _ hra13] at hqp; cases hqp), (fun z => by rw [z, e1315 _ _ hla13] at hqp; cases hqp)⟩
          obtain ⟨wp, row, g1, g2, g3, g4⟩ : ∃ wp row, [V.ref rp, V.ref qp][bb]? = some (.ref wp) ∧ H16 wp = some (.lst (List.map vn row)) ∧ row.Perm (rowOf cs.length ps (r + 1)) ∧ (wp ≠ ra ∧ wp ≠ la) := by
            rcases bb with _ | _ | bb
            · exact ⟨rp, _, rfl, (e15.trans e1516) _ _ h14, List.Perm.refl _, hrpA⟩
            · exact ⟨qp, _, rfl, hq16, List.reverse_perm _, hqpA⟩
            · omega
          refine ⟨lp, [.ref rp, .ref qp], bb, .ref wp, rfl, rfl, SqL.of (e16 _ _ upd_same), atI_nat g1, ra, vs, .ref wp, rfl, rfl, e1316 _ _ hra13, by rw [sizeLine_eq]; omega, ?_⟩
          have ec := cut_up (A := [ra, la]) (p := ra) (o := .lst (vs ++ [.ref wp])) (by simp) e1316
          refine ⟨_, _, vs ++ [.ref wp], rs ++ [row], rfl, e13.trans ec, by rw [upd_ne hne.symm]; exact e1316 _ _ hla13, upd_same, Paired.snoc (Paired.mapP hp13 fun _ _ h => h.mn ec) ⟨wp, rfl, by rw [cut_at (by simp [g4.1, g4.2]), upd_ne g4.1]; exact g2⟩, ri_add hI (fun z => hrow ?_) (g3.nodup_iff.mpr rowOf_nd) fun t ht => rowOf_mem (g3.mem_iff.mp ht)⟩
          rw [z] at g3
          exact g3.symm.eq_nil
        · have ec := cut_less (A := [ra, la]) (e14.trans e15)
          exact ⟨_, _, vs, rs, rfl, e13.trans ec, (e14.trans e15) _ _ hla13, (e14.trans e15) _ _ hra13, Paired.mapP hp13 fun _ _ h => h.mn ec, ri_skip hI⟩
      · rintro σ H13 ⟨z14, z16, vs, rs, rfl, e13, hla13, hra13, hp13, hI⟩
        dsimp only
        refine ss_app (v := .ref ra) rfl hla13 (by rw [hp7.length, sizeLine_eq]; omega) (pv_var rfl) fun H14 e14 => ?_
        have ec := cut_up (A := [la]) (p := la) (o := .lst (us ++ [.ref ra])) (by simp) e14
        have ed := (cut_drop (p := ra)).trans ec
        have C := BC.trans (e13.trans ed)
        refine ⟨_, _, _, _, _, _, _, us ++ [.ref ra], ls ++ [rs], rfl, e7.trans C, upd_same, Paired.snoc (Paired.mapP hp7 fun _ _ h => h.mn C) ⟨ra, vs, rfl, by rw [cut_at (by simpa using hne), upd_ne hne]; exact e14 _ _ hra13, Paired.mapP hp13 fun _ _ h => h.mn ed⟩, by rw [List.length_append, hll]; rfl, fun r hr => ?_⟩
        rcases List.mem_append.mp hr with hr | hr
        · exact hlr r hr
        · rw [List.mem_singleton.mp hr]
          exact ri_rank hI (by omega)
    · rintro σ H7 ⟨y5, y10, y11, y12, y13, y14, y16, us, ls, rfl, e7, h7, hp7, hll, hlr⟩
      have hn : ((1 : Int) + (d1 : Int)).toNat = 1 + d1 := by omega
      rw [hn] at hll
      dsimp only
      refine st_rett (et_tup (pva_2 (pv_var rfl) (pv_var rfl))) fun tp H8 htp e8 h8 => ?_
      have e57 := e7.trans cut_same
      refine q _ H8 cs ls (e05.trans (e57.trans e8)) ⟨tp, _, _, rfl, h8, ⟨cp, rfl, (e57.trans e8) _ _ h5⟩, la, us, rfl, e8 _ _ h7, Paired.mapP hp7 fun _ _ h => h.mn (cut_same.trans e8)⟩ (WG.of (by omega) hcs7 (by omega) hlr) (by omega) (by omega)
end
end Wd
set_option Elab.async false
set_option linter.all false
set_option maxRecDepth 100000
set_option maxHeartbeats 4000000
/-! try: body, several clauses, each as the one name -/
namespace Wd
open PySem PySem.Spec PyProof.Rows L2
abbrev Cl : Type := Value × (Addr → Value → Option Addr → TS)
def back (i : Nat) (D : Ends) : Ends := { nx := fun s1 h1 => D.nx (s1.set i none) h1, rt := D.rt, bk := fun s1 h1 => D.bk (s1.set i none) h1, ct := fun s1 h1 => D.ct (s1.set i none) h1 }
/-- what is wished of an exception by the clauses, first to last -/
def wTries (K : Frg) (i : Nat) (Wo : WX) (D : Ends) : List Cl → WX
  | [] => Wo
  | p :: r => fun cl dx σ H => ∃ b, PySem.W.exmOne K cl p.1 = some b ∧ (b = true → ∀ q, H q = none → p.2 q cl dx (back i D) (σ.set i (some (.ref q))) H) ∧ (b = false → wTries K i Wo D r cl dx σ H)
inductive HdsAs (X : Cx) (n : Str) : List ExceptHandler → List Cl → Prop
  | nil : HdsAs X n [] []
  | cons {x : Str} {c : Value} {ts : Addr → Value → Option Addr → TS} {s0 : Stmt} {ss : List Stmt} {np hp : Pos} {hds : List ExceptHandler} {l : List Cl}
      (hc : Names X x c)
      (hs : ∀ (q : Addr) (oe : Obj) (cl : Value) (dx : Option Addr) (pn : List (Addr × Obj)), Zc cl dx oe →
        (∃ vs, oe.data = .fields vs) → PSs (X.suite q ((q, oe) :: pn)) (s0 :: ss) (ts q cl dx))
      (r : HdsAs X n hds l) : HdsAs X n (.ExceptHandler (some (.Name x np)) (some n) (s0 :: ss) hp :: hds) ((c, ts) :: l)
section
variable {X : Cx} {body : List Stmt} {hd0 : ExceptHandler} {hds : List ExceptHandler} {l : List Cl} {i : Nat} {n : Str} {tpos : Pos} {tb : WX → TS} {Wo : WX}
theorem ps_tries (h1 : X.stack = X.env :: X.outer) (h2 : X.env.frame = some X.env.locals) (h3 : X.N.Nodup) (h4 : X.N[i]? = some n)
    (h5 : X.env.kindOf n = some .local) (tk : Takes X Wo)
    (hb : ∀ (W : WX) (pn : List (Addr × Obj)) (xe : Value → Shared → Prop), Takes (X.tr pn xe) W → PassesOwn (model X.prog X.w) X.A X.env xe →
      PSs (X.tr pn xe) body (tb W))
    (hh : HdsAs X n (hd0 :: hds) l) : PS X (.Try body (hd0 :: hds) [] [] tpos) (fun D σ H => tb (wTries X.K i Wo D l) D σ H) := by
  constructor
  intro pins s σ H D I h
  have ok := I.ok
  have hA : X.A.frames = some (X.env :: X.outer) := ok.frames.trans (congrArg some h1)
  have hloc : Loc X.env.scope n := Or.inl h5
  apply wpAny_Try_except
  have run := (hb (wTries X.K i Wo D l) (X.pn ++ pins) (fun v u1 => wpAny (model X.prog X.w) X.A (noteFrame v X.env) (fun _ u2 =>
      wpAny (model X.prog X.w) X.A (setFlight v none) (fun _ u3 => wpAny (model X.prog X.w) X.A (handleBy v X.env (hd0 :: hds)) (SP X pins D) X.xe u3) X.xe u2) X.xe u1)
    (fun v u0 xx => ?caught) PassesOwn.looking).run [] s σ H D (I.toTry _) h
  · refine wpAny_mono run (fun fl u1 hsp => ?_) fun _ _ z => z
    rcases fl with _ | _ | _ | rv
    · obtain ⟨σ1, H1, I1, z⟩ := hsp
      exact wpAny_execs_nil ⟨_, _, I1.ofTry ok, z⟩
    · obtain ⟨σ1, H1, I1, z⟩ := hsp
      exact ⟨_, _, I1.ofTry ok, z⟩
    · obtain ⟨σ1, H1, I1, z⟩ := hsp
      exact ⟨_, _, I1.ofTry ok, z⟩
    · obtain ⟨rw1, σ1, H1, I1, rr, z⟩ := hsp
      exact ⟨_, _, _, I1.ofTry ok, rr, z⟩
  case caught =>
    obtain ⟨q, G0, uI, pn2, σ1, H1, cl, dx, rfl, I1', kb, g1, fly, fr, o5, a5, want⟩ := xx
    have I1 : Inv X pins σ1 H1 uI := I1'.ofTry ok
    have fly' : Sky G0 (X.env :: X.outer) q (Zc cl dx) X.env.locals u0.heap := h1 ▸ fly
    show wpAny (model X.prog X.w) X.A (noteFrame (.ref q) X.env) _ _ _
    refine Sky.land Zc.steady hA h2 fly' fun hp3 fl3 g3 => ?_
    have I3 : Inv X pins σ1 H1 { u0 with heap := hp3 } := I1.landed kb fl3.1 (g1.trans g3) o5 a5
    obtain ⟨o3, vs3, at3, z3, dt3⟩ := fl3.there
    have off : q ∉ frs (X.env :: X.outer) := fun hm => by
      obtain ⟨_, o', e', hno⟩ := fl3.2.2.1.mem hm
      cases at3.symm.trans e'
      exact hno _ dt3
    have qL : q ≠ X.env.locals := fun z => off (List.mem_filterMap.mpr ⟨_, List.mem_cons_self, h2.trans (congrArg some z.symm)⟩)
    have qF : q ∉ X.fs := fun hm => by
      obtain ⟨e, he, z⟩ := List.mem_filterMap.mp hm
      exact off (List.mem_filterMap.mpr ⟨_, List.mem_cons_of_mem _ he, z⟩)
    have I3s := I3.suite at3 dt3 fr qL qF
    suffices go : ∀ {hl : List ExceptHandler} {cs : List Cl}, HdsAs X n hl cs → wTries X.K i Wo D cs cl dx σ1 H1 →
        wpAny (model X.prog X.w) X.A (handleBy (.ref q) X.env hl) (SP X pins D) X.xe { u0 with heap := hp3 } from go hh want
    intro hl cs hk
    induction hk with
    | nil =>
      intro wo
      apply wpAny_handleBy_nil
      obtain ⟨_, _, _, oe, vs, T, _, _, e1, _, e3, e4, _⟩ := id fl3
      unfold PySem.passOn
      apply wpAny_bind
      refine wpAny_field e1 e3 e4 ?_
      rw [if_neg (show ¬ (Value.ref T == Value.none) = true by simp)]
      have fin : wpAny (model X.prog X.w) X.A (setFlight (.ref q) X.env.frame) (fun _ u4 => wpAny (model X.prog X.w) X.A (throw (.ref q) : Sem Flow) (SP X pins D) X.xe u4) X.xe
          { u0 with heap := hp3 } := by
        rw [h2]
        refine HandSPX.setFlight_upZ fl3 fun hp4 f4 g4 => wpAny_throw (tk _ _ ?_)
        refine ⟨q, G0, uI, pins, σ1, H1, cl, dx, rfl, I1, kb, (g1.trans g3).trans g4, ?_, fr, o5, a5, wo⟩
        rw [h1]
        exact Or.inr (Or.inr f4)
      first
        | exact wpAny_bind (wpAny_pure (wpAny_bind fin))
        | exact wpAny_bind fin
    | @cons x c ts s0 ss np hp hds2 l2 hc hsu r ih =>
      intro wo
      obtain ⟨b, e1, yes, no⟩ := wo
      refine wpAny_handleBy_cons ?_ (by intro z; cases z)
      apply codeAny_handlers_test
      have LT : PySem.W.Looks (model X.prog X.w) hp3 (typeOf (.ref q)) cl := fun _ _ _ _ k z => wpAny_typeOf_ref (k _ _ at3) (by rw [z3.1]; exact z)
      have LM := PySem.W.exm_one (M := model X.prog X.w) I3.kIn LT e1
      have nm : ∀ {Q E : Value → Shared → Prop}, Q c { u0 with heap := hp3 } → wpAny (model X.prog X.w) (X.A.mark (some (.ref q))) (eval (.Name x np) X.env) Q E { u0 with heap := hp3 } := by
        intro Q E z
        obtain ⟨c1, c2, c3 | ⟨c3, c4, c5⟩⟩ := hc
        · exact ld_glob (X := X.suite q ((q, o3) :: (X.pn ++ pins))) I3s c1 c3 z c2
        · exact ld_blt (X := X.suite q ((q, o3) :: (X.pn ++ pins))) I3s c1 c3 c4 z c5 c2
      apply nm
      apply LM.here
      cases b with
      | false => exact ih (no rfl)
      | true =>
        apply codeAny_handlers_suite_as
        refine HandSPX.lands_againZ fl3 fun hp4 fl4 g4 => ?_
        have I4 : Inv X pins σ1 H1 { u0 with heap := hp4 } := I1.landed kb fl4.1 ((g1.trans g3).trans g4) o5 a5
        obtain ⟨o4, vs4, at4, z4, dt4⟩ := fl4.there
        refine store_ok (X := X.suite q ((q, o4) :: (X.pn ++ pins))) (v := .ref q) (I4.suite at4 dt4 fr qL qF) h3 h4 hloc rfl (fun u5 I5 => ?_) (Or.inr h5)
        have body := (hsu q o4 cl dx (X.pn ++ pins) z4 ⟨_, dt4⟩).run [] u5 _ H1 _ I5 (yes rfl q fr)
        refine wpAny_mono body (fun fl u6 hsp => ?_) fun _ _ z => z.elim
        rcases fl with _ | _ | _ | rv
        · obtain ⟨σ6, H6, I6, z⟩ := hsp
          exact gone_ok (I6.unsuite ok) h3 h4 h5 fun u7 I7 => ⟨_, _, I7, z⟩
        · obtain ⟨σ6, H6, I6, z⟩ := hsp
          exact gone_ok (I6.unsuite ok) h3 h4 h5 fun u7 I7 => ⟨_, _, I7, z⟩
        · obtain ⟨σ6, H6, I6, z⟩ := hsp
          exact gone_ok (I6.unsuite ok) h3 h4 h5 fun u7 I7 => ⟨_, _, I7, z⟩
        · obtain ⟨v6, σ6, H6, I6, rr, z⟩ := hsp
          exact gone_ok (I6.unsuite ok) h3 h4 h5 fun u7 I7 => ⟨_, _, _, I7, rr, z⟩
end
end Wd
set_option Elab.async false
set_option linter.all false
set_option maxRecDepth 100000
set_option maxHeartbeats 4000000
/-! isinstance of a caught error that has a dict; calls within a try; law_refused -/
namespace Wd
open PySem PySem.Spec PyProof.Rows L2
/-- isinstance(e, c): e the caught error of class C, its dict at dx -/
def rIsX (K : Frg) (C q : Addr) (cl : Value) (dx : Option Addr) : List V → Hp → VK → Prop := fun vs H Q => cl = .ref C ∧ (∃ da fs, dx = some da ∧ H da = some (.xd fs)) ∧
  ∃ (c : V) (cv : Value) (b : Bool), vs = [.ref q, c] ∧ (∀ u, RelV c u → u = cv) ∧ PySem.W.kitOne K (.ref C) cv = some b ∧ Q (.bl b) H
theorem call_isX {X : Cx} {q C : Addr} {cl : Value} {dx : Option Addr} {oe : Obj} {pn : List (Addr × Obj)} (T : ExcC X.K C) (hz : Zc cl dx oe) (hf : ∃ vs, oe.data = .fields vs) :
    CallR (X.suite q ((q, oe) :: pn)) (.builtin "isinstance") (rIsX X.K C q cl dx) := by
  intro pins s σ H vs us Q I r h
  obtain ⟨rfl, ⟨da, fs, rfl, hda⟩, c, cv, b, rfl, hcv, hk, go⟩ := h
  rcases r with _ | ⟨r1, _ | ⟨r2, r3⟩⟩
  rcases r3 with _ | _
  cases r1
  cases hcv _ r2
  have at_ := (I.pin (q, oe) (List.mem_append.mpr (Or.inl List.mem_cons_self))).1
  obtain ⟨fv, hfv⟩ := hf
  have hx : ObjOk X.prog X.w H s.heap da (.xd fs) := I.hok da _ hda
  obtain ⟨mA, hns, _⟩ := hx
  obtain ⟨od, ho, _⟩ := lookIn_ns hns
  have J : PySem.W.InstAt s.heap q oe C (some od) := ⟨at_, hz.1, by unfold PySem.W.notCls; rw [hfv] <;> rfl, by rw [hz.2]; exact ho⟩
  have hcl : (PySem.W.clsIn X.K C).isSome = true := by
    obtain ⟨cd, hcd, _⟩ := PySem.W.any_some T.hd
    rw [hcd]
    rfl
  exact PySem.W.kia_one (PySem.W.kitx_exc hcl T.hg T.hk T.hs T.ha T.hn T.ht T.hm) I.kIn J hk (fun z => nomatch z) fun tk => ⟨.bl b, H, I.kept (t' := tk) fun _ _ z => z, rfl, go⟩
section
variable {X : Cx} {k : Nat} {ps : List Str} {sp : Sp} {x : Str} {p pos : Pos} {e : Expr} {es : List Expr} {t : TA} {W : WX}
/-- a call within a try -/
theorem pe_knS (F : Known X.prog X.w X.K X.mg X.base (L2.CX X.prog X.w) k x ps sp) (hr : Room k X.A) (tk : Takes X W) (ha : PA X (e :: es) t) (hg : Gl X x := by rfl)
    (hdb : (x == ("__debug__" : Str)) = false := by decide) (he : starEach (e :: es) X.env = (false, eval e X.env) :: starEach es X.env := by rfl) (hpl : (backTo pos (starEach es X.env)).any (·.1) = false := by rfl) :
    PE X (.Call (.Name x p) (e :: es) [] pos) (tCallSD sp [] (WE W) t) := by
  obtain ⟨f, fd, g1, g2, g3, g4⟩ := F.ex
  exact pe_callSD g3 hr hg g1 g2 g4 .nil (fun σ => passAt tk σ) ha hdb he hpl
end
section
variable {K : Frg} {σ : L2.St} {H : Hp} {t : TA} {vs : List V} {sp : Sp} {EE : L2.St → XK} {Q : VK} {v : V}
theorem c_callS (ha : Pva t σ H vs) (h : ∀ H1, Same H H1 → sp vs H1 Q (EE σ)) : tCallSD sp [] EE t σ H Q := ha H (Same.refl H) _ fun H1 e => by
  rw [List.append_nil]
  exact h H1 e
theorem pv_xf {q dd C : Addr} {i : Nat} {f : Str} {fs : List (Str × V)} (hv : σ[i]? = some (some (.ref q))) (hd : H dd = some (.xd fs)) (hl : fs.lookup f = some v) : Pv (tXf q (.ref C) (some dd) C f (tVar i)) σ H v := fun H1 e Q k => ⟨_, hv, rfl, rfl, dd, fs, v, rfl, e _ _ hd, hl, k H1 (Same.refl _)⟩
theorem pv_isX {q dd C D : Addr} {i : Nat} {b : Bool} {fs : List (Str × V)} (hv : σ[i]? = some (some (.ref q))) (hd : H dd = some (.xd fs)) (hk : PySem.W.kitOne K (.ref C) (.ref D) = some b) : Pv (tCB (rIsX K C q (.ref C) (some dd)) (tCons (tVar i) (tCons (tC (.ref D)) tNil))) σ H (.bl b) := pv_cb (pva_2 (pv_var hv) pv_c) fun H1 e Q k => ⟨rfl, ⟨dd, fs, rfl, e _ _ hd⟩, .ref D, .ref D, b, rfl, fun u hu => hu, hk, k H1 (Same.refl _)⟩
end
section
variable {P : Program} {w : World} {K : Frg} {mg : Str → Option Value} {base : Heap}
def spRefd (K : Frg) : Sp := fun vs H Q _ => ∃ v o1 o2, vs = [v, o1, o2] ∧
  ((∃ p n, BadW K H v p n ∧ RetG (.str "wishes") H Q) ∨ ∃ cs ls, WS K H v cs ls ∧ WG cs ls ∧ (OrdBad K H o1 ∨ ∃ s, o1 = .str s ∧ ordB s = true ∧ OrdBad K H o2) ∧ RetG (.str "order") H Q)
theorem sc_law_refused : FnScope N_law_refused ["_law_wishes_here", "_law_one", "_law_other"] (defScope s_law_refused) := ⟨rfl, rfl, rfl, by decide +kernel, rfl, by decide +kernel, by decide +kernel⟩
theorem ok_law_refused (G : Gx K mg) : Known P w K mg base CX0 13 "_law_refused" ["_law_wishes_here", "_law_one", "_law_other"] (spRefd K) := by
  have sc := sc_law_refused
  have k_orders_part := ok_orders_part (P := P) (w := w) (base := base) G
  have EF := exFacts G.ex
  refine G.f_law_refused.known sc (fun _ _ _ _ _ _ us hl => match us, hl with | [_, _, _], _ => rfl) (fun vs H Q E h => ?_) (fun cdv A outer s H vs Q E hr h => ?_)
  · obtain ⟨v, o1, o2, rfl, _⟩ := h; rfl
  · obtain ⟨v, o1, o2, rfl, hor⟩ := h
    refine ⟨_, (pss_cons (ps_tries (i := 3) rfl rfl sc.nd rfl rfl takes0
        (tb := fun W => tDrop (tCallSD (spPart K) [] (WE W) (tCons (tVar 0) (tCons (tVar 1) (tCons (tVar 2) tNil)))))
        (fun W pn xe tk pw => pss_one (ps_expr (pe_knS k_orders_part (hr.mono (by decide)) tk (pa_cons (pv 0) (pa_cons (pv 1) (pa_cons (pv 2) pa_nil))))))
        (.cons ⟨rfl, by decide, Or.inl G.g_NoAim⟩ (fun q oe cl dx pn hz hf => pss_one (ps_ret (pe_ix (ix_listK (K := K)) (pe_lst (pa_cons pe_str (pa_cons pe_str pa_nil)))
            (pe_callTy call_int1 (by rfl) G.n_int (by decide +kernel) (pa_cons (pe_and (pe_cmpR op_eq (pe_xf EF.xa G.a_NoAim_part hz hf (pv 3)) pe_str (nomark _)) (pe_one (pe_not (pe_callB (call_isX EF.ia hz hf) (by rfl) G.n_isinstance (by decide +kernel) (pa_cons (pv 3) (pa_cons (pe_glob rfl G.g_NoWishes rfl (v := .ref (He.ga K "NoWishes"))) pa_nil)))))) pa_nil)) (fun _ _ => rfl))))
        (.cons ⟨rfl, by decide, Or.inl G.g_DealError⟩ (fun q oe cl dx pn hz hf => pss_one (ps_ret (pe_ix (ix_listK (K := K)) (pe_lst (pa_cons pe_str (pa_cons pe_str pa_nil)))
            (pe_callTy call_int1 (by rfl) G.n_int (by decide +kernel) (pa_cons (pe_callB (call_isX EF.iw hz hf) (by rfl) G.n_isinstance (by decide +kernel) (pa_cons (pv 3) (pa_cons (pe_glob rfl G.g_NoWishes rfl (v := .ref (He.ga K "NoWishes"))) pa_nil))) pa_nil)) (fun _ _ => rfl)))) .nil)))
      (pss_one (ps_ret pe_str))), ?_⟩
    refine st_seq ?_
    refine c_callS (pva_3 (pv_var rfl) (pv_var rfl) (pv_var rfl)) fun H1 e1 => ⟨v, o1, o2, rfl, Or.inl ?_⟩
    rcases hor with ⟨p, n, hb, q⟩ | ⟨cs, ls, hW, W, ho, q⟩
    · refine Or.inl ⟨p, n, hb.mn e1, fun H2 d e2 hd => ?_⟩
      refine ⟨false, EF.kwa.2, (fun h => nomatch h), fun _ => ⟨true, EF.kwd.2, fun _ x hx => ?_, fun h => nomatch h⟩⟩
      refine ss_ret (v := .str "wishes") (pv_ixNew (i := 1) (pva_2 pv_c pv_c) (by show 2 ≤ _; rw [sizeLine_eq]; decide) (pv_cb (pva_1 (pv_isX rfl hd EF.kww.1)) fun H3 e Q q => Or.inr ⟨true, rfl, q H3 (Same.refl _)⟩) rfl) (q.mn (e1.trans e2))
    · refine Or.inr ⟨cs, ls, hW.mono (Le.of e1), W, ?_, fun H2 d e2 hd => ?_⟩
      · rcases ho with h | ⟨s, h1, h2, h3⟩
        · exact Or.inl (Or.imp (NoStr.mn e1) id h)
        · exact Or.inr ⟨s, h1, h2, Or.imp (NoStr.mn e1) id h3⟩
      · refine ⟨true, EF.kaa.2, fun _ x hx => ?_, fun h => nomatch h⟩
        refine ss_ret (v := .str "order") (pv_ixNew (i := 1) (pva_2 pv_c pv_c) (by show 2 ≤ _; rw [sizeLine_eq]; decide) (pv_cb (pva_1 (pv_and (b := true) (c := true) (pv_eq (pv_xf (v := .str "order") rfl hd rfl) pv_c rfl (by decide)) fun _ => pv_not (b := false) (pv_isX rfl hd EF.kaw.1))) fun H3 e Q q => Or.inr ⟨true, rfl, q H3 (Same.refl _)⟩) rfl) (q.mn (e1.trans e2))
end
end Wd
set_option Elab.async false
set_option linter.all false
set_option maxRecDepth 100000
set_option maxHeartbeats 4000000
/-! law_asked, law_door -/
namespace Wd
open PySem PySem.Spec PyProof.Rows L2
section
variable {P : Program} {w : World} {K : Frg} {mg : Str → Option Value} {base : Heap}
def spAsked (K : Frg) : Sp := fun vs H Q E => ∃ (k : Nat) (v x wb : V), vs = [vn k, v, x, wb] ∧ Refuse K v x H E
theorem sc_law_asked : FnScope N_law_asked ["_law_number", "_law_wishes_here", "_law_aim", "_law_web"] (defScope s_law_asked) := ⟨rfl, rfl, rfl, by decide +kernel, rfl, by decide +kernel, by decide +kernel⟩
theorem ok_law_asked (G : Gx K mg) : Known P w K mg base (L2.CX P w) 8 "_law_asked" ["_law_number", "_law_wishes_here", "_law_aim", "_law_web"] (spAsked K) := by
  have sc := sc_law_asked
  have k_how_many := ok_how_many (P := P) (w := w) (base := base) G
  have k_numbered := ok_numbered (P := P) (w := w) (base := base) G
  have k_number_of := ok_number_of (P := P) (w := w) (base := base) G
  have k_shares := ok_shares (P := P) (w := w) (base := base) G
  have k_all_best := ok_all_best (P := P) (w := w) (base := base) G
  have k_ledger_of := ok_ledger_of (P := P) (w := w) (base := base) G
  have k_lets_ledger := ok_lets_ledger (P := P) (w := w) (base := base) G
  refine G.f_law_asked.knownX sc (fun _ _ _ _ _ _ us hl => match us, hl with | [_, _, _, _], _ => rfl) (fun vs H Q E h => ?_) (fun cdv A outer s H vs Q E hr h => ?_)
  · obtain ⟨k, v, x, wb, rfl, _⟩ := h; rfl
  · obtain ⟨k, v, x, wb, rfl, h⟩ := h
    have tk := takes_of (X := cxOf (L2.CX P w) P w K mg base N_law_asked "_law_asked" (defScope s_law_asked) (He.ga K "_law_asked") cdv A outer s H E) (E := E) rfl rfl rfl rfl
    refine ⟨_, (pss_cons (ps_if (pt_cmpR op_eq (pv 0) pe_int (nomark _))
      (pss_one (ps_ret (pe_kn k_how_many (hr.mono (by decide)) (passes_call tk (fun _ _ _ _ h => h)) (pa_cons (pv 1) (pa_cons (pv 2) pa_nil))))) pss_nil)
      (pss_cons (ps_if (pt_cmpR op_eq (pv 0) pe_int (nomark _))
      (pss_one (ps_ret (pe_kn k_numbered (hr.mono (by decide)) (passes_call tk (fun _ _ _ _ h => h)) (pa_cons (pv 1) (pa_cons (pv 2) (pa_cons (pe_ix ix_list (pe_lst (pa_cons (pe_un un_neg pe_int) (pa_cons pe_str pa_nil))) (pe_callTy call_int1 (by rfl) G.n_int (by decide +kernel) (pa_cons (pe_cmpR op_isN (pv 1) pe_non (nomark _)) pa_nil)) (fun _ _ => rfl)) pa_nil)))))) pss_nil)
      (pss_cons (ps_if (pt_cmpR op_eq (pv 0) pe_int (nomark _))
      (pss_one (ps_ret (pe_kn k_number_of (hr.mono (by decide)) (passes_call tk (fun _ _ _ _ h => h)) (pa_cons (pv 1) (pa_cons (pv 2) (pa_cons pe_non pa_nil)))))) pss_nil)
      (pss_cons (ps_if (pt_cmpR op_eq (pv 0) pe_int (nomark _))
      (pss_one (ps_ret (pe_kn k_shares (hr.mono (by decide)) (passes_call tk (fun _ _ _ _ h => h)) (pa_cons (pv 1) (pa_cons (pv 2) (pa_cons pe_int pa_nil)))))) pss_nil)
      (pss_cons (ps_if (pt_cmpR op_eq (pv 0) pe_int (nomark _))
      (pss_one (ps_ret (pe_kn k_all_best (hr.mono (by decide)) (passes_call tk (fun _ _ _ _ h => h)) (pa_cons (pv 1) (pa_cons (pv 2) pa_nil))))) pss_nil)
      (pss_cons (ps_if (pt_cmpR op_eq (pv 0) pe_int (nomark _))
      (pss_one (ps_ret (pe_kn k_ledger_of (hr.mono (by decide)) (passes_call tk (fun _ _ _ _ h => h)) (pa_cons (pv 1) (pa_cons (pv 2) (pa_cons (pv 3) pa_nil)))))) pss_nil)
      (pss_one (ps_ret (pe_kn k_lets_ledger (hr.mono (by decide)) (passes_call tk (fun _ _ _ _ h => h)) (pa_cons (pv 1) (pa_cons (pv 2) (pa_cons (pv 3) (pa_cons (pe_lst pa_nil) pa_nil))))))))))))), ?_⟩
    obtain ⟨y, hy⟩ : ∃ y, atI [V.int (-1), V.str "0"] (if decide (v = V.non) = true then 1 else 0) = some y := by
      cases decide (v = V.non) <;> exact ⟨_, rfl⟩
    refine st_seq ?_
    refine ss_if (b := decide ((k : Int) = 0)) (pt_t (pv_eq (pv_var rfl) pv_c rfl dec_i)) (fun H1 e1 _ => sr_ret (c_call (pva_2 (pv_var rfl) (pv_var rfl)) fun H2 e2 => ⟨v, x, rfl, h.mn (e1.trans e2)⟩)) fun H1 e1 _ => ?_
    refine st_next ?_
    dsimp only
    refine st_seq ?_
    refine ss_if (b := decide ((k : Int) = 1)) (pt_t (pv_eq (pv_var rfl) pv_c rfl dec_i)) (fun H2 e2 _ => sr_ret (c_call (pva_3 (pv_var rfl) (pv_var rfl) (pv_ixNew (pva_2 (pv_neg pv_c) pv_c) (by show 2 ≤ _; rw [sizeLine_eq]; decide) (pv_cb (pva_1 (pv_isN (pv_var rfl) rfl)) fun H3 e Q q => Or.inr ⟨_, rfl, q H3 (Same.refl _)⟩) hy)) fun H3 e3 => ⟨v, x, y, rfl, h.mn (e1.trans (e2.trans e3))⟩)) fun H2 e2 _ => ?_
    have e02 := e1.trans e2
    refine st_next ?_
    dsimp only
    refine st_seq ?_
    refine ss_if (b := decide ((k : Int) = 2)) (pt_t (pv_eq (pv_var rfl) pv_c rfl dec_i)) (fun H3 e3 _ => sr_ret (c_call (pva_3 (pv_var rfl) (pv_var rfl) pv_c) fun H4 e4 => ⟨v, x, _, rfl, h.mn (e02.trans (e3.trans e4))⟩)) fun H3 e3 _ => ?_
    have e03 := e02.trans e3
    refine st_next ?_
    dsimp only
    refine st_seq ?_
    refine ss_if (b := decide ((k : Int) = 3)) (pt_t (pv_eq (pv_var rfl) pv_c rfl dec_i)) (fun H3 e3 _ => sr_ret (c_call (pva_3 (pv_var rfl) (pv_var rfl) pv_c) fun H4 e4 => ⟨v, x, _, rfl, h.mn (e03.trans (e3.trans e4))⟩)) fun H4 e4 _ => ?_
    have e04 := e03.trans e4
    refine st_next ?_
    dsimp only
    refine st_seq ?_
    refine ss_if (b := decide ((k : Int) = 4)) (pt_t (pv_eq (pv_var rfl) pv_c rfl dec_i)) (fun H3 e3 _ => sr_ret (c_call (pva_2 (pv_var rfl) (pv_var rfl)) fun H4 e4 => ⟨v, x, rfl, h.mn (e04.trans (e3.trans e4))⟩)) fun H5 e5 _ => ?_
    have e05 := e04.trans e5
    refine st_next ?_
    dsimp only
    refine st_seq ?_
    refine ss_if (b := decide ((k : Int) = 5)) (pt_t (pv_eq (pv_var rfl) pv_c rfl dec_i)) (fun H3 e3 _ => sr_ret (c_call (pva_3 (pv_var rfl) (pv_var rfl) (pv_var rfl)) fun H4 e4 => ⟨v, x, _, rfl, h.mn (e05.trans (e3.trans e4))⟩)) fun H6 e6 _ => ?_
    have e06 := e05.trans e6
    refine st_next ?_
    dsimp only
    exact sr_ret ⟨_, rfl, _, rfl, _, rfl, Nat.zero_le _, fun p hp => ⟨v, x, wb, .ref p, rfl, h.mn (e06.trans (same_new hp))⟩⟩
def spLDoor (K : Frg) : Sp := fun vs H Q _ => ∃ (k : Nat) (v x wb : V), vs = [vn k, v, x, wb] ∧ ((∃ p n, BadW K H v p n ∧ RetT [p, n] H Q) ∨ ∃ cs ls p, WS K H v cs ls ∧ WG cs ls ∧ AimF K H cs ls x (some p) ∧ RetG (.str p) H Q)
theorem sc_law_door : FnScope N_law_door ["_law_number", "_law_wishes_here", "_law_aim", "_law_web"] (defScope s_law_door) := ⟨rfl, rfl, rfl, by decide +kernel, rfl, by decide +kernel, by decide +kernel⟩
theorem RetT.mn {xs : List V} {H H1 : Hp} {Q : VK} (e : Same H H1) (h : RetT xs H Q) : RetT xs H1 Q := fun p H' hp e' h' => h p H' (e.free hp) (e.trans e') h'
theorem ok_law_door (G : Gx K mg) : Known P w K mg base CX0 9 "_law_door" ["_law_number", "_law_wishes_here", "_law_aim", "_law_web"] (spLDoor K) := by
  have sc := sc_law_door
  have k_law_asked := ok_law_asked (P := P) (w := w) (base := base) G
  have EF := exFacts G.ex
  refine G.f_law_door.known sc (fun _ _ _ _ _ _ us hl => match us, hl with | [_, _, _, _], _ => rfl) (fun vs H Q E h => ?_) (fun cdv A outer s H vs Q E hr h => ?_)
  · obtain ⟨k, v, x, wb, rfl, _⟩ := h; rfl
  · obtain ⟨k, v, x, wb, rfl, hor⟩ := h
    refine ⟨_, (pss_cons (ps_tries (i := 4) rfl rfl sc.nd rfl rfl takes0
        (tb := fun W => tDrop (tCallSD (spAsked K) [] (WE W) (tCons (tVar 0) (tCons (tVar 1) (tCons (tVar 2) (tCons (tVar 3) tNil))))))
        (fun W pn xe tk pw => pss_one (ps_expr (pe_knS k_law_asked (hr.mono (by decide)) tk (pa_cons (pv 0) (pa_cons (pv 1) (pa_cons (pv 2) (pa_cons (pv 3) pa_nil)))))))
        (.cons ⟨rfl, by decide, Or.inl G.g_NoAim⟩ (fun q oe cl dx pn hz hf => pss_one (ps_ret (pe_ix (ix_listK (K := K)) (pe_lst (pa_cons (pe_xf EF.xa G.a_NoAim_part hz hf (pv 4)) (pa_cons pe_str pa_nil)))
            (pe_callTy call_int1 (by rfl) G.n_int (by decide +kernel) (pa_cons (pe_callB (call_isX EF.ia hz hf) (by rfl) G.n_isinstance (by decide +kernel) (pa_cons (pv 4) (pa_cons (pe_glob rfl G.g_NoWishes rfl (v := .ref (He.ga K "NoWishes"))) pa_nil))) pa_nil)) (fun _ _ => rfl))))
        (.cons ⟨rfl, by decide, Or.inl G.g_NoWishes⟩ (fun q oe cl dx pn hz hf => pss_one (ps_ret (pe_tup (pa_cons (pe_xf EF.xw G.a_NoWishes_part hz hf (pv 4)) (pa_cons (pe_xf EF.xw G.a_NoWishes_number hz hf (pv 4)) pa_nil)))))
        (.cons ⟨rfl, by decide, Or.inl G.g_DealError⟩ (fun q oe cl dx pn hz hf => pss_one (ps_ret pe_str)) .nil))))
      (pss_one (ps_ret pe_str))), ?_⟩
    refine st_seq ?_
    refine c_callS (pva_cons (pv_var rfl) (pva_3 (pv_var rfl) (pv_var rfl) (pv_var rfl))) fun H1 e1 => ⟨k, v, x, wb, rfl, ?_⟩
    rcases hor with ⟨p, n, hb, q⟩ | ⟨cs, ls, p, hW, W, hA, q⟩
    · refine Or.inl ⟨p, n, hb.mn e1, fun H2 d e2 hd => ?_⟩
      refine ⟨false, EF.kwa.2, (fun h => nomatch h), fun _ => ⟨true, EF.kww.2, fun _ x hx => ?_, fun h => nomatch h⟩⟩
      exact st_rett (et_tup (pva_2 (pv_xf (v := p) rfl hd rfl) (pv_xf (v := n) rfl hd rfl))) (q.mn (e1.trans e2))
    · refine Or.inr ⟨cs, ls, p, hW.mono (Le.of e1), W, hA.mn e1, fun H2 d e2 hd => ?_⟩
      refine ⟨true, EF.kaa.2, fun _ x hx => ?_, fun h => nomatch h⟩
      exact ss_ret (v := .str p) (pv_ixNew (i := 0) (pva_2 (pv_xf (v := .str p) rfl hd rfl) pv_c) (by show 2 ≤ _; rw [sizeLine_eq]; decide) (pv_cb (pva_1 (pv_isX rfl hd EF.kaw.1)) fun H3 e Q q => Or.inr ⟨false, rfl, q H3 (Same.refl _)⟩) rfl) (q.mn (e1.trans e2))
end
end Wd
set_option Elab.async false
set_option linter.all false
set_option maxRecDepth 100000
set_option maxHeartbeats 4000000
/-! law_odd -/
namespace Wd
open PySem PySem.Spec PyProof.Rows L2
theorem wf_nolists {cs : List Nat} {ls : List (List (List Nat))} (W : WG cs ls) : wFault cs [] = some (("lists" : Str), none) := by
  have h := W.all
  unfold wFault
  rw [if_neg (by omega), firstBad_all fun c hc => decide_eq_true (h.2.1 c hc)]
  dsimp only
  rw [if_pos (Or.inl (by decide))]
theorem lt_cases4 {i : Nat} (h : i < 4) : i = 0 ∨ i = 1 ∨ i = 2 ∨ i = 3 := by omega
section
variable {P : Program} {w : World} {K : Frg} {mg : Str → Option Value} {base : Heap}
theorem nos {H : Hp} {v : V} {n : String} (h : ∀ H1, Same H H1 → TyOf K H1 v (.type n)) (hk : kitB n "str" = some false := by decide +kernel) : OrdBad K H v := Or.inl ⟨n, hk, fun H1 e => .base (h H1 e)⟩
def odds (tp dp lp l2 : Addr) : List V := [.non, .str "", .str "first", .str "Full", .ref tp, .int 0, .bl true, .str "lasts ", .ref dp, .ref lp, .ref l2]
theorem odd_bad {H : Hp} {tp dp lp l2 : Addr} {xs ys zs : List V} (h1 : H tp = some (.tup xs)) (h2 : H dp = some (.dK [])) (h3 : H lp = some (.lst ys)) (h4 : H l2 = some (.lst zs)) : ∀ v ∈ odds tp dp lp l2, OrdBad K H v := by
  intro v hv
  unfold odds at hv
  simp only [List.mem_cons, List.not_mem_nil, or_false] at hv
  rcases hv with rfl | rfl | rfl | rfl | rfl | rfl | rfl | rfl | rfl | rfl | rfl
  · exact nos fun _ _ => .non
  · exact Or.inr ⟨_, rfl, by decide +kernel⟩
  · exact Or.inr ⟨_, rfl, by decide +kernel⟩
  · exact Or.inr ⟨_, rfl, by decide +kernel⟩
  · exact nos fun _ e => .tup (e _ _ h1)
  · exact nos fun _ _ => .int 0
  · exact nos fun _ _ => .bl true
  · exact Or.inr ⟨_, rfl, by decide +kernel⟩
  · exact nos fun _ e => .dK (e _ _ h2)
  · exact nos fun _ e => .lst (e _ _ h3)
  · exact nos fun _ e => .lst (e _ _ h4)
def spOdd (K : Frg) : Sp := fun vs H Q _ => ∃ v cs ls da ds, vs = [v, .ref da] ∧ WN H v cs ls ∧ WG cs ls ∧ SqL K H da (List.map vn ds) ∧ Dig ds [3, 3, 3, 8, 4, 11] ∧ RetG (.bl true) H Q
theorem sc_law_odd : FnScope N_law_odd ["_law_wishes_here", "_law_digits"] (defScope s_law_odd) := ⟨rfl, rfl, rfl, by decide +kernel, rfl, by decide +kernel, by decide +kernel⟩
theorem dig_at {ds sizes : List Nat} (h : Dig ds sizes) {i s : Nat} (hi : sizes[i]? = some s) : ∃ d, ds[i]? = some d ∧ d < s := by
  have hl : i < sizes.length := (List.getElem?_eq_some_iff.mp hi).1
  have hd : ds[i]? = some (ds[i]'(by rw [h.1]; exact hl)) := List.getElem?_eq_getElem _
  have h2 := h.2 i hl
  rw [hd, hi] at h2
  exact ⟨_, hd, h2⟩
theorem ok_law_odd (G : Gx K mg) : Known P w K mg base CX0 14 "_law_odd" ["_law_wishes_here", "_law_digits"] (spOdd K) := by
  have sc := sc_law_odd
  have k_law_refused := ok_law_refused (P := P) (w := w) (base := base) G
  refine G.f_law_odd.known sc (fun _ _ _ _ _ _ us hl => match us, hl with | [_, _], _ => rfl) (fun vs H Q E h => ?_) (fun cdv A outer s H vs Q E hr h => ?_)
  · obtain ⟨v, cs, ls, da, ds, rfl, _⟩ := h; rfl
  · obtain ⟨v, cs, ls, da, ds, rfl, hW, W, hda, hD, q⟩ := h
    refine ⟨_, (pss_cons (ps_set (i := 2) sc.nd rfl (Or.inl rfl) (pe_ix ix_list (pe_lst (pa_cons pe_non (pa_cons pe_str (pa_cons pe_str (pa_cons pe_str (pa_cons (pe_tup (pa_cons pe_str pa_nil)) (pa_cons pe_int (pa_cons pe_bl (pa_cons pe_str (pa_cons pe_dnewK (pa_cons (pe_lst pa_nil) (pa_cons (pe_lst (pa_cons pe_str pa_nil)) pa_nil)))))))))))) (pe_ix ix_list (pv 1) pe_int (fun _ _ => rfl)) (fun _ _ => rfl)))
      (pss_cons (ps_set (i := 3) sc.nd rfl (Or.inl rfl) (pe_ix ix_list (pe_lst (pa_cons pe_str (pa_cons pe_str (pa_cons pe_str pa_nil)))) (pe_op op_mod (pe_ix ix_list (pv 1) pe_int (fun _ _ => rfl)) pe_int) (fun _ _ => rfl)))
      (pss_cons (ps_asg (pe_ix ix_list (pe_lst (pa_cons (pe_tup (pa_cons (pv 2) (pa_cons (pv 3) pa_nil))) (pa_cons (pe_tup (pa_cons (pv 3) (pa_cons (pv 2) pa_nil))) (pa_cons (pe_tup (pa_cons (pv 2) (pa_cons (pv 2) pa_nil))) pa_nil)))) (pe_ix ix_list (pv 1) pe_int (fun _ _ => rfl)) (fun _ _ => rfl)) (pg_tup rfl (pgs_cons (pg_name (i := 4) sc.nd rfl (Or.inl rfl)) (pgs_cons (pg_name (i := 5) sc.nd rfl (Or.inl rfl)) pgs_nil))))
      (pss_cons (ps_if (pt_cmpR op_ne (pe_kn k_law_refused (hr.mono (by decide)) pass0 (pa_cons (pv 0) (pa_cons (pv 4) (pa_cons (pv 5) pa_nil)))) pe_str (nomark _))
      (pss_one (ps_ret pe_bl)) pss_nil)
      (pss_cons (ps_set (i := 6) sc.nd rfl (Or.inl rfl) (pe_ix ix_list (pe_lst (pa_cons pe_non (pa_cons (pe_tup (pa_cons (pe_lst pa_nil) (pa_cons (pe_lst pa_nil) pa_nil))) (pa_cons (pe_tup (pa_cons (pe_ix ix_tup (pv 0) pe_int (fun _ _ => rfl)) (pa_cons (pe_lst pa_nil) pa_nil))) (pa_cons (pe_lst (pa_cons (pe_ix ix_tup (pv 0) pe_int (fun _ _ => rfl)) (pa_cons (pe_ix ix_tup (pv 0) pe_int (fun _ _ => rfl)) pa_nil))) pa_nil))))) (pe_op op_mod (pe_ix ix_list (pv 1) pe_int (fun _ _ => rfl)) pe_int) (fun _ _ => rfl)))
      (pss_cons (ps_if (pt_cmpR op_ne (pe_kn k_law_refused (hr.mono (by decide)) pass0 (pa_cons (pv 6) (pa_cons (pv 4) (pa_cons (pv 5) pa_nil)))) pe_str (nomark _))
      (pss_one (ps_ret pe_bl)) pss_nil)
      (pss_one (ps_ret (pe_cmpR op_eq (pe_kn k_law_refused (hr.mono (by decide)) pass0 (pa_cons (pv 6) (pa_cons (pv 3) (pa_cons (pv 3) pa_nil)))) pe_str (nomark _)))))))))), ?_⟩
    have s1 : 1 ≤ sizeLine := by rw [sizeLine_eq]; decide
    have s2 : 2 ≤ sizeLine := by rw [sizeLine_eq]; decide
    have s3 : 3 ≤ sizeLine := by rw [sizeLine_eq]; decide
    have s4 : 4 ≤ sizeLine := by rw [sizeLine_eq]; decide
    obtain ⟨d2, hd2, l2⟩ := dig_at hD (i := 2) rfl
    obtain ⟨d3, hd3, l3⟩ := dig_at hD (i := 3) rfl
    obtain ⟨d4, hd4, l4⟩ := dig_at hD (i := 4) rfl
    obtain ⟨d5, hd5, l5⟩ := dig_at hD (i := 5) rfl
    have dg : ∀ {i d : Nat}, ds[i]? = some d → ∀ {H1 : Hp} {σ : L2.St}, Same H H1 → σ[1]? = some (some (V.ref da)) → Pv (tOp (rIxL K) (tVar 1) (tC (.int (i : Int)))) σ H1 (vn d) := fun {i d} hd {H1 σ} e hσ => pv_ixL (v := vn d) (pv_var hσ) pv_c (SqL.mn e hda) (atI_nat (by rw [List.getElem?_map, hd]; rfl))
    obtain ⟨vp, ca, lb, rfl, hT, ⟨ca', rfl, hca⟩, lb', us, rfl, hlb, hpr⟩ := id hW
    -- the odd one
    refine st_seq ?_
    refine sr_set ⟨s1, fun tp htp => fun dp hdp => ⟨Nat.zero_le _, fun lp hlp => ⟨s1, fun kp hkp => ⟨by show 11 ≤ _; rw [sizeLine_eq]; decide, fun op hop => ?_⟩⟩⟩⟩
    have n1 := same_new (o := .tup [V.str "full"]) htp
    have n2 := same_new (o := .dK []) hdp
    have n3 := same_new (o := .lst []) hlp
    have n4 := same_new (o := .lst [V.str "full"]) hkp
    have n5 := same_new (o := .lst (odds tp dp lp kp)) hop
    have n15 := n1.trans (n2.trans (n3.trans (n4.trans n5)))
    refine dg hd5 n15 rfl _ (Same.refl _) _ fun H1 e1 => ?_
    have hob := odd_bad (K := K) (H := H1) (e1 _ _ ((n2.trans (n3.trans (n4.trans n5))) _ _ upd_same)) (e1 _ _ ((n3.trans (n4.trans n5)) _ _ upd_same)) (e1 _ _ ((n4.trans n5) _ _ upd_same)) (e1 _ _ (n5 _ _ upd_same))
    obtain ⟨ov, hov, hbad⟩ : ∃ ov, (odds tp dp lp kp)[d5]? = some ov ∧ OrdBad K H1 ov := by
      have : d5 < (odds tp dp lp kp).length := l5
      exact ⟨_, List.getElem?_eq_getElem this, hob _ (List.getElem_mem this)⟩
    refine ⟨op, odds tp dp lp kp, d5, ov, rfl, rfl, SqL.of (e1 _ _ upd_same), atI_nat hov, ?_⟩
    have e01 := n15.trans e1
    clear hob n1 n2 n3 n4 n5
    clear n15
    dsimp only
    -- the good one
    refine st_seq ?_
    obtain ⟨gs, hgs, hgo⟩ : ∃ gs : Str, [V.str "firsts", V.str "full", V.str "lasts"][d4 % 3]? = some (.str gs) ∧ ordB gs = true := by
      have : d4 % 3 < 3 := Nat.mod_lt _ (by decide)
      rcases (by omega : d4 % 3 = 0 ∨ d4 % 3 = 1 ∨ d4 % 3 = 2) with h | h | h <;> rw [h]
      · exact ⟨_, rfl, by decide +kernel⟩
      · exact ⟨_, rfl, by decide +kernel⟩
      · exact ⟨_, rfl, by decide +kernel⟩
    refine ss_set (pv_ixNew (i := ((d4 % 3 : Nat) : Int)) (v := .str gs) (pva_3 pv_c pv_c pv_c) s3 ((pv_rI (i := (d4 : Int)) (j := 3) (dg hd4 e01 rfl) pv_c (by decide)).to (congrArg V.int (Int.natCast_emod d4 3).symm)) (atI_nat hgs)) fun H2 e2 => ?_
    have e02 := e01.trans e2
    dsimp only
    -- the two
    refine st_seq ?_
    refine ⟨_, rfl, _, rfl, s2, fun t1 ht1 => ⟨_, rfl, _, rfl, s2, fun t2 ht2 => ⟨_, rfl, _, rfl, s2, fun t3 ht3 => ⟨s3, fun lq hlq => ?_⟩⟩⟩⟩
    have m1 := same_new (o := .tup [ov, .str gs]) ht1
    have m2 := same_new (o := .tup [.str gs, ov]) ht2
    have m3 := same_new (o := .tup [ov, ov]) ht3
    have m4 := same_new (o := .lst [V.ref t1, V.ref t2, V.ref t3]) hlq
    have m14 := m1.trans (m2.trans (m3.trans m4))
    refine dg hd2 (e02.trans m14) rfl _ (Same.refl _) _ fun H3 e3 => ?_
    obtain ⟨tk, o1, o2, htk, hk3, hoo⟩ : ∃ tk o1 o2, [V.ref t1, V.ref t2, V.ref t3][d2]? = some (.ref tk) ∧ H3 tk = some (.tup [o1, o2]) ∧ (o1 = ov ∨ o1 = .str gs ∧ o2 = ov) := by
      rcases (by omega : d2 = 0 ∨ d2 = 1 ∨ d2 = 2) with h | h | h <;> subst h
      · exact ⟨t1, ov, .str gs, rfl, e3 _ _ ((m2.trans (m3.trans m4)) _ _ upd_same), Or.inl rfl⟩
      · exact ⟨t2, .str gs, ov, rfl, e3 _ _ ((m3.trans m4) _ _ upd_same), Or.inr ⟨rfl, rfl⟩⟩
      · exact ⟨t3, ov, ov, rfl, e3 _ _ (m4 _ _ upd_same), Or.inl rfl⟩
    refine ⟨lq, _, d2, .ref tk, rfl, rfl, SqL.of (e3 _ _ upd_same), atI_nat htk, w_tg2 (SqT.of hk3) ?_⟩
    have e03 := e02.trans (m14.trans e3)
    have hbad3 : OrdBad K H3 ov := Or.imp (NoStr.mn (e2.trans (m14.trans e3))) id hbad
    clear m1 m2 m3 m4
    clear m14
    have horb : ∀ {H4}, Same H3 H4 → (OrdBad K H4 o1 ∨ ∃ s, o1 = .str s ∧ ordB s = true ∧ OrdBad K H4 o2) := fun e => by
      rcases hoo with rfl | ⟨rfl, rfl⟩
      · exact Or.inl (Or.imp (NoStr.mn e) id hbad3)
      · exact Or.inr ⟨gs, rfl, hgo, Or.imp (NoStr.mn e) id hbad3⟩
    dsimp only
    refine st_seq ?_
    refine ss_if (b := false) (pt_t (pv_ne (pv_call (v := .str "order") (pva_3 (pv_var rfl) (pv_var rfl) (pv_var rfl)) fun H4 e Q q => ⟨_, o1, o2, rfl, Or.inr ⟨cs, ls, (hW.mn (e03.trans e)).ws, W, horb e, q⟩⟩) pv_c rfl (by decide))) (fun H4 e h => nomatch h) fun H4 e4 _ => ?_
    have e04 := e03.trans e4
    refine st_next ?_
    dsimp only
    -- the bad wishes
    refine st_seq ?_
    refine sr_set ⟨Nat.zero_le _, fun b1 hb1 => ⟨Nat.zero_le _, fun b2 hb2 => ⟨s2, fun b3 hb3 => ?_⟩⟩⟩
    have m1 := same_new (o := .lst []) hb1
    have m2 := same_new (o := .lst []) hb2
    have m3 := same_new (o := .tup [.ref b1, .ref b2]) hb3
    have m13 := m1.trans (m2.trans m3)
    refine vl_ixT (val_var rfl) val_c (SqT.of ((e04.trans m13) _ _ hT)) (i := 0) rfl _ ⟨Nat.zero_le _, fun b4 hb4 => ⟨s2, fun b5 hb5 => ?_⟩⟩
    have m4 := same_new (o := .lst []) hb4
    have m5 := same_new (o := .tup [.ref ca', .ref b4]) hb5
    refine vl_ixT (val_var rfl) val_c (SqT.of ((e04.trans (m13.trans (m4.trans m5))) _ _ hT)) (i := 0) rfl _ ?_
    refine vl_ixT (val_var rfl) val_c (SqT.of ((e04.trans (m13.trans (m4.trans m5))) _ _ hT)) (i := 1) rfl _ ⟨s2, fun b6 hb6 => ⟨s4, fun b7 hb7 => ?_⟩⟩
    have m6 := same_new (o := .lst [.ref ca', .ref lb']) hb6
    have m7 := same_new (o := .lst [V.non, .ref b3, .ref b5, .ref b6]) hb7
    have m17 := m13.trans ((m4.trans m5).trans (m6.trans m7))
    refine ((pv_rI (i := (d3 : Int)) (j := 4) (dg hd3 (e04.trans m17) rfl) pv_c (by decide)).to (y := vn (d3 % 4)) (congrArg V.int (Int.natCast_emod d3 4).symm)) _ (Same.refl _) _ fun H5 e5 => ?_
    have E5 := e04.trans (m17.trans e5)
    obtain ⟨bv, hbv, p, n, hbw⟩ : ∃ bv, [V.non, .ref b3, .ref b5, .ref b6][d3 % 4]? = some bv ∧ ∃ p n, BadW K H5 bv p n := by
      rcases lt_cases4 (Nat.mod_lt d3 (by decide : 4 > 0)) with h | h | h | h <;> rw [h]
      · exact ⟨_, rfl, _, _, Or.inr ⟨Or.inl rfl, rfl, rfl⟩⟩
      · refine ⟨_, rfl, _, _, Or.inl ⟨[], [], _, _, ⟨b3, _, _, rfl, SqT.of (e5 _ _ (((m4.trans m5).trans (m6.trans m7)) _ _ upd_same)), ⟨b1, rfl, SqL.of (e5 _ _ ((m2.trans (m3.trans ((m4.trans m5).trans (m6.trans m7)))) _ _ upd_same))⟩, b2, [], rfl, SqL.of (e5 _ _ ((m3.trans ((m4.trans m5).trans (m6.trans m7))) _ _ upd_same)), .nil⟩, (fun rs h => by cases h), rfl, rfl, rfl⟩⟩
      · refine ⟨_, rfl, _, _, Or.inl ⟨cs, [], _, _, ⟨b5, _, _, rfl, SqT.of (e5 _ _ ((m6.trans m7) _ _ upd_same)), ⟨ca', rfl, SqL.of (E5 _ _ hca)⟩, b4, [], rfl, SqL.of (e5 _ _ ((m5.trans (m6.trans m7)) _ _ upd_same)), .nil⟩, (fun rs h => by cases h), wf_nolists W, rfl, rfl⟩⟩
      · exact ⟨_, rfl, _, _, Or.inr ⟨Or.inr ⟨b6, _, rfl, SqL.of (e5 _ _ (m7 _ _ upd_same))⟩, rfl, rfl⟩⟩
    refine ⟨b7, _, ((d3 % 4 : Nat) : Int), bv, rfl, rfl, SqL.of (e5 _ _ upd_same), atI_nat hbv, ?_⟩
    dsimp only
    refine st_seq ?_
    refine ss_if (b := false) (pt_t (pv_ne (pv_call (v := .str "wishes") (pva_3 (pv_var rfl) (pv_var rfl) (pv_var rfl)) fun H6 e Q q => ⟨bv, o1, o2, rfl, Or.inl ⟨p, n, hbw.mn e, q⟩⟩) pv_c rfl (by decide))) (fun H4 e h => nomatch h) fun H6 e6 _ => ?_
    refine st_next ?_
    dsimp only
    refine ss_ret (v := .bl true) (pv_eq (pv_call (v := .str "wishes") (pva_3 (pv_var rfl) (pv_var rfl) (pv_var rfl)) fun H7 e Q q => ⟨bv, .str gs, .str gs, rfl, Or.inl ⟨p, n, hbw.mn (e6.trans e), q⟩⟩) pv_c rfl (by decide)) (q.mn (E5.trans e6))
end
end Wd
set_option Elab.async false
set_option linter.all false
set_option maxRecDepth 100000
set_option maxHeartbeats 4000000
/-! law_doors -/
namespace Wd
open PySem PySem.Spec PyProof.Rows L2
theorem wf_eight {ls : List (List (List Nat))} : wFault [8] ls = some (("copies" : Str), some 0) := rfl
theorem fb_last {α : Type} {Pb : α → Bool} {x : α} : ∀ {xs : List α}, (∀ y ∈ xs, Pb y = true) → Pb x = false → firstBad Pb (xs ++ [x]) = some xs.length := fun {xs} h hx => by
  unfold firstBad
  rw [if_neg (by rw [List.all_append]; simp [hx])]
  congr 1
  induction xs with
  | nil => simp [List.findIdx_cons, hx]
  | cons y ys ih =>
    rw [List.cons_append, List.findIdx_cons, h y List.mem_cons_self]
    show (ys ++ [x]).findIdx _ + 1 = ys.length + 1
    rw [ih fun z hz => h z (List.mem_cons_of_mem _ hz)]
theorem wf_more {cs : List Nat} {ls : List (List (List Nat))} (W : WG cs ls) : wFault cs (ls ++ [[[0, 0]]]) = some (("lists" : Str), if ls.length = 7 then none else some ls.length) := by
  have h := W.all
  unfold wFault
  rw [if_neg (by omega), firstBad_all fun c hc => decide_eq_true (h.2.1 c hc)]
  dsimp only
  rw [List.length_append, List.length_singleton]
  by_cases h7 : ls.length = 7
  · rw [if_pos (by omega), if_pos h7]
  · rw [if_neg (by omega), if_neg h7, fb_last h.2.2.2 (by unfold rank5; simp)]
section
variable {P : Program} {w : World} {K : Frg} {mg : Str → Option Value} {base : Heap}
/-- an odd aim and its part, in a tuple -/
def OdT (K : Frg) (H : Hp) (cs : List Nat) (ls : List (List (List Nat))) (u : V) : Prop := ∃ t xv pt, u = .ref t ∧ H t = some (.tup [xv, .str pt]) ∧ AimF K H cs ls xv (some pt)
theorem OdT.mn {H H1 : Hp} {cs : List Nat} {ls : List (List (List Nat))} {u : V} (e : Same H H1) (h : OdT K H cs ls u) : OdT K H1 cs ls u := by
  obtain ⟨t, xv, pt, h1, h2, h3⟩ := h
  exact ⟨t, xv, pt, h1, e _ _ h2, h3.mn e⟩
theorem old_nil {cs : List Nat} {ls : List (List (List Nat))} (W : WG cs ls) : oldB cs ls [] = false := by
  have := W.all.2.2.1
  unfold oldB
  rw [decide_eq_false (by show ¬ 0 = _; omega)]
  rfl
theorem old_rep {cs : List Nat} {ls : List (List (List Nat))} (W : WG cs ls) : oldB cs ls (List.replicate ls.length cs.length) = false := by
  have := W.all.2.2.1
  unfold oldB
  rw [Bool.and_eq_false_iff]
  refine Or.inr (List.all_eq_false.mpr ⟨cs.length, List.mem_replicate.mpr ⟨by omega, rfl⟩, by simp⟩)
theorem trn_one {ls : List (List (List Nat))} : trnB ls [ls.length] = false := by
  unfold trnB
  simp
theorem trn_two {ls : List (List (List Nat))} : trnB ls [0, 0] = false := by
  unfold trnB
  simp
theorem ss_ifT {σ : L2.St} {H : Hp} {D : Ends} {u : TT} {te : TE} {xs : List V} {i : Nat} {b : Bool} (h : Pt u σ H b) (h1 : ∀ H1, Same H H1 → b = true → EvT te σ H1 xs) (k : ∀ σ' H', Same H H' → (b = false ∧ σ' = σ ∨ b = true ∧ ∃ p, H' p = some (.tup xs) ∧ σ' = σ.set i (some (.ref p))) → D.nx σ' H') : tIfS u (tAsg te (gName i)) tNext D σ H :=
  ss_if h (fun H1 e1 hb => st_set (h1 H1 e1 hb) fun p H2 hp e2 h2 => k _ _ (e1.trans e2) (Or.inr ⟨hb, p, h2, rfl⟩)) fun H1 e1 hb => k _ _ e1 (Or.inl ⟨hb, rfl⟩)
/-- what is due of bad wishes -/
def dueP (d : Nat) : Str := if d = 0 then "wishes" else if d = 1 then "copies" else "lists"
def dueN (n d : Nat) : V := if d = 1 then .int 0 else if d = 2 then (if n = 7 then .non else vn n) else .non
theorem due_dp {K : Frg} {n d : Nat} : ∃ nd, (∀ H : Hp, Dp K H (dueN n d) nd) ∧ PyData.canLay0 nd = true ∧ PyData.depth nd ≤ 0 := by
  unfold dueN
  split
  · exact ⟨_, fun _ => .int 0, rfl, Nat.le_refl _⟩
  · split
    · split
      · exact ⟨_, fun _ => .non, rfl, Nat.le_refl _⟩
      · exact ⟨_, fun _ => .int _, rfl, Nat.le_refl _⟩
    · exact ⟨_, fun _ => .non, rfl, Nat.le_refl _⟩
theorem lay_tup2 {nd : PyData} {s : Str} (h : PyData.canLay0 nd = true ∧ PyData.depth nd ≤ 0) (hs : PyData.strOk s = true) : PyData.canLay0 (.tuple [.str s, nd]) = true ∧ SeqAt.shaped (.tuple [.str s, nd]) = true := by
  have h1 : PyData.canLay0 (.tuple [.str s, nd]) = true := by
    simp [PyData.canLay0, PyData.canLayAll0, h.1, hs]
  refine ⟨h1, ?_⟩
  have h2 : PyData.depth (.tuple [.str s, nd]) ≤ 2 := by
    rw [PyData.depth, PyData.depthAll, PyData.depthAll, PyData.depthAll, PyData.depth]
    have := h.2
    omega
  show (_ && decide _) = true
  rw [h1]
  exact decide_eq_true (by omega)
theorem dueP_ok (d : Nat) : PyData.strOk (dueP d) = true := by
  unfold dueP
  split
  · decide +kernel
  · split <;> decide +kernel
def spDoors (K : Frg) : Sp := fun vs H Q _ => ∃ v cs ls da ds, vs = [v, .ref da] ∧ WN H v cs ls ∧ WG cs ls ∧ SqL K H da (List.map vn ds) ∧ Dig ds [3, 3, 3, 8, 4, 11] ∧ RetG (.bl true) H Q
theorem sc_law_doors : FnScope N_law_doors ["_law_wishes_here", "_law_digits"] (defScope s_law_doors) := ⟨rfl, rfl, rfl, by decide +kernel, rfl, by decide +kernel, by decide +kernel⟩
theorem ok_law_doors (G : Gx K mg) : Known P w K mg base CX0 13 "_law_doors" ["_law_wishes_here", "_law_digits"] (spDoors K) := by
  have sc := sc_law_doors
  have k_web_of := ok_web_of (P := P) (w := w) (base := base) G
  have k_law_door := ok_law_door (P := P) (w := w) (base := base) G
  refine G.f_law_doors.known sc (fun _ _ _ _ _ _ us hl => match us, hl with | [_, _], _ => rfl) (fun vs H Q E h => ?_) (fun cdv A outer s H vs Q E hr h => ?_)
  · obtain ⟨v, cs, ls, da, ds, rfl, _⟩ := h; rfl
  · obtain ⟨v, cs, ls, da, ds, rfl, hW, W, hda, hD, q⟩ := h
    refine ⟨_, (pss_cons (ps_set (i := 2) sc.nd rfl (Or.inl rfl) (pe_tup (pa_cons pe_str (pa_cons pe_non (pa_cons (pe_lst pa_nil) pa_nil)))))
      (pss_cons (ps_set (i := 3) sc.nd rfl (Or.inl rfl) (pe_kn k_web_of (hr.mono (by decide)) pass0 (pa_cons (pv 0) (pa_cons (pv 2) pa_nil))))
      (pss_cons (ps_set (i := 4) sc.nd rfl (Or.inl rfl) (pe_callB call_len_seq (by rfl) G.n_len (by decide +kernel) (pa_cons (pe_ix ix_tup (pv 0) pe_int (fun _ _ => rfl)) pa_nil)))
      (pss_cons (ps_set (i := 5) sc.nd rfl (Or.inl rfl) (pe_lst (pa_cons (pe_tup (pa_cons pe_non (pa_cons pe_str pa_nil))) (pa_cons (pe_tup (pa_cons (pe_tup (pa_cons pe_str (pa_cons pe_non pa_nil))) (pa_cons pe_str pa_nil))) (pa_cons (pe_tup (pa_cons (pe_lst (pa_cons pe_str (pa_cons pe_non (pa_cons (pe_lst pa_nil) pa_nil)))) (pa_cons pe_str pa_nil))) pa_nil)))))
      (pss_cons (ps_expr (pe_bm PySem.F.plainAttrs_list PySem.F.slot_list_append PySem.F.type_list_append mt_append (pv 5) (pa_cons (pe_tup (pa_cons (pe_tup (pa_cons pe_str (pa_cons pe_non (pa_cons (pe_lst pa_nil) pa_nil)))) (pa_cons pe_str pa_nil))) pa_nil)))
      (pss_cons (ps_set (i := 5) sc.nd rfl (Or.inl rfl) (pe_op op_cat (pv 5) (pe_lst (pa_cons (pe_tup (pa_cons (pe_tup (pa_cons pe_str (pa_cons (pe_lst pa_nil) (pa_cons (pe_lst pa_nil) pa_nil)))) (pa_cons pe_str pa_nil))) (pa_cons (pe_tup (pa_cons (pe_tup (pa_cons pe_str (pa_cons (pe_op op_rep (pe_lst (pa_cons (pe_callB call_len_seq (by rfl) G.n_len (by decide +kernel) (pa_cons (pe_ix ix_tup (pv 0) pe_int (fun _ _ => rfl)) pa_nil)) pa_nil)) (pv 4)) (pa_cons (pe_lst pa_nil) pa_nil)))) (pa_cons pe_str pa_nil))) pa_nil)))))
      (pss_cons (ps_set (i := 5) sc.nd rfl (Or.inl rfl) (pe_op op_cat (pv 5) (pe_lst (pa_cons (pe_tup (pa_cons (pe_tup (pa_cons pe_str (pa_cons pe_non (pa_cons (pe_lst (pa_cons (pv 4) pa_nil)) pa_nil)))) (pa_cons pe_str pa_nil))) (pa_cons (pe_tup (pa_cons (pe_tup (pa_cons pe_str (pa_cons pe_non (pa_cons (pe_lst (pa_cons pe_int (pa_cons pe_int pa_nil))) pa_nil)))) (pa_cons pe_str pa_nil))) pa_nil)))))
      (pss_cons (ps_asg (pe_ix ix_list (pv 5) (pe_ix ix_list (pv 1) pe_int (fun _ _ => rfl)) (fun _ _ => rfl)) (pg_tup rfl (pgs_cons (pg_name (i := 6) sc.nd rfl (Or.inl rfl)) (pgs_cons (pg_name (i := 7) sc.nd rfl (Or.inl rfl)) pgs_nil))))
      (pss_cons (ps_set (i := 8) sc.nd rfl (Or.inl rfl) (pe_lst (pa_cons pe_non (pa_cons (pe_tup (pa_cons (pe_lst (pa_cons pe_int pa_nil)) (pa_cons (pe_ix ix_tup (pv 0) pe_int (fun _ _ => rfl)) pa_nil))) (pa_cons (pe_tup (pa_cons (pe_ix ix_tup (pv 0) pe_int (fun _ _ => rfl)) (pa_cons (pe_op op_cat (pe_ix ix_tup (pv 0) pe_int (fun _ _ => rfl)) (pe_lst (pa_cons (pe_lst (pa_cons (pe_lst (pa_cons pe_int (pa_cons pe_int pa_nil))) pa_nil)) pa_nil))) pa_nil))) pa_nil)))))
      (pss_cons (ps_set (i := 8) sc.nd rfl (Or.inl rfl) (pe_ix ix_list (pe_op op_cat (pv 8) (pe_lst (pa_cons (pe_tup (pa_cons (pe_ix ix_tup (pv 0) pe_int (fun _ _ => rfl)) (pa_cons (pe_lst pa_nil) pa_nil))) pa_nil))) (pe_ix ix_list (pv 1) pe_int (fun _ _ => rfl)) (fun _ _ => rfl)))
      (pss_cons (ps_set (i := 9) sc.nd rfl (Or.inl rfl) (pe_ix ix_list (pe_lst (pa_cons (pe_tup (pa_cons pe_str (pa_cons pe_non pa_nil))) (pa_cons (pe_tup (pa_cons pe_str (pa_cons pe_int pa_nil))) (pa_cons (pe_tup (pa_cons pe_str (pa_cons (pe_callB call_len_seq (by rfl) G.n_len (by decide +kernel) (pa_cons (pe_ix ix_tup (pv 0) pe_int (fun _ _ => rfl)) pa_nil)) pa_nil))) (pa_cons (pe_tup (pa_cons pe_str (pa_cons pe_non pa_nil))) pa_nil))))) (pe_ix ix_list (pv 1) pe_int (fun _ _ => rfl)) (fun _ _ => rfl)))
      (pss_cons (ps_if (PW.pt (pw_and (pt_cmpR op_eq (pe_ix ix_list (pv 1) pe_int (fun _ _ => rfl)) pe_int (nomark _)) (pw_and1 (pt_cmpR op_eq (pe_callB call_len_seq (by rfl) G.n_len (by decide +kernel) (pa_cons (pe_ix ix_tup (pv 0) pe_int (fun _ _ => rfl)) pa_nil)) pe_int (nomark _)))))
      (pss_one (ps_set (i := 9) sc.nd rfl (Or.inl rfl) (pe_tup (pa_cons pe_str (pa_cons pe_non pa_nil))))) pss_nil)
      (pss_cons (ps_for PassesOwn.never rfl (pi_range1 rfl G.n_range (pa_cons pe_int pa_nil)) (pg_name (i := 10) sc.nd rfl (Or.inl rfl))
      (pss_cons (ps_if (pt_cmpR (op_neD hr.units) (pe_kn k_law_door (hr.mono (by decide)) pass0 (pa_cons (pv 10) (pa_cons (pv 8) (pa_cons (pe_ix ix_list (pe_lst (pa_cons (pv 2) (pa_cons (pv 6) pa_nil))) (pe_op op_mod (pv 10) pe_int) (fun _ _ => rfl)) (pa_cons (pv 3) pa_nil))))) (pv 9) (nomark _))
      (pss_one (ps_ret pe_bl)) pss_nil)
      (pss_cons (ps_if (pt_cmpR (op_neD hr.units) (pe_kn k_law_door (hr.mono (by decide)) pass0 (pa_cons (pv 10) (pa_cons (pv 8) (pa_cons (pe_ix ix_list (pe_lst (pa_cons (pv 6) (pa_cons (pv 2) pa_nil))) (pe_op op_mod (pv 10) pe_int) (fun _ _ => rfl)) (pa_cons (pv 3) pa_nil))))) (pv 9) (nomark _))
      (pss_one (ps_ret pe_bl)) pss_nil)
      (pss_one (ps_if (pt_cmpR op_ne (pe_kn k_law_door (hr.mono (by decide)) pass0 (pa_cons (pv 10) (pa_cons (pv 0) (pa_cons (pv 6) (pa_cons (pv 3) pa_nil))))) (pv 7) (nomark _))
      (pss_one (ps_ret pe_bl)) pss_nil)))))
      (pss_one (ps_ret pe_bl))))))))))))))), ?_⟩
    have s1 : 1 ≤ sizeLine := by rw [sizeLine_eq]; decide
    have s2 : 2 ≤ sizeLine := by rw [sizeLine_eq]; decide
    have s3 : 3 ≤ sizeLine := by rw [sizeLine_eq]; decide
    have s4 : 4 ≤ sizeLine := by rw [sizeLine_eq]; decide
    obtain ⟨d3, hd3, l3⟩ := dig_at hD (i := 3) rfl
    obtain ⟨d4, hd4, l4⟩ := dig_at hD (i := 4) rfl
    have dg : ∀ {i d : Nat}, ds[i]? = some d → ∀ {H1 : Hp} {σ : L2.St}, Same H H1 → σ[1]? = some (some (V.ref da)) → Pv (tOp (rIxL K) (tVar 1) (tC (.int (i : Int)))) σ H1 (vn d) := fun {i d} hd {H1 σ} e hσ => pv_ixL (v := vn d) (pv_var hσ) pv_c (SqL.mn e hda) (atI_nat (by rw [List.getElem?_map, hd]; rfl))
    obtain ⟨vp, ca, lb, rfl, hT, ⟨ca', rfl, hca⟩, lb', us, rfl, hlb, hpr⟩ := id hW
    have hW7 := W.all
    have hul : us.length = ls.length := hpr.length
    refine st_seq ?_
    refine sr_set ⟨Nat.zero_le _, fun g0 hg0 => ⟨s3, fun gp hgp => ?_⟩⟩
    have n1 := same_new (o := .lst []) hg0
    have n2 := same_new (o := .tup [V.str "full", .non, .ref g0]) hgp
    have hA : AOk K (upd (upd H g0 (.lst [])) gp (.tup [V.str "full", .non, .ref g0])) (.ref gp) "full" := ⟨gp, g0, rfl, SqT.of upd_same, by decide +kernel, SqL.of (n2 _ _ upd_same)⟩
    dsimp only
    refine st_seq ?_
    refine sr_set (c_call (pva_2 (pv_var rfl) (pv_var rfl)) fun H1 e1 => ⟨_, _, cs, ls, "full", rfl, (hW.mn ((n1.trans n2).trans e1)).ws, W, hA.mn e1, fun wb H2 e2 => ?_⟩)
    have e02 := (n1.trans n2).trans (e1.trans e2)
    have hA2 := hA.mn (e1.trans e2)
    dsimp only
    refine st_seq ?_
    refine ss_set (pv_len (n := ls.length) (pv_ixT (i := 1) (pv_var rfl) pv_c (SqT.of (e02 _ _ hT)) rfl) (.inl (SqL.of (e02 _ _ hlb))) hul) fun H3 e3 => ?_
    have e03 := e02.trans e3
    have hA3 := hA2.mn e3
    dsimp only
    -- odd aims
    refine st_seq ?_
    refine sr_set ⟨s2, fun a1 ha1 => ⟨s2, fun a2 ha2 => ⟨s2, fun a3 ha3 => ⟨Nat.zero_le _, fun a4 ha4 => ⟨s3, fun a5 ha5 => ⟨s2, fun a6 ha6 => ⟨s3, fun l1 hl1 => ?_⟩⟩⟩⟩⟩⟩⟩
    have k1 := same_new (o := .tup [V.non, .str "aim"]) ha1
    have k2 := same_new (o := .tup [V.str "full", .non]) ha2
    have k3 := same_new (o := .tup [V.ref a2, .str "aim"]) ha3
    have k4 := same_new (o := .lst []) ha4
    have k5 := same_new (o := .lst [V.str "full", .non, .ref a4]) ha5
    have k6 := same_new (o := .tup [V.ref a5, .str "aim"]) ha6
    have k26 := k2.trans (k3.trans (k4.trans (k5.trans k6)))
    have f1 : OdT K _ cs ls (.ref a1) := ⟨a1, .non, "aim", rfl, k26 _ _ upd_same, .none⟩
    have f2 : OdT K _ cs ls (.ref a3) := ⟨a3, .ref a2, "aim", rfl, (k4.trans (k5.trans k6)) _ _ upd_same, .len (SqT.of ((k3.trans (k4.trans (k5.trans k6))) _ _ upd_same)) (by decide)⟩
    have f3 : OdT K _ cs ls (.ref a6) := ⟨a6, .ref a5, "aim", rfl, upd_same, .list (SqL.of (k6 _ _ upd_same))⟩
    have e04 := e03.trans (k1.trans k26)
    have hA4 := hA3.mn (k1.trans k26)
    generalize hH4 : upd (upd (upd (upd (upd (upd H3 a1 _) a2 _) a3 _) a4 _) a5 _) a6 _ = H4 at f1 f2 f3 e04 hA4 hl1 ⊢
    clear k1 k2 k3 k4 k5 k6
    clear k26
    dsimp only
    refine st_seq ?_
    refine ⟨_, rfl, .inl ⟨rfl, _, SqL.of upd_same⟩, Nat.zero_le _, fun b1 hb1 => ⟨s3, fun b2 hb2 => ⟨s2, fun b3 hb3 => ⟨l1, _, .ref b3, rfl, rfl, ((same_new hb1).trans ((same_new hb2).trans (same_new hb3))) _ _ upd_same, by show 3 < _; rw [sizeLine_eq]; decide, ?_⟩⟩⟩⟩
    have k0 := same_new (o := .lst [V.ref a1, .ref a3, .ref a6]) hl1
    have k1 := same_new (o := .lst []) hb1
    have k2 := same_new (o := .tup [V.str "none", .non, .ref b1]) hb2
    have k3 := same_new (o := .tup [V.ref b2, .str "order"]) hb3
    have x2 : b2 ≠ l1 := fun z => by rw [z, k1 _ _ upd_same] at hb2; cases hb2
    have x3 : b3 ≠ l1 := fun z => by rw [z, (k1.trans k2) _ _ upd_same] at hb3; cases hb3
    have x5 := same_mut (o := .lst ([V.ref a1, .ref a3, .ref a6] ++ [V.ref b3])) (k0.trans (k1.trans (k2.trans k3))) hl1
    have f4 : OdT K (upd (upd (upd (upd (upd H4 l1 (.lst [V.ref a1, .ref a3, .ref a6])) b1 (.lst [])) b2 (.tup [V.str "none", .non, .ref b1])) b3 (.tup [V.ref b2, .str "order"])) l1 (.lst ([V.ref a1, .ref a3, .ref a6] ++ [V.ref b3]))) cs ls (.ref b3) := ⟨b3, .ref b2, "order", rfl, by rw [upd_ne x3, upd_same], .ord (SqT.of (by rw [upd_ne x2]; exact k3 _ _ upd_same)) (Or.inr ⟨_, rfl, by decide +kernel⟩)⟩
    replace f1 := f1.mn x5
    replace f2 := f2.mn x5
    replace f3 := f3.mn x5
    have e05 := e04.trans x5
    have hA5 := hA4.mn x5
    have hl5 : upd (upd (upd (upd (upd H4 l1 (.lst [V.ref a1, .ref a3, .ref a6])) b1 (.lst [])) b2 (.tup [V.str "none", .non, .ref b1])) b3 (.tup [V.ref b2, .str "order"])) l1 (.lst ([V.ref a1, .ref a3, .ref a6] ++ [V.ref b3])) l1 = _ := upd_same
    clear k0 k1 k2 k3
    generalize upd (upd (upd (upd (upd H4 l1 _) b1 _) b2 _) b3 _) l1 _ = H5 at f1 f2 f3 f4 e05 hA5 hl5 ⊢
    clear x5
    -- old
    dsimp only
    refine st_seq ?_
    refine sr_set ⟨_, rfl, Nat.zero_le _, fun c1 hc1 => ⟨Nat.zero_le _, fun c2 hc2 => ⟨s3, fun c3 hc3 => ⟨s2, fun c4 hc4 => ?_⟩⟩⟩⟩
    have k1 := same_new (o := .lst []) hc1
    have k2 := same_new (o := .lst []) hc2
    have k3 := same_new (o := .tup [V.str "full", .ref c1, .ref c2]) hc3
    have k4 := same_new (o := .tup [V.ref c3, .str "old"]) hc4
    have k14 := k1.trans (k2.trans (k3.trans k4))
    have f5 : OdT K _ cs ls (.ref c4) := ⟨c4, .ref c3, "old", rfl, upd_same, .old (xs := []) (SqT.of (k4 _ _ upd_same)) (by decide +kernel) (SqL.of ((k2.trans (k3.trans k4)) _ _ upd_same)) (old_nil W)⟩
    refine el_rep (k := (ls.length : Int)) (xs := [vn cs.length]) (el_lst (pva_1 (pv_len (n := cs.length) (pv_ixT (i := 0) (pv_var rfl) pv_c (SqT.of ((e05.trans k14) _ _ hT)) rfl) (.inl (SqL.of ((e05.trans k14) _ _ hca))) (List.length_map ..))) s1) (fun _ _ => pv_var rfl) (by omega) (by show 1 ≤ _; omega) _ fun c6 H6 hc6 e6 h6 => ?_
    rw [show ((ls.length : Nat) : Int).toNat = ls.length by omega, rep_flat] at h6
    refine ⟨Nat.zero_le _, fun c7 hc7 => ⟨s3, fun c8 hc8 => ⟨s2, fun c9 hc9 => ⟨s2, fun c10 hc10 => ?_⟩⟩⟩⟩
    have k7 := same_new (o := .lst []) hc7
    have k8 := same_new (o := .tup [V.str "full", .ref c6, .ref c7]) hc8
    have k9 := same_new (o := .tup [V.ref c8, .str "old"]) hc9
    have k10 := same_new (o := .lst [V.ref c4, .ref c9]) hc10
    have k710 := k7.trans (k8.trans (k9.trans k10))
    have f6 : OdT K _ cs ls (.ref c9) := ⟨c9, .ref c8, "old", rfl, k10 _ _ upd_same, .old (xs := List.replicate ls.length cs.length) (SqT.of ((k9.trans k10) _ _ upd_same)) (by decide +kernel) (SqL.of (k710 _ _ (by rw [h6, List.map_replicate]))) (old_rep W)⟩
    have kk := k14.trans (e6.trans k710)
    refine ⟨l1, c10, _, _, rfl, rfl, kk _ _ hl5, upd_same, by show 6 ≤ _; rw [sizeLine_eq]; decide, fun l2 hl2 => ?_⟩
    have kl := same_new (o := .lst (([V.ref a1, .ref a3, .ref a6] ++ [V.ref b3]) ++ [V.ref c4, .ref c9])) hl2
    replace f1 := f1.mn (kk.trans kl)
    replace f2 := f2.mn (kk.trans kl)
    replace f3 := f3.mn (kk.trans kl)
    replace f4 := f4.mn (kk.trans kl)
    replace f5 := f5.mn (e6.trans (k710.trans kl))
    replace f6 := f6.mn kl
    have e06 := e05.trans (kk.trans kl)
    have hA6 := hA5.mn (kk.trans kl)
    have hl6 : upd (upd (upd (upd (upd H6 c7 (.lst [])) c8 (.tup [V.str "full", .ref c6, .ref c7])) c9 (.tup [V.ref c8, .str "old"])) c10 (.lst [V.ref c4, .ref c9])) l2 (.lst (([V.ref a1, .ref a3, .ref a6] ++ [V.ref b3]) ++ [V.ref c4, .ref c9])) l2 = _ := upd_same
    clear k1 k2 k3 k4
    clear k14
    clear k7 k8 k9 k10
    clear k710
    clear kk
    generalize upd (upd (upd (upd (upd H6 c7 _) c8 _) c9 _) c10 _) l2 _ = H7 at f1 f2 f3 f4 f5 f6 e06 hA6 hl6 kl ⊢
    clear kl
    -- turns
    dsimp only
    refine st_seq ?_
    refine sr_set ⟨_, rfl, _, rfl, s1, fun p1 hp1 => ⟨s3, fun p2 hp2 => ⟨s2, fun p3 hp3 => ⟨s2, fun p4 hp4 => ⟨s3, fun p5 hp5 => ⟨s2, fun p6 hp6 => ⟨s2, fun p7 hp7 => ?_⟩⟩⟩⟩⟩⟩⟩
    have k1 := same_new (o := .lst [vn ls.length]) hp1
    have k2 := same_new (o := .tup [V.str "full", .non, .ref p1]) hp2
    have k3 := same_new (o := .tup [V.ref p2, .str "turns"]) hp3
    have k4 := same_new (o := .lst [V.int 0, .int 0]) hp4
    have k5 := same_new (o := .tup [V.str "lasts", .non, .ref p4]) hp5
    have k6 := same_new (o := .tup [V.ref p5, .str "turns"]) hp6
    have k7 := same_new (o := .lst [V.ref p3, .ref p6]) hp7
    have k47 := k4.trans (k5.trans (k6.trans k7))
    have k37 := k3.trans k47
    have f7 : OdT K _ cs ls (.ref p3) := ⟨p3, .ref p2, "turns", rfl, k47 _ _ upd_same, .trn (xs := [ls.length]) (SqT.of (k37 _ _ upd_same)) (by decide +kernel) (SqL.of ((k2.trans k37) _ _ upd_same)) (by show 1 ≤ _; omega) trn_one⟩
    have f8 : OdT K _ cs ls (.ref p6) := ⟨p6, .ref p5, "turns", rfl, k7 _ _ upd_same, .trn (xs := [0, 0]) (SqT.of ((k6.trans k7) _ _ upd_same)) (by decide +kernel) (SqL.of ((k5.trans (k6.trans k7)) _ _ upd_same)) (by decide) trn_two⟩
    have k17 := k1.trans (k2.trans k37)
    refine ⟨l2, p7, _, _, rfl, rfl, k17 _ _ hl6, upd_same, by show 8 ≤ _; rw [sizeLine_eq]; decide, fun lz hlz => ?_⟩
    have kl := same_new (o := .lst ((([V.ref a1, .ref a3, .ref a6] ++ [V.ref b3]) ++ [V.ref c4, .ref c9]) ++ [V.ref p3, .ref p6])) hlz
    replace f1 := f1.mn (k17.trans kl)
    replace f2 := f2.mn (k17.trans kl)
    replace f3 := f3.mn (k17.trans kl)
    replace f4 := f4.mn (k17.trans kl)
    replace f5 := f5.mn (k17.trans kl)
    replace f6 := f6.mn (k17.trans kl)
    replace f7 := f7.mn kl
    replace f8 := f8.mn kl
    have hods : ∀ u ∈ [V.ref a1, .ref a3, .ref a6, .ref b3, .ref c4, .ref c9, .ref p3, .ref p6], OdT K _ cs ls u := List.forall_mem_cons.mpr ⟨f1, List.forall_mem_cons.mpr ⟨f2, List.forall_mem_cons.mpr ⟨f3, List.forall_mem_cons.mpr ⟨f4, List.forall_mem_cons.mpr ⟨f5, List.forall_mem_cons.mpr ⟨f6, List.forall_mem_cons.mpr ⟨f7, List.forall_mem_cons.mpr ⟨f8, (fun _ h => absurd h List.not_mem_nil)⟩⟩⟩⟩⟩⟩⟩⟩
    have e07 := e06.trans (k17.trans kl)
    have hA7 := hA6.mn (k17.trans kl)
    obtain ⟨ou, hou, ot, xv, part, rfl, hot, hxv⟩ : ∃ ou, [V.ref a1, .ref a3, .ref a6, .ref b3, .ref c4, .ref c9, .ref p3, .ref p6][d3]? = some ou ∧ OdT K _ cs ls ou := by
      have : d3 < [V.ref a1, .ref a3, .ref a6, .ref b3, .ref c4, .ref c9, .ref p3, .ref p6].length := l3
      exact ⟨_, List.getElem?_eq_getElem this, hods _ (List.getElem_mem this)⟩
    dsimp only
    refine st_seq ?_
    refine ⟨_, rfl, ?_⟩
    refine dg hd3 e07 rfl _ (Same.refl _) _ fun H8 e8 => ?_
    refine ⟨lz, _, d3, .ref ot, rfl, rfl, SqL.of (e8 _ _ upd_same), atI_nat hou, w_tg2 (SqT.of (e8 _ _ hot)) ?_⟩
    have e08 := e07.trans e8
    have hA8 := hA7.mn e8
    have hxv8 := hxv.mn e8
    dsimp only
    refine st_seq ?_
    refine sr_set ⟨s1, fun q1 hq1 => ?_⟩
    have k1 := same_new (o := .lst [V.int 8]) hq1
    refine vl_ixT (i := 1) (val_var rfl) val_c (SqT.of ((e08.trans k1) _ _ hT)) rfl _ ⟨s2, fun q2 hq2 => ?_⟩
    have k2 := same_new (o := .tup [V.ref q1, .ref lb']) hq2
    refine vl_ixT (i := 0) (val_var rfl) val_c (SqT.of ((e08.trans (k1.trans k2)) _ _ hT)) rfl _ ?_
    refine vl_ixT (i := 1) (val_var rfl) val_c (SqT.of ((e08.trans (k1.trans k2)) _ _ hT)) rfl _ ⟨s2, fun q3 hq3 => ⟨s1, fun q4 hq4 => ⟨s1, fun q5 hq5 => ?_⟩⟩⟩
    have k3 := same_new (o := .lst [V.int 0, .int 0]) hq3
    have k4 := same_new (o := .lst [V.ref q3]) hq4
    have k5 := same_new (o := .lst [V.ref q4]) hq5
    have k15 := k1.trans (k2.trans (k3.trans (k4.trans k5)))
    refine ⟨lb', q5, us, [V.ref q4], rfl, rfl, (e08.trans k15) _ _ hlb, upd_same, by rw [hul, sizeLine_eq]; show _ + 1 ≤ _; omega, fun q6 hq6 => ⟨s2, fun q7 hq7 => ⟨s3, fun q8 hq8 => ?_⟩⟩⟩
    have k6 := same_new (o := .lst (us ++ [V.ref q4])) hq6
    have k7 := same_new (o := .tup [V.ref ca', .ref q6]) hq7
    have k8 := same_new (o := .lst [V.non, .ref q2, .ref q7]) hq8
    have k18 := k15.trans (k6.trans (k7.trans k8))
    have k38 := k3.trans (k4.trans (k5.trans (k6.trans (k7.trans k8))))
    have g1 := (k2.trans k38) _ _ (upd_same (a := q1) (o := .lst [V.int 8]))
    have g2 := k38 _ _ (upd_same (a := q2) (o := .tup [V.ref q1, .ref lb']))
    have g3 := (k4.trans (k5.trans (k6.trans (k7.trans k8)))) _ _ (upd_same (a := q3) (o := .lst [V.int 0, .int 0]))
    have g4 := (k5.trans (k6.trans (k7.trans k8))) _ _ (upd_same (a := q4) (o := .lst [V.ref q3]))
    have g6 := (k7.trans k8) _ _ (upd_same (a := q6) (o := .lst (us ++ [V.ref q4])))
    have g7 := k8 _ _ (upd_same (a := q7) (o := .tup [V.ref ca', .ref q6]))
    have e09 := e08.trans k18
    have hA9 := hA8.mn k18
    have hxv9 := hxv8.mn k18
    dsimp only
    refine st_seq ?_
    refine sr_set ⟨_, rfl, ?_⟩
    refine vl_ixT (i := 0) (val_var rfl) val_c (SqT.of (e09 _ _ hT)) rfl _ ⟨Nat.zero_le _, fun r1 hr1 => ⟨s2, fun r2 hr2 => ⟨s1, fun r3 hr3 => ?_⟩⟩⟩
    have m1 := same_new (o := .lst []) hr1
    have m2 := same_new (o := .tup [V.ref ca', .ref r1]) hr2
    have m3 := same_new (o := .lst [V.ref r2]) hr3
    have m13 := m1.trans (m2.trans m3)
    refine ⟨q8, r3, _, _, rfl, rfl, m13 _ _ upd_same, upd_same, s4, fun r4 hr4 => ?_⟩
    have m4 := same_new (o := .lst ([V.non, .ref q2, .ref q7] ++ [V.ref r2])) hr4
    have m14 := m13.trans m4
    refine dg hd4 (e09.trans m14) rfl _ (Same.refl _) _ fun H10 e10 => ?_
    have M := m14.trans e10
    have E10 := e09.trans M
    obtain ⟨bv, hbv, hbw⟩ : ∃ bv, ([V.non, .ref q2, .ref q7] ++ [V.ref r2])[d4]? = some bv ∧ BadW K H10 bv (.str (dueP d4)) (dueN ls.length d4) := by
      have hlb0 : LLLN K H10 (.ref lb') ls := LLLNn.ln ⟨lb', us, rfl, E10 _ _ hlb, Paired.mapP hpr fun _ _ h => h.mn E10⟩
      have hca0 : LN K H10 (.ref ca') cs := ⟨ca', rfl, SqL.of (E10 _ _ hca)⟩
      rcases lt_cases4 l4 with h | h | h | h <;> subst h
      · exact ⟨_, rfl, Or.inr ⟨Or.inl rfl, rfl, rfl⟩⟩
      · exact ⟨_, rfl, Or.inl ⟨[8], ls, _, _, ⟨q2, _, _, rfl, SqT.of (M _ _ g2), ⟨q1, rfl, SqL.of (M _ _ g1)⟩, hlb0⟩, W.sz, wf_eight, rfl, rfl⟩⟩
      · refine ⟨_, rfl, Or.inl ⟨cs, ls ++ [[[0, 0]]], _, _, ⟨q7, _, _, rfl, SqT.of (M _ _ g7), hca0, q6, us ++ [V.ref q4], rfl, SqL.of (M _ _ g6), Paired.snoc (Paired.mapP hpr fun _ _ h => (h.mn E10).ln) ⟨q4, [V.ref q3], rfl, SqL.of (M _ _ g4), .cons ⟨q3, rfl, SqL.of (M _ _ g3)⟩ .nil⟩⟩, fun rs hr => ?_, wf_more W, rfl, ?_⟩⟩
        · rcases List.mem_append.mp hr with h | h
          · exact W.sz rs h
          · rw [List.mem_singleton.mp h]; decide
        · show (if ls.length = 7 then V.non else vn ls.length) = vo (if ls.length = 7 then none else some ls.length)
          by_cases h7 : ls.length = 7
          · rw [if_pos h7, if_pos h7]; rfl
          · rw [if_neg h7, if_neg h7]; rfl
      · exact ⟨_, rfl, Or.inl ⟨cs, [], _, _, ⟨r2, _, _, rfl, SqT.of (e10 _ _ ((m3.trans m4) _ _ upd_same)), hca0, r1, [], rfl, SqL.of (e10 _ _ ((m2.trans (m3.trans m4)) _ _ upd_same)), .nil⟩, (fun rs h => by cases h), wf_nolists W, rfl, rfl⟩⟩
    refine ⟨r4, _, d4, bv, rfl, rfl, SqL.of (e10 _ _ upd_same), atI_nat hbv, ?_⟩
    have hA10 := hA9.mn M
    have hxv10 := hxv9.mn M
    dsimp only
    have hbw10 : BadW K H10 bv (.str (dueP d4)) (dueN ls.length d4) := hbw
    have hT10 := E10 _ _ hT
    have hlb10 := E10 _ _ hlb
    clear m1 m2 m3 m4
    clear m13
    clear m14
    clear M
    clear g1 g2 g3 g4 g6 g7
    -- what is due
    refine st_seq ?_
    refine sr_set ⟨s2, fun t1 ht1 => ⟨s2, fun t2 ht2 => ?_⟩⟩
    have m1 := same_new (o := .tup [V.str "wishes", .non]) ht1
    have m2 := same_new (o := .tup [V.str "copies", .int 0]) ht2
    refine vl_ixT (i := 1) (val_var rfl) val_c (SqT.of ((m1.trans m2) _ _ hT10)) rfl _ ⟨lb', us, rfl, .inl (SqL.of ((m1.trans m2) _ _ hlb10)), ⟨s2, fun t3 ht3 => ⟨s2, fun t4 ht4 => ⟨s4, fun t5 ht5 => ?_⟩⟩⟩⟩
    have m3 := same_new (o := .tup [V.str "lists", .int (us.length : Int)]) ht3
    have m4 := same_new (o := .tup [V.str "lists", .non]) ht4
    have m5 := same_new (o := .lst [V.ref t1, .ref t2, .ref t3, .ref t4]) ht5
    have m25 := m2.trans (m3.trans (m4.trans m5))
    have m15 := m1.trans m25
    refine dg hd4 (E10.trans m15) rfl _ (Same.refl _) _ fun H11 e11 => ?_
    have M := m15.trans e11
    have E11 := E10.trans M
    obtain ⟨dt0, n0, hdt, hdt0, hn0⟩ : ∃ dt0 n0, [V.ref t1, .ref t2, .ref t3, .ref t4][d4]? = some (.ref dt0) ∧ H11 dt0 = some (.tup [.str (dueP d4), n0]) ∧ (¬ (d4 = 2 ∧ ls.length = 7) → n0 = dueN ls.length d4) := by
      rcases lt_cases4 l4 with h | h | h | h <;> subst h
      · exact ⟨t1, _, rfl, e11 _ _ (m25 _ _ upd_same), fun _ => rfl⟩
      · exact ⟨t2, _, rfl, e11 _ _ ((m3.trans (m4.trans m5)) _ _ upd_same), fun _ => rfl⟩
      · refine ⟨t3, _, rfl, e11 _ _ ((m4.trans m5) _ _ upd_same), fun h => ?_⟩
        show V.int (us.length : Int) = (if ls.length = 7 then V.non else vn ls.length)
        rw [if_neg fun z => h ⟨rfl, z⟩, hul]
      · exact ⟨t4, _, rfl, e11 _ _ (m5 _ _ upd_same), fun _ => rfl⟩
    refine ⟨t5, _, d4, .ref dt0, rfl, rfl, SqL.of (e11 _ _ upd_same), atI_nat hdt, ?_⟩
    have hbw11 := hbw10.mn M
    have hA11 := hA10.mn M
    have hxv11 := hxv10.mn M
    dsimp only
    refine st_seq ?_
    refine ss_ifT (b := decide ((d4 : Int) = 2) && decide ((ls.length : Int) = 7)) (xs := [.str "lists", .non]) (pt_and (pt_t (pv_eq (dg hd4 E11 rfl) pv_c rfl dec_i)) fun _ => pt_t (pv_eq (pv_len (n := ls.length) (pv_ixT (i := 1) (pv_var rfl) pv_c (SqT.of (E11 _ _ hT)) rfl) (.inl (SqL.of (E11 _ _ hlb))) hul) pv_c rfl dec_i)) (fun H12 e12 _ => et_tup (pva_2 pv_c pv_c)) fun σ' H12 e12 hor => ?_
    obtain ⟨dt, hdt12, rfl⟩ : ∃ dt, H12 dt = some (.tup [.str (dueP d4), dueN ls.length d4]) ∧ σ' = [some (.ref vp), some (.ref da), some (.ref gp), some wb, some (vn ls.length), some (.ref lz), some xv, some (.str part), some bv, some (.ref dt), none] := by
      rcases hor with ⟨hb, rfl⟩ | ⟨hb, pp, hpp, rfl⟩
      · refine ⟨dt0, ?_, rfl⟩
        rw [← hn0 fun ⟨z1, z2⟩ => by rw [z1, z2] at hb; cases hb]
        exact e12 _ _ hdt0
      · obtain ⟨z1, z2⟩ := Bool.and_eq_true_iff.mp hb
        have z1 := of_decide_eq_true z1
        have z2 := of_decide_eq_true z2
        have y1 : d4 = 2 := by omega
        have y2 : ls.length = 7 := by omega
        refine ⟨pp, ?_, rfl⟩
        rw [hpp, y1, y2]
        rfl
    have E12 := E11.trans e12
    have hbw12 := hbw11.mn e12
    have hA12 := hA11.mn e12
    have hxv12 := hxv11.mn e12
    obtain ⟨nd, hnd, hlay⟩ := due_dp (K := K) (n := ls.length) (d := d4)
    obtain ⟨y1, y2⟩ := lay_tup2 (s := dueP d4) hlay (dueP_ok d4)
    dsimp only
    refine st_seq ?_
    refine w_forR (n := 7) (fun Q q => q) (by decide) (by decide) (fun j σ H' => ∃ y10, σ = [some (.ref vp), some (.ref da), some (.ref gp), some wb, some (vn ls.length), some (.ref lz), some xv, some (.str part), some bv, some (.ref dt), y10] ∧ Same H12 H') ⟨_, rfl, Same.refl _⟩ ?_ ?_
    · rintro j σ H13 hj ⟨y10, rfl, e13⟩
      have pick : ∀ (a b : V), ∃ z, [a, b][j % 2]? = some z := fun a b => by
        have : j % 2 < 2 := Nat.mod_lt _ (by decide)
        rcases (by omega : j % 2 = 0 ∨ j % 2 = 1) with h | h <;> rw [h]
        · exact ⟨a, rfl⟩
        · exact ⟨b, rfl⟩
      obtain ⟨za, hza⟩ := pick (.ref gp) xv
      obtain ⟨zb, hzb⟩ := pick xv (.ref gp)
      have emod : V.int ((j : Int) % 2) = vn (j % 2) := congrArg V.int (Int.natCast_emod j 2).symm
      have fin : ∀ {H14 : Hp}, Same H12 H14 → ∀ {z : V} {σ : L2.St} {Q : VK}, σ[9]? = some (some (V.ref dt)) → RetG (.bl false) H14 Q → spLDoor K [vn j, bv, z, wb] H14 (fun x H2 => tVar 9 σ H2 fun y H3 => rNeD K x y H3 Q) E0 := by
        intro H14 e14 z σ Q hσ qq
        refine ⟨j, bv, z, wb, rfl, Or.inl ⟨_, _, hbw12.mn e14, fun tq H15 htq e15 h15 => ⟨_, hσ, ?_⟩⟩⟩
        refine ⟨.tuple [.str (dueP d4), nd], .tuple [.str (dueP d4), nd], .tup (SqT.of h15) (.cons (.str _) (.cons (hnd _) .nil)), .tup (SqT.of ((e14.trans e15) _ _ hdt12)) (.cons (.str _) (.cons (hnd _) .nil)), y2, y2, ?_⟩
        rw [SeqAt.eqv_refl _ y1]
        exact qq _ e15
      dsimp only
      refine st_seq ?_
      refine ss_if (b := false) (pt_t fun H14 e14 Q q => ?_) (fun H14 e h => nomatch h) fun H14 e14 _ => ?_
      · refine c_call (H := H14) (pva_cons (pv_var rfl) (pva_3 (pv_var rfl) (pv_ixNew (i := ((j % 2 : Nat) : Int)) (pva_2 (pv_var rfl) (pv_var rfl)) s2 ((pv_rI (i := (j : Int)) (j := 2) (pv_var rfl) pv_c (by decide)).to emod) (atI_nat hza)) (pv_var rfl))) fun H15 e15 => fin (e13.trans (e14.trans e15)) rfl (q.mn e15)
      refine st_next ?_
      dsimp only
      refine st_seq ?_
      refine ss_if (b := false) (pt_t fun H15 e15 Q q => ?_) (fun H15 e h => nomatch h) fun H15 e15 _ => ?_
      · refine c_call (H := H15) (pva_cons (pv_var rfl) (pva_3 (pv_var rfl) (pv_ixNew (i := ((j % 2 : Nat) : Int)) (pva_2 (pv_var rfl) (pv_var rfl)) s2 ((pv_rI (i := (j : Int)) (j := 2) (pv_var rfl) pv_c (by decide)).to emod) (atI_nat hzb)) (pv_var rfl))) fun H16 e16 => fin (e13.trans (e14.trans (e15.trans e16))) rfl (q.mn e16)
      refine st_next ?_
      dsimp only
      have e25 := e13.trans (e14.trans e15)
      refine ss_if (b := false) (pt_t (pv_ne (pv_call (v := .str part) (pva_cons (pv_var rfl) (pva_3 (pv_var rfl) (pv_var rfl) (pv_var rfl))) fun H16 e Q q => ⟨j, .ref vp, xv, wb, rfl, Or.inr ⟨cs, ls, part, (hW.mn (E12.trans (e25.trans e))).ws, W, hxv12.mn (e25.trans e), q⟩⟩) (pv_var rfl) rfl (by simp))) (fun H16 e h => nomatch h) fun H16 e16 _ => ?_
      exact ⟨_, rfl, e25.trans e16⟩
    · rintro σ H13 ⟨y10, rfl, e13⟩
      dsimp only
      exact ss_ret pv_c (q.mn (E12.trans e13))
end
end Wd
set_option Elab.async false
set_option linter.all false
set_option maxRecDepth 100000
set_option maxHeartbeats 4000000
/-! numbers by their digits -/
namespace Wd
open PySem PySem.Spec PyProof.Rows L2
def rdx (B : Nat) (c : Nat → Nat) : Nat → Nat
  | 0 => 0
  | R + 1 => rdx B c R + c R * B ^ R
theorem rdx_lt {B : Nat} {c : Nat → Nat} : ∀ {R : Nat}, (∀ k, k < R → c k < B) → rdx B c R < B ^ R
  | 0, _ => by show 0 < 1; decide
  | R + 1, h => by
    have h1 := rdx_lt (R := R) fun k hk => h k (by omega)
    have h2 := h R (by omega)
    have h3 : (c R + 1) * B ^ R ≤ B * B ^ R := Nat.mul_le_mul_right _ h2
    rw [Nat.add_mul, Nat.one_mul] at h3
    show rdx B c R + c R * B ^ R < B ^ (R + 1)
    rw [Nat.pow_succ, Nat.mul_comm (B ^ R) B]
    omega
theorem top_inj {M a b x y : Nat} (hx : x < M) (hy : y < M) (h : x + a * M = y + b * M) : a = b ∧ x = y := by
  have hM : 0 < M := by omega
  have h1 : (x + a * M) / M = a := by rw [Nat.add_mul_div_right _ _ hM, Nat.div_eq_of_lt hx, Nat.zero_add]
  have h2 : (y + b * M) / M = b := by rw [Nat.add_mul_div_right _ _ hM, Nat.div_eq_of_lt hy, Nat.zero_add]
  have h3 : a = b := by rw [← h1, h, h2]
  subst h3
  exact ⟨rfl, by omega⟩
theorem rdx_inj {B : Nat} {c d : Nat → Nat} : ∀ {R : Nat}, (∀ k, k < R → c k < B) → (∀ k, k < R → d k < B) → rdx B c R = rdx B d R → ∀ k, k < R → c k = d k
  | 0, _, _, _, k, hk => absurd hk (Nat.not_lt_zero _)
  | R + 1, hc, hd, h, k, hk => by
    obtain ⟨h1, h2⟩ := top_inj (rdx_lt (R := R) fun k hk => hc k (by omega)) (rdx_lt (R := R) fun k hk => hd k (by omega)) h
    by_cases e : k = R
    · rw [e]; exact h1
    · exact rdx_inj (fun k hk => hc k (by omega)) (fun k hk => hd k (by omega)) h2 k (by omega)
/-- the same, the top digit first -/
def rdy (B : Nat) (c : Nat → Nat) : Nat → Nat
  | 0 => 0
  | R + 1 => rdy B c R * B + c R
theorem rdy_lt {B : Nat} {c : Nat → Nat} : ∀ {R : Nat}, (∀ k, k < R → c k < B) → rdy B c R < B ^ R
  | 0, _ => by show 0 < 1; decide
  | R + 1, h => by
    have h1 := rdy_lt (R := R) fun k hk => h k (by omega)
    have h2 := h R (by omega)
    have h3 : (rdy B c R + 1) * B ≤ B ^ R * B := Nat.mul_le_mul_right _ h1
    rw [Nat.add_mul, Nat.one_mul] at h3
    show rdy B c R * B + c R < B ^ (R + 1)
    rw [Nat.pow_succ]
    omega
theorem rdy_inj {B : Nat} {c d : Nat → Nat} : ∀ {R : Nat}, (∀ k, k < R → c k < B) → (∀ k, k < R → d k < B) → rdy B c R = rdy B d R → ∀ k, k < R → c k = d k
  | 0, _, _, _, k, hk => absurd hk (Nat.not_lt_zero _)
  | R + 1, hc, hd, h, k, hk => by
    have h0 : c R + rdy B c R * B = d R + rdy B d R * B := by
      have h' : rdy B c R * B + c R = rdy B d R * B + d R := h
      omega
    obtain ⟨h1, h2⟩ := top_inj (hc R (by omega)) (hd R (by omega)) h0
    by_cases e : k = R
    · rw [e]; exact h2
    · exact rdy_inj (fun k hk => hc k (by omega)) (fun k hk => hd k (by omega)) h1 k (by omega)
theorem sum_rdx {B : Nat} {c : Nat → Nat} : ∀ {R : Nat}, sumR R (fun k => (c k : Int) * ((B ^ k : Nat) : Int)) = (rdx B c R : Int)
  | 0 => rfl
  | R + 1 => by
    rw [sumR_succ, sum_rdx]
    show _ = ((rdx B c R + c R * B ^ R : Nat) : Int)
    rw [Int.natCast_add, Int.natCast_mul]
theorem sumR_mul {f : Nat → Int} {m : Int} : ∀ {R : Nat}, sumR R (fun k => f k * m) = sumR R f * m
  | 0 => by show (0 : Int) = 0 * m; rw [Int.zero_mul]
  | R + 1 => by rw [sumR_succ, sumR_succ, sumR_mul, Int.add_mul]
theorem sum_rdy {B : Nat} {c : Nat → Nat} : ∀ {R : Nat}, sumR R (fun k => (c k : Int) * ((B ^ (R - (k + 1)) : Nat) : Int)) = (rdy B c R : Int)
  | 0 => rfl
  | R + 1 => by
    rw [sumR_succ]
    have e : sumR R (fun k => (c k : Int) * ((B ^ (R + 1 - (k + 1)) : Nat) : Int)) = sumR R (fun k => ((c k : Int) * ((B ^ (R - (k + 1)) : Nat) : Int)) * (B : Int)) := sumR_congr fun k hk => by
      rw [show R + 1 - (k + 1) = R - (k + 1) + 1 by omega, Nat.pow_succ, Int.natCast_mul, Int.mul_assoc]
    rw [e, sumR_mul, sum_rdy, Nat.sub_self, Nat.pow_zero]
    show _ = ((rdy B c R * B + c R : Nat) : Int)
    rw [Int.natCast_add, Int.natCast_mul]
    omega
def nsum (c : Nat → Nat) : Nat → Nat
  | 0 => 0
  | R + 1 => nsum c R + c R
theorem sum_nsum {c : Nat → Nat} : ∀ {R : Nat}, sumR R (fun k => (c k : Int)) = (nsum c R : Int)
  | 0 => rfl
  | R + 1 => by
    rw [sumR_succ, sum_nsum]
    exact (Int.natCast_add _ _).symm
/-- sums by an order's worths tell the digits -/
theorem byO_inj {s : Str} {B R : Nat} {c d : Nat → Nat} (hc : ∀ k, k < R → c k < B) (hd : ∀ k, k < R → d k < B) (h : sumR R (fun k => (c k : Int) * byO s B R (k + 1)) = sumR R (fun k => (d k : Int) * byO s B R (k + 1))) : ∀ k, k < R → c k = d k := by
  by_cases h1 : s = "lasts"
  · have e : ∀ c : Nat → Nat, sumR R (fun k => (c k : Int) * byO s B R (k + 1)) = (nsum c R : Int) * ((B ^ R : Nat) : Int) + - (rdx B c R : Int) := fun c => by
      rw [← sum_nsum, ← sumR_mul, ← sum_rdx, show (-(sumR R fun k => (c k : Int) * ((B ^ k : Nat) : Int))) = sumR R (fun k => ((c k : Int) * ((B ^ k : Nat) : Int)) * (-1)) by rw [sumR_mul]; omega, ← sumR_add]
      refine sumR_congr fun k hk => ?_
      unfold byO
      rw [if_pos h1, Nat.add_sub_cancel, Int.mul_sub]
      omega
    rw [e, e] at h
    have h2 : rdx B c R + nsum d R * B ^ R = rdx B d R + nsum c R * B ^ R := by
      have h3 : ((nsum c R * B ^ R : Nat) : Int) + - (rdx B c R : Int) = ((nsum d R * B ^ R : Nat) : Int) + - (rdx B d R : Int) := by rw [Int.natCast_mul, Int.natCast_mul]; exact h
      omega
    exact rdx_inj hc hd (top_inj (rdx_lt hc) (rdx_lt hd) h2).2
  · by_cases h2 : s = "full"
    · have e : ∀ c : Nat → Nat, sumR R (fun k => (c k : Int) * byO s B R (k + 1)) = (rdy B c R : Int) + (nsum c R : Int) * ((B ^ R : Nat) : Int) := fun c => by
        rw [← sum_nsum, ← sumR_mul, ← sum_rdy, ← sumR_add]
        refine sumR_congr fun k hk => ?_
        unfold byO
        rw [if_neg h1, if_pos h2, Int.mul_add]
      rw [e, e, ← Int.natCast_mul, ← Int.natCast_mul] at h
      exact rdy_inj hc hd (top_inj (a := nsum c R) (b := nsum d R) (rdy_lt hc) (rdy_lt hd) (by omega)).2
    · have e : ∀ c : Nat → Nat, sumR R (fun k => (c k : Int) * byO s B R (k + 1)) = (rdy B c R : Int) := fun c => by
        rw [← sum_rdy]
        refine sumR_congr fun k hk => ?_
        unfold byO
        rw [if_neg h1, if_neg h2]
      rw [e, e] at h
      exact rdy_inj hc hd (by omega)
/-- a list's sum by its counts -/
theorem sum_count {f : Nat → Int} {m : Nat} : ∀ {sl : List Nat}, (∀ x ∈ sl, x < m) → (sl.map f).sum = sumR m fun k => (sl.count k : Int) * f k
  | [], _ => by
    rw [show (sumR m fun k => (([] : List Nat).count k : Int) * f k) = sumR m (fun _ => 0) from sumR_congr fun k _ => by rw [List.count_nil]; simp, sumR_zero]
    rfl
  | x :: sl, h => by
    rw [List.map_cons, List.sum_cons, sum_count fun y hy => h y (List.mem_cons_of_mem _ hy)]
    have e : f x = sumR m fun k => if k = x then f k else 0 := by
      have hx := h x List.mem_cons_self
      clear h
      induction m with
      | zero => omega
      | succ m ih =>
        rw [sumR_succ]
        by_cases hm : m = x
        · rw [if_pos hm, hm, show (sumR x fun k => if k = x then f k else 0) = sumR x (fun _ => 0) from sumR_congr fun k hk => if_neg (by omega), sumR_zero, Int.zero_add]
        · rw [if_neg hm, ← ih (by omega), Int.add_zero]
    rw [e, ← sumR_add]
    refine sumR_congr fun k hk => ?_
    rw [List.count_cons]
    by_cases hk2 : k = x
    · subst hk2
      rw [if_pos rfl, if_pos (by simp), Int.natCast_add, Int.add_mul]
      omega
    · rw [if_neg hk2, if_neg (by simpa using fun z => hk2 z.symm), Int.zero_add, Nat.add_zero]
theorem slot_lt {cs : List Nat} {ls : List (List (List Nat))} {D : List (Option Nat)} (W : WG cs ls) (h : Prp ls D) : ∀ x ∈ slots ls D, x < lng ls + 1 := by
  intro x hx
  obtain ⟨i, hi, rfl⟩ := List.mem_map.mp hx
  have hi := List.mem_range.mp hi
  cases hd : D[i]?.getD none with
  | none => show lng ls < _; omega
  | some t =>
    have hil : i < ls.length := by have := h.1; omega
    have hr : ls[i]? = some (ls[i]'hil) := List.getElem?_eq_getElem hil
    rw [hr]
    show rankIn (ls[i]'hil) t - 1 < _
    have h1 := rankIn_le (t := t) (rs := ls[i]'hil)
    have h2 := lng_mem (List.mem_of_getElem? hr)
    omega
theorem worth_slots {s : Str} {cs : List Nat} {ls : List (List (List Nat))} {D : List (Option Nat)} {asks prices : List Int} (W : WG cs ls) (h : BOk s cs ls D asks prices) :
    worthD (wL s ls) D = ((slots ls D).map fun k => if k = lng ls then 0 else byO s (ls.length + 1) (lng ls) (k + 1) * ((ls.length + 1 : Nat) : Int)).sum := by
  unfold slots worthD
  rw [List.map_map, sum_list (d := 0), List.length_range]
  refine sumR_congr fun i hi => ?_
  rw [List.getElem?_range hi]
  show _ = (fun k => if k = lng ls then (0 : Int) else byO s (ls.length + 1) (lng ls) (k + 1) * ((ls.length + 1 : Nat) : Int)) (slotOf (lng ls) (ls[i]?.getD []) (dl D i))
  cases hd : dl D i with
  | none =>
    show (0 : Int) = (if lng ls = lng ls then (0 : Int) else _)
    rw [if_pos rfl]
  | some t =>
    have hw := h.pap.eq i t hd
    obtain ⟨h1, h2, h3, _⟩ := wL_hw W hw
    have hr : ls[i]? = some ls[i] := List.getElem?_eq_getElem h1
    have hp := rankIn_pos h2
    have hl := rankIn_le (t := t) (rs := ls[i]?.getD [])
    have hm : (ls[i]?.getD []).length ≤ lng ls := by rw [hr]; exact lng_mem (List.mem_of_getElem? hr)
    show (wL s ls i t).getD 0 = (if rankIn (ls[i]?.getD []) t - 1 = lng ls then 0 else byO s (ls.length + 1) (lng ls) (rankIn (ls[i]?.getD []) t - 1 + 1) * ((ls.length + 1 : Nat) : Int))
    rw [hw, if_neg (by omega), Nat.sub_add_cancel hp, h3]
    rfl
theorem BOk.alike {s : Str} {cs : List Nat} {ls : List (List (List Nat))} {D E : List (Option Nat)} {a1 p1 a2 p2 : List Int} (W : WG cs ls) (h1 : BOk s cs ls D a1 p1) (h2 : BOk s cs ls E a2 p2) : cntOf ls D = cntOf ls E := by
  have hw : worthD (wL s ls) D = worthD (wL s ls) E := by
    have e1 := h1.top W h2.len (h2.gd W)
    have e2 := h2.top W h1.len (h1.gd W)
    omega
  rw [worth_slots W h1, worth_slots W h2, sum_count (slot_lt W h1.prp), sum_count (slot_lt W h2.prp), sumR_succ, sumR_succ, if_pos rfl, Int.mul_zero, Int.mul_zero, Int.add_zero, Int.add_zero] at hw
  have e : ∀ sl : List Nat, (sumR (lng ls) fun k => (sl.count k : Int) * (if k = lng ls then 0 else byO s (ls.length + 1) (lng ls) (k + 1) * ((ls.length + 1 : Nat) : Int))) = (sumR (lng ls) fun k => (sl.count k : Int) * byO s (ls.length + 1) (lng ls) (k + 1)) * ((ls.length + 1 : Nat) : Int) := fun sl => by
    rw [← sumR_mul]
    refine sumR_congr fun k hk => ?_
    rw [if_neg (by omega), Int.mul_assoc]
  rw [e, e] at hw
  have hw2 := Int.eq_of_mul_eq_mul_right (by omega) hw
  have l1 : (slots ls D).length = ls.length := by unfold slots; rw [List.length_map, List.length_range, h1.len]
  have l2 : (slots ls E).length = ls.length := by unfold slots; rw [List.length_map, List.length_range, h2.len]
  have hc : ∀ k, k < lng ls → (slots ls D).count k = (slots ls E).count k := byO_inj (s := s) (B := ls.length + 1) (R := lng ls) (fun k _ => by have := List.count_le_length (a := k) (l := slots ls D); omega) (fun k _ => by have := List.count_le_length (a := k) (l := slots ls E); omega) hw2
  have tot : ∀ {X : List (Option Nat)}, (∀ x ∈ slots ls X, x < lng ls + 1) → (((slots ls X).length : Nat) : Int) = sumR (lng ls) (fun k => ((slots ls X).count k : Int)) + ((slots ls X).count (lng ls) : Int) := fun {X} hx => by
    have := sum_count (f := fun _ => 1) hx
    rw [sumR_succ, Int.mul_one, show (sumR (lng ls) fun k => ((slots ls X).count k : Int) * 1) = sumR (lng ls) (fun k => ((slots ls X).count k : Int)) from sumR_congr fun k _ => Int.mul_one _] at this
    rw [← this]
    clear this hx
    induction slots ls X with
    | nil => rfl
    | cons x l ih => rw [List.map_cons, List.sum_cons, ← ih, List.length_cons]; omega
  have t1 := tot (slot_lt W h1.prp)
  have t2 := tot (slot_lt W h2.prp)
  rw [sumR_congr fun k hk => congrArg (fun n : Nat => (n : Int)) (hc k hk)] at t1
  unfold cntOf cntN
  refine List.map_congr_left fun k hk => ?_
  have hk := List.mem_range.mp hk
  by_cases z : k = lng ls
  · subst z; omega
  · exact hc k (by omega)
end Wd
set_option Elab.async false
set_option linter.all false
set_option maxRecDepth 100000
set_option maxHeartbeats 4000000
/-! defs that are promised only where no repr is under way -/
namespace Wd
open PySem PySem.Spec PyProof.Rows L2
section
variable {P : Program} {w : World} {K : Frg} {mg : Str → Option Value} {base : Heap} {CX : CXT} {k : Nat} {f : Addr} {fd : FuncData} {ps N : List Str} {sp : Sp}
structure FnG (P : Program) (w : World) (K : Frg) (mg : Str → Option Value) (base : Heap) (CX : CXT) (k : Nat) (f : Addr) (fd : FuncData) (ps : List Str) (sp : Sp) : Prop where
  len : ∀ vs H Q E, sp vs H Q E → vs.length = ps.length
  run : ∀ (A : Around) (outer : List Env) (s : Shared) (H : Hp) (args : Args) (us : List Value) (vs : List V) (Q : VK) (E : XK), A.guards = some [] → Room k A → Env0 P w K mg base A outer s H →
    BindsTo s fd args (ps.zip us) → Vals vs us → sp vs H Q E → codeAny (model P w) A (.call (.ref f) args) (CR CX outer P w H s Q E) s
theorem deeper_guards {A : Around} {env : Env} (h : A.guards = some []) : (A.deeper env).guards = some [] := h
theorem okG {x q : Str} {params : Arguments} {body : List Stmt} {scope : Scope} {dvs : List V} {kws : List (Str × V)} (F : FunD K x q params body scope dvs kws f fd) (S : FnScope N ps scope) (len : ∀ vs H Q E, sp vs H Q E → vs.length = ps.length)
    (hbody : ∀ (cdv : Value) (A : Around) (outer : List Env) (s : Shared) (H : Hp) (vs : List V) (Q : VK) (E : XK), A.guards = some [] → Room k (A.deeper (envOfC q scope s.heap.objs.size f cdv)) → sp vs H Q E →
      ∃ t, PSs (cxOf CX P w K mg base N q scope f cdv A outer s H E) body t ∧ t { nx := fun _ H' => Q .non H', rt := Q } (start N vs) H) : FnG P w K mg base CX (k + 1) f fd ps sp := by
  obtain ⟨_, _, _, _, _, _, _, cdv, _, _, rfl, lk, hcd, _, _⟩ := F.ex
  constructor
  · exact len
  intro A outer s H args us vs Q E hg hr e0 hb rv hsp
  have kin : K.In s.heap := e0.mod.kin.keeps fun b o z => (e0.bs b o z).1
  have nl : s.heap.NoLimit := e0.mod.nolimit.keeps fun b o z => (e0.bs b o z).1
  have kinds : ∀ y ∈ ps.zip us, scope.names.lookup y.1 = some .local ∨ (scope.names.lookup y.1 = some .cell ∧ ((cellsFrom (s.heap.objs.size + 1) scope.names []).lookup y.1).isSome = true) := by
    rintro ⟨n, v⟩ hy
    rcases S.par n (List.of_mem_zip hy).1 with z | z
    · exact Or.inl z
    · exact Or.inr ⟨z, PySem.W.cellsFrom_some _ _ _ (Or.inl z)⟩
  apply codeAny_call_function hr.depth (kin _ _ lk) rfl S.co S.gen rfl (PySem.W.codeRec_of kin hcd)
  refine hb _ _ _ _ (wpAny_newFunctionEnv_cells S.kind kinds fun env he s1 xc => ?_)
  cases he
  refine ⟨nl.keeps xc.toInCall.keep, codeAny_func ?_⟩
  obtain ⟨t, ht, go⟩ := hbody cdv A outer s H vs Q E hg (hr.deeper _) hsp
  have I0 := inv_start (CX := CX) (E := E) S hr.hd e0 (len _ _ _ _ hsp) rv xc
  refine wpAny_mono (ht.run [] s1 (start N vs) H _ I0 go) (fun fl s2 z => ?_) fun _ _ z => z
  rcases fl with _ | _ | _ | rw2
  · obtain ⟨σ2, H2, J, z⟩ := z
    exact ⟨.non, H2, J.os, J.bare, J.base, J.hok, rfl, z⟩
  · obtain ⟨_, _, _, z⟩ := z
    exact z.elim
  · obtain ⟨_, _, _, z⟩ := z
    exact z.elim
  · obtain ⟨v, σ2, H2, J, rr, z⟩ := z
    exact ⟨v, H2, J.os, J.bare, J.base, J.hok, rr, z⟩
end
section
variable {X : Cx} {k : Nat} {f : Addr} {fd : FuncData} {ps : List Str} {sp : Sp} {x : Str} {p pos : Pos} {e : Expr} {es : List Expr} {t : TA}
theorem pe_callG (F : FnG X.prog X.w X.K X.mg X.base CX0 k f fd ps sp) (hgd : X.A.guards = some []) (hr : Room k X.A) (hg : Gl X x) (hm : X.mg x = some (.ref f)) (hk : PySem.W.keepIn X.K (.ref f) = true) (hb : Binds X.K fd ps []) (ha : PA X (e :: es) t)
    (hdb : (x == ("__debug__" : Str)) = false := by decide) (he : starEach (e :: es) X.env = (false, eval e X.env) :: starEach es X.env := by rfl) (hpl : (backTo pos (starEach es X.env)).any (·.1) = false := by rfl) :
    PE X (.Call (.Name x p) (e :: es) [] pos) (tCall sp [] E0 t) := by
  constructor
  intro pins s σ H Q I h
  apply wpAny_Call_Name_kw
  apply ld_glob I hg hm _ hdb
  have args := ha.run pos pins s σ H _ I h
  refine PySem.W.callWith_K (h₀ := X.base) I.ok.mod.kin hk (thn args fun us s1 ⟨vs, H1, I1, r, z⟩ => ⟨I1.kIn, ?_⟩) he hpl
  replace z : sp (vs ++ []) H1 Q E0 := z
  rw [List.append_nil] at z
  have hl : us.length = ps.length := r.length.symm.trans (F.len _ _ _ _ z)
  have bd := hb s1 us I1.kIn (by rw [List.append_nil]; exact hl)
  rw [List.append_nil] at bd
  refine wpAny_call (codeAny_mono (F.run X.A X.stack s1 H1 ⟨us, []⟩ us vs Q E0 hgd hr I1.env0 bd r z) fun rs s2 hq => ?_)
  rcases rs with er | fl
  · exact hq.elim
  · rcases fl with _ | _ | _ | u
    · exact hq.elim
    · exact hq.elim
    · exact hq.elim
    · exact I1.after hq
end
end Wd
set_option Elab.async false
set_option linter.all false
set_option maxRecDepth 100000
set_option maxHeartbeats 4000000
/-! repr of lists and tuples of data -/
namespace Wd
open PySem PySem.Spec PyProof.Rows L2
def rRepr (K : Frg) : List V → Hp → VK → Prop := fun vs H Q => ∃ (a : Addr) (d : PyData), vs = [.ref a] ∧ Dp K H (.ref a) d ∧ d.showable = true ∧ d.hasDict = false ∧ d.depth ≤ 60 ∧ d.shown.length ≤ sizeLine ∧ Q (.str d.shown) H
theorem call_reprD {X : Cx} (hg : X.A.guards = some []) (hu : X.A.units + 64 < cLine) : CallR X (.builtin "repr") (rRepr X.K) := by
  intro pins s σ H vs us Q I r h
  obtain ⟨a, d, rfl, hd, hs, hn, hp, hz, q⟩ := h
  rcases r with _ | ⟨r1, r2⟩
  rcases r2 with _ | _
  cases r1
  obtain ⟨as, rd⟩ := Dp.reads I d _ _ hd rfl
  exact PySem.repr_of_reads' rd hs (fun z => by rw [hn] at z; cases z) hg (by omega) (fun _ _ z => z) (fun h' u tk hk => ⟨.str _, H, I.kept (t' := tk) hk, ⟨u, rfl⟩, q⟩) hz
end Wd
set_option Elab.async false
set_option linter.all false
set_option maxRecDepth 100000
set_option maxHeartbeats 4000000
/-! the law is called, no repr under way -/
namespace Wd
open PySem PySem.Spec PyProof.Rows L2
section
variable {P : Program} {w : World} {K : Frg} {mg mb : Str → Option Value} {k : Nat} {fa a : Addr} {fd : FuncData} {x : Str} {sp : Sp} {s1 : Shared} {vs : List Value} {ns : List Int}
/-- from a heap in which at most the script is told -/
theorem core_callG (KX : K.In s1.heap) (hns : s1.heap.Ns mainGlobals mg) (hb : s1.heap.Ns builtinsNs mb) (hbb : ∀ x : Str, x ≠ "__name__" → mb x = bootBuiltins x) (hlim : s1.heap.NoLimit) (hg : s1.gens = #[])
    (ha : s1.heap.get? a = some { cls := .type "list", data := .seq vs.toArray }) (hr : Room k callerA)
    (F : ∀ base : Heap, K.In base → base.Ns mainGlobals mg → FnG P w K mg base CX0 k fa fd [x] sp) (hbind : ∀ (s : Shared) (u : Value), BindsTo s fd ⟨[u], []⟩ [(x, u)])
    {H : Hp} (hO : Only H) (hp : sp [.ref a] H (fun v _ => v = .bl true) fun _ _ _ => False) (hok : HOk P w H s1.heap) (hA : ∀ b, H b ≠ none → b = a) (hK : H a ≠ none → K.lookup a = none) :
    codeAny (model P w) callerA (.call (.ref fa) ⟨[.ref a], []⟩) (fun r s' => r = .ok (.ret (.bool true)) ∧ OldK s1.heap s'.heap ∧ s'.os = s1.os ∧ AllBare s'.gens) s1 := by
  have none_of : ∀ {b : Addr}, (b = a → H b = none) → H b = none := fun {b} z => by
    by_cases q : H b = none
    · exact q
    · exact z (hA b q)
  have onK : K.In (hidT s1.heap H) := fun b o e => hidT_get (KX b o e) (none_of fun eb => by
    subst eb
    by_cases q : H b = none
    · exact q
    · rw [hK q] at e; cases e)
  have onN : ∀ {b : Addr} {m : Str → Option Value}, s1.heap.Ns b m → (hidT s1.heap H).Ns b m := by
    rintro b m ⟨o, es, ep, e, dd, r⟩
    refine ⟨o, es, ep, hidT_get e (none_of fun eb => ?_), dd, r⟩
    subst eb
    rw [ha] at e
    cases e
    cases dd
  obtain ⟨mc, l1, l2⟩ := hlim
  have md : Mod K mg (hidT s1.heap H) := ⟨onK, onN hns, ⟨mb, onN hb, hbb⟩, mc, onN l1, l2⟩
  have e0 : Env0 P w K mg (hidT s1.heap H) callerA [] s1 H := ⟨rfl, md, fun b o e => of_hidT e, Nat.le_of_eq (hidT_size _ _), trivial, (fun b z => by cases z), hok, .of_eq hg⟩
  have go := (F _ onK (onN hns)).run callerA [] s1 H ⟨[.ref a], []⟩ [.ref a] [.ref a] _ _ rfl hr e0 (hbind s1 (.ref a)) (.cons rfl .nil) hp
  refine codeAny_mono go fun r s2 z => ?_
  rcases r with er | fl
  · exact z.elim
  rcases fl with _ | _ | _ | u
  · exact z.elim
  · exact z.elim
  · exact z.elim
  obtain ⟨v, H2, z1, z2, un, hok2, z3, z4⟩ := z
  cases (show v = .bl true from z4)
  cases (show u = Value.bool true from z3)
  refine ⟨rfl, OldK.of_keep fun b o e => ?_, z1, z2⟩
  cases q : H b with
  | none => exact un.keep b o e q (fun z => by cases z) (fun z => by cases z)
  | some ho =>
    rcases hO b with z | ⟨ob, xs, z⟩
    · rw [q] at z; cases z
    · obtain ⟨y1, _⟩ := hok b _ z
      obtain ⟨y2, _⟩ := hok2 b _ (un.frzs b ob _ z)
      rw [e] at y1
      cases y1
      exact y2
theorem law_callG (KX : K.In s1.heap) (hns : s1.heap.Ns mainGlobals mg) (hb : s1.heap.Ns builtinsNs mb) (hbb : ∀ x : Str, x ≠ "__name__" → mb x = bootBuiltins x) (hlim : s1.heap.NoLimit) (hg : s1.gens = #[])
    (ha : s1.heap.get? a = some { cls := .type "list", data := .seq vs.toArray }) (hi : IntsAre vs ns) (hl : ns.length ≤ sizeLine) (hr : Room k callerA)
    (F : ∀ base : Heap, K.In base → base.Ns mainGlobals mg → FnG P w K mg base CX0 k fa fd [x] sp) (hbind : ∀ (s : Shared) (u : Value), BindsTo s fd ⟨[u], []⟩ [(x, u)])
    (hsp : ∀ H : Hp, Only H → SqL K H a (ns.map V.int) → sp [.ref a] H (fun v _ => v = .bl true) fun _ _ _ => False) :
    codeAny (model P w) callerA (.call (.ref fa) ⟨[.ref a], []⟩) (fun r s' => r = .ok (.ret (.bool true)) ∧ OldK s1.heap s'.heap ∧ s'.os = s1.os ∧ AllBare s'.gens) s1 := by
  have rv := vals_ints hi
  have hn := hi.length
  rcases hk : K.lookup a with _ | o
  · let H : Hp := fun b => if b = a then some (.frz { cls := .type "list", data := .seq vs.toArray } (.lst (ns.map V.int))) else none
    have hO : Only H := fun b => by
      by_cases z : b = a
      · exact Or.inr ⟨_, _, if_pos z⟩
      · exact Or.inl (if_neg z)
    refine core_callG KX hns hb hbb hlim hg ha hr F hbind hO (hsp H hO (Or.inl (Or.inr ⟨_, if_pos rfl⟩))) (fun b u z => ?_) (fun b z => ?_) fun _ => hk
    · by_cases eb : b = a
      · cases (if_pos eb).symm.trans z
        subst eb
        exact ⟨ha, by rw [List.length_map]; exact hl, vs, _, rv, ha⟩
      · cases (if_neg eb).symm.trans z
    · by_cases eb : b = a
      · exact eb
      · exact absurd (if_neg eb) z
  · have e := KX a o hk
    cases ha.symm.trans e
    have hO : Only fun _ => none := fun _ => Or.inl rfl
    exact core_callG KX hns hb hbb hlim hg ha hr F hbind hO (hsp _ hO (Or.inr ⟨_, vs.toArray, _, hk, rfl, rfl, rfl, by rw [List.size_toArray, hn]; exact hl, by simpa using rv⟩)) (fun b u z => by cases z) (fun b z => absurd rfl z) fun z => absurd rfl z
end
end Wd
set_option Elab.async false
set_option linter.all false
set_option maxRecDepth 100000
set_option maxHeartbeats 4000000
/-! the walk that the head leaves -/
namespace Wd
open PySem PySem.Spec PyProof.Rows L2
theorem walk_ofG {l : PySem.W.OpenLaw} {n k : Nat} {q : Program} {loose : List Str} {XP : (Str → Option Value) → Heap → Prop} {YP : World → Heap → Prop} {d : DefRec} {x : Str}
    (hn : l.most = some n) (hn2 : n ≤ sizeLine) (hdf : d.params.defaults = []) (hr : Room k callerA)
    (F : ∀ (w : World) (mg : Str → Option Value) (fa : Addr) (h : Heap), YP w h → h.Ns mainGlobals mg → mg d.name = some (.ref fa) →
      ∃ (K : Frg) (fd : FuncData) (sp : Sp), K.In h ∧ (∀ (s : Shared) (u : Value), BindsTo s fd ⟨[u], []⟩ [(x, u)]) ∧
        (∀ (H : Hp) (a : Addr) (ns : List Int), ns.length ≤ n → Only H → SqL K H a (ns.map V.int) → sp [.ref a] H (fun v _ => v = .bl true) fun _ _ _ => False) ∧
        ∀ base : Heap, K.In base → base.Ns mainGlobals mg → FnG l.prog w K mg base CX0 k fa fd [x] sp) :
    PySem.W.WalkO q loose XP YP l.row.toRowW d [] (fun f vs => PySem.call f vs) := by
  refine Att.attach_call hn hdf fun w s0 s1 mg mb fa o pm cd doc a vs ns G Y ho hd hcd hmg hobj hints hlen hg => ?_
  obtain ⟨K, fd, sp, KX, hb, hsp, hF⟩ := F w mg fa _ Y G.T.g hmg
  exact law_callG KX G.T.g G.T.b G.T.builtins G.T.nolimit hg hobj hints (Nat.le_trans hlen hn2) hr hF hb fun H hO hS => hsp H a ns hlen hO hS
end Wd
set_option Elab.async false
set_option linter.all false
set_option maxRecDepth 100000
set_option maxHeartbeats 4000000
/-! the wishes as data: their repr fits -/
namespace Wd
open PySem PySem.Spec PyProof.Rows L2
structure Sm (d : PyData) (k n : Nat) : Prop where
  sh : d.showable = true
  lv : d.leavesShort 8 = true
  hd : d.hasDict = false
  dp : d.depth ≤ k
  bk : d.bulk ≤ n
theorem sm_int {m : Nat} (h : m ≤ 7) : Sm (.int (m : Int)) 0 0 := by
  have h1 : PyData.showable (.int (m : Int)) = true := by
    rw [PyData.showable]
    exact decide_eq_true (by
      have : (m : Int).natAbs = m := Int.natAbs_natCast m
      rw [this]
      rcases m with _ | _ | _ | _ | _ | _ | _ | _ | m <;> first | decide +kernel | omega)
  have h2 : PyData.leavesShort 8 (.int (m : Int)) = true := by
    rw [PyData.leavesShort]
    exact decide_eq_true (by rcases m with _ | _ | _ | _ | _ | _ | _ | _ | m <;> first | decide +kernel | omega)
  exact ⟨h1, h2, by rw [PyData.hasDict], by rw [PyData.depth]; exact Nat.le_refl _, by rw [PyData.bulk]; exact Nat.le_refl _⟩
theorem sm_all {k n : Nat} : ∀ {ds : List PyData}, (∀ d ∈ ds, Sm d k n) → PyData.showableAll ds = true ∧ PyData.leavesShortAll 8 ds = true ∧ PyData.hasDictAll ds = false ∧ PyData.depthAll ds ≤ k ∧ PyData.bulkAll ds ≤ ds.length * (n + 1)
  | [], _ => ⟨by rw [PyData.showableAll], by rw [PyData.leavesShortAll], by rw [PyData.hasDictAll], by rw [PyData.depthAll]; omega, by rw [PyData.bulkAll]; omega⟩
  | d :: ds, h => by
    obtain ⟨h1, h2, h3, h4, h5⟩ := sm_all fun x hx => h x (List.mem_cons_of_mem _ hx)
    have h0 := h d List.mem_cons_self
    refine ⟨by rw [PyData.showableAll, h0.sh, h1]; rfl, by rw [PyData.leavesShortAll, h0.lv, h2]; rfl, by rw [PyData.hasDictAll, h0.hd, h3]; rfl, by rw [PyData.depthAll]; exact Nat.max_le.mpr ⟨h0.dp, h4⟩, ?_⟩
    rw [PyData.bulkAll, List.length_cons, Nat.add_mul, Nat.one_mul]
    have := h0.bk
    omega
theorem sm_list {k n : Nat} {ds : List PyData} (h : ∀ d ∈ ds, Sm d k n) : Sm (.list ds) (k + 1) (ds.length * (n + 1)) := by
  obtain ⟨h1, h2, h3, h4, h5⟩ := sm_all h
  exact ⟨by rw [PyData.showable]; exact h1, by rw [PyData.leavesShort]; exact h2, by rw [PyData.hasDict]; exact h3, by rw [PyData.depth]; omega, by rw [PyData.bulk]; exact h5⟩
theorem sm_tup {k n : Nat} {ds : List PyData} (h : ∀ d ∈ ds, Sm d k n) : Sm (.tuple ds) (k + 1) (ds.length * (n + 1)) := by
  obtain ⟨h1, h2, h3, h4, h5⟩ := sm_all h
  exact ⟨by rw [PyData.showable]; exact h1, by rw [PyData.leavesShort]; exact h2, by rw [PyData.hasDict]; exact h3, by rw [PyData.depth]; omega, by rw [PyData.bulk]; exact h5⟩
theorem Sm.up {d : PyData} {k n k' n' : Nat} (h : Sm d k n) (h1 : k ≤ k') (h2 : n ≤ n') : Sm d k' n' := ⟨h.sh, h.lv, h.hd, Nat.le_trans h.dp h1, Nat.le_trans h.bk h2⟩
theorem Sm.fits {d : PyData} {k n : Nat} (h : Sm d k n) (hn : n ≤ 100000) : d.shown.length ≤ sizeLine := by
  have := PyData.shown_le_bulk 8 (by decide) d h.lv
  have := h.bk
  rw [sizeLine_eq]
  omega
def pdW (cs : List Nat) (ls : List (List (List Nat))) : PyData := .tuple [pdn cs, .list (ls.map fun rs => .list (rs.map pdn))]
theorem sm_n {ns : List Nat} (h : ∀ n ∈ ns, n ≤ 7) (hl : ns.length ≤ 7) : Sm (pdn ns) 1 7 := by
  refine (sm_list (k := 0) (n := 0) fun d hd => ?_).up (Nat.le_refl _) (by rw [List.length_map]; omega)
  obtain ⟨n, hn, rfl⟩ := List.mem_map.mp hd
  exact sm_int (h n hn)
theorem sm_W {cs : List Nat} {ls : List (List (List Nat))} (W : WG cs ls) : Sm (pdW cs ls) 4 1000 := by
  have h := W.all
  have h1 : Sm (pdn cs) 1 7 := sm_n h.2.1 (by omega)
  have h2 : ∀ rs ∈ ls, Sm (.list (rs.map pdn)) 2 40 := fun rs hr => by
    obtain ⟨g1, g2, g3⟩ := W.rk hr
    refine (sm_list (k := 1) (n := 7) fun d hd => ?_).up (Nat.le_refl _) (by rw [List.length_map]; omega)
    obtain ⟨row, hrow, rfl⟩ := List.mem_map.mp hd
    refine sm_n (fun t ht => by have := (g2 row hrow).2 t ht; omega) ?_
    have h5 := List.sublist_flatten_of_mem hrow
    have h6 := nd_len (h5.nodup g3) (g2 row hrow).2
    omega
  have h3 : Sm (.list (ls.map fun rs => .list (rs.map pdn))) 3 287 := by
    refine (sm_list (k := 2) (n := 40) fun d hd => ?_).up (Nat.le_refl _) (by rw [List.length_map]; omega)
    obtain ⟨rs, hr, rfl⟩ := List.mem_map.mp hd
    exact h2 rs hr
  refine (sm_tup (k := 3) (n := 287) fun d hd => ?_).up (Nat.le_refl _) (by show 2 * _ ≤ _; omega)
  rcases List.mem_cons.mp hd with rfl | hd
  · exact h1.up (by omega) (by omega)
  · rw [List.mem_singleton.mp hd]; exact h3
theorem dp_LL {K : Frg} {H : Hp} : ∀ {us : List V} {nss : List (List Nat)}, Paired (LNn H) us nss → DpAll K H us (nss.map pdn)
  | _, _, .nil => .nil
  | _, _, .cons ⟨a, h1, h2⟩ t => by subst h1; exact .cons (dp_n (SqL.of h2)) (dp_LL t)
theorem dp_LLL {K : Frg} {H : Hp} : ∀ {us : List V} {lss : List (List (List Nat))}, Paired (LLNn H) us lss → DpAll K H us (lss.map fun rs => .list (rs.map pdn))
  | _, _, .nil => .nil
  | _, _, .cons ⟨a, vs, h1, h2, h3⟩ t => by subst h1; exact .cons (.lst (SqL.of h2) (dp_LL h3)) (dp_LLL t)
theorem WN.dp {K : Frg} {H : Hp} {v : V} {cs : List Nat} {ls : List (List (List Nat))} (h : WN H v cs ls) : ∃ a, v = .ref a ∧ Dp K H (.ref a) (pdW cs ls) := by
  obtain ⟨p, a, b, rfl, h1, ⟨c, rfl, h2⟩, d, us, rfl, h3, h4⟩ := h
  exact ⟨p, rfl, .tup (SqT.of h1) (.cons (dp_n (SqL.of h2)) (.cons (.lst (SqL.of h3) (dp_LLL h4)) .nil))⟩
end Wd
set_option Elab.async false
set_option linter.all false
set_option maxRecDepth 100000
set_option maxHeartbeats 4000000
/-! law_block -/
namespace Wd
open PySem PySem.Spec PyProof.Rows L2
section
variable {K : Frg} {σ : L2.St} {H : Hp} {D : Ends} {te to : TE} {Q : VK} {v : V} {cs : List Nat} {ls : List (List (List Nat))}
/-- a comprehension whose items make things: each item told with what it makes -/
theorem lcN_range {n j : Nat} {vs : List Nat} (G : Nat → V → List (Addr × HO) → Prop) (hz : n ≤ 1000000) (hw : ∀ x, wipe ((wipe σ vs).set j (some x)) vs = wipe σ vs)
    (he : ∀ i H1, i < n → Same H H1 → ∀ R : VK, (∀ v L H2, Same H1 H2 → (∀ p ∈ L, H1 p.1 = none ∧ H2 p.1 = some p.2) → G i v L → R v H2) → te ((wipe σ vs).set j (some (vn i))) H1 R)
    (q : ∀ D us H', H D = none → Same H H' → H' D = some (.lst us) → us.length = n → (∀ i u, us[i]? = some u → ∃ L, G i u L ∧ ∀ p ∈ L, H' p.1 = some p.2) → Q (.ref D) H') : LcGo (Itr 0 n) (gName j) tYes te vs σ H Q := by
  intro D hD
  refine lc_range (lo := 0) (n := n) (fun i H' => Same H H' ∧ ∃ us, H' D = some (.lst us) ∧ us.length = i ∧ ∀ k u, us[k]? = some u → ∃ L, G k u L ∧ ∀ p ∈ L, p.1 ≠ D ∧ H' p.1 = some p.2) ⟨same_new hD, [], upd_same, rfl, fun k u h => by simp at h⟩ (fun i H1 hi p => ?_) (fun H' p => ?_)
  · obtain ⟨e1, us, hu, hl, hus⟩ := p
    rw [Int.zero_add]
    refine ⟨hw _, ?_⟩
    unfold tYes
    dsimp only
    rw [if_pos rfl]
    refine he i H1 hi e1 _ fun v L H2 e2 hL hG => ⟨us, e2 _ _ hu, by rw [hl, sizeLine_eq]; omega, same_mut (e1.trans e2) hD, us ++ [v], upd_same, by rw [List.length_append, hl]; rfl, fun k u hk => ?_⟩
    have hne : ∀ p ∈ L, p.1 ≠ D := fun p hp z => by
      have := (hL p hp).1
      rw [z, hu] at this
      cases this
    by_cases hki : k < us.length
    · rw [List.getElem?_append_left hki] at hk
      obtain ⟨L', g, h⟩ := hus k u hk
      exact ⟨L', g, fun p hp => ⟨(h p hp).1, by rw [upd_ne (h p hp).1]; exact e2 _ _ (h p hp).2⟩⟩
    · have hkl := (List.getElem?_eq_some_iff.mp hk).1
      rw [List.length_append, List.length_singleton] at hkl
      have hke : k = us.length := by omega
      rw [hke, List.getElem?_append_right (Nat.le_refl _), Nat.sub_self] at hk
      cases hk
      refine ⟨L, by rw [hke, hl]; exact hG, fun p hp => ⟨hne p hp, by rw [upd_ne (hne p hp)]; exact (hL p hp).2⟩⟩
  · obtain ⟨e, us, h1, h2, h3⟩ := p
    exact q D us H' hD e h1 h2 fun i u hu => by
      obtain ⟨L, g, h⟩ := h3 i u hu
      exact ⟨L, g, fun p hp => (h p hp).2⟩
theorem lcN_list {a : Addr} {xs : List V} {j : Nat} {vs : List Nat} (G : Nat → V → List (Addr × HO) → Prop) (hx : SqL K H a xs) (hz : xs.length ≤ 1000000) (hw : ∀ x, wipe ((wipe σ vs).set j (some x)) vs = wipe σ vs)
    (he : ∀ i x H1, xs[i]? = some x → Same H H1 → ∀ R : VK, (∀ v L H2, Same H1 H2 → (∀ p ∈ L, H1 p.1 = none ∧ H2 p.1 = some p.2) → G i v L → R v H2) → te ((wipe σ vs).set j (some x)) H1 R)
    (q : ∀ D us H', H D = none → Same H H' → H' D = some (.lst us) → us.length = xs.length → (∀ i u, us[i]? = some u → ∃ L, G i u L ∧ ∀ p ∈ L, H' p.1 = some p.2) → Q (.ref D) H') : LcGo (Itl K a) (gName j) tYes te vs σ H Q := by
  intro D hD
  refine lc_list (xs := xs) (fun i H' => Same H H' ∧ ∃ us, H' D = some (.lst us) ∧ us.length = i ∧ ∀ k u, us[k]? = some u → ∃ L, G k u L ∧ ∀ p ∈ L, p.1 ≠ D ∧ H' p.1 = some p.2) ⟨same_new hD, [], upd_same, rfl, fun k u h => by simp at h⟩ (fun i H' _ p => SqL.mn p.1 hx) (fun i x H1 hi p => ?_) (fun H' p => ?_)
  · obtain ⟨e1, us, hu, hl, hus⟩ := p
    refine ⟨hw _, ?_⟩
    unfold tYes
    dsimp only
    rw [if_pos rfl]
    have hil := (List.getElem?_eq_some_iff.mp hi).1
    refine he i x H1 hi e1 _ fun v L H2 e2 hL hG => ⟨us, e2 _ _ hu, by rw [hl, sizeLine_eq]; omega, same_mut (e1.trans e2) hD, us ++ [v], upd_same, by rw [List.length_append, hl]; rfl, fun k u hk => ?_⟩
    have hne : ∀ p ∈ L, p.1 ≠ D := fun p hp z => by
      have := (hL p hp).1
      rw [z, hu] at this
      cases this
    by_cases hki : k < us.length
    · rw [List.getElem?_append_left hki] at hk
      obtain ⟨L', g, h⟩ := hus k u hk
      exact ⟨L', g, fun p hp => ⟨(h p hp).1, by rw [upd_ne (h p hp).1]; exact e2 _ _ (h p hp).2⟩⟩
    · have hkl := (List.getElem?_eq_some_iff.mp hk).1
      rw [List.length_append, List.length_singleton] at hkl
      have hke : k = us.length := by omega
      rw [hke, List.getElem?_append_right (Nat.le_refl _), Nat.sub_self] at hk
      cases hk
      refine ⟨L, by rw [hke, hl]; exact hG, fun p hp => ⟨hne p hp, by rw [upd_ne (hne p hp)]; exact (hL p hp).2⟩⟩
  · obtain ⟨e, us, h1, h2, h3⟩ := p
    exact q D us H' hD e h1 h2 fun i u hu => by
      obtain ⟨L, g, h⟩ := h3 i u hu
      exact ⟨L, g, fun p hp => (h p hp).2⟩
theorem ss_clear {p : Addr} {xs : List V} (ho : Pv to σ H (.ref p)) (hp : H p = some (.lst xs)) (q : ∀ H1, Same H H1 → D.nx σ (upd H1 p (.lst []))) : tDrop (tBM0 K "list" rClear to) D σ H :=
  ho.run fun H1 e1 => ⟨.inl ⟨rfl, xs, SqL.of (e1 _ _ hp)⟩, p, xs, rfl, rfl, e1 _ _ hp, q H1 e1⟩
theorem pv_reprW (hv : Pv te σ H v) (hW : WN H v cs ls) (W : WG cs ls) : Pv (tCB (rRepr K) (tCons te tNil)) σ H (.str (pdW cs ls).shown) := pv_cb (pva_1 hv) fun H1 e Q q => by
  obtain ⟨a, rfl, hd⟩ := (hW.mn e).dp (K := K)
  have S := sm_W W
  exact ⟨a, _, rfl, hd, S.sh, S.hd, by have := S.dp; omega, S.fits (by decide), q H1 (Same.refl _)⟩
theorem two_of {us : List V} (h : us.length = 2) : ∃ a b, us = [a, b] := match us, h with
  | [a, b], _ => ⟨a, b, rfl⟩
end
section
variable {P : Program} {w : World} {K : Frg} {mg : Str → Option Value} {base : Heap}
def spBlock (K : Frg) : Sp := fun vs H Q _ => ∃ (sa : Addr) (ns : List Int) (t : Nat), vs = [.ref sa, vn t] ∧ SqL K H sa (ns.map V.int) ∧ RetG (.bl true) H Q
theorem sc_law_block : FnScope N_law_block ["_law_script", "_law_at"] (defScope s_law_block) := ⟨rfl, rfl, rfl, by decide +kernel, rfl, by decide +kernel, by decide +kernel⟩
theorem ok_law_block (G : Gx K mg) : ∃ fd, FnG P w K mg base CX0 16 (He.ga K "_law_block") fd ["_law_script", "_law_at"] (spBlock K) ∧ Binds K fd ["_law_script", "_law_at"] [] ∧ PySem.W.keepIn K (.ref (He.ga K "_law_block")) = true ∧ mg "_law_block" = some (.ref (He.ga K "_law_block")) := by
  have sc := sc_law_block
  have k_law_wishes := ok_law_wishes (P := P) (w := w) (base := base) G
  have k_law_numbers := ok_law_numbers (P := P) (w := w) (base := base) G
  have k_law_cell_at := ok_law_cell_at (P := P) (w := w) (base := base) G
  have k_law_due := ok_law_due (P := P) (w := w) (base := base) G
  have k_orders_part := ok_orders_part (P := P) (w := w) (base := base) G
  have k_law_told := ok_law_told (P := P) (w := w) (base := base) G
  have k_law_odd := ok_law_odd (P := P) (w := w) (base := base) G
  have k_law_doors := ok_law_doors (P := P) (w := w) (base := base) G
  obtain ⟨g1, fd, F⟩ := G.f_law_block
  refine ⟨fd, okG F sc (fun vs H Q E h => ?_) (fun cdv A outer s H vs Q E hgd hr h => ?_), F.bindsN (fun _ _ _ _ _ _ us hl => match us, hl with | [_, _], _ => rfl), F.kp, g1⟩
  · obtain ⟨sa, ns, t, rfl, _⟩ := h; rfl
  · obtain ⟨sa, ns, t, rfl, hsa, q⟩ := h
    suffices hx : ∃ t', PSs (cxOf CX0 P w K mg base N_law_block "_law_block" (defScope s_law_block) (He.ga K "_law_block") cdv A outer s H E).nox (defBody s_law_block) t' ∧ t' { nx := fun _ H' => Q .non H', rt := Q } (start N_law_block [.ref sa, vn t]) H by
      obtain ⟨t', h1, h2⟩ := hx
      exact ⟨t', h1.nox, h2⟩
    refine ⟨_, (pss_cons (ps_set (i := 2) sc.nd rfl (Or.inr rfl) (pe_callTy call_int1 (by rfl) G.n_int (by decide +kernel) (pa_cons (pe_cmpR op_eq (pv 1) pe_int (nomark _)) pa_nil)))
      (pss_cons (ps_set (i := 3) sc.nd rfl (Or.inr rfl) (pe_kn k_law_wishes (hr.mono (by decide)) pass0 (pa_cons (pv 0) (pa_cons (pv 1) (pa_cons (pe_ix ix_list (pe_lst (pa_cons pe_int (pa_cons pe_int pa_nil))) (pv 2) (fun _ _ => rfl)) (pa_cons (pe_ix ix_list (pe_lst (pa_cons pe_int (pa_cons pe_int pa_nil))) (pv 2) (fun _ _ => rfl)) (pa_cons (pe_ix ix_list (pe_lst (pa_cons pe_int (pa_cons pe_int pa_nil))) (pv 2) (fun _ _ => rfl)) pa_nil)))))))
      (pss_cons (ps_set (i := 4) sc.nd rfl (Or.inr rfl) (pe_kn k_law_numbers (hr.mono (by decide)) pass0 (pa_cons (pe_kn k_law_cell_at (hr.mono (by decide)) pass0 (pa_cons (pv 0) (pa_cons (pe_op op_add (pv 1) pe_int) pa_nil))) (pa_cons (pe_op op_add (pv 1) pe_int) (pa_cons (pe_lst (pa_cons pe_int (pa_cons pe_int (pa_cons pe_int (pa_cons pe_int (pa_cons pe_int (pa_cons pe_int pa_nil))))))) pa_nil)))))
      (pss_cons (ps_setLc (i := 6) (own := [("_law_k", 5)]) rfl sc.nd rfl rfl (sw_true rfl rfl rfl (by decide +kernel)) (pi_range1 rfl G.n_range (pa_cons pe_int pa_nil)) (blkOk_by (by rfl)) (fun _ _ _ _ _ => (pg_name (i := 5) sc.nd rfl (Or.inl rfl))) (fun _ _ _ _ _ => pts_nil) (fun _ _ _ _ _ => (pe_tup (pa_cons (pe_ix (ix_listK (K := K)) (pe_lst (pa_cons pe_str (pa_cons pe_str (pa_cons pe_str pa_nil)))) (pe_ix (ix_listK (K := K)) (pv 4) (pv 5) (fun _ _ => rfl)) (fun _ _ => rfl)) (pa_cons pe_non (pa_cons (pe_lst pa_nil) pa_nil))))))
      (pss_cons (ps_setLc (i := 8) (own := [("_law_aim", 7)]) rfl sc.nd rfl rfl (sw_true rfl rfl rfl (by decide +kernel)) (pi_list (pv 6)) (blkOk_by (by rfl)) (fun _ _ _ _ _ => (pg_name (i := 7) sc.nd rfl (Or.inl rfl))) (fun _ _ _ _ _ => pts_nil) (fun _ _ _ _ _ => (pe_kn k_law_due (hr.mono (by decide)) pass0 (pa_cons (pv 3) (pa_cons (pv 7) (pa_cons (pe_cmpR op_eq (pv 2) pe_int (nomark _)) pa_nil))))))
      (pss_cons (ps_if (PW.pt (pw_or (pt_cmpR op_isN (pe_ix ix_list (pv 8) pe_int (fun _ _ => rfl)) pe_non (nomark _)) (pw_or1 (pt_cmpR op_isN (pe_ix ix_list (pv 8) pe_int (fun _ _ => rfl)) pe_non (nomark _)))))
      (pss_one (ps_ret pe_bl)) pss_nil)
      (pss_cons (ps_set (i := 9) sc.nd rfl (Or.inl rfl) (pe_callB (call_reprD hgd hr.units) (by rfl) G.n_repr (by decide +kernel) (pa_cons (pv 3) pa_nil)))
      (pss_cons (ps_for PassesOwn.never rfl (pi_range1 rfl G.n_range (pa_cons pe_int pa_nil)) (pg_name (i := 10) sc.nd rfl (Or.inl rfl))
      (pss_cons (ps_set (i := 11) sc.nd rfl (Or.inl rfl) (pe_kn k_orders_part (hr.mono (by decide)) passL (pa_cons (pv 3) (pa_cons (pe_ix ix_tup (pe_ix ix_list (pv 6) pe_int (fun _ _ => rfl)) pe_int (fun _ _ => rfl)) (pa_cons (pe_ix ix_tup (pe_ix ix_list (pv 6) pe_int (fun _ _ => rfl)) pe_int (fun _ _ => rfl)) pa_nil)))))
      (pss_cons (ps_if (PW.pt (pw_or (pt_not (pt_val (pe_kn k_law_told (hr.mono (by decide)) pass0 (pa_cons (pv 3) (pa_cons (pv 6) (pa_cons (pv 8) (pa_cons (pv 11) pa_nil))))))) (pw_or1 (pt_cmpR op_ne (pe_callB (call_reprD hgd hr.units) (by rfl) G.n_repr (by decide +kernel) (pa_cons (pv 3) pa_nil)) (pv 9) (nomark _)))))
      (pss_one (ps_ret pe_bl)) pss_nil)
      (pss_one (ps_if (pt_cmpR op_notN (pv 11) pe_non (nomark _))
      (pss_cons (ps_expr (pe_bm PySem.F.plainAttrs_list PySem.F.slot_list_append PySem.F.type_list_append mt_append (pe_ix ix_tup (pv 11) pe_int (fun _ _ => rfl)) (pa_cons pe_int pa_nil)))
      (pss_cons (ps_if (pt_cmpR op_ne (pe_callB call_len_seq (by rfl) G.n_len (by decide +kernel) (pa_cons (pe_ix ix_tup (pv 11) pe_int (fun _ _ => rfl)) pa_nil)) (pe_callB call_len_seq (by rfl) G.n_len (by decide +kernel) (pa_cons (pe_ix ix_tup (pv 3) pe_int (fun _ _ => rfl)) pa_nil)) (nomark _))
      (pss_one (ps_ret pe_bl)) pss_nil)
      (pss_one (ps_expr (pe_bm0 PySem.F.plainAttrs_list PySem.F.slot_list_clear PySem.F.type_list_clear mt_clear (pe_ix ix_tup (pv 11) pe_int (fun _ _ => rfl))))))) pss_nil)))))
      (pss_one (ps_ret (pe_and (pe_kn k_law_odd (hr.mono (by decide)) pass0 (pa_cons (pv 3) (pa_cons (pv 4) pa_nil))) (pe_one (pe_kn k_law_doors (hr.mono (by decide)) pass0 (pa_cons (pv 3) (pa_cons (pv 4) pa_nil))))))))))))))), ?_⟩
    have s1 : 1 ≤ sizeLine := by rw [sizeLine_eq]; decide
    have s2 : 2 ≤ sizeLine := by rw [sizeLine_eq]; decide
    have s3 : 3 ≤ sizeLine := by rw [sizeLine_eq]; decide
    obtain ⟨bn, MT, MA, MR, hbn, h3, h4, h5, bMT, bMA, bMR, hsm⟩ : ∃ bn MT MA MR : Nat, V.int (if decide ((t : Int) = 0) = true then 1 else 0) = vn bn ∧ [V.int 3, V.int 6][bn]? = some (vn MT) ∧ [V.int 3, V.int 7][bn]? = some (vn MA) ∧ [V.int 3, V.int 5][bn]? = some (vn MR) ∧
        (1 ≤ MT ∧ MT ≤ 6) ∧ (1 ≤ MA ∧ MA ≤ 7) ∧ (1 ≤ MR ∧ MR ≤ 5) ∧ (bn = 0 → MT = 3 ∧ MA = 3) := by
      by_cases h : (t : Int) = 0
      · exact ⟨1, 6, 7, 5, by rw [if_pos (decide_eq_true h)]; rfl, rfl, rfl, rfl, by decide, by decide, by decide, fun z => by cases z⟩
      · exact ⟨0, 3, 3, 3, by rw [if_neg (by rw [decide_eq_false h]; decide)]; rfl, rfl, rfl, rfl, by decide, by decide, by decide, fun _ => ⟨rfl, rfl⟩⟩
    -- big
    refine st_seq ?_
    refine ss_set (v := vn bn) ((pv_cb (v := V.int (if decide ((t : Int) = 0) = true then 1 else 0)) (pva_1 (pv_eq (pv_var rfl) pv_c rfl dec_i)) fun H1 e Q q => Or.inr ⟨_, rfl, q H1 (Same.refl _)⟩).to hbn) fun H1 e1 => ?_
    dsimp only
    -- wishes
    refine st_seq ?_
    refine sr_set (c_call (pva_cons (pv_var rfl) (pva_cons (pv_var rfl) (pva_3 (pv_ixNew (i := (bn : Int)) (v := vn MT) (pva_2 pv_c pv_c) s2 (pv_var rfl) (atI_nat h3)) (pv_ixNew (i := (bn : Int)) (v := vn MA) (pva_2 pv_c pv_c) s2 (pv_var rfl) (atI_nat h4)) (pv_ixNew (i := (bn : Int)) (v := vn MR) (pva_2 pv_c pv_c) s2 (pv_var rfl) (atI_nat h5))))) fun H2 e2 => ⟨sa, ns, t, MT, MA, MR, rfl, SqL.mn (e1.trans e2) hsa, bMT, bMA, bMR, fun v H3 cs ls e3 hW W hcl hll => ?_⟩)
    have e03 := e1.trans (e2.trans e3)
    dsimp only
    -- digits
    refine st_seq ?_
    refine sr_set ?_
    refine (pv_call (v := .int (ns[t + 9]?.getD 0)) (pva_2 (pv_var rfl) ((pv_add (i := (t : Int)) (j := 9) (pv_var rfl) pv_c).to (y := vn (t + 9)) (congrArg V.int (by omega)))) fun H4 e Q q => ⟨sa, ns, t + 9, rfl, SqL.mn (e03.trans e) hsa, q⟩) H3 (Same.refl _) _ fun H4 e4 => ?_
    refine (pv_add (i := (t : Int)) (j := 9) (pv_var rfl) pv_c) H4 (Same.refl _) _ fun H5 e5 => ⟨by show 6 ≤ _; rw [sizeLine_eq]; decide, fun zp hzp => ?_⟩
    refine ⟨_, _, zp, [3, 3, 3, 8, 4, 11], rfl, SqL.of upd_same, by decide, by decide, fun ds hD dp H6 hdp e6 h6 => ?_⟩
    have e36 : Same H3 H6 := e4.trans (e5.trans ((same_new hzp).trans e6))
    have hW6 := hW.mn e36
    have e06 := e03.trans e36
    clear hW e1 e2 e3 e4 e5 e6
    clear e36
    dsimp only
    -- aims
    refine st_seq ?_
    refine sr_set (lc_openR ⟨2, rfl, by decide, by decide, ?_⟩)
    refine lcN_range (n := 2) (fun k u L => ∃ a b s, u = .ref a ∧ ordB s = true ∧ L = [(a, .tup [.str s, .non, .ref b]), (b, .lst [])]) (by decide) (fun x => rfl) (fun k H7 hk e7 R q7 => ?_) fun ap us H7 hap e7 h7 hul hus => ?_
    · obtain ⟨d, hd, hlt⟩ : ∃ d, ds[k]? = some d ∧ d < 3 := by
        rcases (by omega : k = 0 ∨ k = 1) with h | h <;> subst h
        · exact dig_at hD (i := 0) rfl
        · exact dig_at hD (i := 1) rfl
      obtain ⟨gs, hgs, hgo⟩ : ∃ gs : Str, [V.str "firsts", V.str "full", V.str "lasts"][d]? = some (.str gs) ∧ ordB gs = true := by
        rcases (by omega : d = 0 ∨ d = 1 ∨ d = 2) with h | h | h <;> subst h
        · exact ⟨_, rfl, by decide +kernel⟩
        · exact ⟨_, rfl, by decide +kernel⟩
        · exact ⟨_, rfl, by decide +kernel⟩
      refine (pv_ixNew (i := (d : Int)) (v := .str gs) (pva_3 pv_c pv_c pv_c) s3 (pv_ixL (v := vn d) (pv_var rfl) (pv_var rfl) (SqL.of (e7 _ _ h6)) (atI_nat (by rw [List.getElem?_map, hd]; rfl))) (atI_nat hgs)) H7 (Same.refl _) _ fun H8 e8 => ?_
      refine ⟨Nat.zero_le _, fun b hb => ⟨s3, fun a ha => ?_⟩⟩
      have n1 := same_new (o := .lst []) hb
      have n2 := same_new (o := .tup [.str gs, .non, .ref b]) ha
      refine q7 _ [(a, .tup [.str gs, .non, .ref b]), (b, .lst [])] _ (e8.trans (n1.trans n2)) (fun p hp => ?_) ⟨a, b, gs, rfl, hgo, rfl⟩
      rcases List.mem_cons.mp hp with rfl | hp
      · exact ⟨(e8.trans n1).free ha, upd_same⟩
      · rw [List.mem_singleton.mp hp]
        exact ⟨e8.free hb, n2 _ _ upd_same⟩
    obtain ⟨u0, u1, rfl⟩ := two_of hul
    obtain ⟨_, ⟨a0, b0, s0, rfl, ho0, rfl⟩, hA0⟩ := hus 0 _ rfl
    obtain ⟨_, ⟨a1, b1, s1', rfl, ho1, rfl⟩, hA1⟩ := hus 1 _ rfl
    have t0 := hA0 _ List.mem_cons_self
    have l0 := hA0 _ (List.mem_cons_of_mem _ List.mem_cons_self)
    have t1 := hA1 _ List.mem_cons_self
    have l1 := hA1 _ (List.mem_cons_of_mem _ List.mem_cons_self)
    dsimp only at t0 l0 t1 l1
    have hA : ∀ k u, [V.ref a0, V.ref a1][k]? = some u → AOk K H7 u (if k = 0 then s0 else s1') := fun k u hk => by
      rcases k with _ | _ | k
      · cases hk
        exact ⟨a0, b0, rfl, SqT.of t0, ho0, SqL.of l0⟩
      · cases hk
        exact ⟨a1, b1, rfl, SqT.of t1, ho1, SqL.of l1⟩
      · cases hk
    clear hus hA0 hA1
    have hW7 := hW6.mn e7
    have e07 := e06.trans e7
    dsimp only
    -- what is due
    refine st_seq ?_
    refine sr_set (lc_open (pv_var rfl H7 (Same.refl _) _ fun H8 e8 => ⟨ap, rfl, ⟨_, SqL.of (e8 _ _ h7)⟩, ?_⟩))
    refine lcN_list (xs := [V.ref a0, V.ref a1]) (fun k u L => ∃ c D as ps, u = .ref c ∧ BOk (if k = 0 then s0 else s1') cs ls D as ps ∧ L = [(c, .lst ((cntOf ls D).map vn))]) (SqL.of (e8 _ _ h7)) (by show 2 ≤ _; decide) (fun x => rfl) (fun k u H9 hk e9 R q9 => ?_) fun up us H9 hup e9 h9 hul hus => ?_
    · refine c_call (pva_3 (pv_var rfl) (pv_var rfl) (pv_eq (x := vn bn) (pv_var rfl) pv_c rfl dec_i)) fun H10 e10 => ⟨v, u, cs, ls, _, _, rfl, hW7.mn (e8.trans (e9.trans e10)), W, (hA k u hk).mn (e8.trans (e9.trans e10)), fun hb => ?_, fun D as ps hB c H11 hc e11 h11 => ?_⟩
      · have : bn = 0 := by have := of_decide_eq_true hb; omega
        obtain ⟨z1, z2⟩ := hsm this
        omega
      · refine q9 _ [(c, .lst ((cntOf ls D).map vn))] H11 (e10.trans e11) (fun p hp => ?_) ⟨c, D, as, ps, rfl, hB, rfl⟩
        rw [List.mem_singleton.mp hp]
        exact ⟨e10.free hc, h11⟩
    obtain ⟨u0, u1, rfl⟩ := two_of hul
    obtain ⟨_, ⟨c0, D0, as0, ps0, rfl, hB0, rfl⟩, hC0⟩ := hus 0 _ rfl
    obtain ⟨_, ⟨c1, D1, as1, ps1, rfl, hB1, rfl⟩, hC1⟩ := hus 1 _ rfl
    have hB0 : BOk s0 cs ls D0 as0 ps0 := hB0
    have hB1 : BOk s1' cs ls D1 as1 ps1 := hB1
    have g0 := hC0 _ List.mem_cons_self
    have g1 := hC1 _ List.mem_cons_self
    dsimp only at g0 g1
    clear hus hC0 hC1 hA
    have e79 := e8.trans e9
    have hW9 := hW7.mn e79
    have e09 := e07.trans e79
    have h69 := (e7.trans e79) _ _ h6
    have h79 := e79 _ _ h7
    have t09 := e79 _ _ t0
    have t19 := e79 _ _ t1
    clear hW6 hW7 h6 h7 t0 t1 l0 l1 e03 e06 e07
    clear e7 e8 e9 e79
    dsimp only
    -- none due?
    refine st_seq ?_
    refine ss_if (b := false || false) (pt_or (pt_t (pv_isN (pv_ixL (v := .ref c0) (pv_var rfl) pv_c (SqL.of h9) rfl) rfl)) fun _ => pt_t (pv_isN (pv_ixL (v := .ref c1) (pv_var rfl) pv_c (SqL.of h9) rfl) rfl)) (fun H10 e h => nomatch h) fun H10 e10 _ => ?_
    refine st_next ?_
    dsimp only
    -- kept
    refine st_seq ?_
    refine ss_set (pv_reprW (pv_var rfl) (hW9.mn e10) W) fun H11 e11 => ?_
    have e91 := e10.trans e11
    have hWb := hW9.mn e91
    have e0b := e09.trans e91
    have h6b := e91 _ _ h69
    have h7b := e91 _ _ h79
    have t0b := e91 _ _ t09
    have t1b := e91 _ _ t19
    have h9b := e91 _ _ h9
    have g0b := e91 _ _ g0
    have g1b := e91 _ _ g1
    clear hW9 h69 h79 t09 t19 h9 g0 g1 e09
    clear e10 e11 e91
    dsimp only
    -- twice
    refine st_seq ?_
    refine w_forR (n := 2) (fun Q q => q) (by decide) (by decide) (fun i σ H' => ∃ y10 y11, σ = [some (.ref sa), some (vn t), some (vn bn), some v, some (.ref dp), none, some (.ref ap), none, some (.ref up), some (.str (pdW cs ls).shown), y10, y11] ∧ Same H11 H') ⟨_, _, rfl, Same.refl _⟩ ?_ ?_
    · rintro i σ H12 hi ⟨y10, y11, rfl, e12⟩
      dsimp only
      refine st_seq ?_
      refine sr_set (c_call (pva_3 (pv_var rfl) (pv_ixT (v := .str s0) (pv_ixL (v := .ref a0) (pv_var rfl) pv_c (SqL.of (e12 _ _ h7b)) rfl) pv_c (SqT.of (e12 _ _ t0b)) rfl) (pv_ixT (v := .str s1') (pv_ixL (v := .ref a1) (pv_var rfl) pv_c (SqL.of (e12 _ _ h7b)) rfl) pv_c (SqT.of (e12 _ _ t1b)) rfl)) fun H13 e13 => ⟨v, _, _, rfl, Or.inr ⟨cs, ls, s0, s1', (hWb.mn (e12.trans e13)).ws, W, rfl, ho0, rfl, ho1, fun E0 E1 _ _ _ _ hE0 hE1 => ⟨fun heq H14 e14 => ?_, fun hne tp d0 d1 H14 htp hd0 hd1 hdd e14 h14 h14a h14b => ?_⟩⟩⟩)
      · have eb := e12.trans (e13.trans e14)
        dsimp only
        refine st_seq ?_
        refine ss_if (b := false || false) (pt_or (pt_n (b := true) (pt_b (pv_call (v := .bl true) (pva_cons (pv_var rfl) (pva_3 (pv_var rfl) (pv_var rfl) (pv_var rfl))) fun H15 e Q q => ⟨v, _, cs, ls, up, .non, c0, c1, cntOf ls D0, cntOf ls D1, rfl, hWb.mn (eb.trans e), W, SqL.of ((eb.trans e) _ _ h9b), SqL.of ((eb.trans e) _ _ g0b), SqL.of ((eb.trans e) _ _ g1b), Or.inl ⟨rfl, (hB0.alike W hE0).trans (heq.trans (hE1.alike W hB1))⟩, q⟩))) fun _ => pt_t (pv_ne (pv_reprW (pv_var rfl) (hWb.mn eb) W) (pv_var rfl) rfl (by simp))) (fun H15 e h => nomatch h) fun H15 e15 _ => ?_
        refine st_next ?_
        dsimp only
        exact ss_if (b := false) (pt_t (pv_notN (pv_var rfl) rfl)) (fun H16 e h => nomatch h) fun H16 e16 _ => ⟨_, _, rfl, eb.trans (e15.trans e16)⟩
      · have eb := e12.trans (e13.trans e14)
        have fb0 := (e12.trans e13).free hd0
        have fb1 := (e12.trans e13).free hd1
        have z0 := hB0.alike W hE0
        have z1 := hB1.alike W hE1
        dsimp only
        refine st_seq ?_
        refine ss_if (b := false || false) (pt_or (pt_n (b := true) (pt_b (pv_call (v := .bl true) (pva_cons (pv_var rfl) (pva_3 (pv_var rfl) (pv_var rfl) (pv_var rfl))) fun H15 e Q q => ⟨v, _, cs, ls, up, .ref tp, c0, c1, cntOf ls D0, cntOf ls D1, rfl, hWb.mn (eb.trans e), W, SqL.of ((eb.trans e) _ _ h9b), SqL.of ((eb.trans e) _ _ g0b), SqL.of ((eb.trans e) _ _ g1b), Or.inr ⟨fun z => hne (z0.symm.trans (z.trans z1)), tp, d0, d1, E0, E1, rfl, SqT.of (e _ _ h14), SqL.of (e _ _ h14a), SqL.of (e _ _ h14b), hE0.dok, hE1.dok, z0.symm, z1.symm⟩, q⟩))) fun _ => pt_t (pv_ne (pv_reprW (pv_var rfl) (hWb.mn eb) W) (pv_var rfl) rfl (by simp))) (fun H15 e h => nomatch h) fun H15 e15 _ => ?_
        refine st_next ?_
        dsimp only
        refine ss_if (b := true) (pt_t (pv_notN (pv_var rfl) rfl)) (fun H16 e16 _ => ?_) fun H16 e h => nomatch h
        have e6 := e15.trans e16
        have k0 := e6 _ _ h14
        have k1 := e6 _ _ h14a
        have k2 := e6 _ _ h14b
        have ebb := eb.trans e6
        refine st_seq ?_
        refine ss_appG (p := d0) (v := .int 0) (pv_ixT (v := .ref d0) (pv_var rfl) pv_c (SqT.of k0) rfl) k1 (by rw [List.length_map, hE0.len, sizeLine_eq]; have := W.ne.2; omega) pv_c fun H17 e17 => ?_
        have hn0 : tp ≠ d0 := fun z => by rw [z, k1] at k0; cases k0
        have m0 : (upd H17 d0 (.lst (E0.map vo ++ [V.int 0]))) tp = some (.tup [.ref d0, .ref d1]) := by rw [upd_ne hn0]; exact e17 _ _ k0
        have m2 : (upd H17 d0 (.lst (E0.map vo ++ [V.int 0]))) d1 = some (.lst (E1.map vo)) := by rw [upd_ne (Ne.symm hdd)]; exact e17 _ _ k2
        have ec : Same H11 (upd H17 d0 (.lst (E0.map vo ++ [V.int 0]))) := same_mut (ebb.trans e17) fb0
        generalize upd H17 d0 (.lst (E0.map vo ++ [V.int 0])) = H18 at m0 m2 ec ⊢
        dsimp only
        refine st_seq ?_
        obtain ⟨wp, wa, wb, wus, hwv, hwT, hwb, hwl⟩ := wn_lens (hWb.mn ec)
        refine ss_if (b := false) (pt_t (pv_ne (x := vn ls.length) (y := vn ls.length) (pv_len (n := ls.length) (pv_ixT (v := .ref d1) (pv_var rfl) pv_c (SqT.of m0) rfl) (.inl (SqL.of m2)) (by rw [List.length_map, hE1.len])) (pv_len (n := ls.length) (pv_ixT (v := .ref wb) (pv_var (by rw [← hwv]; rfl)) pv_c (SqT.of hwT) rfl) (.inl (SqL.of hwb)) hwl) rfl (by simp))) (fun H19 e h => nomatch h) fun H19 e19 _ => ?_
        refine st_next ?_
        dsimp only
        refine ss_clear (p := d1) (pv_ixT (v := .ref d1) (pv_var rfl) pv_c (SqT.of (e19 _ _ m0)) rfl) (e19 _ _ m2) fun H20 e20 => ?_
        exact ⟨_, _, rfl, same_mut (ec.trans (e19.trans e20)) fb1⟩
    · rintro σ H12 ⟨y10, y11, rfl, e12⟩
      dsimp only
      refine ss_ret (v := .bl true) (pv_and (b := true) (c := true) (pv_call (v := .bl true) (pva_2 (pv_var rfl) (pv_var rfl)) fun H13 e Q q => ⟨v, cs, ls, dp, ds, rfl, hWb.mn (e12.trans e), W, SqL.of ((e12.trans e) _ _ h6b), hD, q⟩) fun _ => pv_call (v := .bl true) (pva_2 (pv_var rfl) (pv_var rfl)) fun H13 e Q q => ⟨v, cs, ls, dp, ds, rfl, hWb.mn (e12.trans e), W, SqL.of ((e12.trans e) _ _ h6b), hD, q⟩) (q.mn (e0b.trans e12))
end
end Wd
set_option Elab.async false
set_option linter.all false
set_option maxRecDepth 100000
set_option maxHeartbeats 4000000
/-! law -/
namespace Wd
open PySem PySem.Spec PyProof.Rows L2
section
variable {P : Program} {w : World} {K : Frg} {mg : Str → Option Value} {base : Heap}
def spLaw (K : Frg) : Sp := fun vs H Q _ => ∃ (a : Addr) (ns : List Int), vs = [.ref a] ∧ SqL K H a (ns.map V.int) ∧ RetG (.bl true) H Q
theorem sc_law : FnScope N_law ["_law_script"] (defScope s_law) := ⟨rfl, rfl, rfl, by decide +kernel, rfl, by decide +kernel, by decide +kernel⟩
theorem rng_ten : ∀ m : Nat, m < 64 → Builtin.Range.small 0 (m : Int) 10 = true ∧ Builtin.Range.rangeSize 0 (m : Int) 10 = (((m + 9) / 10 : Nat) : Int) := by decide +kernel
theorem w_forR3 {σ : L2.St} {H : Hp} {tb : TS} {D : Ends} {ta : TA} {m c : Int} {n j : Nat} (h : Pva ta σ H [.int 0, .int m, .int c]) (hr : RgC 0 m c n) (Pv : Nat → L2.St → Hp → Prop) (h0 : ∀ H1, Same H H1 → Pv 0 σ H1)
    (hs : ∀ i σ H, i < n → Pv i σ H → gName j (.int (0 + (i : Nat) * c)) σ H fun σ2 H2 => tb { D with nx := Pv (i + 1), ct := Pv (i + 1), bk := D.nx } σ2 H2) (hd : ∀ σ H, Pv n σ H → D.nx σ H) : tFor (iRng3 ta) (gName j) tb D σ H :=
  h H (Same.refl _) _ fun H1 e1 => ⟨0, m, c, n, rfl, hr, for_rangeC Pv (h0 H1 e1) hs hd⟩
theorem ok_law (G : Gx K mg) {fd : FuncData} (F : FunD K "law" "law" (defArgs s_law) (defBody s_law) (defScope s_law) [] [] (He.ga K "law") fd) : FnG P w K mg base CX0 17 (He.ga K "law") fd ["_law_script"] (spLaw K) := by
  have sc := sc_law
  obtain ⟨fdb, k_law_block, bb, kb, gb⟩ := ok_law_block (P := P) (w := w) (base := base) G
  refine okG F sc (fun vs H Q E h => ?_) (fun cdv A outer s H vs Q E hgd hr h => ?_)
  · obtain ⟨a, ns, rfl, _⟩ := h; rfl
  · obtain ⟨a, ns, rfl, ha, q⟩ := h
    suffices hx : ∃ t', PSs (cxOf CX0 P w K mg base N_law "law" (defScope s_law) (He.ga K "law") cdv A outer s H E).nox (defBody s_law) t' ∧ t' { nx := fun _ H' => Q .non H', rt := Q } (start N_law [.ref a]) H by
      obtain ⟨t', h1, h2⟩ := hx
      exact ⟨t', h1.nox, h2⟩
    refine ⟨_, (pss_cons (ps_for PassesOwn.never rfl (pi_range3 rfl G.n_range (pa_cons pe_int (pa_cons (pe_callB (call_max2 rfl) (by rfl) G.n_max (by decide +kernel) (pa_cons pe_int (pa_cons (pe_callB (call_min2 rfl) (by rfl) G.n_min (by decide +kernel) (pa_cons pe_int (pa_cons (pe_callB call_len_seq (by rfl) G.n_len (by decide +kernel) (pa_cons (pv 0) pa_nil)) pa_nil))) pa_nil))) (pa_cons pe_int pa_nil)))) (pg_name (i := 1) sc.nd rfl (Or.inl rfl))
      (pss_one (ps_if (pt_not (pt_val (pe_callG k_law_block hgd (hr.mono (by decide)) rfl gb kb bb (pa_cons (pv 0) (pa_cons (pv 1) pa_nil)))))
      (pss_one (ps_ret pe_bl)) pss_nil)))
      (pss_one (ps_ret pe_bl))), ?_⟩
    obtain ⟨m, hm, em⟩ : ∃ m : Nat, m < 64 ∧ (if (if (ns.length : Int) < 63 then (ns.length : Int) else 63) > 1 then (if (ns.length : Int) < 63 then (ns.length : Int) else 63) else 1) = (m : Int) := by
      by_cases h1 : (ns.length : Int) < 63
      · rw [if_pos h1]
        by_cases h2 : (ns.length : Int) > 1
        · exact ⟨ns.length, by omega, by rw [if_pos h2]⟩
        · exact ⟨1, by omega, by rw [if_neg h2]; rfl⟩
      · rw [if_neg h1]
        exact ⟨63, by omega, rfl⟩
    obtain ⟨r1, r2⟩ := rng_ten m hm
    refine st_seq ?_
    refine w_forR3 (m := (m : Int)) (c := 10) (n := (m + 9) / 10) (pva_3 pv_c (pv_cb (pva_2 pv_c (pv_cb (v := .int (if (ns.length : Int) < 63 then (ns.length : Int) else 63)) (pva_2 pv_c (pv_len (n := ns.length) (pv_var rfl) (.inl ha) (by rw [List.length_map]))) fun H1 e Q q => ⟨63, _, rfl, q H1 (Same.refl _)⟩)) fun H1 e Q q => ⟨1, _, rfl, by rw [em]; exact q H1 (Same.refl _)⟩) pv_c) ⟨by decide, by decide, r1, r2⟩ (fun i σ H' => ∃ y, σ = [some (.ref a), y] ∧ Same H H') (fun H1 e1 => ⟨_, rfl, e1⟩) ?_ ?_
    · rintro i σ H2 hi ⟨y, rfl, e2⟩
      have ei : V.int (0 + ((i : Nat) : Int) * 10) = vn (i * 10) := congrArg V.int (by omega)
      show tIfS _ _ _ _ _ _
      rw [ei]
      refine ss_if (b := false) (pt_n (b := true) (pt_b (pv_call (v := .bl true) (pva_2 (pv_var rfl) (pv_var rfl)) fun H3 e Q q => ⟨a, ns, i * 10, rfl, SqL.mn (e2.trans e) ha, q⟩))) (fun H3 e h => nomatch h) fun H3 e3 _ => ⟨_, rfl, e2.trans e3⟩
    · rintro σ H2 ⟨y, rfl, e2⟩
      dsimp only
      exact ss_ret pv_c (q.mn e2)
theorem law_facts {h : Heap} {f : Addr} (X : K.In h) (Gn : h.Ns mainGlobals mg) (hfa : mg ("law" : Str) = some (.ref f)) (c : He.SaysD fa fn K) (e : exA K = true) :
    ∃ fd : FuncData, (∀ (s : Shared) (u : Value), BindsTo s fd ⟨[u], []⟩ [("_law_script", u)]) ∧ ∀ base : Heap, K.In base → base.Ns mainGlobals mg → FnG P w K mg base CX0 17 f fd ["_law_script"] (spLaw K) := by
  have G := Gx.of X Gn c e
  obtain ⟨g1, fd, F⟩ := G.f_law
  have e1 := hfa.symm.trans g1
  cases e1
  have b := FunD.bindsA (ps := ["_law_script"]) F fun _ _ _ _ _ _ us hl => match us, hl with | [_], _ => rfl
  exact ⟨fd, fun s v => b s [v] rfl, fun base _ _ => ok_law G F⟩
end
end Wd
set_option Elab.async false
set_option linter.all false
set_option maxRecDepth 100000
set_option maxHeartbeats 0
open PySem PySem.W PySem.Calls PyProof.Rows
theorem PySem.Challenge.cw_wishdeal_k70_whole_orders_part_holds : PySem.Challenge.rw_wishdeal_k70_whole_orders_part.Holds := by
  w_on; o_law
  refine HandSHeadRun.head_any (r := Wd.R) (q := PySem.W.view Wd.R.prog [Wd.lawAt]) (H := Wd.hookM) (ob := Wd.obM) (M := 9000) (loose := Wd.loose) (d := HandSHeadRun.topDef Wd.R.prog Wd.lawAt) (kwd := []) Wd.obM_eq
    (by kernel_rfl) (fun s => by kernel_rfl) Wd.run (by kernel_rfl) (by kernel_rfl) (by kernel_rfl) (by rfl) (by first | assumption | decide +kernel) (by decide +kernel) ⟨rfl, rfl, rfl, rfl, rfl, by decide +kernel⟩ ?hw ?hc
  case hw => w_witness2
  case hc =>
    refine Wd.walk_ofG (l := PySem.Challenge.rw_wishdeal_k70_whole_orders_part) (n := 63) (k := 17) (x := "_law_script") rfl (by decide) (by kernel_rfl) ⟨rfl, by decide, by decide⟩ ?F
    intro w mg fa h Y G hmg0
    obtain ⟨K, KX, c, e⟩ := Y
    have hmg : mg ("law" : PySem.Str) = some (.ref fa) := by
      have e : (HandSHeadRun.topDef Wd.R.prog Wd.lawAt).name = ("law" : PySem.Str) := by kernel_rfl
      rw [← e]
      exact hmg0
    obtain ⟨fd, hb, hF⟩ := Wd.law_facts (P := (PySem.Challenge.rw_wishdeal_k70_whole_orders_part).prog) (w := w) KX G hmg c e
    exact ⟨K, fd, Wd.spLaw K, KX, hb, fun H a ns hl _ hS => ⟨a, ns, rfl, hS, fun _ _ => rfl⟩, hF⟩
