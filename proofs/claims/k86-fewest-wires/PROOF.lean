import PyProof.Rows.All
import Wide.All
import OpenK.AllK
import Wide.FinOn
import PySem.Challenge.RW_stillarrives_k86_whole_the_fewest_wires
import KE.KStateDown
import HandS.Base
import HandS.Call
import HandS.Ends
import HandS.More
import HandS.Words
import HandS.WordsExc
import HandS.Defaults
import HandS.Head0
import HandS.Head1
import HandS.Head2
import HandS.HeadEnd
import HandS.HeadHook1
import HandS.HeadHook2
import HandS.ForMost
import KE.SortData
import KE.DatumMoreOrd
import KE.DatumIndex
import KE.SortLaws
import PyProof.TupleOfSeq
import PyProof.ReprRoads
import HandS.SortInts
import PyProof.EnumMake
import KE.GoesMore
import HandS.Walk
import HandS.TupSets
import HandS.SetFor
import HandS.DictComp
import HandS.IsInst
import HandS.Conv
import HandS.Star
import HandS.TupAny
import HandS.Zip
import HandS.Flow
import HandS.Exc

section
set_option Elab.async false
set_option linter.all false
set_option maxRecDepth 100000
set_option maxHeartbeats 0
/-! The head: the data of all defs, the top's run. -/
namespace K86
open PySem PySem.Spec PyProof.Rows L2
def top (i : Nat) : Stmt := PySem.Challenge.pw_stillarrives_k86_whole_the_fewest_wires.main.body.getD i (.Pass ⟨0, 0, 0, 0⟩)
abbrev s_steps_on : Stmt := top 1
abbrev n_steps_on : List Str := ["wires", "taken", "here", "found", "index", "tail", "head", "back"]
abbrev p_steps_on : List Str := ["wires", "taken", "here"]
abbrev s_comings : Stmt := top 2
abbrev n_comings : List Str := ["wires", "taken", "begin", "found", "rest", "here", "index", "house"]
abbrev p_comings : List Str := ["wires", "taken", "begin"]
abbrev s_one_way_more : Stmt := top 3
abbrev n_one_way_more : List Str := ["wires", "taken", "found", "begin", "goal", "late", "index", "here"]
abbrev p_one_way_more : List Str := ["wires", "taken", "found", "begin", "goal"]
abbrev s_taken_by : Stmt := top 4
abbrev n_taken_by : List Str := ["wires", "begin", "goal", "taken", "found"]
abbrev p_taken_by : List Str := ["wires", "begin", "goal"]
abbrev s_many_of : Stmt := top 5
abbrev n_many_of : List Str := ["wires", "taken", "begin", "leaving", "index"]
abbrev p_many_of : List Str := ["wires", "taken", "begin"]
abbrev s_greatest_side : Stmt := top 6
abbrev n_greatest_side : List Str := ["houses", "wires", "begin", "goal", "found", "house"]
abbrev p_greatest_side : List Str := ["houses", "wires", "begin", "goal"]
abbrev s_is_integer : Stmt := top 8
abbrev n_is_integer : List Str := ["thing"]
abbrev p_is_integer : List Str := ["thing"]
abbrev s_is_number : Stmt := top 9
abbrev n_is_number : List Str := ["thing"]
abbrev p_is_number : List Str := ["thing"]
abbrev s_is_name : Stmt := top 10
abbrev n_is_name : List Str := ["thing", "sign"]
abbrev p_is_name : List Str := ["thing"]
abbrev s_is_pair : Stmt := top 11
abbrev n_is_pair : List Str := ["thing"]
abbrev p_is_pair : List Str := ["thing"]
abbrev s_is_name_set : Stmt := top 12
abbrev n_is_name_set : List Str := ["thing", "one", "other"]
abbrev p_is_name_set : List Str := ["thing"]
abbrev s_is_houses : Stmt := top 13
abbrev n_is_houses : List Str := ["thing"]
abbrev p_is_houses : List Str := ["thing"]
abbrev s_is_wire_of : Stmt := top 14
abbrev n_is_wire_of : List Str := ["houses", "thing"]
abbrev p_is_wire_of : List Str := ["houses", "thing"]
abbrev s_entered_by : Stmt := top 16
abbrev n_entered_by : List Str := ["net", "lot", "inside", "house", "index", "wire"]
abbrev p_entered_by : List Str := ["net", "lot"]
abbrev s_net_of : Stmt := top 17
abbrev n_net_of : List Str := ["houses", "wires"]
abbrev p_net_of : List Str := ["houses", "wires"]
abbrev s_need : Stmt := top 25
abbrev n_need : List Str := ["is_right", "word", "at"]
abbrev p_need : List Str := ["is_right", "word", "at"]
abbrev s_are_two_tuples : Stmt := top 26
abbrev n_are_two_tuples : List Str := ["thing"]
abbrev p_are_two_tuples : List Str := ["thing"]
abbrev s_accept_houses : Stmt := top 27
abbrev n_accept_houses : List Str := ["houses", "known", "k", "house"]
abbrev p_accept_houses : List Str := ["houses"]
abbrev s_lets_net : Stmt := top 28
abbrev n_lets_net : List Str := ["thing", "houses", "wires", "known", "k", "wire"]
abbrev p_lets_net : List Str := ["thing"]
abbrev s_want : Stmt := top 30
abbrev n_want : List Str := ["is_right", "word", "at"]
abbrev p_want : List Str := ["is_right", "word", "at"]
abbrev s_want_net : Stmt := top 31
abbrev n_want_net : List Str := ["net"]
abbrev p_want_net : List Str := ["net"]
abbrev s_want_house : Stmt := top 32
abbrev n_want_house : List Str := ["net", "house", "word"]
abbrev p_want_house : List Str := ["net", "house", "word"]
abbrev s_want_root : Stmt := top 33
abbrev n_want_root : List Str := ["net", "root"]
abbrev p_want_root : List Str := ["net", "root"]
abbrev s_want_index : Stmt := top 34
abbrev n_want_index : List Str := ["net", "index"]
abbrev p_want_index : List Str := ["net", "index"]
abbrev s_want_wire : Stmt := top 35
abbrev n_want_wire : List Str := ["net", "wire"]
abbrev p_want_wire : List Str := ["net", "wire"]
abbrev s_alone_by : Stmt := top 37
abbrev n_alone_by : List Str := ["net", "root", "house"]
abbrev p_alone_by : List Str := ["net", "root", "house"]
abbrev s_others_of : Stmt := top 38
abbrev n_others_of : List Str := ["net", "root", "house"]
abbrev p_others_of : List Str := ["net", "root"]
abbrev s_narrow_by : Stmt := top 39
abbrev n_narrow_by : List Str := ["net", "root", "numbers", "house", "many"]
abbrev p_narrow_by : List Str := ["net", "root"]
abbrev s_pairs_by : Stmt := top 42
abbrev n_pairs_by : List Str := ["root", "many", "found", "house"]
abbrev p_pairs_by : List Str := ["root", "many"]
abbrev s_many_by : Stmt := top 43
abbrev n_many_by : List Str := ["net", "root", "k", "many", "house", "wide"]
abbrev p_many_by : List Str := ["net", "root", "k"]
abbrev s_more_by : Stmt := top 44
abbrev n_more_by : List Str := ["net", "root", "k"]
abbrev p_more_by : List Str := ["net", "root", "k"]
abbrev s_lots_by : Stmt := top 45
abbrev n_lots_by : List Str := ["net", "root", "wires", "wide", "lots", "head", "tail"]
abbrev p_lots_by : List Str := ["net", "root", "wires"]
abbrev s_want_wide : Stmt := top 46
abbrev n_want_wide : List Str := ["net", "root", "k"]
abbrev p_want_wide : List Str := ["net", "root", "k"]
abbrev s_fewest_more : Stmt := top 47
abbrev n_fewest_more : List Str := ["net", "root", "k"]
abbrev p_fewest_more : List Str := ["net", "root", "k"]
abbrev s_more_paper : Stmt := top 48
abbrev n_more_paper : List Str := ["net", "root", "k", "wires"]
abbrev p_more_paper : List Str := ["net", "root", "k"]
abbrev s_all_lots : Stmt := top 50
abbrev n_all_lots : List Str := ["net", "root", "found", "house", "lot"]
abbrev p_all_lots : List Str := ["net", "root"]
abbrev s_does_enter : Stmt := top 51
abbrev n_does_enter : List Str := ["wire", "lot"]
abbrev p_does_enter : List Str := ["wire", "lot"]
abbrev s_next_wire : Stmt := top 52
abbrev n_next_wire : List Str := ["net", "left", "spares", "met", "some", "index", "lot", "many"]
abbrev p_next_wire : List Str := ["net", "left", "spares", "met"]
abbrev s_grown_tree : Stmt := top 53
abbrev n_grown_tree : List Str := ["net", "root", "left", "k", "wires", "index", "spares", "wire", "lot", "many", "met", "found"]
abbrev p_grown_tree : List Str := ["net", "root", "left", "k"]
abbrev s_grown_bundle : Stmt := top 54
abbrev n_grown_bundle : List Str := ["net", "root", "k", "left", "found", "lap", "tree", "index"]
abbrev p_grown_bundle : List Str := ["net", "root", "k"]
abbrev s_want_many_trees : Stmt := top 57
abbrev n_want_many_trees : List Str := ["k", "least"]
abbrev p_want_many_trees : List Str := ["k", "least"]
abbrev s_bundle : Stmt := top 58
abbrev n_bundle : List Str := ["net", "root", "k"]
abbrev p_bundle : List Str := ["net", "root", "k"]
abbrev s_need_fault : Stmt := top 60
abbrev n_need_fault : List Str := ["thing", "k", "one"]
abbrev p_need_fault : List Str := ["thing"]
abbrev s_is_need : Stmt := top 61
abbrev n_is_need : List Str := ["thing"]
abbrev p_is_need : List Str := ["thing"]
abbrev s_size_in : Stmt := top 62
abbrev n_size_in : List Str := ["need"]
abbrev p_size_in : List Str := ["need"]
abbrev s_slack_in : Stmt := top 63
abbrev n_slack_in : List Str := ["need"]
abbrev p_slack_in : List Str := ["need"]
abbrev s_want_in : Stmt := top 64
abbrev n_want_in : List Str := ["need"]
abbrev p_want_in : List Str := ["need"]
abbrev s_want_need : Stmt := top 66
abbrev n_want_need : List Str := ["need"]
abbrev p_want_need : List Str := ["need"]
abbrev s_can_carry : Stmt := top 68
abbrev n_can_carry : List Str := ["net", "root", "need", "found"]
abbrev p_can_carry : List Str := ["net", "root", "need"]
abbrev s_is_lot : Stmt := top 70
abbrev n_is_lot : List Str := ["net", "root", "thing", "known", "house"]
abbrev p_is_lot : List Str := ["net", "root", "thing"]
abbrev s_wires_fault : Stmt := top 72
abbrev n_wires_fault : List Str := ["net", "root", "k", "wires", "j", "wire", "narrow"]
abbrev p_wires_fault : List Str := ["net", "root", "k", "wires"]
abbrev s_lots_fault : Stmt := top 73
abbrev n_lots_fault : List Str := ["net", "root", "k", "wires", "lots", "met", "j", "lot", "house", "lacking"]
abbrev p_lots_fault : List Str := ["net", "root", "k", "wires", "lots"]
abbrev s_more_fault : Stmt := top 74
abbrev n_more_fault : List Str := ["net", "root", "k", "thing", "word", "wires", "lots", "fault"]
abbrev p_more_fault : List Str := ["net", "root", "k", "thing"]
abbrev s_lets_more : Stmt := top 75
abbrev n_lets_more : List Str := ["net", "root", "k", "thing", "fault"]
abbrev p_lets_more : List Str := ["net", "root", "k", "thing"]
abbrev s_with_wire : Stmt := top 77
abbrev n_with_wire : List Str := ["net", "wire"]
abbrev p_with_wire : List Str := ["net", "wire"]
abbrev s_without_wire : Stmt := top 78
abbrev n_without_wire : List Str := ["net", "index", "k", "wire"]
abbrev p_without_wire : List Str := ["net", "index"]
abbrev s_width : Stmt := top 80
abbrev n_width : List Str := ["net", "root", "found"]
abbrev p_width : List Str := ["net", "root"]
abbrev s_L_feed : Stmt := top 82
abbrev n_L_feed : List Str := ["_law_script"]
abbrev p_L_feed : List Str := ["_law_script"]
abbrev s_L_draw : Stmt := top 83
abbrev n_L_draw : List Str := ["_law_feed_here", "_law_many", "_law_left", "_law_cells", "_law_at", "_law_cell", "_law_mixed"]
abbrev p_L_draw : List Str := ["_law_feed_here", "_law_many"]
abbrev s_L_names : Stmt := top 84
abbrev n_L_names : List Str := ["_law_feed_here", "_law_many", "_law_pool", "_law_found", "_law_turn", "_law_root"]
abbrev p_L_names : List Str := ["_law_feed_here", "_law_many"]
abbrev s_L_grown : Stmt := top 85
abbrev n_L_grown : List Str := ["_law_feed_here", "_law_many", "_law_trees", "_law_more", "_law_houses", "_law_root", "_law_found", "_law_k", "_law_left", "_law_there", "_law_house", "_law_turn", "_law_tail", "_law_step", "_law_rows", "_law_tree", "_law_wire"]
abbrev p_L_grown : List Str := ["_law_feed_here", "_law_many", "_law_trees", "_law_more"]
abbrev s_L_others : Stmt := top 86
abbrev n_L_others : List Str := ["_law_net_here", "_law_root", "_law_house"]
abbrev p_L_others : List Str := ["_law_net_here", "_law_root"]
abbrev s_L_lots : Stmt := top 87
abbrev n_L_lots : List Str := ["_law_net_here", "_law_root", "_law_lots_here", "_law_house", "_law_lot"]
abbrev p_L_lots : List Str := ["_law_net_here", "_law_root"]
abbrev s_L_entering : Stmt := top 88
abbrev n_L_entering : List Str := ["_law_net_here", "_law_lot", "_law_found", "_law_k"]
abbrev p_L_entering : List Str := ["_law_net_here", "_law_lot"]
abbrev s_L_width : Stmt := top 89
abbrev n_L_width : List Str := ["_law_net_here", "_law_root", "_law_counts", "_law_lot"]
abbrev p_L_width : List Str := ["_law_net_here", "_law_root"]
abbrev s_L_want : Stmt := top 90
abbrev n_L_want : List Str := ["_law_terms"]
abbrev p_L_want : List Str := ["_law_terms"]
abbrev s_L_net : Stmt := top 91
abbrev n_L_net : List Str := ["_law_feed_here", "_law_many", "_law_found", "_law_houses", "_law_root", "_law_wires", "_law_turn", "_law_tail", "_law_step"]
abbrev p_L_net : List Str := ["_law_feed_here"]
abbrev s_L_apart : Stmt := top 92
abbrev n_L_apart : List Str := ["_law_net_here", "_law_root", "_law_found", "_law_lot", "_law_more", "_law_some", "_law_used", "_law_one", "_law_house"]
abbrev p_L_apart : List Str := ["_law_net_here", "_law_root"]
abbrev s_L_lacking : Stmt := top 93
abbrev n_L_lacking : List Str := ["_law_net_here", "_law_lots_here", "_law_k", "_law_lot"]
abbrev p_L_lacking : List Str := ["_law_net_here", "_law_lots_here", "_law_k"]
abbrev s_L_are_more : Stmt := top 94
abbrev n_L_are_more : List Str := ["_law_net_here", "_law_root", "_law_k", "_law_wires", "_law_others_here", "_law_wire", "_law_house", "_law_late", "_law_wide"]
abbrev p_L_are_more : List Str := ["_law_net_here", "_law_root", "_law_k", "_law_wires"]
abbrev s_L_is_grown : Stmt := top 95
abbrev n_L_is_grown : List Str := ["_law_net_here", "_law_root", "_law_k", "_law_wires", "_law_late", "_law_step", "_law_wire", "_law_less"]
abbrev p_L_is_grown : List Str := ["_law_net_here", "_law_root", "_law_k", "_law_wires", "_law_late"]
abbrev s_L_is_paper : Stmt := top 96
abbrev n_L_is_paper : List Str := ["_law_net_here", "_law_root", "_law_k", "_law_paper", "_law_some", "_law_lots_here"]
abbrev p_L_is_paper : List Str := ["_law_net_here", "_law_root", "_law_k", "_law_paper"]
abbrev s_L_judged : Stmt := top 97
abbrev n_L_judged : List Str := ["_law_net_here", "_law_root", "_law_k", "_law_paper"]
abbrev p_L_judged : List Str := ["_law_net_here", "_law_root", "_law_k", "_law_paper"]
abbrev s_law : Stmt := top 98
abbrev n_law : List Str := ["_law_script", "_law_feed_here", "_law_net_here", "_law_root", "_law_k", "_law_terms", "_law_sums", "_law_lots_here", "_law_most", "_law_wires", "_law_late", "_law_paper", "_law_one"]
abbrev p_law : List Str := ["_law_script"]
def d_steps_on : He.DefD := ⟨("steps_on", none), "steps_on", "steps_on", defArgs s_steps_on, defBody s_steps_on, defScope s_steps_on, [], []⟩
def d_comings : He.DefD := ⟨("comings", none), "comings", "comings", defArgs s_comings, defBody s_comings, defScope s_comings, [], []⟩
def d_one_way_more : He.DefD := ⟨("one_way_more", none), "one_way_more", "one_way_more", defArgs s_one_way_more, defBody s_one_way_more, defScope s_one_way_more, [], []⟩
def d_taken_by : He.DefD := ⟨("taken_by", none), "taken_by", "taken_by", defArgs s_taken_by, defBody s_taken_by, defScope s_taken_by, [], []⟩
def d_many_of : He.DefD := ⟨("many_of", none), "many_of", "many_of", defArgs s_many_of, defBody s_many_of, defScope s_many_of, [], []⟩
def d_greatest_side : He.DefD := ⟨("greatest_side", none), "greatest_side", "greatest_side", defArgs s_greatest_side, defBody s_greatest_side, defScope s_greatest_side, [], []⟩
def d_is_integer : He.DefD := ⟨("is_integer", none), "is_integer", "is_integer", defArgs s_is_integer, defBody s_is_integer, defScope s_is_integer, [], []⟩
def d_is_number : He.DefD := ⟨("is_number", none), "is_number", "is_number", defArgs s_is_number, defBody s_is_number, defScope s_is_number, [], []⟩
def d_is_name : He.DefD := ⟨("is_name", none), "is_name", "is_name", defArgs s_is_name, defBody s_is_name, defScope s_is_name, [], []⟩
def d_is_pair : He.DefD := ⟨("is_pair", none), "is_pair", "is_pair", defArgs s_is_pair, defBody s_is_pair, defScope s_is_pair, [], []⟩
def d_is_name_set : He.DefD := ⟨("is_name_set", none), "is_name_set", "is_name_set", defArgs s_is_name_set, defBody s_is_name_set, defScope s_is_name_set, [], []⟩
def d_is_houses : He.DefD := ⟨("is_houses", none), "is_houses", "is_houses", defArgs s_is_houses, defBody s_is_houses, defScope s_is_houses, [], []⟩
def d_is_wire_of : He.DefD := ⟨("is_wire_of", none), "is_wire_of", "is_wire_of", defArgs s_is_wire_of, defBody s_is_wire_of, defScope s_is_wire_of, [], []⟩
def d_entered_by : He.DefD := ⟨("entered_by", none), "entered_by", "entered_by", defArgs s_entered_by, defBody s_entered_by, defScope s_entered_by, [], []⟩
def d_net_of : He.DefD := ⟨("net_of", none), "net_of", "net_of", defArgs s_net_of, defBody s_net_of, defScope s_net_of, [], []⟩
def d_need : He.DefD := ⟨("need", none), "need", "need", defArgs s_need, defBody s_need, defScope s_need, [.int (-1)], []⟩
def d_are_two_tuples : He.DefD := ⟨("are_two_tuples", none), "are_two_tuples", "are_two_tuples", defArgs s_are_two_tuples, defBody s_are_two_tuples, defScope s_are_two_tuples, [], []⟩
def d_accept_houses : He.DefD := ⟨("accept_houses", none), "accept_houses", "accept_houses", defArgs s_accept_houses, defBody s_accept_houses, defScope s_accept_houses, [], []⟩
def d_lets_net : He.DefD := ⟨("lets_net", none), "lets_net", "lets_net", defArgs s_lets_net, defBody s_lets_net, defScope s_lets_net, [], []⟩
def d_want : He.DefD := ⟨("want", none), "want", "want", defArgs s_want, defBody s_want, defScope s_want, [.int (-1)], []⟩
def d_want_net : He.DefD := ⟨("want_net", none), "want_net", "want_net", defArgs s_want_net, defBody s_want_net, defScope s_want_net, [], []⟩
def d_want_house : He.DefD := ⟨("want_house", none), "want_house", "want_house", defArgs s_want_house, defBody s_want_house, defScope s_want_house, [.str "house"], []⟩
def d_want_root : He.DefD := ⟨("want_root", none), "want_root", "want_root", defArgs s_want_root, defBody s_want_root, defScope s_want_root, [], []⟩
def d_want_index : He.DefD := ⟨("want_index", none), "want_index", "want_index", defArgs s_want_index, defBody s_want_index, defScope s_want_index, [], []⟩
def d_want_wire : He.DefD := ⟨("want_wire", none), "want_wire", "want_wire", defArgs s_want_wire, defBody s_want_wire, defScope s_want_wire, [], []⟩
def d_alone_by : He.DefD := ⟨("alone_by", none), "alone_by", "alone_by", defArgs s_alone_by, defBody s_alone_by, defScope s_alone_by, [], []⟩
def d_others_of : He.DefD := ⟨("others_of", none), "others_of", "others_of", defArgs s_others_of, defBody s_others_of, defScope s_others_of, [], []⟩
def d_narrow_by : He.DefD := ⟨("narrow_by", none), "narrow_by", "narrow_by", defArgs s_narrow_by, defBody s_narrow_by, defScope s_narrow_by, [], []⟩
def d_pairs_by : He.DefD := ⟨("pairs_by", none), "pairs_by", "pairs_by", defArgs s_pairs_by, defBody s_pairs_by, defScope s_pairs_by, [], []⟩
def d_many_by : He.DefD := ⟨("many_by", none), "many_by", "many_by", defArgs s_many_by, defBody s_many_by, defScope s_many_by, [], []⟩
def d_more_by : He.DefD := ⟨("more_by", none), "more_by", "more_by", defArgs s_more_by, defBody s_more_by, defScope s_more_by, [], []⟩
def d_lots_by : He.DefD := ⟨("lots_by", none), "lots_by", "lots_by", defArgs s_lots_by, defBody s_lots_by, defScope s_lots_by, [], []⟩
def d_want_wide : He.DefD := ⟨("want_wide", none), "want_wide", "want_wide", defArgs s_want_wide, defBody s_want_wide, defScope s_want_wide, [], []⟩
def d_fewest_more : He.DefD := ⟨("fewest_more", none), "fewest_more", "fewest_more", defArgs s_fewest_more, defBody s_fewest_more, defScope s_fewest_more, [], []⟩
def d_more_paper : He.DefD := ⟨("more_paper", none), "more_paper", "more_paper", defArgs s_more_paper, defBody s_more_paper, defScope s_more_paper, [], []⟩
def d_all_lots : He.DefD := ⟨("all_lots", none), "all_lots", "all_lots", defArgs s_all_lots, defBody s_all_lots, defScope s_all_lots, [], []⟩
def d_does_enter : He.DefD := ⟨("does_enter", none), "does_enter", "does_enter", defArgs s_does_enter, defBody s_does_enter, defScope s_does_enter, [], []⟩
def d_next_wire : He.DefD := ⟨("next_wire", none), "next_wire", "next_wire", defArgs s_next_wire, defBody s_next_wire, defScope s_next_wire, [], []⟩
def d_grown_tree : He.DefD := ⟨("grown_tree", none), "grown_tree", "grown_tree", defArgs s_grown_tree, defBody s_grown_tree, defScope s_grown_tree, [], []⟩
def d_grown_bundle : He.DefD := ⟨("grown_bundle", none), "grown_bundle", "grown_bundle", defArgs s_grown_bundle, defBody s_grown_bundle, defScope s_grown_bundle, [], []⟩
def d_want_many_trees : He.DefD := ⟨("want_many_trees", none), "want_many_trees", "want_many_trees", defArgs s_want_many_trees, defBody s_want_many_trees, defScope s_want_many_trees, [], []⟩
def d_bundle : He.DefD := ⟨("bundle", none), "bundle", "bundle", defArgs s_bundle, defBody s_bundle, defScope s_bundle, [], []⟩
def d_need_fault : He.DefD := ⟨("need_fault", none), "need_fault", "need_fault", defArgs s_need_fault, defBody s_need_fault, defScope s_need_fault, [], []⟩
def d_is_need : He.DefD := ⟨("is_need", none), "is_need", "is_need", defArgs s_is_need, defBody s_is_need, defScope s_is_need, [], []⟩
def d_size_in : He.DefD := ⟨("size_in", none), "size_in", "size_in", defArgs s_size_in, defBody s_size_in, defScope s_size_in, [], []⟩
def d_slack_in : He.DefD := ⟨("slack_in", none), "slack_in", "slack_in", defArgs s_slack_in, defBody s_slack_in, defScope s_slack_in, [], []⟩
def d_want_in : He.DefD := ⟨("want_in", none), "want_in", "want_in", defArgs s_want_in, defBody s_want_in, defScope s_want_in, [], []⟩
def d_want_need : He.DefD := ⟨("want_need", none), "want_need", "want_need", defArgs s_want_need, defBody s_want_need, defScope s_want_need, [], []⟩
def d_can_carry : He.DefD := ⟨("can_carry", none), "can_carry", "can_carry", defArgs s_can_carry, defBody s_can_carry, defScope s_can_carry, [], []⟩
def d_is_lot : He.DefD := ⟨("is_lot", none), "is_lot", "is_lot", defArgs s_is_lot, defBody s_is_lot, defScope s_is_lot, [], []⟩
def d_wires_fault : He.DefD := ⟨("wires_fault", none), "wires_fault", "wires_fault", defArgs s_wires_fault, defBody s_wires_fault, defScope s_wires_fault, [], []⟩
def d_lots_fault : He.DefD := ⟨("lots_fault", none), "lots_fault", "lots_fault", defArgs s_lots_fault, defBody s_lots_fault, defScope s_lots_fault, [], []⟩
def d_more_fault : He.DefD := ⟨("more_fault", none), "more_fault", "more_fault", defArgs s_more_fault, defBody s_more_fault, defScope s_more_fault, [], []⟩
def d_lets_more : He.DefD := ⟨("lets_more", none), "lets_more", "lets_more", defArgs s_lets_more, defBody s_lets_more, defScope s_lets_more, [], []⟩
def d_with_wire : He.DefD := ⟨("with_wire", none), "with_wire", "with_wire", defArgs s_with_wire, defBody s_with_wire, defScope s_with_wire, [], []⟩
def d_without_wire : He.DefD := ⟨("without_wire", none), "without_wire", "without_wire", defArgs s_without_wire, defBody s_without_wire, defScope s_without_wire, [], []⟩
def d_width : He.DefD := ⟨("width", none), "width", "width", defArgs s_width, defBody s_width, defScope s_width, [], []⟩
def d_L_feed : He.DefD := ⟨("_law_feed", none), "_law_feed", "_law_feed", defArgs s_L_feed, defBody s_L_feed, defScope s_L_feed, [], []⟩
def d_L_draw : He.DefD := ⟨("_law_draw", none), "_law_draw", "_law_draw", defArgs s_L_draw, defBody s_L_draw, defScope s_L_draw, [], []⟩
def d_L_names : He.DefD := ⟨("_law_names", none), "_law_names", "_law_names", defArgs s_L_names, defBody s_L_names, defScope s_L_names, [], []⟩
def d_L_grown : He.DefD := ⟨("_law_grown", none), "_law_grown", "_law_grown", defArgs s_L_grown, defBody s_L_grown, defScope s_L_grown, [], []⟩
def d_L_others : He.DefD := ⟨("_law_others", none), "_law_others", "_law_others", defArgs s_L_others, defBody s_L_others, defScope s_L_others, [], []⟩
def d_L_lots : He.DefD := ⟨("_law_lots", none), "_law_lots", "_law_lots", defArgs s_L_lots, defBody s_L_lots, defScope s_L_lots, [], []⟩
def d_L_entering : He.DefD := ⟨("_law_entering", none), "_law_entering", "_law_entering", defArgs s_L_entering, defBody s_L_entering, defScope s_L_entering, [], []⟩
def d_L_width : He.DefD := ⟨("_law_width", none), "_law_width", "_law_width", defArgs s_L_width, defBody s_L_width, defScope s_L_width, [], []⟩
def d_L_want : He.DefD := ⟨("_law_want", none), "_law_want", "_law_want", defArgs s_L_want, defBody s_L_want, defScope s_L_want, [], []⟩
def d_L_net : He.DefD := ⟨("_law_net", none), "_law_net", "_law_net", defArgs s_L_net, defBody s_L_net, defScope s_L_net, [], []⟩
def d_L_apart : He.DefD := ⟨("_law_apart", none), "_law_apart", "_law_apart", defArgs s_L_apart, defBody s_L_apart, defScope s_L_apart, [], []⟩
def d_L_lacking : He.DefD := ⟨("_law_lacking", none), "_law_lacking", "_law_lacking", defArgs s_L_lacking, defBody s_L_lacking, defScope s_L_lacking, [], []⟩
def d_L_are_more : He.DefD := ⟨("_law_are_more", none), "_law_are_more", "_law_are_more", defArgs s_L_are_more, defBody s_L_are_more, defScope s_L_are_more, [], []⟩
def d_L_is_grown : He.DefD := ⟨("_law_is_grown", none), "_law_is_grown", "_law_is_grown", defArgs s_L_is_grown, defBody s_L_is_grown, defScope s_L_is_grown, [], []⟩
def d_L_is_paper : He.DefD := ⟨("_law_is_paper", none), "_law_is_paper", "_law_is_paper", defArgs s_L_is_paper, defBody s_L_is_paper, defScope s_L_is_paper, [], []⟩
def d_L_judged : He.DefD := ⟨("_law_judged", none), "_law_judged", "_law_judged", defArgs s_L_judged, defBody s_L_judged, defScope s_L_judged, [], []⟩
def d_law : He.DefD := ⟨("law", none), "law", "law", defArgs s_law, defBody s_law, defScope s_law, [], []⟩
def fn0 : List He.DefD := [d_steps_on, d_comings, d_one_way_more, d_taken_by, d_many_of, d_greatest_side, d_is_integer, d_is_number, d_is_name, d_is_pair, d_is_name_set, d_is_houses, d_is_wire_of, d_entered_by, d_net_of, d_need, d_are_two_tuples, d_accept_houses, d_lets_net, d_want, d_want_net, d_want_house, d_want_root, d_want_index, d_want_wire, d_alone_by, d_others_of, d_narrow_by, d_pairs_by, d_many_by]
def fn1 : List He.DefD := [d_more_by, d_lots_by, d_want_wide, d_fewest_more, d_more_paper, d_all_lots, d_does_enter, d_next_wire, d_grown_tree, d_grown_bundle, d_want_many_trees, d_bundle, d_need_fault, d_is_need, d_size_in, d_slack_in, d_want_in, d_want_need, d_can_carry, d_is_lot, d_wires_fault, d_lots_fault, d_more_fault, d_lets_more, d_with_wire, d_without_wire, d_width, d_L_feed, d_L_draw, d_L_names]
def fn2 : List He.DefD := [d_L_grown, d_L_others, d_L_lots, d_L_entering, d_L_width, d_L_want, d_L_net, d_L_apart, d_L_lacking, d_L_are_more, d_L_is_grown, d_L_is_paper, d_L_judged, d_law]
def fnAll : List He.DefD := fn0 ++ fn1 ++ fn2
def fa0 : List He.Fa := [.glo "steps_on", .glo "comings", .glo "one_way_more", .glo "taken_by", .glo "many_of", .glo "greatest_side", .glo "is_integer", .glo "is_number", .glo "is_name", .glo "is_pair", .glo "is_name_set", .glo "is_houses", .glo "is_wire_of", .glo "entered_by", .glo "net_of", .glo "need", .glo "are_two_tuples", .glo "accept_houses", .glo "lets_net", .glo "want", .glo "want_net", .glo "want_house", .glo "want_root", .glo "want_index", .glo "want_wire", .glo "alone_by", .glo "others_of", .glo "narrow_by", .glo "pairs_by", .glo "many_by"]
def fa1 : List He.Fa := [.glo "more_by", .glo "lots_by", .glo "want_wide", .glo "fewest_more", .glo "more_paper", .glo "all_lots", .glo "does_enter", .glo "next_wire", .glo "grown_tree", .glo "grown_bundle", .glo "want_many_trees", .glo "bundle", .glo "need_fault", .glo "is_need", .glo "size_in", .glo "slack_in", .glo "want_in", .glo "want_need", .glo "can_carry", .glo "is_lot", .glo "wires_fault", .glo "lots_fault", .glo "more_fault", .glo "lets_more", .glo "with_wire", .glo "without_wire", .glo "width", .glo "_law_feed", .glo "_law_draw", .glo "_law_names"]
def fa2 : List He.Fa := [.glo "_law_grown", .glo "_law_others", .glo "_law_lots", .glo "_law_entering", .glo "_law_width", .glo "_law_want", .glo "_law_net", .glo "_law_apart", .glo "_law_lacking", .glo "_law_are_more", .glo "_law_is_grown", .glo "_law_is_paper", .glo "_law_judged", .glo "law", .free "len", .free "enumerate", .free "dict", .free "tuple", .free "isinstance", .free "int", .free "bool", .free "str", .free "all", .free "any", .free "zip", .free "sorted", .free "min", .free "max", .free "sum", .free "set"]
def fa3 : List He.Fa := [.free "list", .free "range", .free "repr", .int "MOST_WIDE" 9, .int "MOST_TREES" 9]
def faAll : List He.Fa := fa0 ++ fa1 ++ fa2 ++ fa3
def loose0 : List PySem.Str := ["steps_on", "comings", "one_way_more", "taken_by", "many_of", "greatest_side", "is_integer", "is_number", "is_name", "is_pair", "is_name_set", "is_houses", "is_wire_of", "entered_by", "net_of", "ArriveError", "PaperError", "NetError", "InvalidPaper", "NotUsable", "need", "are_two_tuples", "accept_houses", "lets_net", "want", "want_net", "want_house", "want_root", "want_index", "want_wire"]
def loose1 : List PySem.Str := ["alone_by", "others_of", "narrow_by", "MOST_WIDE", "pairs_by", "many_by", "more_by", "lots_by", "want_wide", "fewest_more", "more_paper", "all_lots", "does_enter", "next_wire", "grown_tree", "grown_bundle", "MOST_TREES", "want_many_trees", "bundle", "need_fault", "is_need", "size_in", "slack_in", "want_in", "want_need", "can_carry", "is_lot", "wires_fault", "lots_fault", "more_fault"]
def loose2 : List PySem.Str := ["lets_more", "with_wire", "without_wire", "width", "_law_feed", "_law_draw", "_law_names", "_law_grown", "_law_others", "_law_lots", "_law_entering", "_law_width", "_law_want", "_law_net", "_law_apart", "_law_lacking", "_law_are_more", "_law_is_grown", "_law_is_paper", "_law_judged"]
def looseAll : List PySem.Str := loose0 ++ loose1 ++ loose2
abbrev rowH : PySem.W.OpenRow := PySem.W.OpenLaw.row PySem.Challenge.rw_stillarrives_k86_whole_the_fewest_wires
abbrev hkH : PySem.W.Hook := He.hookD 2 faAll fnAll
def obH (s : PySem.W.SharedT) : He.AlD := He.obsDG 2 faAll fnAll (HandSHeadRun.getT s)
theorem obH_eq (s : PySem.W.SharedT) : obH s = hkH.obs s.abs := He.obsDG_eq (HandSHeadRun.getT_eq s)
theorem runH (w : World) : HandSHeadRun.RunEq rowH (PySem.W.view rowH.prog [98]) hkH obH 4000 looseAll w := by
  intro os
  kernel_rfl
end K86

end

section
set_option autoImplicit false
set_option linter.all false
/-! Wires that enter sets of houses; flows; the fewest wires more; trees that grow. Plain Lean. -/
namespace K86M

def b2 (b : Bool) : Int := if b = true then 1 else 0

/-! ### sums below a number -/
def sumTo (f : Nat → Int) : Nat → Int
  | 0 => 0
  | n + 1 => sumTo f n + f n

theorem sumTo_congr {f g : Nat → Int} : ∀ {n : Nat}, (∀ i, i < n → f i = g i) → sumTo f n = sumTo g n
  | 0, _ => rfl
  | n + 1, h => by
    unfold sumTo
    rw [sumTo_congr fun i hi => h i (Nat.lt_succ_of_lt hi), h n (Nat.lt_succ_self n)]
theorem sumTo_add (f g : Nat → Int) : ∀ n : Nat, sumTo (fun i => f i + g i) n = sumTo f n + sumTo g n
  | 0 => rfl
  | n + 1 => by
    unfold sumTo
    rw [sumTo_add f g n]
    omega
theorem sumTo_zero : ∀ n : Nat, sumTo (fun _ => 0) n = 0
  | 0 => rfl
  | n + 1 => by
    unfold sumTo
    rw [sumTo_zero n]
    rfl
theorem sumTo_neg (f : Nat → Int) : ∀ n : Nat, sumTo (fun i => - f i) n = - sumTo f n
  | 0 => rfl
  | n + 1 => by
    unfold sumTo
    rw [sumTo_neg f n]
    omega
theorem sumTo_le {f g : Nat → Int} : ∀ {n : Nat}, (∀ i, i < n → f i ≤ g i) → sumTo f n ≤ sumTo g n
  | 0, _ => Int.le_refl _
  | n + 1, h => by
    have h1 := sumTo_le (n := n) fun i hi => h i (Nat.lt_succ_of_lt hi)
    have h2 := h n (Nat.lt_succ_self n)
    unfold sumTo
    omega
/-- equal sums of terms, each at most the other: equal terms -/
theorem sumTo_eq_of_le {f g : Nat → Int} : ∀ {n : Nat}, (∀ i, i < n → f i ≤ g i) → sumTo f n = sumTo g n → ∀ i, i < n → f i = g i
  | 0, _, _, i, hi => absurd hi (Nat.not_lt_zero i)
  | n + 1, h, e, i, hi => by
    have h1 := sumTo_le (n := n) fun i hi => h i (Nat.lt_succ_of_lt hi)
    have h2 := h n (Nat.lt_succ_self n)
    unfold sumTo at e
    rcases Nat.lt_succ_iff_lt_or_eq.mp hi with hi | rfl
    · exact sumTo_eq_of_le (n := n) (fun i hi => h i (Nat.lt_succ_of_lt hi)) (by omega) i hi
    · omega
/-- a sum with one term changed -/
theorem sumTo_upd (f g : Nat → Int) (j : Nat) : ∀ {n : Nat}, j < n → (∀ i, i < n → i ≠ j → g i = f i) → sumTo g n = sumTo f n + (g j - f j)
  | 0, hj, _ => absurd hj (Nat.not_lt_zero j)
  | n + 1, hj, h => by
    unfold sumTo
    rcases Nat.lt_succ_iff_lt_or_eq.mp hj with hj | rfl
    · rw [sumTo_upd f g j hj fun i hi hne => h i (Nat.lt_succ_of_lt hi) hne, h n (Nat.lt_succ_self n) (by omega)]
      omega
    · rw [sumTo_congr fun i hi => h i (Nat.lt_succ_of_lt hi) (by omega)]
      omega
theorem sumTo_one {j : Nat} (f : Nat → Int) {n : Nat} (hj : j < n) : sumTo (fun i => if i = j then f i else 0) n = f j := by
  have h := sumTo_upd (fun _ => 0) (fun i => if i = j then f i else 0) j hj fun i _ hne => by simp [hne]
  rw [h, sumTo_zero]
  simp
/-- a sum over a list of indexes, none twice -/
theorem sum_keys (f : Nat → Int) (n : Nat) : ∀ ks : List Nat, ks.Nodup → (∀ i ∈ ks, i < n) → (ks.map f).sum = sumTo (fun i => if i ∈ ks then f i else 0) n
  | [], _, _ => by
    simp only [List.map_nil, List.sum_nil, List.not_mem_nil, if_false]
    rw [sumTo_zero]
  | k :: ks, nd, hb => by
    rw [List.nodup_cons] at nd
    rw [List.map_cons, List.sum_cons, sum_keys f n ks nd.2 fun i hi => hb i (List.mem_cons_of_mem _ hi), ← sumTo_one f (hb k (List.mem_cons_self ..)), ← sumTo_add]
    refine sumTo_congr fun i _ => ?_
    by_cases e : i = k
    · subst e
      simp [nd.1]
    · simp [e]
theorem sum_countP (p : Nat → Bool) : ∀ ks : List Nat, ((ks.countP p : Nat) : Int) = (ks.map fun i => b2 (p i)).sum
  | [] => rfl
  | k :: ks => by
    rw [List.countP_cons, List.map_cons, List.sum_cons, ← sum_countP p ks]
    unfold b2
    split <;> simp_all <;> omega

/-! ### wires told by functions -/
section
variable {α : Type} [DecidableEq α]
/-- does the wire enter S -/
def enters (S : α → Bool) (w : α × α) : Bool := S w.2 && !S w.1
def ent (S : α → Bool) (ws : List (α × α)) : Nat := ws.countP (enters S)

theorem ent_append (S : α → Bool) (a b : List (α × α)) : ent S (a ++ b) = ent S a + ent S b := List.countP_append
theorem ent_perm (S : α → Bool) {a b : List (α × α)} (p : a.Perm b) : ent S a = ent S b := p.countP_eq _
theorem ent_cons (S : α → Bool) (w : α × α) (ws : List (α × α)) : ent S (w :: ws) = ent S ws + (if enters S w = true then 1 else 0) := List.countP_cons
theorem ent_sub (S T : α → Bool) : ∀ ws : List (α × α), ent (fun x => S x && T x) ws + ent (fun x => S x || T x) ws ≤ ent S ws + ent T ws
  | [] => Nat.le_refl _
  | w :: ws => by
    have ih := ent_sub S T ws
    simp only [ent_cons]
    have h : (if enters (fun x => S x && T x) w = true then 1 else 0) + (if enters (fun x => S x || T x) w = true then 1 else 0) ≤ (if enters S w = true then 1 else 0) + (if enters T w = true then (1 : Nat) else 0) := by
      have h0 : ∀ a b c d : Bool, (if ((b && d) && !(a && c)) = true then 1 else 0) + (if ((b || d) && !(a || c)) = true then 1 else 0) ≤ (if (b && !a) = true then 1 else 0) + (if (d && !c) = true then (1 : Nat) else 0) := by decide
      exact h0 (S w.1) (S w.2) (T w.1) (T w.2)
    omega
theorem ent_congr {S T : α → Bool} : ∀ {ws : List (α × α)}, (∀ w ∈ ws, S w.1 = T w.1 ∧ S w.2 = T w.2) → ent S ws = ent T ws
  | [], _ => rfl
  | w :: ws, h => by
    rw [ent_cons, ent_cons, ent_congr fun v hv => h v (List.mem_cons_of_mem _ hv)]
    have h1 := h w (List.mem_cons_self ..)
    unfold enters
    rw [h1.1, h1.2]

/-- all ends are houses -/
def Ends (hs : List α) (ws : List (α × α)) : Prop := ∀ w ∈ ws, w.1 ∈ hs ∧ w.2 ∈ hs
/-- each lot is entered by k or more -/
def Wide (hs : List α) (root : α) (ws : List (α × α)) (k : Nat) : Prop := ∀ S : α → Bool, S root = false → (∃ x ∈ hs, S x = true) → k ≤ ent S ws

/-! ### flows: n wires, i leads from tl i to hd i; t i: it is taken -/
variable (tl hd : Nat → α) (n : Nat)
/-- what flows out of S, less what flows in -/
def flow (S : α → Bool) (t : Nat → Bool) : Int := sumTo (fun i => if t i = true then b2 (S (tl i)) - b2 (S (hd i)) else 0) n
/-- how many wires enter S -/
def entN (S : α → Bool) : Int := sumTo (fun i => b2 (enters S (tl i, hd i))) n
def at1 (v : α) : α → Bool := fun x => decide (x = v)

theorem b2_le (a b : Bool) : - (b2 a - b2 b) ≤ b2 (b && !a) := by
  cases a <;> cases b <;> decide
theorem b2_nonneg (a : Bool) : 0 ≤ b2 a := by cases a <;> decide
theorem b2_le_one (a : Bool) : b2 a ≤ 1 := by cases a <;> decide
theorem flow_le (S : α → Bool) (t : Nat → Bool) : - flow tl hd n S t ≤ entN tl hd n S := by
  unfold flow entN
  rw [← sumTo_neg]
  refine sumTo_le fun i _ => ?_
  unfold enters
  split
  · exact b2_le _ _
  · exact b2_nonneg _
/-- tight: each wire that enters is taken, none that leaves is -/
theorem flow_tight {S : α → Bool} {t : Nat → Bool} (h : - flow tl hd n S t = entN tl hd n S) : ∀ i, i < n → (enters S (tl i, hd i) = true → t i = true) ∧ (t i = true → S (tl i) = true → S (hd i) = true) := by
  unfold flow entN at h
  rw [← sumTo_neg] at h
  intro i hi
  have e := sumTo_eq_of_le (fun i _ => by
    unfold enters
    split
    · exact b2_le _ _
    · exact b2_nonneg _) h i hi
  unfold enters at e
  constructor
  · intro he
    have he' : (S (hd i) && !S (tl i)) = true := he
    cases ht : t i with
    | true => rfl
    | false =>
      rw [ht] at e
      simp only [Bool.false_eq_true, if_false, he'] at e
      exact absurd e (by decide)
  · intro ht hs
    rw [ht, if_pos rfl, hs] at e
    cases hh : S (hd i) with
    | true => rfl
    | false =>
      rw [hh] at e
      exact absurd e (by decide)
theorem tight_flow {S : α → Bool} {t : Nat → Bool} (h : ∀ i, i < n → (enters S (tl i, hd i) = true → t i = true) ∧ (t i = true → S (tl i) = true → S (hd i) = true)) : - flow tl hd n S t = entN tl hd n S := by
  unfold flow entN
  rw [← sumTo_neg]
  refine sumTo_congr fun i hi => ?_
  obtain ⟨h1, h2⟩ := h i hi
  unfold enters at h1 ⊢
  cases ht : t i with
  | true =>
    rw [ht] at h2
    have h2 := h2 rfl
    cases ha : S (tl i) <;> cases hb : S (hd i) <;> simp_all [b2]
  | false =>
    rw [ht] at h1
    cases ha : S (tl i) <;> cases hb : S (hd i) <;> simp_all [b2]
theorem flow_congr {S T : α → Bool} {t : Nat → Bool} (h : ∀ i, i < n → S (tl i) = T (tl i) ∧ S (hd i) = T (hd i)) : flow tl hd n S t = flow tl hd n T t := by
  unfold flow
  refine sumTo_congr fun i hi => ?_
  rw [(h i hi).1, (h i hi).2]
theorem flow_cons {v : α} {l : List α} (hv : v ∉ l) (t : Nat → Bool) : flow tl hd n (fun x => decide (x ∈ v :: l)) t = flow tl hd n (at1 v) t + flow tl hd n (fun x => decide (x ∈ l)) t := by
  unfold flow
  rw [← sumTo_add]
  refine sumTo_congr fun i _ => ?_
  have key : ∀ x : α, b2 (decide (x ∈ v :: l)) = b2 (at1 v x) + b2 (decide (x ∈ l)) := by
    intro x
    unfold at1 b2
    by_cases e : x = v
    · subst e
      simp [hv]
    · simp [e]
  split
  · (try dsimp only)
    rw [key, key]
    (try dsimp only)
    omega
  · rfl
theorem flow_nil (t : Nat → Bool) : flow tl hd n (fun x => decide (x ∈ ([] : List α))) t = 0 := by
  unfold flow
  refine (sumTo_congr fun i _ => ?_).trans (sumTo_zero n)
  simp [b2]
/-- the flow out of a list of houses is the sum of theirs -/
theorem flow_list (t : Nat → Bool) : ∀ l : List α, l.Nodup → flow tl hd n (fun x => decide (x ∈ l)) t = (l.map fun v => flow tl hd n (at1 v) t).sum
  | [], _ => by rw [flow_nil]; rfl
  | v :: l, nd => by
    rw [List.nodup_cons] at nd
    rw [flow_cons tl hd n nd.1, flow_list t l nd.2, List.map_cons, List.sum_cons]
theorem sum_zero {β : Type} {f : β → Int} : ∀ {l : List β}, (∀ v ∈ l, f v = 0) → (l.map f).sum = 0
  | [], _ => rfl
  | v :: l, h => by
    rw [List.map_cons, List.sum_cons, h v (List.mem_cons_self ..), sum_zero fun u hu => h u (List.mem_cons_of_mem _ hu)]
    rfl
theorem sum_single {β : Type} [DecidableEq β] {f : β → Int} {g : β} : ∀ {l : List β}, l.Nodup → g ∈ l → (∀ v ∈ l, v ≠ g → f v = 0) → (l.map f).sum = f g
  | [], _, hg, _ => by cases hg
  | v :: l, nd, hg, h => by
    rw [List.nodup_cons] at nd
    rw [List.map_cons, List.sum_cons]
    by_cases e : v = g
    · subst e
      rw [sum_zero fun u hu => h u (List.mem_cons_of_mem _ hu) fun z => nd.1 (z ▸ hu)]
      omega
    · rw [h v (List.mem_cons_self ..) e, sum_single nd.2 ((List.mem_cons.mp hg).resolve_left fun z => e z.symm) fun u hu => h u (List.mem_cons_of_mem _ hu)]
      omega
theorem sum_pair {β : Type} [DecidableEq β] {f : β → Int} {a b : β} (hab : a ≠ b) : ∀ {l : List β}, l.Nodup → a ∈ l → b ∈ l → (∀ v ∈ l, v ≠ a → v ≠ b → f v = 0) → (l.map f).sum = f a + f b
  | [], _, hg, _, _ => by cases hg
  | v :: l, nd, ha, hb, h => by
    rw [List.nodup_cons] at nd
    rw [List.map_cons, List.sum_cons]
    by_cases e : v = a
    · subst e
      rw [sum_single nd.2 ((List.mem_cons.mp hb).resolve_left fun z => hab z.symm) fun u hu hne => h u (List.mem_cons_of_mem _ hu) (fun z => nd.1 (z ▸ hu)) hne]
    · by_cases e2 : v = b
      · subst e2
        rw [sum_single nd.2 ((List.mem_cons.mp ha).resolve_left fun z => hab z) fun u hu hne => h u (List.mem_cons_of_mem _ hu) hne fun z => nd.1 (z ▸ hu)]
        omega
      · rw [h v (List.mem_cons_self ..) e e2, sum_pair hab nd.2 ((List.mem_cons.mp ha).resolve_left fun z => e z.symm) ((List.mem_cons.mp hb).resolve_left fun z => e2 z.symm) fun u hu => h u (List.mem_cons_of_mem _ hu)]
        omega

/-- what is taken flows from a to b -/
def Flows (hs : List α) (a b : α) (t : Nat → Bool) : Prop := ∀ v ∈ hs, v ≠ a → v ≠ b → flow tl hd n (at1 v) t = 0
variable {hs : List α} {a b : α} {t : Nat → Bool}
theorem flow_all (he : ∀ i, i < n → tl i ∈ hs ∧ hd i ∈ hs) : flow tl hd n (fun x => decide (x ∈ hs)) t = 0 := by
  unfold flow
  refine (sumTo_congr fun i hi => ?_).trans (sumTo_zero n)
  simp [(he i hi).1, (he i hi).2]
/-- the same flows into each lot of b -/
theorem flow_cut (nd : hs.Nodup) (ha : a ∈ hs) (hb : b ∈ hs) (hab : a ≠ b) (he : ∀ i, i < n → tl i ∈ hs ∧ hd i ∈ hs) (hf : Flows tl hd n hs a b t) {S : α → Bool} (sa : S a = false) (sb : S b = true) :
    - flow tl hd n S t = flow tl hd n (at1 a) t := by
  have e1 : flow tl hd n S t = flow tl hd n (fun x => decide (x ∈ hs.filter S)) t := flow_congr tl hd n fun i hi => by
    constructor
    · cases h : S (tl i) <;> simp [h, (he i hi).1]
    · cases h : S (hd i) <;> simp [h, (he i hi).2]
  have nd2 : (hs.filter S).Nodup := nd.sublist List.filter_sublist
  have e2 := flow_list tl hd n t (hs.filter S) nd2
  have e3 : ((hs.filter S).map fun v => flow tl hd n (at1 v) t).sum = flow tl hd n (at1 b) t := sum_single nd2 (List.mem_filter.mpr ⟨hb, sb⟩) fun v hv hne => by
    obtain ⟨h1, h2⟩ := List.mem_filter.mp hv
    refine hf v h1 (fun z => ?_) hne
    subst z
    rw [sa] at h2
    cases h2
  have e4 := flow_list tl hd n t hs nd
  have e5 := sum_pair (f := fun v => flow tl hd n (at1 v) t) hab nd ha hb fun v hv h1 h2 => hf v hv h1 h2
  have e6 := flow_all tl hd n (t := t) he
  omega

/-! ### ways found from the first house: v, and by which wire -/
/-- from u to v by i: along a free wire, back along a taken one -/
def Step (t : Nat → Bool) (u v : α) (i : Nat) : Prop := i < n ∧ ((t i = false ∧ tl i = u ∧ hd i = v) ∨ (t i = true ∧ hd i = u ∧ tl i = v))
inductive Grown (t : Nat → Bool) (a : α) : List (α × Option Nat) → Prop
  | start : Grown t a [(a, none)]
  | more {l : List (α × Option Nat)} {u v : α} {i : Nat} : Grown t a l → v ∉ l.map (·.1) → u ∈ l.map (·.1) → Step tl hd n t u v i → Grown t a (l ++ [(v, some i)])
theorem Grown.first {l : List (α × Option Nat)} (g : Grown tl hd n t a l) : a ∈ l.map (·.1) := by
  induction g with
  | start => simp
  | more _ _ _ _ ih => rw [List.map_append]; exact List.mem_append_left _ ih
theorem Grown.nodup {l : List (α × Option Nat)} (g : Grown tl hd n t a l) : (l.map (·.1)).Nodup := by
  induction g with
  | start => simp
  | more _ h _ _ ih =>
    rw [List.map_append, List.nodup_append]
    refine ⟨ih, by simp, fun x hx y hy e => ?_⟩
    simp only [List.map_cons, List.map_nil, List.mem_singleton] at hy
    subst e hy
    exact h hx
/-- a found house: the first one, or with a step from one found ahead of it -/
theorem Grown.back {l : List (α × Option Nat)} (g : Grown tl hd n t a l) {v : α} (hv : v ∈ l.map (·.1)) (hva : v ≠ a) :
    ∃ pre post i u, l = pre ++ (v, some i) :: post ∧ Grown tl hd n t a pre ∧ v ∉ pre.map (·.1) ∧ u ∈ pre.map (·.1) ∧ Step tl hd n t u v i := by
  induction g with
  | start =>
    simp only [List.map_cons, List.map_nil, List.mem_singleton] at hv
    exact absurd hv hva
  | @more l u w i g hw hu hs ih =>
    by_cases e : v ∈ l.map (·.1)
    · obtain ⟨pre, post, j, u', e1, g1, h1, h2, h3⟩ := ih e
      exact ⟨pre, post ++ [(w, some i)], j, u', by rw [e1]; simp, g1, h1, h2, h3⟩
    · rw [List.map_append, List.mem_append] at hv
      rcases hv with hv | hv
      · exact absurd hv e
      · simp only [List.map_cons, List.map_nil, List.mem_singleton] at hv
        subst hv
        exact ⟨l, [], i, u, rfl, g, hw, hu, hs⟩
theorem Grown.mem {l : List (α × Option Nat)} (g : Grown tl hd n t a l) {v : α} {i : Nat} (h : (v, some i) ∈ l) : ∃ u, u ∈ l.map (·.1) ∧ Step tl hd n t u v i := by
  induction g with
  | start => simp at h
  | @more l u w j g hw hu hs ih =>
    rcases List.mem_append.mp h with h | h
    · obtain ⟨u', h1, h2⟩ := ih h
      exact ⟨u', by rw [List.map_append]; exact List.mem_append_left _ h1, h2⟩
    · rw [List.mem_singleton] at h
      injection h with e1 e2
      injection e2 with e2
      subst e1 e2
      exact ⟨u, by rw [List.map_append]; exact List.mem_append_left _ hu, hs⟩
/-- nothing is left to be found -/
def Shut (t : Nat → Bool) (l : List (α × Option Nat)) : Prop := ∀ u v i, u ∈ l.map (·.1) → Step tl hd n t u v i → v ∈ l.map (·.1)
theorem Grown.within {l l' : List (α × Option Nat)} (g : Grown tl hd n t a l) (h' : a ∈ l'.map (·.1)) (c : Shut tl hd n t l') : ∀ v ∈ l.map (·.1), v ∈ l'.map (·.1) := by
  induction g with
  | start =>
    intro v hv
    simp only [List.map_cons, List.map_nil, List.mem_singleton] at hv
    rw [hv]
    exact h'
  | @more l u w i g hw hu hs ih =>
    intro v hv
    rw [List.map_append, List.mem_append] at hv
    rcases hv with hv | hv
    · exact ih v hv
    · simp only [List.map_cons, List.map_nil, List.mem_singleton] at hv
      subst hv
      exact c _ _ _ (ih _ hu) hs

/-- the houses not found are a lot through which all that enters is taken -/
theorem shut_tight {l : List (α × Option Nat)} (c : Shut tl hd n t l) : - flow tl hd n (fun x => decide (x ∉ l.map (·.1))) t = entN tl hd n (fun x => decide (x ∉ l.map (·.1))) := by
  refine tight_flow tl hd n fun i hi => ⟨fun he => ?_, fun ht hs => ?_⟩
  · unfold enters at he
    simp only [Bool.and_eq_true, decide_eq_true_eq, Bool.not_eq_true', decide_eq_false_iff_not, Decidable.not_not] at he
    cases ht : t i with
    | true => rfl
    | false => exact absurd (c (tl i) (hd i) i he.2 ⟨hi, .inl ⟨ht, rfl, rfl⟩⟩) he.1
  · simp only [decide_eq_true_eq] at hs ⊢
    exact fun z => hs (c (hd i) (tl i) i z ⟨hi, .inr ⟨ht, rfl, rfl⟩⟩)
/-- no house of a tight lot is found -/
theorem tight_unfound {l : List (α × Option Nat)} (g : Grown tl hd n t a l) {S : α → Bool} (sa : S a = false) (h : - flow tl hd n S t = entN tl hd n S) : ∀ v ∈ l.map (·.1), S v = false := by
  have q := flow_tight tl hd n h
  induction g with
  | start =>
    intro v hv
    simp only [List.map_cons, List.map_nil, List.mem_singleton] at hv
    rw [hv]
    exact sa
  | @more l u w i g hw hu hs ih =>
    intro v hv
    rw [List.map_append, List.mem_append] at hv
    rcases hv with hv | hv
    · exact ih v hv
    · simp only [List.map_cons, List.map_nil, List.mem_singleton] at hv
      subst hv
      have su := ih u hu
      obtain ⟨hi, ⟨ht, e1, e2⟩ | ⟨ht, e1, e2⟩⟩ := hs
      · cases sv : S v with
        | false => rfl
        | true =>
          have := (q i hi).1 (by
            unfold enters
            rw [e1, e2, su, sv]
            rfl)
          rw [ht] at this
          cases this
      · cases sv : S v with
        | false => rfl
        | true =>
          have := (q i hi).2 ht (by rw [e2]; exact sv)
          rw [e1, su] at this
          cases this

/-! ### one way more -/
/-- t with i turned over -/
def turnT (t : Nat → Bool) (i : Nat) : Nat → Bool := fun j => if j = i then !t i else t j
theorem flow_turn {u v : α} {i : Nat} {t0 : Nat → Bool} (h : Step tl hd n t0 u v i) (e : t i = t0 i) (S : α → Bool) : flow tl hd n S (turnT t i) = flow tl hd n S t + b2 (S u) - b2 (S v) := by
  obtain ⟨hi, h⟩ := h
  unfold flow
  rw [sumTo_upd (fun i => if t i = true then b2 (S (tl i)) - b2 (S (hd i)) else 0) (fun j => if turnT t i j = true then b2 (S (tl j)) - b2 (S (hd j)) else 0) i hi fun j _ hne => by
    unfold turnT
    rw [if_neg hne]]
  have e0 : turnT t i i = !t i := if_pos rfl
  rcases h with ⟨ht, e1, e2⟩ | ⟨ht, e1, e2⟩
  · rw [e0, e, ht, e1, e2]
    simp
    omega
  · rw [e0, e, ht, e1, e2]
    simp
    omega
/-- on the way back from b: at here; what is late now -/
structure Way (t : Nat → Bool) (a b : α) (l : List (α × Option Nat)) (late : Nat → Bool) (here : α) (m : Nat) : Prop where
  ex : ∃ pre post, l = pre ++ post ∧ pre.length = m ∧ Grown tl hd n t a pre ∧ here ∈ pre.map (·.1) ∧ (∀ v i, (v, some i) ∈ pre → late i = t i)
  fl : ∀ S : α → Bool, flow tl hd n S late = flow tl hd n S t + b2 (S here) - b2 (S b)
theorem Way.start {l : List (α × Option Nat)} (g : Grown tl hd n t a l) (hb : b ∈ l.map (·.1)) : Way tl hd n t a b l t b l.length :=
  ⟨⟨l, [], by simp, rfl, g, hb, fun _ _ _ => rfl⟩, fun S => by omega⟩
theorem Way.step {l : List (α × Option Nat)} {late : Nat → Bool} {here : α} {m : Nat} (w : Way tl hd n t a b l late here m) (hne : here ≠ a) :
    ∃ i u m', (here, some i) ∈ l ∧ Step tl hd n t u here i ∧ late i = t i ∧ m' < m ∧ Way tl hd n t a b l (turnT late i) u m' := by
  obtain ⟨⟨pre, post, e, em, g, hh, ha⟩, hf⟩ := w
  obtain ⟨p1, p2, i, u, e1, g1, h1, h2, h3⟩ := g.back tl hd n hh hne
  have hmem : (here, some i) ∈ pre := by rw [e1]; simp
  have hlate := ha here i hmem
  refine ⟨i, u, p1.length, by rw [e]; exact List.mem_append_left _ hmem, h3, hlate, ?_, ⟨p1, (here, some i) :: p2 ++ post, by rw [e, e1]; simp, rfl, g1, h2, fun v j hv => ?_⟩, fun S => ?_⟩
  · rw [← em, e1, List.length_append, List.length_cons]
    omega
  · have hj : j ≠ i := fun z => by
      subst z
      obtain ⟨u', _, s'⟩ := g1.mem tl hd n hv
      have hvh : v = here := by
        obtain ⟨_, ⟨t1, _, x1⟩ | ⟨t1, _, x1⟩⟩ := s' <;> obtain ⟨_, ⟨t2, _, x2⟩ | ⟨t2, _, x2⟩⟩ := h3
        · exact x1.symm.trans x2
        · rw [t1] at t2; cases t2
        · rw [t1] at t2; cases t2
        · exact x1.symm.trans x2
      subst hvh
      exact h1 (List.mem_map.mpr ⟨_, hv, rfl⟩)
    unfold turnT
    rw [if_neg hj]
    exact ha v j (by rw [e1]; exact List.mem_append_left _ hv)
  · rw [flow_turn tl hd n h3 hlate S, hf S]
    omega
/-- at the first house again: one more flows -/
theorem Way.done {l : List (α × Option Nat)} {late : Nat → Bool} {m : Nat} (w : Way tl hd n t a b l late a m) (hf : Flows tl hd n hs a b t) (hab : a ≠ b) :
    Flows tl hd n hs a b late ∧ flow tl hd n (at1 a) late = flow tl hd n (at1 a) t + 1 := by
  refine ⟨fun v hv h1 h2 => ?_, ?_⟩
  · rw [w.fl, hf v hv h1 h2]
    simp [at1, b2, Ne.symm h1, Ne.symm h2]
  · rw [w.fl]
    simp [at1, b2, Ne.symm hab]
/-- at most as much flows as there are wires -/
theorem flow_bound (S : α → Bool) (t : Nat → Bool) : flow tl hd n S t ≤ n := by
  have h : ∀ m : Nat, sumTo (fun _ => (1 : Int)) m = m := by
    intro m
    induction m with
    | zero => rfl
    | succ m ih => unfold sumTo; rw [ih]; omega
  have h2 : flow tl hd n S t ≤ sumTo (fun _ => 1) n := sumTo_le fun i _ => by
    have h1 := b2_le_one (S (tl i))
    have h2 := b2_nonneg (S (hd i))
    split <;> omega
  rw [h] at h2
  exact h2
end
end K86M

end

section
set_option autoImplicit false
set_option linter.all false
/-! The least number of wires that enter a lot of a house, by a flow; the fewest wires more. Plain Lean. -/
namespace K86M
section
variable {α : Type} [DecidableEq α] [Inhabited α]

theorem sumTo_shift (f : Nat → Int) : ∀ n : Nat, sumTo f (n + 1) = f 0 + sumTo (fun i => f (i + 1)) n
  | 0 => by
    show 0 + f 0 = f 0 + 0
    omega
  | n + 1 => by
    show sumTo f (n + 1) + f (n + 1) = f 0 + (sumTo (fun i => f (i + 1)) n + f (n + 1))
    rw [sumTo_shift f n]
    omega
theorem sumTo_list {β : Type} (f : β → Int) (d : β) : ∀ ws : List β, sumTo (fun i => f (ws.getD i d)) ws.length = (ws.map f).sum
  | [] => rfl
  | w :: ws => by
    rw [List.length_cons, sumTo_shift, List.map_cons, List.sum_cons, ← sumTo_list f d ws]
    rfl
/-- where the i-th wire leads from, to -/
def tlW (ws : List (α × α)) (i : Nat) : α := (ws.getD i (default, default)).1
def hdW (ws : List (α × α)) (i : Nat) : α := (ws.getD i (default, default)).2
theorem tlW_at {ws : List (α × α)} {i : Nat} {a b : α} (h : ws[i]? = some (a, b)) : tlW ws i = a := by
  unfold tlW
  rw [List.getD_eq_getElem?_getD, h]
  rfl
theorem hdW_at {ws : List (α × α)} {i : Nat} {a b : α} (h : ws[i]? = some (a, b)) : hdW ws i = b := by
  unfold hdW
  rw [List.getD_eq_getElem?_getD, h]
  rfl
theorem at_tlhd {ws : List (α × α)} {i : Nat} (h : i < ws.length) : ws[i]? = some (tlW ws i, hdW ws i) := by
  unfold tlW hdW
  rw [List.getD_eq_getElem?_getD, List.getElem?_eq_getElem h]
  rfl
theorem ent_sum (S : α → Bool) : ∀ ws : List (α × α), ((ent S ws : Nat) : Int) = (ws.map fun w => b2 (enters S w)).sum
  | [] => rfl
  | w :: ws => by
    rw [ent_cons, List.map_cons, List.sum_cons, ← ent_sum S ws]
    unfold b2
    split <;> simp_all <;> omega
theorem entN_ws (S : α → Bool) (ws : List (α × α)) : entN (tlW ws) (hdW ws) ws.length S = (ent S ws : Int) := by
  rw [ent_sum, ← sumTo_list (fun w => b2 (enters S w)) (default, default) ws]
  rfl
theorem ends_at {hs : List α} {ws : List (α × α)} (he : Ends hs ws) : ∀ i, i < ws.length → tlW ws i ∈ hs ∧ hdW ws i ∈ hs := fun i hi => he (tlW ws i, hdW ws i) (List.mem_of_getElem? (at_tlhd hi))

def isIn (lot : List α) : α → Bool := fun x => decide (x ∈ lot)
theorem isIn_iff {lot : List α} {x : α} : isIn lot x = true ↔ x ∈ lot := decide_eq_true_iff
theorem isIn_no {lot : List α} {x : α} : isIn lot x = false ↔ x ∉ lot := decide_eq_false_iff_not
theorem isIn_filter {hs : List α} {S : α → Bool} {x : α} (h : x ∈ hs) : isIn (hs.filter S) x = S x := by
  unfold isIn
  cases e : S x <;> simp [h, e]
theorem ent_filter {hs : List α} {ws : List (α × α)} (he : Ends hs ws) (S : α → Bool) : ent (isIn (hs.filter S)) ws = ent S ws := ent_congr fun w hw => ⟨isIn_filter (he w hw).1, isIn_filter (he w hw).2⟩

/-- the least number of wires that enter a lot of h is m -/
structure MinOf (ws : List (α × α)) (root h : α) (m : Nat) : Prop where
  ex : ∃ S : α → Bool, S root = false ∧ S h = true ∧ ent S ws = m
  le : ∀ S : α → Bool, S root = false → S h = true → m ≤ ent S ws
theorem MinOf.one {ws : List (α × α)} {root h : α} {m m' : Nat} (a : MinOf ws root h m) (b : MinOf ws root h m') : m = m' := by
  obtain ⟨S, h1, h2, h3⟩ := a.ex
  obtain ⟨T, g1, g2, g3⟩ := b.ex
  have := b.le S h1 h2
  have := a.le T g1 g2
  omega
theorem MinOf.perm {ws ws' : List (α × α)} {root h : α} {m : Nat} (p : ws.Perm ws') (a : MinOf ws root h m) : MinOf ws' root h m := by
  obtain ⟨S, h1, h2, h3⟩ := a.ex
  exact ⟨⟨S, h1, h2, by rw [← h3, ent_perm S p]⟩, fun T g1 g2 => by rw [← ent_perm T p]; exact a.le T g1 g2⟩
/-- the greatest lot of h that is entered by as few wires as one can be -/
structure Great (hs : List α) (ws : List (α × α)) (root h : α) (lot : List α) : Prop where
  eq : lot = hs.filter (isIn lot)
  out : root ∉ lot
  mem : h ∈ lot
  min : MinOf ws root h (ent (isIn lot) ws)
  all : ∀ S : α → Bool, S root = false → S h = true → ent S ws = ent (isIn lot) ws → ∀ x ∈ hs, S x = true → x ∈ lot

/-- what is taken: indexes of wires, none twice -/
structure Taken (hs : List α) (ws : List (α × α)) (a b : α) (ks : List Nat) : Prop where
  nd : ks.Nodup
  lt : ∀ i ∈ ks, i < ws.length
  fl : Flows (tlW ws) (hdW ws) ws.length hs a b (fun i => decide (i ∈ ks))
def valueOf (ws : List (α × α)) (a : α) (ks : List Nat) : Int := flow (tlW ws) (hdW ws) ws.length (at1 a) fun i => decide (i ∈ ks)
theorem Taken.nil (hs : List α) (ws : List (α × α)) (a b : α) : Taken hs ws a b [] := by
  refine ⟨List.nodup_nil, fun i hi => (List.not_mem_nil hi).elim, fun v _ _ _ => ?_⟩
  unfold flow
  exact (sumTo_congr fun i _ => by simp).trans (sumTo_zero _)
/-- as the program counts it -/
theorem valueOf_count (ws : List (α × α)) (a : α) {ks : List Nat} (nd : ks.Nodup) (lt : ∀ i ∈ ks, i < ws.length) :
    valueOf ws a ks = ((ks.filter fun i => decide (tlW ws i = a)).length : Int) - ((ks.filter fun i => decide (hdW ws i = a)).length : Int) := by
  have e := sum_keys (fun i => b2 (at1 a (tlW ws i)) - b2 (at1 a (hdW ws i))) ws.length ks nd lt
  unfold valueOf flow
  have e2 : sumTo (fun i => if decide (i ∈ ks) = true then b2 (at1 a (tlW ws i)) - b2 (at1 a (hdW ws i)) else 0) ws.length = sumTo (fun i => if i ∈ ks then b2 (at1 a (tlW ws i)) - b2 (at1 a (hdW ws i)) else 0) ws.length := sumTo_congr fun i _ => by simp
  rw [e2, ← e]
  have h : ∀ l : List Nat, (l.map fun i => b2 (at1 a (tlW ws i)) - b2 (at1 a (hdW ws i))).sum = ((l.filter fun i => decide (tlW ws i = a)).length : Int) - ((l.filter fun i => decide (hdW ws i = a)).length : Int) := by
    intro l
    induction l with
    | nil => rfl
    | cons k l ih =>
      rw [List.map_cons, List.sum_cons, ih, List.filter_cons, List.filter_cons]
      unfold at1 b2
      by_cases h1 : tlW ws k = a <;> by_cases h2 : hdW ws k = a <;> simp [h1, h2] <;> omega
  exact h ks
section
variable {hs : List α} {ws : List (α × α)} {a b : α} {ks : List Nat} {l : List (α × Option Nat)}
theorem Taken.min (T : Taken hs ws a b ks) (nd : hs.Nodup) (ha : a ∈ hs) (hb : b ∈ hs) (hab : a ≠ b) (he : Ends hs ws) (c : Shut (tlW ws) (hdW ws) ws.length (fun i => decide (i ∈ ks)) l) (g : Grown (tlW ws) (hdW ws) ws.length (fun i => decide (i ∈ ks)) a l)
    (hn : b ∉ l.map (·.1)) : ∃ m : Nat, valueOf ws a ks = m ∧ MinOf ws a b m ∧ ent (fun x => decide (x ∉ l.map (·.1))) ws = m := by
  have ea := ends_at he
  have cut := fun (S : α → Bool) (sa : S a = false) (sb : S b = true) => flow_cut (tlW ws) (hdW ws) ws.length nd ha hb hab ea T.fl sa sb
  have h0a : decide (a ∉ l.map (·.1)) = false := decide_eq_false fun z => z (g.first _ _ _)
  have h0b : decide (b ∉ l.map (·.1)) = true := decide_eq_true hn
  have e0 := shut_tight (tlW ws) (hdW ws) ws.length c
  rw [entN_ws] at e0
  have e1 := cut (fun x => decide (x ∉ l.map (·.1))) h0a h0b
  have ev : valueOf ws a ks = (ent (fun x => decide (x ∉ l.map (·.1))) ws : Int) := e1.symm.trans e0
  refine ⟨_, ev, ⟨⟨_, h0a, h0b, rfl⟩, fun S sa sb => ?_⟩, rfl⟩
  have e2 := cut S sa sb
  have e3 := flow_le (tlW ws) (hdW ws) ws.length S fun i => decide (i ∈ ks)
  rw [entN_ws] at e3
  unfold valueOf at ev
  omega
theorem Taken.great (T : Taken hs ws a b ks) (nd : hs.Nodup) (ha : a ∈ hs) (hb : b ∈ hs) (hab : a ≠ b) (he : Ends hs ws) (c : Shut (tlW ws) (hdW ws) ws.length (fun i => decide (i ∈ ks)) l) (g : Grown (tlW ws) (hdW ws) ws.length (fun i => decide (i ∈ ks)) a l)
    (hn : b ∉ l.map (·.1)) : Great hs ws a b (hs.filter fun x => decide (x ∉ l.map (·.1))) := by
  obtain ⟨m, hv, hm, hem⟩ := T.min nd ha hb hab he c g hn
  have ee := ent_filter he fun x => decide (x ∉ l.map (·.1))
  rw [hem] at ee
  have ea := ends_at he
  refine ⟨?_, fun z => ?_, List.mem_filter.mpr ⟨hb, decide_eq_true hn⟩, by rw [ee]; exact hm, fun S sa sb es x hx sx => ?_⟩
  · refine List.filter_congr fun x hx => ?_
    rw [isIn_filter hx]
  · have := (List.mem_filter.mp z).2
    rw [decide_eq_true_iff] at this
    exact this (g.first _ _ _)
  · rw [ee] at es
    have e2 := flow_cut (tlW ws) (hdW ws) ws.length nd ha hb hab ea T.fl sa sb
    have e3 : - flow (tlW ws) (hdW ws) ws.length S (fun i => decide (i ∈ ks)) = entN (tlW ws) (hdW ws) ws.length S := by
      rw [entN_ws, es, e2]
      exact hv
    refine List.mem_filter.mpr ⟨hx, decide_eq_true fun z => ?_⟩
    have := tight_unfound (tlW ws) (hdW ws) ws.length g sa e3 x z
    rw [sx] at this
    cases this
end

/-! ### wires more from the root -/
def pairsOf (root : α) (many : List (α × Nat)) : List (α × α) := many.flatMap fun p => List.replicate p.2 (root, p.1)
def total (many : List (α × Nat)) : Nat := (many.map (·.2)).sum
/-- how many of them lead into S -/
def into (S : α → Bool) (many : List (α × Nat)) : Nat := (many.map fun p => if S p.1 = true then p.2 else 0).sum
theorem pairs_cons (root : α) (p : α × Nat) (many : List (α × Nat)) : pairsOf root (p :: many) = List.replicate p.2 (root, p.1) ++ pairsOf root many := by
  unfold pairsOf
  rw [List.flatMap_cons]
theorem pairs_len (root : α) : ∀ many : List (α × Nat), (pairsOf root many).length = total many
  | [] => rfl
  | p :: many => by
    rw [pairs_cons, List.length_append, List.length_replicate, pairs_len root many]
    unfold total
    rw [List.map_cons, List.sum_cons]
theorem pairs_ent {S : α → Bool} {root : α} (hr : S root = false) : ∀ many : List (α × Nat), ent S (pairsOf root many) = into S many
  | [] => rfl
  | p :: many => by
    rw [pairs_cons, ent_append, pairs_ent hr many]
    unfold into
    rw [List.map_cons, List.sum_cons]
    congr 1
    unfold ent
    rw [List.countP_replicate]
    unfold enters
    rw [hr]
    cases S p.1 <;> simp
theorem pairs_mem {root : α} {w : α × α} {many : List (α × Nat)} (h : w ∈ pairsOf root many) : ∃ p ∈ many, w = (root, p.1) ∧ 0 < p.2 := by
  obtain ⟨p, hp, hw⟩ := List.mem_flatMap.mp h
  obtain ⟨h1, h2⟩ := List.mem_replicate.mp hw
  exact ⟨p, hp, h2, Nat.pos_of_ne_zero h1⟩
theorem pairs_has {root : α} {p : α × Nat} {many : List (α × Nat)} (h : p ∈ many) (h0 : 0 < p.2) : (root, p.1) ∈ pairsOf root many := List.mem_flatMap.mpr ⟨p, h, List.mem_replicate.mpr ⟨by omega, rfl⟩⟩
/-- h's number set -/
def setM (many : List (α × Nat)) (h : α) (m : Nat) : List (α × Nat) := many.map fun p => if p.1 = h then (p.1, m) else p
theorem setM_keys (many : List (α × Nat)) (h : α) (m : Nat) : (setM many h m).map (·.1) = many.map (·.1) := by
  unfold setM
  rw [List.map_map]
  refine List.map_congr_left fun p _ => ?_
  show (if p.1 = h then (p.1, m) else p).1 = p.1
  split <;> rfl
theorem setM_setM (many : List (α × Nat)) (h : α) (m m' : Nat) : setM (setM many h m) h m' = setM many h m' := by
  unfold setM
  rw [List.map_map]
  refine List.map_congr_left fun p _ => ?_
  show (if (if p.1 = h then (p.1, m) else p).1 = h then ((if p.1 = h then (p.1, m) else p).1, m') else (if p.1 = h then (p.1, m) else p)) = _
  by_cases e : p.1 = h
  · simp [e]
  · simp [e]
theorem setM_no {many : List (α × Nat)} {h : α} (m : Nat) (hn : h ∉ many.map (·.1)) : setM many h m = many := by
  unfold setM
  have : many.map (fun p => if p.1 = h then (p.1, m) else p) = many.map id := List.map_congr_left fun p hp => by
    rw [if_neg fun e => hn (List.mem_map.mpr ⟨p, hp, e⟩)]
    rfl
  rw [this, List.map_id]
theorem setM_same {many : List (α × Nat)} (nd : (many.map (·.1)).Nodup) {h : α} {m : Nat} (hm : (h, m) ∈ many) : setM many h m = many := by
  unfold setM
  have : many.map (fun p => if p.1 = h then (p.1, m) else p) = many.map id := List.map_congr_left fun p hp => by
    show _ = p
    by_cases e : p.1 = h
    · rw [if_pos e]
      have key : ∀ l : List (α × Nat), (l.map (·.1)).Nodup → (h, m) ∈ l → p ∈ l → p.2 = m := by
        intro l
        induction l with
        | nil => intro _ h1; cases h1
        | cons q l ih =>
          intro nd h1 h2
          rw [List.map_cons, List.nodup_cons] at nd
          rcases List.mem_cons.mp h1 with h1 | h1
          · rcases List.mem_cons.mp h2 with h2 | h2
            · rw [h2, ← h1]
            · exact absurd (List.mem_map.mpr ⟨p, h2, by rw [e, ← h1]⟩) nd.1
          · rcases List.mem_cons.mp h2 with h2 | h2
            · exact absurd (List.mem_map.mpr ⟨_, h1, by rw [← h2, e]⟩) nd.1
            · exact ih nd.2 h1 h2
      have := key many nd hm hp
      cases p
      simp_all
    · rw [if_neg e]
  rw [this, List.map_id]
theorem into_set {S : α → Bool} {h : α} (m : Nat) : ∀ {many : List (α × Nat)}, (many.map (·.1)).Nodup → h ∈ many.map (·.1) → into S (setM many h m) = into S (setM many h 0) + (if S h = true then m else 0)
  | [], _, hh => by cases hh
  | p :: many, nd, hh => by
    rw [List.map_cons, List.nodup_cons] at nd
    have e1 : ∀ m, setM (p :: many) h m = (if p.1 = h then (p.1, m) else p) :: setM many h m := fun m => rfl
    have e2 : ∀ (q : α × Nat) (r : List (α × Nat)), into S (q :: r) = (if S q.1 = true then q.2 else 0) + into S r := fun q r => by
      unfold into
      rw [List.map_cons, List.sum_cons]
    rw [e1, e1, e2, e2]
    by_cases e : p.1 = h
    · rw [if_pos e, if_pos e, setM_no m (by rw [← e]; exact nd.1), setM_no 0 (by rw [← e]; exact nd.1)]
      subst e
      simp
      omega
    · rw [if_neg e, if_neg e, into_set m nd.2 ((List.mem_cons.mp hh).resolve_left fun z => e z.symm)]
      omega
theorem into_bound {S : α → Bool} {h : α} {m : Nat} {many : List (α × Nat)} (hm : (h, m) ∈ many) (hs : S h = true) : m ≤ into S many := by
  induction many with
  | nil => cases hm
  | cons p many ih =>
    unfold into at ih ⊢
    rw [List.map_cons, List.sum_cons]
    rcases List.mem_cons.mp hm with e | e
    · subst e
      simp [hs]
    · have := ih e
      omega

/-- the numbers so far: wide enough; those of the first j can't be less -/
structure Fit (hs os : List α) (root : α) (ws : List (α × α)) (k : Nat) (many : List (α × Nat)) (j : Nat) : Prop where
  keys : many.map (·.1) = os
  wide : Wide hs root (ws ++ pairsOf root many) k
  tight : ∀ i h m, i < j → many[i]? = some (h, m) → 0 < m → ∃ S : α → Bool, S root = false ∧ S h = true ∧ ent S (ws ++ pairsOf root many) = k
  le : ∀ p ∈ many, p.2 ≤ k
section
variable {hs os : List α} {root : α} {ws : List (α × α)} {k : Nat} {many : List (α × Nat)}
theorem ent_more {S : α → Bool} (hr : S root = false) : ent S (ws ++ pairsOf root many) = ent S ws + into S many := by
  rw [ent_append, pairs_ent hr]
theorem Fit.start (ho : ∀ x ∈ hs, x ≠ root → x ∈ os) : Fit hs os root ws k (os.map fun h => (h, k)) 0 := by
  refine ⟨by rw [List.map_map]; exact List.map_id os, fun S sr ⟨x, hx, sx⟩ => ?_, fun i h m hi => absurd hi (Nat.not_lt_zero i), fun p hp => ?_⟩
  · rw [ent_more sr]
    have hne : x ≠ root := fun e => by
      rw [e, sr] at sx
      cases sx
    have := into_bound (S := S) (List.mem_map.mpr ⟨x, ho x hx hne, rfl⟩ : (x, k) ∈ os.map fun h => (h, k)) sx
    omega
  · obtain ⟨h, _, rfl⟩ := List.mem_map.mp hp
    exact Nat.le_refl _
theorem Fit.step {j : Nat} {h : α} {a : Nat} (F : Fit hs os root ws k many j) (nd : os.Nodup) (hroot : root ∉ os) (hos : ∀ x ∈ os, x ∈ hs) (hj : os[j]? = some h) (hm : MinOf (ws ++ pairsOf root (setM many h 0)) root h a) :
    Fit hs os root ws k (setM many h (k - a)) (j + 1) := by
  have nk : (many.map (·.1)).Nodup := by rw [F.keys]; exact nd
  have hk : h ∈ many.map (·.1) := by rw [F.keys]; exact List.mem_of_getElem? hj
  have hh : h ∈ hs := hos h (List.mem_of_getElem? hj)
  obtain ⟨p, hp, ep⟩ := List.mem_map.mp hk
  have hold : (h, p.2) ∈ many := by rw [← ep]; exact hp
  have eold : setM many h p.2 = many := setM_same nk hold
  have new : ∀ (S : α → Bool) (m : Nat), S root = false → ent S (ws ++ pairsOf root (setM many h m)) = ent S (ws ++ pairsOf root (setM many h 0)) + (if S h = true then m else 0) := fun S m sr => by
    rw [ent_more sr, ent_more sr, into_set m nk hk]
    omega
  have wide : Wide hs root (ws ++ pairsOf root (setM many h (k - a))) k := fun S sr hx => by
    rw [new S _ sr]
    cases e : S h with
    | true =>
      have := hm.le S sr e
      simp
      omega
    | false =>
      have h1 := F.wide S sr hx
      rw [← eold, new S _ sr, e] at h1
      simpa using h1
  obtain ⟨S0, r0, h0, e0⟩ := hm.ex
  have hle : k - a ≤ p.2 := by
    have h1 := F.wide S0 r0 ⟨h, hh, h0⟩
    rw [← eold, new S0 _ r0, h0, e0] at h1
    simp at h1
    omega
  refine ⟨by rw [setM_keys, F.keys], wide, fun i g m hi hg hpos => ?_, fun q hq => ?_⟩
  · -- what stood at i ahead
    unfold setM at hg
    rw [List.getElem?_map] at hg
    cases eq : many[i]? with
    | none =>
      rw [eq] at hg
      cases hg
    | some q =>
      rw [eq] at hg
      have hg : (if q.1 = h then (q.1, k - a) else q) = (g, m) := Option.some.inj hg
      by_cases eh : q.1 = h
      · rw [if_pos eh] at hg
        injection hg with g1 g2
        subst g2
        rw [← g1, eh]
        refine ⟨S0, r0, h0, ?_⟩
        rw [new S0 _ r0, h0, e0]
        simp
        omega
      · rw [if_neg eh] at hg
        rw [hg] at eq
        have hij : i ≠ j := fun z => by
          subst z
          have h1 : (many.map (·.1))[i]? = some h := by rw [F.keys]; exact hj
          rw [List.getElem?_map, eq] at h1
          have h1 : g = h := Option.some.inj h1
          rw [hg] at eh
          exact eh h1
        obtain ⟨S, sr, sg, es⟩ := F.tight i g m (by omega) eq hpos
        refine ⟨S, sr, sg, ?_⟩
        have hw := wide S sr ⟨g, hos g (by rw [← F.keys]; exact List.mem_map.mpr ⟨_, List.mem_of_getElem? eq, rfl⟩), sg⟩
        rw [new S _ sr] at hw ⊢
        have es' := es
        rw [← eold, new S _ sr] at es'
        by_cases c : S h = true
        · rw [if_pos c] at hw es' ⊢
          omega
        · rw [if_neg c] at hw es' ⊢
          omega
  · unfold setM at hq
    obtain ⟨q', hq', rfl⟩ := List.mem_map.mp hq
    split
    · show k - a ≤ k
      omega
    · exact F.le q' hq'

/-- wires more, as few as can be -/
structure Fewest (hs os : List α) (root : α) (ws : List (α × α)) (k : Nat) (many : List (α × Nat)) : Prop where
  keys : many.map (·.1) = os
  wide : Wide hs root (ws ++ pairsOf root many) k
  tight : ∀ h m, (h, m) ∈ many → 0 < m → ∃ S : α → Bool, S root = false ∧ S h = true ∧ ent S (ws ++ pairsOf root many) = k
  le : ∀ p ∈ many, p.2 ≤ k
theorem Fit.done (F : Fit hs os root ws k many os.length) : Fewest hs os root ws k many := by
  refine ⟨F.keys, F.wide, fun h m hm hpos => ?_, F.le⟩
  obtain ⟨i, hi⟩ := List.getElem?_of_mem hm
  refine F.tight i h m ?_ hi hpos
  rw [← F.keys, List.length_map]
  exact (List.getElem?_eq_some_iff.mp hi).1

/-! ### lots apart -/
def Apart (L : List (List α)) : Prop := L.Pairwise fun a b => ∀ x ∈ a, x ∉ b
/-- by how many wires these lots lack -/
def lacking (ws : List (α × α)) (k : Nat) (L : List (List α)) : Int := (L.map fun lot => (k : Int) - (ent (isIn lot) ws : Int)).sum
theorem into_sum (L : List (List α)) (hA : Apart L) : ∀ many : List (α × Nat), (L.map fun lot => ((into (isIn lot) many : Nat) : Int)).sum ≤ (total many : Int)
  | [] => by
    have h : (L.map fun lot => ((into (isIn lot) ([] : List (α × Nat)) : Nat) : Int)).sum = 0 := sum_zero fun lot _ => rfl
    rw [h]
    exact Int.le_refl _
  | p :: many => by
    have ih := into_sum L hA many
    have e : ∀ lot, ((into (isIn lot) (p :: many) : Nat) : Int) = (if p.1 ∈ lot then (p.2 : Int) else 0) + ((into (isIn lot) many : Nat) : Int) := fun lot => by
      unfold into
      rw [List.map_cons, List.sum_cons]
      unfold isIn
      by_cases h : p.1 ∈ lot <;> simp [h]
    have e1 : (L.map fun lot => ((into (isIn lot) (p :: many) : Nat) : Int)).sum = (L.map fun lot => if p.1 ∈ lot then (p.2 : Int) else 0).sum + (L.map fun lot => ((into (isIn lot) many : Nat) : Int)).sum := by
      clear ih hA
      induction L with
      | nil => rfl
      | cons lot L ih =>
        rw [List.map_cons, List.sum_cons, List.map_cons, List.sum_cons, List.map_cons, List.sum_cons, ih, e]
        omega
    have e2 : (L.map fun lot => if p.1 ∈ lot then (p.2 : Int) else 0).sum ≤ (p.2 : Int) := by
      clear ih e1
      induction L with
      | nil =>
        show (0 : Int) ≤ _
        omega
      | cons lot L ih =>
        unfold Apart at hA
        rw [List.pairwise_cons] at hA
        rw [List.map_cons, List.sum_cons]
        by_cases h : p.1 ∈ lot
        · rw [if_pos h, sum_zero fun a ha => if_neg (hA.1 a ha p.1 h)]
          omega
        · rw [if_neg h]
          have := ih hA.2
          omega
    rw [e1]
    have e3 : ((total (p :: many) : Nat) : Int) = (p.2 : Int) + (total many : Int) := by
      unfold total
      rw [List.map_cons, List.sum_cons]
      omega
    rw [e3]
    omega
theorem lacking_le (F : Fewest hs os root ws k many) {L : List (List α)} (hA : Apart L) (hr : ∀ lot ∈ L, root ∉ lot) (hx : ∀ lot ∈ L, ∃ x ∈ hs, x ∈ lot) : lacking ws k L ≤ (total many : Int) := by
  refine Int.le_trans ?_ (into_sum L hA many)
  unfold lacking
  have h : ∀ lot ∈ L, (k : Int) - (ent (isIn lot) ws : Int) ≤ ((into (isIn lot) many : Nat) : Int) := fun lot hl => by
    have sr : isIn lot root = false := isIn_no.mpr (hr lot hl)
    obtain ⟨x, h1, h2⟩ := hx lot hl
    have h3 := F.wide (isIn lot) sr ⟨x, h1, isIn_iff.mpr h2⟩
    rw [ent_more sr] at h3
    omega
  clear hA hr hx
  induction L with
  | nil => exact Int.le_refl _
  | cons lot L ih =>
    rw [List.map_cons, List.sum_cons, List.map_cons, List.sum_cons]
    have h1 := ih fun l hl => h l (List.mem_cons_of_mem _ hl)
    have h2 := h lot (List.mem_cons_self ..)
    omega
/-- two greatest tight lots are one, or apart -/
theorem great_same {ws' : List (α × α)} (hw : Wide hs root ws' k) {h1 h2 : α} {L1 L2 : List α} (g1 : Great hs ws' root h1 L1) (g2 : Great hs ws' root h2 L2) (e1 : ent (isIn L1) ws' = k) (e2 : ent (isIn L2) ws' = k)
    {x : α} (x1 : x ∈ L1) (x2 : x ∈ L2) : L1 = L2 := by
  have r1 : isIn L1 root = false := isIn_no.mpr g1.out
  have r2 : isIn L2 root = false := isIn_no.mpr g2.out
  have hx : x ∈ hs := by
    rw [g1.eq] at x1
    exact (List.mem_filter.mp x1).1
  have s := ent_sub (isIn L1) (isIn L2) ws'
  have a1 := hw (fun y => isIn L1 y && isIn L2 y) (by rw [r1]; rfl) ⟨x, hx, by rw [isIn_iff.mpr x1, isIn_iff.mpr x2]; rfl⟩
  have a2 := hw (fun y => isIn L1 y || isIn L2 y) (by rw [r1, r2]; rfl) ⟨x, hx, by rw [isIn_iff.mpr x1]; rfl⟩
  have eu : ent (fun y => isIn L1 y || isIn L2 y) ws' = k := by omega
  have sub1 : ∀ y ∈ hs, (isIn L1 y || isIn L2 y) = true → y ∈ L1 := g1.all (fun y => isIn L1 y || isIn L2 y) (by rw [r1, r2]; rfl) (by rw [isIn_iff.mpr g1.mem]; rfl) (by rw [e1]; exact eu)
  have sub2 : ∀ y ∈ hs, (isIn L1 y || isIn L2 y) = true → y ∈ L2 := g2.all (fun y => isIn L1 y || isIn L2 y) (by rw [r1, r2]; rfl) (by rw [isIn_iff.mpr g2.mem]; simp) (by rw [e2]; exact eu)
  rw [g1.eq, g2.eq]
  refine List.filter_congr fun y hy => ?_
  rw [Bool.eq_iff_iff, isIn_iff, isIn_iff]
  exact ⟨fun z => sub2 y hy (by rw [isIn_iff.mpr z]; rfl), fun z => sub1 y hy (by rw [isIn_iff.mpr z]; simp)⟩
/-- the lots of all heads, each once: as much lacks as there are wires more -/
theorem lacking_eq (F : Fewest hs os root ws k many) {ws' : List (α × α)} (p : ws'.Perm (ws ++ pairsOf root many)) {L : List (List α)} (nd : L.Nodup) (hL : ∀ lot ∈ L, ∃ h m, (h, m) ∈ many ∧ 0 < m ∧ Great hs ws' root h lot)
    (hall : ∀ h m, (h, m) ∈ many → 0 < m → ∃ lot ∈ L, h ∈ lot) (hos : ∀ x ∈ os, x ∈ hs) :
    Apart L ∧ (∀ lot ∈ L, root ∉ lot ∧ ∃ x ∈ hs, x ∈ lot) ∧ (∀ lot ∈ L, lot = hs.filter (isIn lot)) ∧ lacking ws k L = (total many : Int) := by
  have wide' : Wide hs root ws' k := fun S sr hx => by rw [ent_perm S p]; exact F.wide S sr hx
  have key : ∀ h m, (h, m) ∈ many → h ∈ hs := fun h m hm => hos h (by rw [← F.keys]; exact List.mem_map.mpr ⟨_, hm, rfl⟩)
  have ek : ∀ lot ∈ L, ent (isIn lot) ws' = k := fun lot hl => by
    obtain ⟨h, m, hm, h0, g⟩ := hL lot hl
    obtain ⟨S, sr, sh, es⟩ := F.tight h m hm h0
    have l1 := g.min.le S sr sh
    rw [ent_perm S p, es] at l1
    have l2 := wide' (isIn lot) (isIn_no.mpr g.out) ⟨h, key h m hm, isIn_iff.mpr g.mem⟩
    omega
  have hA : Apart L := by
    unfold Apart
    refine List.Pairwise.imp_of_mem (R := fun a b => a ≠ b) (fun {a b} ha hb hne x x1 x2 => ?_) nd
    obtain ⟨h1, m1, _, _, g1⟩ := hL a ha
    obtain ⟨h2, m2, _, _, g2⟩ := hL b hb
    exact hne (great_same wide' g1 g2 (ek a ha) (ek b hb) x1 x2)
  refine ⟨hA, fun lot hl => ?_, fun lot hl => ?_, ?_⟩
  · obtain ⟨h, m, hm, _, g⟩ := hL lot hl
    exact ⟨g.out, h, key h m hm, g.mem⟩
  · obtain ⟨h, m, _, _, g⟩ := hL lot hl
    exact g.eq
  · have e : lacking ws k L = (L.map fun lot => ((into (isIn lot) many : Nat) : Int)).sum := by
      unfold lacking
      congr 1
      refine List.map_congr_left fun lot hl => ?_
      obtain ⟨h, m, _, _, g⟩ := hL lot hl
      have h1 := ek lot hl
      rw [ent_perm _ p, ent_more (isIn_no.mpr g.out)] at h1
      omega
    rw [e]
    refine Int.le_antisymm (into_sum L hA many) ?_
    clear e
    have gen : ∀ l : List (α × Nat), (∀ q ∈ l, q ∈ many) → (total l : Int) ≤ (L.map fun lot => ((into (isIn lot) l : Nat) : Int)).sum := by
      intro l
      induction l with
      | nil =>
        intro _
        have h : (L.map fun lot => ((into (isIn lot) ([] : List (α × Nat)) : Nat) : Int)).sum = 0 := sum_zero fun lot _ => rfl
        rw [h]
        exact Int.le_refl _
      | cons q l ih =>
        intro hq
        have ih := ih fun z hz => hq z (List.mem_cons_of_mem _ hz)
        have e : ∀ lot, ((into (isIn lot) (q :: l) : Nat) : Int) = (if q.1 ∈ lot then (q.2 : Int) else 0) + ((into (isIn lot) l : Nat) : Int) := fun lot => by
          unfold into
          rw [List.map_cons, List.sum_cons]
          unfold isIn
          by_cases h : q.1 ∈ lot <;> simp [h]
        have e1 : ∀ M : List (List α), (M.map fun lot => ((into (isIn lot) (q :: l) : Nat) : Int)).sum = (M.map fun lot => if q.1 ∈ lot then (q.2 : Int) else 0).sum + (M.map fun lot => ((into (isIn lot) l : Nat) : Int)).sum := by
          intro M
          induction M with
          | nil => rfl
          | cons lot M ihM =>
            rw [List.map_cons, List.sum_cons, List.map_cons, List.sum_cons, List.map_cons, List.sum_cons, ihM, e]
            omega
        have e2 : (q.2 : Int) ≤ (L.map fun lot => if q.1 ∈ lot then (q.2 : Int) else 0).sum := by
          have nn : ∀ M : List (List α), 0 ≤ (M.map fun lot => if q.1 ∈ lot then (q.2 : Int) else 0).sum := by
            intro M
            induction M with
            | nil => exact Int.le_refl _
            | cons lot M ihM =>
              rw [List.map_cons, List.sum_cons]
              split <;> omega
          rcases Nat.eq_zero_or_pos q.2 with z | z
          · have := nn L
            omega
          · obtain ⟨lot, hl, hq'⟩ := hall q.1 q.2 (hq q (List.mem_cons_self ..)) z
            have gen2 : ∀ M : List (List α), lot ∈ M → (q.2 : Int) ≤ (M.map fun lot => if q.1 ∈ lot then (q.2 : Int) else 0).sum := by
              intro M
              induction M with
              | nil => intro h; cases h
              | cons lot' M ihM =>
                intro hm
                rw [List.map_cons, List.sum_cons]
                rcases List.mem_cons.mp hm with e | e
                · subst e
                  rw [if_pos hq']
                  have := nn M
                  omega
                · have := ihM e
                  split <;> omega
            exact gen2 L hl
        rw [e1]
        have e3 : ((total (q :: l) : Nat) : Int) = (q.2 : Int) + (total l : Int) := by
          unfold total
          rw [List.map_cons, List.sum_cons]
          omega
        omega
    exact gen many fun q hq => hq
end
end
end K86M

end

section
set_option autoImplicit false
set_option linter.all false
/-! A tree grows; all lots; all tuples of lots apart. Plain Lean. -/
namespace K86M
section
variable {α : Type} [DecidableEq α] [Inhabited α]

/-! ### lists that hold the same -/
theorem perm_of_same {β : Type} [DecidableEq β] : ∀ {a b : List β}, a.Nodup → b.Nodup → (∀ x, x ∈ a ↔ x ∈ b) → a.Perm b
  | [], b, _, _, h => by
    cases b with
    | nil => exact .nil
    | cons x r => exact absurd ((h x).mpr (List.mem_cons_self ..)) List.not_mem_nil
  | x :: a, b, na, nb, h => by
    have hx : x ∈ b := (h x).mp (List.mem_cons_self ..)
    rw [List.nodup_cons] at na
    have p := List.perm_cons_erase hx
    refine List.Perm.trans (.cons x (perm_of_same na.2 (nb.erase x) fun y => ?_)) p.symm
    rw [nb.mem_erase_iff]
    constructor
    · intro hy
      exact ⟨fun e => na.1 (e ▸ hy), (h y).mp (List.mem_cons_of_mem _ hy)⟩
    · rintro ⟨hne, hy⟩
      exact (List.mem_cons.mp ((h y).mpr hy)).resolve_left hne

/-! ### a wire that leads on -/
variable (tl hd : Nat → α)
/-- how many of some wires enter S -/
def cnt (S : α → Bool) (is : List Nat) : Nat := is.countP fun i => enters S (tl i, hd i)
theorem cnt_sub (S T : α → Bool) : ∀ is : List Nat, cnt tl hd (fun x => S x && T x) is + cnt tl hd (fun x => S x || T x) is ≤ cnt tl hd S is + cnt tl hd T is := fun is => by
  have h : ∀ S : α → Bool, cnt tl hd S is = ent S (is.map fun i => (tl i, hd i)) := fun S => by
    unfold cnt ent
    rw [List.countP_map]
    rfl
  rw [h, h, h, h]
  exact ent_sub S T _
/-- each lot is entered by k or more of these wires -/
def WideI (hs : List α) (root : α) (is : List Nat) (k : Nat) : Prop := ∀ S : α → Bool, S root = false → (∃ x ∈ hs, S x = true) → k ≤ cnt tl hd S is
theorem exists_least {β : Type} (p : β → Prop) (m : β → Nat) : ∀ n : Nat, (∃ x, p x ∧ m x ≤ n) → ∃ x, p x ∧ ∀ y, p y → m x ≤ m y
  | 0, ⟨x, hx, h0⟩ => ⟨x, hx, fun y _ => by omega⟩
  | n + 1, ⟨x, hx, hn⟩ => by
    by_cases h : ∃ y, p y ∧ m y ≤ n
    · exact exists_least p m n h
    · refine ⟨x, hx, fun y hy => ?_⟩
      by_cases h2 : m y ≤ n
      · exact absurd ⟨y, hy, h2⟩ h
      · omega
theorem countP_lt {β : Type} {p q : β → Bool} : ∀ {l : List β}, l.countP q < l.countP p → ∃ x ∈ l, p x = true ∧ q x = false
  | [], h => absurd h (Nat.lt_irrefl _)
  | x :: l, h => by
    by_cases hx : p x = true ∧ q x = false
    · exact ⟨x, List.mem_cons_self .., hx⟩
    · rw [List.countP_cons, List.countP_cons] at h
      have h2 : l.countP q < l.countP p := by
        cases e1 : p x <;> cases e2 : q x <;> simp_all <;> omega
      obtain ⟨y, hy, h3⟩ := countP_lt h2
      exact ⟨y, List.mem_cons_of_mem _ hy, h3⟩
theorem filter_lt {p q : α → Bool} {l : List α} (h : ∀ x ∈ l, q x = true → p x = true) {x : α} (hx : x ∈ l) (hp : p x = true) (hq : q x = false) : (l.filter q).length < (l.filter p).length := by
  induction l with
  | nil => cases hx
  | cons y l ih =>
    have h' : ∀ x ∈ l, q x = true → p x = true := fun z hz => h z (List.mem_cons_of_mem _ hz)
    have mono : (l.filter q).length ≤ (l.filter p).length := by
      clear ih hx
      induction l with
      | nil => exact Nat.le_refl _
      | cons z l ih =>
        have h1 := h' z (List.mem_cons_self ..)
        have h2 := ih (fun w hw => h w (by
          rcases List.mem_cons.mp hw with e | e
          · rw [e]; exact List.mem_cons_self ..
          · exact List.mem_cons_of_mem _ (List.mem_cons_of_mem _ e))) fun w hw => h' w (List.mem_cons_of_mem _ hw)
        rw [List.filter_cons, List.filter_cons]
        cases e1 : q z <;> cases e2 : p z <;> simp_all <;> omega
    rcases List.mem_cons.mp hx with e | e
    · subst e
      rw [List.filter_cons, List.filter_cons, hp, hq]
      simp
      omega
    · have h1 := ih h' e
      have h2 := h y (List.mem_cons_self ..)
      rw [List.filter_cons, List.filter_cons]
      cases e1 : q y <;> cases e2 : p y <;> simp_all <;> omega
/-- Lovasz: while not all houses are met, a wire leads on that each lot can spare -/
theorem leads_on {hs met : List α} {root : α} {rest : List Nat} {k : Nat} (hk : 1 ≤ k) (hin : ∀ i ∈ rest, tl i ∈ hs ∧ hd i ∈ hs) (hroot : root ∈ met) (h1 : WideI tl hd hs root rest (k - 1))
    (h2 : ∀ S : α → Bool, S root = false → (∃ x ∈ hs, S x = true) → (∀ x ∈ met, S x = false) → k ≤ cnt tl hd S rest) {z : α} (hz : z ∈ hs) (hzm : z ∉ met) :
    ∃ i ∈ rest, tl i ∈ met ∧ hd i ∉ met ∧ ∀ S : α → Bool, S root = false → enters S (tl i, hd i) = true → k ≤ cnt tl hd S rest := by
  by_cases hb : ∃ U : α → Bool, (U root = false ∧ (∃ x ∈ hs, U x = true ∧ x ∉ met) ∧ cnt tl hd U rest < k)
  · obtain ⟨U0, hU0⟩ := hb
    obtain ⟨U, ⟨ur, ⟨x, hx, ux, xm⟩, uk⟩, umin⟩ := exists_least (fun U : α → Bool => U root = false ∧ (∃ x ∈ hs, U x = true ∧ x ∉ met) ∧ cnt tl hd U rest < k) (fun U => (hs.filter U).length) _ ⟨U0, hU0, Nat.le_refl _⟩
    have h3 : k ≤ cnt tl hd (fun y => U y && decide (y ∉ met)) rest := h2 _ (by simp [ur]) ⟨x, hx, by simp [ux, xm]⟩ fun y hy => by simp [hy]
    obtain ⟨i, hi, hp, hq⟩ := countP_lt (p := fun i => enters (fun y => U y && decide (y ∉ met)) (tl i, hd i)) (q := fun i => enters U (tl i, hd i)) (show cnt tl hd U rest < cnt tl hd (fun y => U y && decide (y ∉ met)) rest by omega)
    unfold enters at hp hq
    simp only [Bool.and_eq_true, decide_eq_true_eq, Bool.not_eq_true', Bool.and_eq_false_iff, decide_eq_false_iff_not, Decidable.not_not, Bool.not_eq_false'] at hp hq
    obtain ⟨⟨p1, p2⟩, p3⟩ := hp
    have ut : U (tl i) = true := by
      rcases hq with q | q
      · rw [p1] at q
        cases q
      · exact q
    have tm : tl i ∈ met := by
      rcases p3 with q | q
      · rw [ut] at q
        cases q
      · exact q
    refine ⟨i, hi, tm, p2, fun W wr we => ?_⟩
    refine Nat.le_of_not_lt fun hlt => ?_
    have we' : (W (hd i) && !W (tl i)) = true := we
    simp only [Bool.and_eq_true, Bool.not_eq_true'] at we'
    have s := cnt_sub tl hd U W rest
    have a2 := h1 (fun y => U y || W y) (by simp [ur, wr]) ⟨hd i, (hin i hi).2, by simp [p1]⟩
    have a1 : cnt tl hd (fun y => U y && W y) rest < k := by omega
    have m := umin (fun y => U y && W y) ⟨by simp [ur], ⟨hd i, (hin i hi).2, by simp [p1, we'.1], p2⟩, a1⟩
    have l := filter_lt (p := U) (q := fun y => U y && W y) (l := hs) (fun y _ h => by
      simp only [Bool.and_eq_true] at h
      exact h.1) (hin i hi).1 ut (by simp [we'.2])
    omega
  · have h3 : k ≤ cnt tl hd (fun y => decide (y ∉ met)) rest := h2 _ (by simp [hroot]) ⟨z, hz, by simp [hzm]⟩ fun y hy => by simp [hy]
    have h4 : 0 < cnt tl hd (fun y => decide (y ∉ met)) rest := by omega
    obtain ⟨i, hi, he⟩ := List.countP_pos_iff.mp h4
    have he' : (decide (hd i ∉ met) && !decide (tl i ∉ met)) = true := he
    simp only [Bool.and_eq_true, decide_eq_true_eq, Bool.not_eq_true', decide_eq_false_iff_not, Decidable.not_not] at he'
    refine ⟨i, hi, he'.2, he'.1, fun W wr we => ?_⟩
    refine Nat.le_of_not_lt fun hlt => hb ⟨W, wr, ⟨hd i, (hin i hi).2, ?_, he'.1⟩, hlt⟩
    have we' : (W (hd i) && !W (tl i)) = true := we
    simp only [Bool.and_eq_true] at we'
    exact we'.1
theorem cnt_append (S : α → Bool) (a b : List Nat) : cnt tl hd S (a ++ b) = cnt tl hd S a + cnt tl hd S b := List.countP_append
theorem cnt_perm (S : α → Bool) {a b : List Nat} (p : a.Perm b) : cnt tl hd S a = cnt tl hd S b := p.countP_eq _
theorem cnt_cons (S : α → Bool) (i : Nat) (is : List Nat) : cnt tl hd S (i :: is) = cnt tl hd S is + (if enters S (tl i, hd i) = true then 1 else 0) := List.countP_cons
theorem cnt_range (S : α → Bool) (ws : List (α × α)) : cnt (tlW ws) (hdW ws) S (List.range ws.length) = ent S ws := by
  have e : ws = (List.range ws.length).map fun i => (tlW ws i, hdW ws i) := by
    refine List.ext_getElem? fun i => ?_
    rw [List.getElem?_map]
    by_cases h : i < ws.length
    · rw [at_tlhd h, List.getElem?_range h]
      rfl
    · rw [List.getElem?_eq_none (by omega), List.getElem?_eq_none (by rw [List.length_range]; omega)]
      rfl
  unfold cnt ent
  conv => rhs; rw [e]
  rw [List.countP_map]
  rfl

/-- a tree that grows out of `left`: what it has met, has found, and the wires that rest -/
structure Tree (hs : List α) (root : α) (left : List Nat) (k : Nat) (met : List α) (found rest : List Nat) : Prop where
  perm : left.Perm (found ++ rest)
  out : root ∈ met
  nd : met.Nodup
  sub : ∀ x ∈ met, x ∈ hs
  ends : ∀ i ∈ found, hd i ∈ met
  wide : WideI tl hd hs root rest (k - 1)
variable {tl hd}
theorem Tree.start {hs : List α} {root : α} {left : List Nat} {k : Nat} (hr : root ∈ hs) (hw : WideI tl hd hs root left k) : Tree tl hd hs root left k [root] [] left := by
  refine ⟨List.Perm.refl _, List.mem_singleton.mpr rfl, List.nodup_cons.mpr ⟨List.not_mem_nil, List.nodup_nil⟩, fun x hx => ?_, fun i hi => (List.not_mem_nil hi).elim, fun S sr hx => ?_⟩
  · rw [List.mem_singleton.mp hx]
    exact hr
  · have := hw S sr hx
    omega
theorem Tree.on {hs met : List α} {root : α} {left found rest : List Nat} {k : Nat} (T : Tree tl hd hs root left k met found rest) (hk : 1 ≤ k) (hin : ∀ i ∈ left, tl i ∈ hs ∧ hd i ∈ hs) (hw : WideI tl hd hs root left k) {z : α} (hz : z ∈ hs) (hzm : z ∉ met) :
    ∃ i ∈ left, tl i ∈ met ∧ hd i ∉ met ∧ ∀ S : α → Bool, S root = false → enters S (tl i, hd i) = true → k ≤ cnt tl hd S rest := by
  obtain ⟨i, hi, h⟩ := leads_on tl hd hk (fun i hi => hin i (T.perm.mem_iff.mpr (List.mem_append_right _ hi))) T.out T.wide (fun S sr hx hm => by
    have h1 := hw S sr hx
    rw [cnt_perm tl hd S T.perm, cnt_append] at h1
    have h2 : cnt tl hd S found = 0 := by
      unfold cnt
      refine List.countP_eq_zero.mpr fun i hi he => ?_
      have he' : (S (hd i) && !S (tl i)) = true := he
      rw [hm _ (T.ends i hi)] at he'
      cases he'
    omega) hz hzm
  exact ⟨i, T.perm.mem_iff.mpr (List.mem_append_right _ hi), h⟩
theorem Tree.step {hs met : List α} {root : α} {left found rest : List Nat} {k i : Nat} (T : Tree tl hd hs root left k met found rest) (hin : ∀ i ∈ left, tl i ∈ hs ∧ hd i ∈ hs) (hi : i ∈ left) (hm : hd i ∉ met)
    (hS : ∀ S : α → Bool, S root = false → enters S (tl i, hd i) = true → k ≤ cnt tl hd S rest) : ∃ rest', Tree tl hd hs root left k (met ++ [hd i]) (found ++ [i]) rest' ∧ rest.Perm (i :: rest') := by
  have hr : i ∈ rest := by
    rcases List.mem_append.mp (T.perm.mem_iff.mp hi) with h | h
    · exact absurd (T.ends i h) hm
    · exact h
  have p := List.perm_cons_erase hr
  refine ⟨rest.erase i, ⟨?_, List.mem_append_left _ T.out, ?_, fun x hx => ?_, fun j hj => ?_, fun S sr hx => ?_⟩, p⟩
  · refine T.perm.trans ?_
    rw [List.append_assoc]
    exact List.Perm.append_left found p
  · rw [List.nodup_append]
    refine ⟨T.nd, List.nodup_cons.mpr ⟨List.not_mem_nil, List.nodup_nil⟩, fun x hx y hy e => ?_⟩
    rw [List.mem_singleton] at hy
    subst hy e
    exact hm hx
  · rcases List.mem_append.mp hx with h | h
    · exact T.sub x h
    · rw [List.mem_singleton.mp h]
      exact (hin i hi).2
  · rcases List.mem_append.mp hj with h | h
    · exact List.mem_append_left _ (T.ends j h)
    · rw [List.mem_singleton.mp h]
      exact List.mem_append_right _ (List.mem_singleton.mpr rfl)
  · have h1 := T.wide S sr hx
    rw [cnt_perm tl hd S p, cnt_cons] at h1
    by_cases he : enters S (tl i, hd i) = true
    · have h2 := hS S sr he
      rw [cnt_perm tl hd S p, cnt_cons, if_pos he] at h2
      omega
    · rw [if_neg he] at h1
      omega
/-- the wires left without the tree's -/
theorem Tree.done {hs met : List α} {root : α} {left found rest : List Nat} {k : Nat} (T : Tree tl hd hs root left k met found rest) (nd : left.Nodup) {tree : List Nat} (ht : ∀ i, i ∈ tree ↔ i ∈ found) : WideI tl hd hs root (left.filter fun i => decide (i ∉ tree)) (k - 1) := by
  intro S sr hx
  have p : (left.filter fun i => decide (i ∉ tree)).Perm rest := by
    have nd2 : (found ++ rest).Nodup := T.perm.nodup_iff.mp nd
    rw [List.nodup_append] at nd2
    refine perm_of_same (nd.sublist List.filter_sublist) nd2.2.1 fun i => ?_
    rw [List.mem_filter, T.perm.mem_iff, List.mem_append, decide_eq_true_iff, ht]
    constructor
    · rintro ⟨h | h, hn⟩
      · exact absurd h hn
      · exact h
    · intro h
      exact ⟨.inr h, fun z => nd2.2.2 i z i h rfl⟩
  rw [cnt_perm tl hd S p]
  exact T.wide S sr hx

/-! ### all lots -/
/-- as the program makes them: each house put behind what stands -/
def subsOn (acc : List (List α)) (os : List α) : List (List α) := os.foldl (fun L h => L ++ L.map (· ++ [h])) acc
def subs (os : List α) : List (List α) := subsOn [[]] os
theorem subs_snoc (os : List α) (h : α) : subs (os ++ [h]) = subs os ++ (subs os).map (· ++ [h]) := by
  unfold subs subsOn
  rw [List.foldl_append]
  rfl
theorem rev_ind {β : Type} {P : List β → Prop} (h0 : P []) (h1 : ∀ l x, P l → P (l ++ [x])) : ∀ l : List β, P l := fun l => by
  have h : ∀ r : List β, P r.reverse := fun r => by
    induction r with
    | nil => exact h0
    | cons x r ih =>
      rw [List.reverse_cons]
      exact h1 _ x ih
  have := h l.reverse
  rw [List.reverse_reverse] at this
  exact this
/-- each is what a set leaves of the houses -/
theorem mem_subs {os : List α} (nd : os.Nodup) {lot : List α} : lot ∈ subs os ↔ lot = os.filter (isIn lot) := by
  revert nd lot
  refine rev_ind (P := fun os => os.Nodup → ∀ {lot : List α}, lot ∈ subs os ↔ lot = os.filter (isIn lot)) ?_ ?_ os
  · intro _ lot
    unfold subs subsOn
    simp
  · intro os h ih nd lot
    rw [List.nodup_append] at nd
    obtain ⟨nd1, _, nd3⟩ := nd
    have hn : h ∉ os := fun z => nd3 h z h (List.mem_singleton.mpr rfl) rfl
    have ih := fun lot => ih nd1 (lot := lot)
    rw [subs_snoc, List.mem_append, List.mem_map, List.filter_append, ih]
    constructor
    · rintro (e | ⟨l, hl, rfl⟩)
      · have hl : isIn lot h = false := isIn_no.mpr fun z => by
          rw [e] at z
          exact hn (List.mem_filter.mp z).1
        rw [List.filter_cons, hl]
        simpa using e
      · rw [ih] at hl
        have e1 : isIn (l ++ [h]) h = true := isIn_iff.mpr (List.mem_append_right _ (List.mem_singleton.mpr rfl))
        rw [List.filter_cons, e1]
        have e2 : os.filter (isIn (l ++ [h])) = l := by
          rw [List.filter_congr (q := isIn l) fun x hx => ?_]
          · exact hl.symm
          · rw [Bool.eq_iff_iff, isIn_iff, isIn_iff, List.mem_append, List.mem_singleton]
            exact ⟨fun z => z.resolve_right fun e => hn (e ▸ hx), .inl⟩
        rw [e2]
        rfl
    · intro e
      by_cases c : h ∈ lot
      · right
        rw [List.filter_cons, isIn_iff.mpr c] at e
        refine ⟨os.filter (isIn lot), ?_, by simpa using e.symm⟩
        rw [ih]
        exact List.filter_congr fun x hx => (isIn_filter hx).symm
      · left
        rw [List.filter_cons, isIn_no.mpr c] at e
        simpa using e
theorem subs_nodup {os : List α} (nd : os.Nodup) : (subs os).Nodup := by
  revert nd
  refine rev_ind (P := fun os => os.Nodup → (subs os).Nodup) ?_ ?_ os
  · intro _
    unfold subs subsOn
    simp
  · intro os h ih nd
    rw [List.nodup_append] at nd
    obtain ⟨nd1, _, nd3⟩ := nd
    have hn : h ∉ os := fun z => nd3 h z h (List.mem_singleton.mpr rfl) rfl
    rw [subs_snoc, List.nodup_append]
    refine ⟨ih nd1, ?_, fun x hx y hy e => ?_⟩
    · have : ∀ L : List (List α), L.Nodup → (L.map (· ++ [h])).Nodup := fun L hL => by
        rw [List.Nodup, List.pairwise_map]
        exact hL.imp fun hne e => hne (List.append_cancel_right e)
      exact this _ (ih nd1)
    · obtain ⟨l, _, rfl⟩ := List.mem_map.mp hy
      subst e
      rw [mem_subs nd1] at hx
      have : h ∈ os.filter (isIn (l ++ [h])) := by
        rw [← hx]
        exact List.mem_append_right _ (List.mem_singleton.mpr rfl)
      exact hn (List.mem_filter.mp this).1
theorem subs_head (os : List α) : ∃ r, subs os = [] :: r ∧ ∀ lot ∈ r, lot ≠ [] := by
  refine rev_ind (P := fun os => ∃ r, subs os = [] :: r ∧ ∀ lot ∈ r, lot ≠ []) ?_ ?_ os
  · exact ⟨[], rfl, fun lot h => (List.not_mem_nil h).elim⟩
  · rintro os h ⟨r, e, hr⟩
    rw [subs_snoc, e]
    refine ⟨r ++ (([] : List α) :: r).map (· ++ [h]), rfl, fun lot hl => ?_⟩
    rcases List.mem_append.mp hl with hl | hl
    · exact hr lot hl
    · obtain ⟨l, _, rfl⟩ := List.mem_map.mp hl
      simp
theorem subs_len (os : List α) : (subs os).length = 2 ^ os.length := by
  refine rev_ind (P := fun os => (subs os).length = 2 ^ os.length) rfl ?_ os
  intro os h ih
  rw [subs_snoc, List.length_append, List.length_map, ih, List.length_append, List.length_singleton, Nat.pow_succ]
  omega
/-- the lots: without the empty one -/
def lotsOf (os : List α) : List (List α) := (subs os).filter fun l => decide (l ≠ [])
theorem lotsOf_eq (os : List α) : lotsOf os = (subs os).drop 1 := by
  obtain ⟨r, e, hr⟩ := subs_head os
  unfold lotsOf
  rw [e, List.filter_cons]
  simp only [ne_eq, not_true_eq_false, decide_false, Bool.false_eq_true, if_false, List.drop_succ_cons, List.drop_zero]
  exact List.filter_eq_self.mpr fun l hl => decide_eq_true (hr l hl)
theorem mem_lotsOf {os : List α} (nd : os.Nodup) {lot : List α} : lot ∈ lotsOf os ↔ lot = os.filter (isIn lot) ∧ lot ≠ [] := by
  unfold lotsOf
  rw [List.mem_filter, mem_subs nd, decide_eq_true_iff]
theorem lotsOf_nodup {os : List α} (nd : os.Nodup) : (lotsOf os).Nodup := (subs_nodup nd).sublist List.filter_sublist
theorem lotsOf_len (os : List α) : (lotsOf os).length ≤ 2 ^ os.length := by
  rw [← subs_len]
  exact List.length_filter_le ..

/-! ### all tuples of lots apart -/
def freeOf (lot : List α) (some : List (List α)) : Bool := lot.all fun x => decide (x ∉ some.flatten)
def apartOn (acc : List (List (List α))) (lots : List (List α)) : List (List (List α)) := lots.foldl (fun F lot => F ++ (F.filter (freeOf lot)).map (· ++ [lot])) acc
def apartOf (lots : List (List α)) : List (List (List α)) := apartOn [[]] lots
theorem apart_snoc (lots : List (List α)) (lot : List α) : apartOf (lots ++ [lot]) = apartOf lots ++ ((apartOf lots).filter (freeOf lot)).map (· ++ [lot]) := by
  unfold apartOf apartOn
  rw [List.foldl_append]
  rfl
theorem free_iff {lot : List α} {some : List (List α)} : freeOf lot some = true ↔ ∀ l ∈ some, ∀ x ∈ l, x ∉ lot := by
  unfold freeOf
  simp only [List.all_eq_true, decide_eq_true_eq, List.mem_flatten, not_exists, not_and]
  exact ⟨fun h l hl x hx z => h x z l hl hx, fun h x hx l hl z => h l hl x z hx⟩
theorem apart_sound (lots : List (List α)) : ∀ F ∈ apartOf lots, Apart F ∧ ∀ lot ∈ F, lot ∈ lots := by
  refine rev_ind (P := fun lots => ∀ F ∈ apartOf lots, Apart F ∧ ∀ lot ∈ F, lot ∈ lots) ?_ ?_ lots
  · intro F hF
    unfold apartOf apartOn at hF
    simp at hF
    subst hF
    exact ⟨List.Pairwise.nil, fun l h => (List.not_mem_nil h).elim⟩
  · intro lots lot ih F hF
    rw [apart_snoc, List.mem_append] at hF
    rcases hF with hF | hF
    · obtain ⟨h1, h2⟩ := ih F hF
      exact ⟨h1, fun l hl => List.mem_append_left _ (h2 l hl)⟩
    · obtain ⟨G, hG, rfl⟩ := List.mem_map.mp hF
      obtain ⟨hG, hfr⟩ := List.mem_filter.mp hG
      obtain ⟨h1, h2⟩ := ih G hG
      refine ⟨?_, fun l hl => ?_⟩
      · unfold Apart
        rw [List.pairwise_append]
        refine ⟨h1, List.pairwise_singleton _ _, fun a ha b hb => ?_⟩
        rw [List.mem_singleton.mp hb]
        exact free_iff.mp hfr a ha
      · rcases List.mem_append.mp hl with hl | hl
        · exact List.mem_append_left _ (h2 l hl)
        · exact List.mem_append_right _ hl
theorem apart_all (lots : List (List α)) (p : List α → Bool) (h : Apart (lots.filter p)) : lots.filter p ∈ apartOf lots := by
  revert h
  refine rev_ind (P := fun lots => Apart (lots.filter p) → lots.filter p ∈ apartOf lots) ?_ ?_ lots
  · intro _
    unfold apartOf apartOn
    simp
  · intro lots lot ih h
    rw [List.filter_append] at h ⊢
    rw [apart_snoc, List.mem_append]
    have h' := h
    unfold Apart at h'
    rw [List.pairwise_append] at h'
    have h1 := ih h'.1
    cases e : p lot with
    | false =>
      left
      rw [List.filter_cons, e]
      simpa using h1
    | true =>
      right
      rw [List.filter_cons, e] at h' ⊢
      simp only [if_true, List.filter_nil] at h' ⊢
      exact List.mem_map.mpr ⟨_, List.mem_filter.mpr ⟨h1, free_iff.mpr fun l hl => h'.2.2 l hl lot (List.mem_singleton.mpr rfl)⟩, rfl⟩
theorem apart_len (lots : List (List α)) : (apartOf lots).length ≤ 2 ^ lots.length := by
  refine rev_ind (P := fun lots => (apartOf lots).length ≤ 2 ^ lots.length) (Nat.le_refl _) ?_ lots
  intro lots lot ih
  rw [apart_snoc, List.length_append, List.length_map, List.length_append, List.length_singleton, Nat.pow_succ]
  have := List.length_filter_le (freeOf lot) (apartOf lots)
  omega
theorem apart_nil (lots : List (List α)) : ∃ r, apartOf lots = [] :: r := by
  refine rev_ind (P := fun lots => ∃ r, apartOf lots = [] :: r) ⟨[], rfl⟩ ?_ lots
  rintro lots lot ⟨r, e⟩
  rw [apart_snoc, e]
  exact ⟨_, rfl⟩
/-- the sublist of the lots that holds what L holds -/
theorem apart_perm {lots L : List (List α)} (nl : lots.Nodup) (nd : L.Nodup) (hL : ∀ l ∈ L, l ∈ lots) (h : Apart L) : ∃ F ∈ apartOf lots, F.Perm L := by
  have p : (lots.filter fun l => decide (l ∈ L)).Perm L := perm_of_same (nl.sublist List.filter_sublist) nd fun l => by
    rw [List.mem_filter, decide_eq_true_iff]
    exact ⟨fun z => z.2, fun z => ⟨hL l z, z⟩⟩
  refine ⟨_, apart_all lots (fun l => decide (l ∈ L)) ?_, p⟩
  unfold Apart at h ⊢
  exact (p.pairwise_iff fun {a b} hab x hx z => hab x z hx).mpr h
theorem lacking_perm (ws : List (α × α)) (k : Nat) {L L' : List (List α)} (p : L.Perm L') : lacking ws k L = lacking ws k L' := by
  unfold lacking
  induction p with
  | nil => rfl
  | cons x _ ih => rw [List.map_cons, List.sum_cons, List.map_cons, List.sum_cons, ih]
  | swap x y l => rw [List.map_cons, List.sum_cons, List.map_cons, List.sum_cons, List.map_cons, List.sum_cons, List.map_cons, List.sum_cons]; omega
  | trans _ _ h1 h2 => exact h1.trans h2
end
end K86M

end

section
set_option Elab.async false
set_option linter.all false
set_option maxRecDepth 100000
set_option maxHeartbeats 2000000
/-! Data of a Lean type over the layer's heap; their order. -/
namespace K86
open PySem PySem.Spec PyProof.Rows L2
open PySem.W (Datum DatumOrd Tup T3 T4 Holds HoldAll)

/-! ### data without lists -/
mutual
def noL : PyData → Bool
  | .list _ => false
  | .dict _ => false
  | .tuple xs => noLs xs
  | _ => true
def noLs : List PyData → Bool
  | [] => true
  | x :: xs => noL x && noLs xs
end
class Flat (α : Type) [DecidableEq α] [Datum α] : Prop where
  flat : ∀ a : α, noL (Datum.toD a) = true
instance : Flat Int := ⟨fun _ => by show noL (.int _) = true; simp only [noL]⟩
instance : Flat Bool := ⟨fun _ => by show noL (.bool _) = true; simp only [noL]⟩
instance : Flat Str := ⟨fun _ => by show noL (.str _) = true; simp only [noL]⟩
section
variable {α β γ : Type} [DecidableEq α] [Datum α] [Flat α] [DecidableEq β] [Datum β] [Flat β] [DecidableEq γ] [Datum γ] [Flat γ]
theorem noLs_map : ∀ xs : List α, noLs (xs.map Datum.toD) = true
  | [] => by simp only [List.map_nil, noLs]
  | x :: xs => by
    rw [List.map_cons, noLs, Flat.flat x, noLs_map xs]
    rfl
instance : Flat (Tup α) := ⟨fun t => by show noL (.tuple _) = true; simp only [noL]; exact noLs_map t.items⟩
instance : Flat (α × β) := ⟨fun p => by
  show noL (.tuple [_, _]) = true
  simp only [noL, noLs, Flat.flat, Bool.and_self]⟩
instance : Flat (T3 α β γ) := ⟨fun p => by
  show noL (.tuple [_, _, _]) = true
  simp only [noL, noLs, Flat.flat, Bool.and_self]⟩
end

/-! ### heaps in which the tuples stay -/
def Keep (H H' : Hp) : Prop := ∀ b xs, Rd H b (.tup xs) → Rd H' b (.tup xs)
theorem Keep.refl (H : Hp) : Keep H H := fun _ _ h => h
theorem Keep.trans {H H1 H2 : Hp} (a : Keep H H1) (b : Keep H1 H2) : Keep H H2 := fun c xs h => b c xs (a c xs h)
theorem keep_same {H H' : Hp} (s : Same H H') : Keep H H' := fun b xs h => by
  rcases h with h | ⟨o, h⟩
  · exact .inl (s _ _ h)
  · exact .inr ⟨o, s _ _ h⟩
theorem keep_upd {H : Hp} {l : Addr} {o : HO} (h : ∀ xs, ¬ Rd H l (.tup xs)) : Keep H (upd H l o) := fun b xs e => by
  have hb : b ≠ l := fun z => by
    subst z
    exact h _ e
  rcases e with e | ⟨p, e⟩
  · exact .inl (by rw [upd_ne hb]; exact e)
  · exact .inr ⟨p, by rw [upd_ne hb]; exact e⟩
theorem keep_new {H : Hp} {l : Addr} {o : HO} (h : H l = none) : Keep H (upd H l o) := keep_upd fun xs e => by
  rcases e with e | ⟨p, e⟩
  · rw [h] at e; cases e
  · rw [h] at e; cases e
theorem keep_lst {H : Hp} {l : Addr} {o : HO} {ys : List V} (h : H l = some (.lst ys)) : Keep H (upd H l o) := keep_upd fun xs e => by
  rcases e with e | ⟨p, e⟩
  · rw [h] at e; cases e
  · rw [h] at e; cases e
theorem keep_dK {H : Hp} {l : Addr} {o : HO} {ys : List (Key × V)} (h : H l = some (.dK ys)) : Keep H (upd H l o) := keep_upd fun xs e => by
  rcases e with e | ⟨p, e⟩
  · rw [h] at e; cases e
  · rw [h] at e; cases e
theorem same_new {H : Hp} {p : Addr} {o : HO} (h : H p = none) : Same H (upd H p o) := fun b x e => by
  rw [upd_ne (ne_of_none e h)]
  exact e
/-- a change at an address that was free in an earlier heap -/
theorem same_at {H H1 : Hp} {p : Addr} {o : HO} (s : Same H H1) (h : H p = none) : Same H (upd H1 p o) := fun b x e => by
  rw [upd_ne (ne_of_none e h)]
  exact s _ _ e
theorem Keep.seqT {K : PySem.W.Frag} {H H' : Hp} {a : Addr} {xs : List V} (k : Keep H H') (h : SqT K H a xs) : SqT K H' a xs := by
  rcases h with h | h
  · exact .inl (k _ _ h)
  · exact .inr h
mutual
theorem dp_keep {K : PySem.W.Frag} {H H' : Hp} (k : Keep H H') : ∀ (d : PyData) (v : V), noL d = true → Dp K H v d → Dp K H' v d
  | .none, _, _, h => by cases h; exact .non
  | .bool _, _, _, h => by cases h; exact .bl _
  | .int _, _, _, h => by cases h; exact .int _
  | .str _, _, _, h => by cases h; exact .str _
  | .list _, _, n, _ => by simp [noL] at n
  | .dict _, _, n, _ => by simp [noL] at n
  | .tuple ds, _, n, h => by
    cases h with
    | tup hs ha => exact .tup (k.seqT hs) (dps_keep k ds _ (by simpa [noL] using n) ha)
theorem dps_keep {K : PySem.W.Frag} {H H' : Hp} (k : Keep H H') : ∀ (ds : List PyData) (vs : List V), noLs ds = true → DpAll K H vs ds → DpAll K H' vs ds
  | [], _, _, h => by cases h; exact .nil
  | d :: ds, _, n, h => by
    simp only [noLs, Bool.and_eq_true] at n
    cases h with
    | cons h1 h2 => exact .cons (dp_keep k d _ n.1 h1) (dps_keep k ds _ n.2 h2)
end

/-! ### a value that is a datum -/
section
variable {α β γ : Type} [DecidableEq α] [Datum α] [DecidableEq β] [Datum β] [DecidableEq γ] [Datum γ] {K : PySem.W.Frag} {H H' : Hp}
def Is (K : PySem.W.Frag) (H : Hp) (v : V) (x : α) : Prop := Dp K H v (Datum.toD x)
def IsAll (K : PySem.W.Frag) (H : Hp) (vs : List V) (xs : List α) : Prop := DpAll K H vs (xs.map Datum.toD)
theorem Is.keep [Flat α] {v : V} {x : α} (k : Keep H H') (h : Is K H v x) : Is K H' v x := dp_keep k _ _ (Flat.flat x) h
theorem IsAll.keep [Flat α] {vs : List V} {xs : List α} (k : Keep H H') (h : IsAll K H vs xs) : IsAll K H' vs xs := dps_keep k _ _ (noLs_map xs) h
theorem is_int (i : Int) : Is K H (.int i) i := .int i
theorem is_bl (b : Bool) : Is K H (.bl b) b := .bl b
theorem is_str (x : Str) : Is K H (.str x) x := .str x
theorem is_tup {a : Addr} {vs : List V} {xs : List α} (h : SqT K H a vs) (e : IsAll K H vs xs) : Is K H (.ref a) (Tup.mk xs) := .tup h e
theorem is_lst {a : Addr} {vs : List V} {xs : List α} (h : SqL K H a vs) (e : IsAll K H vs xs) : Is K H (.ref a) xs := .lst h e
theorem is_pair {a : Addr} {u v : V} {x : α} {y : β} (h : SqT K H a [u, v]) (hx : Is K H u x) (hy : Is K H v y) : Is K H (.ref a) (x, y) := .tup h (.cons hx (.cons hy .nil))
theorem is_t3 {a : Addr} {u v w : V} {x : α} {y : β} {z : γ} (h : SqT K H a [u, v, w]) (hx : Is K H u x) (hy : Is K H v y) (hz : Is K H w z) : Is K H (.ref a) (T3.mk x y z) := .tup h (.cons hx (.cons hy (.cons hz .nil)))
theorem Is.int {v : V} {i : Int} (h : Is K H v i) : v = .int i := by
  have h : Dp K H v (.int i) := h
  cases h
  rfl
theorem Is.bl {v : V} {i : Bool} (h : Is K H v i) : v = .bl i := by
  have h : Dp K H v (.bool i) := h
  cases h
  rfl
theorem Is.str {v : V} {i : Str} (h : Is K H v i) : v = .str i := by
  have h : Dp K H v (.str i) := h
  cases h
  rfl
theorem Is.tup {v : V} {t : Tup α} (h : Is K H v t) : ∃ a vs, v = .ref a ∧ SqT K H a vs ∧ IsAll K H vs t.items := by
  have h : Dp K H v (.tuple (t.items.map Datum.toD)) := h
  cases h with
  | tup h1 h2 => exact ⟨_, _, rfl, h1, h2⟩
theorem Is.lst {v : V} {xs : List α} (h : Is K H v xs) : ∃ a vs, v = .ref a ∧ SqL K H a vs ∧ IsAll K H vs xs := by
  have h : Dp K H v (.list (xs.map Datum.toD)) := h
  cases h with
  | lst h1 h2 => exact ⟨_, _, rfl, h1, h2⟩
theorem Is.pair {v : V} {p : α × β} (h : Is K H v p) : ∃ a u w, v = .ref a ∧ SqT K H a [u, w] ∧ Is K H u p.1 ∧ Is K H w p.2 := by
  have h : Dp K H v (.tuple [Datum.toD p.1, Datum.toD p.2]) := h
  cases h with
  | tup h1 h2 =>
    cases h2 with
    | cons a1 r1 =>
      cases r1 with
      | cons a2 r2 =>
        cases r2
        exact ⟨_, _, _, rfl, h1, a1, a2⟩
theorem Is.t3 {v : V} {p : T3 α β γ} (h : Is K H v p) : ∃ a u w z, v = .ref a ∧ SqT K H a [u, w, z] ∧ Is K H u p.a ∧ Is K H w p.b ∧ Is K H z p.c := by
  have h : Dp K H v (.tuple [Datum.toD p.a, Datum.toD p.b, Datum.toD p.c]) := h
  cases h with
  | tup h1 h2 =>
    cases h2 with
    | cons a1 r1 =>
      cases r1 with
      | cons a2 r2 =>
        cases r2 with
        | cons a3 r3 =>
          cases r3
          exact ⟨_, _, _, _, rfl, h1, a1, a2, a3⟩
theorem IsAll.nil : IsAll K H [] ([] : List α) := DpAll.nil
theorem IsAll.cons {v : V} {vs : List V} {x : α} {xs : List α} (h : Is K H v x) (t : IsAll K H vs xs) : IsAll K H (v :: vs) (x :: xs) := DpAll.cons h t
theorem IsAll.uncons {v : V} {vs : List V} {x : α} {xs : List α} (h : IsAll K H (v :: vs) (x :: xs)) : Is K H v x ∧ IsAll K H vs xs := by
  have h : DpAll K H (v :: vs) (Datum.toD x :: xs.map Datum.toD) := h
  cases h with
  | cons h1 h2 => exact ⟨h1, h2⟩
theorem IsAll.length : ∀ {vs : List V} {xs : List α}, IsAll K H vs xs → vs.length = xs.length
  | [], [], _ => rfl
  | [], _ :: _, h => by
    have h : DpAll K H [] (_ :: _) := h
    cases h
  | _ :: _, [], h => by
    have h : DpAll K H (_ :: _) [] := h
    cases h
  | _ :: vs, _ :: xs, h => by rw [List.length_cons, List.length_cons, IsAll.length h.uncons.2]
theorem IsAll.append : ∀ {vs : List V} {xs : List α} {ws : List V} {ys : List α}, IsAll K H vs xs → IsAll K H ws ys → IsAll K H (vs ++ ws) (xs ++ ys)
  | [], [], _, _, _, k => k
  | [], _ :: _, _, _, h, _ => by cases h.length
  | _ :: _, [], _, _, h, _ => by cases h.length
  | _ :: _, _ :: _, _, _, h, k => .cons h.uncons.1 (IsAll.append h.uncons.2 k)
theorem IsAll.at : ∀ {vs : List V} {xs : List α}, IsAll K H vs xs → ∀ {i : Nat} {v : V}, vs[i]? = some v → ∃ x, xs[i]? = some x ∧ Is K H v x
  | [], _, _, i, v, e => by simp at e
  | _ :: _, [], h, _, _, _ => by cases h.length
  | w :: vs, x :: xs, h, 0, v, e => by
    have e : w = v := Option.some.inj e
    subst e
    exact ⟨x, rfl, h.uncons.1⟩
  | w :: vs, x :: xs, h, i + 1, v, e => IsAll.at h.uncons.2 (i := i) (by simpa using e)
theorem IsAll.at' : ∀ {vs : List V} {xs : List α}, IsAll K H vs xs → ∀ {i : Nat} {x : α}, xs[i]? = some x → ∃ v, vs[i]? = some v ∧ Is K H v x
  | _, [], _, i, v, e => by simp at e
  | [], _ :: _, h, _, _, _ => by cases h.length
  | w :: vs, x :: xs, h, 0, v, e => by
    have e : x = v := Option.some.inj e
    subst e
    exact ⟨w, rfl, h.uncons.1⟩
  | w :: vs, x :: xs, h, i + 1, v, e => IsAll.at' h.uncons.2 (i := i) (by simpa using e)
theorem IsAll.take {vs : List V} {xs : List α} (h : IsAll K H vs xs) (n : Nat) : IsAll K H (vs.take n) (xs.take n) := by
  induction vs generalizing xs n with
  | nil =>
    cases xs with
    | nil => simpa using h
    | cons _ _ => cases h.length
  | cons v vs ih =>
    cases xs with
    | nil => cases h.length
    | cons x xs =>
      cases n with
      | zero => exact .nil
      | succ n => exact .cons h.uncons.1 (ih h.uncons.2 n)
theorem IsAll.drop {vs : List V} {xs : List α} (h : IsAll K H vs xs) (n : Nat) : IsAll K H (vs.drop n) (xs.drop n) := by
  induction vs generalizing xs n with
  | nil =>
    cases xs with
    | nil => simpa using h
    | cons _ _ => cases h.length
  | cons v vs ih =>
    cases xs with
    | nil => cases h.length
    | cons x xs =>
      cases n with
      | zero => exact h
      | succ n => exact ih h.uncons.2 n
theorem isAll_ints : ∀ {vs : List V} {xs : List Int}, IsAll K H vs xs → vs = xs.map V.int
  | [], [], _ => rfl
  | [], _ :: _, h => by cases h.length
  | _ :: _, [], h => by cases h.length
  | _ :: vs, x :: xs, h => by rw [List.map_cons, h.uncons.1.int, isAll_ints h.uncons.2]
theorem ints_isAll : ∀ xs : List Int, IsAll K H (xs.map V.int) xs
  | [] => .nil
  | x :: xs => .cons (is_int x) (ints_isAll xs)
theorem isAll_strs : ∀ {vs : List V} {xs : List Str}, IsAll K H vs xs → vs = xs.map V.str
  | [], [], _ => rfl
  | [], _ :: _, h => by cases h.length
  | _ :: _, [], h => by cases h.length
  | _ :: vs, x :: xs, h => by rw [List.map_cons, h.uncons.1.str, isAll_strs h.uncons.2]
theorem strs_isAll : ∀ xs : List Str, IsAll K H (xs.map V.str) xs
  | [] => .nil
  | x :: xs => .cons (is_str x) (strs_isAll xs)
/-- vs from what they are, one by one -/
theorem isAll_of : ∀ {vs : List V} {xs : List α}, vs.length = xs.length → (∀ (i : Nat) v x, vs[i]? = some v → xs[i]? = some x → Is K H v x) → IsAll K H vs xs
  | [], [], _, _ => .nil
  | [], _ :: _, e, _ => by cases e
  | _ :: _, [], e, _ => by cases e
  | v :: vs, x :: xs, e, h => .cons (h 0 v x rfl rfl) (isAll_of (Nat.succ.inj e) fun i v x h1 h2 => h (i + 1) v x (by simpa using h1) (by simpa using h2))
end

/-! ### into the library's own words -/
section
variable {α : Type} [DecidableEq α] [Datum α] {X : Cx} {pins : List (Addr × Obj)} {σ : L2.St} {H : Hp} {s : Shared}
theorem Is.holds (I : Inv X pins σ H s) {v : V} {u : Value} {x : α} (h : Is X.K H v x) (r : RelV v u) : Holds s.heap u x := Dp.reads I _ v u h r
theorem IsAll.holds (I : Inv X pins σ H s) {vs : List V} {us : List Value} {xs : List α} (h : IsAll X.K H vs xs) (r : Vals vs us) : HoldAll s.heap us xs := Dp.readsAll I _ vs us h r
end
end K86

end

section
set_option Elab.async false
set_option linter.all false
set_option maxRecDepth 100000
set_option maxHeartbeats 2000000
/-! Order of data; sorted, min, max, comparisons. -/
namespace K86
open PySem PySem.Spec PyProof.Rows L2
open PySem.W (Datum DatumOrd Tup T3 T4 Holds HoldAll)

/-! ### orders -/
class Lin (α : Type) [DecidableEq α] [DatumOrd α] : Prop where
  irr : ∀ a : α, DatumOrd.lt a a = false
  tr : ∀ a b c : α, DatumOrd.lt a b = true → DatumOrd.lt b c = true → DatumOrd.lt a c = true
  tri : ∀ a b : α, DatumOrd.lt a b = false → DatumOrd.lt b a = false → a = b
theorem lin_asym {α : Type} [DecidableEq α] [DatumOrd α] [Lin α] {a b : α} (h : DatumOrd.lt a b = true) : DatumOrd.lt b a = false := by
  cases e : DatumOrd.lt b a with
  | false => rfl
  | true =>
    have := Lin.tr a b a h e
    rw [Lin.irr] at this
    cases this
theorem lin_le_tr {α : Type} [DecidableEq α] [DatumOrd α] [Lin α] {a b c : α} (h1 : DatumOrd.lt b a = false) (h2 : DatumOrd.lt c b = false) : DatumOrd.lt c a = false := by
  cases e : DatumOrd.lt c a with
  | false => rfl
  | true =>
    cases e1 : DatumOrd.lt a b with
    | true =>
      have := Lin.tr c a b e e1
      rw [h2] at this
      cases this
    | false =>
      have eq := Lin.tri a b e1 h1
      subst eq
      rw [h2] at e
      cases e
instance : Lin Int where
  irr a := decide_eq_false (Int.lt_irrefl a)
  tr a b c h1 h2 := decide_eq_true (Int.lt_trans (of_decide_eq_true h1) (of_decide_eq_true h2))
  tri a b h1 h2 := by
    have h1 : ¬ a < b := of_decide_eq_false h1
    have h2 : ¬ b < a := of_decide_eq_false h2
    omega
theorem str_same {a b : Str} (h : a.cps.toList = b.cps.toList) : a = b := by
  obtain ⟨a⟩ := a
  obtain ⟨b⟩ := b
  have : a = b := by
    obtain ⟨a⟩ := a
    obtain ⟨b⟩ := b
    exact congrArg Array.mk h
  rw [this]
instance : Lin Str where
  irr a := decide_eq_false (List.lt_irrefl _)
  tr a b c h1 h2 := decide_eq_true (List.lt_trans (of_decide_eq_true h1) (of_decide_eq_true h2))
  tri a b h1 h2 := by
    have h1 : ¬ a.cps.toList < b.cps.toList := of_decide_eq_false h1
    have h2 : ¬ b.cps.toList < a.cps.toList := of_decide_eq_false h2
    exact str_same (List.le_antisymm (List.not_lt.mp h2) (List.not_lt.mp h1))
section
variable {α β γ : Type} [DecidableEq α] [DatumOrd α] [Lin α] [DecidableEq β] [DatumOrd β] [Lin β] [DecidableEq γ] [DatumOrd γ] [Lin γ]
theorem pair_lt (p q : α × β) : DatumOrd.lt p q = if p.1 = q.1 then DatumOrd.lt p.2 q.2 else DatumOrd.lt p.1 q.1 := rfl
instance : Lin (α × β) where
  irr a := by rw [pair_lt, if_pos rfl]; exact Lin.irr _
  tr a b c h1 h2 := by
    rw [pair_lt] at h1 h2 ⊢
    split at h1 <;> split at h2
    · rename_i e1 e2
      rw [if_pos (e1.trans e2)]
      exact Lin.tr _ _ _ h1 h2
    · rename_i e1 e2
      rw [if_neg (fun z => e2 (e1.symm.trans z)), e1]
      exact h2
    · rename_i e1 e2
      rw [if_neg (fun z => e1 (z.trans e2.symm)), ← e2]
      exact h1
    · rename_i e1 e2
      have h3 := Lin.tr _ _ _ h1 h2
      rw [if_neg (fun z => by rw [z] at h1; rw [lin_asym h2] at h1; cases h1)]
      exact h3
  tri a b h1 h2 := by
    rw [pair_lt] at h1 h2
    by_cases e : a.1 = b.1
    · rw [if_pos e] at h1
      rw [if_pos e.symm] at h2
      exact Prod.ext e (Lin.tri _ _ h1 h2)
    · rw [if_neg e] at h1
      rw [if_neg (Ne.symm e)] at h2
      exact absurd (Lin.tri _ _ h1 h2) e
theorem listLt_irr : ∀ a : List α, PySem.W.listLt a a = false
  | [] => rfl
  | x :: xs => by
    unfold PySem.W.listLt
    rw [if_pos rfl]
    exact listLt_irr xs
theorem listLt_tr : ∀ a b c : List α, PySem.W.listLt a b = true → PySem.W.listLt b c = true → PySem.W.listLt a c = true
  | [], [], _, h, _ => by cases h
  | [], _ :: _, [], _, h => by cases h
  | [], _ :: _, _ :: _, _, _ => rfl
  | _ :: _, [], _, h, _ => by cases h
  | _ :: _, _ :: _, [], _, h => by cases h
  | x :: xs, y :: ys, z :: zs, h1, h2 => by
    unfold PySem.W.listLt at h1 h2 ⊢
    split at h1 <;> split at h2
    · rename_i e1 e2
      rw [if_pos (e1.trans e2)]
      exact listLt_tr xs ys zs h1 h2
    · rename_i e1 e2
      rw [if_neg (fun z => e2 (e1.symm.trans z)), e1]
      exact h2
    · rename_i e1 e2
      rw [if_neg (fun z => e1 (z.trans e2.symm)), ← e2]
      exact h1
    · rename_i e1 e2
      have h3 := Lin.tr _ _ _ h1 h2
      rw [if_neg (fun z => by rw [z] at h1; rw [lin_asym h2] at h1; cases h1)]
      exact h3
theorem listLt_tri : ∀ a b : List α, PySem.W.listLt a b = false → PySem.W.listLt b a = false → a = b
  | [], [], _, _ => rfl
  | [], _ :: _, h, _ => by cases h
  | _ :: _, [], _, h => by cases h
  | x :: xs, y :: ys, h1, h2 => by
    unfold PySem.W.listLt at h1 h2
    by_cases e : x = y
    · rw [if_pos e] at h1
      rw [if_pos e.symm] at h2
      rw [e, listLt_tri xs ys h1 h2]
    · rw [if_neg e] at h1
      rw [if_neg (Ne.symm e)] at h2
      exact absurd (Lin.tri _ _ h1 h2) e
instance : Lin (Tup α) where
  irr a := listLt_irr a.items
  tr a b c := listLt_tr a.items b.items c.items
  tri a b h1 h2 := by
    have := listLt_tri a.items b.items h1 h2
    cases a
    cases b
    exact congrArg Tup.mk this
theorem t3_lt (p q : T3 α β γ) : DatumOrd.lt p q = if p.a = q.a then (if p.b = q.b then DatumOrd.lt p.c q.c else DatumOrd.lt p.b q.b) else DatumOrd.lt p.a q.a := rfl
theorem t3_lt' (p q : T3 α β γ) : DatumOrd.lt p q = DatumOrd.lt (p.a, (p.b, p.c)) (q.a, (q.b, q.c)) := by
  rw [t3_lt, pair_lt, pair_lt]
instance : Lin (T3 α β γ) where
  irr a := by rw [t3_lt']; exact Lin.irr _
  tr a b c := by rw [t3_lt', t3_lt', t3_lt']; exact Lin.tr _ _ _
  tri a b := by
    rw [t3_lt', t3_lt']
    intro h1 h2
    have h := Lin.tri _ _ h1 h2
    cases a
    cases b
    simp only [Prod.mk.injEq] at h
    obtain ⟨e1, e2, e3⟩ := h
    rw [e1, e2, e3]
end

/-! ### sorted lists -/
section
variable {α : Type} [DecidableEq α] [DatumOrd α] [Lin α]
def leO (a b : α) : Bool := !DatumOrd.lt b a
def srt (xs : List α) : List α := xs.mergeSort leO
theorem leO_iff {a b : α} : leO a b = true ↔ DatumOrd.lt b a = false := by
  unfold leO
  cases DatumOrd.lt b a <;> simp
theorem leO_tr (a b c : α) (h1 : leO a b = true) (h2 : leO b c = true) : leO a c = true := leO_iff.mpr (lin_le_tr (leO_iff.mp h1) (leO_iff.mp h2))
theorem leO_tot (a b : α) : (leO a b || leO b a) = true := by
  unfold leO
  cases e : DatumOrd.lt b a with
  | false => rfl
  | true => rw [lin_asym e]; rfl
theorem leO_anti {a b : α} (h1 : leO a b = true) (h2 : leO b a = true) : a = b := Lin.tri _ _ (leO_iff.mp h2) (leO_iff.mp h1)
def Up (xs : List α) : Prop := xs.Pairwise fun a b => leO a b = true
theorem srt_perm (xs : List α) : (srt xs).Perm xs := List.mergeSort_perm xs leO
theorem srt_up (xs : List α) : Up (srt xs) := List.pairwise_mergeSort leO_tr leO_tot xs
theorem up_same {xs ys : List α} (h1 : Up xs) (h2 : Up ys) (p : xs.Perm ys) : xs = ys := List.Perm.eq_of_pairwise (fun _ _ _ _ => leO_anti) h1 h2 p
theorem srt_same {xs ys : List α} (p : xs.Perm ys) : srt xs = srt ys := up_same (srt_up _) (srt_up _) ((srt_perm xs).trans (p.trans (srt_perm ys).symm))
theorem srt_of_up {xs : List α} (h : Up xs) : srt xs = xs := up_same (srt_up _) h (srt_perm xs)
theorem srt_length (xs : List α) : (srt xs).length = xs.length := (srt_perm xs).length_eq
theorem srt_mem {xs : List α} {x : α} : x ∈ srt xs ↔ x ∈ xs := (srt_perm xs).mem_iff
def UpS (xs : List α) : Prop := xs.Pairwise fun a b => DatumOrd.lt a b = true
theorem UpS.up {xs : List α} (h : UpS xs) : Up xs := h.imp fun h => leO_iff.mpr (lin_asym h)
theorem UpS.nodup {xs : List α} (h : UpS xs) : xs.Nodup := h.imp fun {a b} h e => by
  subst e
  rw [Lin.irr] at h
  cases h
theorem Up.strict {xs : List α} (h : Up xs) (nd : xs.Nodup) : UpS xs := by
  refine (List.Pairwise.and h nd).imp fun {a b} h => ?_
  cases e : DatumOrd.lt a b with
  | true => rfl
  | false => exact absurd (Lin.tri _ _ e (leO_iff.mp h.1)) h.2
theorem UpS.filter {xs : List α} (h : UpS xs) (p : α → Bool) : UpS (xs.filter p) := h.sublist List.filter_sublist
theorem dataLe_srt : PySem.W.dataLe (β := α) false Datum.toD = leO := by
  rw [PySem.W.dataLe_eq]
  funext a b
  show (!PySem.W.dataLt (Datum.toD b) (Datum.toD a)) = !DatumOrd.lt b a
  rw [DatumOrd.lt_eq]
theorem maxOf_mem (x : α) (xs : List α) : PySem.W.maxOf x xs ∈ x :: xs := by
  unfold PySem.W.maxOf
  induction xs generalizing x with
  | nil => exact List.mem_cons_self ..
  | cons y ys ih =>
    rw [List.foldl_cons]
    have h := ih (if DatumOrd.lt x y = true then y else x)
    rcases List.mem_cons.mp h with e | e
    · rw [e]
      split
      · exact List.mem_cons_of_mem _ (List.mem_cons_self ..)
      · exact List.mem_cons_self ..
    · exact List.mem_cons_of_mem _ (List.mem_cons_of_mem _ e)
theorem minOf_mem (x : α) (xs : List α) : PySem.W.minOf x xs ∈ x :: xs := by
  unfold PySem.W.minOf
  induction xs generalizing x with
  | nil => exact List.mem_cons_self ..
  | cons y ys ih =>
    rw [List.foldl_cons]
    have h := ih (if DatumOrd.lt y x = true then y else x)
    rcases List.mem_cons.mp h with e | e
    · rw [e]
      split
      · exact List.mem_cons_of_mem _ (List.mem_cons_self ..)
      · exact List.mem_cons_self ..
    · exact List.mem_cons_of_mem _ (List.mem_cons_of_mem _ e)
theorem maxOf_le (x : α) (xs : List α) : ∀ y ∈ x :: xs, leO y (PySem.W.maxOf x xs) = true := by
  unfold PySem.W.maxOf
  induction xs generalizing x with
  | nil =>
    intro y hy
    rw [List.mem_singleton.mp hy]
    exact leO_iff.mpr (Lin.irr _)
  | cons z zs ih =>
    intro y hy
    rw [List.foldl_cons]
    have h := ih (if DatumOrd.lt x z = true then z else x)
    have h0 := h _ (List.mem_cons_self ..)
    rcases List.mem_cons.mp hy with e | hy
    · subst e
      refine leO_tr _ _ _ ?_ h0
      split
      · rename_i c
        exact leO_iff.mpr (lin_asym c)
      · exact leO_iff.mpr (Lin.irr _)
    · rcases List.mem_cons.mp hy with e | hy
      · subst e
        refine leO_tr _ _ _ ?_ h0
        split
        · exact leO_iff.mpr (Lin.irr _)
        · rename_i c
          exact leO_iff.mpr (by simpa using c)
      · exact h _ (List.mem_cons_of_mem _ hy)
theorem minOf_le (x : α) (xs : List α) : ∀ y ∈ x :: xs, leO (PySem.W.minOf x xs) y = true := by
  unfold PySem.W.minOf
  induction xs generalizing x with
  | nil =>
    intro y hy
    rw [List.mem_singleton.mp hy]
    exact leO_iff.mpr (Lin.irr _)
  | cons z zs ih =>
    intro y hy
    rw [List.foldl_cons]
    have h := ih (if DatumOrd.lt z x = true then z else x)
    have h0 := h _ (List.mem_cons_self ..)
    rcases List.mem_cons.mp hy with e | hy
    · subst e
      refine leO_tr _ _ _ h0 ?_
      split
      · rename_i c
        exact leO_iff.mpr (lin_asym c)
      · exact leO_iff.mpr (Lin.irr _)
    · rcases List.mem_cons.mp hy with e | hy
      · subst e
        refine leO_tr _ _ _ h0 ?_
        split
        · exact leO_iff.mpr (Lin.irr _)
        · rename_i c
          exact leO_iff.mpr (by simpa using c)
      · exact h _ (List.mem_cons_of_mem _ hy)
end

/-! ### sorted over anything that is gathered -/
mutual
theorem reads_noL {h : Heap} : ∀ {d : PyData} {v : Value} {as : List Addr}, noL d = true → Reads h v d as → as = []
  | .none, _, _, _, r => by cases r; rfl
  | .bool _, _, _, _, r => by cases r; rfl
  | .int _, _, _, _, r => by cases r; rfl
  | .str _, _, _, _, r => by cases r; rfl
  | .list _, _, _, n, _ => by simp [noL] at n
  | .dict _, _, _, n, _ => by simp [noL] at n
  | .tuple ds, _, _, n, r => by
    cases r with
    | tuple _ _ _ h4 => exact reads_noLs (by simpa [noL] using n) h4
theorem reads_noLs {h : Heap} : ∀ {ds : List PyData} {vs : List Value} {as : List Addr}, noLs ds = true → ReadsAll h vs ds as → as = []
  | [], _, _, _, r => by cases r; rfl
  | d :: ds, _, _, n, r => by
    simp only [noLs, Bool.and_eq_true] at n
    cases r with
    | cons h1 h2 => rw [reads_noL n.1 h1, reads_noLs n.2 h2]; rfl
end
section
variable {α : Type} [DecidableEq α] [DatumOrd α] [Lin α] [Flat α] {prog : Program} {w : World} {A : Around} {E : Value → Shared → Prop} {s : Shared}
open PySem.W (EachIs) in
theorem each_of_holds {h : Heap} : ∀ {vs : List Value} {xs : List α}, HoldAll h vs xs → EachIs (fun v x => Holds h v x) vs xs
  | [], [], _ => .nil
  | [], _ :: _, e => by cases e.length
  | _ :: _, [], e => by cases e.length
  | _ :: _, _ :: _, e => .cons e.head.1 (each_of_holds e.head.2)
open PySem.W (EachIs) in
/-- a new list of what was gathered, then sorted -/
theorem sort_new {vs : List Value} {xs : List α} {R : Value → α → Prop} {β : Type} {k : Value → Sem β} {Q : β → Shared → Prop} (e : EachIs R vs xs) (hv : HoldAll s.heap vs xs) (hk : PySem.W.Sortable (xs.map Datum.toD)) (hL : xs.length ≤ sizeLine) (hu : A.units + 1 + Datum.depth α < cLine)
    (h : ∀ (h' : Heap) (out : List Value) (c : Nat), (∀ b o, s.heap.get? b = some o → h'.get? b = some o) → EachIs R out (srt xs) → h'.get? s.heap.objs.size = some (seqObj "list" out.toArray c) → wpAny (model prog w) A (k (.ref s.heap.objs.size)) Q E { s with heap := h' }) :
    wpAny (model prog w) A (newList vs >>= fun l => holding [l] (call (.builtin "list.sort") [l] []) >>= fun _ => k l) Q E s := by
  have hlen : vs.length = xs.length := hv.length
  refine wpAny_bind (wpAny_newList ?_ (by rw [hlen]; exact hL))
  have ho : (s.heap.push { cls := .type "list", data := .seq vs.toArray }).get? s.heap.objs.size = some (seqObj "list" vs.toArray 0) := Heap.get?_push_size _ rfl
  have kp : ∀ b o, s.heap.get? b = some o → (s.heap.push { cls := .type "list", data := .seq vs.toArray }).get? b = some o := fun b o e => Heap.get?_push_of_some _ e
  have er : EachIs (fun v b => ∃ as, Reads (s.heap.push { cls := .type "list", data := .seq vs.toArray }) v (Datum.toD b) as ∧ s.heap.objs.size ∉ as) vs xs := (each_of_holds (hv.keeps kp)).mono fun v b ⟨as, r⟩ => ⟨as, r, by
    rw [reads_noL (Flat.flat b) r]
    exact List.not_mem_nil⟩
  refine wpAny_bind (wpAny_holding (PySem.W.list_sort_data (s := { s with heap := s.heap.push { cls := .type "list", data := .seq vs.toArray } }) ho e er (PySem.W.AllAlike.of fun b b' => DatumOrd.alike b b') hk hL (fun b _ => ?_) fun out h1 h2 => ?_))
  · have := Datum.depth_le b
    omega
  · obtain ⟨c, hc⟩ := PyProof.Rows.sortedHeap_at (vs := vs) (out := out.toArray) ho
    refine h _ out c (fun b o q => ?_) ?_ hc
    · have hb : b ≠ s.heap.objs.size := Nat.ne_of_lt (Heap.lt_size q)
      show (PyProof.Rows.sortedHeap _ _ _ _).get? b = some o
      rw [PyProof.Rows.sortedHeap_old hb (Heap.lt_size (kp b o q))]
      exact kp b o q
    · rw [dataLe_srt] at h2
      exact h2
end
end K86

end

section
set_option Elab.async false
set_option linter.all false
set_option maxRecDepth 100000
set_option maxHeartbeats 2000000
/-! Comparisons, membership, min, max, sorted, index, of data. -/
namespace K86
open PySem PySem.Spec PyProof.Rows L2
open PySem.W (Datum DatumOrd Tup T3 T4 Holds HoldAll)
section
variable {X : Cx} {α : Type} [DecidableEq α] [Datum α]
def rEqT (K : PySem.W.Frag) (α : Type) [DecidableEq α] [Datum α] : R2 := fun x y H Q => ∃ a b : α, Is K H x a ∧ Is K H y b ∧ Q (.bl (decide (a = b))) H
def rNeT (K : PySem.W.Frag) (α : Type) [DecidableEq α] [Datum α] : R2 := fun x y H Q => ∃ a b : α, Is K H x a ∧ Is K H y b ∧ Q (.bl (decide (a ≠ b))) H
theorem op_eqT (hu : X.A.units + 64 < cLine) (hd : Datum.depth α ≤ 60 := by decide) : OpR X (compareOp .Eq) (rEqT X.K α) := by
  intro pins s σ H x y v u Q I rx ry h
  obtain ⟨a, b, ha, hb, q⟩ := h
  exact PySem.W.eq_datum (ha.holds I rx) (hb.holds I ry) (by omega) ⟨.bl _, H, I, rfl, q⟩
theorem op_neT (hu : X.A.units + 64 < cLine) (hd : Datum.depth α ≤ 60 := by decide) : OpR X (compareOp .NotEq) (rNeT X.K α) := by
  intro pins s σ H x y v u Q I rx ry h
  obtain ⟨a, b, ha, hb, q⟩ := h
  exact PySem.W.ne_datum (ha.holds I rx) (hb.holds I ry) (by omega) ⟨.bl _, H, I, rfl, q⟩
def rInT (K : PySem.W.Frag) (α : Type) [DecidableEq α] [Datum α] : R2 := fun x y H Q => ∃ (a : α) (t : Tup α), Is K H x a ∧ Is K H y t ∧ Q (.bl (decide (a ∈ t.items))) H
def rNinT (K : PySem.W.Frag) (α : Type) [DecidableEq α] [Datum α] : R2 := fun x y H Q => ∃ (a : α) (t : Tup α), Is K H x a ∧ Is K H y t ∧ Q (.bl (decide (a ∉ t.items))) H
def rInL (K : PySem.W.Frag) (α : Type) [DecidableEq α] [Datum α] : R2 := fun x y H Q => ∃ (a : α) (t : List α), Is K H x a ∧ Is K H y t ∧ Q (.bl (decide (a ∈ t))) H
def rNinL (K : PySem.W.Frag) (α : Type) [DecidableEq α] [Datum α] : R2 := fun x y H Q => ∃ (a : α) (t : List α), Is K H x a ∧ Is K H y t ∧ Q (.bl (decide (a ∉ t))) H
theorem op_inT (hu : X.A.units + 64 < cLine) (hd : Datum.depth α ≤ 60 := by decide) : OpR X (compareOp .In) (rInT X.K α) := by
  intro pins s σ H x y v u Q I rx ry h
  obtain ⟨a, b, ha, hb, q⟩ := h
  obtain ⟨l, vs, rfl, hl, hv⟩ := PySem.W.tup_of_holds (hb.holds I ry)
  exact PySem.W.in_tuple_datum hl hv (ha.holds I rx) (by omega) ⟨.bl _, H, I, rfl, q⟩
theorem op_ninT (hu : X.A.units + 64 < cLine) (hd : Datum.depth α ≤ 60 := by decide) : OpR X (compareOp .NotIn) (rNinT X.K α) := by
  intro pins s σ H x y v u Q I rx ry h
  obtain ⟨a, b, ha, hb, q⟩ := h
  obtain ⟨l, vs, rfl, hl, hv⟩ := PySem.W.tup_of_holds (hb.holds I ry)
  exact PySem.W.notIn_tuple_datum hl hv (ha.holds I rx) (by omega) ⟨.bl _, H, I, rfl, q⟩
theorem op_inL (hu : X.A.units + 64 < cLine) (hd : Datum.depth α ≤ 60 := by decide) : OpR X (compareOp .In) (rInL X.K α) := by
  intro pins s σ H x y v u Q I rx ry h
  obtain ⟨a, b, ha, hb, q⟩ := h
  obtain ⟨l, vs, rfl, hl, hv⟩ := PySem.W.list_of_holds (hb.holds I ry)
  exact PySem.W.in_list_datum hl hv (ha.holds I rx) (by omega) ⟨.bl _, H, I, rfl, q⟩
theorem op_ninL (hu : X.A.units + 64 < cLine) (hd : Datum.depth α ≤ 60 := by decide) : OpR X (compareOp .NotIn) (rNinL X.K α) := by
  intro pins s σ H x y v u Q I rx ry h
  obtain ⟨a, b, ha, hb, q⟩ := h
  obtain ⟨l, vs, rfl, hl, hv⟩ := PySem.W.list_of_holds (hb.holds I ry)
  exact PySem.W.notIn_list_datum hl hv (ha.holds I rx) (by omega) ⟨.bl _, H, I, rfl, q⟩
end
section
variable {X : Cx} {α : Type} [DecidableEq α] [DatumOrd α]
def rLtT (K : PySem.W.Frag) (α : Type) [DecidableEq α] [DatumOrd α] : R2 := fun x y H Q => ∃ a b : α, Is K H x a ∧ Is K H y b ∧ Q (.bl (DatumOrd.lt a b)) H
def rGtT (K : PySem.W.Frag) (α : Type) [DecidableEq α] [DatumOrd α] : R2 := fun x y H Q => ∃ a b : α, Is K H x a ∧ Is K H y b ∧ Q (.bl (DatumOrd.lt b a)) H
def rGeT (K : PySem.W.Frag) (α : Type) [DecidableEq α] [DatumOrd α] : R2 := fun x y H Q => ∃ a b : α, Is K H x a ∧ Is K H y b ∧ Q (.bl (!DatumOrd.lt a b)) H
theorem op_ltT' (hu : X.A.units + 64 < cLine) (hd : Datum.depth α ≤ 60 := by decide) : OpR X (compareOp .Lt) (rLtT X.K α) := by
  intro pins s σ H x y v u Q I rx ry h
  obtain ⟨a, b, ha, hb, q⟩ := h
  exact PySem.W.lt_datum (ha.holds I rx) (hb.holds I ry) (by omega) ⟨.bl _, H, I, rfl, q⟩
theorem op_gtT' (hu : X.A.units + 64 < cLine) (hd : Datum.depth α ≤ 60 := by decide) : OpR X (compareOp .Gt) (rGtT X.K α) := by
  intro pins s σ H x y v u Q I rx ry h
  obtain ⟨a, b, ha, hb, q⟩ := h
  exact PySem.W.gt_datum (ha.holds I rx) (hb.holds I ry) (by omega) ⟨.bl _, H, I, rfl, q⟩
theorem op_geT' (hu : X.A.units + 64 < cLine) (hd : Datum.depth α ≤ 60 := by decide) : OpR X (compareOp .GtE) (rGeT X.K α) := by
  intro pins s σ H x y v u Q I rx ry h
  obtain ⟨a, b, ha, hb, q⟩ := h
  exact PySem.W.ge_datum (ha.holds I rx) (hb.holds I ry) (by omega) ⟨.bl _, H, I, rfl, q⟩

/-! min, max of a list -/
theorem datum_same {h : Heap} {v : Value} {a b : α} (ha : Holds h v a) (hb : Holds h v b) : a = b := by
  obtain ⟨as, ra⟩ := ha
  obtain ⟨bs, rb⟩ := hb
  have e := (PySem.Reads.unique ra _ _ rb).1
  have q := Datum.eqv a b
  have q2 := Datum.eqv b b
  rw [e, q2] at q
  simpa using q.symm
def rMaxT (K : PySem.W.Frag) (α : Type) [DecidableEq α] [DatumOrd α] : List V → Hp → VK → Prop := fun vs H Q => ∃ (v : V) (x : α) (xs : List α), vs = [v] ∧ Is K H v (x :: xs) ∧ ∀ u, Is K H u (PySem.W.maxOf x xs) → Q u H
def rMinT (K : PySem.W.Frag) (α : Type) [DecidableEq α] [DatumOrd α] : List V → Hp → VK → Prop := fun vs H Q => ∃ (v : V) (x : α) (xs : List α), vs = [v] ∧ Is K H v (x :: xs) ∧ ∀ u, Is K H u (PySem.W.minOf x xs) → Q u H
theorem cr_maxT (hc : X.calm = true) (hu : X.A.units + 64 < cLine) (hd : Datum.depth α ≤ 60 := by decide) : CallR X (.builtin "max") (rMaxT X.K α) := by
  intro pins s σ H vs us Q I r h
  obtain ⟨v, x, xs, rfl, hx, q⟩ := h
  obtain ⟨a, ws, rfl, hs, hw⟩ := hx.lst
  obtain ⟨its, rv, hl, _⟩ := I.list hs
  rw [Vals.ref1 r]
  have hv := hw.holds I rv
  refine PySem.W.max_list_datum (I.ok.hd hc) hl.isList (by simpa using hv) (by omega) fun i u h' tk hi hm hk => ?_
  have hi : its[i]? = some u := by simpa using hi
  obtain ⟨y, hy, hu⟩ := hv.at hi
  have e := datum_same (hu.keeps hk) hm
  obtain ⟨z, hz, hzy⟩ := hw.at' hy
  obtain ⟨u', hu', ru⟩ := rv.get hz
  rw [hi] at hu'
  cases hu'
  exact ⟨z, H, I.kept hk, ru, q z (e ▸ hzy)⟩
theorem cr_minT (hc : X.calm = true) (hu : X.A.units + 64 < cLine) (hd : Datum.depth α ≤ 60 := by decide) : CallR X (.builtin "min") (rMinT X.K α) := by
  intro pins s σ H vs us Q I r h
  obtain ⟨v, x, xs, rfl, hx, q⟩ := h
  obtain ⟨a, ws, rfl, hs, hw⟩ := hx.lst
  obtain ⟨its, rv, hl, _⟩ := I.list hs
  rw [Vals.ref1 r]
  have hv := hw.holds I rv
  refine PySem.W.min_list_datum (I.ok.hd hc) hl.isList (by simpa using hv) (by omega) fun i u h' tk hi hm hk => ?_
  have hi : its[i]? = some u := by simpa using hi
  obtain ⟨y, hy, hu⟩ := hv.at hi
  have e := datum_same (hu.keeps hk) hm
  obtain ⟨z, hz, hzy⟩ := hw.at' hy
  obtain ⟨u', hu', ru⟩ := rv.get hz
  rw [hi] at hu'
  cases hu'
  exact ⟨z, H, I.kept hk, ru, q z (e ▸ hzy)⟩
end

/-! sorted -/
section
variable {X : Cx} {α : Type} [DecidableEq α] [DatumOrd α] [Lin α] [Flat α]
def rSrtT (K : PySem.W.Frag) (α : Type) [DecidableEq α] [DatumOrd α] : List V → Hp → VK → Prop := fun vs H Q => ∃ (a : Addr) (ws : List V) (xs : List α), vs = [.ref a] ∧ (SqL K H a ws ∨ SqT K H a ws) ∧ IsAll K H ws xs ∧ PySem.W.Sortable (xs.map Datum.toD) ∧
  ∀ (p : Addr) (out : List V), H p = none → IsAll K H out (srt xs) → Q (.ref p) (upd H p (.lst out))
open PySem.W (EachIs) in
theorem each_back {K : PySem.W.Frag} {H : Hp} : ∀ {out : List Value} {xs : List α}, EachIs (fun v (x : α) => ∃ y, RelV y v ∧ Is K H y x) out xs → ∃ ys, Vals ys out ∧ IsAll K H ys xs
  | _, _, .nil => ⟨[], .nil, .nil⟩
  | _, _, .cons ⟨y, r, h⟩ t => by
    obtain ⟨ys, rs, hs⟩ := each_back t
    exact ⟨y :: ys, .cons r rs, .cons h hs⟩
open PySem.W (EachIs) in
theorem each_fwd {K : PySem.W.Frag} {H : Hp} : ∀ {ws : List V} {us : List Value} {xs : List α}, Vals ws us → IsAll K H ws xs → EachIs (fun v (x : α) => ∃ y, RelV y v ∧ Is K H y x) us xs
  | [], _, [], .nil, _ => .nil
  | [], _, _ :: _, _, h => by cases h.length
  | _ :: _, _, [], _, h => by cases h.length
  | w :: ws, _, x :: xs, .cons r rs, h => .cons ⟨w, r, h.uncons.1⟩ (each_fwd rs h.uncons.2)
theorem cr_srtT (hu : X.A.units + 64 < cLine) (hd : Datum.depth α ≤ 60 := by decide) : CallR X (.builtin "sorted") (rSrtT X.K α) := by
  intro pins s σ H vs us Q I r h
  obtain ⟨a, ws, xs, rfl, hs, hw, hk, q⟩ := h
  rw [Vals.ref1 r]
  have go : ∀ (its : List Value) (o : Obj) (T : String) (n : Nat), Vals ws its → (T = "list" ∨ T = "tuple") → s.heap.get? a = some o → o.cls = .type T → o.data = .seq its.toArray n → ws.length ≤ sizeLine →
      wpAny (model X.prog X.w) X.A (call (.builtin "sorted") [.ref a]) (EP X pins σ Q) X.xe s := by
    intro its o T n rv hT ho hc hd' hz
    have hz' : its.length ≤ sizeLine := by rw [← rv.length]; exact hz
    refine PySem.Calls.call_function_entry kind_sorted plain_sorted entry_sorted (args_sorted1 _) ?_
    unfold Builtin.«sorted»
    refine wpAny_bind (m := checkCount "sorted" 1 1 _) (wpAny_pure ?_)
    refine wpAny_bind (wpAny_collect_seq (hsz := by simpa using hz') a hT ho hc hd' fun h' hk' => ?_)
    have I' := I.kept (t' := s.toks) hk'
    refine sort_new (s := { s with heap := h' }) (each_fwd (xs := xs) (by simpa using rv) hw) (hw.holds I' (by simpa using rv)) hk (by rw [← hw.length]; exact hz) ?_ fun h2 out c k2 e2 g2 => ?_
    · have : X.A.in1.units = X.A.units + 1 := rfl
      omega
    · obtain ⟨ys, ry, hy⟩ := each_back e2
      have hly : ys.length ≤ sizeLine := by rw [hy.length, srt_length, ← hw.length]; exact hz
      refine wpAny_pure ⟨_, rfl, ?_⟩
      exact ⟨.ref h'.objs.size, upd H h'.objs.size (.lst ys), I'.laid (t' := s.toks) k2 (Nat.le_refl _) ⟨hly, out, c, ry, g2⟩, rfl, q _ ys (I'.hok.fresh (Nat.le_refl _)) hy⟩
  rcases hs with hs | hs
  · obtain ⟨its, rv, ⟨o, n, ho, hc, _, hd'⟩, hz⟩ := I.list hs
    exact go its o _ n rv (.inl rfl) ho hc hd' hz
  · obtain ⟨its, rv, ⟨o, ho, hc, n, hd'⟩, hz⟩ := I.tuple hs
    exact go its o _ n rv (.inr rfl) ho hc hd' hz
end
end K86

end

section
set_option Elab.async false
set_option linter.all false
set_option maxRecDepth 100000
set_option maxHeartbeats 2000000
/-! enumerate over a tuple. -/
namespace K86
open PySem PySem.Spec PyProof.Rows L2
open Sem (wp)
open AutoSeq1 (wpAny_loadPart')
theorem meets_enumT (l : Addr) (items : Array Value) (n : Nat) (dct : Option Addr) (sl : Array (Option Value)) :
    Meets (Builtin.«enumerate.__new__» ⟨[.type "enumerate", .ref l], []⟩) (fun _ R s => s.heap.get? l = some { cls := .type "tuple", dict := dct, data := .seq items n, slots := sl } ∧
      R (.ok (.ret (.ref (s.heap.push { cls := .type "tuple_iterator", data := .fields #[.ref l, .int 0 0] }).objs.size)))
        { s with heap := (s.heap.push { cls := .type "tuple_iterator", data := .fields #[.ref l, .int 0 0] }).push { cls := .type "enumerate", data := .fields #[.none, .bool false, .ref s.heap.objs.size, rawInt 0, .none, .none] } }) :=
  .of_wp fun prog w A R s h => by
    obtain ⟨hp, g, d, tk, os⟩ := s; obtain ⟨hl, h⟩ := h
    have hsub := sub_enumerate
    have hL : Heap.IsTuple (Shared.heap ⟨hp, g, d, tk, os⟩) l items := ⟨_, hl, rfl, n, rfl⟩
    wp_walk using wpAny_loadPart' hl
    refine wpAny_stack_any fun st => wpAny_pure ?_
    split
    · rename_i c _ _ _ _ _
      cases (c == Value.type "enumerate")
      · wp_walk using wpAny_loadPart' hl, wpAny_pyIter_tuple hL
        exact ⟨_, rfl, h⟩
      · wp_walk using wpAny_loadPart' hl, wpAny_pyIter_tuple hL
        exact ⟨_, rfl, h⟩
    · wp_walk using wpAny_loadPart' hl, wpAny_pyIter_tuple hL
      exact ⟨_, rfl, h⟩
section
variable {prog : Program} {w : World} {A : Around} {E : Value → Shared → Prop} {s : Shared}
theorem call_enumT {l : Addr} {items : Array Value} {Q : Value → Shared → Prop} (hL : s.heap.IsTuple l items)
    (h : ∀ h', IsEnum h' (s.heap.objs.size + 1) s.heap.objs.size 0 .none → h'.IsTupleIter s.heap.objs.size l 0 → h'.objs.size = s.heap.objs.size + 2 →
      (∀ b o, s.heap.get? b = some o → h'.get? b = some o) → Q (.ref (s.heap.objs.size + 1)) { s with heap := h' }) :
    wpAny (model prog w) A (call (.type "enumerate") [.ref l]) Q E s := by
  obtain ⟨⟨c, dct, dt, sl⟩, hl, hc, n, hd⟩ := hL
  replace hc : c = .type "tuple" := hc
  replace hd : dt = .seq items n := hd
  subst hc hd
  refine callType_new F.called_enumerate (by decide) (F.typeCall_enumerate_1 _) (F.newCall_enumerate_1 _) (fun obj => F.args_object_init_2 obj _) F.entry_enumerate_new
    (meets_enumT l items n dct sl) ⟨hl, ?_⟩
  have hz : (s.heap.push { cls := .type "tuple_iterator", data := .fields #[.ref l, .int 0 0] }).objs.size = s.heap.objs.size + 1 := Heap.size_push ..
  show _ ∧ _
  rw [hz]
  have he : IsEnum ((s.heap.push { cls := .type "tuple_iterator", data := .fields #[.ref l, .int 0 0] }).push
      { cls := .type "enumerate", data := .fields #[.none, .bool false, .ref s.heap.objs.size, rawInt 0, .none, .none] }) (s.heap.objs.size + 1) s.heap.objs.size 0 .none := by
    have := Heap.get?_push_size (s.heap.push { cls := .type "tuple_iterator", data := .fields #[.ref l, .int 0 0] })
      (o := { cls := .type "enumerate", data := .fields #[.none, .bool false, .ref s.heap.objs.size, rawInt 0, .none, .none] }) rfl
    rw [hz] at this; exact this
  refine ⟨⟨_, he, rfl⟩, h _ he ⟨_, Heap.get?_push_of_some _ (Heap.get?_push_size _ rfl), rfl, rfl⟩ (by rw [Heap.size_push, hz]) fun b o x => Heap.get?_push_of_some _ (Heap.get?_push_of_some _ x)⟩
end
/-- the tuple at a, each item in a new pair -/
def IteT (K : PySem.W.Frag) (a : Addr) : It :=
  ⟨fun i H => ∃ (xs : List V) (x : V), SqT K H a xs ∧ xs[i]? = some x, fun i H v H' => ∃ T x, v = .ref T ∧ H T = none ∧ H' = upd H T (.tup [.int (i : Nat), x]) ∧ ∀ xs, SqT K H a xs → xs[i]? = some x, fun i H => ∃ xs : List V, SqT K H a xs ∧ xs.length ≤ i⟩
theorem turn_enumT {P : Program} {w : World} {K : PySem.W.Frag} {elts : List Expr} {kk : Nat} {tpos : Pos} (a e it : Addr) :
    Turn P w K (.Tuple elts kk tpos) (IteT K a) [e, it] e (fun i h => (∃ old, IsEnum h e it ((i : Nat) : Int) old) ∧ h.IsTupleIter it a i ∧ e ≠ it ∧ a ≠ it ∧ a ≠ e) where
  mem := by simp
  obj := fun i h st b hb => by
    obtain ⟨⟨old, he⟩, ⟨o, ho, hc, hd⟩, _⟩ := st
    have e' : b = e ∨ b = it := by simpa using hb
    rcases e' with z | z
    · rw [z]; exact ⟨_, he, fun v q => nomatch q⟩
    · rw [z]; exact ⟨o, ho, fun v q => by rw [hd] at q; cases q⟩
  keep := fun i h h' st k => let ⟨⟨old, he⟩, hi, hne⟩ := st; ⟨⟨old, k e (by simp) _ he⟩, hi.at fun o q => k it (by simp) o q, hne⟩
  item := by
    intro X hP hw hK hc i pins s σ H E I hf st hg
    subst hP hw hK
    obtain ⟨⟨old, he⟩, hit, hne, hai, hae⟩ := st
    obtain ⟨xs, x, hq, hx⟩ := hg
    obtain ⟨its, rv, p, hz⟩ := I.tuple hq
    obtain ⟨u, hu, ru⟩ := rv.get hx
    have hel : e < s.heap.objs.size := Heap.lt_size he
    have hil : it < s.heap.objs.size := by obtain ⟨_, q, _⟩ := hit; exact Heap.lt_size q
    have D := Draws.tuple (prog := X.prog) (w := X.w) (A := X.A.in1) (show X.A.in1.handled = none from I.ok.hd hc) it a hai its.toArray
    have hxl : i < its.toArray.size := by
      have := (List.getElem?_eq_some_iff.mp hu).1
      simpa using this
    refine wpAny_pyNext_enum_itemD D he ⟨hit, p⟩ hxl hne (by simp [hne, Ne.symm hae]) fun x' h' tk hP ho hst' hT hsz hk => ?_
    have ex : x' = u := by
      have hP : its.toArray[i]? = some x' := hP
      have hu' : its.toArray[i]? = some u := by simpa using hu
      rw [hP] at hu'
      exact Option.some.inj hu'
    subst ex
    obtain ⟨hit', _⟩ := hst'
    refine ⟨_, rfl, wpAny_letOwnedTupleGo_enum (s := { s with heap := h', toks := tk + 1 }) ho fun h'' he' sb => ?_⟩
    have hT2 : h''.get? s.heap.objs.size = some { cls := .type "tuple", data := .seq #[.int i tk, x'] } := (sb.2 _ (Nat.ne_of_gt hel)).trans hT
    have new : ObjOk X.prog X.w (upd H s.heap.objs.size (.tup [.int (i : Nat), x])) h'' s.heap.objs.size (.tup [.int (i : Nat), x]) :=
      ⟨by show 2 ≤ sizeLine; decide, [.int i tk, x'], .cons ⟨_, rfl⟩ (.cons ru .nil), ⟨_, hT2, rfl, _, rfl⟩⟩
    have I1 : Inv X pins σ (upd H s.heap.objs.size (.tup [.int (i : Nat), x])) { s with heap := h'', toks := tk + 1 } :=
      I.turnedNew (ch := [e, it]) (fun b ob hb q => (sb.2 b (fun z => hb (by simp [z]))).trans (hk b ob (fun z => hb (by simp [z])) (fun z => hb (by simp [z])) q)) hf (Nat.le_refl _) new
    refine ⟨.ref s.heap.objs.size, _, I1, rfl, ⟨_, x, rfl, I.hok.fresh (Nat.le_refl _), rfl, fun ys hy => by rw [I.tuple_inj hy hq]; exact hx⟩, ⟨⟨x', ?_⟩, hit'.at fun o q => (sb.2 it (Ne.symm hne)).trans q, hne, hai, hae⟩, fun b hb => ?_⟩
    · have e1 : ((i + 1 : Nat) : Int) = (i : Int) + 1 := by omega
      rw [e1]; exact he'
    · have hb' : b < s.heap.objs.size := by
        have e' : b = e ∨ b = it := by simpa using hb
        rcases e' with z | z
        · rw [z]; exact hel
        · rw [z]; exact hil
      rw [upd_ne (Nat.ne_of_lt hb')]
      exact (hf b hb).1
  done := by
    intro X hP hw hK hc i pins s σ H E I hf st hg
    subst hP hw hK
    obtain ⟨⟨old, he⟩, hit, hne, hai, hae⟩ := st
    obtain ⟨xs, hq, hx⟩ := hg
    obtain ⟨its, rv, p, hz⟩ := I.tuple hq
    obtain ⟨f0, f1, f2, f3, f4, f5⟩ := hf it (by simp)
    have hl := rv.length
    have hT : s.TypeIs (.ref e) "enumerate" := ⟨_, he, rfl⟩
    unfold pyNext
    refine wpAny_bind (wpAny_attempt (wpAny_callSpecial?_slot (name := Str.ofString "__next__") hT F.slot_enumerate_next
      (wpAny_call_entry F.slot_enumerate_next hT F.entry_enumerate_next ?_ (F.args_enumerate_next_1 _))))
    show wpAny _ _ (field (.ref e) 2 >>= _) _ _ _
    refine wpAny_bind (wpAny_field he rfl (x := .ref it) rfl ?_)
    refine wpAny_bind (wpAny_nextOf_tuple_end (A := X.A.in1) (I.ok.hd hc) hit p (by simp; omega) fun h' x he' hx' => ?_)
    obtain ⟨o, ho, hc⟩ := hx'
    refine wpAny_bind (wpAny_isInstance (T := "StopIteration") (b := true) ⟨o, ho, hc⟩ isSubtype_stop ?_)
    exact wpAny_pure ⟨rfl, I.turned (t' := s.toks) (fun b o hb q => he' b o hb q) f0 f1 f3 f4 f5⟩
  self := fun A i s Q E st h => let ⟨⟨_, he⟩, _⟩ := st; wpAny_pyIter_enum he h
def iEnumT (K : PySem.W.Frag) (ta : TA) : TI := fun σ H R => ta σ H fun vs H1 => ∃ a xs, vs = [.ref a] ∧ SqT K H1 a xs ∧ R (IteT K a) H1
theorem pi_enumT {X : Cx} {e : Expr} {ta : TA} {p pos tpos : Pos} {elts : List Expr} {kk : Nat} (hg : Gl X "enumerate") (hm : X.mg "enumerate" = none) (ha : PA X [e] ta) (hs : starEach [e] X.env = [(false, eval e X.env)] := by rfl) :
    PI X (.Tuple elts kk tpos) (.Call (.Name "enumerate" p) [e] [] pos) (iEnumT X.K ta) := by
  refine ⟨fun pins s σ H R I h => ?_⟩
  refine Call_ (ld_blt I hg hm boot_enumerate (PyProof.Rows.callWith_type1 (thn (ha.run pos pins s σ H _ I h) fun us s1 ⟨vs, H1, I1, r1, q1⟩ => ?_) hs rfl))
  obtain ⟨a, xs, ex, hq, q⟩ := q1
  subst ex
  cases r1 with
  | cons r rr =>
    cases rr
    cases r
    obtain ⟨its, rv, p', hz⟩ := I1.tuple hq
    have hal : a < s1.heap.objs.size := p'.lt
    refine call_enumT p' fun h' he hit hsz hk => wpAny_pyIter_enum he ?_
    have I2 : Inv X pins σ H1 { s1 with heap := h' } := I1.kept (t' := s1.toks) hk
    refine ⟨s1.heap.objs.size + 1, [s1.heap.objs.size + 1, s1.heap.objs.size], _, _, H1, rfl, I2, turn_enumT a (s1.heap.objs.size + 1) s1.heap.objs.size, ⟨⟨.none, he⟩, hit, Nat.succ_ne_self _, Nat.ne_of_lt hal, Nat.ne_of_lt (Nat.lt_succ_of_lt hal)⟩, fun b hb => ?_, q⟩
    have e' : b = s1.heap.objs.size + 1 ∨ b = s1.heap.objs.size := by simpa using hb
    have hle : s1.heap.objs.size ≤ b := by
      rcases e' with z | z
      · rw [z]; exact Nat.le_add_right _ _
      · rw [z]; exact Nat.le_refl _
    exact I1.fpOk hle (I1.hok.fresh hle)
theorem walk_enumT {K : PySem.W.Frag} {a : Addr} {xs : List V} : Walk (IteT K a) xs.length (fun H => SqT K H a xs) (YPair (fun i => some (.int (i : Nat))) (fun i => xs[i]?)) := by
  refine ⟨fun i _ hi q => ⟨xs, xs[i], q, by simp [hi]⟩, fun _ q => ⟨xs, q, Nat.le_refl _⟩, fun i H v H' _ q y => ?_⟩
  obtain ⟨T, x, h1, h2, h3, h4⟩ := y
  exact ⟨T, .int (i : Nat), x, h1, h2, h3, rfl, h4 xs q⟩
end K86

end

section
set_option Elab.async false
set_option linter.all false
set_option maxRecDepth 100000
set_option maxHeartbeats 2000000
/-! A def's promise where no guard is held (repr asks for that); calls; repr; the law's end. -/
namespace K86
open PySem PySem.Spec PyProof.Rows L2
open PySem.W (Datum DatumOrd Tup T3 T4 Holds HoldAll)
/-- nothing is raised -/
def CXn : CXT := fun _ _ _ _ _ _ => False
def En : XK := fun _ _ _ => False
abbrev Pr := List V → Hp → VK → Prop
structure Rm (k : Nat) (A : Around) : Prop where
  rm : Room k A
  gd : A.guards = some []
theorem Rm.mono {j k : Nat} {A : Around} (r : Rm k A) (h : j ≤ k) : Rm j A := ⟨r.rm.mono h, r.gd⟩
theorem Rm.deeper {k : Nat} {A : Around} (r : Rm (k + 1) A) (env : Env) : Rm k (A.deeper env) := ⟨r.rm.deeper env, r.gd⟩
theorem Rm.u {k : Nat} {A : Around} (r : Rm k A) : A.units + 64 < cLine := r.rm.units
theorem Rm.u1 {k : Nat} {A : Around} (r : Rm k A) : A.units + 1 < cLine := by
  have := r.u
  omega
structure FnG (P : Program) (w : World) (K : PySem.W.Frag) (mg : Str → Option Value) (base : Heap) (k : Nat) (f : Addr) (fd : FuncData) (ps : List Str) (pr : Pr) : Prop where
  len : ∀ vs H Q, pr vs H Q → vs.length = ps.length
  run : ∀ (A : Around) (outer : List Env) (s : Shared) (H : Hp) (args : Args) (us : List Value) (vs : List V) (Q : VK), Rm k A → Env0 P w K mg base A outer s H → BindsTo s fd args (ps.zip us) → Vals vs us → pr vs H Q →
    codeAny (model P w) A (.call (.ref f) args) (CR CXn outer P w H s Q En) s
section
variable {P : Program} {w : World} {K : PySem.W.Frag} {mg : Str → Option Value} {base : Heap}
theorem fnG_of {x qual : Str} {params : Arguments} {body : List Stmt} {scope : Scope} {dvs : List V} {kws : List (Str × V)} {f : Addr} {fd : FuncData} {N ps : List Str} {k : Nat} {pr : Pr} (F : FunD K x qual params body scope dvs kws f fd) (S : FnScope N ps scope)
    (len : ∀ vs H Q, pr vs H Q → vs.length = ps.length)
    (hbody : ∀ (cdv : Value) (A : Around) (outer : List Env) (s : Shared) (H : Hp) (vs : List V) (Q : VK), Rm k (A.deeper (envOfC qual scope s.heap.objs.size f cdv)) → pr vs H Q →
      ∃ t, PSs (cxOf CXn P w K mg base N qual scope f cdv A outer s H En).nox body t ∧ t { nx := fun _ H' => Q .non H', rt := Q } (start N vs) H) : FnG P w K mg base (k + 1) f fd ps pr := by
  obtain ⟨oc, od, dV, kV, doc, pm, an, cdv, ct, osl, rfl, lk, hcd, _, _⟩ := F.ex
  refine ⟨len, fun A outer s H args us vs Q hr e0 hb r hpr => ?_⟩
  have hl := len _ _ _ hpr
  have inS : K.In s.heap := e0.mod.kin.keeps fun b o e => (e0.bs b o e).1
  have lim : s.heap.NoLimit := e0.mod.nolimit.keeps fun b o e => (e0.bs b o e).1
  have kinds : ∀ y ∈ ps.zip us, scope.names.lookup y.1 = some .local ∨ (scope.names.lookup y.1 = some .cell ∧ ((cellsFrom (s.heap.objs.size + 1) scope.names []).lookup y.1).isSome = true) := by
    intro y hy
    obtain ⟨n, v⟩ := y
    cases S.par n (List.of_mem_zip hy).1 with
    | inl q => exact .inl q
    | inr q => exact .inr ⟨q, PySem.W.cellsFrom_some _ _ _ (.inl q)⟩
  refine codeAny_call_function hr.rm.depth (inS _ _ lk) rfl S.co S.gen rfl (PySem.W.codeRec_of inS hcd) (hb _ _ _ _ ?_)
  refine wpAny_newFunctionEnv_cells S.kind kinds fun env he s1 x1 => ?_
  subst he
  refine ⟨lim.keeps x1.toInCall.keep, codeAny_func ?_⟩
  obtain ⟨t, ht, hq⟩ := hbody cdv A outer s H vs Q (hr.deeper _) hpr
  have I : Inv (cxOf CXn P w K mg base N qual scope f cdv A outer s H En) [] (start N vs) H s1 := inv_start S hr.rm.hd e0 hl r x1
  refine wpAny_mono (ht.nox.run [] s1 (start N vs) H _ I hq) (fun fl s' hs => ?_) fun e s' hs => hs
  have fin : ∀ {σ' : L2.St} {H' : Hp} {v : V} {u : Value}, Inv (cxOf CXn P w K mg base N qual scope f cdv A outer s H En) [] σ' H' s' → RelV v u → Q v H' → CE outer P w H s Q u s' := by
    intro σ' H' v u J rv q
    exact ⟨v, H', J.os, J.bare, J.base, J.hok, rv, q⟩
  cases fl with
  | ret u =>
    obtain ⟨v, σ', H', J, rv, q⟩ := hs
    exact fin J rv q
  | next =>
    obtain ⟨σ', H', J, q⟩ := hs
    exact fin (v := V.non) (u := Value.none) J rfl q
  | brk =>
    obtain ⟨_, _, _, q⟩ := hs
    exact q.elim
  | cont =>
    obtain ⟨_, _, _, q⟩ := hs
    exact q.elim
/-- a def that may be called by its name; dvs fill up -/
structure Cal (P : Program) (w : World) (K : PySem.W.Frag) (mg : Str → Option Value) (base : Heap) (k : Nat) (x : Str) (dvs : List V) (pr : Pr) : Prop where
  ex : ∃ (f : Addr) (fd : FuncData) (ps : List Str) (ds : List Value), FnG P w K mg base k f fd ps pr ∧ mg x = some (.ref f) ∧ PySem.W.keepIn K (.ref f) = true ∧ Binds K fd ps ds ∧ Vals dvs ds
/-- where a def stands behind the top -/
structure Dfn (K : PySem.W.Frag) (mg : Str → Option Value) (x : Str) (st : Stmt) (dvs : List V) (f : Addr) (fd : FuncData) : Prop where
  fn : FunD K x x (defArgs st) (defBody st) (defScope st) dvs [] f fd
  at_ : mg x = some (.ref f)
theorem Dfn.cal {x : Str} {st : Stmt} {f : Addr} {fd : FuncData} {N ps : List Str} {k : Nat} {pr : Pr} (F : Dfn K mg x st [] f fd) (S : FnScope N ps (defScope st)) (len : ∀ vs H Q, pr vs H Q → vs.length = ps.length)
    (hb : ∀ (kV doc pm : Value) (an : Option Addr) (cdv ct : Value) (us : List Value), us.length = ps.length → bindArgs (PySem.W.fnOf x x (defArgs st) (defBody st) (defScope st) .none kV doc pm an cdv ct) ⟨us, []⟩ = pure (ps.zip us))
    (hbody : ∀ (cdv : Value) (A : Around) (outer : List Env) (s : Shared) (H : Hp) (vs : List V) (Q : VK), Rm k (A.deeper (envOfC x (defScope st) s.heap.objs.size f cdv)) → pr vs H Q →
      ∃ t, PSs (cxOf CXn P w K mg base N x (defScope st) f cdv A outer s H En).nox (defBody st) t ∧ t { nx := fun _ H' => Q .non H', rt := Q } (start N vs) H) : Cal P w K mg base (k + 1) x [] pr :=
  ⟨f, fd, ps, [], fnG_of F.fn S len hbody, F.at_, F.fn.kp, F.fn.bindsN hb, .nil⟩
theorem Cal.imp {k : Nat} {x : Str} {dvs : List V} {pr pr' : Pr} (C : Cal P w K mg base k x dvs pr) (h : ∀ vs H Q, pr' vs H Q → pr vs H Q) : Cal P w K mg base k x dvs pr' := by
  obtain ⟨f, fd, ps, ds, F, r⟩ := C.ex
  exact ⟨f, fd, ps, ds, ⟨fun vs H Q q => F.len vs H Q (h _ _ _ q), fun A outer s H args us vs Q hr he hb hv hs => F.run A outer s H args us vs Q hr he hb hv (h _ _ _ hs)⟩, r⟩
end
section
variable {X : Cx} {k : Nat} {dvs : List V} {pr : Pr} {x : Str} {p pos : Pos} {e : Expr} {es : List Expr} {t : TA}
def tCal (pr : Pr) (dvs : List V) (t : TA) : TE := fun σ H Q => t σ H fun vs H1 => pr (vs ++ dvs) H1 Q
/-- a call by name -/
theorem pe_cal (C : Cal X.prog X.w X.K X.mg X.base k x dvs pr) (hr : Rm k X.A) (hg : Gl X x) (ha : PA X (e :: es) t) (hdb : (x == ("__debug__" : Str)) = false := by decide) (he : starEach (e :: es) X.env = (false, eval e X.env) :: starEach es X.env := by rfl)
    (hpl : (backTo pos (starEach es X.env)).any (·.1) = false := by rfl) : PE X (.Call (.Name x p) (e :: es) [] pos) (tCal pr dvs t) := by
  obtain ⟨f, fd, ps, ds, F, hm, hk, hb, hd⟩ := C.ex
  refine ⟨fun pins s σ H Q I h => ?_⟩
  refine wpAny_Call_Name_kw (ld_glob I hg hm ?_ hdb)
  refine PySem.W.callWith_K (h₀ := X.base) I.ok.mod.kin hk (thn (ha.run pos pins s σ H _ I h) fun us s1 ⟨vs, H1, I1, r, q⟩ => ⟨I1.kIn, ?_⟩) he hpl
  have r2 : Vals (vs ++ dvs) (us ++ ds) := r.append hd
  have hl : (us ++ ds).length = ps.length := by rw [← r2.length]; exact F.len _ _ _ q
  refine wpAny_call (codeAny_mono (F.run X.A X.stack s1 H1 ⟨us, []⟩ (us ++ ds) (vs ++ dvs) Q hr I1.env0 (hb s1 us I1.kIn hl) r2 q) fun r s' hq => ?_)
  cases r with
  | error e => exact False.elim hq
  | ok fl =>
    cases fl with
    | ret u => exact I1.after hq
    | next => exact False.elim hq
    | brk => exact False.elim hq
    | cont => exact False.elim hq
end

/-! ### repr -/
/-- data that repr shows -/
structure Shows (d : PyData) : Prop where
  ok : d.showable = true
  nd : d.hasDict = false
  dp : d.depth ≤ 60
  sz : d.shown.length ≤ sizeLine
def rRepr (K : PySem.W.Frag) : List V → Hp → VK → Prop := fun vs H Q => ∃ v : V, vs = [v] ∧ ((∃ (a : Addr) (d : PyData), v = .ref a ∧ Dp K H v d ∧ Shows d ∧ Q (.str d.shown) H) ∨ (∃ i : Int, v = .int i ∧ i.natAbs.log2 < 1920 ∧ Q (.str (toString i)) H) ∨ (v = .non ∧ Q (.str "None") H))
theorem cr_repr {X : Cx} (hg : X.A.guards = some []) (hu : X.A.units + 64 < cLine) : CallR X (.builtin "repr") (rRepr X.K) := by
  intro pins s σ H vs us Q I r h
  obtain ⟨v, rfl, h⟩ := h
  cases r with
  | cons r rr =>
    cases rr
    rcases h with ⟨a, d, rfl, hd, hs, q⟩ | ⟨i, rfl, hi, q⟩ | ⟨rfl, q⟩
    · obtain ⟨as, rd⟩ := Dp.reads I _ _ _ hd r
      cases r
      have := hs.dp
      exact repr_of_reads' rd hs.ok (fun e => by rw [hs.nd] at e; cases e) hg (by omega) (fun _ _ e => e) (fun h' u tk hk => ⟨.str _, H, I.kept hk, ⟨_, rfl⟩, q⟩) hs.sz
    · obtain ⟨t, rfl⟩ := r
      exact P.repr_of_int hi ⟨.str _, H, I.tok _, ⟨_, rfl⟩, q⟩
    · cases r
      exact P.repr_of_none ⟨.str _, H, I.tok _, ⟨_, rfl⟩, q⟩
end K86

end

section
set_option Elab.async false
set_option linter.all false
set_option maxRecDepth 100000
set_option maxHeartbeats 2000000
/-! The law's end. -/
namespace K86
open PySem PySem.Spec PyProof.Rows L2
theorem enter_law {P : Program} {w : World} {K : PySem.W.Frag} {mg mb : Str → Option Value} {k : Nat} {fa a : Addr} {fd : FuncData} {x : Str} {pr : Pr} {s₁ : Shared} {vs : List Value} {ns : List Int}
    (inK : K.In s₁.heap) (hns : s₁.heap.Ns mainGlobals mg) (hb : s₁.heap.Ns builtinsNs mb) (hbb : ∀ x : Str, x ≠ "__name__" → mb x = bootBuiltins x) (hlim : s₁.heap.NoLimit) (hg : s₁.gens = #[])
    (ha : s₁.heap.get? a = some { cls := .type "list", data := .seq vs.toArray }) (hi : IntsAre vs ns) (hl : ns.length ≤ sizeLine) (hr : Rm k callerA)
    (F : ∀ base : Heap, K.In base → base.Ns mainGlobals mg → FnG P w K mg base k fa fd [x] pr) (hbind : ∀ (s : Shared) (u : Value), BindsTo s fd ⟨[u], []⟩ [(x, u)])
    (hpr : ∀ H : Hp, Only H → SqL K H a (ns.map V.int) → pr [.ref a] H fun v _ => v = .bl true) :
    codeAny (model P w) callerA (.call (.ref fa) ⟨[.ref a], []⟩) (fun r s' => r = .ok (.ret (.bool true)) ∧ OldK s₁.heap s'.heap ∧ s'.os = s₁.os ∧ AllBare s'.gens) s₁ := by
  have rv := vals_ints hi
  have lenV := hi.length
  have core : ∀ H : Hp, Only H → SqL K H a (ns.map V.int) → HOk P w H s₁.heap → (∀ b, H b ≠ none → b = a) → (H a ≠ none → K.lookup a = none) →
      codeAny (model P w) callerA (.call (.ref fa) ⟨[.ref a], []⟩) (fun r s' => r = .ok (.ret (.bool true)) ∧ OldK s₁.heap s'.heap ∧ s'.os = s₁.os ∧ AllBare s'.gens) s₁ := by
    intro H hO hS hok hA hK
    have isA : ∀ {b : Addr} {u : HO}, H b = some u → b = a := fun {b u} q => hA b (by rw [q]; simp)
    have kept : ∀ {b : Addr} {o : Obj}, s₁.heap.get? b = some o → H b = none → (hidT s₁.heap H).get? b = some o := fun e n => hidT_get e n
    have dictN : ∀ {b : Addr} {o : Obj} {es : Array DictEntry} {ep : Nat}, s₁.heap.get? b = some o → o.data = .dict es ep → H b = none := by
      intro b o es ep e d
      cases q : H b with
      | none => rfl
      | some u =>
        cases isA q
        rw [ha] at e
        cases e
        have d' : Data.seq vs.toArray _ = Data.dict es ep := d
        cases d'
    have nsK : ∀ {b : Addr} {m : Str → Option Value}, s₁.heap.Ns b m → (hidT s₁.heap H).Ns b m := by
      intro b m h
      obtain ⟨o, es, ep, e, d, r⟩ := h
      exact ⟨o, es, ep, kept e (dictN e d), d, r⟩
    have inB : K.In (hidT s₁.heap H) := fun b o e => kept (inK b o e) (by
      cases q : H b with
      | none => rfl
      | some u =>
        cases isA q
        rw [hK (by rw [q]; simp)] at e
        cases e)
    have mo : Mod K mg (hidT s₁.heap H) := ⟨inB, nsK hns, ⟨mb, nsK hb, hbb⟩, let ⟨mc, h1, h2⟩ := hlim; ⟨mc, nsK h1, h2⟩⟩
    have e0 : Env0 P w K mg (hidT s₁.heap H) callerA [] s₁ H := ⟨rfl, mo, fun b o e => of_hidT e, Nat.le_of_eq (hidT_size _ _), trivial, fun b hb => (List.not_mem_nil hb).elim, hok, .of_eq hg⟩
    refine codeAny_mono ((F _ inB (nsK hns)).run callerA [] s₁ H ⟨[.ref a], []⟩ [.ref a] [.ref a] _ hr e0 (hbind s₁ (.ref a)) (.cons rfl .nil) (hpr H hO hS)) fun r s' h => ?_
    cases r with
    | error e => exact False.elim h
    | ok fl =>
      cases fl with
      | next => exact False.elim h
      | brk => exact False.elim h
      | cont => exact False.elim h
      | ret u =>
        obtain ⟨v, H', os, bare, un, hok', r', q⟩ := h
        obtain rfl : v = .bl true := q
        obtain rfl : u = Value.bool true := r'
        refine ⟨rfl, OldK.of_keep fun b o e => ?_, os, bare⟩
        cases q : H b with
        | none => exact un.keep b o e q (fun z => (List.not_mem_nil z).elim) (by simp)
        | some u =>
          rcases hO b with z | ⟨ob, xs, z⟩
          · rw [q] at z; cases z
          · obtain ⟨e1, _⟩ := hok b _ z
            obtain ⟨e2, _⟩ := hok' b _ (un.frzs b ob _ z)
            rw [e] at e1
            cases e1
            exact e2
  cases hk : K.lookup a with
  | some o =>
    have e := inK a o hk
    rw [ha] at e
    cases e
    refine core (fun _ => none) (fun _ => .inl rfl) (.inr ⟨_, vs.toArray, _, hk, rfl, rfl, rfl, by rw [List.size_toArray, lenV]; exact hl, by simpa using rv⟩) (fun b u z => nomatch (show (none : Option HO) = some u from z)) (fun b z => absurd rfl z) fun z => absurd rfl z
  | none =>
    have at_a : ∀ b, b = a ∨ (fun b => if b = a then some (HO.frz { cls := .type "list", data := .seq vs.toArray } (.lst (ns.map V.int))) else none) b = none := fun b => by
      by_cases hb : b = a
      · exact .inl hb
      · exact .inr (if_neg hb)
    refine core (fun b => if b = a then some (.frz { cls := .type "list", data := .seq vs.toArray } (.lst (ns.map V.int))) else none) (fun b => ?_) (.inl (.inr ⟨{ cls := .type "list", data := .seq vs.toArray }, if_pos rfl⟩)) (fun b u z => ?_) (fun b z => (at_a b).resolve_right z) fun _ => hk
    · rcases at_a b with hb | hb
      · exact .inr ⟨_, _, if_pos hb⟩
      · exact .inl hb
    · rcases at_a b with hb | hb
      · subst hb
        have z' := (if_pos rfl).symm.trans z
        cases z'
        exact ⟨ha, by rw [List.length_map]; exact hl, vs, _, rv, ha⟩
      · exact nomatch hb.symm.trans z
theorem walk_ofG {l : PySem.W.OpenLaw} {n k : Nat} {q : Program} {loose : List Str} {XP : (Str → Option Value) → Heap → Prop} {YP : World → Heap → Prop} {d : DefRec} {x : Str}
    (hn : l.most = some n) (hn2 : n ≤ sizeLine) (hdf : d.params.defaults = []) (hr : Rm k callerA)
    (F : ∀ (w : World) (mg : Str → Option Value) (fa : Addr) (h : Heap), YP w h → h.Ns mainGlobals mg → mg d.name = some (.ref fa) →
      ∃ (K : PySem.W.Frag) (fd : FuncData) (pr : Pr), K.In h ∧ (∀ (s : Shared) (u : Value), BindsTo s fd ⟨[u], []⟩ [(x, u)]) ∧
        (∀ (H : Hp) (a : Addr) (ns : List Int), ns.length ≤ n → Only H → SqL K H a (ns.map V.int) → pr [.ref a] H fun v _ => v = .bl true) ∧
        ∀ base : Heap, K.In base → base.Ns mainGlobals mg → FnG l.prog w K mg base k fa fd [x] pr) :
    PySem.W.WalkO q loose XP YP l.row.toRowW d [] (fun f vs => PySem.call f vs) := by
  refine Att.attach_call hn hdf fun w s₀ s₁ mg mb fa o pm cd doc a vs ns G Y ho hd hcd hmg hobj hints hlen hg => ?_
  obtain ⟨K, fd, pr, inK, hb, hpr, hF⟩ := F w mg fa _ Y G.T.g hmg
  exact enter_law inK G.T.g G.T.b G.T.builtins G.T.nolimit hg hobj hints (Nat.le_trans hlen hn2) hr hF hb fun H hO hS => hpr H a ns hlen hO hS
end K86

end

section
set_option Elab.async false
set_option linter.all false
set_option maxRecDepth 100000
set_option maxHeartbeats 4000000
/-! set(xs) of a list or a tuple, by what one more item does. -/
namespace K86
open PySem PySem.Spec PyProof.Rows L2
section
variable {P : Program} {w : World} {A : Around} {E : Value → Shared → Prop} {s : Shared}
/-- what the set at S is after i items of vs; h0: what stood before it -/
structure Grows (P : Program) (w : World) (vs : List Value) (S : Addr) (h0 : Heap) (SP : Nat → Heap → Prop) : Prop where
  start : ∀ h : Heap, h.get? S = some { cls := .type "set", dict := none, data := .set #[] 0 (.fresh 0 0 (!w.params.followText "set-order")) } → SP 0 h
  stay : ∀ i (h h' : Heap), SP i h → (∀ o, h.get? S = some o → h'.get? S = some o) → (∀ b o, h0.get? b = some o → h'.get? b = some o) → SP i h'
  step : ∀ (i : Nat) (v : Value) (s : Shared) (A : Around) (Q : Bool → Shared → Prop) (E : Value → Shared → Prop), vs[i]? = some v → SP i s.heap → (∀ b o, h0.get? b = some o → s.heap.get? b = some o) → A.units < cLine →
    (∀ b h' tk, s.toks ≤ tk → Heap.SameBut S s.heap h' → SP (i + 1) h' → Q b { s with heap := h', toks := tk }) → wpAny (model P w) A (setAdd S v) Q E s
theorem grow_loop {I S : Addr} {fp wr : List Addr} {G : Array GenState → Array GenState → Prop} {n : Nat} {Pv : Nat → Value → Prop} {St : Nat → Shared → Prop} {R : Result → Shared → Prop} {vs : List Value} {h0 : Heap} {SP : Nat → Heap → Prop}
    (W : WalksS P w A.in1 I fp wr G n Pv St) (hSf : S ∉ fp) (g : Grows P w vs S h0 SP) (hval : ∀ i v, Pv i v → vs[i]? = some v) (hS0 : h0.get? S = none) (hw0 : ∀ b ∈ wr, h0.get? b = none) (hu : A.in1.units < cLine) :
    ∀ (k i : Nat) (s : Shared), n - i = k → i ≤ n → St i s → (∀ b o, h0.get? b = some o → s.heap.get? b = some o) → SP i s.heap →
      (∀ s', Moved (S :: wr) G s s' → SP n s'.heap → (∀ b o, h0.get? b = some o → s'.heap.get? b = some o) → R (.ok (.ret .none)) s') →
      codeAny (model P w) A (.builtin "set.update.loop" ⟨[.ref S, .ref I], []⟩) R s := by
  have hSw : S ∉ wr := fun h => hSf (W.sub _ h)
  have into : ∀ b ∈ wr, b ∈ S :: wr := fun b hb => List.mem_cons_of_mem _ hb
  have old : ∀ {s s' : Shared}, Moved wr G s s' → (∀ b o, h0.get? b = some o → s.heap.get? b = some o) → ∀ b o, h0.get? b = some o → s'.heap.get? b = some o := fun hm hkp b o e =>
    hm.heap b o (fun hb => by rw [hw0 b hb] at e; cases e) (hkp b o e)
  intro k
  induction k with
  | zero =>
    intro i s hk hi hst hkp hS hR
    have hin : i = n := by omega
    subst hin
    refine codeAny_builtin F.entry_set_update_loop ?_
    rw [Around.under_plainId F.plain_set_update_loop _]
    show wpAny _ A.in1 (pyNext (.ref I) >>= _) _ _ s
    refine wpAny_bind (W.done s _ _ hst fun s' hm => ?_)
    have kp := old hm hkp
    exact wpAny_pure (hR s' (hm.mono into) (g.stay _ _ _ hS (fun o e => hm.heap S o hSw e) kp) kp)
  | succ k ih =>
    intro i s hk hi hst hkp hS hR
    have hlt : i < n := by omega
    refine codeAny_builtin F.entry_set_update_loop ?_
    rw [Around.under_plainId F.plain_set_update_loop _]
    show wpAny _ A.in1 (pyNext (.ref I) >>= _) _ _ s
    refine wpAny_bind (W.item i s _ _ hlt hst fun v s' hP hst' hm => ?_)
    have kp := old hm hkp
    have hS' := g.stay _ _ _ hS (fun o e => hm.heap S o hSw e) kp
    show wpAny _ A.in1 (holding [v] (setAdd S v) >>= _) _ _ s'
    refine wpAny_bind (wpAny_holding ?_)
    refine g.step i v s' A.in1 _ _ (hval i v hP) hS' kp hu fun b h' tk htk sb hS2 => ?_
    have kp2 : ∀ b o, h0.get? b = some o → h'.get? b = some o := fun b o e => (sb.2 b (fun z => by rw [z, hS0] at e; cases e)).trans (kp b o e)
    refine wpAny_pure ⟨plainId_quiet F.plain_set_update_loop _, ih (i + 1) _ (by omega) hlt (W.frame _ s' _ _ hst' htk fun b hb o e => ?_) kp2 hS2 fun s'' hm2 hS3 kp3 => ?_⟩
    · rw [sb.2 b (fun h : b = S => hSf (h ▸ hb))]
      exact e
    · refine hR s'' (Moved.trans W.gtrans ((hm.mono into).then_heap htk fun b o hb e => ?_) hm2) hS3 kp3
      rw [sb.2 b (fun h : b = S => hb (h ▸ List.mem_cons_self))]
      exact e
set_option maxHeartbeats 3200000 in
theorem call_set_L {l : Addr} {items : Array Value} {SP : Nat → Heap → Prop} {Q : Value → Shared → Prop} (hh : A.handled = none) (hl : s.heap.IsList l items) (g : Grows P w items.toList s.heap.objs.size s.heap SP) (hu : A.units + 3 < cLine)
    (h : ∀ (h' : Heap) (tk : Nat), SP items.size h' → (∀ b o, s.heap.get? b = some o → h'.get? b = some o) → Q (.ref s.heap.objs.size) { s with heap := h', toks := tk }) :
    wpAny (model P w) A (call (.type "set") [.ref l]) Q E s := by
  obtain ⟨c, tl, hmro⟩ := F.called_set.mro
  have hmade := F.called_set.made
  have hsub := F.called_set.sub
  refine wpAny_call (codeAny_of_tree ?_)
  show wpAny _ _ (callAny (.type "set") _) _ _ _
  refine wpAny_pure ⟨Code.quiet_builtin _ (by decide +kernel), codeAny_builtin F.entry_type_call ?_⟩
  rw [Around.under_plain (weight_type_call_type "set" [.ref l] []) rfl]
  have h1 := F.called_set.notType
  have h2 := F.called_set.canCreate
  have hct := F.typeCall_set_1 (.ref l)
  repeat (any_goals (first | assumption | wp_step))
  refine codeAny_mono (code_set_led1 (.ref l) (E := E) (Q₁ := fun obj s₁ => obj = .ref s.heap.objs.size ∧ s₁ = { s with heap := s.heap.push { cls := .type "set", dict := none, data := .set #[] 0 (.fresh 0 0 (!w.params.followText "set-order")) } }) ⟨rfl, rfl⟩) fun r s₁ hr => ?_
  cases r with
  | error e => exact hr
  | ok fl =>
    cases fl with
    | ret obj =>
      obtain ⟨rfl, rfl⟩ := hr
      have hS : (s.heap.push { cls := .type "set", dict := none, data := .set #[] 0 (.fresh 0 0 (!w.params.followText "set-order")) }).get? s.heap.objs.size = some { cls := .type "set", dict := none, data := .set #[] 0 (.fresh 0 0 (!w.params.followText "set-order")) } := Heap.get?_push_size _ rfl
      have hT : Shared.TypeIs { s with heap := s.heap.push { cls := .type "set", dict := none, data := .set #[] 0 (.fresh 0 0 (!w.params.followText "set-order")) } } (.ref s.heap.objs.size) "set" := ⟨_, hS, rfl⟩
      have hli := F.called_set.init.lookup
      have hbi := F.called_set.init.bind (.ref s.heap.objs.size)
      repeat (any_goals (first | assumption | wp_step))
      refine codeAny_mono (codeAny_call_builtin (R := wants (fun r s₂ => r = .none ∧ ∃ h' tk, s₂ = { s with heap := h', toks := tk } ∧ SP items.size h' ∧ (∀ b o, s.heap.get? b = some o → h'.get? b = some o)) E) F.called_set.init.plain F.entry_set_init (check_set_init_1 hT ?_)) fun r₂ s₂ hr₂ => ?_
      · obtain ⟨⟨ocls, odict, odata, oslots⟩, hol, hcl, nl, hdl⟩ := hl
        simp only at hcl hdl
        subst hcl; subst hdl
        have hol' : (s.heap.push { cls := .type "set", dict := none, data := .set #[] 0 (.fresh 0 0 (!w.params.followText "set-order")) }).get? l = some { cls := .type "list", dict := odict, data := .seq items nl, slots := oslots } := Heap.get?_push_of_some _ hol
        have hsls := F.sub_list_set
        have hslf := F.sub_list_frozenset
        have hne : (Value.type "list" == Value.type "dict") = false := by decide
        have hl1 : (s.heap.push { cls := .type "set", dict := none, data := .set #[] 0 (.fresh 0 0 (!w.params.followText "set-order")) }).IsList l items := ⟨_, hol', rfl, nl, rfl⟩
        unfold Builtin.«set.__init__» noKeywords Builtin.Frozenset.updateFrom
        generalize hPI : pyIter = PI
        wp_walk
        subst hPI
        refine wpAny_pyIter_list hl1 ?_
        refine wpAny_bind (wpAny_runValue ?_)
        have hlS : l < s.heap.objs.size := Heap.lt_size hol
        have hh3 : A.in1.in1.in1.handled = none := by simp [hh]
        have hneI : l ≠ (s.heap.push { cls := .type "set", dict := none, data := .set #[] 0 (.fresh 0 0 (!w.params.followText "set-order")) }).objs.size := by
          rw [Heap.size_push]
          exact Nat.ne_of_lt (Nat.lt_succ_of_lt hlS)
        have hSf : s.heap.objs.size ∉ [(s.heap.push { cls := .type "set", dict := none, data := .set #[] 0 (.fresh 0 0 (!w.params.followText "set-order")) }).objs.size, l] := by
          rw [Heap.size_push]
          simp only [List.mem_cons, List.mem_singleton, List.not_mem_nil, or_false, not_or]
          exact ⟨Nat.ne_of_lt (Nat.lt_succ_self _), Nat.ne_of_gt hlS⟩
        have none_of : ∀ b, s.heap.objs.size ≤ b → s.heap.get? b = none := fun b hb => by
          cases q : s.heap.get? b with
          | none => rfl
          | some o => exact absurd (Nat.lt_of_lt_of_le (Heap.lt_size q) hb) (Nat.lt_irrefl _)
        refine grow_loop ((Walks.list hh3 _ l hneI items).toS) hSf g (fun i v hv => by rw [Array.getElem?_toList]; exact hv) (none_of _ (Nat.le_refl _)) (fun b hb => none_of b (by
            rw [List.mem_singleton.mp hb, Heap.size_push]
            exact Nat.le_succ _)) hu (items.size - 0) 0 _ (by omega) (Nat.zero_le _)
          ⟨⟨_, Heap.get?_push_size _ rfl, rfl, rfl⟩, (hl1.push _)⟩ (fun b o e => Heap.get?_push_of_some _ (Heap.get?_push_of_some _ e)) (g.start _ (Heap.get?_push_of_some _ hS)) ?hR
        intro s' hm hS' hkp
        obtain ⟨h', g2, d', tk', os'⟩ := s'
        have eg : g2 = s.gens := hm.gens
        have ed : d' = s.drawn := hm.drawn
        have eo : os' = s.os := hm.os
        subst eg; subst ed; subst eo
        show wpAny _ _ _ _ _ _
        refine wpAny_pure ?_
        show wpAny _ _ (ret Value.none) _ _ _
        exact wpAny_pure ⟨rfl, h', tk', rfl, hS', hkp⟩
      · cases r₂ with
        | error e => exact hr₂
        | ok fl₂ =>
          cases fl₂ with
          | ret r =>
            obtain ⟨rfl, h', tk, rfl, hS', hk'⟩ := hr₂
            repeat (any_goals (first | assumption | wp_step))
            exact h _ _ hS' hk'
          | _ => exact hr₂.elim
    | _ => exact hr.elim
set_option maxHeartbeats 3200000 in
theorem call_set_T {l : Addr} {items : Array Value} {SP : Nat → Heap → Prop} {Q : Value → Shared → Prop} (hh : A.handled = none) (hl : s.heap.IsTuple l items) (g : Grows P w items.toList s.heap.objs.size s.heap SP) (hu : A.units + 3 < cLine)
    (h : ∀ (h' : Heap) (tk : Nat), SP items.size h' → (∀ b o, s.heap.get? b = some o → h'.get? b = some o) → Q (.ref s.heap.objs.size) { s with heap := h', toks := tk }) :
    wpAny (model P w) A (call (.type "set") [.ref l]) Q E s := by
  obtain ⟨c, tl, hmro⟩ := F.called_set.mro
  have hmade := F.called_set.made
  have hsub := F.called_set.sub
  refine wpAny_call (codeAny_of_tree ?_)
  show wpAny _ _ (callAny (.type "set") _) _ _ _
  refine wpAny_pure ⟨Code.quiet_builtin _ (by decide +kernel), codeAny_builtin F.entry_type_call ?_⟩
  rw [Around.under_plain (weight_type_call_type "set" [.ref l] []) rfl]
  have h1 := F.called_set.notType
  have h2 := F.called_set.canCreate
  have hct := F.typeCall_set_1 (.ref l)
  repeat (any_goals (first | assumption | wp_step))
  refine codeAny_mono (code_set_led1 (.ref l) (E := E) (Q₁ := fun obj s₁ => obj = .ref s.heap.objs.size ∧ s₁ = { s with heap := s.heap.push { cls := .type "set", dict := none, data := .set #[] 0 (.fresh 0 0 (!w.params.followText "set-order")) } }) ⟨rfl, rfl⟩) fun r s₁ hr => ?_
  cases r with
  | error e => exact hr
  | ok fl =>
    cases fl with
    | ret obj =>
      obtain ⟨rfl, rfl⟩ := hr
      have hS : (s.heap.push { cls := .type "set", dict := none, data := .set #[] 0 (.fresh 0 0 (!w.params.followText "set-order")) }).get? s.heap.objs.size = some { cls := .type "set", dict := none, data := .set #[] 0 (.fresh 0 0 (!w.params.followText "set-order")) } := Heap.get?_push_size _ rfl
      have hT : Shared.TypeIs { s with heap := s.heap.push { cls := .type "set", dict := none, data := .set #[] 0 (.fresh 0 0 (!w.params.followText "set-order")) } } (.ref s.heap.objs.size) "set" := ⟨_, hS, rfl⟩
      have hli := F.called_set.init.lookup
      have hbi := F.called_set.init.bind (.ref s.heap.objs.size)
      repeat (any_goals (first | assumption | wp_step))
      refine codeAny_mono (codeAny_call_builtin (R := wants (fun r s₂ => r = .none ∧ ∃ h' tk, s₂ = { s with heap := h', toks := tk } ∧ SP items.size h' ∧ (∀ b o, s.heap.get? b = some o → h'.get? b = some o)) E) F.called_set.init.plain F.entry_set_init (check_set_init_1 hT ?_)) fun r₂ s₂ hr₂ => ?_
      · obtain ⟨⟨ocls, odict, odata, oslots⟩, hol, hcl, nl, hdl⟩ := hl
        simp only at hcl hdl
        subst hcl; subst hdl
        have hol' : (s.heap.push { cls := .type "set", dict := none, data := .set #[] 0 (.fresh 0 0 (!w.params.followText "set-order")) }).get? l = some { cls := .type "tuple", dict := odict, data := .seq items nl, slots := oslots } := Heap.get?_push_of_some _ hol
        have hsls := F.sub_tuple_set
        have hslf := F.sub_tuple_frozenset
        have hne : (Value.type "tuple" == Value.type "dict") = false := by decide
        have hl1 : (s.heap.push { cls := .type "set", dict := none, data := .set #[] 0 (.fresh 0 0 (!w.params.followText "set-order")) }).IsTuple l items := ⟨_, hol', rfl, nl, rfl⟩
        unfold Builtin.«set.__init__» noKeywords Builtin.Frozenset.updateFrom
        generalize hPI : pyIter = PI
        wp_walk
        subst hPI
        refine wpAny_pyIter_tuple hl1 ?_
        refine wpAny_bind (wpAny_runValue ?_)
        have hlS : l < s.heap.objs.size := Heap.lt_size hol
        have hh3 : A.in1.in1.in1.handled = none := by simp [hh]
        have hneI : l ≠ (s.heap.push { cls := .type "set", dict := none, data := .set #[] 0 (.fresh 0 0 (!w.params.followText "set-order")) }).objs.size := by
          rw [Heap.size_push]
          exact Nat.ne_of_lt (Nat.lt_succ_of_lt hlS)
        have hSf : s.heap.objs.size ∉ [(s.heap.push { cls := .type "set", dict := none, data := .set #[] 0 (.fresh 0 0 (!w.params.followText "set-order")) }).objs.size, l] := by
          rw [Heap.size_push]
          simp only [List.mem_cons, List.mem_singleton, List.not_mem_nil, or_false, not_or]
          exact ⟨Nat.ne_of_lt (Nat.lt_succ_self _), Nat.ne_of_gt hlS⟩
        have none_of : ∀ b, s.heap.objs.size ≤ b → s.heap.get? b = none := fun b hb => by
          cases q : s.heap.get? b with
          | none => rfl
          | some o => exact absurd (Nat.lt_of_lt_of_le (Heap.lt_size q) hb) (Nat.lt_irrefl _)
        refine grow_loop ((Walks.tuple hh3 _ l hneI items).toS) hSf g (fun i v hv => by rw [Array.getElem?_toList]; exact hv) (none_of _ (Nat.le_refl _)) (fun b hb => none_of b (by
            rw [List.mem_singleton.mp hb, Heap.size_push]
            exact Nat.le_succ _)) hu (items.size - 0) 0 _ (by omega) (Nat.zero_le _)
          ⟨⟨_, Heap.get?_push_size _ rfl, rfl, rfl⟩, (hl1.push _)⟩ (fun b o e => Heap.get?_push_of_some _ (Heap.get?_push_of_some _ e)) (g.start _ (Heap.get?_push_of_some _ hS)) ?hR
        intro s' hm hS' hkp
        obtain ⟨h', g2, d', tk', os'⟩ := s'
        have eg : g2 = s.gens := hm.gens
        have ed : d' = s.drawn := hm.drawn
        have eo : os' = s.os := hm.os
        subst eg; subst ed; subst eo
        show wpAny _ _ _ _ _ _
        refine wpAny_pure ?_
        show wpAny _ _ (ret Value.none) _ _ _
        exact wpAny_pure ⟨rfl, h', tk', rfl, hS', hkp⟩
      · cases r₂ with
        | error e => exact hr₂
        | ok fl₂ =>
          cases fl₂ with
          | ret r =>
            obtain ⟨rfl, h', tk, rfl, hS', hk'⟩ := hr₂
            repeat (any_goals (first | assumption | wp_step))
            exact h _ _ hS' hk'
          | _ => exact hr₂.elim
    | _ => exact hr.elim
end
end K86

end

section
set_option Elab.async false
set_option linter.all false
set_option maxRecDepth 100000
set_option maxHeartbeats 2000000
/-! Sets of texts: set(xs), sorted(set). -/
namespace K86
open PySem PySem.Spec PyProof.Rows L2
open PySem.W (Datum DatumOrd Tup T3 T4 Holds HoldAll)
def keyS (e : Int × Value) : Str := match e.2 with
  | .str x _ => x
  | _ => Str.empty
def GoodS (w : World) (e : Int × Value) : Prop := ∃ x tk, e.2 = Value.str x tk ∧ e.1 = hashStr w x
/-- the set at a has the texts L, in its own order -/
def SetS (w : World) (h : Heap) (a : Addr) (L : List Str) : Prop :=
  ∃ o es ep t, h.get? a = some o ∧ o.ExactSet ∧ o.data = .set es ep t ∧ (∀ e ∈ es.toList, GoodS w e) ∧ es.toList.map keyS = L ∧ L.Nodup ∧ es.size < scanBound ∧ t.fits es.size = true ∧ Ris t.place.toList ∧ (w.params.followText "set-order" = true ∨ t.led = true)
section
variable {P : Program} {w : World} {A : Around} {E : Value → Shared → Prop} {s : Shared} {a : Addr} {L : List Str}
theorem SetS.at {h h' : Heap} (R : SetS w h a L) (k : ∀ o, h.get? a = some o → h'.get? a = some o) : SetS w h' a L := by
  obtain ⟨o, es, ep, t, ho, r⟩ := R
  exact ⟨o, es, ep, t, k o ho, r⟩
theorem goodS_is {e : Int × Value} (g : GoodS w e) (k : Str) : (strKind P w).is k e.2 = true ↔ keyS e = k := by
  obtain ⟨k0, tk, h1, _⟩ := g
  unfold keyS
  rw [h1]
  show Value.isStrOf k (.str k0 tk) = true ↔ k0 = k
  constructor
  · intro h
    obtain ⟨t, e⟩ := Value.isStrOf_shape h
    injection e
  · rintro rfl
    exact (keyIs_str k0 tk : keyIs (.inr k0) (.str k0 tk) = true)
theorem goodS_elems {l : List (Int × Value)} (g : ∀ e ∈ l, GoodS w e) : ElemsOf (strKind P w) l := fun e he => by
  obtain ⟨k, tk, h1, h2⟩ := g e he
  exact ⟨⟨k, (goodS_is (g e he) k).mpr (by unfold keyS; rw [h1]), h2⟩, by rw [h1]; rfl⟩
theorem setS_tail {g : Bool → Sem Unit} (hg : ∀ (b : Bool) (s₁ : Shared) (Q' : Unit → Shared → Prop), Q' () s₁ → wpAny (model P w) A (g b) Q' E s₁)
    {o : Obj} {es : Array (Int × Value)} {ep : Nat} {t : SetTable} (ho : s.heap.get? a = some o) (hex : o.ExactSet) (hd : o.data = .set es ep t)
    {es1 : Array (Int × Value)} {t2 : SetTable} (g1 : ∀ e ∈ es1.toList, GoodS w e) (nd1 : (es1.toList.map keyS).Nodup)
    (hb1 : es1.size < scanBound) (hf2 : t2.fits es1.size = true) (hr : Ris t2.place.toList) (hl : w.params.followText "set-order" = true ∨ t2.led = true) {wasDummy : Bool} {R : Option Bool → Shared → Prop}
    (hR : ∀ h' L', Heap.SameBut a s.heap h' → SetS w h' a L' → L'.Perm (es1.toList.map keyS) → R (some true) { s with heap := h' }) :
    wpAny (model P w) A (do
        storeSet a es1 t2
        if (!wasDummy && t2.tooFull) = true then do
            g (relayAll t2 es1 (SetTable.grown es1.size)).2.2
            storeSet a (relayAll t2 es1 (SetTable.grown es1.size)).1 (relayAll t2 es1 (SetTable.grown es1.size)).2.1
            pure (some true)
          else pure (some true)) R E s := by
  refine wpAny_bind (wpAny_storeSet_of ho hd ?_ (fits_of_scanBound hb1))
  have ho1 := store_at (es' := es1) (t' := t2) ho hd
  have sb1 := Heap.SameBut.update s.heap a (Obj.putSet es1 t2)
  split
  · have pm := relayAll_perm t2 es1 (SetTable.grown es1.size)
    have hf3 := relayAll_fits t2 es1 (SetTable.grown es1.size)
    have hr3 := relayAll_ris t2 es1 (SetTable.grown es1.size)
    have hl3 := relayAll_led t2 es1 (SetTable.grown es1.size)
    generalize relayAll t2 es1 (SetTable.grown es1.size) = Z at pm hf3 hr3 hl3 ⊢
    obtain ⟨es2, t3, gave⟩ := Z
    dsimp only at pm hf3 hr3 hl3 ⊢
    have hsz : es2.size = es1.size := by rw [← Array.length_toList, pm.length_eq, Array.length_toList]
    have hb2 : es2.size < scanBound := by rw [hsz]; exact hb1
    refine wpAny_bind (hg _ _ _ ?_)
    refine wpAny_bind (wpAny_storeSet_of ho1 rfl ?_ (fits_of_scanBound hb2))
    have ho2 := store_at (es' := es2) (t' := t3) ho1 rfl
    refine wpAny_pure (hR _ (es2.toList.map keyS) (sb1.trans (Heap.SameBut.update _ a _)) ?_ (pm.map keyS))
    exact ⟨_, es2, _, t3, ho2, hex, rfl, fun e he => g1 e (pm.mem_iff.mp he), rfl, (pm.map keyS).nodup_iff.mpr nd1, hb2, hf3, hr3, hl.imp id fun z => by rw [hl3]; exact z⟩
  · exact wpAny_pure (hR _ _ sb1 ⟨_, es1, _, t2, ho1, hex, rfl, g1, rfl, nd1, hb1, hf2, hr, hl⟩ (List.Perm.refl _))
theorem setS_add {k : Str} {tk : Tok} {Q : Bool → Shared → Prop} (R : SetS w s.heap a L) (room : L.length + 1 < scanBound)
    (hQ : ∀ b h' L', Heap.SameBut a s.heap h' → SetS w h' a L' → (k ∈ L → L' = L) → (k ∉ L → L'.Perm (k :: L)) → Q b { s with heap := h' }) :
    wpAny (model P w) A (setAddHashed a (.str k tk) ((strKind P w).hash k)) Q E s := by
  obtain ⟨o, es, ep, t, ho, hex, hd, g, eL, nd, hb, hf, hr, hl⟩ := id R
  have hkey : (strKind P w).is k (.str k tk) = true := (keyIs_str k tk : keyIs (.inr k) (.str k tk) = true)
  have hsc : (Value.str k tk).scannable = true := rfl
  have hel : ElemsOf (strKind P w) es.toList := goodS_elems g
  have mem : ∀ x, x ∈ L ↔ ∃ e ∈ es.toList, (strKind P w).is x e.2 = true := fun x => by
    rw [← eL, List.mem_map]
    constructor
    · rintro ⟨e, he, q⟩
      exact ⟨e, he, (goodS_is (g e he) x).2 q⟩
    · rintro ⟨e, he, q⟩
      exact ⟨e, he, (goodS_is (g e he) x).1 q⟩
  unfold setAddHashed setAddHashedIn
  refine wpAny_holding (wpAny_bind (wpAny_setState_of ho hd hf ?_))
  dsimp only
  rw [byScan_of hsc hb hel]
  simp only [↓reduceIte]
  unfold setAddByScan
  refine wpAny_bind ?_
  refine wpAny_bind (wpAny_rule ?_)
  refine wpAny_bind (wpAny_setScan_of hkey ho hd hf hel ?_)
  cases hfi : List.findIdx? (fun e => (strKind P w).is k e.2) es.toList with
  | some j =>
    dsimp only
    obtain ⟨hj, pj, _⟩ := List.findIdx?_eq_some_iff_getElem.mp hfi
    have hk : k ∈ L := (mem k).2 ⟨es.toList[j], List.getElem_mem hj, pj⟩
    exact wpAny_pure (wpAny_pure (hQ _ s.heap L (Heap.SameBut.refl a s.heap) R (fun _ => rfl) fun z => absurd hk z))
  | none =>
    dsimp only
    have hnk : k ∉ L := fun z => by
      obtain ⟨e, he, q⟩ := (mem k).1 z
      have c := List.findIdx?_eq_none_iff.mp hfi e he
      rw [q] at c
      cases c
    have hgw : ∀ (b : Bool) {s₁ : Shared} {Q' : Unit → Shared → Prop}, Q' () s₁ → wpAny (model P w) A (match b with | true => rule "set.scan.the-table-gave-way" | false => pure ()) Q' E s₁ :=
      fun b s₁ Q' q => by cases b <;> first | exact wpAny_pure q | exact wpAny_rule q
    have pm := layNew_perm t es ((strKind P w).hash k) (.str k tk)
    have hf1 := layNew_fits t es ((strKind P w).hash k) (.str k tk)
    have hr1 := layNew_ris t es ((strKind P w).hash k) (.str k tk) hr
    have hl1 := layNew_led t es ((strKind P w).hash k) (.str k tk)
    generalize layNew t es ((strKind P w).hash k) (.str k tk) = Z at pm hf1 hr1 hl1 ⊢
    obtain ⟨es1, t1, wasDummy, gave⟩ := Z
    dsimp only at pm hf1 hr1 hl1 ⊢
    rw [Array.toList_push] at pm
    have pc : es1.toList.Perm (((strKind P w).hash k, Value.str k tk) :: es.toList) := pm.trans (List.perm_append_singleton _ _)
    have pk : (es1.toList.map keyS).Perm (k :: L) := eL ▸ pc.map keyS
    have g1 : ∀ e ∈ es1.toList, GoodS w e := fun e he => by
      rcases List.mem_cons.mp (pc.mem_iff.mp he) with z | z
      · rw [z]; exact ⟨k, tk, rfl, rfl⟩
      · exact g e z
    have nd1 : (es1.toList.map keyS).Nodup := pk.nodup_iff.mpr (List.nodup_cons.mpr ⟨hnk, nd⟩)
    have hsz : es1.size = L.length + 1 := by rw [← Array.length_toList, ← List.length_map (f := keyS), pk.length_eq, List.length_cons]
    have hb1 : es1.size < scanBound := by rw [hsz]; exact room
    have hled : w.params.followText "set-order" = true ∨ t1.led = true := hl.imp id fun z => by rw [hl1]; exact z
    have fin : ∀ b h' L', Heap.SameBut a s.heap h' → SetS w h' a L' → L'.Perm (es1.toList.map keyS) → Q b { s with heap := h' } := fun b h' L' sb r p => hQ b h' L' sb r (fun z => absurd z hnk) fun _ => p.trans pk
    refine wpAny_bind (hgw _ ?_)
    split
    · refine wpAny_bind ?_
      rw [hashByValue_scannable 8 hsc]
      refine wpAny_pure ?_
      refine setS_tail ?_ ho hex hd g1 nd1 hb1 ?_ ?_ ?_ ?_
      · intro b s₁ Q' q; cases b <;> first | exact wpAny_pure q | exact wpAny_rule q
      · first | (split <;> first | exact hf1 | exact SetTable.fits_plain_off hf1) | exact hf1
      · first | (split <;> exact hr1) | exact hr1
      · first | (split <;> exact hled) | exact hled
      · intro h' L' sb r p; dsimp only; exact wpAny_pure (fin _ h' L' sb r p)
    · refine wpAny_bind (wpAny_pure ?_)
      simp only [↓reduceIte]
      refine setS_tail ?_ ho hex hd g1 nd1 hb1 hf1 hr1 hled ?_
      · intro b s₁ Q' q; cases b <;> first | exact wpAny_pure q | exact wpAny_rule q
      · intro h' L' sb r p; dsimp only; exact wpAny_pure (fin _ h' L' sb r p)
theorem setS_fresh {h : Heap} (w : World) {a : Addr} (ho : h.get? a = some { cls := .type "set", dict := none, data := .set #[] 0 (.fresh 0 0 (!w.params.followText "set-order")) }) : SetS w h a [] :=
  ⟨_, #[], 0, _, ho, ⟨rfl, rfl, rfl⟩, rfl, (fun e he => by simp at he), rfl, List.nodup_nil, (by decide), (by rfl), List.Pairwise.nil, by
    show _ ∨ (!w.params.followText "set-order") = true
    cases w.params.followText "set-order"
    · exact .inr rfl
    · exact .inl rfl⟩
/-- what a set of texts has got -/
def GotS (w : World) (xs : List Str) (S : Addr) (i : Nat) (h : Heap) : Prop := ∃ L, SetS w h S L ∧ L.length ≤ i ∧ ∀ x, x ∈ L ↔ x ∈ xs.take i
theorem growsS {vs : List Value} {xs : List Str} (hv : ∀ (i : Nat) (v : Value), vs[i]? = some v → ∃ x t, xs[i]? = some x ∧ v = .str x t) (hz : xs.length + 1 < scanBound) (S : Addr) (h0 : Heap) : Grows P w vs S h0 (GotS w xs S) where
  start := fun h ho => ⟨[], setS_fresh w ho, Nat.le_refl _, fun x => by simp⟩
  stay := fun i h h' ⟨L, R, z, m⟩ k _ => ⟨L, R.at k, z, m⟩
  step := by
    intro i v s A Q E hi ⟨L, R, z, m⟩ _ _ hQ
    obtain ⟨x, t, hx, rfl⟩ := hv i v hi
    have hil := (List.getElem?_eq_some_iff.mp hx).1
    unfold setAdd
    refine wpAny_holding ?_
    refine wpAny_bind ((strKind P w).pyHash (k := x) (keyIs_str x t : keyIs (.inr x) (.str x t) = true) ?_)
    refine setS_add (s := { s with toks := s.toks + 1 }) R (by omega) fun b h' L' sb R' c1 c2 => hQ b h' (s.toks + 1) (Nat.le_succ _) sb ⟨L', R', ?_, fun y => ?_⟩
    · by_cases c : x ∈ L
      · rw [c1 c]; omega
      · rw [(c2 c).length_eq, List.length_cons]; omega
    · rw [List.take_add_one, hx, List.mem_append]
      by_cases c : x ∈ L
      · rw [c1 c, m y]
        constructor
        · exact .inl
        · rintro (q | q)
          · exact q
          · rw [Option.toList_some, List.mem_singleton] at q
            rw [q]
            exact (m x).mp c
      · rw [(c2 c).mem_iff, List.mem_cons, m y, Option.toList_some, List.mem_singleton]
        exact Or.comm
end
section
variable {X : Cx}
def SetSO (w : World) (a : Addr) (L : List Str) : HO := .ext fun h => SetS w h a L
theorem setSO_new {w : World} {P : Program} {H : Hp} {h : Heap} {a : Addr} {L : List Str} (R : SetS w h a L) : ObjOk P w H h a (SetSO w a L) := by
  have ⟨o, _, _, _, ho, _⟩ := R
  exact ⟨R, ⟨o, ho⟩, fun h1 h2 p k => SetS.at p k⟩
/-- set(xs) -/
def rSetS (K : PySem.W.Frag) (w : World) : List V → Hp → VK → Prop := fun vs H Q => ∃ (l : Addr) (xs : List Str), vs = [.ref l] ∧ SqL K H l (xs.map V.str) ∧ xs.length < 1000 ∧
  ∀ a L, H a = none → L.Nodup → L.length ≤ xs.length → (∀ x, x ∈ L ↔ x ∈ xs) → Q (.ref a) (upd H a (SetSO w a L))
theorem cr_setS (hc : X.calm = true) (hu : X.A.units + 64 < cLine) : CallR X (.type "set") (rSetS X.K X.w) := by
  intro pins s σ H vs us Q I r h
  obtain ⟨l, xs, rfl, hl, hz, q⟩ := h
  rw [Vals.ref1 r]
  obtain ⟨its, rv, pl, _⟩ := I.list hl
  have hn : H s.heap.objs.size = none := I.hok.fresh (Nat.le_refl _)
  have hlen : its.length = xs.length := by rw [← rv.length, List.length_map]
  refine call_set_L (P := X.prog) (w := X.w) (SP := GotS X.w xs s.heap.objs.size) (I.ok.hd hc) pl.isList (growsS (fun i v hv => ?_) (by unfold scanBound; omega) _ _) (by omega) fun h' tk g k => ?_
  · have hil : i < xs.length := by
      have := (List.getElem?_eq_some_iff.mp hv).1
      simpa [hlen] using this
    obtain ⟨u, hu, ru⟩ := rv.get (i := i) (x := V.str xs[i]) (by rw [List.getElem?_map, List.getElem?_eq_getElem hil]; rfl)
    obtain ⟨t, rfl⟩ := ru
    have hv : its[i]? = some v := by simpa using hv
    rw [hu] at hv
    exact ⟨xs[i], t, List.getElem?_eq_getElem hil, (Option.some.inj hv).symm⟩
  · obtain ⟨L, R, z, m⟩ := g
    have e : its.toArray.size = xs.length := by simpa using hlen
    rw [e, List.take_length] at m
    rw [e] at z
    have ⟨_, _, _, _, _, _, _, _, _, nd, _⟩ := R
    exact ⟨.ref s.heap.objs.size, upd H s.heap.objs.size (SetSO X.w s.heap.objs.size L), I.laid (t' := tk) k (Nat.le_refl _) (setSO_new R), rfl, q _ L hn nd z m⟩
/-- sorted of what collect gathers, in whatever order -/
theorem sort_gathered {α : Type} [DecidableEq α] [DatumOrd α] [Lin α] [Flat α] {pins : List (Addr × Obj)} {σ : L2.St} {H : Hp} {s : Shared} {a : Addr} {xs : List α} {Q : VK} (I : Inv X pins σ H s) (hz : xs.length ≤ sizeLine) (hk : ∀ ys : List α, ys.Perm xs → PySem.W.Sortable (ys.map Datum.toD)) (hu : X.A.units + 64 < cLine)
    (hc : ∀ (R : List Value → Shared → Prop), (∀ s' out ws ys, (∀ b o, s.heap.get? b = some o → s'.heap.get? b = some o) → s'.gens = s.gens → s'.os = s.os → Vals ws out → IsAll X.K H ws ys → ys.Perm xs → R out s') → wpAny (model X.prog X.w) X.A.in1 (collect (.ref a)) R X.xe s)
    (q : ∀ (p : Addr) (out : List V), H p = none → IsAll X.K H out (srt xs) → Q (.ref p) (upd H p (.lst out))) (hd : Datum.depth α ≤ 60 := by decide) :
    wpAny (model X.prog X.w) X.A (call (.builtin "sorted") [.ref a]) (EP X pins σ Q) X.xe s := by
  refine PySem.Calls.call_function_entry kind_sorted plain_sorted entry_sorted (args_sorted1 _) ?_
  unfold Builtin.«sorted»
  refine wpAny_bind (m := checkCount "sorted" 1 1 _) (wpAny_pure ?_)
  refine wpAny_bind (hc _ fun s' out ws ys hk' hg ho rv hs py => ?_)
  have I' : Inv X pins σ H s' := I.call' (ch := []) ho (Un.kept hk') (I.hok.kept hk') (by rw [hg]; exact I.bare) fun _ z => nomatch z
  have hzy : ys.length ≤ sizeLine := by rw [py.length_eq]; exact hz
  refine sort_new (each_fwd (xs := ys) rv hs) (hs.holds I' rv) (hk ys py) hzy ?_ fun h2 out2 c k2 e2 g2 => ?_
  · have : X.A.in1.units = X.A.units + 1 := rfl
    omega
  · obtain ⟨zs, rz, hzs⟩ := each_back e2
    rw [srt_same py] at hzs
    have hly : zs.length ≤ sizeLine := by rw [hzs.length, srt_length]; exact hz
    refine wpAny_pure ⟨_, rfl, ?_⟩
    exact ⟨.ref s'.heap.objs.size, upd H s'.heap.objs.size (.lst zs), I'.laid (t' := s'.toks) k2 (Nat.le_refl _) ⟨hly, out2, c, rz, g2⟩, rfl, q _ zs (I'.hok.fresh (Nat.le_refl _)) hzs⟩
def rSrtSet (K : PySem.W.Frag) (w : World) : List V → Hp → VK → Prop := fun vs H Q => ∃ (a : Addr) (L : List Str), vs = [.ref a] ∧ H a = some (SetSO w a L) ∧ L.length < 1000 ∧ ∀ (p : Addr), H p = none → Q (.ref p) (upd H p (.lst ((srt L).map V.str)))
theorem strs_perm {out : List Value} : ∀ {l : List (Int × Value)}, (∀ e ∈ l, ∃ x tk, e.2 = Value.str x tk) → Vals ((l.map keyS).map V.str) (l.map (·.2))
  | [], _ => .nil
  | e :: l, h => by
    obtain ⟨x, tk, he⟩ := h e (List.mem_cons_self ..)
    refine .cons ?_ (strs_perm (out := out) fun f hf => h f (List.mem_cons_of_mem _ hf))
    show RelV (.str (keyS e)) e.2
    unfold keyS
    rw [he]
    exact ⟨tk, rfl⟩
/-- values in another order -/
theorem vals_perm {ws : List V} {us out : List Value} (r : Vals ws us) (p : out.Perm us) : ∃ ws', Vals ws' out ∧ ws'.Perm ws := by
  induction p generalizing ws with
  | nil => exact ⟨ws, r, List.Perm.refl _⟩
  | cons x _ ih =>
    cases r with
    | cons r1 r2 =>
      obtain ⟨ws', a, b⟩ := ih r2
      exact ⟨_ :: ws', .cons r1 a, b.cons _⟩
  | swap x y l =>
    cases r with
    | cons r1 r2 =>
      cases r2 with
      | cons r3 r4 => exact ⟨_, .cons r3 (.cons r1 r4), List.Perm.swap _ _ _⟩
  | trans _ _ ih1 ih2 =>
    obtain ⟨ws1, a1, b1⟩ := ih2 r
    obtain ⟨ws2, a2, b2⟩ := ih1 a1
    exact ⟨ws2, a2, b2.trans b1⟩
theorem strs_of_perm {ws : List V} {L : List Str} (p : ws.Perm (L.map V.str)) : ∃ L' : List Str, ws = L'.map V.str ∧ L'.Perm L := by
  have hm : ∀ v ∈ ws, ∃ x, v = V.str x := fun v hv => by
    obtain ⟨x, _, e⟩ := List.mem_map.mp (p.mem_iff.mp hv)
    exact ⟨x, e.symm⟩
  have key : ∀ l : List V, (∀ v ∈ l, ∃ x, v = V.str x) → ∃ L' : List Str, l = L'.map V.str := by
    intro l
    induction l with
    | nil => intro _; exact ⟨[], rfl⟩
    | cons v l ih =>
      intro h
      obtain ⟨x, e⟩ := h v (List.mem_cons_self ..)
      obtain ⟨L', e'⟩ := ih fun u hu => h u (List.mem_cons_of_mem _ hu)
      exact ⟨x :: L', by rw [e, e', List.map_cons]⟩
  obtain ⟨L', e⟩ := key ws hm
  refine ⟨L', e, ?_⟩
  rw [e] at p
  let f : V → Str := fun v => match v with
    | .str x => x
    | _ => Str.empty
  have h := p.map f
  rw [List.map_map, List.map_map] at h
  have e1 : (f ∘ V.str) = id := rfl
  rw [e1, List.map_id, List.map_id] at h
  exact h
theorem srtable_str (xs : List Str) : PySem.W.Sortable (xs.map Datum.toD) := PySem.W.Sortable.others fun b => ⟨(by intro e; cases e), fun ys e => by cases e⟩
theorem cr_srtSet (hc : X.calm = true) (hu : X.A.units + 64 < cLine) : CallR X (.builtin "sorted") (rSrtSet X.K X.w) := by
  intro pins s σ H vs us Q I r h
  obtain ⟨a, L, rfl, ha, hz, q⟩ := h
  rw [Vals.ref1 r]
  have R : SetS X.w s.heap a L := (I.hok a _ ha).1
  obtain ⟨o, es, ep, t, ho, hex, hd, g, eL, nd, hb, hf, hr, hl⟩ := R
  have rv0 := strs_perm (out := []) fun e he => let ⟨x, tk, h1, _⟩ := g e he; ⟨x, tk, h1⟩
  rw [eL] at rv0
  refine sort_gathered (xs := L) I (by rw [sizeLine_eq]; omega) (fun ys _ => srtable_str ys) hu (fun R' hR => ?_) fun p out hp ho' => ?_
  · refine collect_set (A := X.A.in1) (show X.A.in1.handled = none from I.ok.hd hc) ⟨o, ho, hex.1, hd⟩ hf hb hr hl fun s' out hk' _ hg ho' pm => ?_
    obtain ⟨ws, rw', pw⟩ := vals_perm rv0 pm
    obtain ⟨L', rfl, pL⟩ := strs_of_perm pw
    exact hR s' out _ L' hk' hg ho' rw' (strs_isAll L') pL
  · rw [isAll_strs ho']
    exact q p hp
end
end K86

end

section
set_option Elab.async false
set_option linter.all false
set_option maxRecDepth 100000
set_option maxHeartbeats 2000000
/-! Sets of a few tuples of texts: set(xs), sorted(set), len(set). -/
namespace K86
open PySem PySem.Spec PyProof.Rows L2
open PySem.W (Datum DatumOrd Tup T3 T4 Holds HoldAll)
abbrev hW (P : Program) (w : World) (k : List Str) : Int := tupleKeyHash (strKind P w) k
abbrev IsW (P : Program) (w : World) (h : Heap) (k : List Str) (a : Addr) : Prop := IsTupleKey (strKind P w) h k a
abbrev Row := Addr × List Str
def stp (m : Nat) (h : Int) (c : Nat) : SetTable.Probe := nth m (runAt m (SetTable.bits h % (m + 1)) (SetTable.bits h)) c
section
variable {P : Program} {w : World} {A : Around} {E : Value → Shared → Prop} {s : Shared}
theorem itemsW {k : List Str} {vs : List Value} (h : ItemsAre (strKind P w) k vs) : ∀ v ∈ vs, ∃ x t, v = Value.str x t := by
  induction h with
  | nil => exact fun v hv => (List.not_mem_nil hv).elim
  | cons h1 _ ih =>
    intro v hv
    rcases List.mem_cons.mp hv with e | hv
    · obtain ⟨t, e2⟩ := Value.isStrOf_shape h1
      exact ⟨_, t, e.trans e2⟩
    · exact ih v hv
theorem ofAClassW {k : List Str} {b : Addr} {Q : Bool → Shared → Prop} (hk : IsW P w s.heap k b) (h : Q false s) : wpAny (model P w) A (ofAClassStatement 8 (.ref b)) Q E s := by
  have hT := hk.typeIs
  obtain ⟨o, items, n, ho, _, hd, hi⟩ := hk
  unfold ofAClassStatement
  refine wpAny_bind (wpAny_typeOf hT ?_)
  dsimp only
  have e : (("tuple" : String) == "tuple") = true := by decide
  simp only [e, if_true, Bool.not_true, Bool.false_eq_true, if_false]
  try refine wpAny_bind (wpAny_pure ?_)
  try simp only [Bool.not_true, Bool.false_eq_true, if_false]
  show wpAny _ _ (seqItems? (.ref b) >>= _) _ _ s
  refine wpAny_bind (wpAny_seqItems ho hd ?_)
  dsimp only
  refine wpAny_bind ?_
  show wpAny _ _ (forIn items _ _) _ _ s
  rw [← Array.forIn_toList]
  refine wpAny_forIn_list _ (fun rest r s' => r.1 = none ∧ s' = s ∧ ∀ v ∈ rest, ∃ x t, v = Value.str x t) _ ?_ ?_ _ _ ⟨rfl, rfl, itemsW hi⟩
  · rintro v rest r s' ⟨hr, rfl, all⟩
    obtain ⟨x, t, rfl⟩ := all v List.mem_cons_self
    have e1 : ofAClassStatement 7 (.str x t) = pure false := rfl
    rw [e1]
    refine wpAny_bind (wpAny_pure ?_)
    simp only [Bool.false_eq_true, if_false]
    exact wpAny_pure ⟨rfl, rfl, fun u hu => all u (List.mem_cons_of_mem _ hu)⟩
  · rintro ⟨r1, r2⟩ s' ⟨hr, rfl, _⟩
    simp only at hr
    subst hr
    exact wpAny_pure h
theorem hashByW {k : List Str} {b : Addr} {Q : Bool → Shared → Prop} (hk : IsW P w s.heap k b) (h : ∀ v, Q v s) : wpAny (model P w) A (hashByValue 8 (.ref b)) Q E s := by
  have hT := hk.typeIs
  obtain ⟨o, items, n, ho, _, hd, hi⟩ := hk
  unfold hashByValue
  refine wpAny_bind (wpAny_specialOf hT F.slot_tuple_hash.lookup ?_)
  show wpAny _ _ (seqItems? (.ref b) >>= _) _ _ s
  refine wpAny_bind (wpAny_seqItems ho hd ?_)
  refine wpAny_bind ?_
  show wpAny _ _ (forIn items _ _) _ _ s
  rw [← Array.forIn_toList]
  refine wpAny_forIn_list _ (fun rest r s' => r.1 = none ∧ s' = s ∧ ∀ v ∈ rest, ∃ x t, v = Value.str x t) _ ?_ ?_ _ _ ⟨rfl, rfl, itemsW hi⟩
  · rintro v rest r s' ⟨hr, rfl, all⟩
    obtain ⟨x, t, rfl⟩ := all v List.mem_cons_self
    rw [hashByValue_scannable _ (rfl : (Value.str x t).scannable = true)]
    refine wpAny_bind (wpAny_pure ?_)
    exact wpAny_pure (wpAny_pure (h false))
  · rintro ⟨r1, r2⟩ s' ⟨hr, rfl, _⟩
    simp only at hr
    subst hr
    exact wpAny_pure (h true)
theorem seenW {k : List Str} {b : Addr} {Q : Bool → Shared → Prop} (hk : IsW P w s.heap k b) {ys : List Value} (hy : ∀ y ∈ ys, ∃ k' c, y = Value.ref c ∧ IsW P w s.heap k' c) (h : Q false s) :
    wpAny (model P w) A (searchCouldBeSeen (.ref b) ys) Q E s := by
  unfold searchCouldBeSeen
  refine wpAny_bind ?_
  refine wpAny_forIn_list _ (fun rest r s' => r.1 = none ∧ s' = s ∧ ∀ y ∈ rest, ∃ k' c, y = Value.ref c ∧ IsW P w s.heap k' c) _ ?_ ?_ _ _ ⟨rfl, rfl, hy⟩
  · rintro v rest r s' ⟨hr, rfl, all⟩
    obtain ⟨k', c, rfl, hc⟩ := all v List.mem_cons_self
    have rest' : ∀ y ∈ rest, ∃ k' c, y = Value.ref c ∧ IsW P w s'.heap k' c := fun u hu => all u (List.mem_cons_of_mem _ hu)
    dsimp only
    by_cases hv : (b == c || (carriedByValue (.ref b) && carriedByValue (.ref c))) = true
    · exact wp_if_pos hv (wpAny_pure ⟨rfl, rfl, rest'⟩)
    · refine wp_if_neg hv ?_
      refine wpAny_bind (wpAny_eqIsQuiet_tuple hk ?_)
      simp only [Bool.not_true, Bool.false_eq_true, if_false]
      refine wpAny_bind (wpAny_eqIsQuiet_tuple hc ?_)
      simp only [Bool.not_true, Bool.false_eq_true, if_false]
      refine wpAny_bind (ofAClassW hk ?_)
      simp only [Bool.false_eq_true, if_false]
      refine wpAny_bind (ofAClassW hc ?_)
      simp only [Bool.false_eq_true, if_false]
      exact wpAny_pure ⟨rfl, rfl, rest'⟩
  · rintro ⟨r1, r2⟩ s' ⟨hr, rfl, _⟩
    simp only at hr
    subst hr
    exact wpAny_pure h
def rowsW (P : Program) (w : World) (L : List Row) : List (Int × Value) := L.map fun p => (hW P w p.2, Value.ref p.1)
structure SetW (P : Program) (w : World) (h : Heap) (a : Addr) (L : List Row) (es : Array (Int × Value)) (ep : Nat) (t : SetTable) : Prop where
  ob : ∃ o, h.get? a = some o ∧ o.ExactSet ∧ o.data = .set es ep t
  rows : es.toList = rowsW P w L
  tab : TabOk t (L.map fun p => hW P w p.2)
  nd : (L.map (·.2)).Nodup
  tup : ∀ p ∈ L, IsW P w h p.2 p.1
  led : w.params.followText "set-order" = true ∨ t.led = true
  seven : t.mask = 7
  few : L.length ≤ 4
variable {a : Addr} {L : List Row} {es : Array (Int × Value)} {ep : Nat} {t : SetTable}
theorem SetW.size (R : SetW P w s.heap a L es ep t) : es.size = L.length := by
  rw [← Array.length_toList, R.rows]
  exact List.length_map ..
theorem SetW.places (R : SetW P w s.heap a L es ep t) : t.place.size = L.length := R.tab.sz.trans (List.length_map ..)
theorem SetW.fits (R : SetW P w s.heap a L es ep t) : t.fits es.size = true := by
  have h1 := R.places
  have h2 := R.size
  have h3 := R.few
  have h4 := R.seven
  unfold SetTable.fits SetTable.fill
  rw [R.tab.dm, Bool.and_eq_true, beq_iff_eq, decide_eq_true_eq]
  show t.place.size = es.size ∧ t.place.size + 0 ≤ t.mask
  omega
theorem SetW.entry (R : SetW P w s.heap a L es ep t) {i : Nat} {p : Row} (h : L[i]? = some p) : es[i]? = some (hW P w p.2, Value.ref p.1) := by
  rw [← Array.getElem?_toList, R.rows]
  unfold rowsW
  rw [List.getElem?_map, h]
  rfl
theorem SetW.gw (R : SetW P w s.heap a L es ep t) : ¬ t.gaveWay = true := by
  unfold SetTable.gaveWay
  rw [mask_odd R.tab.mok]
  decide
theorem stp_dummy (m : Nat) (h : Int) (c : Nat) : (stp m h c).dummy = none := by
  have key : ∀ (n : Nat) (p : SetTable.Probe), p.dummy = none → (nth m p n).dummy = none := by
    intro n
    induction n with
    | zero => exact fun p h => h
    | succ n ih =>
      intro p h
      refine ih (adv m p) ?_
      unfold adv
      split <;> exact h
  exact key c _ rfl
theorem stp_add (m : Nat) (h : Int) (c q : Nat) : nth m (stp m h c) q = stp m h (c + q) := (nth_add m c _ q).symm
theorem stp_way (m : Nat) (h : Int) (c q : Nat) : (nth m (stp m h c) q).j = way m h (c + q) := congrArg SetTable.Probe.j (stp_add m h c q)
/-- the search, from the c-th step on -/
theorem searchW (R : SetW P w s.heap a L es ep t) {x : Addr} {k : List Str} (hx : IsW P w s.heap k x) (hu : A.units < cLine) {K : Nat} (hKf : K < 10 * SetTable.turns t.mask)
    (hK : way t.mask (hW P w k) K ∉ t.place.toList) (hKb : ∀ c, c < K → way t.mask (hW P w k) c ∈ t.place.toList) {Q : SetFound → Shared → Prop}
    (hin : k ∈ L.map (·.2) → Q (.there none) s) (hout : k ∉ L.map (·.2) → Q (.free (way t.mask (hW P w k) K) false) s) :
    ∀ (f c : Nat) (stand : Option SetTable.Probe), stand.getD (t.probeStart (hW P w k)) = stp t.mask (hW P w k) c → c ≤ K → K - c < f →
      (∀ (i : Nat) p, L[i]? = some p → p.2 = k → ∃ c', c ≤ c' ∧ c' < K ∧ t.place.toList[i]? = some (way t.mask (hW P w k) c')) →
      wpAny (model P w) A (setSearchFrom a (.ref x) (hW P w k) true f stand) Q E s
  | 0, c, stand, _, _, hf, _ => absurd hf (Nat.not_lt_zero _)
  | f + 1, c, stand, hst, hc, hf, hre => by
    obtain ⟨o, ho, hex, hd⟩ := R.ob
    rw [setSearchFrom_succ]
    refine wpAny_bind (wpAny_setState_of ho hd R.fits ?_)
    dsimp only
    refine wp_if_neg R.gw ?_
    try refine wpAny_bind (wpAny_pure ?_)
    have spec := go_spec t R.tab.ris R.tab.dm (fun i => (es[i]?.map (·.1)).getD 0) (hW P w k) (10 * SetTable.turns t.mask) (K - c) _ (stp_dummy t.mask (hW P w k) c) (by omega)
      (fun q hq => by rw [stp_way]; exact hKb (c + q) (by omega)) (by rw [stp_way, show c + (K - c) = K by omega]; exact hK)
    have hashAt : ∀ (i : Nat) p, L[i]? = some p → (fun i => (es[i]?.map (·.1)).getD 0) i = hW P w p.2 := fun i p hp => by
      show (es[i]?.map (·.1)).getD 0 = _
      rw [R.entry hp]
      rfl
    rcases spec with ⟨q, i, hq, hi, hh, hno, hpr⟩ | ⟨hno, hpr⟩
    · have hpr' : t.probe (fun i => (es[i]?.map (·.1)).getD 0) (hW P w k) (stand.getD (t.probeStart (hW P w k))) = some (.candidate (way t.mask (hW P w k) (c + q)) i (stp t.mask (hW P w k) (c + (q + 1)))) := by
        rw [hst, ← stp_way, ← stp_add]
        exact hpr
      rw [hpr']
      dsimp only
      rw [stp_way] at hi
      have hil : i < L.length := by
        have h1 : i < t.place.toList.length := (List.getElem?_eq_some_iff.mp hi).1
        have h2 := R.places
        rw [Array.length_toList] at h1
        omega
      have hp : L[i]? = some L[i] := List.getElem?_eq_getElem hil
      generalize hpe : L[i] = p at hp
      have hmem : p ∈ L := List.mem_of_getElem? hp
      have hpt := R.tup p hmem
      have rest : wpAny (model P w) A (searchRest a (.ref x) (hW P w k) true f es t (way t.mask (hW P w k) (c + q)) i (stp t.mask (hW P w k) (c + (q + 1)))) Q E s := by
        unfold searchRest
        rw [R.entry hp]
        dsimp only
        refine wpAny_bind (wpAny_holding (wpAny_eqBool_tuple hu hpt hx ?_))
        refine wpAny_bind (wpAny_setState_of ho hd R.fits ?_)
        dsimp only
        by_cases hkk : p.2 = k
        · refine wp_if_pos (by simp [hkk]) ?_
          exact wpAny_pure (hin (List.mem_map.mpr ⟨p, hmem, hkk⟩))
        · refine wp_if_neg (by simp [hkk]) ?_
          try refine wpAny_bind (wpAny_pure ?_)
          rw [sameMem]
          dsimp only
          have hsl : t.slot (way t.mask (hW P w k) (c + q)) = .live i := slot_live R.tab.ris hi
          simp only [if_true, hsl, R.entry hp]
          refine wpAny_bind (wpAny_isSame_ref_self (wpAny_bind (wpAny_pure ?_)))
          simp only [if_true]
          refine wp_if_neg (by simp [hkk]) ?_
          refine searchW R hx hu hKf hK hKb hin hout f (c + (q + 1)) _ rfl (by omega) (by omega) fun i0 p0 h0 hk0 => ?_
          obtain ⟨c', a1, a2, a3⟩ := hre i0 p0 h0 hk0
          refine ⟨c', ?_, a2, a3⟩
          rcases Nat.lt_trichotomy c' (c + q) with z | z | z
          · exfalso
            refine hno (c' - c) i0 (by omega) (by rw [stp_way, show c + (c' - c) = c' by omega]; exact a3) ?_
            exact (hashAt i0 p0 h0).trans (congrArg (hW P w) hk0)
          · exfalso
            rw [z] at a3
            have s0 := slot_live R.tab.ris a3
            rw [hsl] at s0
            injection s0 with s0
            rw [← s0, hp] at h0
            exact hkk ((congrArg Prod.snd (Option.some.inj h0)).trans hk0)
          · omega
      by_cases hl : t.led = true
      · refine wp_if_neg (by simp [hl]) ?_
        try refine wpAny_bind (wpAny_pure ?_)
        exact rest
      · refine wp_if_pos (by simp [hl]) ?_
        refine wpAny_bind (seenW hx (fun y hy => ?_) ?_)
        · obtain ⟨e, he, ee⟩ := List.mem_map.mp hy
          have he1 : e ∈ es ∧ e.1 = hW P w k := by simpa using he
          have he2 : e ∈ es.toList := by simpa using he1.1
          rw [R.rows] at he2
          obtain ⟨p2, hp2, e2⟩ := List.mem_map.mp he2
          refine ⟨p2.2, p2.1, ?_, R.tup p2 hp2⟩
          rw [← ee, ← e2]
        · refine wp_if_neg (by decide) ?_
          try refine wpAny_bind (wpAny_pure ?_)
          exact rest
    · have hpr' : t.probe (fun i => (es[i]?.map (·.1)).getD 0) (hW P w k) (stand.getD (t.probeStart (hW P w k))) = some (.empty (way t.mask (hW P w k) K) none) := by
        have e2 : way t.mask (hW P w k) K = (nth t.mask (stp t.mask (hW P w k) c) (K - c)).j := by rw [stp_way, show c + (K - c) = K by omega]
        rw [hst, e2]
        exact hpr
      rw [hpr']
      dsimp only
      refine wpAny_pure (hout fun hm => ?_)
      obtain ⟨p0, h0, hk0⟩ := List.mem_map.mp hm
      obtain ⟨i0, hi0, e0⟩ := List.getElem_of_mem h0
      have h00 : L[i0]? = some p0 := by rw [List.getElem?_eq_getElem hi0, e0]
      obtain ⟨c', a1, a2, a3⟩ := hre i0 p0 h00 hk0
      refine hno (c' - c) i0 (by omega) (by rw [stp_way, show c + (c' - c) = c' by omega]; exact a3) ?_
      exact (hashAt i0 p0 h00).trans (congrArg (hW P w) hk0)
theorem search_W (R : SetW P w s.heap a L es ep t) {x : Addr} {k : List Str} (hx : IsW P w s.heap k x) (hu : A.units < cLine) {Q : SetFound → Shared → Prop}
    (hin : k ∈ L.map (·.2) → Q (.there none) s)
    (hout : ∀ K, k ∉ L.map (·.2) → way t.mask (hW P w k) K ∉ t.place.toList → (∀ c, c < K → way t.mask (hW P w k) c ∈ t.place.toList) → Q (.free (way t.mask (hW P w k) K) false) s) :
    wpAny (model P w) A (setSearch a (.ref x) (hW P w k) true) Q E s := by
  have h4 := R.few
  have h7 := R.seven
  obtain ⟨K, hKf, hK, hKb⟩ := R.tab.first (by rw [List.length_map]; omega) (hW P w k)
  have big : K < 100000 := by
    have : 10 * SetTable.turns t.mask ≤ 1420 := by
      unfold SetTable.turns
      omega
    omega
  unfold setSearch
  refine searchW R hx hu hKf hK hKb hin (fun hn => hout K hn hK hKb) 100000 0 none rfl (Nat.zero_le _) (by omega) fun i p hp hk => ?_
  have hi : (L.map fun p => hW P w p.2)[i]? = some (hW P w k) := by rw [List.getElem?_map, hp, ← hk]; rfl
  have hil : i < t.place.toList.length := by
    have h1 : i < L.length := (List.getElem?_eq_some_iff.mp hp).1
    have h2 := R.places
    rw [Array.length_toList]
    omega
  have hj := List.getElem?_eq_getElem hil
  obtain ⟨c, hc, e⟩ := R.tab.before hK hi hj
  exact ⟨c, Nat.zero_le _, hc, by rw [hj, e]⟩
theorem isW_same {h h' : Heap} {k : List Str} {a b : Addr} {o : Obj} {es : Array (Int × Value)} {ep : Nat} {t : SetTable} (hb : IsW P w h k b) (ho : h.get? a = some o) (hd : o.data = .set es ep t) (hs : Heap.SameBut a h h') : IsW P w h' k b := by
  obtain ⟨o', items, n, ho', hc, hd', hi⟩ := hb
  refine ⟨o', items, n, (hs.2 b ?_).trans ho', hc, hd', hi⟩
  rintro rfl
  rw [ho'] at ho
  cases ho
  rw [hd] at hd'
  exact nomatch hd'
theorem isW_keep {h h' : Heap} {k : List Str} {b : Addr} (x : IsW P w h k b) (hk : ∀ c o, h.get? c = some o → h'.get? c = some o) : IsW P w h' k b := by
  obtain ⟨o, items, n, ho, r⟩ := x
  exact ⟨o, items, n, hk b o ho, r⟩
theorem wp_both {β : Type} {c : Prop} [Decidable c] {x y : Sem Bool} {f : Bool → Sem β} {Q : β → Shared → Prop} (hx : wpAny (model P w) A x (fun _ s' => s' = s) E s) (hy : wpAny (model P w) A y (fun _ s' => s' = s) E s) (h : ∀ b, wpAny (model P w) A (f b) Q E s) :
    wpAny (model P w) A (if c then x >>= f else y >>= f) Q E s := by
  split
  · exact wpAny_bind (thn hx fun b s' e => e ▸ h b)
  · exact wpAny_bind (thn hy fun b s' e => e ▸ h b)
theorem add_W (R : SetW P w s.heap a L es ep t) {x : Addr} {k : List Str} (hx : IsW P w s.heap k x) (hu : A.units < cLine) (few : L.length + 1 ≤ 4) {Q : Bool → Shared → Prop}
    (hQ : ∀ b h' L' es' ep' t', Heap.SameBut a s.heap h' → SetW P w h' a L' es' ep' t' → (k ∈ L.map (·.2) → L' = L) → (k ∉ L.map (·.2) → L'.Perm ((x, k) :: L)) → Q b { s with heap := h' }) :
    wpAny (model P w) A (setAddHashed a (.ref x) (hW P w k)) Q E s := by
  obtain ⟨o, ho, hex, hd⟩ := R.ob
  have hsl := R.size
  unfold setAddHashed
  refine wpAny_holding ?_
  rw [show (100000 : Nat) = 99999 + 1 from rfl, setAddHashedIn_succ]
  refine wpAny_bind (wpAny_setState_of ho hd R.fits ?_)
  dsimp only
  refine wp_if_neg (by simp [byScan, Value.scannable]) ?_
  try refine wpAny_bind (wpAny_pure ?_)
  refine wpAny_bind (search_W R hx hu (fun hm => ?_) fun K hm hK hb => ?_)
  · dsimp only
    exact wpAny_pure (hQ false s.heap L es ep t (Heap.SameBut.refl a s.heap) R (fun _ => rfl) fun z => absurd hm z)
  · dsimp only
    refine wpAny_bind (wpAny_setState_of ho hd R.fits ?_)
    dsimp only
    obtain ⟨q1, q2, q3, q4, q5, q6, q7, q8, q9⟩ := R.tab.put hK hb
    generalize hpt : t.put (way t.mask (hW P w k) K) = pt at q1 q3 q4 q5 q6 q7 q8 q9 ⊢
    obtain ⟨t1, p⟩ := pt
    dsimp only at q1 q3 q4 q5 q6 q7 q8 q9 ⊢
    subst q1
    refine wp_both (hashByW hx fun _ => rfl) (wpAny_pure rfl) fun bv => ?_
    have hin : (SetTable.insertAt es (SetTable.below t.place (way t.mask (hW P w k) K)) (hW P w k, Value.ref x)).toList = rowsW P w (L.take (SetTable.below t.place (way t.mask (hW P w k) K)) ++ (x, k) :: L.drop (SetTable.below t.place (way t.mask (hW P w k) K))) := by
      rw [SetTable.toList_insertAt, R.rows]
      unfold rowsW
      rw [List.map_append, List.map_cons, List.map_take, List.map_drop]
    generalize hpp : SetTable.below t.place (way t.mask (hW P w k) K) = p at q2 q3 hin ⊢
    have pm := put_perm L p (x, k)
    have hlen : (L.take p ++ (x, k) :: L.drop p).length = L.length + 1 := pm.length_eq
    have hhs : (L.take p ++ (x, k) :: L.drop p).map (fun p => hW P w p.2) = (L.map fun p => hW P w p.2).take p ++ hW P w k :: (L.map fun p => hW P w p.2).drop p := by
      rw [List.map_append, List.map_cons, List.map_take, List.map_drop]
    rw [← hhs] at q3
    have nd1 : ((L.take p ++ (x, k) :: L.drop p).map (·.2)).Nodup := by
      refine (pm.map (·.2)).nodup_iff.mpr ?_
      rw [List.map_cons]
      exact List.nodup_cons.mpr ⟨hm, R.nd⟩
    have hes : (SetTable.insertAt es p (hW P w k, Value.ref x)).size = L.length + 1 := by
      rw [← Array.length_toList, hin, ← hlen]
      exact List.length_map ..
    generalize SetTable.insertAt es p (hW P w k, Value.ref x) = es1 at hin hes ⊢
    generalize L.take p ++ (x, k) :: L.drop p = L1 at pm hlen q3 nd1 hin
    obtain ⟨t2, et2⟩ : ∃ t2, t2 = (if bv = true then t1 else { t1 with plain := false }) := ⟨_, rfl⟩
    rw [← et2]
    have z : TabOk t2 (L1.map fun p => hW P w p.2) ∧ t2.mask = t.mask ∧ t2.led = t.led ∧ t2.fill = (L.map fun p => hW P w p.2).length + 1 := by
      rw [et2]
      cases bv
      · exact ⟨⟨q3.ris, q3.dm, q3.sz, q3.mok, q3.bd, q3.reach⟩, q4, q5, q9⟩
      · exact ⟨q3, q4, q5, q9⟩
    obtain ⟨z3, z4, z5, z9⟩ := z
    clear et2
    refine wpAny_bind (wpAny_storeSet_of ho hd ?_ (by rw [hes, sizeLine_eq]; omega))
    have sb : Heap.SameBut a s.heap (s.heap.update a (Obj.putSet es1 t2)) := Heap.SameBut.update ..
    have ho1 := store_at (es' := es1) (t' := t2) ho hd
    generalize s.heap.update a (Obj.putSet es1 t2) = h1 at sb ho1 ⊢
    have tup1 : ∀ p ∈ L1, IsW P w h1 p.2 p.1 := fun p hp => by
      rcases List.mem_cons.mp (pm.mem_iff.mp hp) with e | hp
      · rw [e]; exact isW_same hx ho hd sb
      · exact isW_same (R.tup p hp) ho hd sb
    have hf : t2.tooFull ≠ true := by
      intro hf
      unfold SetTable.tooFull at hf
      have hf := of_decide_eq_true hf
      rw [z9, List.length_map, z4, R.seven] at hf
      omega
    have fin : Q true { s with heap := h1 } := hQ true h1 L1 es1 (ep + 1) t2 sb ⟨⟨_, ho1, ⟨hex.1, hex.2.1, hex.2.2⟩, rfl⟩, hin, z3, nd1, tup1, by rw [z5]; exact R.led, by rw [z4]; exact R.seven, by rw [hlen]; exact few⟩ (fun z => absurd z hm) fun _ => pm
    first
      | refine wp_if_neg (by simp [hf]) ?_
      | (refine wpAny_bind ?_; refine wp_if_neg (by simp [hf]) ?_; refine wpAny_pure ?_)
    exact wpAny_pure fin
/-- what a set of tuples of texts has got from the first i rows -/
def GotW (P : Program) (w : World) (ks : List Row) (S : Addr) (i : Nat) (h : Heap) : Prop := ∃ L es ep t, SetW P w h S L es ep t ∧ L.length ≤ i ∧ (∀ p ∈ L, p ∈ ks.take i) ∧ ∀ p ∈ ks.take i, p.2 ∈ L.map (·.2)
theorem growsW {vs : List Value} {ks : List Row} (hv : vs = ks.map fun p => Value.ref p.1) (S : Addr) (h0 : Heap) (hk : ∀ p ∈ ks, IsW P w h0 p.2 p.1) (hz : ks.length ≤ 4) : Grows P w vs S h0 (GotW P w ks S) where
  start := fun h ho => ⟨[], #[], 0, _, ⟨⟨_, ho, ⟨rfl, rfl, rfl⟩, rfl⟩, rfl, ⟨List.Pairwise.nil, rfl, rfl, .inl rfl, fun x hx => (by cases hx), fun i h j hi => (by simp at hi)⟩, List.nodup_nil, fun p hp => (by cases hp), by
    show _ ∨ (!w.params.followText "set-order") = true
    cases w.params.followText "set-order"
    · exact .inr rfl
    · exact .inl rfl, rfl, by decide⟩, Nat.le_refl _, fun p hp => (by cases hp), fun p hp => (by simp at hp)⟩
  stay := by
    intro i h h' ⟨L, es, ep, t, R, z, m1, m2⟩ k k0
    obtain ⟨o, ho, r⟩ := R.ob
    exact ⟨L, es, ep, t, ⟨⟨o, k o ho, r⟩, R.rows, R.tab, R.nd, fun p hp => isW_keep (hk p (List.mem_of_mem_take (m1 p hp))) k0, R.led, R.seven, R.few⟩, z, m1, m2⟩
  step := by
    intro i v s A Q E hi ⟨L, es, ep, t, R, z, m1, m2⟩ k0 hu hQ
    rw [hv, List.getElem?_map] at hi
    cases hp : ks[i]? with
    | none => rw [hp] at hi; cases hi
    | some p =>
      rw [hp] at hi
      obtain rfl : Value.ref p.1 = v := Option.some.inj hi
      have hil := (List.getElem?_eq_some_iff.mp hp).1
      have hx : IsW P w s.heap p.2 p.1 := isW_keep (hk p (List.mem_of_getElem? hp)) k0
      have nx : ks.take (i + 1) = ks.take i ++ [p] := by rw [List.take_add_one, hp]; rfl
      unfold setAdd
      refine wpAny_holding ?_
      refine wpAny_bind (wpAny_pyHash_tuple hu hx ?_)
      refine add_W (s := { s with toks := s.toks + (p.2.length + 1) }) R hx hu (by omega) fun b h' L' es' ep' t' sb R' c1 c2 => hQ b h' _ (Nat.le_add_right _ _) sb ⟨L', es', ep', t', R', ?_⟩
      rw [nx]
      by_cases c : p.2 ∈ L.map (·.2)
      · rw [c1 c]
        refine ⟨by omega, fun q hq => List.mem_append_left _ (m1 q hq), fun q hq => ?_⟩
        rcases List.mem_append.mp hq with hq | hq
        · exact m2 q hq
        · rw [List.mem_singleton.mp hq]; exact c
      · have pm := c2 c
        refine ⟨by rw [pm.length_eq, List.length_cons]; omega, fun q hq => ?_, fun q hq => ?_⟩
        · rcases List.mem_cons.mp (pm.mem_iff.mp hq) with e | hq
          · rw [e]; exact List.mem_append_right _ (List.mem_singleton.mpr rfl)
          · exact List.mem_append_left _ (m1 q hq)
        · rw [(pm.map (·.2)).mem_iff, List.map_cons]
          rcases List.mem_append.mp hq with hq | hq
          · exact List.mem_cons_of_mem _ (m2 q hq)
          · rw [List.mem_singleton.mp hq]; exact List.mem_cons_self
end
end K86

end

section
set_option Elab.async false
set_option linter.all false
set_option maxRecDepth 100000
set_option maxHeartbeats 2000000
/-! Sets of a few tuples of texts, in the abstract heap; what may be sorted. -/
namespace K86
open PySem PySem.Spec PyProof.Rows L2
open PySem.W (Datum DatumOrd Tup T3 T4 Holds HoldAll)
theorem srtable_pair {α β : Type} [DecidableEq α] [Datum α] [DecidableEq β] [Datum β] (xs : List (α × β)) : PySem.W.Sortable (xs.map Datum.toD) := PySem.W.Sortable.tuples fun b => ⟨_, _, rfl⟩
theorem srtable_t3 {α β γ : Type} [DecidableEq α] [Datum α] [DecidableEq β] [Datum β] [DecidableEq γ] [Datum γ] (xs : List (T3 α β γ)) : PySem.W.Sortable (xs.map Datum.toD) := PySem.W.Sortable.tuples fun b => ⟨_, _, rfl⟩
theorem srtable_int (xs : List Int) : PySem.W.Sortable (xs.map Datum.toD) := PySem.W.Sortable.others fun b => ⟨(by intro e; cases e), fun ys e => by cases e⟩
theorem srtable_tup {α : Type} [DecidableEq α] [Datum α] {xs : List (Tup α)} (h : ∀ t ∈ xs, t.items ≠ []) : PySem.W.Sortable (xs.map Datum.toD) := .inl fun d hd => by
  obtain ⟨t, ht, rfl⟩ := List.mem_map.mp hd
  have hne := h t ht
  obtain ⟨l⟩ := t
  cases l with
  | nil => exact absurd rfl hne
  | cons x r => exact ⟨_, _, rfl⟩
section
variable {P : Program} {w : World}
def SetW0 (P : Program) (w : World) (h : Heap) (a : Addr) (L : List Row) : Prop :=
  ∃ (es : Array (Int × Value)) (ep : Nat) (t : SetTable), (∃ o, h.get? a = some o ∧ o.ExactSet ∧ o.data = .set es ep t) ∧ es.toList = rowsW P w L ∧ TabOk t (L.map fun p => hW P w p.2) ∧ (L.map (·.2)).Nodup ∧
    (w.params.followText "set-order" = true ∨ t.led = true) ∧ t.mask = 7 ∧ L.length ≤ 4
def SetWO (P : Program) (w : World) (a : Addr) (L : List Row) : HO := .ext fun h => SetW0 P w h a L
theorem SetW.w0 {h : Heap} {a : Addr} {L : List Row} {es : Array (Int × Value)} {ep : Nat} {t : SetTable} (R : SetW P w h a L es ep t) : SetW0 P w h a L := ⟨es, ep, t, R.ob, R.rows, R.tab, R.nd, R.led, R.seven, R.few⟩
theorem SetW0.full {h : Heap} {a : Addr} {L : List Row} (R : SetW0 P w h a L) (ht : ∀ p ∈ L, IsW P w h p.2 p.1) : ∃ es ep t, SetW P w h a L es ep t := by
  obtain ⟨es, ep, t, h1, h2, h3, h4, h5, h6, h7⟩ := R
  exact ⟨es, ep, t, h1, h2, h3, h4, ht, h5, h6, h7⟩
theorem setWO_new {H : Hp} {h : Heap} {a : Addr} {L : List Row} (R : SetW0 P w h a L) : ObjOk P w H h a (SetWO P w a L) := by
  have ⟨es, ep, t, ⟨o, ho, r⟩, q⟩ := R
  refine ⟨R, ⟨o, ho⟩, fun h1 h2 p k => ?_⟩
  have ⟨es', ep', t', ⟨o', ho', r'⟩, q'⟩ := p
  exact ⟨es', ep', t', ⟨o', k o' ho', r'⟩, q'⟩
theorem itemsW_vals : ∀ {k : List Str} {us : List Value}, Vals (k.map V.str) us → ItemsAre (strKind P w) k us
  | [], _, .nil => .nil
  | n :: k, _, .cons r t => by
    obtain ⟨tk, rfl⟩ := r
    exact .cons (keyIs_str n tk : keyIs (.inr n) (.str n tk) = true) (itemsW_vals t)
end
section
variable {X : Cx} {pins : List (Addr × Obj)} {σ : L2.St} {H : Hp} {s : Shared}
theorem isW_at (I : Inv X pins σ H s) {b : Addr} {t : List Str} (h : Is X.K H (.ref b) (Tup.mk t)) : IsW X.prog X.w s.heap t b := by
  obtain ⟨a, vs, e, hq, hv⟩ := h.tup
  cases e
  obtain ⟨its, r, ⟨o, ho, hc, n, hd⟩, _⟩ := I.tuple hq
  have e2 := isAll_strs hv
  rw [e2] at r
  exact ⟨o, its.toArray, n, ho, hc, hd, by simpa using itemsW_vals r⟩
/-- the rows behind values that are tuples of texts -/
theorem rows_of {K : PySem.W.Frag} : ∀ {ws : List V} {ts : List (Tup Str)}, IsAll K H ws ts → ∃ ks : List Row, ws = ks.map (fun p => V.ref p.1) ∧ ts = ks.map (fun p => Tup.mk p.2) ∧ ∀ p ∈ ks, Is K H (.ref p.1) (Tup.mk p.2)
  | [], [], _ => ⟨[], rfl, rfl, fun p hp => by cases hp⟩
  | [], _ :: _, h => by cases h.length
  | _ :: _, [], h => by cases h.length
  | v :: ws, t :: ts, h => by
    obtain ⟨ks, e1, e2, e3⟩ := rows_of h.uncons.2
    obtain ⟨a, vs, ev, hq, hv⟩ := h.uncons.1.tup
    refine ⟨(a, t.items) :: ks, by rw [ev, e1]; rfl, by rw [e2]; rfl, fun p hp => ?_⟩
    rcases List.mem_cons.mp hp with e | hp
    · rw [e]
      exact is_tup hq hv
    · exact e3 p hp
theorem rows_isAll {K : PySem.W.Frag} : ∀ {ks : List Row}, (∀ p ∈ ks, Is K H (.ref p.1) (Tup.mk p.2)) → IsAll K H (ks.map fun p => V.ref p.1) (ks.map fun p => Tup.mk p.2)
  | [], _ => .nil
  | p :: ks, h => .cons (h p (List.mem_cons_self ..)) (rows_isAll fun q hq => h q (List.mem_cons_of_mem _ hq))
theorem rows_vals : ∀ {ks : List Row} {us : List Value}, Vals (ks.map fun p => V.ref p.1) us → us = ks.map fun p => Value.ref p.1
  | [], _, .nil => rfl
  | p :: ks, _, .cons r t => by
    cases r
    rw [rows_vals t]
    rfl
theorem vals_rows : ∀ (ks : List Row), Vals (ks.map fun p => V.ref p.1) (ks.map fun p => Value.ref p.1)
  | [] => .nil
  | p :: ks => .cons rfl (vals_rows ks)
/-- set(xs), xs a list or a tuple of tuples of texts -/
def rSetW (K : PySem.W.Frag) (P : Program) (w : World) : List V → Hp → VK → Prop := fun vs H Q => ∃ (l : Addr) (ws : List V) (ts : List (Tup Str)), vs = [.ref l] ∧ (SqL K H l ws ∨ SqT K H l ws) ∧ IsAll K H ws ts ∧ ts.length ≤ 4 ∧
  ∀ a L, H a = none → (L.map (·.2)).Nodup → (∀ p ∈ L, Is K H (.ref p.1) (Tup.mk p.2)) → (∀ x, x ∈ L.map (·.2) ↔ Tup.mk x ∈ ts) → Q (.ref a) (upd H a (SetWO P w a L))
theorem cr_setW (hc : X.calm = true) (hu : X.A.units + 64 < cLine) : CallR X (.type "set") (rSetW X.K X.prog X.w) := by
  intro pins s σ H vs us Q I r h
  obtain ⟨l, ws, ts, rfl, hl, hw, hz, q⟩ := h
  rw [Vals.ref1 r]
  obtain ⟨ks, rfl, rfl, hks⟩ := rows_of hw
  have hn : H s.heap.objs.size = none := I.hok.fresh (Nat.le_refl _)
  have hz' : ks.length ≤ 4 := by rw [List.length_map] at hz; exact hz
  have fin : ∀ (h' : Heap) (tk n : Nat), n = ks.length → GotW X.prog X.w ks s.heap.objs.size n h' → (∀ b o, s.heap.get? b = some o → h'.get? b = some o) → EP X pins σ Q (.ref s.heap.objs.size) { s with heap := h', toks := tk } := by
    intro h' tk n en ⟨L, es, ep, t, R, z, m1, m2⟩ k
    subst en
    rw [List.take_length] at m1 m2
    refine ⟨.ref s.heap.objs.size, upd H s.heap.objs.size (SetWO X.prog X.w s.heap.objs.size L), I.laid (t' := tk) k (Nat.le_refl _) (setWO_new R.w0), rfl, q _ L hn R.nd (fun p hp => hks p (m1 p hp)) fun x => ?_⟩
    constructor
    · intro hx
      obtain ⟨p, hp, rfl⟩ := List.mem_map.mp hx
      exact List.mem_map.mpr ⟨p, m1 p hp, rfl⟩
    · intro hx
      obtain ⟨p, hp, e⟩ := List.mem_map.mp hx
      injection e with e
      rw [← e]
      exact m2 p hp
  rcases hl with hl | hl
  · obtain ⟨its, rv, pl, _⟩ := I.list hl
    exact call_set_L (P := X.prog) (w := X.w) (SP := GotW X.prog X.w ks s.heap.objs.size) (I.ok.hd hc) pl.isList (growsW (by simpa using rows_vals rv) _ _ (fun p hp => isW_at I (hks p hp)) hz') (by omega) fun h' tk g k => fin h' tk _ (by have := rv.length; simp at this; simpa using this.symm) g k
  · obtain ⟨its, rv, pl, _⟩ := I.tuple hl
    exact call_set_T (P := X.prog) (w := X.w) (SP := GotW X.prog X.w ks s.heap.objs.size) (I.ok.hd hc) pl (growsW (by simpa using rows_vals rv) _ _ (fun p hp => isW_at I (hks p hp)) hz') (by omega) fun h' tk g k => fin h' tk _ (by have := rv.length; simp at this; simpa using this.symm) g k
def rLenW (P : Program) (w : World) : List V → Hp → VK → Prop := fun vs H Q => ∃ (a : Addr) (L : List Row), vs = [.ref a] ∧ H a = some (SetWO P w a L) ∧ Q (.int (L.length : Nat)) H
theorem cr_lenW : CallR X (.builtin "len") (rLenW X.prog X.w) := by
  intro pins s σ H vs us Q I r h
  obtain ⟨a, L, rfl, ha, q⟩ := h
  rw [Vals.ref1 r]
  obtain ⟨es, ep, t, ⟨o, ho, hex, hd⟩, h2, h3, h4, h5, h6, h7⟩ : SetW0 X.prog X.w s.heap a L := (I.hok a _ ha).1
  have hsz : es.size = L.length := by rw [← Array.length_toList, h2]; exact List.length_map ..
  have hp : t.place.size = L.length := h3.sz.trans (List.length_map ..)
  have hf : t.fits es.size = true := by
    unfold SetTable.fits SetTable.fill
    rw [h3.dm, Bool.and_eq_true, beq_iff_eq, decide_eq_true_eq]
    show t.place.size = es.size ∧ t.place.size + 0 ≤ t.mask
    omega
  exact call_len_set ho hex hd hf (by omega) ⟨.int (L.length : Nat), H, I.tok _, ⟨_, by rw [hsz]⟩, q⟩
def rSrtW (K : PySem.W.Frag) (P : Program) (w : World) : List V → Hp → VK → Prop := fun vs H Q => ∃ (a : Addr) (L : List Row), vs = [.ref a] ∧ H a = some (SetWO P w a L) ∧ (∀ p ∈ L, Is K H (.ref p.1) (Tup.mk p.2) ∧ p.2 ≠ []) ∧
  ∀ (p : Addr) (out : List V), H p = none → IsAll K H out (srt (L.map fun p => Tup.mk p.2)) → Q (.ref p) (upd H p (.lst out))
theorem refs_of_perm {ws : List V} {L : List Row} (p : ws.Perm (L.map fun p => V.ref p.1)) (nd : (L.map (·.1)).Nodup) : ∃ L' : List Row, ws = L'.map (fun p => V.ref p.1) ∧ L'.Perm L := by
  have key : ∀ l : List V, (∀ v ∈ l, ∃ q ∈ L, v = V.ref q.1) → ∃ L' : List Row, l = L'.map (fun p => V.ref p.1) ∧ ∀ q ∈ L', q ∈ L := by
    intro l
    induction l with
    | nil => exact fun _ => ⟨[], rfl, fun q hq => by cases hq⟩
    | cons v l ih =>
      intro h
      obtain ⟨q, hq, e⟩ := h v (List.mem_cons_self ..)
      obtain ⟨L', e', s'⟩ := ih fun u hu => h u (List.mem_cons_of_mem _ hu)
      refine ⟨q :: L', by rw [e, e', List.map_cons], fun r hr => ?_⟩
      rcases List.mem_cons.mp hr with z | z
      · rw [z]; exact hq
      · exact s' r z
  obtain ⟨L', e, hs⟩ := key ws fun v hv => by
    obtain ⟨q, hq, e⟩ := List.mem_map.mp (p.mem_iff.mp hv)
    exact ⟨q, hq, e.symm⟩
  refine ⟨L', e, ?_⟩
  rw [e] at p
  let f : V → Addr := fun v => match v with
    | .ref a => a
    | _ => 0
  have h := p.map f
  rw [List.map_map, List.map_map] at h
  have e1 : (f ∘ fun p : Row => V.ref p.1) = fun p => p.1 := rfl
  rw [e1] at h
  -- rows of one list by their addresses
  have inj : ∀ {a b : Row}, a ∈ L → b ∈ L → a.1 = b.1 → a = b := by
    intro a b ha hb e
    obtain ⟨i, hi⟩ := List.getElem?_of_mem ha
    obtain ⟨j, hj⟩ := List.getElem?_of_mem hb
    have e2 : (L.map (·.1))[i]? = (L.map (·.1))[j]? := by rw [List.getElem?_map, List.getElem?_map, hi, hj]; exact congrArg some e
    have hil : i < (L.map (·.1)).length := by rw [List.length_map]; exact (List.getElem?_eq_some_iff.mp hi).1
    have eij := (List.getElem?_inj hil nd).mp e2
    subst eij
    rw [hi] at hj
    exact Option.some.inj hj
  have n1 : L.Nodup := List.Pairwise.of_map _ (fun _ _ hne e => hne (congrArg _ e)) nd
  have nd' : (L'.map (·.1)).Nodup := h.nodup_iff.mpr nd
  have n2 : L'.Nodup := List.Pairwise.of_map _ (fun _ _ hne e => hne (congrArg _ e)) nd'
  refine (List.perm_ext_iff_of_nodup n2 n1).mpr fun q => ⟨hs q, fun hq => ?_⟩
  have hm : q.1 ∈ L'.map (·.1) := h.mem_iff.mpr (List.mem_map.mpr ⟨q, hq, rfl⟩)
  obtain ⟨r, hr, e⟩ := List.mem_map.mp hm
  rw [← inj (hs r hr) hq e]
  exact hr
theorem cr_srtW (hc : X.calm = true) (hu : X.A.units + 64 < cLine) : CallR X (.builtin "sorted") (rSrtW X.K X.prog X.w) := by
  intro pins s σ H vs us Q I r h
  obtain ⟨a, L, rfl, ha, hL, q⟩ := h
  rw [Vals.ref1 r]
  have R0 : SetW0 X.prog X.w s.heap a L := (I.hok a _ ha).1
  obtain ⟨es, ep, t, R⟩ := R0.full fun p hp => isW_at I (hL p hp).1
  obtain ⟨o, ho, hex, hd⟩ := R.ob
  have h4 := R.few
  have hsz := R.size
  have rv0 : Vals (L.map fun p => V.ref p.1) (es.toList.map (·.2)) := by
    rw [R.rows]
    unfold rowsW
    rw [List.map_map]
    exact vals_rows L
  have nd1 : (L.map (·.1)).Nodup := by
    refine List.pairwise_map.mpr (List.Pairwise.imp_of_mem (fun {p q} hp hq hne e => hne ?_) (List.pairwise_map.mp R.nd))
    have a1 := R.tup p hp
    have a2 := R.tup q hq
    rw [e] at a1
    exact a1.inj a2
  refine sort_gathered (xs := L.map fun p => Tup.mk p.2) I (by rw [List.length_map, sizeLine_eq]; omega) (fun ys py => srtable_tup fun t ht => ?_) hu (fun R' hR => ?_) q
  · obtain ⟨p, hp, e⟩ := List.mem_map.mp (py.mem_iff.mp ht)
    rw [← e]
    exact (hL p hp).2
  · refine collect_set (A := X.A.in1) (show X.A.in1.handled = none from I.ok.hd hc) ⟨o, ho, hex.1, hd⟩ R.fits (by unfold scanBound; omega) R.tab.ris R.led fun s' out hk' _ hg ho' pm => ?_
    obtain ⟨ws, rw', pw⟩ := vals_perm rv0 pm
    obtain ⟨L', rfl, pL⟩ := refs_of_perm pw nd1
    exact hR s' out _ (L'.map fun p => Tup.mk p.2) hk' hg ho' rw' (rows_isAll fun p hp => (hL p (pL.mem_iff.mp hp)).1) (pL.map _)
end
end K86

end

section
set_option Elab.async false
set_option linter.all false
set_option maxRecDepth 100000
set_option maxHeartbeats 2000000
/-! Readings by data: subscripts, kinds, index, comprehensions. -/
namespace K86
open PySem PySem.Spec PyProof.Rows L2
open PySem.W (Datum DatumOrd Tup T3 T4 Holds HoldAll)
section
variable {X : Cx}
theorem ixr_imp {r r' : R2} (h : IxR X r) (k : ∀ x y H Q, r' x y H Q → r x y H Q) : IxR X r' := fun value slice pins s σ H x y v u Q I rx ry hr e => h value slice pins s σ H x y v u Q I rx ry (k x y H Q hr) e
variable {α β γ : Type} [DecidableEq α] [Datum α] [DecidableEq β] [Datum β] [DecidableEq γ] [Datum γ]
theorem at0 {v : V} {vs : List V} : atI (v :: vs) 0 = some v := atI_nat (j := 0) rfl
theorem at1 {u v : V} {vs : List V} : atI (u :: v :: vs) 1 = some v := atI_nat (j := 1) rfl
theorem at2 {t u v : V} {vs : List V} : atI (t :: u :: v :: vs) 2 = some v := atI_nat (j := 2) rfl
/-- p[0], p[1] of a pair -/
def rFst (K : PySem.W.Frag) (α β : Type) [DecidableEq α] [Datum α] [DecidableEq β] [Datum β] : R2 := fun x y H Q => ∃ p : α × β, Is K H x p ∧ y = .int 0 ∧ ∀ u, Is K H u p.1 → Q u H
def rSnd (K : PySem.W.Frag) (α β : Type) [DecidableEq α] [Datum α] [DecidableEq β] [Datum β] : R2 := fun x y H Q => ∃ p : α × β, Is K H x p ∧ y = .int 1 ∧ ∀ u, Is K H u p.2 → Q u H
theorem ix_fst : IxR X (rFst X.K α β) := ixr_imp ix_tup fun x y H Q h => by
  obtain ⟨p, hp, rfl, q⟩ := h
  obtain ⟨a, u, w, rfl, hs, hu, hw⟩ := hp.pair
  exact ⟨a, _, 0, u, rfl, rfl, hs, at0, q u hu⟩
theorem ix_snd : IxR X (rSnd X.K α β) := ixr_imp ix_tup fun x y H Q h => by
  obtain ⟨p, hp, rfl, q⟩ := h
  obtain ⟨a, u, w, rfl, hs, hu, hw⟩ := hp.pair
  exact ⟨a, _, 1, w, rfl, rfl, hs, at1, q w hw⟩
/-- p[0], p[1], p[2] of a triple -/
def r3a (K : PySem.W.Frag) (α β γ : Type) [DecidableEq α] [Datum α] [DecidableEq β] [Datum β] [DecidableEq γ] [Datum γ] : R2 := fun x y H Q => ∃ p : T3 α β γ, Is K H x p ∧ y = .int 0 ∧ ∀ u, Is K H u p.a → Q u H
def r3b (K : PySem.W.Frag) (α β γ : Type) [DecidableEq α] [Datum α] [DecidableEq β] [Datum β] [DecidableEq γ] [Datum γ] : R2 := fun x y H Q => ∃ p : T3 α β γ, Is K H x p ∧ y = .int 1 ∧ ∀ u, Is K H u p.b → Q u H
def r3c (K : PySem.W.Frag) (α β γ : Type) [DecidableEq α] [Datum α] [DecidableEq β] [Datum β] [DecidableEq γ] [Datum γ] : R2 := fun x y H Q => ∃ p : T3 α β γ, Is K H x p ∧ y = .int 2 ∧ ∀ u, Is K H u p.c → Q u H
theorem ix_3a : IxR X (r3a X.K α β γ) := ixr_imp ix_tup fun x y H Q h => by
  obtain ⟨p, hp, rfl, q⟩ := h
  obtain ⟨a, u, w, z, rfl, hs, hu, hw, hz⟩ := hp.t3
  exact ⟨a, _, 0, u, rfl, rfl, hs, at0, q u hu⟩
theorem ix_3b : IxR X (r3b X.K α β γ) := ixr_imp ix_tup fun x y H Q h => by
  obtain ⟨p, hp, rfl, q⟩ := h
  obtain ⟨a, u, w, z, rfl, hs, hu, hw, hz⟩ := hp.t3
  exact ⟨a, _, 1, w, rfl, rfl, hs, at1, q w hw⟩
theorem ix_3c : IxR X (r3c X.K α β γ) := ixr_imp ix_tup fun x y H Q h => by
  obtain ⟨p, hp, rfl, q⟩ := h
  obtain ⟨a, u, w, z, rfl, hs, hu, hw, hz⟩ := hp.t3
  exact ⟨a, _, 2, z, rfl, rfl, hs, at2, q z hz⟩
/-- t[i] of a tuple, of a list; t[-1] -/
def rAtT (K : PySem.W.Frag) (α : Type) [DecidableEq α] [Datum α] : R2 := fun x y H Q => ∃ (t : Tup α) (i : Nat) (a : α), Is K H x t ∧ y = .int (i : Int) ∧ t.items[i]? = some a ∧ ∀ u, Is K H u a → Q u H
def rAtL (K : PySem.W.Frag) (α : Type) [DecidableEq α] [Datum α] : R2 := fun x y H Q => ∃ (t : List α) (i : Nat) (a : α), Is K H x t ∧ y = .int (i : Int) ∧ t[i]? = some a ∧ ∀ u, Is K H u a → Q u H
def rLastT (K : PySem.W.Frag) (α : Type) [DecidableEq α] [Datum α] : R2 := fun x y H Q => ∃ (l : List α) (a : α), Is K H x (Tup.mk (l ++ [a])) ∧ y = .int (-1) ∧ ∀ u, Is K H u a → Q u H
theorem ix_atT : IxR X (rAtT X.K α) := ixr_imp ix_tup fun x y H Q h => by
  obtain ⟨t, i, a, ht, rfl, hi, q⟩ := h
  obtain ⟨p, vs, rfl, hs, hv⟩ := ht.tup
  obtain ⟨v, hv1, hv2⟩ := hv.at' hi
  exact ⟨p, vs, _, v, rfl, rfl, hs, atI_nat hv1, q v hv2⟩
theorem ix_atL : IxR X (rAtL X.K α) := ixr_imp ix_list fun x y H Q h => by
  obtain ⟨t, i, a, ht, rfl, hi, q⟩ := h
  obtain ⟨p, vs, rfl, hs, hv⟩ := ht.lst
  obtain ⟨v, hv1, hv2⟩ := hv.at' hi
  exact ⟨p, vs, _, v, rfl, rfl, hs, atI_nat hv1, q v hv2⟩
theorem ix_lastT : IxR X (rLastT X.K α) := ixr_imp ix_tup fun x y H Q h => by
  obtain ⟨l, a, ht, rfl, q⟩ := h
  obtain ⟨p, vs, rfl, hs, hv⟩ := ht.tup
  have hl := hv.length
  obtain ⟨v, hv1, hv2⟩ := hv.at' (i := l.length) (x := a) (by show (l ++ [a])[l.length]? = some a; simp)
  have hlen : vs.length = l.length + 1 := by rw [hl]; show (l ++ [a]).length = _; simp
  have e : vs = vs.take l.length ++ [v] := by
    refine List.ext_getElem? fun j => ?_
    rcases Nat.lt_trichotomy j l.length with z | z | z
    · rw [List.getElem?_append_left (by rw [List.length_take]; omega), List.getElem?_take_of_lt z]
    · subst z
      rw [hv1, List.getElem?_append_right (by rw [List.length_take]; omega), List.length_take, show l.length - min l.length vs.length = 0 by omega]
      rfl
    · rw [List.getElem?_eq_none (by omega), List.getElem?_eq_none (by rw [List.length_append, List.length_take]; simp; omega)]
  exact ⟨p, vs, _, v, rfl, rfl, hs, by rw [e]; exact atI_last _ v, q v hv2⟩
end
/-! lengths -/
section
variable {X : Cx} {α : Type} [DecidableEq α] [Datum α]
theorem cr_imp {f : Value} {r r' : List V → Hp → VK → Prop} (h : CallR X f r) (k : ∀ xs H Q, r' xs H Q → r xs H Q) : CallR X f r' := fun pins s σ H xs us Q I rv hr => h pins s σ H xs us Q I rv (k xs H Q hr)
def rLenT (K : PySem.W.Frag) (α : Type) [DecidableEq α] [Datum α] : List V → Hp → VK → Prop := fun vs H Q => ∃ (v : V) (t : Tup α), vs = [v] ∧ Is K H v t ∧ Q (.int (t.items.length : Nat)) H
def rLenL (K : PySem.W.Frag) (α : Type) [DecidableEq α] [Datum α] : List V → Hp → VK → Prop := fun vs H Q => ∃ (v : V) (t : List α), vs = [v] ∧ Is K H v t ∧ Q (.int (t.length : Nat)) H
theorem cr_lenT : CallR X (.builtin "len") (rLenT X.K α) := cr_imp call_len_seq fun vs H Q h => by
  obtain ⟨v, t, rfl, ht, q⟩ := h
  obtain ⟨p, ws, rfl, hs, hv⟩ := ht.tup
  exact ⟨p, ws, rfl, .inr hs, by rw [hv.length]; exact q⟩
theorem cr_lenL : CallR X (.builtin "len") (rLenL X.K α) := cr_imp call_len_seq fun vs H Q h => by
  obtain ⟨v, t, rfl, ht, q⟩ := h
  obtain ⟨p, ws, rfl, hs, hv⟩ := ht.lst
  exact ⟨p, ws, rfl, .inl hs, by rw [hv.length]; exact q⟩
theorem ty_tup {K : PySem.W.Frag} {H : Hp} {a : Addr} {xs : List V} (h : SqT K H a xs) : TyX K H (.ref a) (.type "tuple") := by
  rcases h with (h | ⟨o, h⟩) | ⟨o, its, n, hk, hc, _⟩
  · exact .base (.tup h)
  · exact .fTuple h
  · exact .kTuple hk hc
/-- isinstance(x, T) with the class's name -/
def rIsB (K : PySem.W.Frag) : List V → Hp → VK → Prop := fun vs H Q => ∃ (v : V) (T t : String) (b : Bool), vs = [v, .ty T] ∧ TyX K H v (.type t) ∧ kitB t T = some b ∧ Q (.bl b) H
theorem cr_isB : CallR X (.builtin "isinstance") (rIsB X.K) := cr_imp call_isi fun vs H Q h => by
  obtain ⟨v, T, t, b, rfl, ht, hk, q⟩ := h
  exact ⟨v, .ty T, .type t, .type T, b, rfl, .ty T, ht, kit_ty hk, q⟩
/-- tuple(list) whose object is known -/
def rTupF (K : PySem.W.Frag) : List V → Hp → VK → Prop := fun xs H Q => ∃ p ys, xs = [.ref p] ∧ SqL K H p ys ∧ ∀ l o, H l = none → o.dict = none → o.cls = .type "tuple" → Q (.ref l) (upd H l (.frz o (.tup ys)))
theorem cr_tupF : CallR X (.type "tuple") (rTupF X.K) := by
  intro pins s σ H xs us Q I r h
  obtain ⟨p, ys, rfl, hq, q⟩ := h
  rw [Vals.ref1 r]
  obtain ⟨its, rv, pl, hz⟩ := I.list hq
  have hlen := rv.length
  refine call_tuple_list pl.isList (fun h' kp => ?_) (by simp only [List.size_toArray]; omega)
  have I1 : Inv X pins σ H { s with heap := h' } := I.kept (t' := s.toks) kp
  have I2 : Inv X pins σ (upd H h'.objs.size (.frz { cls := .type "tuple", data := .seq its.toArray } (.tup ys))) { s with heap := h'.push { cls := .type "tuple", data := .seq its.toArray } } :=
    I1.laid (t' := s.toks) (fun b o e => Heap.get?_push_of_some _ e) (Nat.le_refl _) ⟨Heap.get?_push_size _ rfl, hz, its, rv, IsTup.new _ _⟩
  exact ⟨.ref h'.objs.size, _, I2, rfl, q _ _ (I1.hok.fresh (Nat.le_refl _)) rfl rfl⟩
def tTIdx (K : PySem.W.Frag) (α : Type) [DecidableEq α] [Datum α] (to : TE) (t : TA) : TE := fun σ H Q => to σ H fun x H1 => ∃ (a : Addr) (o : Obj) (ws : List V), x = .ref a ∧ H1 a = some (.frz o (.tup ws)) ∧ o.dict = none ∧ o.cls = .type "tuple" ∧
  t σ H1 fun vs H2 => ∃ (y : V) (xs : List α) (b : α), vs = [y] ∧ IsAll K H2 ws xs ∧ H2 a = some (.frz o (.tup ws)) ∧ Is K H2 y b ∧ b ∈ xs ∧ Q (.int (xs.idxOf b : Nat)) H2
theorem pe_tIdx {o e : Expr} {es : List Expr} {to : TE} {t : TA} {apos cpos : Pos} (hu : X.A.units + 64 < cLine) (ho : PE X o to) (ha : PA X (e :: es) t)
    (hbase : attributeBase o "index" X.env (eval o X.env) = eval o X.env := by rfl)
    (hfew : ((backTo cpos (starEach (e :: es) X.env)).all (fun x => !x.1) && (backToKw cpos (keywordEach [] X.env)).all (fun x => x.1.isSome)
      && decide ((e :: es).length + ([] : List Keyword).length + (if ([] : List Keyword).isEmpty then 0 else 1) < 30)) = true := by rfl)
    (hline : (apos.endLine == cpos.line) = true := by rfl) (hs : starEach (e :: es) X.env = (false, eval e X.env) :: starEach es X.env := by rfl) (hplain : (backTo cpos (starEach es X.env)).any (·.1) = false := by rfl) (hd : Datum.depth α ≤ 60 := by decide) :
    PE X (.Call (.Attribute o "index" apos) (e :: es) [] cpos) (tTIdx X.K α to t) := by
  refine ⟨fun pins s σ H Q I h => ?_⟩
  refine wpAny_Call_method_late hbase hfew hline rfl (thn (ho.run pins s σ H _ I h) fun v s1 ⟨x, H1, I1, r1, a, ob, ws, ex, hfz, hdn, hcl, q1⟩ => ?_)
  subst ex
  cases r1
  obtain ⟨hob, _⟩ : ObjOk X.prog X.w H1 s1.heap a (.frz ob (.tup ws)) := I1.hok a _ hfz
  refine ⟨"tuple", "tuple.index", F.plainAttrs_tuple, F.slot_tuple_index, F.type_tuple_index, ⟨ob, hob, hcl⟩, fun b e => by cases e; exact ⟨ob, hob, hdn⟩, ?_⟩
  have hA := ha.run cpos pins s1 σ H1 _ I1 q1
  rw [hs] at hA ⊢
  refine Calls.callWith_builtin (by show (false || (backTo cpos (starEach es X.env)).any (·.1)) = false; rw [hplain]; rfl) (Calls.evalArgs_plain ?_)
  refine thn hA fun us s2 ⟨vs, H2, I2, r2, y, xs, b, ey, hw, ha2, hy, hb, q2⟩ => ?_
  subst ey
  cases r2 with
  | cons ry rr =>
    cases rr
    obtain ⟨its, rv, hT, _⟩ := I2.tuple (a := a) (xs := ws) (.inl (.inr ⟨ob, ha2⟩))
    exact PySem.W.index_tuple_datum (show s2.heap.IsTuple a its.toArray from hT) (hw.holds I2 rv) (hy.holds I2 ry) (by omega) hb ⟨.int (xs.idxOf b : Nat), H2, I2.tok _, ⟨_, rfl⟩, q2⟩
end
/-! comprehensions that make data -/
section
variable {K : PySem.W.Frag} {α : Type} [DecidableEq α] [Datum α] [Flat α]
theorem fm_congr {α β : Type} {f g : α → Option β} : ∀ {l : List α}, (∀ x ∈ l, f x = g x) → l.filterMap f = l.filterMap g
  | [], _ => rfl
  | x :: l, h => by
    rw [List.filterMap_cons, List.filterMap_cons, h x (List.mem_cons_self ..), fm_congr fun y hy => h y (List.mem_cons_of_mem _ hy)]
theorem take_filterMap {α : Type} (f : Nat → Option α) (i : Nat) : (List.range (i + 1)).filterMap f = (List.range i).filterMap f ++ (f i).toList := by
  rw [List.range_succ, List.filterMap_append]
  cases h : f i <;> simp [h]
/-- f i: what turn i gives, if anything -/
theorem lc_data {J : It} {n : Nat} {G : Hp → Prop} {Y : Nat → Hp → V → Hp → Prop} (w : Walk J n G Y) {g : TG} {tt : TT} {te : TE} {vs : List Nat} {σ : L2.St} {H1 : Hp} {D : Addr} {Qd : Hp → Prop} (f : Nat → Option α) (hD : H1 D = none) (hn : n ≤ 1000000)
    (hG : ∀ H, Same H1 H → G H)
    (hs : ∀ (i : Nat) (x : V) (H H' : Hp) (Ky : VK) (Kn : Hp → Prop), i < n → Same H1 H → Y i H x H' → (∀ y b H4, Same H H4 → f i = some b → Is K H4 y b → Ky y H4) → (∀ H4, Same H H4 → f i = none → Kn H4) →
      g x (wipe σ vs) H' fun σ2 H2 => wipe σ2 vs = wipe σ vs ∧ tt σ2 H2 fun b H3 => if b = true then te σ2 H3 Ky else Kn H3)
    (hd : ∀ H ys, Same H1 H → H D = some (.lst ys) → IsAll K H ys ((List.range n).filterMap f) → Qd H) :
    ∃ W : Nat → Nat → Hp → Prop, (∃ m, W 0 m (upd H1 D (.lst []))) ∧ ∀ i m H, W i m H →
      (J.stop i H ∧ Qd H) ∨ (J.go i H ∧ ∃ Nx : Hp → Prop, (∀ H', Nx H' → ∃ m', m' < m ∧ W (i + 1) m' H') ∧ ∀ x H', J.yld i H x H' → g x (wipe σ vs) H' fun σ2 H2 => wipe σ2 vs = wipe σ vs ∧ tt σ2 H2 fun b H3 =>
        if b = true then te σ2 H3 fun y H4 => ∃ acc, H4 D = some (.lst acc) ∧ acc.length < sizeLine ∧ Nx (upd H4 D (.lst (acc ++ [y]))) else Nx H3) := by
  have room : ∀ i, ((List.range i).filterMap f).length ≤ i := fun i => by
    have := List.length_filterMap_le f (List.range i)
    rw [List.length_range] at this
    exact this
  refine lc_it w (fun i H => ∃ ys, Same H1 H ∧ H D = some (.lst ys) ∧ IsAll K H ys ((List.range i).filterMap f)) ⟨[], same_new hD, upd_same, .nil⟩ (fun i H _ ⟨ys, s, _, _⟩ => hG H s) ?_ fun H ⟨ys, s, e, h⟩ => hd H ys s e h
  intro i x H H' hi ⟨ys, s, e, h⟩ hy
  refine hs i x H H' _ _ hi s hy (fun y b H4 s4 fb hb => ?_) fun H4 s4 fb => ?_
  · have e4 := s4 _ _ e
    have h4 := h.keep (keep_same s4)
    refine ⟨ys, e4, ?_, ys ++ [y], ?_, upd_same, ?_⟩
    · rw [h.length, sizeLine_eq]
      have := room i
      omega
    · exact same_at (fun b o q => s4 _ _ (s _ _ q)) hD
    · rw [take_filterMap, fb]
      exact (h4.append (.cons hb .nil)).keep (keep_lst e4)
  · refine ⟨ys, fun b o q => s4 _ _ (s _ _ q), s4 _ _ e, ?_⟩
    rw [take_filterMap, fb]
    show IsAll K H4 ys (_ ++ [])
    rw [List.append_nil]
    exact h.keep (keep_same s4)
end
/-- all items: f of each -/
theorem fm_map {α β : Type} (g : α → β) (xs : List α) : (List.range xs.length).filterMap (fun i => xs[i]?.map g) = xs.map g := by
  refine K86M.rev_ind (P := fun xs => (List.range xs.length).filterMap (fun i => xs[i]?.map g) = xs.map g) rfl (fun xs x ih => ?_) xs
  · rw [List.length_append, List.length_singleton, take_filterMap, List.map_append]
    congr 1
    · rw [← ih]
      refine fm_congr fun i hi => ?_
      rw [List.getElem?_append_left (List.mem_range.mp hi)]
    · rw [List.getElem?_append_right (Nat.le_refl _), Nat.sub_self]
      rfl
theorem fm_filter {α β : Type} (p : α → Bool) (g : α → β) (xs : List α) : (List.range xs.length).filterMap (fun i => (xs[i]?.filter p).map g) = (xs.filter p).map g := by
  refine K86M.rev_ind (P := fun xs => (List.range xs.length).filterMap (fun i => (xs[i]?.filter p).map g) = (xs.filter p).map g) rfl (fun xs x ih => ?_) xs
  · rw [List.length_append, List.length_singleton, take_filterMap, List.filter_append, List.map_append]
    congr 1
    · rw [← ih]
      refine fm_congr fun i hi => ?_
      rw [List.getElem?_append_left (List.mem_range.mp hi)]
    · rw [List.getElem?_append_right (Nat.le_refl _), Nat.sub_self]
      show ((some x).filter p |>.map g).toList = ((List.filter p [x]).map g)
      cases h : p x <;> simp [h, Option.filter]
end K86

end

section
set_option Elab.async false
set_option linter.all false
set_option maxRecDepth 100000
set_option maxHeartbeats 2000000
/-! The statement's defs: places, names; what the built-in names hold. -/
namespace K86
open PySem PySem.Spec PyProof.Rows L2
structure Bt (mg : Str → Option Value) : Prop where
  len : mg "len" = none
  enumerate : mg "enumerate" = none
  dict : mg "dict" = none
  tuple : mg "tuple" = none
  isinstance : mg "isinstance" = none
  int : mg "int" = none
  bool : mg "bool" = none
  str : mg "str" = none
  all : mg "all" = none
  any : mg "any" = none
  zip : mg "zip" = none
  sorted : mg "sorted" = none
  min : mg "min" = none
  max : mg "max" = none
  sum : mg "sum" = none
  set : mg "set" = none
  list : mg "list" = none
  range : mg "range" = none
  repr : mg "repr" = none
  wide9 : ∃ t, mg "MOST_WIDE" = some (.int 9 t)
  trees9 : ∃ t, mg "MOST_TREES" = some (.int 9 t)
theorem b_len : bootBuiltins "len" = some (.builtin "len") := by decide +kernel
theorem b_dict : bootBuiltins "dict" = some (.type "dict") := by decide +kernel
theorem b_tuple : bootBuiltins "tuple" = some (.type "tuple") := by decide +kernel
theorem b_isinstance : bootBuiltins "isinstance" = some (.builtin "isinstance") := by decide +kernel
theorem b_int : bootBuiltins "int" = some (.type "int") := by decide +kernel
theorem b_bool : bootBuiltins "bool" = some (.type "bool") := by decide +kernel
theorem b_str : bootBuiltins "str" = some (.type "str") := by decide +kernel
theorem b_all : bootBuiltins "all" = some (.builtin "all") := by decide +kernel
theorem b_any : bootBuiltins "any" = some (.builtin "any") := by decide +kernel
theorem b_sorted : bootBuiltins "sorted" = some (.builtin "sorted") := by decide +kernel
theorem b_min : bootBuiltins "min" = some (.builtin "min") := by decide +kernel
theorem b_max : bootBuiltins "max" = some (.builtin "max") := by decide +kernel
theorem b_sum : bootBuiltins "sum" = some (.builtin "sum") := by decide +kernel
theorem b_set : bootBuiltins "set" = some (.type "set") := by decide +kernel
theorem b_list : bootBuiltins "list" = some (.type "list") := by decide +kernel
theorem b_repr : bootBuiltins "repr" = some (.builtin "repr") := by decide +kernel
section
variable {X : Cx} {p pos : Pos} {e b : Expr} {es : List Expr} {te tb : TE} {t : TA}
/-- a built-in class as a value -/
theorem pe_ty {x : Str} {T : String} (hm : X.mg x = none) (hv : bootBuiltins x = some (.type T)) (hg : Gl X x := by rfl) (hn : x ≠ "__name__" := by decide) (hd : (x == ("__debug__" : Str)) = false := by decide) : PE X (.Name x pos) (tC (.ty T)) := pe_bltn hg hm hv rfl hn hd
theorem p_call {j k : Nat} {x : Str} {dvs : List V} {pr : Pr} (C : Cal X.prog X.w X.K X.mg X.base k x dvs pr) (hr : Rm j X.A) (ha : PA X (e :: es) t) (hle : k ≤ j := by decide) (hg : Gl X x := by rfl) (hdb : (x == ("__debug__" : Str)) = false := by decide) (he : starEach (e :: es) X.env = (false, eval e X.env) :: starEach es X.env := by rfl)
    (hpl : (backTo pos (starEach es X.env)).any (·.1) = false := by rfl) : PE X (.Call (.Name x p) (e :: es) [] pos) (tCal pr dvs t) := pe_cal C (hr.mono hle) hg ha hdb he hpl
theorem p_isi (m : Bt X.mg) (ha : PA X (e :: es) t) (hg : Gl X "isinstance" := by rfl) (he : starEach (e :: es) X.env = (false, eval e X.env) :: starEach es X.env := by rfl) (hpl : (backTo pos (starEach es X.env)).any (·.1) = false := by rfl) :
    PE X (.Call (.Name "isinstance" p) (e :: es) [] pos) (tCB (rIsB X.K) t) := pe_callB cr_isB hg m.isinstance b_isinstance ha (by decide) (by decide) he hpl
theorem p_len (m : Bt X.mg) (ha : PA X (e :: es) t) (hg : Gl X "len" := by rfl) (he : starEach (e :: es) X.env = (false, eval e X.env) :: starEach es X.env := by rfl) (hpl : (backTo pos (starEach es X.env)).any (·.1) = false := by rfl) :
    PE X (.Call (.Name "len" p) (e :: es) [] pos) (tCB (fun xs H Q => ∃ p ys, xs = [.ref p] ∧ (SqL X.K H p ys ∨ SqT X.K H p ys) ∧ Q (.int (ys.length : Nat)) H) t) := pe_callB call_len_seq hg m.len b_len ha (by decide) (by decide) he hpl
theorem p_all (m : Bt X.mg) (hc : X.calm = true) (ha : PA X (e :: es) t) (hg : Gl X "all" := by rfl) (he : starEach (e :: es) X.env = (false, eval e X.env) :: starEach es X.env := by rfl) (hpl : (backTo pos (starEach es X.env)).any (·.1) = false := by rfl) :
    PE X (.Call (.Name "all" p) (e :: es) [] pos) (tCB (rAll X.K) t) := pe_callB (cr_all hc) hg m.all b_all ha (by decide) (by decide) he hpl
theorem p_any (m : Bt X.mg) (hc : X.calm = true) (ha : PA X (e :: es) t) (hg : Gl X "any" := by rfl) (he : starEach (e :: es) X.env = (false, eval e X.env) :: starEach es X.env := by rfl) (hpl : (backTo pos (starEach es X.env)).any (·.1) = false := by rfl) :
    PE X (.Call (.Name "any" p) (e :: es) [] pos) (tCB (rAny X.K) t) := pe_callB (cr_any hc) hg m.any b_any ha (by decide) (by decide) he hpl
theorem p_sum (m : Bt X.mg) (hc : X.calm = true) (ha : PA X (e :: es) t) (hg : Gl X "sum" := by rfl) (he : starEach (e :: es) X.env = (false, eval e X.env) :: starEach es X.env := by rfl) (hpl : (backTo pos (starEach es X.env)).any (·.1) = false := by rfl) :
    PE X (.Call (.Name "sum" p) (e :: es) [] pos) (tCB (rSum X.K) t) := pe_callB (cr_sum hc) hg m.sum b_sum ha (by decide) (by decide) he hpl
theorem p_max {r : List V → Hp → VK → Prop} (m : Bt X.mg) (hr : CallR X (.builtin "max") r) (ha : PA X (e :: es) t) (hg : Gl X "max" := by rfl) (he : starEach (e :: es) X.env = (false, eval e X.env) :: starEach es X.env := by rfl) (hpl : (backTo pos (starEach es X.env)).any (·.1) = false := by rfl) :
    PE X (.Call (.Name "max" p) (e :: es) [] pos) (tCB r t) := pe_callB hr hg m.max b_max ha (by decide) (by decide) he hpl
theorem p_min {r : List V → Hp → VK → Prop} (m : Bt X.mg) (hr : CallR X (.builtin "min") r) (ha : PA X (e :: es) t) (hg : Gl X "min" := by rfl) (he : starEach (e :: es) X.env = (false, eval e X.env) :: starEach es X.env := by rfl) (hpl : (backTo pos (starEach es X.env)).any (·.1) = false := by rfl) :
    PE X (.Call (.Name "min" p) (e :: es) [] pos) (tCB r t) := pe_callB hr hg m.min b_min ha (by decide) (by decide) he hpl
theorem p_sorted {r : List V → Hp → VK → Prop} (m : Bt X.mg) (hr : CallR X (.builtin "sorted") r) (ha : PA X (e :: es) t) (hg : Gl X "sorted" := by rfl) (he : starEach (e :: es) X.env = (false, eval e X.env) :: starEach es X.env := by rfl) (hpl : (backTo pos (starEach es X.env)).any (·.1) = false := by rfl) :
    PE X (.Call (.Name "sorted" p) (e :: es) [] pos) (tCB r t) := pe_callB hr hg m.sorted b_sorted ha (by decide) (by decide) he hpl
theorem p_repr (m : Bt X.mg) {k : Nat} (hr : Rm k X.A) (ha : PA X (e :: es) t) (hg : Gl X "repr" := by rfl) (he : starEach (e :: es) X.env = (false, eval e X.env) :: starEach es X.env := by rfl) (hpl : (backTo pos (starEach es X.env)).any (·.1) = false := by rfl) :
    PE X (.Call (.Name "repr" p) (e :: es) [] pos) (tCB (rRepr X.K) t) := pe_callB (cr_repr hr.gd hr.u) hg m.repr b_repr ha (by decide) (by decide) he hpl
theorem p_set {r : List V → Hp → VK → Prop} (m : Bt X.mg) (hr : CallR X (.type "set") r) (ha : PA X (e :: es) t) (hg : Gl X "set" := by rfl) (he : starEach (e :: es) X.env = (false, eval e X.env) :: starEach es X.env := by rfl) (hpl : (backTo pos (starEach es X.env)).any (·.1) = false := by rfl) :
    PE X (.Call (.Name "set" p) (e :: es) [] pos) (tCB r t) := pe_callTy hr hg m.set b_set ha (by decide) (by decide) he hpl
theorem p_tuple {r : List V → Hp → VK → Prop} (m : Bt X.mg) (hr : CallR X (.type "tuple") r) (ha : PA X (e :: es) t) (hg : Gl X "tuple" := by rfl) (he : starEach (e :: es) X.env = (false, eval e X.env) :: starEach es X.env := by rfl) (hpl : (backTo pos (starEach es X.env)).any (·.1) = false := by rfl) :
    PE X (.Call (.Name "tuple" p) (e :: es) [] pos) (tCB r t) := pe_callTy hr hg m.tuple b_tuple ha (by decide) (by decide) he hpl
theorem p_list {r : List V → Hp → VK → Prop} (m : Bt X.mg) (hr : CallR X (.type "list") r) (ha : PA X (e :: es) t) (hg : Gl X "list" := by rfl) (he : starEach (e :: es) X.env = (false, eval e X.env) :: starEach es X.env := by rfl) (hpl : (backTo pos (starEach es X.env)).any (·.1) = false := by rfl) :
    PE X (.Call (.Name "list" p) (e :: es) [] pos) (tCB r t) := pe_callTy hr hg m.list b_list ha (by decide) (by decide) he hpl
theorem p_dict {r : List V → Hp → VK → Prop} (m : Bt X.mg) (hr : CallR X (.type "dict") r) (ha : PA X (e :: es) t) (hg : Gl X "dict" := by rfl) (he : starEach (e :: es) X.env = (false, eval e X.env) :: starEach es X.env := by rfl) (hpl : (backTo pos (starEach es X.env)).any (·.1) = false := by rfl) :
    PE X (.Call (.Name "dict" p) (e :: es) [] pos) (tCB r t) := pe_callTy hr hg m.dict b_dict ha (by decide) (by decide) he hpl
theorem p_int (m : Bt X.mg) (ha : PA X (e :: es) t) (hg : Gl X "int" := by rfl) (he : starEach (e :: es) X.env = (false, eval e X.env) :: starEach es X.env := by rfl) (hpl : (backTo pos (starEach es X.env)).any (·.1) = false := by rfl) :
    PE X (.Call (.Name "int" p) (e :: es) [] pos) (tCB (fun xs H Q => (∃ i, xs = [.int i] ∧ Q (.int i) H) ∨ ∃ k, xs = [.bl k] ∧ Q (.int (if k then 1 else 0)) H) t) := pe_callTy call_int1 hg m.int b_int ha (by decide) (by decide) he hpl
/-- xs.append(e) -/
theorem p_app {o : Expr} {to : TE} {apos cpos : Pos} (ho : PE X o to) (ha : PA X (e :: es) t)
    (hbase : attributeBase o "append" X.env (eval o X.env) = eval o X.env := by rfl)
    (hfew : ((backTo cpos (starEach (e :: es) X.env)).all (fun x => !x.1) && (backToKw cpos (keywordEach [] X.env)).all (fun x => x.1.isSome)
      && decide ((e :: es).length + ([] : List Keyword).length + (if ([] : List Keyword).isEmpty then 0 else 1) < 30)) = true := by rfl)
    (hline : (apos.endLine == cpos.line) = true := by rfl) (hs : starEach (e :: es) X.env = (false, eval e X.env) :: starEach es X.env := by rfl) (hplain : (backTo cpos (starEach es X.env)).any (·.1) = false := by rfl) :
    PE X (.Call (.Attribute o "append" apos) (e :: es) [] cpos) (tBM X.K "list" rAppend to t) := pe_bm PySem.F.plainAttrs_list PySem.F.slot_list_append PySem.F.type_list_append mt_append ho ha hbase hfew hline hs hplain
end
end K86

end

section
set_option Elab.async false
set_option linter.all false
set_option maxRecDepth 100000
set_option maxHeartbeats 2000000
/-! More readings by data: membership, slices, walks, dict comprehensions. -/
namespace K86
open PySem PySem.Spec PyProof.Rows L2
open PySem.W (Datum DatumOrd Tup T3 T4 Holds HoldAll)
theorem Same.of_upd {H H' : Hp} {d : Addr} {u : HO} {o : Obj} (hd : H d = some u) (s : Same (upd H d (.frz o u)) H') : Same H (upd H' d u) := fun b x e => by
  by_cases hb : b = d
  · subst hb
    rw [upd_same]
    rw [hd] at e
    exact e
  · rw [upd_ne hb]
    exact s _ _ (by rw [upd_ne hb]; exact e)
theorem same_refl (H : Hp) : Same H H := fun _ _ e => e
theorem same_tr {H H1 H2 : Hp} (a : Same H H1) (b : Same H1 H2) : Same H H2 := fun _ _ e => b _ _ (a _ _ e)
theorem rd_same {H H' : Hp} {a : Addr} {o : HO} (s : Same H H') (h : Rd H a o) : Rd H' a o := by
  rcases h with h | ⟨p, h⟩
  · exact .inl (s _ _ h)
  · exact .inr ⟨p, s _ _ h⟩
theorem sqL_same {K : PySem.W.Frag} {H H' : Hp} {a : Addr} {xs : List V} (s : Same H H') (h : SqL K H a xs) : SqL K H' a xs := by
  rcases h with h | h
  · exact .inl (rd_same s h)
  · exact .inr h
theorem sqT_same {K : PySem.W.Frag} {H H' : Hp} {a : Addr} {xs : List V} (s : Same H H') (h : SqT K H a xs) : SqT K H' a xs := (keep_same s).seqT h
mutual
theorem dp_same {K : PySem.W.Frag} {H H' : Hp} (s : Same H H') : ∀ (d : PyData) (v : V), Dp K H v d → Dp K H' v d
  | .none, _, h => by cases h; exact .non
  | .bool _, _, h => by cases h; exact .bl _
  | .int _, _, h => by cases h; exact .int _
  | .str _, _, h => by cases h; exact .str _
  | .list ds, _, h => by
    cases h with
    | lst hs ha => exact .lst (sqL_same s hs) (dps_same s ds _ ha)
  | .dict _, _, h => by cases h
  | .tuple ds, _, h => by
    cases h with
    | tup hs ha => exact .tup (sqT_same s hs) (dps_same s ds _ ha)
theorem dps_same {K : PySem.W.Frag} {H H' : Hp} (s : Same H H') : ∀ (ds : List PyData) (vs : List V), DpAll K H vs ds → DpAll K H' vs ds
  | [], _, h => by cases h; exact .nil
  | d :: ds, _, h => by
    cases h with
    | cons h1 h2 => exact .cons (dp_same s d _ h1) (dps_same s ds _ h2)
end
section
variable {K : PySem.W.Frag} {H H' : Hp} {α β γ : Type} [DecidableEq α] [Datum α] [DecidableEq β] [Datum β] [DecidableEq γ] [Datum γ]
theorem Is.same {v : V} {x : α} (h : Is K H v x) (s : Same H H') : Is K H' v x := dp_same s _ _ h
theorem IsAll.same {vs : List V} {xs : List α} (h : IsAll K H vs xs) (s : Same H H') : IsAll K H' vs xs := dps_same s _ _ h
theorem isAll_bls : ∀ {vs : List V} {bs : List Bool}, IsAll K H vs bs → vs = bs.map V.bl
  | [], [], _ => rfl
  | [], _ :: _, h => by cases h.length
  | _ :: _, [], h => by cases h.length
  | _ :: vs, x :: xs, h => by rw [List.map_cons, h.uncons.1.bl, isAll_bls h.uncons.2]
/-! membership of a text in a tuple or a dict -/
def Has (K : PySem.W.Frag) (H : Hp) (y : V) (z : Str) (b : Bool) : Prop :=
  (∃ t : Tup Str, Is K H y t ∧ b = decide (z ∈ t.items)) ∨ ∃ (a : Addr) (kvs : List (Key × V)), y = .ref a ∧ Rd H a (.dK kvs) ∧ b = (valV kvs (Sum.inr z)).isSome
theorem Has.same {y : V} {z : Str} {b : Bool} (h : Has K H y z b) (s : Same H H') : Has K H' y z b := by
  rcases h with ⟨t, ht, e⟩ | ⟨a, kvs, ea, hr, e⟩
  · exact .inl ⟨t, ht.same s, e⟩
  · exact .inr ⟨a, kvs, ea, rd_same s hr, e⟩
def rMem (K : PySem.W.Frag) : R2 := fun x y H Q => ∃ (z : Str) (b : Bool), x = .str z ∧ Has K H y z b ∧ Q (.bl b) H
def rNmem (K : PySem.W.Frag) : R2 := fun x y H Q => ∃ (z : Str) (b : Bool), x = .str z ∧ Has K H y z b ∧ Q (.bl (!b)) H
variable {X : Cx}
theorem op_mem (hu : X.A.units + 64 < cLine) : OpR X (compareOp .In) (rMem X.K) := by
  intro pins s σ H x y v u Q I rx ry h
  obtain ⟨z, b, rfl, hb, q⟩ := h
  rcases hb with ⟨t, ht, rfl⟩ | ⟨a, kvs, rfl, hr, rfl⟩
  · exact op_inT (X := X) (α := Str) hu (by decide) pins s σ H _ y v u Q I rx ry ⟨z, t, is_str z, ht, q⟩
  · cases ry
    exact d_in (by omega) I (.inl ⟨kvs, Sum.inr z, hr, rfl, rfl⟩) rx fun s3 I3 => ⟨.bl _, H, I3, rfl, q⟩
theorem op_nmem (hu : X.A.units + 64 < cLine) : OpR X (compareOp .NotIn) (rNmem X.K) := by
  intro pins s σ H x y v u Q I rx ry h
  obtain ⟨z, b, rfl, hb, q⟩ := h
  rcases hb with ⟨t, ht, rfl⟩ | ⟨a, kvs, rfl, hr, rfl⟩
  · exact op_ninT (X := X) (α := Str) hu (by decide) pins s σ H _ y v u Q I rx ry ⟨z, t, is_str z, ht, by
      rw [show decide (z ∉ t.items) = !decide (z ∈ t.items) by simp]
      exact q⟩
  · cases ry
    exact d_notIn (by omega) I (.inl ⟨kvs, Sum.inr z, hr, rfl, rfl⟩) rx fun s3 I3 => ⟨.bl _, H, I3, rfl, q⟩
/-! slices -/
theorem slr_imp {r r' : V → Option Int → Option Int → Hp → VK → Prop} (h : SlR X r) (k : ∀ x lo hi H Q, r' x lo hi H Q → r x lo hi H Q) : SlR X r' := fun pins s σ H x v vl vu lo hi sl Q I rx a b c q => h pins s σ H x v vl vu lo hi sl Q I rx a b c (k _ _ _ _ _ q)
theorem cut_tail (xs : List V) : cutV xs (some 1) none = xs.drop 1 := by
  show (xs.drop (HT.sIx xs.length 0 (some ((1 : Nat) : Int)))).take (HT.sIx xs.length xs.length none - HT.sIx xs.length 0 (some ((1 : Nat) : Int))) = _
  rw [HT.sIx_nat, HT.sIx_none]
  cases xs with
  | nil => rfl
  | cons x xs =>
    have e : min 1 (x :: xs).length = 1 := by rw [List.length_cons]; omega
    rw [e, List.take_of_length_le (by rw [List.length_drop]; omega)]
def rTailT (K : PySem.W.Frag) (α : Type) [DecidableEq α] [Datum α] : V → Option Int → Option Int → Hp → VK → Prop := fun x lo hi H Q => lo = some 1 ∧ hi = none ∧ ∃ t : Tup α, Is K H x t ∧ ∀ v H', Same H H' → Is K H' v (Tup.mk (t.items.drop 1)) → Q v H'
theorem sl_tailT : SlR X (rTailT X.K α) := slr_imp sl_tupA fun x lo hi H Q h => by
  obtain ⟨rfl, rfl, t, ht, q⟩ := h
  obtain ⟨a, vs, rfl, hs, hv⟩ := ht.tup
  refine ⟨a, vs, rfl, hs, fun e => ?_, fun _ p hp => ?_⟩
  · refine q _ _ (same_refl H) (is_tup hs ?_)
    have e2 := e.1
    rw [show (some (1 : Int)) = some ((1 : Nat) : Int) from rfl, HT.sIx_nat] at e2
    have e3 : vs = [] := List.length_eq_zero_iff.mp (by omega)
    have e4 := hv.length
    rw [e3] at e4
    have e5 : t.items = [] := List.length_eq_zero_iff.mp e4.symm
    rw [e3, e5]
    exact .nil
  · rw [cut_tail]
    exact q _ _ (same_new hp) (is_tup (SqT.of upd_same) ((hv.drop 1).same (same_new hp)))
def rTailL (K : PySem.W.Frag) (α : Type) [DecidableEq α] [Datum α] : V → Option Int → Option Int → Hp → VK → Prop := fun x lo hi H Q => lo = some 1 ∧ hi = none ∧ ∃ t : List α, Is K H x t ∧ ∀ v H', Same H H' → Is K H' v (t.drop 1) → Q v H'
theorem sl_tailL : SlR X (rTailL X.K α) := slr_imp sl_list fun x lo hi H Q h => by
  obtain ⟨rfl, rfl, t, ht, q⟩ := h
  obtain ⟨a, vs, rfl, hs, hv⟩ := ht.lst
  refine ⟨a, vs, rfl, hs, fun p hp => ?_⟩
  rw [cut_tail]
  exact q _ _ (same_new hp) (is_lst (SqL.of upd_same) ((hv.drop 1).same (same_new hp)))
/-! walks -/
theorem walk_zipT {a b : Addr} {xs ys : List V} {n : Nat} (hn : n = min xs.length ys.length) : Walk (RZ.ItzT K a b) n (fun H => SqT K H a xs ∧ SqT K H b ys) (YPair (fun i => xs[i]?) (fun i => ys[i]?)) := by
  subst hn
  refine ⟨fun i _ hi q => ?_, fun _ q => ⟨xs, ys, q.1, q.2, by omega⟩, fun i H v H' _ q y => ?_⟩
  · have h1 : i < xs.length := by omega
    have h2 : i < ys.length := by omega
    exact ⟨xs, ys, xs[i], ys[i], q.1, q.2, by simp [h1], by simp [h2]⟩
  · obtain ⟨T, x, z, h1, h2, h3, h4, h5⟩ := y
    exact ⟨T, x, z, h1, h2, h3, h4 xs q.1, h5 ys q.2⟩
/-- {z: v for z in xs}, xs a tuple of texts, none twice -/
theorem dc_texts {a : Addr} {xs : List Str} {v : V} {g : TG} {tt : TT} {tk tv : TE} {vs : List Nat} {σ : L2.St} {H1 : Hp} {D : Addr} {Qd : Hp → Prop} (hD : H1 D = none) (hx : SqT K H1 a (xs.map V.str)) (nd : xs.Nodup) (hz : xs.length ≤ 1000000)
    (hs : ∀ (z : Str) (H : Hp) (Ky : V → V → Hp → Prop), z ∈ xs → Same H1 H → Ky (.str z) v H → g (.str z) (wipe σ vs) H fun σ2 H2 => wipe σ2 vs = wipe σ vs ∧ tt σ2 H2 fun b H3 => b = true ∧ tk σ2 H3 fun y H4 => tv σ2 H4 fun z H5 => Ky y z H5)
    (mono1 : ∀ x σ H (Q Q' : L2.St → Hp → Prop), (∀ a b, Q a b → Q' a b) → g x σ H Q → g x σ H Q') (mono2 : ∀ σ H (Q Q' : Bool → Hp → Prop), (∀ a b, Q a b → Q' a b) → tt σ H Q → tt σ H Q')
    (hd : ∀ H, Same H1 H → H D = some (.dK (xs.map fun z => (Sum.inr z, v))) → Qd H) :
    ∃ W : Nat → Nat → Hp → Prop, (∃ m, W 0 m (upd H1 D (.dK []))) ∧ ∀ i m H, W i m H →
      ((Itt K a).stop i H ∧ Qd H) ∨ ((Itt K a).go i H ∧ ∃ Nx : Hp → Prop, (∀ H', Nx H' → ∃ m', m' < m ∧ W (i + 1) m' H') ∧ ∀ x H', (Itt K a).yld i H x H' → g x (wipe σ vs) H' fun σ2 H2 => wipe σ2 vs = wipe σ vs ∧ tt σ2 H2 fun b H3 =>
        if b = true then tk σ2 H3 fun y H4 => tv σ2 H4 fun z H5 => ∃ kvs k, y = kV k ∧ H5 D = some (.dK kvs) ∧ kvs.length < sizeLine ∧ Nx (upd H5 D (.dK (putK kvs k z))) else Nx H3) := by
  refine dc_tup (xs := xs.map V.str) (fun i H => Same H1 H ∧ H D = some (.dK ((xs.take i).map fun z => (Sum.inr z, v)))) ⟨same_new hD, upd_same⟩ (fun i H _ h => sqT_same h.1 hx) ?_ fun H h => ?_
  · intro i x H hi ⟨s, e⟩
    rw [List.getElem?_map] at hi
    cases hz' : xs[i]? with
    | none => rw [hz'] at hi; cases hi
    | some z =>
      rw [hz'] at hi
      obtain rfl : V.str z = x := Option.some.inj hi
      refine mono1 _ _ _ _ _ (fun σ2 H2 h => ⟨h.1, mono2 _ _ _ _ (fun b H3 h => ?_) h.2⟩) (hs z H (fun y z' H5 => ∃ kvs k, y = kV k ∧ H5 D = some (.dK kvs) ∧ kvs.length < sizeLine ∧ (Same H1 (upd H5 D (.dK (putK kvs k z'))) ∧ (upd H5 D (.dK (putK kvs k z'))) D = some (.dK ((xs.take (i + 1)).map fun z => (Sum.inr z, v))))) (List.mem_of_getElem? hz') s ?_)
      · rw [h.1, if_pos rfl]
        exact h.2
      · have hil := (List.getElem?_eq_some_iff.mp hz').1
        refine ⟨_, Sum.inr z, rfl, e, ?_, same_at s hD, ?_⟩
        · rw [List.length_map, List.length_take, sizeLine_eq]
          omega
        · rw [upd_same, putK_new, List.take_add_one, hz', List.map_append]
          · rfl
          · -- z is not yet a key
            have hn : z ∉ xs.take i := fun hm => by
              obtain ⟨j, hj⟩ := List.getElem?_of_mem hm
              have hji : j < i := by
                have := (List.getElem?_eq_some_iff.mp hj).1
                rw [List.length_take] at this
                omega
              rw [List.getElem?_take_of_lt hji] at hj
              have := (List.getElem?_inj (by omega) nd).mp (hj.trans hz'.symm)
              omega
            cases hv : valV ((xs.take i).map fun z => ((Sum.inr z : Key), v)) (Sum.inr z) with
            | none => rfl
            | some w =>
              have := valV_in hv
              rw [List.map_map] at this
              obtain ⟨y, hy, ey⟩ := List.mem_map.mp this
              have ey : (Sum.inr y : Key) = Sum.inr z := ey
              injection ey with ey
              rw [ey] at hy
              exact absurd hy hn
  · obtain ⟨s, e⟩ := h
    rw [List.length_map, List.take_length] at e
    exact hd H s e
end
theorem val_texts {xs : List Str} {v : V} {z : Str} : (valV (xs.map fun z => ((Sum.inr z : Key), v)) (Sum.inr z)).isSome = decide (z ∈ xs) := by
  induction xs with
  | nil => rfl
  | cons x xs ih =>
    by_cases e : x = z
    · rw [List.map_cons, valV_pos (by rw [e])]
      simp [e]
    · rw [List.map_cons, valV_neg (fun q => e (Sum.inr.inj q)), ih]
      simp [Ne.symm e]
end K86

end

section
set_option Elab.async false
set_option linter.all false
set_option maxRecDepth 100000
set_option maxHeartbeats 2000000
/-! Promises by the number of arguments; defs with defaults. -/
namespace K86
open PySem PySem.Spec PyProof.Rows L2
open PySem.W (Datum DatumOrd Tup T3 T4 Holds HoldAll)
def pr1 (p : V → Hp → VK → Prop) : Pr := fun vs H Q => match vs with
  | [a] => p a H Q
  | _ => False
def pr2 (p : V → V → Hp → VK → Prop) : Pr := fun vs H Q => match vs with
  | [a, b] => p a b H Q
  | _ => False
def pr3 (p : V → V → V → Hp → VK → Prop) : Pr := fun vs H Q => match vs with
  | [a, b, c] => p a b c H Q
  | _ => False
def pr4 (p : V → V → V → V → Hp → VK → Prop) : Pr := fun vs H Q => match vs with
  | [a, b, c, d] => p a b c d H Q
  | _ => False
def pr5 (p : V → V → V → V → V → Hp → VK → Prop) : Pr := fun vs H Q => match vs with
  | [a, b, c, d, e] => p a b c d e H Q
  | _ => False
section
variable {vs : List V} {H : Hp} {Q : VK}
theorem inv1 {p : V → Hp → VK → Prop} (h : pr1 p vs H Q) : ∃ a, vs = [a] ∧ p a H Q := match vs, h with
  | [a], h => ⟨a, rfl, h⟩
theorem inv2 {p : V → V → Hp → VK → Prop} (h : pr2 p vs H Q) : ∃ a b, vs = [a, b] ∧ p a b H Q := match vs, h with
  | [a, b], h => ⟨a, b, rfl, h⟩
theorem inv3 {p : V → V → V → Hp → VK → Prop} (h : pr3 p vs H Q) : ∃ a b c, vs = [a, b, c] ∧ p a b c H Q := match vs, h with
  | [a, b, c], h => ⟨a, b, c, rfl, h⟩
theorem inv4 {p : V → V → V → V → Hp → VK → Prop} (h : pr4 p vs H Q) : ∃ a b c d, vs = [a, b, c, d] ∧ p a b c d H Q := match vs, h with
  | [a, b, c, d], h => ⟨a, b, c, d, rfl, h⟩
theorem inv5 {p : V → V → V → V → V → Hp → VK → Prop} (h : pr5 p vs H Q) : ∃ a b c d e, vs = [a, b, c, d, e] ∧ p a b c d e H Q := match vs, h with
  | [a, b, c, d, e], h => ⟨a, b, c, d, e, rfl, h⟩
theorem len1 {p : V → Hp → VK → Prop} {x : Str} (h : pr1 p vs H Q) : vs.length = [x].length := by
  obtain ⟨_, rfl, _⟩ := inv1 h
  rfl
theorem len2 {p : V → V → Hp → VK → Prop} {x y : Str} (h : pr2 p vs H Q) : vs.length = [x, y].length := by
  obtain ⟨_, _, rfl, _⟩ := inv2 h
  rfl
theorem len3 {p : V → V → V → Hp → VK → Prop} {x y z : Str} (h : pr3 p vs H Q) : vs.length = [x, y, z].length := by
  obtain ⟨_, _, _, rfl, _⟩ := inv3 h
  rfl
theorem len4 {p : V → V → V → V → Hp → VK → Prop} {x y z u : Str} (h : pr4 p vs H Q) : vs.length = [x, y, z, u].length := by
  obtain ⟨_, _, _, _, rfl, _⟩ := inv4 h
  rfl
theorem len5 {p : V → V → V → V → V → Hp → VK → Prop} {x y z u v : Str} (h : pr5 p vs H Q) : vs.length = [x, y, z, u, v].length := by
  obtain ⟨_, _, _, _, _, rfl, _⟩ := inv5 h
  rfl
end
section
variable {P : Program} {w : World} {K : PySem.W.Frag} {mg : Str → Option Value} {base : Heap} {f : Addr} {fd : FuncData}
theorem Dfn.calD {x : Str} {st : Stmt} {N ps : List Str} {dvs : List V} {k : Nat} {pr : Pr} (j : Nat) (F : Dfn K mg x st dvs f fd) (S : FnScope N ps (defScope st)) (len : ∀ vs H Q, pr vs H Q → vs.length = ps.length)
    (hb : ∃ ds, Vals (dvs.drop j) ds ∧ Binds K fd ps ds)
    (hbody : ∀ (cdv : Value) (A : Around) (outer : List Env) (s : Shared) (H : Hp) (vs : List V) (Q : VK), Rm k (A.deeper (envOfC x (defScope st) s.heap.objs.size f cdv)) → pr vs H Q →
      ∃ t, PSs (cxOf CXn P w K mg base N x (defScope st) f cdv A outer s H En).nox (defBody st) t ∧ t { nx := fun _ H' => Q .non H', rt := Q } (start N vs) H) : Cal P w K mg base (k + 1) x (dvs.drop j) pr := by
  obtain ⟨ds, hv, hb⟩ := hb
  exact ⟨f, fd, ps, ds, fnG_of F.fn S len hbody, F.at_, F.fn.kp, hb, hv⟩
end
end K86

end

section
set_option Elab.async false
set_option linter.all false
set_option maxRecDepth 100000
set_option maxHeartbeats 2000000
/-! The walks: kinds, network. -/
namespace K86
open PySem PySem.Spec PyProof.Rows L2
open PySem.W (Datum DatumOrd Tup T3 T4 Holds HoldAll)
/-- a name: one to eight signs from a to z -/
structure IsName (x : Str) : Prop where
  pos : 0 < x.length
  lt : x.length < 9
  az : ∀ c ∈ x.cps.toList, 97 ≤ c ∧ c ≤ 122
theorem op_len_str {X : Cx} {p pos : Pos} {e : Expr} {es : List Expr} {t : TA} (m : Bt X.mg) (ha : PA X (e :: es) t) (hg : Gl X "len" := by rfl) (he : starEach (e :: es) X.env = (false, eval e X.env) :: starEach es X.env := by rfl) (hpl : (backTo pos (starEach es X.env)).any (·.1) = false := by rfl) :
    PE X (.Call (.Name "len" p) (e :: es) [] pos) (tCB (fun xs H Q => ∃ z, xs = [.str z] ∧ z.length ≤ sizeLine ∧ Q (.int (z.length : Nat)) H) t) := pe_callB call_len_str hg m.len b_len ha (by decide) (by decide) he hpl
theorem bl_of {Q : VK} {H : Hp} {b c : Bool} (e : b = c) (q : Q (.bl c) H) : Q (.bl b) H := e ▸ q
theorem lt_one (a b : Nat) (h : b ≤ a) : ¬ ([a] : List Nat) < [b] := by
  intro z
  rcases List.cons_lt_cons_iff.mp z with z | ⟨_, z⟩
  · omega
  · exact List.not_lt_nil _ z
theorem cps_a : (Str.ofString "a").cps.toList = [97] := by decide +kernel
theorem cps_z : (Str.ofString "z").cps.toList = [122] := by decide +kernel
theorem all_true (n : Nat) : ((List.range n).filterMap fun _ => some true).all id = true := by
  rw [List.all_eq_true]
  intro b hb
  obtain ⟨_, _, e⟩ := List.mem_filterMap.mp hb
  exact (Option.some.inj e).symm
theorem upS_next {α : Type} [DecidableEq α] [DatumOrd α] {xs : List α} (h : UpS xs) {i : Nat} {x y : α} (hx : xs[i]? = some x) (hy : xs[i + 1]? = some y) : DatumOrd.lt x y = true := by
  obtain ⟨h1, e1⟩ := List.getElem?_eq_some_iff.mp hx
  obtain ⟨h2, e2⟩ := List.getElem?_eq_some_iff.mp hy
  rw [← e1, ← e2]
  exact List.pairwise_iff_getElem.mp h i (i + 1) h1 h2 (Nat.lt_succ_self i)
theorem up_next {α : Type} [DecidableEq α] [DatumOrd α] {xs : List α} (h : Up xs) {i : Nat} {x y : α} (hx : xs[i]? = some x) (hy : xs[i + 1]? = some y) : DatumOrd.lt y x = false := by
  obtain ⟨h1, e1⟩ := List.getElem?_eq_some_iff.mp hx
  obtain ⟨h2, e2⟩ := List.getElem?_eq_some_iff.mp hy
  rw [← e1, ← e2]
  have := List.pairwise_iff_getElem.mp h i (i + 1) h1 h2 (Nat.lt_succ_self i)
  unfold leO at this
  simpa using this
section
variable {P : Program} {w : World} {K : PySem.W.Frag} {mg : Str → Option Value} {base : Heap} {f : Addr} {fd : FuncData}

def pr_is_integer (K : PySem.W.Frag) : Pr := pr1 fun v H Q => ∃ i : Int, v = .int i ∧ Q (.bl true) H
theorem sc_is_integer : FnScope n_is_integer p_is_integer (defScope s_is_integer) := ⟨rfl, rfl, rfl, by decide +kernel, rfl, by decide +kernel, by decide +kernel⟩
theorem is_integer_ok (m : Bt mg)  (D : Dfn K mg "is_integer" s_is_integer [] f fd) : Cal P w K mg base 1 "is_integer" [] (pr_is_integer K) := by
  refine D.cal sc_is_integer (fun vs H Q h => len1 h) (fun _ _ _ _ _ _ us hl => match us, hl with | [_], _ => rfl) fun cdv A outer s H vs Q hr h => ?_
  obtain ⟨_, rfl, i, rfl, q⟩ := inv1 h
  refine ⟨_, pss_one (ps_ret (pe_and (p_isi m (pa_cons (pv 0) (pa_cons (pe_ty m.int b_int) pa_nil))) (pe_one (pe_not (p_isi m (pa_cons (pv 0) (pa_cons (pe_ty m.bool b_bool) pa_nil))))))), ?_⟩
  refine ⟨_, rfl, _, _, _, true, rfl, .base (.int i), by decide +kernel, _, rfl, ?_⟩
  exact ⟨_, rfl, _, _, _, false, rfl, .base (.int i), by decide +kernel, _, rfl, q⟩

def pr_is_number (K : PySem.W.Frag) : Pr := pr1 fun v H Q => ∃ i : Int, v = .int i ∧ Q (.bl (decide (0 ≤ i))) H
theorem sc_is_number : FnScope n_is_number p_is_number (defScope s_is_number) := ⟨rfl, rfl, rfl, by decide +kernel, rfl, by decide +kernel, by decide +kernel⟩
theorem is_number_ok (m : Bt mg) (c_is_integer : Cal P w K mg base 1 "is_integer" [] (pr_is_integer K)) (D : Dfn K mg "is_number" s_is_number [] f fd) : Cal P w K mg base 2 "is_number" [] (pr_is_number K) := by
  refine D.cal sc_is_number (fun vs H Q h => len1 h) (fun _ _ _ _ _ _ us hl => match us, hl with | [_], _ => rfl) fun cdv A outer s H vs Q hr h => ?_
  obtain ⟨_, rfl, i, rfl, q⟩ := inv1 h
  refine ⟨_, pss_one (ps_ret (pe_and (p_call c_is_integer hr (pa_cons (pv 0) pa_nil)) (pe_one (pe_cmpR op_ge (pv 0) pe_int (nomark _))))), ?_⟩
  refine ⟨_, rfl, i, rfl, true, rfl, ?_⟩
  exact ⟨_, rfl, i, 0, rfl, rfl, q⟩

def pr_is_name (K : PySem.W.Frag) : Pr := pr1 fun v H Q => ∃ x : Str, v = .str x ∧ IsName x ∧ ∀ H', Same H H' → Q (.bl true) H'
theorem sc_is_name : FnScope n_is_name p_is_name (defScope s_is_name) := ⟨rfl, rfl, rfl, by decide +kernel, rfl, by decide +kernel, by decide +kernel⟩
theorem is_name_ok (m : Bt mg)  (D : Dfn K mg "is_name" s_is_name [] f fd) : Cal P w K mg base 1 "is_name" [] (pr_is_name K) := by
  refine D.cal sc_is_name (fun vs H Q h => len1 h) (fun _ _ _ _ _ _ us hl => match us, hl with | [_], _ => rfl) fun cdv A outer s H vs Q hr h => ?_
  obtain ⟨_, rfl, x, rfl, nm, q⟩ := inv1 h
  refine ⟨_, pss_cons (ps_if (pw_or (pt_not (pt_val (p_isi m (pa_cons (pv 0) (pa_cons (pe_ty m.str b_str) pa_nil))))) (pw_or1 (pt_not (pt_chain op_lt op_lt pe_int (op_len_str m (pa_cons (pv 0) pa_nil)) pe_int)))).pt (pss_one (ps_ret pe_bl)) pss_nil)
    (pss_one (ps_ret (p_all m rfl (pa_cons (pe_lc (own := [("sign", 1)]) (g := gName 1) (tt := tYes) rfl sc_is_name.nd (pi_str (pv 0)) (blkOk_by (N := n_is_name) (sc := defScope s_is_name) (by decide +kernel))
      (fun _ _ _ _ _ => pg_name (i := 1) sc_is_name.nd rfl (.inl rfl)) (fun _ _ _ _ _ => pts_nil) (fun _ _ _ _ _ => pe_chain op_le_str op_le_str pe_str (pv 1) pe_str)) pa_nil)))), ?_⟩
  refine ⟨_, rfl, _, _, _, true, rfl, .base (.str x), by decide +kernel, true, rfl, ?_⟩
  have h1 := nm.pos
  have h2 := nm.lt
  refine ⟨_, rfl, x, rfl, by rw [sizeLine_eq]; omega, 0, (x.length : Nat), rfl, rfl, true, congrArg V.bl (decide_eq_true (by omega)), ?_⟩
  refine ⟨(x.length : Nat), 9, rfl, rfl, true, congrArg V.bl (decide_eq_true (by omega)), ?_⟩
  refine ⟨_, rfl, x, rfl, fun Dd hD => lc_data (K := K) walk_str (fun _ => some true) hD ?_ (fun _ _ => trivial) ?_ ?_⟩
  · have : x.cps.size < 9 := h2
    omega
  · rintro i v H1 H2 Ky Kn hi s1 ⟨rfl, c, hc, rfl⟩ k1 k2
    have az := nm.az c (by rw [Array.mem_toList_iff]; exact Array.mem_of_getElem? hc)
    refine ⟨rfl, ⟨_, rfl, _, _, rfl, rfl, true, ?_, ?_⟩⟩
    · rw [cps_a]
      exact congrArg (fun b => V.bl !b) (decide_eq_false (lt_one c 97 az.1))
    · refine ⟨_, _, rfl, rfl, ?_⟩
      rw [cps_z, decide_eq_false (show ¬ ([122] : List Nat) < (#[c] : Array Nat).toList from lt_one 122 c az.2)]
      exact k1 _ true _ (same_refl _) rfl (is_bl true)
  · intro H1 ys s1 e1 hy
    refine ⟨Dd, _, rfl, SqL.of (by rw [e1, isAll_bls hy]), ?_⟩
    rw [all_true]
    exact q _ s1

def pr_is_pair (K : PySem.W.Frag) : Pr := pr1 fun x H Q => ∃ (a : Addr) (u v : V), x = .ref a ∧ SqT K H a [u, v] ∧ Q (.bl true) H
theorem sc_is_pair : FnScope n_is_pair p_is_pair (defScope s_is_pair) := ⟨rfl, rfl, rfl, by decide +kernel, rfl, by decide +kernel, by decide +kernel⟩
theorem is_pair_ok (m : Bt mg)  (D : Dfn K mg "is_pair" s_is_pair [] f fd) : Cal P w K mg base 1 "is_pair" [] (pr_is_pair K) := by
  refine D.cal sc_is_pair (fun vs H Q h => len1 h) (fun _ _ _ _ _ _ us hl => match us, hl with | [_], _ => rfl) fun cdv A outer s H vs Q hr h => ?_
  obtain ⟨_, rfl, a, u, v, rfl, hs, q⟩ := inv1 h
  refine ⟨_, pss_one (ps_ret (pe_and (p_isi m (pa_cons (pv 0) (pa_cons (pe_ty m.tuple b_tuple) pa_nil))) (pe_one (pe_cmpR op_eq (p_len m (pa_cons (pv 0) pa_nil)) pe_int (nomark _))))), ?_⟩
  refine ⟨_, rfl, _, _, _, true, rfl, ty_tup hs, by decide +kernel, true, rfl, ?_⟩
  exact ⟨_, rfl, a, _, rfl, .inr hs, rfl, q⟩

def pr_is_name_set (K : PySem.W.Frag) : Pr := pr1 fun v H Q => ∃ xs : List Str, Is K H v (Tup.mk xs) ∧ (∀ x ∈ xs, IsName x) ∧ UpS xs ∧ xs.length ≤ 1000 ∧ ∀ H', Same H H' → Q (.bl true) H'
theorem sc_is_name_set : FnScope n_is_name_set p_is_name_set (defScope s_is_name_set) := ⟨rfl, rfl, rfl, by decide +kernel, rfl, by decide +kernel, by decide +kernel⟩
theorem is_name_set_ok (m : Bt mg) (c_is_name : Cal P w K mg base 1 "is_name" [] (pr_is_name K)) (D : Dfn K mg "is_name_set" s_is_name_set [] f fd) : Cal P w K mg base 2 "is_name_set" [] (pr_is_name_set K) := by
  refine D.cal sc_is_name_set (fun vs H Q h => len1 h) (fun _ _ _ _ _ _ us hl => match us, hl with | [_], _ => rfl) fun cdv A outer s H vs Q hr h => ?_
  obtain ⟨_, rfl, xs, hx, nm, up, hz, q⟩ := inv1 h
  obtain ⟨a, ws, rfl, hs, hv⟩ := hx.tup
  have hl : ws.length = xs.length := hv.length
  refine ⟨_, pss_cons (ps_if (pw_or (pt_not (pt_val (p_isi m (pa_cons (pv 0) (pa_cons (pe_ty m.tuple b_tuple) pa_nil))))) (pw_or1 (pt_not (pt_val (p_all m rfl (pa_cons (pe_lc (own := [("one", 1)]) (g := gName 1) (tt := tYes) rfl sc_is_name_set.nd (pi_tup (pv 0)) (blkOk_by (N := n_is_name_set) (sc := defScope s_is_name_set) (by decide +kernel))
      (fun _ _ _ _ _ => pg_name (i := 1) sc_is_name_set.nd rfl (.inl rfl)) (fun _ _ _ _ _ => pts_nil) (fun _ _ _ _ _ => p_call c_is_name hr (pa_cons (pv 1) pa_nil))) pa_nil)))))).pt (pss_one (ps_ret pe_bl)) pss_nil)
    (pss_one (ps_ret (p_all m rfl (pa_cons (pe_lc (own := [("one", 1), ("other", 2)]) (g := gTup K 2 (gCons (gName 1) (gCons (gName 2) gNil))) (tt := tYes) rfl sc_is_name_set.nd (RZ.pi_zipA rfl m.zip (pa_cons (pv 0) (pa_cons (pe_slice (sl_tailT (α := Str)) (pv 0) (po_some pe_int) po_none) pa_nil)))
      (blkOk_by (N := n_is_name_set) (sc := defScope s_is_name_set) (by decide +kernel)) (fun _ _ _ _ _ => pg_tup rfl (pgs_cons (pg_name (i := 1) sc_is_name_set.nd rfl (.inl rfl)) (pgs_cons (pg_name (i := 2) sc_is_name_set.nd rfl (.inl rfl)) pgs_nil))) (fun _ _ _ _ _ => pts_nil)
      (fun _ _ _ _ _ => pe_cmpR op_lt_str (pv 1) (pv 2) (nomark _))) pa_nil)))), ?_⟩
  refine ⟨_, rfl, _, _, _, true, rfl, ty_tup hs, by decide +kernel, true, rfl, ?_⟩
  refine ⟨_, rfl, a, rfl, ⟨_, hs⟩, fun D1 hD1 => lc_data (K := K) walk_tup (fun _ => some true) hD1 (by omega) (fun H1 s1 => sqT_same s1 hs) ?_ ?_⟩
  · rintro i v H1 H2 Ky Kn hi s1 ⟨rfl, hvi⟩ k1 k2
    obtain ⟨x, hxi, hix⟩ := hv.at hvi
    exact ⟨rfl, _, rfl, x, hix.str, nm x (List.mem_of_getElem? hxi), fun H' s' => k1 _ true H' s' rfl (is_bl true)⟩
  intro H1 ys s1 e1 hy
  refine ⟨D1, _, rfl, SqL.of (by rw [e1, isAll_bls hy]), true, congrArg V.bl (all_true _), ?_⟩
  refine ⟨_, rfl, _, rfl, 1, rfl, rfl, rfl, Tup.mk xs, (is_tup hs hv : Is K H (.ref a) (Tup.mk xs)).same s1, fun v2 H2 s2 h2 => ?_⟩
  obtain ⟨b, us, rfl, hs2, hu⟩ := h2.tup
  have hl2 : us.length = (xs.drop 1).length := hu.length
  rw [List.length_drop] at hl2
  have s12 := same_tr s1 s2
  refine ⟨a, b, ws, us, rfl, .inr ⟨sqT_same s12 hs, hs2, fun D2 hD2 => lc_data (K := K) (walk_zipT rfl) (fun _ => some true) hD2 (by omega) (fun H3 s3 => ⟨sqT_same (same_tr s12 s3) hs, sqT_same s3 hs2⟩) ?_ ?_⟩⟩
  · rintro i v H3 H4 Ky Kn hi s3 ⟨T, x, z, rfl, hT, rfl, hx1, hz1⟩ k1 k2
    obtain ⟨x', hx2, hx3⟩ := hv.at hx1
    obtain ⟨z', hz2, hz3⟩ := hu.at hz1
    have hz2 : (xs.drop 1)[i]? = some z' := hz2
    rw [List.getElem?_drop, Nat.add_comm] at hz2
    obtain rfl := hx3.str
    obtain rfl := hz3.str
    refine ⟨T, _, rfl, SqT.of upd_same, rfl, _, _, rfl, _, _, rfl, rfl, rfl, ⟨_, rfl, _, rfl, x', z', rfl, rfl, ?_⟩⟩
    have e : decide (x'.cps.toList < z'.cps.toList) = true := upS_next up hx2 hz2
    rw [e]
    exact k1 _ true _ (same_new hT) rfl (is_bl true)
  · intro H3 zs s3 e3 hz
    refine ⟨D2, _, rfl, SqL.of (by rw [e3, isAll_bls hz]), ?_⟩
    rw [all_true]
    exact q _ (same_tr s12 s3)

def pr_is_houses (K : PySem.W.Frag) : Pr := pr1 fun v H Q => ∃ xs : List Str, Is K H v (Tup.mk xs) ∧ (∀ x ∈ xs, IsName x) ∧ UpS xs ∧ xs.length ≤ 1000 ∧ xs ≠ [] ∧ ∀ H', Same H H' → Q (.bl true) H'
theorem sc_is_houses : FnScope n_is_houses p_is_houses (defScope s_is_houses) := ⟨rfl, rfl, rfl, by decide +kernel, rfl, by decide +kernel, by decide +kernel⟩
theorem is_houses_ok (m : Bt mg) (c_is_name_set : Cal P w K mg base 2 "is_name_set" [] (pr_is_name_set K)) (D : Dfn K mg "is_houses" s_is_houses [] f fd) : Cal P w K mg base 3 "is_houses" [] (pr_is_houses K) := by
  refine D.cal sc_is_houses (fun vs H Q h => len1 h) (fun _ _ _ _ _ _ us hl => match us, hl with | [_], _ => rfl) fun cdv A outer s H vs Q hr h => ?_
  obtain ⟨_, rfl, xs, hx, nm, up, hz, ne, q⟩ := inv1 h
  refine ⟨_, pss_one (ps_ret (pe_and (p_call c_is_name_set hr (pa_cons (pv 0) pa_nil)) (pe_one (pe_cmpR op_gt (p_len m (pa_cons (pv 0) pa_nil)) pe_int (nomark _))))), ?_⟩
  refine ⟨_, rfl, xs, hx, nm, up, hz, fun H1 s1 => ⟨true, rfl, ?_⟩⟩
  obtain ⟨a, ws, rfl, hs, hv⟩ := (hx.same s1).tup
  refine ⟨_, rfl, a, ws, rfl, .inr hs, _, 0, rfl, rfl, ?_⟩
  have hl : ws.length = xs.length := hv.length
  have : xs.length ≠ 0 := fun e => ne (List.length_eq_zero_iff.mp e)
  exact bl_of (Q := Q) (decide_eq_true (by omega)) (q _ s1)

def pr_is_wire_of (K : PySem.W.Frag) : Pr := pr2 fun hv v H Q => ∃ x : Str × Str, Is K H v x ∧ IsName x.1 ∧ IsName x.2 ∧ Has K H hv x.1 true ∧ Has K H hv x.2 true ∧ x.1 ≠ x.2 ∧ ∀ H', Same H H' → Q (.bl true) H'
theorem sc_is_wire_of : FnScope n_is_wire_of p_is_wire_of (defScope s_is_wire_of) := ⟨rfl, rfl, rfl, by decide +kernel, rfl, by decide +kernel, by decide +kernel⟩
theorem is_wire_of_ok (m : Bt mg) (c_is_pair : Cal P w K mg base 1 "is_pair" [] (pr_is_pair K)) (c_is_name : Cal P w K mg base 1 "is_name" [] (pr_is_name K)) (D : Dfn K mg "is_wire_of" s_is_wire_of [] f fd) : Cal P w K mg base 2 "is_wire_of" [] (pr_is_wire_of K) := by
  refine D.cal sc_is_wire_of (fun vs H Q h => len2 h) (fun _ _ _ _ _ _ us hl => match us, hl with | [_, _], _ => rfl) fun cdv A outer s H vs Q hr h => ?_
  obtain ⟨hv, v, rfl, x, hx, n1, n2, h1, h2, hne, q⟩ := inv2 h
  obtain ⟨a, u, z, rfl, hs, hu, hz⟩ := hx.pair
  obtain rfl := hu.str
  obtain rfl := hz.str
  refine ⟨_, pss_cons (ps_if (pw_or (pt_not (pt_val (p_call c_is_pair hr (pa_cons (pv 1) pa_nil)))) (pw_or (pt_not (pt_val (p_call c_is_name hr (pa_cons (pe_ix (ix_fst (α := Str) (β := Str)) (pv 1) pe_int (fun _ _ => rfl)) pa_nil)))) (pw_or1 (pt_not (pt_val (p_call c_is_name hr (pa_cons (pe_ix (ix_snd (α := Str) (β := Str)) (pv 1) pe_int (fun _ _ => rfl)) pa_nil))))))).pt (pss_one (ps_ret pe_bl)) pss_nil)
    (pss_one (ps_ret (pe_and (pe_cmpR (op_mem hr.u) (pe_ix (ix_fst (α := Str) (β := Str)) (pv 1) pe_int (fun _ _ => rfl)) (pv 0) rfl) (pe_and (pe_cmpR (op_mem hr.u) (pe_ix (ix_snd (α := Str) (β := Str)) (pv 1) pe_int (fun _ _ => rfl)) (pv 0) rfl)
      (pe_one (pe_cmpR op_ne (pe_ix (ix_fst (α := Str) (β := Str)) (pv 1) pe_int (fun _ _ => rfl)) (pe_ix (ix_snd (α := Str) (β := Str)) (pv 1) pe_int (fun _ _ => rfl)) (nomark _))))))), ?_⟩
  refine ⟨_, rfl, a, _, _, rfl, hs, true, rfl, ?_⟩
  refine ⟨_, rfl, x, hx, rfl, fun u1 hu1 => ?_⟩
  obtain rfl := hu1.str
  refine ⟨x.1, rfl, n1, fun H1 s1 => ⟨true, rfl, ?_⟩⟩
  refine ⟨_, rfl, x, hx.same s1, rfl, fun u2 hu2 => ?_⟩
  obtain rfl := hu2.str
  refine ⟨x.2, rfl, n2, fun H2 s2 => ⟨true, rfl, ?_⟩⟩
  have s12 := same_tr s1 s2
  have hx2 := hx.same s12
  refine ⟨_, rfl, x, hx2, rfl, fun u3 hu3 => ?_⟩
  obtain rfl := hu3.str
  refine ⟨_, rfl, x.1, true, rfl, h1.same s12, true, rfl, ?_⟩
  refine ⟨_, rfl, x, hx2, rfl, fun u4 hu4 => ?_⟩
  obtain rfl := hu4.str
  refine ⟨_, rfl, x.2, true, rfl, h2.same s12, true, rfl, ?_⟩
  refine ⟨_, rfl, x, hx2, rfl, fun u5 hu5 => ?_⟩
  obtain rfl := hu5.str
  refine ⟨_, rfl, x, hx2, rfl, fun u6 hu6 => ?_⟩
  obtain rfl := hu6.str
  refine ⟨rfl, ?_⟩
  exact bl_of (Q := Q) (congrArg (fun b => !b) (decide_eq_false fun e => hne (by injection e))) (q _ s12)
end
end K86

end

section
set_option Elab.async false
set_option linter.all false
set_option maxRecDepth 100000
set_option maxHeartbeats 2000000
/-! The walks: networks, what a caller may ask. -/
namespace K86
open PySem PySem.Spec PyProof.Rows L2
open PySem.W (Datum DatumOrd Tup T3 T4 Holds HoldAll)
abbrev Net := Tup Str × Tup (Str × Str)
abbrev net (hs : List Str) (ws : List (Str × Str)) : Net := (Tup.mk hs, Tup.mk ws)
/-- a network as it should be -/
structure NetOk (hs : List Str) (ws : List (Str × Str)) : Prop where
  ne : hs ≠ []
  nm : ∀ h ∈ hs, IsName h
  up : UpS hs
  fewH : hs.length ≤ 4
  ends : ∀ w ∈ ws, w.1 ∈ hs ∧ w.2 ∈ hs ∧ w.1 ≠ w.2
  upW : Up ws
  fewW : ws.length ≤ 100
theorem fm_count {α : Type} (p : α → Bool) (xs : List α) : ((List.range xs.length).filterMap fun (i : Nat) => (xs[i]?.filter p).map fun _ => (i : Int)).length = xs.countP p := by
  refine K86M.rev_ind (P := fun xs => ((List.range xs.length).filterMap fun (i : Nat) => (xs[i]?.filter p).map fun _ => (i : Int)).length = xs.countP p) rfl (fun xs x ih => ?_) xs
  rw [List.length_append, List.length_singleton, take_filterMap, List.length_append, List.countP_append, ← ih]
  congr 1
  · congr 1
    refine fm_congr fun i hi => ?_
    rw [List.getElem?_append_left (List.mem_range.mp hi)]
  · rw [List.getElem?_append_right (Nat.le_refl _), Nat.sub_self]
    show ((Option.filter p (some x)).map _).toList.length = List.countP p [x]
    cases h : p x <;> simp [h, Option.filter]
section
variable {P : Program} {w : World} {K : PySem.W.Frag} {mg : Str → Option Value} {base : Heap} {f : Addr} {fd : FuncData}

def pr_entered_by (K : PySem.W.Frag) : Pr := pr2 fun n l H Q => ∃ (hs : List Str) (ws : List (Str × Str)) (lot : List Str), Is K H n (net hs ws) ∧ Is K H l (Tup.mk lot) ∧ lot.Nodup ∧ lot.length ≤ 1000 ∧ ws.length ≤ 1000 ∧
  ∀ v H' (is : List Int), Same H H' → Is K H' v (Tup.mk is) → is.length = K86M.ent (K86M.isIn lot) ws → Q v H'
theorem sc_entered_by : FnScope n_entered_by p_entered_by (defScope s_entered_by) := ⟨rfl, rfl, rfl, by decide +kernel, rfl, by decide +kernel, by decide +kernel⟩
theorem entered_by_ok (m : Bt mg)  (D : Dfn K mg "entered_by" s_entered_by [] f fd) : Cal P w K mg base 1 "entered_by" [] (pr_entered_by K) := by
  refine D.cal sc_entered_by (fun vs H Q h => len2 h) (fun _ _ _ _ _ _ us hl => match us, hl with | [_, _], _ => rfl) fun cdv A outer s H vs Q hr h => ?_
  obtain ⟨n, l, rfl, hs, ws, lot, hn, hl, nd, z1, z2, q⟩ := inv2 h
  obtain ⟨la, lv, rfl, lq, lh⟩ := hl.tup
  have el := isAll_strs lh
  subst el
  refine ⟨_, pss_cons (ps_set (i := 2) sc_entered_by.nd rfl (Or.inr rfl) (pe_dc (own := [("house", 3)]) (g := gName 3) (tt := tYes) rfl sc_entered_by.nd (pi_tup (pv 1)) (blkOk_by (N := n_entered_by) (sc := defScope s_entered_by) (by decide +kernel))
      (fun _ _ _ _ _ => pg_name (i := 3) sc_entered_by.nd rfl (.inl rfl)) (fun _ _ _ _ _ => pts_nil) (fun _ _ _ _ _ => pv 3) (fun _ _ _ _ _ => pe_bl)))
    (pss_one (ps_ret (p_tuple m call_tuple_of (pa_cons (pe_lc (own := [("index", 4), ("wire", 5)]) (g := gTup K 2 (gCons (gName 4) (gCons (gName 5) gNil))) rfl sc_entered_by.nd (pi_enumT rfl m.enumerate (pa_cons (pe_ix (r := rSnd K (Tup Str) (Tup (Str × Str))) ix_snd (pv 0) pe_int (fun _ _ => rfl)) pa_nil))
      (blkOk_by (N := n_entered_by) (sc := defScope s_entered_by) (by decide +kernel)) (fun _ _ _ _ _ => pg_tup rfl (pgs_cons (pg_name (i := 4) sc_entered_by.nd rfl (.inl rfl)) (pgs_cons (pg_name (i := 5) sc_entered_by.nd rfl (.inl rfl)) pgs_nil)))
      (fun _ _ _ _ _ => pts_one (PW.pt (pw_and (pt_cmpR (r := rMem K) (op_mem hr.u) (pe_ix (r := rSnd K Str Str) ix_snd (pv 5) pe_int (fun _ _ => rfl)) (pv 2) rfl) (pw_and1 (pt_cmpR (r := rNmem K) (op_nmem hr.u) (pe_ix (r := rFst K Str Str) ix_fst (pv 5) pe_int (fun _ _ => rfl)) (pv 2) rfl)))))
      (fun _ _ _ _ _ => pv 4)) pa_nil)))), ?_⟩
  refine ⟨_, rfl, la, rfl, ⟨_, lq⟩, fun d hd => dc_texts (K := K) (xs := lot) (v := .bl true) hd lq nd (by omega) (fun z H1 Ky hz s1 k => ⟨rfl, rfl, _, rfl, k⟩) (fun x σ H Q Q' hq hx => hq _ _ hx) (fun σ H Q Q' hq hx => hq _ _ hx) ?_⟩
  intro H1 s1 e1
  refine ⟨_, rfl, _, hn.same s1, rfl, fun v1 h1 => ?_⟩
  obtain ⟨wa, wv, rfl, wq, wh⟩ := h1.tup
  have wl : wv.length = ws.length := wh.length
  refine ⟨wa, wv, rfl, wq, fun D hD => lc_data (K := K) walk_enumT (fun i => (ws[i]?.filter (K86M.enters (K86M.isIn lot))).map fun _ => (i : Int)) hD (by omega) (fun H2 s2 => sqT_same s2 wq) ?_ ?_⟩
  · rintro i v H2 H3 Ky Kn hi s2 ⟨T, x, y, rfl, hT, rfl, hx, hy⟩ k1 k2
    obtain rfl : V.int (i : Int) = x := Option.some.inj hx
    obtain ⟨wr, hw1, hw2⟩ := wh.at hy
    have hw1 : ws[i]? = some wr := hw1
    have hw3 : Is K (upd H2 T (.tup [.int (i : Int), y])) y wr := hw2.same (same_tr s2 (same_new hT))
    have e3 : (upd H2 T (.tup [.int (i : Int), y])) d = some (.dK (lot.map fun z => (Sum.inr z, .bl true))) := same_new hT _ _ (s2 _ _ e1)
    have hasd : ∀ z, Has K (upd H2 T (.tup [.int (i : Int), y])) (.ref d) z (K86M.isIn lot z) := fun z => .inr ⟨d, _, rfl, .inl e3, by rw [val_texts]; rfl⟩
    refine ⟨T, _, rfl, SqT.of upd_same, rfl, _, _, rfl, _, _, rfl, rfl, rfl, ?_⟩
    refine ⟨_, rfl, wr, hw3, rfl, fun u2 hu2 => ?_⟩
    obtain rfl := hu2.str
    refine ⟨_, rfl, wr.2, _, rfl, hasd _, _, rfl, ?_⟩
    cases c2 : K86M.isIn lot wr.2 with
    | false => exact k2 _ (same_new hT) (by rw [hw1]; simp [Option.filter, K86M.enters, c2])
    | true =>
      refine ⟨_, rfl, wr, hw3, rfl, fun u1 hu1 => ?_⟩
      obtain rfl := hu1.str
      refine ⟨_, rfl, wr.1, _, rfl, hasd _, _, rfl, ?_⟩
      cases c1 : K86M.isIn lot wr.1 with
      | true => exact k2 _ (same_new hT) (by rw [hw1]; simp [Option.filter, K86M.enters, c2, c1])
      | false => exact ⟨_, rfl, k1 _ _ _ (same_new hT) (by rw [hw1]; simp [Option.filter, K86M.enters, c2, c1]) (is_int _)⟩
  · intro H2 ys s2 e2 hy
    refine ⟨D, ys, rfl, .inl ⟨SqL.of e2, fun p hp => ?_⟩⟩
    refine q _ _ _ (same_tr s1 (same_tr s2 (same_new hp))) (is_tup (SqT.of upd_same) (hy.same (same_new hp))) ?_
    rw [wl]
    exact fm_count _ ws

def pr_net_of (K : PySem.W.Frag) : Pr := pr2 fun a b H Q => ∃ (hs : List Str) (ws : List (Str × Str)), Is K H a (Tup.mk hs) ∧ Is K H b ws ∧ ∀ v H', Same H H' → Is K H' v (net (srt hs) (srt ws)) → Q v H'
theorem sc_net_of : FnScope n_net_of p_net_of (defScope s_net_of) := ⟨rfl, rfl, rfl, by decide +kernel, rfl, by decide +kernel, by decide +kernel⟩
theorem net_of_ok (m : Bt mg)  (D : Dfn K mg "net_of" s_net_of [] f fd) : Cal P w K mg base 1 "net_of" [] (pr_net_of K) := by
  refine D.cal sc_net_of (fun vs H Q h => len2 h) (fun _ _ _ _ _ _ us hl => match us, hl with | [_, _], _ => rfl) fun cdv A outer s H vs Q hr h => ?_
  obtain ⟨a, b, rfl, hs, ws, ha, hb, q⟩ := inv2 h
  obtain ⟨a, av, rfl, aq, ah⟩ := ha.tup
  refine ⟨_, pss_one (ps_ret (pe_tup (pa_cons (p_tuple m call_tuple_of (pa_cons (p_sorted m (cr_srtT (α := Str) hr.u) (pa_cons (pv 0) pa_nil)) pa_nil)) (pa_cons (p_tuple m call_tuple_of (pa_cons (p_sorted m (cr_srtT (α := Str × Str) hr.u) (pa_cons (pv 1) pa_nil)) pa_nil)) pa_nil)))), ?_⟩
  refine ⟨_, rfl, a, av, hs, rfl, .inr aq, ah, srtable_str hs, fun p1 o1 n1 h1 => ?_⟩
  refine ⟨p1, o1, rfl, .inl ⟨SqL.of upd_same, fun p2 n2 => ?_⟩⟩
  have s1 := same_new (o := .lst o1) n1
  have s2 := same_tr s1 (same_new (o := .tup o1) n2)
  obtain ⟨b, bv, rfl, bq, bh⟩ := (hb.same s2).lst
  refine ⟨_, rfl, b, bv, ws, rfl, .inl bq, bh, srtable_pair ws, fun p3 o3 n3 h3 => ?_⟩
  refine ⟨p3, o3, rfl, .inl ⟨SqL.of upd_same, fun p4 n4 => ⟨by show 2 ≤ sizeLine; decide, fun p5 n5 => ?_⟩⟩⟩
  have s3 := same_new (o := .lst o3) n3
  have s4 := same_new (o := .tup o3) n4
  have s5 := same_new (o := .tup [.ref p2, .ref p4]) n5
  have i2 : Is K (upd (upd H p1 (.lst o1)) p2 (.tup o1)) (.ref p2) (Tup.mk (srt hs)) := is_tup (SqT.of upd_same) (h1.same s2)
  have i4 : Is K (upd (upd (upd (upd H p1 (.lst o1)) p2 (.tup o1)) p3 (.lst o3)) p4 (.tup o3)) (.ref p4) (Tup.mk (srt ws)) := is_tup (SqT.of upd_same) (h3.same (same_tr s3 s4))
  exact q _ _ (same_tr s2 (same_tr s3 (same_tr s4 s5))) (is_pair (SqT.of upd_same) (i2.same (same_tr s3 (same_tr s4 s5))) (i4.same s5))

theorem sc_need : FnScope n_need p_need (defScope s_need) := ⟨rfl, rfl, rfl, by decide +kernel, rfl, by decide +kernel, by decide +kernel⟩
def pr_need (K : PySem.W.Frag) : Pr := pr3 fun a _ _ H Q => a = .bl true ∧ Q .non H
theorem need_body {x : Str} {cdv : Value} {A : Around} {outer : List Env} {s : Shared} {H : Hp} {vs : List V} {Q : VK} (h : pr_need K vs H Q) :
    ∃ t, PSs (cxOf CXn P w K mg base n_need "need" (defScope s_need) f cdv A outer s H En).nox (defBody s_need) t ∧ t { nx := fun _ H' => Q .non H', rt := Q } (start n_need vs) H := by
  obtain ⟨_, _, _, rfl, rfl, q⟩ := inv3 h
  refine ⟨_, pss_one (ps_if (pt_not (pt_val (pv 0))) pss_never pss_nil), ?_⟩
  exact ⟨_, rfl, true, rfl, q⟩
theorem need_ok (D : Dfn K mg "need" s_need [.int (-1)] f fd) : Cal P w K mg base 1 "need" [] (pr_need K) :=
  D.calD 1 sc_need (fun vs H Q h => len3 h) (FunD.binds1 D.fn 3 1 (by decide) rfl fun T kV doc pm an cdv ct us its h1 h2 => match us, its, h1, h2 with | [_, _, _], [_], _, _ => ⟨_, rfl, rfl⟩) fun cdv A outer s H vs Q hr h => need_body (x := "need") h
theorem needD_ok (D : Dfn K mg "need" s_need [.int (-1)] f fd) : Cal P w K mg base 1 "need" [.int (-1)] (pr_need K) :=
  D.calD 0 sc_need (fun vs H Q h => len3 h) (FunD.binds1 D.fn 2 0 (by decide) rfl fun T kV doc pm an cdv ct us its h1 h2 => match us, its, h1, h2 with | [_, _], [_], _, _ => ⟨_, rfl, rfl⟩) fun cdv A outer s H vs Q hr h => need_body (x := "need") h
theorem sc_want : FnScope n_want p_want (defScope s_want) := ⟨rfl, rfl, rfl, by decide +kernel, rfl, by decide +kernel, by decide +kernel⟩
def pr_want (K : PySem.W.Frag) : Pr := pr3 fun a _ _ H Q => a = .bl true ∧ Q .non H
theorem want_body {x : Str} {cdv : Value} {A : Around} {outer : List Env} {s : Shared} {H : Hp} {vs : List V} {Q : VK} (h : pr_want K vs H Q) :
    ∃ t, PSs (cxOf CXn P w K mg base n_want "want" (defScope s_want) f cdv A outer s H En).nox (defBody s_want) t ∧ t { nx := fun _ H' => Q .non H', rt := Q } (start n_want vs) H := by
  obtain ⟨_, _, _, rfl, rfl, q⟩ := inv3 h
  refine ⟨_, pss_one (ps_if (pt_not (pt_val (pv 0))) pss_never pss_nil), ?_⟩
  exact ⟨_, rfl, true, rfl, q⟩
theorem want_ok (D : Dfn K mg "want" s_want [.int (-1)] f fd) : Cal P w K mg base 1 "want" [] (pr_want K) :=
  D.calD 1 sc_want (fun vs H Q h => len3 h) (FunD.binds1 D.fn 3 1 (by decide) rfl fun T kV doc pm an cdv ct us its h1 h2 => match us, its, h1, h2 with | [_, _, _], [_], _, _ => ⟨_, rfl, rfl⟩) fun cdv A outer s H vs Q hr h => want_body (x := "want") h
theorem wantD_ok (D : Dfn K mg "want" s_want [.int (-1)] f fd) : Cal P w K mg base 1 "want" [.int (-1)] (pr_want K) :=
  D.calD 0 sc_want (fun vs H Q h => len3 h) (FunD.binds1 D.fn 2 0 (by decide) rfl fun T kV doc pm an cdv ct us its h1 h2 => match us, its, h1, h2 with | [_, _], [_], _, _ => ⟨_, rfl, rfl⟩) fun cdv A outer s H vs Q hr h => want_body (x := "want") h

def pr_are_two_tuples (K : PySem.W.Frag) : Pr := pr1 fun v H Q => ∃ (hs : List Str) (ws : List (Str × Str)), Is K H v (net hs ws) ∧ hs ≠ [] ∧ Q (.bl true) H
theorem sc_are_two_tuples : FnScope n_are_two_tuples p_are_two_tuples (defScope s_are_two_tuples) := ⟨rfl, rfl, rfl, by decide +kernel, rfl, by decide +kernel, by decide +kernel⟩
theorem are_two_tuples_ok (m : Bt mg) (c_is_pair : Cal P w K mg base 1 "is_pair" [] (pr_is_pair K)) (D : Dfn K mg "are_two_tuples" s_are_two_tuples [] f fd) : Cal P w K mg base 2 "are_two_tuples" [] (pr_are_two_tuples K) := by
  refine D.cal sc_are_two_tuples (fun vs H Q h => len1 h) (fun _ _ _ _ _ _ us hl => match us, hl with | [_], _ => rfl) fun cdv A outer s H vs Q hr h => ?_
  obtain ⟨_, rfl, hs, ws, hn, ne, q⟩ := inv1 h
  have ⟨a, u, v, e, aq, hu, hv⟩ := hn.pair
  subst e
  obtain ⟨ua, us, rfl, uq, uh⟩ := hu.tup
  obtain ⟨va, vs, rfl, vq, vh⟩ := hv.tup
  refine ⟨_, pss_one (ps_ret (pe_and (p_call c_is_pair hr (pa_cons (pv 0) pa_nil)) (pe_and (p_isi m (pa_cons (pe_ix ix_tup (pv 0) pe_int (fun _ _ => rfl)) (pa_cons (pe_ty m.tuple b_tuple) pa_nil)))
    (pe_and (pe_cmpR op_gt (p_len m (pa_cons (pe_ix ix_tup (pv 0) pe_int (fun _ _ => rfl)) pa_nil)) pe_int (nomark _)) (pe_one (p_isi m (pa_cons (pe_ix ix_tup (pv 0) pe_int (fun _ _ => rfl)) (pa_cons (pe_ty m.tuple b_tuple) pa_nil)))))))), ?_⟩
  refine ⟨_, rfl, a, _, _, rfl, aq, true, rfl, ?_⟩
  refine ⟨_, rfl, a, _, 0, _, rfl, rfl, aq, at0, _, _, _, true, rfl, ty_tup uq, by decide +kernel, true, rfl, ?_⟩
  have e : us.length = hs.length := uh.length
  have : hs.length ≠ 0 := fun e => ne (List.length_eq_zero_iff.mp e)
  refine ⟨_, rfl, a, _, 0, _, rfl, rfl, aq, at0, ua, us, rfl, .inr uq, _, 0, rfl, rfl, true, congrArg V.bl (decide_eq_true (by omega)), ?_⟩
  exact ⟨_, rfl, a, _, 1, _, rfl, rfl, aq, at1, _, _, _, true, rfl, ty_tup vq, by decide +kernel, q⟩
end
end K86

end

section
set_option Elab.async false
set_option linter.all false
set_option maxRecDepth 100000
set_option maxHeartbeats 2000000
/-! The walks: what a caller may ask, needs. -/
namespace K86
open PySem PySem.Spec PyProof.Rows L2
open PySem.W (Datum DatumOrd Tup T3 T4 Holds HoldAll)
def oth (hs : List Str) (r : Str) : List Str := hs.filter fun h => decide (h ≠ r)
section
variable {P : Program} {w : World} {K : PySem.W.Frag} {mg : Str → Option Value} {base : Heap} {f : Addr} {fd : FuncData}

def pr_accept_houses (K : PySem.W.Frag) : Pr := pr1 fun v H Q => ∃ hs : List Str, Is K H v (Tup.mk hs) ∧ (∀ x ∈ hs, IsName x) ∧ UpS hs ∧ hs.length ≤ 1000 ∧
  ∀ v' H', Same H H' → (∀ z ∈ hs, Has K H' v' z true) → Q v' H'
theorem sc_accept_houses : FnScope n_accept_houses p_accept_houses (defScope s_accept_houses) := ⟨rfl, rfl, rfl, by decide +kernel, rfl, by decide +kernel, by decide +kernel⟩
theorem accept_houses_ok (m : Bt mg) (c_is_name : Cal P w K mg base 1 "is_name" [] (pr_is_name K)) (c_need : Cal P w K mg base 1 "need" [] (pr_need K)) (D : Dfn K mg "accept_houses" s_accept_houses [] f fd) : Cal P w K mg base 2 "accept_houses" [] (pr_accept_houses K) := by
  refine D.cal sc_accept_houses (fun vs H Q h => len1 h) (fun _ _ _ _ _ _ us hl => match us, hl with | [_], _ => rfl) fun cdv A outer s H vs Q hr h => ?_
  obtain ⟨_, rfl, hs, hx, nm, up, hz, q⟩ := inv1 h
  obtain ⟨a, ws, rfl, aq, hv⟩ := hx.tup
  have hl : ws.length = hs.length := hv.length
  refine ⟨_, pss_cons (ps_set (i := 1) sc_accept_houses.nd rfl (Or.inl rfl) pe_dnewK)
    (pss_cons (ps_for PassesOwn.never rfl (pi_enumT rfl m.enumerate (pa_cons (pv 0) pa_nil)) (pg_tup rfl (pgs_cons (pg_name (i := 2) sc_accept_houses.nd rfl (.inl rfl)) (pgs_cons (pg_name (i := 3) sc_accept_houses.nd rfl (.inl rfl)) pgs_nil)))
      (pss_cons (ps_expr (p_call c_need hr (pa_cons (pe_and (p_call c_is_name hr (pa_cons (pv 3) pa_nil)) (pe_one (pe_or (pe_cmpR op_eq (pv 2) pe_int (nomark _)) (pe_one (pe_cmpR op_gt_str (pv 3) (pe_ix (ix_atT (α := Str)) (pv 0) (pe_op op_sub (pv 2) pe_int) (fun _ _ => rfl)) (nomark _)))))) (pa_cons pe_str (pa_cons (pv 2) pa_nil)))))
        (pss_one (ps_dput hr.u1 (pv 1) (pv 3) pe_bl rfl))))
    (pss_one (ps_ret (pv 1)))), ?_⟩
  intro d hd
  refine ⟨_, rfl, a, ws, rfl, sqT_same (same_new hd) aq, for_it walk_enumT (fun i σ H1 => ∃ o1 o2 kvs, σ = [some (.ref a), some (.ref d), o1, o2] ∧ Same H H1 ∧ H1 d = some (.dK kvs) ∧ kvs.length ≤ i ∧ ∀ z ∈ hs.take i, (valV kvs (Sum.inr z)).isSome = true)
    ⟨none, none, [], rfl, same_new hd, upd_same, Nat.le_refl _, fun z hz => by simp at hz⟩ (fun i σ H1 _ ⟨_, _, _, _, s1, _⟩ => sqT_same s1 aq) ?_ ?_⟩
  · rintro i x σ H1 H2 hi ⟨o1, o2, kvs, rfl, s1, ed, lk, all⟩ ⟨T, x, y, rfl, hT, rfl, hx1, hy1⟩
    obtain rfl : V.int (i : Int) = x := Option.some.inj hx1
    obtain ⟨z, hz1, hz2⟩ := hv.at hy1
    obtain rfl := hz2.str
    have hz1 : hs[i]? = some z := hz1
    refine ⟨T, _, rfl, SqT.of upd_same, rfl, _, _, rfl, _, _, rfl, rfl, ?_⟩
    have sT : Same H1 (upd H1 T (.tup [.int (i : Int), .str z])) := same_new hT
    refine ⟨_, rfl, z, rfl, nm z (List.mem_of_getElem? hz1), fun H3 s3 => ⟨true, rfl, ?_⟩⟩
    refine ⟨_, rfl, rfl, decide (V.int (i : Int) = V.int 0), rfl, ?_⟩
    have s13 := same_tr s1 (same_tr sT s3)
    have e3 : H3 d = some (.dK kvs) := s3 _ _ (sT _ _ ed)
    have done : ∃ o1 o2 kvs', [some (V.ref a), some (.ref d), some (.int (i : Int)), some (.str z)] = [some (V.ref a), some (.ref d), o1, o2] ∧ Same H (upd H3 d (.dK (putK kvs (Sum.inr z) (.bl true)))) ∧ upd H3 d (.dK (putK kvs (Sum.inr z) (.bl true))) d = some (.dK kvs') ∧ kvs'.length ≤ i + 1 ∧ ∀ z ∈ hs.take (i + 1), (valV kvs' (Sum.inr z)).isSome = true := by
      refine ⟨_, _, _, rfl, same_at s13 hd, upd_same, ?_, fun y hy => ?_⟩
      · have := length_putK kvs (Sum.inr z) (.bl true)
        omega
      · rw [valV_put]
        split
        · rfl
        · rename_i ne
          rw [List.take_add_one, hz1] at hy
          rcases List.mem_append.mp hy with hy | hy
          · exact all y hy
          · rw [Option.toList_some, List.mem_singleton] at hy
            exact absurd (by rw [hy]) ne
    by_cases c : i = 0
    · subst c
      exact ⟨_, rfl, rfl, _, rfl, _, rfl, d, _, rfl, DPut.k (k := Sum.inr z) e3 (by rw [sizeLine_eq]; omega), done⟩
    · have e : decide (V.int (i : Int) = V.int 0) = false := decide_eq_false fun e => c (by injection e with e; omega)
      rw [e]
      obtain ⟨y, hy⟩ : ∃ y, hs[i - 1]? = some y := ⟨hs[i - 1], List.getElem?_eq_getElem (by omega)⟩
      refine ⟨_, rfl, _, rfl, _, rfl, _, _, rfl, rfl, Tup.mk hs, i - 1, y, (is_tup aq hv : Is K H (.ref a) (Tup.mk hs)).same s13, congrArg V.int (by omega), hy, fun u hu => ?_⟩
      obtain rfl := hu.str
      refine ⟨z, y, rfl, rfl, ?_⟩
      have lt := upS_next up hy (show hs[i - 1 + 1]? = some z by rw [show i - 1 + 1 = i by omega]; exact hz1)
      exact ⟨_, rfl, congrArg V.bl lt, _, rfl, _, rfl, d, _, rfl, DPut.k (k := Sum.inr z) e3 (by rw [sizeLine_eq]; omega), done⟩
  · rintro σ H1 ⟨o1, o2, kvs, rfl, s1, ed, lk, all⟩
    rw [hl, List.take_length] at all
    exact ⟨_, rfl, q _ H1 s1 fun z hz => .inr ⟨d, kvs, rfl, .inl ed, (all z hz).symm⟩⟩

def pr_lets_net (K : PySem.W.Frag) : Pr := pr1 fun v H Q => ∃ (hs : List Str) (ws : List (Str × Str)), Is K H v (net hs ws) ∧ NetOk hs ws ∧ ∀ v' H', Same H H' → Q v' H'
theorem sc_lets_net : FnScope n_lets_net p_lets_net (defScope s_lets_net) := ⟨rfl, rfl, rfl, by decide +kernel, rfl, by decide +kernel, by decide +kernel⟩
theorem lets_net_ok (m : Bt mg) (c_needD : Cal P w K mg base 1 "need" [.int (-1)] (pr_need K)) (c_need : Cal P w K mg base 1 "need" [] (pr_need K)) (c_are_two_tuples : Cal P w K mg base 2 "are_two_tuples" [] (pr_are_two_tuples K)) (c_accept_houses : Cal P w K mg base 2 "accept_houses" [] (pr_accept_houses K)) (c_is_wire_of : Cal P w K mg base 2 "is_wire_of" [] (pr_is_wire_of K)) (D : Dfn K mg "lets_net" s_lets_net [] f fd) : Cal P w K mg base 3 "lets_net" [] (pr_lets_net K) := by
  refine D.cal sc_lets_net (fun vs H Q h => len1 h) (fun _ _ _ _ _ _ us hl => match us, hl with | [_], _ => rfl) fun cdv A outer s H vs Q hr h => ?_
  obtain ⟨_, rfl, hs, ws, hn, ok, q⟩ := inv1 h
  have ⟨a, u, v, e, aq, hu, hv⟩ := hn.pair
  subst e
  obtain ⟨va, vs, rfl, vq, vh⟩ := hv.tup
  have hl : vs.length = ws.length := vh.length
  refine ⟨_, pss_cons (ps_expr (p_call c_needD hr (pa_cons (p_call c_are_two_tuples hr (pa_cons (pv 0) pa_nil)) (pa_cons pe_str pa_nil))))
    (pss_cons (ps_asg (pv 0) (pg_tup rfl (pgs_cons (pg_name (i := 1) sc_lets_net.nd rfl (.inl rfl)) (pgs_cons (pg_name (i := 2) sc_lets_net.nd rfl (.inl rfl)) pgs_nil))))
    (pss_cons (ps_set (i := 3) sc_lets_net.nd rfl (Or.inl rfl) (p_call c_accept_houses hr (pa_cons (pv 1) pa_nil)))
    (pss_cons (ps_for PassesOwn.never rfl (pi_enumT rfl m.enumerate (pa_cons (pv 2) pa_nil)) (pg_tup rfl (pgs_cons (pg_name (i := 4) sc_lets_net.nd rfl (.inl rfl)) (pgs_cons (pg_name (i := 5) sc_lets_net.nd rfl (.inl rfl)) pgs_nil)))
      (pss_cons (ps_expr (p_call c_need hr (pa_cons (p_call c_is_wire_of hr (pa_cons (pv 3) (pa_cons (pv 5) pa_nil))) (pa_cons pe_str (pa_cons (pv 4) pa_nil)))))
      (pss_one (ps_expr (p_call c_need hr (pa_cons (pe_or (pe_cmpR op_eq (pv 4) pe_int (nomark _)) (pe_one (pe_cmpR (op_geT' (α := Str × Str) hr.u) (pv 5) (pe_ix (ix_atT (α := Str × Str)) (pv 2) (pe_op op_sub (pv 4) pe_int) (fun _ _ => rfl)) (nomark _)))) (pa_cons pe_str (pa_cons (pv 4) pa_nil))))))))
    (pss_one (ps_ret (p_len m (pa_cons (pv 2) pa_nil))))))), ?_⟩
  refine ⟨_, rfl, hs, ws, hn, ok.ne, rfl, ?_⟩
  refine ⟨_, rfl, a, _, rfl, aq, rfl, _, _, rfl, _, _, rfl, rfl, ?_⟩
  have f4 := ok.fewH
  have fw := ok.fewW
  refine ⟨_, rfl, hs, hu, ok.nm, ok.up, by omega, fun kn H1 s1 has => ?_⟩
  refine ⟨_, rfl, va, vs, rfl, sqT_same s1 vq, for_it walk_enumT (fun i σ H2 => ∃ o1 o2, σ = [some (.ref a), some u, some (.ref va), some kn, o1, o2] ∧ Same H1 H2) ⟨none, none, rfl, same_refl _⟩ (fun i σ H2 _ ⟨_, _, _, s2⟩ => sqT_same (same_tr s1 s2) vq) ?_ ?_⟩
  · rintro i x σ H2 H3 hi ⟨o1, o2, rfl, s2⟩ ⟨T, x, y, rfl, hT, rfl, hx1, hy1⟩
    obtain rfl : V.int (i : Int) = x := Option.some.inj hx1
    obtain ⟨wr, hw1, hw2⟩ := vh.at hy1
    have hw1 : ws[i]? = some wr := hw1
    have hm := ok.ends wr (List.mem_of_getElem? hw1)
    refine ⟨T, _, rfl, SqT.of upd_same, rfl, _, _, rfl, _, _, rfl, rfl, ?_⟩
    have sT : Same H2 (upd H2 T (.tup [.int (i : Int), y])) := same_new hT
    have s12 := same_tr s2 sT
    refine ⟨_, rfl, _, rfl, wr, (hw2.same s1).same s12, ok.nm _ hm.1, ok.nm _ hm.2.1, (has _ hm.1).same s12, (has _ hm.2.1).same s12, hm.2.2, fun H4 s4 => ⟨_, rfl, rfl, ?_⟩⟩
    refine ⟨_, rfl, rfl, decide (V.int (i : Int) = V.int 0), rfl, ?_⟩
    have s14 := same_tr s12 s4
    by_cases c : i = 0
    · subst c
      exact ⟨_, rfl, rfl, _, _, rfl, s14⟩
    · have e : decide (V.int (i : Int) = V.int 0) = false := decide_eq_false fun e => c (by injection e with e; omega)
      rw [e]
      obtain ⟨y2, hy2⟩ : ∃ y, ws[i - 1]? = some y := ⟨ws[i - 1], List.getElem?_eq_getElem (by omega)⟩
      have i2 : Is K H (.ref va) (Tup.mk ws) := is_tup vq vh
      refine ⟨_, rfl, _, rfl, _, rfl, _, _, rfl, rfl, Tup.mk ws, i - 1, y2, (i2.same s1).same s14, congrArg V.int (by omega), hy2, fun u2 hu2 => ?_⟩
      refine ⟨wr, y2, (hw2.same s1).same s14, hu2, ?_⟩
      have le := up_next ok.upW hy2 (show ws[i - 1 + 1]? = some wr by rw [show i - 1 + 1 = i by omega]; exact hw1)
      exact ⟨_, rfl, congrArg (fun b => V.bl !b) le, _, _, rfl, s14⟩
  · rintro σ H2 ⟨o1, o2, rfl, s2⟩
    exact ⟨_, rfl, va, vs, rfl, .inr (sqT_same (same_tr s1 s2) vq), q _ _ (same_tr s1 s2)⟩

def pr_want_net (K : PySem.W.Frag) : Pr := pr1 fun v H Q => ∃ (hs : List Str) (ws : List (Str × Str)), Is K H v (net hs ws) ∧ NetOk hs ws ∧ ∀ v' H', Same H H' → Q v' H'
theorem sc_want_net : FnScope n_want_net p_want_net (defScope s_want_net) := ⟨rfl, rfl, rfl, by decide +kernel, rfl, by decide +kernel, by decide +kernel⟩
theorem want_net_ok (m : Bt mg) (c_lets_net : Cal P w K mg base 3 "lets_net" [] (pr_lets_net K)) (D : Dfn K mg "want_net" s_want_net [] f fd) : Cal P w K mg base 4 "want_net" [] (pr_want_net K) := by
  refine D.cal sc_want_net (fun vs H Q h => len1 h) (fun _ _ _ _ _ _ us hl => match us, hl with | [_], _ => rfl) fun cdv A outer s H vs Q hr h => ?_
  obtain ⟨_, rfl, hs, ws, hn, ok, q⟩ := inv1 h
  refine ⟨_, pss_one (ps_try_thru0 (pss_one (ps_expr (p_call c_lets_net hr (pa_cons (pv 0) pa_nil))))), ?_⟩
  exact ⟨_, rfl, hs, ws, hn, ok, fun v' H' s' => q _ _ s'⟩

theorem sc_want_house : FnScope n_want_house p_want_house (defScope s_want_house) := ⟨rfl, rfl, rfl, by decide +kernel, rfl, by decide +kernel, by decide +kernel⟩
def pr_want_house (K : PySem.W.Frag) : Pr := pr3 fun v x _ H Q => ∃ (hs : List Str) (ws : List (Str × Str)) (z : Str), Is K H v (net hs ws) ∧ x = .str z ∧ IsName z ∧ z ∈ hs ∧ ∀ v' H', Same H H' → Q v' H'
theorem want_house_ok (m : Bt mg) (c_want : Cal P w K mg base 1 "want" [] (pr_want K)) (c_is_name : Cal P w K mg base 1 "is_name" [] (pr_is_name K)) (D : Dfn K mg "want_house" s_want_house [.str "house"] f fd) : Cal P w K mg base 2 "want_house" [] (pr_want_house K) := by
  refine D.calD 1 sc_want_house (fun vs H Q h => len3 h) (FunD.binds1 D.fn 3 1 (by decide) rfl fun T kV doc pm an cdv ct us its h1 h2 => match us, its, h1, h2 with | [_, _, _], [_], _, _ => ⟨_, rfl, rfl⟩) fun cdv A outer s H vs Q hr h => ?_
  obtain ⟨_, _, _, rfl, hs, ws, z, hn, rfl, nm, hm, q⟩ := inv3 h
  refine ⟨_, pss_one (ps_expr (p_call c_want hr (pa_cons (pe_and (p_call c_is_name hr (pa_cons (pv 1) pa_nil)) (pe_one (pe_cmpR (op_mem hr.u) (pv 1) (pe_ix (r := rFst K (Tup Str) (Tup (Str × Str))) ix_fst (pv 0) pe_int (fun _ _ => rfl)) rfl))) (pa_cons (pv 2) (pa_cons (pv 1) pa_nil))))), ?_⟩
  refine ⟨_, rfl, z, rfl, nm, fun H1 s1 => ⟨true, rfl, ?_⟩⟩
  refine ⟨_, rfl, _, rfl, _, hn.same s1, rfl, fun u hu => ?_⟩
  refine ⟨z, true, rfl, .inl ⟨_, hu, (decide_eq_true hm).symm⟩, ?_⟩
  exact ⟨_, rfl, _, rfl, rfl, q _ _ s1⟩

def pr_want_root (K : PySem.W.Frag) : Pr := pr2 fun v x H Q => ∃ (hs : List Str) (ws : List (Str × Str)) (z : Str), Is K H v (net hs ws) ∧ NetOk hs ws ∧ x = .str z ∧ z ∈ hs ∧ ∀ v' H', Same H H' → Q v' H'
theorem sc_want_root : FnScope n_want_root p_want_root (defScope s_want_root) := ⟨rfl, rfl, rfl, by decide +kernel, rfl, by decide +kernel, by decide +kernel⟩
theorem want_root_ok (m : Bt mg) (c_want_net : Cal P w K mg base 4 "want_net" [] (pr_want_net K)) (c_want_house : Cal P w K mg base 2 "want_house" [] (pr_want_house K)) (D : Dfn K mg "want_root" s_want_root [] f fd) : Cal P w K mg base 5 "want_root" [] (pr_want_root K) := by
  refine D.cal sc_want_root (fun vs H Q h => len2 h) (fun _ _ _ _ _ _ us hl => match us, hl with | [_, _], _ => rfl) fun cdv A outer s H vs Q hr h => ?_
  obtain ⟨_, _, rfl, hs, ws, z, hn, ok, rfl, hm, q⟩ := inv2 h
  refine ⟨_, pss_cons (ps_expr (p_call c_want_net hr (pa_cons (pv 0) pa_nil))) (pss_one (ps_expr (p_call c_want_house hr (pa_cons (pv 0) (pa_cons (pv 1) (pa_cons pe_str pa_nil)))))), ?_⟩
  refine ⟨_, rfl, hs, ws, hn, ok, fun _ H1 s1 => ?_⟩
  exact ⟨_, rfl, _, rfl, hs, ws, z, hn.same s1, rfl, ok.nm z hm, hm, fun _ H2 s2 => q _ _ (same_tr s1 s2)⟩

def pr_want_index (K : PySem.W.Frag) : Pr := pr2 fun v x H Q => ∃ (hs : List Str) (ws : List (Str × Str)) (i : Nat), Is K H v (net hs ws) ∧ x = .int (i : Int) ∧ i < ws.length ∧ ∀ v', Q v' H
theorem sc_want_index : FnScope n_want_index p_want_index (defScope s_want_index) := ⟨rfl, rfl, rfl, by decide +kernel, rfl, by decide +kernel, by decide +kernel⟩
theorem want_index_ok (m : Bt mg) (c_want : Cal P w K mg base 1 "want" [] (pr_want K)) (c_is_number : Cal P w K mg base 2 "is_number" [] (pr_is_number K)) (D : Dfn K mg "want_index" s_want_index [] f fd) : Cal P w K mg base 3 "want_index" [] (pr_want_index K) := by
  refine D.cal sc_want_index (fun vs H Q h => len2 h) (fun _ _ _ _ _ _ us hl => match us, hl with | [_, _], _ => rfl) fun cdv A outer s H vs Q hr h => ?_
  obtain ⟨_, _, rfl, hs, ws, i, hn, rfl, hi, q⟩ := inv2 h
  refine ⟨_, pss_one (ps_expr (p_call c_want hr (pa_cons (pe_and (p_call c_is_number hr (pa_cons (pv 1) pa_nil)) (pe_one (pe_cmpR op_lt (pv 1) (p_len m (pa_cons (pe_ix (r := rSnd K (Tup Str) (Tup (Str × Str))) ix_snd (pv 0) pe_int (fun _ _ => rfl)) pa_nil)) (nomark _)))) (pa_cons pe_str (pa_cons (pv 1) pa_nil))))), ?_⟩
  refine ⟨_, rfl, (i : Int), rfl, true, congrArg V.bl (decide_eq_true (by omega)), ?_⟩
  refine ⟨_, rfl, _, rfl, _, hn, rfl, fun u hu => ?_⟩
  obtain ⟨b, us, rfl, bq, bh⟩ := hu.tup
  have hl : us.length = ws.length := bh.length
  refine ⟨b, us, rfl, .inr bq, _, _, rfl, rfl, ?_⟩
  exact ⟨_, rfl, congrArg V.bl (decide_eq_true (by omega)), q _⟩

def pr_want_wire (K : PySem.W.Frag) : Pr := pr2 fun v x H Q => ∃ (hs : List Str) (ws : List (Str × Str)) (wr : Str × Str), Is K H v (net hs ws) ∧ NetOk hs ws ∧ Is K H x wr ∧ wr.1 ∈ hs ∧ wr.2 ∈ hs ∧ wr.1 ≠ wr.2 ∧ ∀ v' H', Same H H' → Q v' H'
theorem sc_want_wire : FnScope n_want_wire p_want_wire (defScope s_want_wire) := ⟨rfl, rfl, rfl, by decide +kernel, rfl, by decide +kernel, by decide +kernel⟩
theorem want_wire_ok (m : Bt mg) (c_wantD : Cal P w K mg base 1 "want" [.int (-1)] (pr_want K)) (c_is_wire_of : Cal P w K mg base 2 "is_wire_of" [] (pr_is_wire_of K)) (D : Dfn K mg "want_wire" s_want_wire [] f fd) : Cal P w K mg base 3 "want_wire" [] (pr_want_wire K) := by
  refine D.cal sc_want_wire (fun vs H Q h => len2 h) (fun _ _ _ _ _ _ us hl => match us, hl with | [_, _], _ => rfl) fun cdv A outer s H vs Q hr h => ?_
  obtain ⟨_, _, rfl, hs, ws, wr, hn, ok, hw, h1, h2, ne, q⟩ := inv2 h
  refine ⟨_, pss_one (ps_expr (p_call c_wantD hr (pa_cons (p_call c_is_wire_of hr (pa_cons (pe_ix (r := rFst K (Tup Str) (Tup (Str × Str))) ix_fst (pv 0) pe_int (fun _ _ => rfl)) (pa_cons (pv 1) pa_nil))) (pa_cons pe_str pa_nil)))), ?_⟩
  refine ⟨_, rfl, _, hn, rfl, fun u hu => ?_⟩
  refine ⟨_, rfl, wr, hw, ok.nm _ h1, ok.nm _ h2, .inl ⟨_, hu, (decide_eq_true h1).symm⟩, .inl ⟨_, hu, (decide_eq_true h2).symm⟩, ne, fun H1 s1 => ?_⟩
  exact ⟨rfl, q _ _ s1⟩
end
end K86

end

section
set_option Elab.async false
set_option linter.all false
set_option maxRecDepth 100000
set_option maxHeartbeats 2000000
/-! The walks: others, needs, trees wanted. -/
namespace K86
open PySem PySem.Spec PyProof.Rows L2
open PySem.W (Datum DatumOrd Tup T3 T4 Holds HoldAll)
section
variable {P : Program} {w : World} {K : PySem.W.Frag} {mg : Str → Option Value} {base : Heap} {f : Addr} {fd : FuncData}

def pr_others_of (K : PySem.W.Frag) : Pr := pr2 fun n x H Q => ∃ (hs : List Str) (ws : List (Str × Str)) (r : Str), Is K H n (net hs ws) ∧ x = .str r ∧ hs.length ≤ 1000 ∧ ∀ v H', Same H H' → Is K H' v (Tup.mk (oth hs r)) → Q v H'
theorem sc_others_of : FnScope n_others_of p_others_of (defScope s_others_of) := ⟨rfl, rfl, rfl, by decide +kernel, rfl, by decide +kernel, by decide +kernel⟩
theorem others_of_ok (m : Bt mg)  (D : Dfn K mg "others_of" s_others_of [] f fd) : Cal P w K mg base 1 "others_of" [] (pr_others_of K) := by
  refine D.cal sc_others_of (fun vs H Q h => len2 h) (fun _ _ _ _ _ _ us hl => match us, hl with | [_, _], _ => rfl) fun cdv A outer s H vs Q hr h => ?_
  obtain ⟨_, _, rfl, hs, ws, r, hn, rfl, hz, q⟩ := inv2 h
  refine ⟨_, pss_one (ps_ret (p_tuple m call_tuple_of (pa_cons (pe_lc (own := [("house", 2)]) (g := gName 2) rfl sc_others_of.nd (pi_tup (pe_ix (r := rFst K (Tup Str) (Tup (Str × Str))) ix_fst (pv 0) pe_int (fun _ _ => rfl))) (blkOk_by (N := n_others_of) (sc := defScope s_others_of) (by decide +kernel)) (fun _ _ _ _ _ => (pg_name (i := 2) sc_others_of.nd rfl (.inl rfl)))
    (fun _ _ _ _ _ => pts_one (pt_cmpR op_ne (pv 2) (pv 1) (nomark _))) (fun _ _ _ _ _ => pv 2)) pa_nil))), ?_⟩
  refine ⟨_, rfl, _, hn, rfl, fun u hu => ?_⟩
  obtain ⟨a, us, rfl, aq, ah⟩ := hu.tup
  have hl : us.length = hs.length := ah.length
  refine ⟨a, rfl, ⟨us, aq⟩, fun D hD => lc_data (K := K) walk_tup (fun (i : Nat) => (hs[i]?.filter fun h => decide (h ≠ r)).map id) hD (by omega) (fun H1 s1 => sqT_same s1 aq) ?_ ?_⟩
  · rintro i v H1 H2 Ky Kn hi s1 ⟨rfl, hvi⟩ k1 k2
    obtain ⟨x, hx1, hx2⟩ := ah.at hvi
    obtain rfl := hx2.str
    have hx1 : hs[i]? = some x := hx1
    refine ⟨rfl, _, rfl, _, rfl, rfl, _, rfl, ?_⟩
    by_cases c : x = r
    · rw [show decide (V.str x = V.str r) = true from decide_eq_true (by rw [c])]
      exact k2 _ (same_refl _) (by rw [hx1]; simp [Option.filter, c])
    · rw [show decide (V.str x = V.str r) = false from decide_eq_false fun e => c (by injection e)]
      exact ⟨_, rfl, k1 _ x _ (same_refl _) (by rw [hx1]; simp [Option.filter, c]) (is_str x)⟩
  · intro H1 ys s1 e1 hy
    rw [hl, fm_filter, List.map_id] at hy
    exact ⟨D, ys, rfl, .inl ⟨SqL.of e1, fun p hp => q _ _ (same_tr s1 (same_new hp)) (is_tup (SqT.of upd_same) (hy.same (same_new hp)))⟩⟩

def pr_L_others (K : PySem.W.Frag) : Pr := pr2 fun n x H Q => ∃ (hs : List Str) (ws : List (Str × Str)) (r : Str), Is K H n (net hs ws) ∧ x = .str r ∧ hs.length ≤ 1000 ∧ ∀ v H', Same H H' → Is K H' v (oth hs r) → Q v H'
theorem sc_L_others : FnScope n_L_others p_L_others (defScope s_L_others) := ⟨rfl, rfl, rfl, by decide +kernel, rfl, by decide +kernel, by decide +kernel⟩
theorem L_others_ok (m : Bt mg)  (D : Dfn K mg "_law_others" s_L_others [] f fd) : Cal P w K mg base 1 "_law_others" [] (pr_L_others K) := by
  refine D.cal sc_L_others (fun vs H Q h => len2 h) (fun _ _ _ _ _ _ us hl => match us, hl with | [_, _], _ => rfl) fun cdv A outer s H vs Q hr h => ?_
  obtain ⟨_, _, rfl, hs, ws, r, hn, rfl, hz, q⟩ := inv2 h
  refine ⟨_, pss_one (ps_ret (pe_lc (own := [("_law_house", 2)]) (g := gName 2) rfl sc_L_others.nd (pi_tup (pe_ix (r := rFst K (Tup Str) (Tup (Str × Str))) ix_fst (pv 0) pe_int (fun _ _ => rfl))) (blkOk_by (N := n_L_others) (sc := defScope s_L_others) (by decide +kernel)) (fun _ _ _ _ _ => (pg_name (i := 2) sc_L_others.nd rfl (.inl rfl)))
    (fun _ _ _ _ _ => pts_one (pt_cmpR op_ne (pv 2) (pv 1) (nomark _))) (fun _ _ _ _ _ => pv 2))), ?_⟩
  refine ⟨_, rfl, _, hn, rfl, fun u hu => ?_⟩
  obtain ⟨a, us, rfl, aq, ah⟩ := hu.tup
  have hl : us.length = hs.length := ah.length
  refine ⟨a, rfl, ⟨us, aq⟩, fun D hD => lc_data (K := K) walk_tup (fun (i : Nat) => (hs[i]?.filter fun h => decide (h ≠ r)).map id) hD (by omega) (fun H1 s1 => sqT_same s1 aq) ?_ ?_⟩
  · rintro i v H1 H2 Ky Kn hi s1 ⟨rfl, hvi⟩ k1 k2
    obtain ⟨x, hx1, hx2⟩ := ah.at hvi
    obtain rfl := hx2.str
    have hx1 : hs[i]? = some x := hx1
    refine ⟨rfl, _, rfl, _, rfl, rfl, _, rfl, ?_⟩
    by_cases c : x = r
    · rw [show decide (V.str x = V.str r) = true from decide_eq_true (by rw [c])]
      exact k2 _ (same_refl _) (by rw [hx1]; simp [Option.filter, c])
    · rw [show decide (V.str x = V.str r) = false from decide_eq_false fun e => c (by injection e)]
      exact ⟨_, rfl, k1 _ x _ (same_refl _) (by rw [hx1]; simp [Option.filter, c]) (is_str x)⟩
  · intro H1 ys s1 e1 hy
    rw [hl, fm_filter, List.map_id] at hy
    exact q _ _ s1 (is_lst (SqL.of e1) hy)

def pr_does_enter (K : PySem.W.Frag) : Pr := pr2 fun a b H Q => ∃ (wr : Str × Str) (lot : List Str), Is K H a wr ∧ Is K H b (Tup.mk lot) ∧ Q (.bl (K86M.enters (K86M.isIn lot) wr)) H
theorem sc_does_enter : FnScope n_does_enter p_does_enter (defScope s_does_enter) := ⟨rfl, rfl, rfl, by decide +kernel, rfl, by decide +kernel, by decide +kernel⟩
theorem does_enter_ok (m : Bt mg)  (D : Dfn K mg "does_enter" s_does_enter [] f fd) : Cal P w K mg base 1 "does_enter" [] (pr_does_enter K) := by
  refine D.cal sc_does_enter (fun vs H Q h => len2 h) (fun _ _ _ _ _ _ us hl => match us, hl with | [_, _], _ => rfl) fun cdv A outer s H vs Q hr h => ?_
  obtain ⟨_, _, rfl, wr, lot, ha, hb, q⟩ := inv2 h
  refine ⟨_, pss_one (ps_ret (pe_and (pe_cmpR (op_mem hr.u) (pe_ix (r := rSnd K Str Str) ix_snd (pv 0) pe_int (fun _ _ => rfl)) (pv 1) rfl) (pe_one (pe_cmpR (op_nmem hr.u) (pe_ix (r := rFst K Str Str) ix_fst (pv 0) pe_int (fun _ _ => rfl)) (pv 1) rfl)))), ?_⟩
  refine ⟨_, rfl, wr, ha, rfl, fun u hu => ?_⟩
  obtain rfl := hu.str
  have has : ∀ z, Has K H _ z (K86M.isIn lot z) := fun z => .inl ⟨_, hb, rfl⟩
  refine ⟨_, rfl, _, _, rfl, has _, _, rfl, ?_⟩
  unfold K86M.enters at q
  cases c : K86M.isIn lot wr.2 with
  | false => rw [c] at q; exact q
  | true =>
    rw [c] at q
    refine ⟨_, rfl, wr, ha, rfl, fun u hu => ?_⟩
    obtain rfl := hu.str
    exact ⟨_, rfl, _, _, rfl, has _, q⟩

abbrev need4 (a b c d : Int) : Tup Int := Tup.mk [a, b, c, d]
def pr_size_in (K : PySem.W.Frag) : Pr := pr1 fun v H Q => ∃ a b c d : Int, Is K H v (need4 a b c d) ∧ Q (.int (a + d)) H
theorem sc_size_in : FnScope n_size_in p_size_in (defScope s_size_in) := ⟨rfl, rfl, rfl, by decide +kernel, rfl, by decide +kernel, by decide +kernel⟩
theorem size_in_ok (m : Bt mg)  (D : Dfn K mg "size_in" s_size_in [] f fd) : Cal P w K mg base 1 "size_in" [] (pr_size_in K) := by
  refine D.cal sc_size_in (fun vs H Q h => len1 h) (fun _ _ _ _ _ _ us hl => match us, hl with | [_], _ => rfl) fun cdv A outer s H vs Q hr h => ?_
  obtain ⟨_, rfl, a, b, c, d, hn, q⟩ := inv1 h
  refine ⟨_, pss_one (ps_ret (pe_op op_add (pe_ix (ix_atT (α := Int)) (pv 0) pe_int (fun _ _ => rfl)) (pe_ix (ix_atT (α := Int)) (pv 0) pe_int (fun _ _ => rfl)))), ?_⟩
  refine ⟨_, rfl, _, 0, a, hn, rfl, rfl, fun u hu => ?_⟩
  refine ⟨_, rfl, _, 3, d, hn, rfl, rfl, fun v hv => ?_⟩
  exact ⟨a, d, hu.int, hv.int, q⟩
def pr_slack_in (K : PySem.W.Frag) : Pr := pr1 fun v H Q => ∃ a b c d : Int, Is K H v (need4 a b c d) ∧ Q (.int (c + 2 * b)) H
theorem sc_slack_in : FnScope n_slack_in p_slack_in (defScope s_slack_in) := ⟨rfl, rfl, rfl, by decide +kernel, rfl, by decide +kernel, by decide +kernel⟩
theorem slack_in_ok (m : Bt mg)  (D : Dfn K mg "slack_in" s_slack_in [] f fd) : Cal P w K mg base 1 "slack_in" [] (pr_slack_in K) := by
  refine D.cal sc_slack_in (fun vs H Q h => len1 h) (fun _ _ _ _ _ _ us hl => match us, hl with | [_], _ => rfl) fun cdv A outer s H vs Q hr h => ?_
  obtain ⟨_, rfl, a, b, c, d, hn, q⟩ := inv1 h
  refine ⟨_, pss_one (ps_ret (pe_op op_add (pe_ix (ix_atT (α := Int)) (pv 0) pe_int (fun _ _ => rfl)) (pe_op op_mul pe_int (pe_ix (ix_atT (α := Int)) (pv 0) pe_int (fun _ _ => rfl))))), ?_⟩
  refine ⟨_, rfl, _, 2, c, hn, rfl, rfl, fun u hu => ?_⟩
  refine ⟨_, rfl, _, 1, b, hn, rfl, rfl, fun v hv => ?_⟩
  exact ⟨2, b, rfl, hv.int, .inl ⟨by decide, by decide⟩, c, 2 * b, hu.int, rfl, q⟩
def pr_want_in (K : PySem.W.Frag) : Pr := pr1 fun v H Q => ∃ a b c d : Int, Is K H v (need4 a b c d) ∧ Q (.int (a + d + (c + 2 * b))) H
theorem sc_want_in : FnScope n_want_in p_want_in (defScope s_want_in) := ⟨rfl, rfl, rfl, by decide +kernel, rfl, by decide +kernel, by decide +kernel⟩
theorem want_in_ok (m : Bt mg) (c_size_in : Cal P w K mg base 1 "size_in" [] (pr_size_in K)) (c_slack_in : Cal P w K mg base 1 "slack_in" [] (pr_slack_in K)) (D : Dfn K mg "want_in" s_want_in [] f fd) : Cal P w K mg base 2 "want_in" [] (pr_want_in K) := by
  refine D.cal sc_want_in (fun vs H Q h => len1 h) (fun _ _ _ _ _ _ us hl => match us, hl with | [_], _ => rfl) fun cdv A outer s H vs Q hr h => ?_
  obtain ⟨_, rfl, a, b, c, d, hn, q⟩ := inv1 h
  refine ⟨_, pss_one (ps_ret (pe_op op_add (p_call c_size_in hr (pa_cons (pv 0) pa_nil)) (p_call c_slack_in hr (pa_cons (pv 0) pa_nil)))), ?_⟩
  refine ⟨_, rfl, a, b, c, d, hn, ?_⟩
  refine ⟨_, rfl, a, b, c, d, hn, ?_⟩
  exact ⟨_, _, rfl, rfl, q⟩
def pr_L_want (K : PySem.W.Frag) : Pr := pr1 fun v H Q => ∃ a b c d : Int, Is K H v (need4 a b c d) ∧ Q (.int (a + d + c + 2 * b)) H
theorem sc_L_want : FnScope n_L_want p_L_want (defScope s_L_want) := ⟨rfl, rfl, rfl, by decide +kernel, rfl, by decide +kernel, by decide +kernel⟩
theorem L_want_ok (m : Bt mg)  (D : Dfn K mg "_law_want" s_L_want [] f fd) : Cal P w K mg base 1 "_law_want" [] (pr_L_want K) := by
  refine D.cal sc_L_want (fun vs H Q h => len1 h) (fun _ _ _ _ _ _ us hl => match us, hl with | [_], _ => rfl) fun cdv A outer s H vs Q hr h => ?_
  obtain ⟨_, rfl, a, b, c, d, hn, q⟩ := inv1 h
  refine ⟨_, pss_one (ps_ret (pe_op op_add (pe_op op_add (pe_op op_add (pe_ix (ix_atT (α := Int)) (pv 0) pe_int (fun _ _ => rfl)) (pe_ix (ix_atT (α := Int)) (pv 0) pe_int (fun _ _ => rfl))) (pe_ix (ix_atT (α := Int)) (pv 0) pe_int (fun _ _ => rfl))) (pe_op op_mul pe_int (pe_ix (ix_atT (α := Int)) (pv 0) pe_int (fun _ _ => rfl))))), ?_⟩
  refine ⟨_, rfl, _, 0, a, hn, rfl, rfl, fun u hu => ?_⟩
  refine ⟨_, rfl, _, 3, d, hn, rfl, rfl, fun v hv => ⟨a, d, hu.int, hv.int, ?_⟩⟩
  refine ⟨_, rfl, _, 2, c, hn, rfl, rfl, fun z hz => ⟨a + d, c, rfl, hz.int, ?_⟩⟩
  refine ⟨_, rfl, _, 1, b, hn, rfl, rfl, fun y hy => ?_⟩
  exact ⟨2, b, rfl, hy.int, .inl ⟨by decide, by decide⟩, a + d + c, 2 * b, rfl, rfl, q⟩

def pr_need_fault (K : PySem.W.Frag) : Pr := pr1 fun v H Q => ∃ a b c d : Int, Is K H v (need4 a b c d) ∧ 0 < a ∧ 0 ≤ b ∧ 0 ≤ c ∧ 0 ≤ d ∧ ∀ H', Same H H' → Q .non H'
theorem sc_need_fault : FnScope n_need_fault p_need_fault (defScope s_need_fault) := ⟨rfl, rfl, rfl, by decide +kernel, rfl, by decide +kernel, by decide +kernel⟩
theorem need_fault_ok (m : Bt mg) (c_is_number : Cal P w K mg base 2 "is_number" [] (pr_is_number K)) (D : Dfn K mg "need_fault" s_need_fault [] f fd) : Cal P w K mg base 3 "need_fault" [] (pr_need_fault K) := by
  refine D.cal sc_need_fault (fun vs H Q h => len1 h) (fun _ _ _ _ _ _ us hl => match us, hl with | [_], _ => rfl) fun cdv A outer s H vs Q hr h => ?_
  obtain ⟨_, rfl, a, b, c, d, hn, pa, pb, pc, pd, q⟩ := inv1 h
  obtain ⟨t, ts, rfl, tq, th⟩ := hn.tup
  have hl : ts.length = 4 := th.length
  refine ⟨_, pss_cons (ps_if (pw_or (pt_not (pt_val (p_isi m (pa_cons (pv 0) (pa_cons (pe_ty m.tuple b_tuple) pa_nil))))) (pw_or1 (pt_cmpR op_ne (p_len m (pa_cons (pv 0) pa_nil)) pe_int (nomark _)))).pt pss_never pss_nil)
    (pss_cons (ps_for PassesOwn.never rfl (pi_enumT rfl m.enumerate (pa_cons (pv 0) pa_nil)) (pg_tup rfl (pgs_cons (pg_name (i := 1) sc_need_fault.nd rfl (.inl rfl)) (pgs_cons (pg_name (i := 2) sc_need_fault.nd rfl (.inl rfl)) pgs_nil)))
      (pss_one (ps_if (pw_or (pt_not (pt_val (p_call c_is_number hr (pa_cons (pv 2) pa_nil)))) (pw_or1 (PW.pt (pw_and (pt_cmpR op_eq (pv 1) pe_int (nomark _)) (pw_and1 (pt_cmpR op_eq (pv 2) pe_int (nomark _))))))).pt pss_never pss_nil)))
    (pss_one (ps_ret pe_non))), ?_⟩
  refine ⟨_, rfl, _, _, _, true, rfl, ty_tup tq, by decide +kernel, true, rfl, ?_⟩
  refine ⟨_, rfl, t, ts, rfl, .inr tq, rfl, false, ?_, ?_⟩
  · rw [hl]
    rfl
  refine ⟨_, rfl, t, ts, rfl, tq, for_it walk_enumT (fun i σ H1 => ∃ o1 o2, σ = [some (.ref t), o1, o2] ∧ Same H H1) ⟨none, none, rfl, same_refl _⟩ (fun i σ H1 _ ⟨_, _, _, s1⟩ => sqT_same s1 tq) ?_ ?_⟩
  · rintro i x σ H1 H2 hi ⟨o1, o2, rfl, s1⟩ ⟨T, x', y, rfl, hT, rfl, hx1, hy1⟩
    obtain rfl : V.int (i : Int) = x' := Option.some.inj hx1
    obtain ⟨z, hz1, hz2⟩ := th.at hy1
    obtain rfl := hz2.int
    have hz1 : [a, b, c, d][i]? = some z := hz1
    have hz0 : 0 ≤ z ∧ (i = 0 → z ≠ 0) := by
      match i, hz1 with
      | 0, e => simp at e; subst e; exact ⟨by omega, fun _ => by omega⟩
      | 1, e => simp at e; subst e; exact ⟨pb, fun e => by cases e⟩
      | 2, e => simp at e; subst e; exact ⟨pc, fun e => by cases e⟩
      | 3, e => simp at e; subst e; exact ⟨pd, fun e => by cases e⟩
      | i + 4, e => simp at e
    refine ⟨T, _, rfl, SqT.of upd_same, rfl, _, _, rfl, _, _, rfl, rfl, ?_⟩
    have s2 := same_tr s1 (same_new (o := .tup [.int (i : Int), .int z]) hT)
    refine ⟨_, rfl, z, rfl, true, congrArg V.bl (decide_eq_true hz0.1), ?_⟩
    refine ⟨_, rfl, rfl, _, rfl, ?_⟩
    by_cases c : i = 0
    · subst c
      refine ⟨_, rfl, rfl, false, congrArg V.bl (decide_eq_false fun e => hz0.2 rfl (by injection e)), ?_⟩
      exact ⟨_, _, rfl, s2⟩
    · rw [show decide (V.int (i : Int) = V.int 0) = false from decide_eq_false fun e => c (by injection e with e; omega)]
      exact ⟨_, _, rfl, s2⟩
  · rintro σ H1 ⟨o1, o2, rfl, s1⟩
    exact q _ s1
def pr_is_need (K : PySem.W.Frag) : Pr := pr1 fun v H Q => ∃ a b c d : Int, Is K H v (need4 a b c d) ∧ 0 < a ∧ 0 ≤ b ∧ 0 ≤ c ∧ 0 ≤ d ∧ ∀ H', Same H H' → Q (.bl true) H'
theorem sc_is_need : FnScope n_is_need p_is_need (defScope s_is_need) := ⟨rfl, rfl, rfl, by decide +kernel, rfl, by decide +kernel, by decide +kernel⟩
theorem is_need_ok (m : Bt mg) (c_need_fault : Cal P w K mg base 3 "need_fault" [] (pr_need_fault K)) (D : Dfn K mg "is_need" s_is_need [] f fd) : Cal P w K mg base 4 "is_need" [] (pr_is_need K) := by
  refine D.cal sc_is_need (fun vs H Q h => len1 h) (fun _ _ _ _ _ _ us hl => match us, hl with | [_], _ => rfl) fun cdv A outer s H vs Q hr h => ?_
  obtain ⟨_, rfl, a, b, c, d, hn, pa, pb, pc, pd, q⟩ := inv1 h
  refine ⟨_, pss_one (ps_ret (pe_cmp (pc_isN (p_call c_need_fault hr (pa_cons (pv 0) pa_nil))))), ?_⟩
  exact ⟨_, rfl, a, b, c, d, hn, pa, pb, pc, pd, fun H1 s1 => q H1 s1⟩
def pr_want_need (K : PySem.W.Frag) : Pr := pr1 fun v H Q => ∃ a b c d : Int, Is K H v (need4 a b c d) ∧ 0 < a ∧ 0 ≤ b ∧ 0 ≤ c ∧ 0 ≤ d ∧ ∀ v' H', Same H H' → Q v' H'
theorem sc_want_need : FnScope n_want_need p_want_need (defScope s_want_need) := ⟨rfl, rfl, rfl, by decide +kernel, rfl, by decide +kernel, by decide +kernel⟩
theorem want_need_ok (m : Bt mg) (c_wantD : Cal P w K mg base 1 "want" [.int (-1)] (pr_want K)) (c_is_need : Cal P w K mg base 4 "is_need" [] (pr_is_need K)) (D : Dfn K mg "want_need" s_want_need [] f fd) : Cal P w K mg base 5 "want_need" [] (pr_want_need K) := by
  refine D.cal sc_want_need (fun vs H Q h => len1 h) (fun _ _ _ _ _ _ us hl => match us, hl with | [_], _ => rfl) fun cdv A outer s H vs Q hr h => ?_
  obtain ⟨_, rfl, a, b, c, d, hn, pa, pb, pc, pd, q⟩ := inv1 h
  refine ⟨_, pss_one (ps_expr (p_call c_wantD hr (pa_cons (p_call c_is_need hr (pa_cons (pv 0) pa_nil)) (pa_cons pe_str pa_nil)))), ?_⟩
  exact ⟨_, rfl, a, b, c, d, hn, pa, pb, pc, pd, fun H1 s1 => ⟨rfl, q _ H1 s1⟩⟩
def pr_want_many_trees (K : PySem.W.Frag) : Pr := pr2 fun a b H Q => ∃ k l : Int, a = .int k ∧ b = .int l ∧ 0 ≤ k ∧ l ≤ k ∧ k ≤ 9 ∧ ∀ v', Q v' H
theorem sc_want_many_trees : FnScope n_want_many_trees p_want_many_trees (defScope s_want_many_trees) := ⟨rfl, rfl, rfl, by decide +kernel, rfl, by decide +kernel, by decide +kernel⟩
theorem want_many_trees_ok (m : Bt mg) (c_want : Cal P w K mg base 1 "want" [] (pr_want K)) (c_is_number : Cal P w K mg base 2 "is_number" [] (pr_is_number K)) (D : Dfn K mg "want_many_trees" s_want_many_trees [] f fd) : Cal P w K mg base 3 "want_many_trees" [] (pr_want_many_trees K) := by
  refine D.cal sc_want_many_trees (fun vs H Q h => len2 h) (fun _ _ _ _ _ _ us hl => match us, hl with | [_, _], _ => rfl) fun cdv A outer s H vs Q hr h => ?_
  obtain ⟨_, _, rfl, k, l, rfl, rfl, h0, h1, h2, q⟩ := inv2 h
  obtain ⟨tk, g9⟩ := m.trees9
  refine ⟨_, pss_one (ps_expr (p_call c_want hr (pa_cons (pe_and (p_call c_is_number hr (pa_cons (pv 0) pa_nil)) (pe_one (pe_chain op_le op_le (pv 1) (pv 0) (pe_glob (v := .int 9) rfl g9 ⟨_, rfl⟩)))) (pa_cons pe_str (pa_cons (pv 0) pa_nil))))), ?_⟩
  refine ⟨_, rfl, k, rfl, true, congrArg V.bl (decide_eq_true h0), ?_⟩
  refine ⟨_, rfl, _, rfl, l, k, rfl, rfl, true, congrArg V.bl (decide_eq_true h1), ?_⟩
  exact ⟨k, 9, rfl, rfl, _, rfl, congrArg V.bl (decide_eq_true h2), q _⟩
def pr_want_wide (K : PySem.W.Frag) : Pr := pr3 fun v x a H Q => ∃ (hs : List Str) (ws : List (Str × Str)) (z : Str) (k : Int), Is K H v (net hs ws) ∧ NetOk hs ws ∧ x = .str z ∧ z ∈ hs ∧ a = .int k ∧ 0 ≤ k ∧ k ≤ 9 ∧ ∀ v' H', Same H H' → Q v' H'
theorem sc_want_wide : FnScope n_want_wide p_want_wide (defScope s_want_wide) := ⟨rfl, rfl, rfl, by decide +kernel, rfl, by decide +kernel, by decide +kernel⟩
theorem want_wide_ok (m : Bt mg) (c_want_root : Cal P w K mg base 5 "want_root" [] (pr_want_root K)) (c_want : Cal P w K mg base 1 "want" [] (pr_want K)) (c_is_number : Cal P w K mg base 2 "is_number" [] (pr_is_number K)) (D : Dfn K mg "want_wide" s_want_wide [] f fd) : Cal P w K mg base 6 "want_wide" [] (pr_want_wide K) := by
  refine D.cal sc_want_wide (fun vs H Q h => len3 h) (fun _ _ _ _ _ _ us hl => match us, hl with | [_, _, _], _ => rfl) fun cdv A outer s H vs Q hr h => ?_
  obtain ⟨_, _, _, rfl, hs, ws, z, k, hn, ok, rfl, hm, rfl, h0, h1, q⟩ := inv3 h
  obtain ⟨tk, g9⟩ := m.wide9
  refine ⟨_, pss_cons (ps_expr (p_call c_want_root hr (pa_cons (pv 0) (pa_cons (pv 1) pa_nil)))) (pss_one (ps_expr (p_call c_want hr (pa_cons (pe_and (p_call c_is_number hr (pa_cons (pv 2) pa_nil)) (pe_one (pe_cmpR op_le (pv 2) (pe_glob (v := .int 9) rfl g9 ⟨_, rfl⟩) (nomark _)))) (pa_cons pe_str (pa_cons (pv 2) pa_nil)))))), ?_⟩
  refine ⟨_, rfl, _, rfl, hs, ws, z, hn, ok, rfl, hm, fun _ H1 s1 => ?_⟩
  refine ⟨_, rfl, k, rfl, true, congrArg V.bl (decide_eq_true h0), ?_⟩
  exact ⟨_, rfl, k, 9, rfl, rfl, _, rfl, congrArg V.bl (decide_eq_true h1), q _ _ s1⟩
end
end K86

end

section
set_option Elab.async false
set_option linter.all false
set_option maxRecDepth 100000
set_option maxHeartbeats 2000000
/-! Dicts of what is taken, of what is found; steps as the program lists them. -/
namespace K86
open PySem PySem.Spec PyProof.Rows L2
open PySem.W (Datum DatumOrd Tup T3 T4 Holds HoldAll)
open K86M (tlW hdW Step Grown Shut)
instance : Inhabited Str := ⟨Str.empty⟩
def takeK (ks : List Nat) : List (Key × V) := ks.map fun (i : Nat) => (Sum.inl (i : Int), .bl true)
def fndV : Option Nat → V
  | none => .non
  | some i => .int (i : Int)
def fndK (l : List (Str × Option Nat)) : List (Key × V) := l.map fun p => (Sum.inr p.1, fndV p.2)
theorem val_take (ks : List Nat) (i : Nat) : valV (takeK ks) (Sum.inl (i : Int)) = if i ∈ ks then some (.bl true) else none := by
  induction ks with
  | nil => rfl
  | cons k ks ih =>
    by_cases e : k = i
    · unfold takeK
      rw [List.map_cons, valV_pos (by rw [e])]
      simp [e]
    · unfold takeK at ih ⊢
      rw [List.map_cons, valV_neg (fun q => e (by injection q with q; omega)), ih]
      simp [Ne.symm e]
theorem take_some (ks : List Nat) (i : Nat) : (valV (takeK ks) (Sum.inl (i : Int))).isSome = decide (i ∈ ks) := by
  rw [val_take]
  by_cases h : i ∈ ks <;> simp [h]
theorem drop_take (ks : List Nat) (i : Nat) : dropK (takeK ks) (Sum.inl (i : Int)) = takeK (ks.filter fun k => decide (k ≠ i)) := by
  induction ks with
  | nil => rfl
  | cons k ks ih =>
    unfold takeK at ih ⊢
    by_cases e : k = i
    · rw [List.map_cons, dropK_pos (by rw [e]), ih, List.filter_cons_of_neg (by simp [e])]
    · rw [List.map_cons, dropK_neg (fun q => e (by injection q with q; omega)), ih, List.filter_cons_of_pos (by simp [e]), List.map_cons]
theorem put_take {ks : List Nat} {i : Nat} (h : i ∉ ks) : putK (takeK ks) (Sum.inl (i : Int)) (.bl true) = takeK (ks ++ [i]) := by
  rw [putK_new _ (by rw [val_take, if_neg h])]
  unfold takeK
  rw [List.map_append]
  rfl
theorem fnd_some (l : List (Str × Option Nat)) (z : Str) : (valV (fndK l) (Sum.inr z)).isSome = decide (z ∈ l.map (·.1)) := by
  induction l with
  | nil => rfl
  | cons p l ih =>
    unfold fndK at ih ⊢
    by_cases e : p.1 = z
    · rw [List.map_cons, valV_pos (by rw [e])]
      simp [e]
    · rw [List.map_cons, valV_neg (fun q => e (Sum.inr.inj q)), ih]
      simp [Ne.symm e]
theorem fnd_val {l : List (Str × Option Nat)} (nd : (l.map (·.1)).Nodup) {z : Str} {o : Option Nat} (h : (z, o) ∈ l) : valV (fndK l) (Sum.inr z) = some (fndV o) := by
  induction l with
  | nil => cases h
  | cons p l ih =>
    rw [List.map_cons, List.nodup_cons] at nd
    unfold fndK at ih ⊢
    rcases List.mem_cons.mp h with e | h
    · rw [List.map_cons, valV_pos (by rw [← e]), ← e]
    · rw [List.map_cons, valV_neg (fun q => nd.1 (by rw [Sum.inr.inj q]; exact List.mem_map.mpr ⟨_, h, rfl⟩)), ih nd.2 h]
theorem fnd_put {l : List (Str × Option Nat)} {z : Str} (h : z ∉ l.map (·.1)) (i : Nat) : putK (fndK l) (Sum.inr z) (.int (i : Int)) = fndK (l ++ [(z, some i)]) := by
  have hn : valV (fndK l) (Sum.inr z) = none := by
    have := fnd_some l z
    rw [decide_eq_false h] at this
    cases e : valV (fndK l) (Sum.inr z) with
    | none => rfl
    | some w => rw [e] at this; cases this
  rw [putK_new _ hn]
  unfold fndK
  rw [List.map_append]
  rfl
def stepF (ws : List (Str × Str)) (ks : List Nat) (here : Str) (i : Nat) : Option (Int × Str) := (ws[i]?.filter fun w => decide (w.1 = here) && decide (i ∉ ks)).map fun w => ((i : Int), w.2)
def stepB (ws : List (Str × Str)) (ks : List Nat) (here : Str) (i : Nat) : Option (Int × Str) := (ws[i]?.filter fun w => decide (w.2 = here) && decide (i ∈ ks)).map fun w => ((i : Int), w.1)
def stepsOn (ws : List (Str × Str)) (ks : List Nat) (here : Str) : List (Int × Str) := (List.range ws.length).filterMap (stepF ws ks here) ++ (List.range ws.length).filterMap (stepB ws ks here)
def tk (ks : List Nat) : Nat → Bool := fun i => decide (i ∈ ks)
theorem mem_stepsOn {ws : List (Str × Str)} {ks : List Nat} {here v : Str} {x : Int} : (x, v) ∈ stepsOn ws ks here ↔ ∃ i : Nat, x = (i : Int) ∧ Step (tlW ws) (hdW ws) ws.length (tk ks) here v i := by
  unfold stepsOn
  rw [List.mem_append, List.mem_filterMap, List.mem_filterMap]
  constructor
  · rintro (⟨i, hi, e⟩ | ⟨i, hi, e⟩)
    · have hi := List.mem_range.mp hi
      unfold stepF at e
      rw [K86M.at_tlhd hi] at e
      by_cases c : tlW ws i = here ∧ i ∉ ks
      · simp [Option.filter, c.1, c.2] at e
        exact ⟨i, e.1.symm, hi, .inl ⟨decide_eq_false c.2, c.1, e.2⟩⟩
      · exfalso
        have : (decide (tlW ws i = here) && decide (i ∉ ks)) = false := by
          rw [← Bool.not_eq_true]
          simpa using c
        simp [Option.filter, this] at e
        simp_all
    · have hi := List.mem_range.mp hi
      unfold stepB at e
      rw [K86M.at_tlhd hi] at e
      by_cases c : hdW ws i = here ∧ i ∈ ks
      · simp [Option.filter, c.1, c.2] at e
        exact ⟨i, e.1.symm, hi, .inr ⟨decide_eq_true c.2, c.1, e.2⟩⟩
      · exfalso
        have : (decide (hdW ws i = here) && decide (i ∈ ks)) = false := by
          rw [← Bool.not_eq_true]
          simpa using c
        simp [Option.filter, this] at e
  · rintro ⟨i, rfl, hi, ⟨ht, h1, h2⟩ | ⟨ht, h1, h2⟩⟩
    · refine .inl ⟨i, List.mem_range.mpr hi, ?_⟩
      have := of_decide_eq_false ht
      unfold stepF
      rw [K86M.at_tlhd hi]
      simp [Option.filter, h1, h2, this]
    · refine .inr ⟨i, List.mem_range.mpr hi, ?_⟩
      have := of_decide_eq_true ht
      unfold stepB
      rw [K86M.at_tlhd hi]
      simp [Option.filter, h1, h2, this]
theorem stepsOn_len (ws : List (Str × Str)) (ks : List Nat) (here : Str) : (stepsOn ws ks here).length ≤ 2 * ws.length := by
  unfold stepsOn
  have h1 := List.length_filterMap_le (stepF ws ks here) (List.range ws.length)
  have h2 := List.length_filterMap_le (stepB ws ks here) (List.range ws.length)
  rw [List.length_range] at h1 h2
  rw [List.length_append]
  omega
end K86

end

section
set_option Elab.async false
set_option linter.all false
set_option maxRecDepth 100000
set_option maxHeartbeats 2000000
/-! The walks: what is found along free wires and back along taken ones. -/
namespace K86
open PySem PySem.Spec PyProof.Rows L2
open PySem.W (Datum DatumOrd Tup T3 T4 Holds HoldAll)
open K86M (tlW hdW Step Grown Shut Ends)
/-- the dict of what is taken -/
def TakD (H : Hp) (v : V) (ks : List Nat) : Prop := ∃ d, v = .ref d ∧ H d = some (.dK (takeK ks))
theorem TakD.same {H H' : Hp} {v : V} {ks : List Nat} (h : TakD H v ks) (s : Same H H') : TakD H' v ks := by
  obtain ⟨d, e, h⟩ := h
  exact ⟨d, e, s _ _ h⟩
def FndD (H : Hp) (v : V) (l : List (Str × Option Nat)) : Prop := ∃ d, v = .ref d ∧ H d = some (.dK (fndK l))
theorem FndD.same {H H' : Hp} {v : V} {l : List (Str × Option Nat)} (h : FndD H v l) (s : Same H H') : FndD H' v l := by
  obtain ⟨d, e, h⟩ := h
  exact ⟨d, e, s _ _ h⟩
theorem free_of {H H' : Hp} {p : Addr} (s : Same H H') (h : H' p = none) : H p = none := by
  cases e : H p with
  | none => rfl
  | some o => rw [s _ _ e] at h; cases h
/-- comings at its while -/
def ComW (H : Hp) (av : V) (d D R : Addr) (r : Str) (hs : List Str) (ws : List (Str × Str)) (ks : List Nat) (n : Nat) (σ : L2.St) (H1 : Hp) : Prop :=
  ∃ (o5 o6 o7 : Option V) (l : List (Str × Option Nat)) (rs : List Str), n = hs.length + rs.length - l.length ∧ rs.length ≤ l.length ∧ σ = [some av, some (.ref d), some (.str r), some (.ref D), some (.ref R), o5, o6, o7] ∧ Same H H1 ∧ H1 D = some (.dK (fndK l)) ∧ H1 R = some (.lst (rs.map V.str)) ∧
    Grown (tlW ws) (hdW ws) ws.length (tk ks) r l ∧ (∀ u ∈ rs, u ∈ l.map (·.1)) ∧ ∀ u ∈ l.map (·.1), u ∉ rs → ∀ v i, Step (tlW ws) (hdW ws) ws.length (tk ks) u v i → v ∈ l.map (·.1)
/-- comings at its for -/
def ComF (K : PySem.W.Frag) (H : Hp) (av : V) (d D R va : Addr) (r here : Str) (hs : List Str) (ws : List (Str × Str)) (ks : List Nat) (xs : List V) (l0 rs0 : Nat) (j : Nat) (σ : L2.St) (H1 : Hp) : Prop :=
  ∃ (o6 o7 : Option V) (l : List (Str × Option Nat)) (rs : List Str), rs.length + l0 = rs0 + l.length ∧ σ = [some av, some (.ref d), some (.str r), some (.ref D), some (.ref R), some (.str here), o6, o7] ∧ Same H H1 ∧ H1 D = some (.dK (fndK l)) ∧ H1 R = some (.lst (rs.map V.str)) ∧
    H1 va = some (.lst xs) ∧ IsAll K H1 xs (stepsOn ws ks here) ∧ here ∈ l.map (·.1) ∧
    Grown (tlW ws) (hdW ws) ws.length (tk ks) r l ∧ (∀ u ∈ rs, u ∈ l.map (·.1)) ∧ (∀ u ∈ l.map (·.1), u ∉ rs → u ≠ here → ∀ v i, Step (tlW ws) (hdW ws) ws.length (tk ks) u v i → v ∈ l.map (·.1)) ∧
    ∀ y ∈ (stepsOn ws ks here).take j, y.2 ∈ l.map (·.1)
section
variable {P : Program} {w : World} {K : PySem.W.Frag} {mg : Str → Option Value} {base : Heap} {f : Addr} {fd : FuncData}

def pr_steps_on (K : PySem.W.Frag) : Pr := pr3 fun a b c H Q => ∃ (ws : List (Str × Str)) (ks : List Nat) (here : Str), Is K H a (Tup.mk ws) ∧ TakD H b ks ∧ c = .str here ∧ ws.length ≤ 1000 ∧ ∀ p vs H', Same H H' → H p = none → H' p = some (.lst vs) → IsAll K H' vs (stepsOn ws ks here) → Q (.ref p) H'
theorem sc_steps_on : FnScope n_steps_on p_steps_on (defScope s_steps_on) := ⟨rfl, rfl, rfl, by decide +kernel, rfl, by decide +kernel, by decide +kernel⟩
theorem steps_on_ok (m : Bt mg)  (D : Dfn K mg "steps_on" s_steps_on [] f fd) : Cal P w K mg base 1 "steps_on" [] (pr_steps_on K) := by
  refine D.cal sc_steps_on (fun vs H Q h => len3 h) (fun _ _ _ _ _ _ us hl => match us, hl with | [_, _, _], _ => rfl) fun cdv A outer s H vs Q hr h => ?_
  obtain ⟨_, _, _, rfl, ws, ks, here, ha, ⟨d, rfl, hd⟩, rfl, hz, q⟩ := inv3 h
  obtain ⟨wa, wv, rfl, wq, wh⟩ := ha.tup
  have hl : wv.length = ws.length := wh.length
  refine ⟨_, pss_cons (ps_setLc (i := 3) (own := [("index", 4), ("tail", 5), ("head", 6)]) (g := gTup K 2 (gCons (gName 4) (gCons (gTup K 2 (gCons (gName 5) (gCons (gName 6) gNil))) gNil))) rfl sc_steps_on.nd rfl rfl (sw_true rfl rfl rfl (by decide +kernel)) (pi_enumT rfl m.enumerate (pa_cons (pv 0) pa_nil)) (blkOk_by (N := n_steps_on) (sc := defScope s_steps_on) (by decide +kernel))
      (fun _ _ _ _ _ => pg_tup rfl (pgs_cons (pg_name (i := 4) sc_steps_on.nd rfl (.inl rfl)) (pgs_cons (pg_tup rfl (pgs_cons (pg_name (i := 5) sc_steps_on.nd rfl (.inl rfl)) (pgs_cons (pg_name (i := 6) sc_steps_on.nd rfl (.inl rfl)) pgs_nil))) pgs_nil)))
      (fun _ _ _ _ _ => pts_one (PW.pt (pw_and (pt_cmpR op_eq (pv 5) (pv 2) (nomark _)) (pw_and1 (pt_cmp (pc_dnotin hr.u1 (pv 4) (pv 1)) rfl))))) (fun _ _ _ _ _ => pe_tup (pa_cons (pv 4) (pa_cons (pv 6) pa_nil))))
    (pss_cons (ps_setLc (i := 7) (own := [("index", 4), ("tail", 5), ("head", 6)]) (g := gTup K 2 (gCons (gName 4) (gCons (gTup K 2 (gCons (gName 5) (gCons (gName 6) gNil))) gNil))) rfl sc_steps_on.nd rfl rfl (sw_true rfl rfl rfl (by decide +kernel)) (pi_enumT rfl m.enumerate (pa_cons (pv 0) pa_nil)) (blkOk_by (N := n_steps_on) (sc := defScope s_steps_on) (by decide +kernel))
      (fun _ _ _ _ _ => pg_tup rfl (pgs_cons (pg_name (i := 4) sc_steps_on.nd rfl (.inl rfl)) (pgs_cons (pg_tup rfl (pgs_cons (pg_name (i := 5) sc_steps_on.nd rfl (.inl rfl)) (pgs_cons (pg_name (i := 6) sc_steps_on.nd rfl (.inl rfl)) pgs_nil))) pgs_nil)))
      (fun _ _ _ _ _ => pts_one (PW.pt (pw_and (pt_cmpR op_eq (pv 6) (pv 2) (nomark _)) (pw_and1 (pt_cmp (pc_din hr.u1 (pv 4) (pv 1)) rfl))))) (fun _ _ _ _ _ => pe_tup (pa_cons (pv 4) (pa_cons (pv 5) pa_nil))))
    (pss_one (ps_ret (pe_op op_cat (pv 3) (pv 7))))), ?_⟩
  refine ⟨_, rfl, wa, wv, rfl, wq, fun D1 hD1 => lc_data (K := K) walk_enumT (stepF ws ks here) hD1 (by omega) (fun H1 s1 => sqT_same s1 wq) ?_ ?_⟩
  · rintro i v H1 H2 Ky Kn hi s1 ⟨T, x, y, rfl, hT, rfl, hx1, hy1⟩ k1 k2
    obtain rfl : V.int (i : Int) = x := Option.some.inj hx1
    obtain ⟨wr, hw1, hw2⟩ := wh.at hy1
    have hw1 : ws[i]? = some wr := hw1
    have sT : Same H1 (upd H1 T (.tup [.int (i : Int), y])) := same_new hT
    have hw3 := hw2.same (same_tr s1 sT)
    obtain ⟨b, u, z, rfl, bq, hu, hz⟩ := hw3.pair
    obtain rfl := hu.str
    obtain rfl := hz.str
    refine ⟨T, _, rfl, SqT.of upd_same, rfl, _, _, rfl, _, _, rfl, ⟨b, _, rfl, bq, rfl, _, _, rfl, _, _, rfl, rfl, rfl, rfl, ?_⟩⟩
    refine ⟨_, rfl, _, rfl, rfl, _, rfl, ?_⟩
    by_cases c1 : wr.1 = here
    · rw [show decide (V.str wr.1 = V.str here) = true from decide_eq_true (by rw [c1])]
      refine ⟨_, rfl, _, rfl, d, _, rfl, DGet.k (k := Sum.inl (i : Int)) (sT _ _ (s1 _ _ hd)), _, rfl, ?_⟩
      rw [take_some]
      by_cases c2 : i ∈ ks
      · rw [decide_eq_true c2]
        exact k2 _ sT (by unfold stepF; rw [hw1]; simp [Option.filter, c1, c2])
      · rw [decide_eq_false c2]
        refine ⟨_, rfl, _, rfl, by show 2 ≤ sizeLine; decide, fun p hp => ?_⟩
        exact k1 _ ((i : Int), wr.2) _ (same_tr sT (same_new hp)) (by unfold stepF; rw [hw1]; simp [Option.filter, c1, c2]) (is_pair (SqT.of upd_same) (is_int _) (is_str _))
    · rw [show decide (V.str wr.1 = V.str here) = false from decide_eq_false fun e => c1 (by injection e)]
      exact k2 _ sT (by unfold stepF; rw [hw1]; simp [Option.filter, c1])
  intro H1 ys s1 e1 hy1
  refine ⟨_, rfl, wa, wv, rfl, sqT_same s1 wq, fun D2 hD2 => lc_data (K := K) walk_enumT (stepB ws ks here) hD2 (by omega) (fun H2 s2 => sqT_same (same_tr s1 s2) wq) ?_ ?_⟩
  · rintro i v H2 H3 Ky Kn hi s2 ⟨T, x, y, rfl, hT, rfl, hx1, hy1⟩ k1 k2
    obtain rfl : V.int (i : Int) = x := Option.some.inj hx1
    obtain ⟨wr, hw1, hw2⟩ := wh.at hy1
    have hw1 : ws[i]? = some wr := hw1
    have sT : Same H2 (upd H2 T (.tup [.int (i : Int), y])) := same_new hT
    have hw3 := hw2.same (same_tr s1 (same_tr s2 sT))
    obtain ⟨b, u, z, rfl, bq, hu, hz⟩ := hw3.pair
    obtain rfl := hu.str
    obtain rfl := hz.str
    refine ⟨T, _, rfl, SqT.of upd_same, rfl, _, _, rfl, _, _, rfl, ⟨b, _, rfl, bq, rfl, _, _, rfl, _, _, rfl, rfl, rfl, rfl, ?_⟩⟩
    refine ⟨_, rfl, _, rfl, rfl, _, rfl, ?_⟩
    by_cases c1 : wr.2 = here
    · rw [show decide (V.str wr.2 = V.str here) = true from decide_eq_true (by rw [c1])]
      refine ⟨_, rfl, _, rfl, d, _, rfl, DGet.k (k := Sum.inl (i : Int)) (sT _ _ (s2 _ _ (s1 _ _ hd))), _, rfl, ?_⟩
      rw [take_some]
      by_cases c2 : i ∈ ks
      · rw [decide_eq_true c2]
        refine ⟨_, rfl, _, rfl, by show 2 ≤ sizeLine; decide, fun p hp => ?_⟩
        exact k1 _ ((i : Int), wr.1) _ (same_tr sT (same_new hp)) (by unfold stepB; rw [hw1]; simp [Option.filter, c1, c2]) (is_pair (SqT.of upd_same) (is_int _) (is_str _))
      · rw [decide_eq_false c2]
        exact k2 _ sT (by unfold stepB; rw [hw1]; simp [Option.filter, c1, c2])
    · rw [show decide (V.str wr.2 = V.str here) = false from decide_eq_false fun e => c1 (by injection e)]
      exact k2 _ sT (by unfold stepB; rw [hw1]; simp [Option.filter, c1])
  intro H2 zs s2 e2 hz2
  rw [hl] at hy1 hz2
  have l1 := hy1.length
  have l2 := hz2.length
  have l3 := stepsOn_len ws ks here
  unfold stepsOn at l3
  rw [List.length_append] at l3
  refine ⟨_, rfl, _, rfl, D1, D2, ys, zs, rfl, rfl, s2 _ _ e1, e2, by rw [sizeLine_eq]; omega, fun p hp => ?_⟩
  exact q _ _ _ (same_tr s1 (same_tr s2 (same_new hp))) (free_of (same_tr s1 s2) hp) upd_same (((hy1.same s2).append hz2).same (same_new hp))

/-- what comings tells: found, and nothing is left to find -/
def pr_comings (K : PySem.W.Frag) : Pr := pr3 fun a b c H Q => ∃ (hs : List Str) (ws : List (Str × Str)) (ks : List Nat) (r : Str), Is K H a (Tup.mk ws) ∧ TakD H b ks ∧ c = .str r ∧ hs.length ≤ 1000 ∧ ws.length ≤ 1000 ∧ r ∈ hs ∧ Ends hs ws ∧
  ∀ v H' l, Same H H' → FndD H' v l → Grown (tlW ws) (hdW ws) ws.length (tk ks) r l → Shut (tlW ws) (hdW ws) ws.length (tk ks) l → Q v H'
theorem sc_comings : FnScope n_comings p_comings (defScope s_comings) := ⟨rfl, rfl, rfl, by decide +kernel, rfl, by decide +kernel, by decide +kernel⟩
theorem comings_ok (m : Bt mg) (c_steps_on : Cal P w K mg base 1 "steps_on" [] (pr_steps_on K)) (D : Dfn K mg "comings" s_comings [] f fd) : Cal P w K mg base 2 "comings" [] (pr_comings K) := by
  refine D.cal sc_comings (fun vs H Q h => len3 h) (fun _ _ _ _ _ _ us hl => match us, hl with | [_, _, _], _ => rfl) fun cdv A outer s H vs Q hr h => ?_
  obtain ⟨av, _, _, rfl, hs, ws, ks, r, ha, ⟨d, rfl, hd⟩, rfl, hz, wz, hr0, he, q⟩ := inv3 h
  have few : ∀ l, Grown (tlW ws) (hdW ws) ws.length (tk ks) r l → l.length ≤ hs.length := fun l g => by
    have h1 := g.nodup
    have h2 : ∀ x ∈ l.map (·.1), x ∈ hs := fun x hx => by
      by_cases e : x = r
      · rw [e]; exact hr0
      · obtain ⟨_, _, i, u, _, _, _, _, st⟩ := g.back _ _ _ hx e
        have := K86M.ends_at he i st.1
        rcases st.2 with ⟨_, _, e2⟩ | ⟨_, _, e2⟩
        · rw [← e2]; exact this.2
        · rw [← e2]; exact this.1
    have := List.Nodup.length_le_of_subset h1 h2
    rwa [List.length_map] at this
  refine ⟨_, pss_cons (ps_set (i := 3) sc_comings.nd rfl (Or.inl rfl) (p_dict m (call_dictP rfl) (pa_cons (pe_lst (pa_cons (pe_tup (pa_cons (pv 2) (pa_cons pe_non pa_nil))) pa_nil)) pa_nil)))
    (pss_cons (ps_set (i := 4) sc_comings.nd rfl (Or.inl rfl) (pe_lst (pa_cons (pv 2) pa_nil)))
    (pss_cons (ps_while PassesOwn.never (pt_cmpR (op_neT (α := List Str) hr.u) (pv 4) (pe_lst pa_nil) (nomark _))
      (pss_cons (ps_set (i := 5) sc_comings.nd rfl (Or.inl rfl) (pe_bm0 PySem.F.plainAttrs_list PySem.F.slot_list_pop PySem.F.type_list_pop mt_pop (pv 4)))
      (pss_one (ps_for PassesOwn.never rfl (pi_list (p_call c_steps_on hr (pa_cons (pv 0) (pa_cons (pv 1) (pa_cons (pv 5) pa_nil))))) (pg_tup rfl (pgs_cons (pg_name (i := 6) sc_comings.nd rfl (.inl rfl)) (pgs_cons (pg_name (i := 7) sc_comings.nd rfl (.inl rfl)) pgs_nil)))
        (pss_one (ps_if (pt_cmp (pc_dnotin hr.u1 (pv 7) (pv 3)) rfl) (pss_cons (ps_dput hr.u1 (pv 3) (pv 7) (pv 6) rfl) (pss_one (ps_expr (p_app (pv 4) (pa_cons (pv 7) pa_nil))))) pss_nil))))))
    (pss_one (ps_ret (pv 3))))), ?_⟩
  refine ⟨_, rfl, by show 2 ≤ sizeLine; decide, fun p1 n1 => ⟨by show 1 ≤ sizeLine; decide, fun p2 n2 => ?_⟩⟩
  have s1 := same_new (o := .tup [.str r, .non]) n1
  have s2 := same_new (o := .lst [.ref p1]) n2
  refine ⟨p2, [p1], [(Sum.inr r, .non)], rfl, SqL.of upd_same, .cons (sqT_same s2 (SqT.of upd_same)) .nil, fun D nD => ?_⟩
  have s3 : Same H (upd (upd (upd H p1 (.tup [.str r, .non])) p2 (.lst [.ref p1])) D (.dK (mergeK [] [(Sum.inr r, .non)]))) := same_tr s1 (same_tr s2 (same_new nD))
  have hDH : H D = none := by
    cases e : H D with
    | none => rfl
    | some o =>
      have := s2 _ _ (s1 _ _ e)
      rw [nD] at this
      cases this
  refine ⟨_, rfl, by show 1 ≤ sizeLine; decide, fun R nR => ?_⟩
  have eD : upd (upd (upd (upd H p1 (.tup [.str r, .non])) p2 (.lst [.ref p1])) D (.dK (mergeK [] [(Sum.inr r, .non)]))) R (.lst [.str r]) D = some (.dK (fndK [(r, none)])) := same_new nR _ _ upd_same
  have hRH : H R = none := by
    cases e : H R with
    | none => rfl
    | some o =>
      have := s3 _ _ e
      rw [nR] at this
      cases this
  have hRD : R ≠ D := fun e => by
    rw [e, upd_same] at nR
    cases nR
  refine ⟨ComW H av d D R r hs ws ks, ⟨_, none, none, none, [(r, none)], [r], rfl, Nat.le_refl _, rfl, same_tr s3 (same_new nR), eD, upd_same, .start, fun u hu => by simpa using hu, fun u hu hn => absurd (by simpa using hu) hn⟩, ?_⟩
  rintro n σ H1 ⟨o5, o6, o7, l, rs, rfl, rle, rfl, sH, eD1, eR1, g, hrs, cl⟩
  refine ⟨_, rfl, Nat.zero_le _, fun p np => ?_⟩
  have sp := same_new (o := .lst []) np
  refine ⟨rs, ([] : List Str), is_lst (SqL.of (sp _ _ eR1)) (strs_isAll rs), is_lst (SqL.of upd_same) .nil, decide (rs ≠ []), rfl, ?_⟩
  by_cases c : rs = []
  · subst c
    exact ⟨_, rfl, q _ _ l (same_tr sH sp) ⟨D, rfl, sp _ _ eD1⟩ g fun u v i hu st => cl u hu (by simp) v i st⟩
  obtain ⟨rs0, here, rfl⟩ : ∃ rs0 here, rs = rs0 ++ [here] := ⟨rs.dropLast, rs.getLast c, (List.dropLast_concat_getLast c).symm⟩
  rw [decide_eq_true c]
  rw [List.length_append, List.length_singleton] at rle
  refine ⟨fun σ' H' => ∃ m', m' < _ ∧ ComW H av d D R r hs ws ks m' σ' H', fun _ _ h => h, ?_⟩
  have eR2 := sp _ _ eR1
  refine ⟨_, rfl, .inl ⟨rfl, _, SqL.of eR2⟩, R, _, .str here, rfl, rfl, eR2, by rw [List.map_append]; simp, ?_⟩
  have edl : (List.map V.str (rs0 ++ [here])).dropLast = rs0.map V.str := by rw [List.map_append]; exact List.dropLast_concat
  rw [edl]
  have sH2 := same_tr sH sp
  have sH3 : Same H (upd (upd H1 p (.lst [])) R (.lst (rs0.map V.str))) := same_at sH2 hRH
  have eD3 : upd (upd H1 p (.lst [])) R (.lst (rs0.map V.str)) D = some (.dK (fndK l)) := by rw [upd_ne (Ne.symm hRD)]; exact sp _ _ eD1
  generalize eH3 : upd (upd H1 p (.lst [])) R (.lst (rs0.map V.str)) = H3 at sH3 eD3 ⊢
  have eR3 : H3 R = some (.lst (rs0.map V.str)) := by rw [← eH3]; exact upd_same
  have hh : here ∈ l.map (·.1) := hrs here (by simp)
  refine ⟨_, rfl, _, rfl, _, rfl, ws, ks, here, ha.same sH3, ⟨d, rfl, sH3 _ _ hd⟩, rfl, wz, fun va xs H4 s4 nva eva hxs => ?_⟩
  have vaR : va ≠ R := fun e => by rw [e, eR3] at nva; cases nva
  have vaD : va ≠ D := fun e => by rw [e, eD3] at nva; cases nva
  refine ⟨va, rfl, ⟨xs, SqL.of eva⟩, for_it walk_list (ComF K H av d D R va r here hs ws ks xs l.length rs0.length)
    ⟨o6, o7, l, rs0, rfl, rfl, same_tr sH3 s4, s4 _ _ eD3, s4 _ _ eR3, eva, hxs, hh, g, fun u hu => hrs u (List.mem_append_left _ hu), fun u hu hn ne => cl u hu (fun z => (List.mem_append.mp z).elim hn fun z => ne (List.mem_singleton.mp z)), fun y hy => by simp at hy⟩
    (fun j σ H5 _ ⟨_, _, _, _, _, _, _, _, _, e5, _⟩ => SqL.of e5) ?_ ?_⟩
  · rintro j x σ H5 H6 hj ⟨o6, o7, l', rs', bal, rfl, s5, eD5, eR5, ev5, hx5, hh5, g5, hr5, cl5, done⟩ ⟨rfl, hxj⟩
    obtain ⟨⟨i, v⟩, hs1, hs2⟩ := hx5.at hxj
    obtain ⟨T, u, z, rfl, tq, hu, hz⟩ := hs2.pair
    have hz' : z = .str v := hz.str
    have hu' : u = .int i := hu.int
    subst hz'
    subst hu'
    obtain ⟨iN, ei, st⟩ := mem_stepsOn.mp (List.mem_of_getElem? hs1)
    subst ei
    refine ⟨T, _, rfl, tq, rfl, _, _, rfl, _, _, rfl, rfl, ?_⟩
    refine ⟨_, rfl, _, rfl, D, _, rfl, DGet.k (k := Sum.inr v) eD5, _, rfl, ?_⟩
    have nx : (stepsOn ws ks here).take (j + 1) = (stepsOn ws ks here).take j ++ [((iN : Int), v)] := by rw [List.take_add_one, hs1]; rfl
    rw [fnd_some]
    by_cases cv : v ∈ l'.map (·.1)
    · rw [decide_eq_true cv]
      refine ⟨_, _, l', rs', bal, rfl, s5, eD5, eR5, ev5, hx5, hh5, g5, hr5, cl5, fun y hy => ?_⟩
      rw [nx] at hy
      rcases List.mem_append.mp hy with hy | hy
      · exact done y hy
      · rw [List.mem_singleton.mp hy]; exact cv
    · rw [decide_eq_false cv]
      have g6 := g5.more cv hh5 st
      have l6 := few _ g6
      rw [List.length_append, List.length_singleton] at l6
      refine ⟨_, rfl, _, rfl, _, rfl, D, _, rfl, DPut.k (k := Sum.inr v) eD5 (by unfold fndK; rw [List.length_map, sizeLine_eq]; omega), ?_⟩
      rw [fnd_put cv iN]
      have eR6 : upd H6 D (.dK (fndK (l' ++ [(v, some iN)]))) R = some (.lst (rs'.map V.str)) := by rw [upd_ne hRD]; exact eR5
      have lr : rs'.length ≤ 100000 := by have := few _ g5; omega
      refine ⟨_, rfl, .inl ⟨rfl, _, SqL.of eR6⟩, _, rfl, R, _, _, rfl, rfl, eR6, by rw [List.length_map, sizeLine_eq]; omega, ?_⟩
      have k6 : Keep H6 (upd (upd H6 D (.dK (fndK (l' ++ [(v, some iN)])))) R (.lst (rs'.map V.str ++ [.str v]))) := (keep_dK eD5).trans (keep_lst eR6)
      have inl : ∀ y, y ∈ l'.map (·.1) → y ∈ (l' ++ [(v, some iN)]).map (·.1) := fun y hy => by rw [List.map_append]; exact List.mem_append_left _ hy
      have inv : v ∈ (l' ++ [(v, some iN)]).map (·.1) := by rw [List.map_append]; exact List.mem_append_right _ (by simp)
      refine ⟨_, _, l' ++ [(v, some iN)], rs' ++ [v], by rw [List.length_append, List.length_append, List.length_singleton, List.length_singleton]; omega, rfl, same_at (same_at s5 hDH) hRH, by rw [upd_ne (Ne.symm hRD)]; exact upd_same, by rw [upd_same, List.map_append]; rfl,
        by rw [upd_ne vaR, upd_ne vaD]; exact ev5, hx5.keep k6, inl _ hh5, g6, fun y hy => ?_, fun y hy hn ne v2 i2 st2 => ?_, fun y hy => ?_⟩
      · rcases List.mem_append.mp hy with hy | hy
        · exact inl _ (hr5 y hy)
        · rw [List.mem_singleton.mp hy]; exact inv
      · rw [List.map_append, List.mem_append] at hy
        rcases hy with hy | hy
        · exact inl _ (cl5 y hy (fun z => hn (List.mem_append_left _ z)) ne v2 i2 st2)
        · exact absurd (List.mem_append_right _ (by simpa using hy)) hn
      · rw [nx] at hy
        rcases List.mem_append.mp hy with hy | hy
        · exact inl _ (done y hy)
        · rw [List.mem_singleton.mp hy]; exact inv
  · rintro σ H5 ⟨o6, o7, l', rs', bal, rfl, s5, eD5, eR5, ev5, hx5, hh5, g5, hr5, cl5, done⟩
    have l5 := few _ g5
    have hxl := hx5.length
    refine ⟨hs.length + rs'.length - l'.length, ?_, _, _, _, l', rs', rfl, by omega, rfl, s5, eD5, eR5, g5, hr5, fun u hu hn v i st => ?_⟩
    · rw [List.length_append, List.length_singleton]
      have l6 := few _ g
      omega
    · by_cases e : u = here
      · subst e
        have hm := mem_stepsOn.mpr ⟨i, rfl, st⟩
        rw [hxl, List.take_length] at done
        exact done _ hm
      · exact cl5 u hu hn e v i st
end
end K86

end

section
set_option Elab.async false
set_option linter.all false
set_option maxRecDepth 100000
set_option maxHeartbeats 2000000
/-! The walks: one way more, what is taken, the widths of single houses. -/
namespace K86
open PySem PySem.Spec PyProof.Rows L2
open PySem.W (Datum DatumOrd Tup T3 T4 Holds HoldAll)
open K86M (tlW hdW Step Grown Shut Ends Way turnT Flows Taken valueOf MinOf Great)
theorem merge_take {ks : List Nat} (nd : ks.Nodup) : mergeK [] (takeK ks) = takeK ks := by
  have key : ∀ (rest done : List Nat), (done ++ rest).Nodup → mergeK (takeK done) (takeK rest) = takeK (done ++ rest) := by
    intro rest
    induction rest with
    | nil => intro done _; rw [List.append_nil]; rfl
    | cons k rest ih =>
      intro done h
      have e : done ++ k :: rest = (done ++ [k]) ++ rest := by simp
      rw [e] at h ⊢
      rw [← ih (done ++ [k]) h]
      have hk : k ∉ done := by
        rw [List.nodup_append] at h
        have := List.nodup_append.mp h.1
        exact fun z => this.2.2 k z k (by simp) rfl
      show mergeK (putK (takeK done) (Sum.inl (k : Int)) (.bl true)) (takeK rest) = _
      rw [put_take hk]
  exact key ks [] nd
theorem tk_drop {kl : List Nat} {i : Nat} (h : tk kl i = true) : tk (kl.filter fun k => decide (k ≠ i)) = turnT (tk kl) i := by
  funext j
  unfold tk turnT at *
  by_cases e : j = i
  · subst e
    rw [if_pos rfl]
    show decide (j ∈ List.filter (fun k => decide (k ≠ j)) kl) = !decide (j ∈ kl)
    rw [h]
    simp
  · rw [if_neg e]
    simp [e]
theorem tk_put {kl : List Nat} {i : Nat} (h : tk kl i = false) : tk (kl ++ [i]) = turnT (tk kl) i := by
  funext j
  unfold tk turnT at *
  by_cases e : j = i
  · subst e
    rw [if_pos rfl]
    show decide (j ∈ kl ++ [j]) = !decide (j ∈ kl)
    rw [h]
    simp
  · rw [if_neg e]
    simp [e]
open Classical in
noncomputable def minAt (ws : List (Str × Str)) (r h : Str) : Nat := if e : ∃ m, MinOf ws r h m then Classical.choose e else 0
theorem minAt_eq {ws : List (Str × Str)} {r h : Str} {m : Nat} (hm : MinOf ws r h m) : minAt ws r h = m := by
  have e : ∃ m, MinOf ws r h m := ⟨m, hm⟩
  unfold minAt
  rw [dif_pos e]
  exact MinOf.one (Classical.choose_spec e) hm
theorem min_ex (ws : List (Str × Str)) {r h : Str} (hne : h ≠ r) : MinOf ws r h (minAt ws r h) := by
  obtain ⟨S, ⟨h1, h2⟩, h3⟩ := K86M.exists_least (fun S : Str → Bool => S r = false ∧ S h = true) (fun S => K86M.ent S ws) _ ⟨fun x => decide (x = h), ⟨decide_eq_false (Ne.symm hne), decide_eq_true rfl⟩, Nat.le_refl _⟩
  have : MinOf ws r h (K86M.ent S ws) := ⟨⟨S, h1, h2, rfl⟩, fun T g1 g2 => h3 T ⟨g1, g2⟩⟩
  rw [minAt_eq this]
  exact this
/-- the narrowest of the other houses -/
def Narrow (hs : List Str) (ws : List (Str × Str)) (r : Str) (m : Nat) : Prop := (∃ h ∈ oth hs r, MinOf ws r h m) ∧ ∀ h ∈ oth hs r, ∀ m', MinOf ws r h m' → m ≤ m'
theorem mem_oth {hs : List Str} {r h : Str} : h ∈ oth hs r ↔ h ∈ hs ∧ h ≠ r := by
  unfold oth
  rw [List.mem_filter, decide_eq_true_iff]
theorem Narrow.wide {hs : List Str} {ws : List (Str × Str)} {r : Str} {m : Nat} (N : Narrow hs ws r m) {k : Nat} : K86M.Wide hs r ws k ↔ k ≤ m := by
  obtain ⟨⟨h, hh, hm⟩, hall⟩ := N
  constructor
  · intro W
    obtain ⟨S, s1, s2, s3⟩ := hm.ex
    rw [← s3]
    exact W S s1 ⟨h, (mem_oth.mp hh).1, s2⟩
  · intro hk S s1 ⟨x, hx, sx⟩
    have hne : x ≠ r := fun e => by rw [e, s1] at sx; cases sx
    have hmx := min_ex ws hne
    have := hall x (mem_oth.mpr ⟨hx, hne⟩) _ hmx
    have := hmx.le S s1 sx
    omega
section
variable {P : Program} {w : World} {K : PySem.W.Frag} {mg : Str → Option Value} {base : Heap} {f : Addr} {fd : FuncData}

/-- one_way_more at its while -/
def OneW (H : Hp) (av tv fv : V) (L : Addr) (ws : List (Str × Str)) (ks : List Nat) (a b : Str) (l : List (Str × Option Nat)) (n : Nat) (σ : L2.St) (H1 : Hp) : Prop :=
  ∃ (o6 : Option V) (kl : List Nat) (here : Str), σ = [some av, some tv, some fv, some (.str a), some (.str b), some (.ref L), o6, some (.str here)] ∧ Same H H1 ∧ H1 L = some (.dK (takeK kl)) ∧ kl.Nodup ∧ (∀ i ∈ kl, i < ws.length) ∧ Way (tlW ws) (hdW ws) ws.length (tk ks) a b l (tk kl) here n
def pr_one_way_more (K : PySem.W.Frag) : Pr := pr5 fun va vt vf vb vg H Q => ∃ (hs : List Str) (ws : List (Str × Str)) (ks : List Nat) (l : List (Str × Option Nat)) (a b : Str), Is K H va (Tup.mk ws) ∧ TakD H vt ks ∧ FndD H vf l ∧ vb = .str a ∧ vg = .str b ∧ ws.length ≤ 1000 ∧
  Taken hs ws a b ks ∧ Grown (tlW ws) (hdW ws) ws.length (tk ks) a l ∧ b ∈ l.map (·.1) ∧ a ≠ b ∧ ∀ v H' ks', Same H H' → TakD H' v ks' → Taken hs ws a b ks' → valueOf ws a ks' = valueOf ws a ks + 1 → Q v H'
theorem sc_one_way_more : FnScope n_one_way_more p_one_way_more (defScope s_one_way_more) := ⟨rfl, rfl, rfl, by decide +kernel, rfl, by decide +kernel, by decide +kernel⟩
theorem one_way_more_ok (m : Bt mg)  (D : Dfn K mg "one_way_more" s_one_way_more [] f fd) : Cal P w K mg base 1 "one_way_more" [] (pr_one_way_more K) := by
  refine D.cal sc_one_way_more (fun vs H Q h => len5 h) (fun _ _ _ _ _ _ us hl => match us, hl with | [_, _, _, _, _], _ => rfl) fun cdv A outer s H vs Q hr h => ?_
  obtain ⟨va, _, _, _, _, rfl, hs, ws, ks, l, a, b, ha, ⟨d, rfl, hd⟩, ⟨fd', rfl, hf⟩, rfl, rfl, wz, T, g, hb, hab, q⟩ := inv5 h
  have few : ks.length ≤ 1000 := by
    have h1 := List.Nodup.length_le_of_subset T.nd (l₂ := List.range ws.length) fun i hi => List.mem_range.mpr (T.lt i hi)
    rw [List.length_range] at h1
    omega
  refine ⟨_, pss_cons (ps_set (i := 5) sc_one_way_more.nd rfl (Or.inl rfl) (p_dict m (call_dictP rfl) (pa_cons (pe_lock (pe_lc (own := [("index", 6)]) (g := gName 6) (tt := tYes) rfl sc_one_way_more.nd (pi_keys (pv 1)) (blkOk_by (N := n_one_way_more) (sc := defScope s_one_way_more) (by decide +kernel)) (fun _ _ _ _ _ => (pg_name (i := 6) sc_one_way_more.nd rfl (.inl rfl))) (fun _ _ _ _ _ => pts_nil) (fun _ _ _ _ _ => pe_tup (pa_cons (pv 6) (pa_cons pe_bl pa_nil))))) pa_nil)))
    (pss_cons (ps_set (i := 7) sc_one_way_more.nd rfl (Or.inl rfl) (pv 4))
    (pss_cons (ps_while PassesOwn.never (pt_cmpR op_ne (pv 7) (pv 3) (nomark _))
      (pss_cons (ps_set (i := 6) sc_one_way_more.nd rfl (Or.inl rfl) (pe_dget hr.u1 (pv 2) (pv 7) (fun _ _ => rfl)))
      (pss_one (ps_if (pt_cmp (pc_din hr.u1 (pv 6) (pv 1)) rfl)
        (pss_cons (ps_expr (pe_dpop1 (pv 5) (pv 6) ⟨rfl, rfl, rfl, rfl⟩)) (pss_one (ps_set (i := 7) sc_one_way_more.nd rfl (Or.inl rfl) (pe_ix (r := rSnd K Str Str) ix_snd (pe_ix (ix_atT (α := Str × Str)) (pv 0) (pv 6) (fun _ _ => rfl)) pe_int (fun _ _ => rfl)))))
        (pss_cons (ps_dput hr.u1 (pv 5) (pv 6) pe_bl rfl) (pss_one (ps_set (i := 7) sc_one_way_more.nd rfl (Or.inl rfl) (pe_ix (r := rFst K Str Str) ix_fst (pe_ix (ix_atT (α := Str × Str)) (pv 0) (pv 6) (fun _ _ => rfl)) pe_int (fun _ _ => rfl)))))))))
    (pss_one (ps_ret (pv 5))))), ?_⟩
  refine ⟨d, _, hd, trivial, fun od => ?_⟩
  refine ⟨_, rfl, d, od, rfl, .inl ⟨_, upd_same, fun D hD => lc_data (K := K) walk_keys (fun (i : Nat) => ks[i]?.map fun (k : Nat) => ((k : Int), true)) hD (by unfold takeK; rw [List.length_map]; omega) (fun H1 s1 => s1 _ _ upd_same) ?_ ?_⟩⟩
  · rintro i x H1 H2 Ky Kn hi s1 ⟨rfl, k, v, hkv, rfl⟩ k1 k2
    unfold takeK at hkv
    rw [List.getElem?_map] at hkv
    cases hk : ks[i]? with
    | none => rw [hk] at hkv; cases hkv
    | some j =>
      rw [hk] at hkv
      have hkv := Option.some.inj hkv
      injection hkv with e1 e2
      subst e1
      refine ⟨rfl, _, rfl, by show 2 ≤ sizeLine; decide, fun p hp => ?_⟩
      exact k1 _ ((j : Int), true) _ (same_new hp) (by rw [hk]; rfl) (is_pair (SqT.of upd_same) (is_int _) (is_bl _))
  intro H1 ys s1 e1 hy
  refine ⟨s1 _ _ upd_same, ?_⟩
  have s2 : Same H (upd H1 d (.dK (takeK ks))) := Same.of_upd hd s1
  have el : (takeK ks).length = ks.length := List.length_map ..
  rw [el, fm_map] at hy
  have hdD : D ≠ d := fun e => by rw [e, upd_same] at hD; cases hD
  -- the pairs, one by one
  have pairs : ∀ (ys : List V) (zs : List Nat), IsAll K H1 ys (zs.map fun (k : Nat) => ((k : Int), true)) → ∃ ps : List Addr, ys = ps.map V.ref ∧ Paired (fun p kv => SqT K (upd H1 d (.dK (takeK ks))) p [kV kv.1, kv.2]) ps (takeK zs) := by
    intro ys
    induction ys with
    | nil =>
      intro zs h
      cases zs with
      | nil => exact ⟨[], rfl, .nil⟩
      | cons _ _ => cases h.length
    | cons y ys ih =>
      intro zs h
      cases zs with
      | nil => cases h.length
      | cons z zs =>
        obtain ⟨ps, e, hp⟩ := ih zs h.uncons.2
        obtain ⟨p, u, v, rfl, pq, hu, hv⟩ := h.uncons.1.pair
        obtain rfl := hu.int
        obtain rfl := hv.bl
        refine ⟨p :: ps, by rw [e]; rfl, .cons ?_ hp⟩
        refine Keep.seqT (keep_upd fun xs hx => ?_) pq
        have := s1 _ _ upd_same
        rcases hx with hx | ⟨o, hx⟩
        · rw [this] at hx; cases hx
        · rw [this] at hx; cases hx
  obtain ⟨ps, rfl, hps⟩ := pairs ys ks hy
  refine ⟨D, ps, takeK ks, rfl, SqL.of (by rw [upd_ne hdD]; exact e1), hps, fun L hL => ?_⟩
  rw [merge_take T.nd]
  have sL : Same H (upd (upd H1 d (.dK (takeK ks))) L (.dK (takeK ks))) := same_tr s2 (same_new hL)
  have hLH : H L = none := free_of s2 hL
  refine ⟨_, rfl, ?_⟩
  refine ⟨OneW H va (.ref d) (.ref fd') L ws ks a b l, ⟨l.length, none, ks, b, rfl, sL, upd_same, T.nd, T.lt, Way.start _ _ _ g hb⟩, ?_⟩
  rintro n σ H2 ⟨o6, kl, here, rfl, s3, eL, nd, lt, W⟩
  refine ⟨_, rfl, _, rfl, rfl, _, rfl, ?_⟩
  by_cases c : here = a
  · rw [show decide (V.str here = V.str a) = true from decide_eq_true (by rw [c])]
    subst c
    obtain ⟨hfl, hv⟩ := W.done _ _ _ T.fl hab
    exact ⟨_, rfl, q _ _ kl s3 ⟨L, rfl, eL⟩ ⟨nd, lt, hfl⟩ hv⟩
  · rw [show decide (V.str here = V.str a) = false from decide_eq_false fun e => c (by injection e)]
    obtain ⟨i, u, m', hmem, st, elate, hm', W'⟩ := W.step _ _ _ c
    refine ⟨fun σ' H' => ∃ m', m' < n ∧ OneW H va (.ref d) (.ref fd') L ws ks a b l m' σ' H', fun _ _ h => h, ?_⟩
    have gv : DGet H2 fd' (kV (Sum.inr here)) (some (.int (i : Int))) := by
      rw [← show valV (fndK l) (Sum.inr here) = some (.int (i : Int)) from fnd_val g.nodup hmem]
      exact DGet.k (s3 _ _ hf)
    refine ⟨_, rfl, _, rfl, fd', _, rfl, gv, ?_⟩
    refine ⟨_, rfl, _, rfl, d, _, rfl, DGet.k (k := Sum.inl (i : Int)) (s3 _ _ hd), _, rfl, ?_⟩
    rw [take_some]
    have hi := st.1
    by_cases ci : i ∈ ks
    · rw [decide_eq_true ci]
      have ekl : tk kl i = true := by rw [elate]; exact decide_eq_true ci
      refine ⟨_, rfl, L, rfl, .inl ⟨_, .inl eL⟩, _, rfl, takeK kl, Sum.inl (i : Int), .bl true, eL, rfl, by rw [val_take, if_pos (of_decide_eq_true ekl)], ?_⟩
      rw [drop_take]
      have s4 : Same H (upd H2 L (.dK (takeK (kl.filter fun k => decide (k ≠ i))))) := same_at s3 hLH
      refine ⟨_, rfl, _, rfl, Tup.mk ws, i, _, ha.same s4, rfl, K86M.at_tlhd hi, fun p hp => ?_⟩
      refine ⟨_, hp, rfl, fun u2 hu2 => ?_⟩
      obtain rfl := hu2.str
      have eu : hdW ws i = u := by
        rcases st.2 with ⟨z, _, _⟩ | ⟨_, z, _⟩
        · exact absurd ci (of_decide_eq_false z)
        · exact z
      refine ⟨m', hm', _, _, hdW ws i, rfl, s4, upd_same, nd.sublist List.filter_sublist, fun j hj => lt j (List.mem_filter.mp hj).1, ?_⟩
      rw [tk_drop ekl, eu]
      exact W'
    · rw [decide_eq_false ci]
      have ekl : tk kl i = false := by rw [elate]; exact decide_eq_false ci
      have nkl : i ∉ kl := of_decide_eq_false ekl
      refine ⟨_, rfl, _, rfl, L, _, rfl, DPut.k (k := Sum.inl (i : Int)) eL (by
        have h1 := List.Nodup.length_le_of_subset nd (l₂ := List.range ws.length) fun i hi => List.mem_range.mpr (lt i hi)
        rw [List.length_range] at h1
        unfold takeK
        rw [List.length_map, sizeLine_eq]
        omega), ?_⟩
      rw [put_take nkl]
      have s4 : Same H (upd H2 L (.dK (takeK (kl ++ [i])))) := same_at s3 hLH
      refine ⟨_, rfl, _, rfl, Tup.mk ws, i, _, ha.same s4, rfl, K86M.at_tlhd hi, fun p hp => ?_⟩
      refine ⟨_, hp, rfl, fun u2 hu2 => ?_⟩
      obtain rfl := hu2.str
      have eu : tlW ws i = u := by
        rcases st.2 with ⟨_, z, _⟩ | ⟨z, _, _⟩
        · exact z
        · exact absurd (of_decide_eq_true z) ci
      refine ⟨m', hm', _, _, tlW ws i, rfl, s4, upd_same, ?_, fun j hj => ?_, ?_⟩
      · exact List.nodup_append.mpr ⟨nd, by simp, fun x hx y hy e => by
          rw [List.mem_singleton] at hy
          subst hy
          subst e
          exact nkl hx⟩
      · rcases List.mem_append.mp hj with hj | hj
        · exact lt j hj
        · rw [List.mem_singleton.mp hj]; exact hi
      · rw [tk_put ekl, eu]
        exact W'

/-- taken_by at its while -/
def TakW (H : Hp) (av : V) (hs : List Str) (ws : List (Str × Str)) (a b : Str) (n : Nat) (σ : L2.St) (H1 : Hp) : Prop :=
  ∃ (tv fv : V) (ks : List Nat) (l : List (Str × Option Nat)), n = ((ws.length : Int) - valueOf ws a ks).toNat ∧ σ = [some av, some (.str a), some (.str b), some tv, some fv] ∧ Same H H1 ∧ TakD H1 tv ks ∧ FndD H1 fv l ∧ Taken hs ws a b ks ∧ Grown (tlW ws) (hdW ws) ws.length (tk ks) a l ∧ Shut (tlW ws) (hdW ws) ws.length (tk ks) l
def pr_taken_by (K : PySem.W.Frag) : Pr := pr3 fun va vb vg H Q => ∃ (hs : List Str) (ws : List (Str × Str)) (a b : Str), Is K H va (Tup.mk ws) ∧ vb = .str a ∧ vg = .str b ∧ hs.length ≤ 1000 ∧ ws.length ≤ 1000 ∧ a ∈ hs ∧ a ≠ b ∧ Ends hs ws ∧
  ∀ v H' ks, Same H H' → TakD H' v ks → Taken hs ws a b ks → (∃ l, Grown (tlW ws) (hdW ws) ws.length (tk ks) a l ∧ Shut (tlW ws) (hdW ws) ws.length (tk ks) l ∧ b ∉ l.map (·.1)) → Q v H'
theorem sc_taken_by : FnScope n_taken_by p_taken_by (defScope s_taken_by) := ⟨rfl, rfl, rfl, by decide +kernel, rfl, by decide +kernel, by decide +kernel⟩
theorem taken_by_ok (m : Bt mg) (c_comings : Cal P w K mg base 2 "comings" [] (pr_comings K)) (c_one_way_more : Cal P w K mg base 1 "one_way_more" [] (pr_one_way_more K)) (D : Dfn K mg "taken_by" s_taken_by [] f fd) : Cal P w K mg base 3 "taken_by" [] (pr_taken_by K) := by
  refine D.cal sc_taken_by (fun vs H Q h => len3 h) (fun _ _ _ _ _ _ us hl => match us, hl with | [_, _, _], _ => rfl) fun cdv A outer s H vs Q hr h => ?_
  obtain ⟨va, _, _, rfl, hs, ws, a, b, ha, rfl, rfl, hz, wz, ham, hab, he, q⟩ := inv3 h
  refine ⟨_, pss_cons (ps_set (i := 3) sc_taken_by.nd rfl (Or.inl rfl) (p_dict m (call_dictP rfl) (pa_cons (pe_lst pa_nil) pa_nil)))
    (pss_cons (ps_set (i := 4) sc_taken_by.nd rfl (Or.inl rfl) (p_call c_comings hr (pa_cons (pv 0) (pa_cons (pv 3) (pa_cons (pv 1) pa_nil)))))
    (pss_cons (ps_while PassesOwn.never (pt_cmp (pc_din hr.u1 (pv 2) (pv 4)) rfl)
      (pss_cons (ps_set (i := 3) sc_taken_by.nd rfl (Or.inl rfl) (p_call c_one_way_more hr (pa_cons (pv 0) (pa_cons (pv 3) (pa_cons (pv 4) (pa_cons (pv 1) (pa_cons (pv 2) pa_nil)))))))
      (pss_one (ps_set (i := 4) sc_taken_by.nd rfl (Or.inl rfl) (p_call c_comings hr (pa_cons (pv 0) (pa_cons (pv 3) (pa_cons (pv 1) pa_nil))))))))
    (pss_one (ps_ret (pv 3))))), ?_⟩
  refine ⟨Nat.zero_le _, fun p hp => ?_⟩
  have s1 := same_new (o := .lst []) hp
  refine ⟨p, [], [], rfl, SqL.of upd_same, .nil, fun D hD => ?_⟩
  have s2 := same_tr s1 (same_new (o := .dK []) hD)
  refine ⟨_, rfl, _, rfl, _, rfl, hs, ws, [], a, ha.same s2, ⟨D, rfl, upd_same⟩, rfl, hz, wz, ham, he, fun fv H2 l s3 hfd g c => ?_⟩
  refine ⟨TakW H va hs ws a b, ⟨_, .ref D, fv, [], l, rfl, rfl, same_tr s2 s3, ⟨D, rfl, s3 _ _ upd_same⟩, hfd, Taken.nil hs ws a b, g, c⟩, ?_⟩
  rintro n σ H3 ⟨tv, fv, ks, l, rfl, rfl, s4, ht, ⟨fd', rfl, hf⟩, T, g, c⟩
  refine ⟨_, rfl, _, rfl, fd', _, rfl, DGet.k (k := Sum.inr b) hf, _, rfl, ?_⟩
  rw [fnd_some]
  by_cases cb : b ∈ l.map (·.1)
  · rw [decide_eq_true cb]
    refine ⟨fun σ' H' => ∃ m', m' < _ ∧ TakW H va hs ws a b m' σ' H', fun _ _ h => h, ?_⟩
    refine ⟨_, rfl, _, rfl, _, rfl, _, rfl, _, rfl, hs, ws, ks, l, a, b, ha.same s4, ht, ⟨fd', rfl, hf⟩, rfl, rfl, wz, T, g, cb, hab, fun tv2 H4 ks2 s5 ht2 T2 ev => ?_⟩
    refine ⟨_, rfl, _, rfl, _, rfl, hs, ws, ks2, a, ha.same (same_tr s4 s5), ht2, rfl, hz, wz, ham, he, fun fv2 H5 l2 s6 hf2 g2 c2 => ?_⟩
    refine ⟨_, ?_, tv2, fv2, ks2, l2, rfl, rfl, same_tr s4 (same_tr s5 s6), ht2.same s6, hf2, T2, g2, c2⟩
    have b1 : valueOf ws a ks2 ≤ (ws.length : Int) := K86M.flow_bound (tlW ws) (hdW ws) ws.length (K86M.at1 a) (tk ks2)
    omega
  · rw [decide_eq_false cb]
    exact ⟨_, rfl, q _ _ ks s4 ht T ⟨l, g, c, cb⟩⟩
end
end K86

end

section
set_option Elab.async false
set_option linter.all false
set_option maxRecDepth 100000
set_option maxHeartbeats 2000000
/-! The walks: values, greatest sides, the narrowest house. -/
namespace K86
open PySem PySem.Spec PyProof.Rows L2
open PySem.W (Datum DatumOrd Tup T3 T4 Holds HoldAll)
open K86M (tlW hdW Step Grown Shut Ends Taken valueOf MinOf Great)
theorem fm_len {α β : Type} (p : α → Bool) (g : α → β) (xs : List α) : ((List.range xs.length).filterMap fun i => (xs[i]?.filter p).map g).length = (xs.filter p).length := by
  rw [fm_filter, List.length_map]
theorem filter_same {α : Type} {p q : α → Bool} {l : List α} (h : ∀ x ∈ l, p x = q x) : (l.filter p).length = (l.filter q).length := congrArg List.length (List.filter_congr h)
section
variable {P : Program} {w : World} {K : PySem.W.Frag} {mg : Str → Option Value} {base : Heap} {f : Addr} {fd : FuncData}

def pr_many_of (K : PySem.W.Frag) : Pr := pr3 fun va vt vb H Q => ∃ (ws : List (Str × Str)) (ks : List Nat) (a : Str), Is K H va (Tup.mk ws) ∧ TakD H vt ks ∧ vb = .str a ∧ ws.length ≤ 1000 ∧ ks.Nodup ∧ (∀ i ∈ ks, i < ws.length) ∧ ∀ H', Same H H' → Q (.int (valueOf ws a ks)) H'
theorem sc_many_of : FnScope n_many_of p_many_of (defScope s_many_of) := ⟨rfl, rfl, rfl, by decide +kernel, rfl, by decide +kernel, by decide +kernel⟩
theorem many_of_ok (m : Bt mg)  (D : Dfn K mg "many_of" s_many_of [] f fd) : Cal P w K mg base 1 "many_of" [] (pr_many_of K) := by
  refine D.cal sc_many_of (fun vs H Q h => len3 h) (fun _ _ _ _ _ _ us hl => match us, hl with | [_, _, _], _ => rfl) fun cdv A outer s H vs Q hr h => ?_
  obtain ⟨va, _, _, rfl, ws, ks, a, ha, ⟨d, rfl, hd⟩, rfl, wz, nd, lt, q⟩ := inv3 h
  have few : ks.length ≤ 1000 := by
    have h1 := List.Nodup.length_le_of_subset nd (l₂ := List.range ws.length) fun i hi => List.mem_range.mpr (lt i hi)
    rw [List.length_range] at h1
    omega
  refine ⟨_, pss_cons (ps_set (i := 3) sc_many_of.nd rfl (Or.inl rfl) (p_len m (pa_cons (pe_lock (pe_lc (own := [("index", 4)]) (g := gName 4) rfl sc_many_of.nd (pi_keys (pv 1)) (blkOk_by (N := n_many_of) (sc := defScope s_many_of) (by decide +kernel)) (fun _ _ _ _ _ => (pg_name (i := 4) sc_many_of.nd rfl (.inl rfl)))
      (fun _ _ _ _ _ => pts_one (pt_cmpR op_eq (pe_ix (r := rFst K Str Str) ix_fst (pe_ix (r := rAtT K (Str × Str)) ix_atT (pv 0) (pv 4) (fun _ _ => rfl)) pe_int (fun _ _ => rfl)) (pv 2) (nomark _))) (fun _ _ _ _ _ => pv 4))) pa_nil)))
    (pss_one (ps_ret (pe_op op_sub (pv 3) (p_len m (pa_cons (pe_lock (pe_lc (own := [("index", 4)]) (g := gName 4) rfl sc_many_of.nd (pi_keys (pv 1)) (blkOk_by (N := n_many_of) (sc := defScope s_many_of) (by decide +kernel)) (fun _ _ _ _ _ => (pg_name (i := 4) sc_many_of.nd rfl (.inl rfl)))
      (fun _ _ _ _ _ => pts_one (pt_cmpR op_eq (pe_ix (r := rSnd K Str Str) ix_snd (pe_ix (r := rAtT K (Str × Str)) ix_atT (pv 0) (pv 4) (fun _ _ => rfl)) pe_int (fun _ _ => rfl)) (pv 2) (nomark _))) (fun _ _ _ _ _ => pv 4))) pa_nil))))), ?_⟩
  have el : (takeK ks).length = ks.length := List.length_map ..
  refine ⟨d, _, hd, trivial, fun od => ?_⟩
  have sL1 : ∀ {H1 : Hp}, Same (upd H d (.frz od (.dK (takeK ks)))) H1 → Is K H1 va (Tup.mk ws) := fun {H1} s1 => ha.keep ((keep_dK hd).trans (keep_same s1))
  refine ⟨_, rfl, d, od, rfl, .inl ⟨_, upd_same, fun D hD => lc_data (K := K) walk_keys (fun (i : Nat) => (ks[i]?.filter fun k => decide (tlW ws k = a)).map fun (k : Nat) => (k : Int)) hD (by rw [el]; omega) (fun H1 s1 => s1 _ _ upd_same) ?_ ?_⟩⟩
  · rintro i x H1 H2 Ky Kn hi s1 ⟨rfl, k, v, hkv, rfl⟩ k1 k2
    unfold takeK at hkv
    rw [List.getElem?_map] at hkv
    cases hk : ks[i]? with
    | none => rw [hk] at hkv; cases hkv
    | some j =>
      rw [hk] at hkv
      have hkv := Option.some.inj hkv
      injection hkv with e1 e2
      subst e1
      refine ⟨rfl, ⟨_, rfl, _, rfl, _, j, _, sL1 s1, rfl, K86M.at_tlhd (lt j (List.mem_of_getElem? hk)), fun u hu => ⟨_, hu, rfl, fun u2 hu2 => ?_⟩⟩⟩
      obtain rfl := hu2.str
      refine ⟨_, rfl, rfl, _, rfl, ?_⟩
      by_cases c : tlW ws j = a
      · rw [show decide (V.str (tlW ws j, hdW ws j).1 = V.str a) = true from decide_eq_true (by rw [← c])]
        exact ⟨_, rfl, k1 _ (j : Int) _ (same_refl _) (by rw [hk]; simp [Option.filter, c]) (is_int _)⟩
      · rw [show decide (V.str (tlW ws j, hdW ws j).1 = V.str a) = false from decide_eq_false fun e => c (by injection e)]
        exact k2 _ (same_refl _) (by rw [hk]; simp [Option.filter, c])
  intro H1 ys s1 e1 hy
  refine ⟨s1 _ _ upd_same, ?_⟩
  have s2 : Same H (upd H1 d (.dK (takeK ks))) := Same.of_upd hd s1
  have hdD : D ≠ d := fun e => by rw [e, upd_same] at hD; cases hD
  have ly := hy.length
  rw [el, fm_len] at ly
  refine ⟨D, ys, rfl, .inl (SqL.of (by rw [upd_ne hdD]; exact e1)), ?_⟩
  generalize eG : upd H1 d (.dK (takeK ks)) = G at s2 ⊢
  have hdG : G d = some (.dK (takeK ks)) := s2 _ _ hd
  refine ⟨_, rfl, d, _, hdG, trivial, fun od2 => ?_⟩
  have sL2 : ∀ {H2 : Hp}, Same (upd G d (.frz od2 (.dK (takeK ks)))) H2 → Is K H2 va (Tup.mk ws) := fun {H2} s3 => (ha.same s2).keep ((keep_dK hdG).trans (keep_same s3))
  refine ⟨_, rfl, d, od2, rfl, .inl ⟨_, upd_same, fun D2 hD2 => lc_data (K := K) walk_keys (fun (i : Nat) => (ks[i]?.filter fun k => decide (hdW ws k = a)).map fun (k : Nat) => (k : Int)) hD2 (by rw [el]; omega) (fun H2 s3 => s3 _ _ upd_same) ?_ ?_⟩⟩
  · rintro i x H2 H3 Ky Kn hi s3 ⟨rfl, k, v, hkv, rfl⟩ k1 k2
    unfold takeK at hkv
    rw [List.getElem?_map] at hkv
    cases hk : ks[i]? with
    | none => rw [hk] at hkv; cases hkv
    | some j =>
      rw [hk] at hkv
      have hkv := Option.some.inj hkv
      injection hkv with e1 e2
      subst e1
      refine ⟨rfl, ⟨_, rfl, _, rfl, _, j, _, sL2 s3, rfl, K86M.at_tlhd (lt j (List.mem_of_getElem? hk)), fun u hu => ⟨_, hu, rfl, fun u2 hu2 => ?_⟩⟩⟩
      obtain rfl := hu2.str
      refine ⟨_, rfl, rfl, _, rfl, ?_⟩
      by_cases c : hdW ws j = a
      · rw [show decide (V.str (tlW ws j, hdW ws j).2 = V.str a) = true from decide_eq_true (by rw [← c])]
        exact ⟨_, rfl, k1 _ (j : Int) _ (same_refl _) (by rw [hk]; simp [Option.filter, c]) (is_int _)⟩
      · rw [show decide (V.str (tlW ws j, hdW ws j).2 = V.str a) = false from decide_eq_false fun e => c (by injection e)]
        exact k2 _ (same_refl _) (by rw [hk]; simp [Option.filter, c])
  intro H2 zs s3 e3 hz
  refine ⟨s3 _ _ upd_same, ?_⟩
  have s4 : Same G (upd H2 d (.dK (takeK ks))) := Same.of_upd hdG s3
  have hdD2 : D2 ≠ d := fun e => by rw [e, upd_same] at hD2; cases hD2
  have lz := hz.length
  rw [el, fm_len] at lz
  refine ⟨D2, zs, rfl, .inl (SqL.of (by rw [upd_ne hdD2]; exact e3)), (ys.length : Int), (zs.length : Int), rfl, rfl, ?_⟩
  have ev := K86M.valueOf_count ws a nd lt
  rw [ly, lz]
  show Q (.int (((ks.filter fun i => decide (tlW ws i = a)).length : Int) - ((ks.filter fun i => decide (hdW ws i = a)).length : Int))) _
  rw [← ev]
  exact q _ (same_tr s2 s4)

def pr_greatest_side (K : PySem.W.Frag) : Pr := pr4 fun vh va vb vg H Q => ∃ (hs : List Str) (ws : List (Str × Str)) (a b : Str), Is K H vh (Tup.mk hs) ∧ Is K H va (Tup.mk ws) ∧ vb = .str a ∧ vg = .str b ∧ hs.length ≤ 1000 ∧ ws.length ≤ 1000 ∧ hs.Nodup ∧ a ∈ hs ∧ b ∈ hs ∧ a ≠ b ∧ Ends hs ws ∧
  ∀ v H' lot, Same H H' → Is K H' v (Tup.mk lot) → Great hs ws a b lot → Q v H'
theorem sc_greatest_side : FnScope n_greatest_side p_greatest_side (defScope s_greatest_side) := ⟨rfl, rfl, rfl, by decide +kernel, rfl, by decide +kernel, by decide +kernel⟩
theorem greatest_side_ok (m : Bt mg) (c_taken_by : Cal P w K mg base 3 "taken_by" [] (pr_taken_by K)) (c_comings : Cal P w K mg base 2 "comings" [] (pr_comings K)) (D : Dfn K mg "greatest_side" s_greatest_side [] f fd) : Cal P w K mg base 4 "greatest_side" [] (pr_greatest_side K) := by
  refine D.cal sc_greatest_side (fun vs H Q h => len4 h) (fun _ _ _ _ _ _ us hl => match us, hl with | [_, _, _, _], _ => rfl) fun cdv A outer s H vs Q hr h => ?_
  obtain ⟨vh, va, _, _, rfl, hs, ws, a, b, hh, ha, rfl, rfl, hz, wz, nd, ham, hbm, hab, he, q⟩ := inv4 h
  refine ⟨_, pss_cons (ps_set (i := 4) sc_greatest_side.nd rfl (Or.inr rfl) (p_call c_comings hr (pa_cons (pv 1) (pa_cons (p_call c_taken_by hr (pa_cons (pv 1) (pa_cons (pv 2) (pa_cons (pv 3) pa_nil)))) (pa_cons (pv 2) pa_nil)))))
    (pss_one (ps_ret (p_tuple m call_tuple_of (pa_cons (pe_lc (own := [("house", 5)]) (g := gName 5) rfl sc_greatest_side.nd (pi_tup (pv 0)) (blkOk_by (N := n_greatest_side) (sc := defScope s_greatest_side) (by decide +kernel)) (fun _ _ _ _ _ => (pg_name (i := 5) sc_greatest_side.nd rfl (.inl rfl)))
      (fun _ _ _ _ _ => pts_one (pt_cmp (pc_dnotin hr.u1 (pv 5) (pv 4)) rfl)) (fun _ _ _ _ _ => pv 5)) pa_nil)))), ?_⟩
  refine ⟨_, rfl, _, rfl, _, rfl, _, rfl, hs, ws, a, b, ha, rfl, rfl, hz, wz, ham, hab, he, fun tv H1 ks s1 ht T ⟨l, g, c, hb⟩ => ?_⟩
  refine ⟨_, rfl, hs, ws, ks, a, ha.same s1, ht, rfl, hz, wz, ham, he, fun fv H2 l2 s2 ⟨fd', efv, hf⟩ g2 c2 => ?_⟩
  subst efv
  have hb2 : b ∉ l2.map (·.1) := fun z => hb (g2.within _ _ _ (g.first _ _ _) c b z)
  have GR := T.great nd ham hbm hab he c2 g2 hb2
  obtain ⟨ha', hv, rfl, hq, hvs⟩ := (hh.same (same_tr s1 s2)).tup
  have hl : hv.length = hs.length := hvs.length
  refine ⟨_, rfl, ha', rfl, ⟨_, hq⟩, fun D hD => lc_data (K := K) walk_tup (fun (i : Nat) => (hs[i]?.filter fun x => decide (x ∉ l2.map (·.1))).map id) hD (by omega) (fun H3 s3 => sqT_same s3 hq) ?_ ?_⟩
  · rintro i x H3 H4 Ky Kn hi s3 ⟨rfl, hx⟩ k1 k2
    obtain ⟨z, hz1, hz2⟩ := hvs.at hx
    obtain rfl := hz2.str
    have hz1 : hs[i]? = some z := hz1
    refine ⟨rfl, _, rfl, _, rfl, fd', _, rfl, DGet.k (k := Sum.inr z) (s3 _ _ hf), _, rfl, ?_⟩
    rw [fnd_some]
    by_cases c : z ∈ l2.map (·.1)
    · rw [decide_eq_true c]
      exact k2 _ (same_refl _) (by rw [hz1]; simp only [Option.filter, decide_eq_false (not_not_intro c)]; rfl)
    · rw [decide_eq_false c]
      exact ⟨_, rfl, k1 _ z _ (same_refl _) (by rw [hz1]; simp only [Option.filter, decide_eq_true c]; rfl) (is_str z)⟩
  · intro H3 ys s3 e3 hy
    rw [hl, fm_filter, List.map_id] at hy
    exact ⟨D, ys, rfl, .inl ⟨SqL.of e3, fun p hp => q _ _ _ (same_tr (same_tr s1 s2) (same_tr s3 (same_new hp))) (is_tup (SqT.of upd_same) (hy.same (same_new hp))) GR⟩⟩

def pr_alone_by (K : PySem.W.Frag) : Pr := pr3 fun n x y H Q => ∃ (hs : List Str) (ws : List (Str × Str)) (r b : Str), Is K H n (net hs ws) ∧ x = .str r ∧ y = .str b ∧ hs.length ≤ 1000 ∧ ws.length ≤ 1000 ∧ hs.Nodup ∧ r ∈ hs ∧ b ∈ hs ∧ r ≠ b ∧ Ends hs ws ∧
  ∀ H', Same H H' → Q (.int (minAt ws r b)) H'
theorem sc_alone_by : FnScope n_alone_by p_alone_by (defScope s_alone_by) := ⟨rfl, rfl, rfl, by decide +kernel, rfl, by decide +kernel, by decide +kernel⟩
theorem alone_by_ok (m : Bt mg) (c_many_of : Cal P w K mg base 1 "many_of" [] (pr_many_of K)) (c_taken_by : Cal P w K mg base 3 "taken_by" [] (pr_taken_by K)) (D : Dfn K mg "alone_by" s_alone_by [] f fd) : Cal P w K mg base 4 "alone_by" [] (pr_alone_by K) := by
  refine D.cal sc_alone_by (fun vs H Q h => len3 h) (fun _ _ _ _ _ _ us hl => match us, hl with | [_, _, _], _ => rfl) fun cdv A outer s H vs Q hr h => ?_
  obtain ⟨n, _, _, rfl, hs, ws, r, b, hn, rfl, rfl, hz, wz, nd, hrm, hbm, hne, he, q⟩ := inv3 h
  refine ⟨_, pss_one (ps_ret (p_call c_many_of hr (pa_cons (pe_ix (r := rSnd K (Tup Str) (Tup (Str × Str))) ix_snd (pv 0) pe_int (fun _ _ => rfl)) (pa_cons (p_call c_taken_by hr (pa_cons (pe_ix (r := rSnd K (Tup Str) (Tup (Str × Str))) ix_snd (pv 0) pe_int (fun _ _ => rfl)) (pa_cons (pv 1) (pa_cons (pv 2) pa_nil)))) (pa_cons (pv 1) pa_nil))))), ?_⟩
  refine ⟨_, rfl, _, hn, rfl, fun u hu => ?_⟩
  refine ⟨_, rfl, _, hn, rfl, fun u2 hu2 => ?_⟩
  refine ⟨_, rfl, _, rfl, hs, ws, r, b, hu2, rfl, rfl, hz, wz, hrm, hne, he, fun tv H1 ks s1 ht T ⟨l, g, c, hb⟩ => ?_⟩
  refine ⟨_, rfl, ws, ks, r, hu.same s1, ht, rfl, wz, T.nd, T.lt, fun H2 s2 => ?_⟩
  obtain ⟨mm, e1, e2, _⟩ := T.min nd hrm hbm hne he c g hb
  rw [e1, ← minAt_eq e2]
  exact q _ (same_tr s1 s2)

def pr_narrow_by (K : PySem.W.Frag) : Pr := pr2 fun n x H Q => ∃ (hs : List Str) (ws : List (Str × Str)) (r : Str), Is K H n (net hs ws) ∧ x = .str r ∧ hs.length ≤ 1000 ∧ ws.length ≤ 1000 ∧ hs.Nodup ∧ r ∈ hs ∧ Ends hs ws ∧
  (oth hs r = [] → ∀ H', Same H H' → Q .non H') ∧ ∀ v H' (mm : Nat) (lot : List Str), Same H H' → Narrow hs ws r mm → Is K H' v ((mm : Int), Tup.mk lot) → Q v H'
theorem sc_narrow_by : FnScope n_narrow_by p_narrow_by (defScope s_narrow_by) := ⟨rfl, rfl, rfl, by decide +kernel, rfl, by decide +kernel, by decide +kernel⟩
theorem narrow_by_ok (m : Bt mg) (c_alone_by : Cal P w K mg base 4 "alone_by" [] (pr_alone_by K)) (c_others_of : Cal P w K mg base 1 "others_of" [] (pr_others_of K)) (c_greatest_side : Cal P w K mg base 4 "greatest_side" [] (pr_greatest_side K)) (D : Dfn K mg "narrow_by" s_narrow_by [] f fd) : Cal P w K mg base 5 "narrow_by" [] (pr_narrow_by K) := by
  refine D.cal sc_narrow_by (fun vs H Q h => len2 h) (fun _ _ _ _ _ _ us hl => match us, hl with | [_, _], _ => rfl) fun cdv A outer s H vs Q hr h => ?_
  obtain ⟨n, _, rfl, hs, ws, r, hn, rfl, hz, wz, nd, hrm, he, q0, q⟩ := inv2 h
  refine ⟨_, pss_cons (ps_setLc (i := 2) (own := [("house", 3)]) (g := gName 3) (tt := tYes) rfl sc_narrow_by.nd rfl rfl (sw_true rfl rfl rfl (by decide +kernel)) (pi_tup (p_call c_others_of hr (pa_cons (pv 0) (pa_cons (pv 1) pa_nil)))) (blkOk_by (N := n_narrow_by) (sc := defScope s_narrow_by) (by decide +kernel)) (fun _ _ _ _ _ => (pg_name (i := 3) sc_narrow_by.nd rfl (.inl rfl))) (fun _ _ _ _ _ => pts_nil)
      (fun _ _ _ _ _ => pe_tup (pa_cons (p_call c_alone_by hr (pa_cons (pv 0) (pa_cons (pv 1) (pa_cons (pv 3) pa_nil)))) (pa_cons (pv 3) pa_nil))))
    (pss_cons (ps_if (pt_cmpR (op_eqT (α := List (Int × Str)) hr.u) (pv 2) (pe_lst pa_nil) (nomark _)) (pss_one (ps_ret pe_non)) pss_nil)
    (pss_cons (ps_asg (p_min m (cr_minT (α := Int × Str) rfl hr.u) (pa_cons (pv 2) pa_nil)) (pg_tup rfl (pgs_cons (pg_name (i := 4) sc_narrow_by.nd rfl (.inl rfl)) (pgs_cons (pg_name (i := 3) sc_narrow_by.nd rfl (.inl rfl)) pgs_nil))))
    (pss_one (ps_ret (pe_tup (pa_cons (pv 4) (pa_cons (p_call c_greatest_side hr (pa_cons (pe_ix (r := rFst K (Tup Str) (Tup (Str × Str))) ix_fst (pv 0) pe_int (fun _ _ => rfl)) (pa_cons (pe_ix (r := rSnd K (Tup Str) (Tup (Str × Str))) ix_snd (pv 0) pe_int (fun _ _ => rfl)) (pa_cons (pv 1) (pa_cons (pv 3) pa_nil))))) pa_nil))))))), ?_⟩
  refine ⟨_, rfl, _, rfl, hs, ws, r, hn, rfl, hz, fun v H1 s1 hv => ?_⟩
  obtain ⟨oa, ov, rfl, oq, oh⟩ := hv.tup
  have hl : ov.length = (oth hs r).length := oh.length
  have lo : (oth hs r).length ≤ hs.length := List.length_filter_le _ _
  refine ⟨oa, rfl, ⟨_, oq⟩, fun D hD => lc_data (K := K) walk_tup (fun (i : Nat) => (oth hs r)[i]?.map fun z => ((minAt ws r z : Int), z)) hD (by omega) (fun H2 s2 => sqT_same s2 oq) ?_ ?_⟩
  · rintro i x H2 H3 Ky Kn hi s2 ⟨rfl, hx⟩ k1 k2
    obtain ⟨z, hz1, hz2⟩ := oh.at hx
    obtain rfl := hz2.str
    have hz1 : (oth hs r)[i]? = some z := hz1
    have hm := mem_oth.mp (List.mem_of_getElem? hz1)
    refine ⟨rfl, _, rfl, _, rfl, _, rfl, hs, ws, r, z, hn.same (same_tr s1 s2), rfl, rfl, hz, wz, nd, hrm, hm.1, Ne.symm hm.2, he, fun H4 s4 => ?_⟩
    refine ⟨_, rfl, by show 2 ≤ sizeLine; decide, fun p hp => ?_⟩
    exact k1 _ ((minAt ws r z : Int), z) _ (same_tr s4 (same_new hp)) (by rw [hz1]; rfl) (is_pair (SqT.of upd_same) (is_int _) (is_str _))
  intro H2 ys s2 e2 hy
  rw [hl, fm_map] at hy
  refine ⟨_, rfl, Nat.zero_le _, fun p hp => ?_⟩
  have sp := same_new (o := .lst []) hp
  have s3 := same_tr s1 (same_tr s2 sp)
  have hL : Is K (upd H2 p (.lst [])) (.ref D) ((oth hs r).map fun z => ((minAt ws r z : Int), z)) := is_lst (SqL.of (sp _ _ e2)) (hy.same sp)
  refine ⟨_, ([] : List (Int × Str)), hL, is_lst (SqL.of upd_same) .nil, _, rfl, ?_⟩
  cases eo : oth hs r with
  | nil => exact q0 eo _ s3
  | cons z zs =>
    rw [eo] at hL
    refine ⟨_, rfl, .ref D, _, _, rfl, hL, fun u hu => ?_⟩
    obtain ⟨a, u1, u2, rfl, aq, h1, h2⟩ := hu.pair
    refine ⟨a, _, rfl, aq, rfl, _, _, rfl, _, _, rfl, rfl, ?_⟩
    have hmem := minOf_mem ((minAt ws r z : Int), z) (zs.map fun z => ((minAt ws r z : Int), z))
    have hle := minOf_le ((minAt ws r z : Int), z) (zs.map fun z => ((minAt ws r z : Int), z))
    generalize PySem.W.minOf ((minAt ws r z : Int), z) (zs.map fun z => ((minAt ws r z : Int), z)) = mo at hmem hle h1 h2
    have hmem' : mo ∈ (oth hs r).map fun z => ((minAt ws r z : Int), z) := by rw [eo]; exact hmem
    obtain ⟨y, hy1, rfl⟩ := List.mem_map.mp hmem'
    have hyo := mem_oth.mp hy1
    obtain rfl := h1.int
    obtain rfl := h2.str
    have N : Narrow hs ws r (minAt ws r y) := by
      refine ⟨⟨y, hy1, min_ex ws hyo.2⟩, fun x hx m' hm' => ?_⟩
      rw [← minAt_eq hm']
      have hx' : ((minAt ws r x : Int), x) ∈ ((minAt ws r z : Int), z) :: zs.map fun z => ((minAt ws r z : Int), z) := by
        have : ((minAt ws r x : Int), x) ∈ (oth hs r).map fun z => ((minAt ws r z : Int), z) := List.mem_map.mpr ⟨x, hx, rfl⟩
        rw [eo] at this
        exact this
      have := hle _ hx'
      rw [leO_iff, pair_lt] at this
      by_cases e : (minAt ws r x : Int) = (minAt ws r y : Int)
      · omega
      · rw [if_neg e] at this
        have : ¬ ((minAt ws r x : Int) < (minAt ws r y : Int)) := of_decide_eq_false this
        omega
    refine ⟨_, rfl, _, rfl, _, hn.same s3, rfl, fun u3 hu3 => ?_⟩
    refine ⟨_, rfl, _, hn.same s3, rfl, fun u4 hu4 => ?_⟩
    refine ⟨_, rfl, _, rfl, hs, ws, r, y, hu3, hu4, rfl, rfl, hz, wz, nd, hrm, hyo.1, Ne.symm hyo.2, he, fun v5 H5 lot s5 h5 _ => ?_⟩
    refine ⟨by show 2 ≤ sizeLine; decide, fun p6 hp6 => ?_⟩
    exact q _ _ _ lot (same_tr s3 (same_tr s5 (same_new hp6))) N (is_pair (SqT.of upd_same) (is_int _) (h5.same (same_new hp6)))
end
end K86

end

section
set_option Elab.async false
set_option linter.all false
set_option maxRecDepth 100000
set_option maxHeartbeats 2000000
/-! The walks: the fewest wires more. -/
namespace K86
open PySem PySem.Spec PyProof.Rows L2
open PySem.W (Datum DatumOrd Tup T3 T4 Holds HoldAll)
open K86M (tlW hdW Ends MinOf Great pairsOf setM Fit Fewest total Wide)
def manyK (l : List (Str × Nat)) : List (Key × V) := l.map fun p => (Sum.inr p.1, .int (p.2 : Int))
theorem many_val {l : List (Str × Nat)} (nd : (l.map (·.1)).Nodup) {h : Str} {m : Nat} (hm : (h, m) ∈ l) : valV (manyK l) (Sum.inr h) = some (.int (m : Int)) := by
  induction l with
  | nil => cases hm
  | cons p l ih =>
    rw [List.map_cons, List.nodup_cons] at nd
    unfold manyK at ih ⊢
    rcases List.mem_cons.mp hm with e | hm
    · rw [List.map_cons, valV_pos (by rw [← e]), ← e]
    · rw [List.map_cons, valV_neg (fun q => nd.1 (by rw [Sum.inr.inj q]; exact List.mem_map.mpr ⟨_, hm, rfl⟩)), ih nd.2 hm]
theorem many_put {l : List (Str × Nat)} {h : Str} (hm : h ∈ l.map (·.1)) (m : Nat) : putK (manyK l) (Sum.inr h) (.int (m : Int)) = manyK (setM l h m) := by
  unfold putK
  have : ((manyK l).any fun kv => decide (kv.1 = (Sum.inr h : Key))) = true := by
    obtain ⟨p, hp, e⟩ := List.mem_map.mp hm
    rw [List.any_eq_true]
    exact ⟨(Sum.inr p.1, .int (p.2 : Int)), List.mem_map.mpr ⟨p, hp, rfl⟩, decide_eq_true (by rw [e])⟩
  rw [if_pos this]
  unfold manyK setM
  rw [List.map_map, List.map_map]
  refine List.map_congr_left fun p _ => ?_
  show (if (Sum.inr p.1 : Key) = Sum.inr h then _ else _) = _
  by_cases e : p.1 = h
  · rw [if_pos (by rw [e])]
    simp [e]
  · rw [if_neg fun q => e (Sum.inr.inj q)]
    simp [e]
theorem up_of_sortedS : ∀ {xs : List Str}, sortedS xs = true → Up xs
  | [], _ => List.Pairwise.nil
  | [x], _ => List.pairwise_singleton _ _
  | x :: y :: r, h => by
    have h : (!ltCps y.cps.toList x.cps.toList && risingS y r) = true := h
    rw [Bool.and_eq_true] at h
    have ih : Up (y :: r) := up_of_sortedS (xs := y :: r) h.2
    have hxy : leO x y = true := by
      unfold leO
      show (!decide (y.cps.toList < x.cps.toList)) = true
      rw [← ltCps_eq]
      exact h.1
    refine List.pairwise_cons.mpr ⟨fun z hz => ?_, ih⟩
    rcases List.mem_cons.mp hz with e | hz
    · rw [e]; exact hxy
    · exact leO_tr _ _ _ hxy ((List.pairwise_cons.mp ih).1 z hz)
theorem flat_one {α : Type} (x : α) : ∀ n : Nat, (List.replicate n [x]).flatten = List.replicate n x
  | 0 => rfl
  | n + 1 => by rw [List.replicate_succ, List.flatten_cons, flat_one x n, List.replicate_succ]; rfl
theorem rep_isAll {K : PySem.W.Frag} {H : Hp} {α : Type} [DecidableEq α] [Datum α] {v : V} {x : α} (h : Is K H v x) : ∀ n : Nat, IsAll K H (List.replicate n v) (List.replicate n x)
  | 0 => .nil
  | n + 1 => by rw [List.replicate_succ, List.replicate_succ]; exact .cons h (rep_isAll h n)
/-- name = {..} on one line, the name a local -/
theorem ps_setDc {X : Cx} {i : Nat} {y : Str} {py : Pos} {kx vx tg iter : Expr} {ifs : List Expr} {scope : Scope} {own : List (Str × Nat)} {pos spos : Pos} {wi : TI} {g : TG} {tt : TT} {te tv : TE} (hc : X.calm = true) (hN : X.N.Nodup) (hy : X.N[i]? = some y) (hyl : X.env.scope.names.lookup y = some .local)
    (hsw : swapsWith (.DictComp kx vx [⟨tg, iter, ifs, 0⟩] scope pos) (some (.Name y py)) spos.line X.env = pure true) (hi : PI X tg iter wi) (ok : BlkOk X.N X.env.scope scope own)
    (hg : ∀ (s : Shared) (H : Hp) (C : Addr) (cl : List (Str × Addr)) (fp : List Addr), PG (X.blk s H scope (compEnvC scope cl C X.env) fp) tg g) (ht : ∀ (s : Shared) (H : Hp) (C : Addr) (cl : List (Str × Addr)) (fp : List Addr), PTs (X.blk s H scope (compEnvC scope cl C X.env) fp) ifs tt)
    (hk : ∀ (s : Shared) (H : Hp) (C : Addr) (cl : List (Str × Addr)) (fp : List Addr), PE (X.blk s H scope (compEnvC scope cl C X.env) fp) kx te) (he : ∀ (s : Shared) (H : Hp) (C : Addr) (cl : List (Str × Addr)) (fp : List Addr), PE (X.blk s H scope (compEnvC scope cl C X.env) fp) vx tv) (hs : ∀ x, foldedSetIterable iter X.env x = pure x := by intro _; rfl) :
    PS X (.Assign [.Name y py] (.DictComp kx vx [⟨tg, iter, ifs, 0⟩] scope pos) spos) (tAsg (tDc wi g tt te tv (own.map (·.2))) (gName i)) := by
  refine ⟨fun pins s σ H D I h => ?_⟩
  rw [exec_Assign_Name_used _ _ _ _ hsw]
  refine wpAny_bind (wpAny_standAt (wpAny_bind ?_))
  show wpAny _ X.A (do let _ ← comprehension (.DictComp kx vx [⟨tg, iter, ifs, 0⟩] scope pos) scope X.env (firstIterPos [⟨tg, iter, ifs, 0⟩] pos) newDict false (eval iter X.env) (some (assign (.Name y py) X.env))) _ _ s
  have h : tDc wi g tt te tv (own.map (·.2)) σ H (fun x H1 => gName i x σ H1 D.nx) := h
  refine wpAny_bind (thn (dc_core (Qf := fun _ s' => SP X pins D .next s') hc hN I hi ok hg ht hk he hs h fun L C s' m H' I' q hn f => ?_) fun _ s' hq => wpAny_pure (wpAny_pure hq))
  show wpAny _ _ (assign (.Name y py) X.env (.ref L)) _ _ _
  refine wpAny_assign_Name (store_ok2 (v := V.ref L) I' hN hy (.inl hyl) rfl (fun s2 I2 ⟨a, sb, ha⟩ => ?_) (.inr hyl))
  obtain ⟨f0, f1, f2, f3, f4, f5⟩ := f
  have haC : C ≠ a := by
    rcases ha with z | z
    · rw [z]; exact f1
    · exact fun e => f4 y a z e.symm
  refine ⟨m, hn.sameBut sb haC, fun h3 sb3 => ?_⟩
  exact ⟨_, H', I2.turned (t' := s2.toks) (fun b o hb e => (sb3.2 b hb).trans e) f0 f1 f3 f4 f5, q⟩
theorem swd_true {kx vx : Expr} {gs : List Comprehension} {scope : Scope} {pos py : Pos} {y : Str} {l : Nat} {env : Env} (hk : env.scope.kind = .function) (hy : env.scope.names.lookup y = some .local) (hl : (py.line == pos.line) = true)
    (ha : (scope.names.any fun (n, k) => n == y && (k == .local || k == .cell)) = false) : swapsWith (.DictComp kx vx gs scope pos) (some (.Name y py)) l env = pure true := by
  have ky : env.kindOf y = some .local := hy
  have hb : env.blockKind = .function := by unfold Env.blockKind; rw [hk]; rfl
  unfold swapsWith
  simp only [hb, ky, ha, Expr.pos, hl]
  rfl
section
variable {P : Program} {w : World} {K : PySem.W.Frag} {mg : Str → Option Value} {base : Heap} {f : Addr} {fd : FuncData}

def pr_pairs_by (K : PySem.W.Frag) : Pr := pr2 fun x vm H Q => ∃ (r : Str) (d : Addr) (l : List (Str × Nat)), x = .str r ∧ vm = .ref d ∧ H d = some (.dK (manyK l)) ∧ UpS (l.map (·.1)) ∧ l.length < 60 ∧ total l ≤ 1000 ∧
  ∀ p vs H', Same H H' → H p = none → H' p = some (.lst vs) → IsAll K H' vs (pairsOf r l) → Q (.ref p) H'
theorem sc_pairs_by : FnScope n_pairs_by p_pairs_by (defScope s_pairs_by) := ⟨rfl, rfl, rfl, by decide +kernel, rfl, by decide +kernel, by decide +kernel⟩
theorem pairs_by_ok (m : Bt mg)  (D : Dfn K mg "pairs_by" s_pairs_by [] f fd) : Cal P w K mg base 1 "pairs_by" [] (pr_pairs_by K) := by
  refine D.cal sc_pairs_by (fun vs H Q h => len2 h) (fun _ _ _ _ _ _ us hl => match us, hl with | [_, _], _ => rfl) fun cdv A outer s H vs Q hr h => ?_
  obtain ⟨_, _, rfl, r, d, l, rfl, rfl, hd, up, h60, htot, q⟩ := inv2 h
  have nd := up.nodup
  refine ⟨_, pss_cons (ps_set (i := 2) sc_pairs_by.nd rfl (Or.inl rfl) (pe_lst pa_nil))
    (pss_cons (ps_for PassesOwn.never rfl (pi_list (p_sorted m (call_sortedD rfl) (pa_cons (pv 1) pa_nil))) (pg_name (i := 3) sc_pairs_by.nd rfl (.inl rfl))
      (pss_one (ps_expr (pe_bm PySem.F.plainAttrs_list PySem.F.slot_list_extend PySem.F.type_list_extend mt_extend (pv 2) (pa_cons (pe_op op_rep (pe_lst (pa_cons (pe_tup (pa_cons (pv 0) (pa_cons (pv 3) pa_nil))) pa_nil)) (pe_dget hr.u1 (pv 1) (pv 3) (fun _ _ => rfl))) pa_nil)))))
    (pss_one (ps_ret (pv 2)))), ?_⟩
  refine ⟨Nat.zero_le _, fun F hF => ?_⟩
  have s1 := same_new (o := .lst []) hF
  refine ⟨_, rfl, d, manyK l, l.map (·.1), rfl, .inl (s1 _ _ hd), ?_, by rw [List.length_map]; omega, fun ys p pm srt' hp => ?_⟩
  · unfold manyK
    rw [List.map_map, List.map_map]
    rfl
  have ey : ys = l.map (·.1) := up_same (up_of_sortedS srt') up.up pm
  subst ey
  have hpF : p ≠ F := fun e => by rw [e, upd_same] at hp; cases hp
  have s2 := same_tr s1 (same_new (o := .lst ((l.map (·.1)).map V.str)) hp)
  have hpH := free_of s1 hp
  refine ⟨p, rfl, ⟨_, SqL.of upd_same⟩, for_it (walk_list (xs := (l.map (·.1)).map V.str)) (fun i σ H1 => ∃ o3 vs, σ = [some (.str r), some (.ref d), some (.ref F), o3] ∧ Same H H1 ∧ H1 F = some (.lst vs) ∧ H1 p = some (.lst ((l.map (·.1)).map V.str)) ∧ IsAll K H1 vs (pairsOf r (l.take i)))
    ⟨none, [], rfl, s2, by rw [upd_ne (Ne.symm hpF)]; exact upd_same, upd_same, .nil⟩ (fun i σ H1 _ ⟨_, _, _, _, _, e, _⟩ => SqL.of e) ?_ ?_⟩
  · rintro i x σ H1 H2 hi ⟨o3, vs, rfl, s3, eF, ep, hvs⟩ ⟨rfl, hx⟩
    rw [List.getElem?_map, List.getElem?_map] at hx
    cases hl : l[i]? with
    | none => rw [hl] at hx; cases hx
    | some hn =>
      obtain ⟨z, n⟩ := hn
      rw [hl] at hx
      obtain rfl : V.str z = x := Option.some.inj hx
      have hmem := List.mem_of_getElem? hl
      have e1 : pairsOf r (l.take (i + 1)) = pairsOf r (l.take i) ++ List.replicate n (r, z) := by
        rw [List.take_add_one, hl]
        unfold K86M.pairsOf
        rw [List.flatMap_append]
        simp
      have e2 : pairsOf r l = pairsOf r (l.take (i + 1)) ++ pairsOf r (l.drop (i + 1)) := by
        unfold K86M.pairsOf
        rw [← List.flatMap_append, List.take_append_drop]
      have lz : (pairsOf r (l.take i)).length + n ≤ 1000 := by
        have := congrArg List.length e2
        rw [K86M.pairs_len, List.length_append, e1, List.length_append, List.length_replicate] at this
        omega
      have lv := hvs.length
      refine ⟨_, rfl, .inl ⟨rfl, _, SqL.of eF⟩, _, rfl, _, rfl, by show 2 ≤ sizeLine; decide, fun p1 n1 => ⟨by show 1 ≤ sizeLine; decide, fun p2 n2 => ?_⟩⟩
      have t1 := same_new (o := .tup [.str r, .str z]) n1
      have t2 := same_new (o := .lst [.ref p1]) n2
      have t12 := same_tr t1 t2
      have gv : DGet (upd (upd H2 p1 (.tup [.str r, .str z])) p2 (.lst [.ref p1])) d (kV (Sum.inr z)) (some (.int (n : Int))) := by
        rw [← many_val nd hmem]
        exact DGet.k (t12 _ _ (s3 _ _ hd))
      refine ⟨_, rfl, _, rfl, d, _, rfl, gv, ?_⟩
      refine ⟨p2, (n : Int), [.ref p1], rfl, rfl, upd_same, by omega, by omega, by rw [Int.toNat_natCast, List.length_singleton, sizeLine_eq]; omega, fun p3 n3 => ?_⟩
      rw [Int.toNat_natCast, flat_one]
      have t3 := same_new (o := .lst (List.replicate n (V.ref p1))) n3
      have t13 := same_tr t12 t3
      have eF3 := t13 _ _ eF
      refine ⟨F, p3, _, _, rfl, rfl, eF3, upd_same, by rw [List.length_replicate, lv, sizeLine_eq]; omega, ?_⟩
      have hpF2 : p ≠ F := hpF
      have k3 : Keep (upd (upd (upd H2 p1 (.tup [.str r, .str z])) p2 (.lst [.ref p1])) p3 (.lst (List.replicate n (V.ref p1)))) (upd (upd (upd (upd H2 p1 (.tup [.str r, .str z])) p2 (.lst [.ref p1])) p3 (.lst (List.replicate n (V.ref p1)))) F (.lst (vs ++ List.replicate n (V.ref p1)))) := keep_lst eF3
      have i1 : Is K (upd H2 p1 (.tup [.str r, .str z])) (.ref p1) (r, z) := is_pair (SqT.of upd_same) (is_str _) (is_str _)
      refine ⟨_, _, rfl, same_at (same_tr s3 t13) hF, upd_same, by rw [upd_ne hpF2]; exact t13 _ _ ep, ?_⟩
      rw [e1]
      exact (hvs.same t13).keep k3 |>.append (rep_isAll ((i1.same (same_tr t2 t3)).keep k3) n)
  · rintro σ H1 ⟨o3, vs, rfl, s3, eF, ep, hvs⟩
    rw [List.length_map, List.length_map, List.take_length] at hvs
    exact ⟨_, rfl, q F vs H1 s3 hF eF hvs⟩
end
end K86

end

section
set_option Elab.async false
set_option linter.all false
set_option maxRecDepth 100000
set_option maxHeartbeats 2000000
/-! The walks: the fewest wires more, their lots. -/
namespace K86
open PySem PySem.Spec PyProof.Rows L2
open PySem.W (Datum DatumOrd Tup T3 T4 Holds HoldAll)
open K86M (tlW hdW Ends MinOf Great pairsOf setM Fit Fewest total Wide)
/-- a comprehension that gives data which stands in R to its turn -/
theorem lc_rel {K : PySem.W.Frag} {α : Type} [DecidableEq α] [Datum α] [Flat α] {J : It} {n : Nat} {G : Hp → Prop} {Y : Nat → Hp → V → Hp → Prop} (w : Walk J n G Y) {g : TG} {tt : TT} {te : TE} {vs : List Nat} {σ : L2.St} {H1 : Hp} {D : Addr} {Qd : Hp → Prop} (R : Nat → α → Prop) (hD : H1 D = none) (hn : n ≤ 1000000)
    (hG : ∀ H, Same H1 H → G H)
    (hs : ∀ (i : Nat) (x : V) (H H' : Hp) (Ky : VK) (Kn : Hp → Prop), i < n → Same H1 H → Y i H x H' → (∀ y b H4, Same H H4 → R i b → Is K H4 y b → Ky y H4) →
      g x (wipe σ vs) H' fun σ2 H2 => wipe σ2 vs = wipe σ vs ∧ tt σ2 H2 fun b H3 => if b = true then te σ2 H3 Ky else Kn H3)
    (hd : ∀ H ys bs, Same H1 H → H D = some (.lst ys) → IsAll K H ys bs → bs.length = n → (∀ i b, bs[i]? = some b → R i b) → Qd H) :
    ∃ W : Nat → Nat → Hp → Prop, (∃ m, W 0 m (upd H1 D (.lst []))) ∧ ∀ i m H, W i m H →
      (J.stop i H ∧ Qd H) ∨ (J.go i H ∧ ∃ Nx : Hp → Prop, (∀ H', Nx H' → ∃ m', m' < m ∧ W (i + 1) m' H') ∧ ∀ x H', J.yld i H x H' → g x (wipe σ vs) H' fun σ2 H2 => wipe σ2 vs = wipe σ vs ∧ tt σ2 H2 fun b H3 =>
        if b = true then te σ2 H3 fun y H4 => ∃ acc, H4 D = some (.lst acc) ∧ acc.length < sizeLine ∧ Nx (upd H4 D (.lst (acc ++ [y]))) else Nx H3) := by
  refine lc_it w (fun i H => ∃ ys bs, Same H1 H ∧ H D = some (.lst ys) ∧ IsAll K H ys bs ∧ bs.length = i ∧ ∀ j b, bs[j]? = some b → R j b) ⟨[], [], same_new hD, upd_same, .nil, rfl, fun j b h => by simp at h⟩ (fun i H _ ⟨ys, _, s, _⟩ => hG H s) ?_ fun H ⟨ys, bs, s, e, h, l, r⟩ => hd H ys bs s e h l r
  intro i x H H' hi ⟨ys, bs, s, e, h, l, r⟩ hy
  refine hs i x H H' _ _ hi s hy fun y b H4 s4 rb hb => ?_
  have e4 := s4 _ _ e
  refine ⟨ys, e4, by rw [h.length, l, sizeLine_eq]; omega, ys ++ [y], bs ++ [b], same_at (fun b o q => s4 _ _ (s _ _ q)) hD, upd_same, (((h.keep (keep_same s4)).append (.cons hb .nil)).keep (keep_lst e4)), by rw [List.length_append, l, List.length_singleton], fun j c hj => ?_⟩
  rcases Nat.lt_or_ge j bs.length with z | z
  · rw [List.getElem?_append_left z] at hj
    exact r j c hj
  · rw [List.getElem?_append_right z] at hj
    have hz : j - bs.length = 0 := by
      have := (List.getElem?_eq_some_iff.mp hj).1
      rw [List.length_singleton] at this
      omega
    rw [hz] at hj
    have ec : b = c := Option.some.inj hj
    have ej : j = i := by omega
    rw [← ec, ej]
    exact rb
theorem total_le {k : Nat} : ∀ {many : List (Str × Nat)}, (∀ p ∈ many, p.2 ≤ k) → total many ≤ k * many.length
  | [], _ => Nat.zero_le _
  | p :: many, h => by
    have h1 := total_le (many := many) fun q hq => h q (List.mem_cons_of_mem _ hq)
    have h2 := h p (List.mem_cons_self ..)
    unfold total at h1 ⊢
    rw [List.map_cons, List.sum_cons, List.length_cons, Nat.mul_succ]
    omega
section
variable {hs : List Str} {ws : List (Str × Str)} {r : Str}
theorem NetOk.nd (ok : NetOk hs ws) : hs.Nodup := ok.up.nodup
theorem NetOk.ends' (ok : NetOk hs ws) : Ends hs ws := fun w hw => ⟨(ok.ends w hw).1, (ok.ends w hw).2.1⟩
theorem oth_up (ok : NetOk hs ws) : UpS (oth hs r) := ok.up.filter _
theorem oth_len (ok : NetOk hs ws) : (oth hs r).length ≤ 4 := Nat.le_trans (List.length_filter_le _ _) ok.fewH
theorem Fewest.tot {k : Nat} {many : List (Str × Nat)} (ok : NetOk hs ws) (F : Fewest hs (oth hs r) r ws k many) (hk : k ≤ 9) : total many ≤ 36 := by
  have h1 := total_le F.le
  have h2 : many.length = (oth hs r).length := by rw [← F.keys, List.length_map]
  have h3 := oth_len (r := r) ok
  have : k * many.length ≤ 9 * 4 := Nat.mul_le_mul hk (by omega)
  omega
theorem pairs_in {many : List (Str × Nat)} (hm : many.map (·.1) = oth hs r) {x : Str × Str} (hx : x ∈ pairsOf r many) : x.1 = r ∧ x.2 ∈ hs ∧ x.2 ≠ r := by
  obtain ⟨p, hp, e, _⟩ := K86M.pairs_mem hx
  have : p.1 ∈ oth hs r := by rw [← hm]; exact List.mem_map.mpr ⟨p, hp, rfl⟩
  have := mem_oth.mp this
  rw [e]
  exact ⟨rfl, this.1, this.2⟩
/-- the network with wires more -/
theorem wide_ok (ok : NetOk hs ws) (hr : r ∈ hs) {many : List (Str × Nat)} (hm : many.map (·.1) = oth hs r) : Ends hs (srt (ws ++ pairsOf r many)) := fun w hw => by
  rcases List.mem_append.mp (srt_mem.mp hw) with h | h
  · exact ok.ends' w h
  · obtain ⟨e1, e2, _⟩ := pairs_in hm h
    rw [e1]
    exact ⟨hr, e2⟩
end
section
variable {P : Program} {w : World} {K : PySem.W.Frag} {mg : Str → Option Value} {base : Heap} {f : Addr} {fd : FuncData}

def pr_many_by (K : PySem.W.Frag) : Pr := pr3 fun n x kv H Q => ∃ (hs : List Str) (ws : List (Str × Str)) (r : Str) (k : Nat), Is K H n (net hs ws) ∧ NetOk hs ws ∧ x = .str r ∧ r ∈ hs ∧ kv = .int (k : Int) ∧ k ≤ 9 ∧
  ∀ d H' many, Same H H' → H' d = some (.dK (manyK many)) → Fewest hs (oth hs r) r ws k many → Q (.ref d) H'
theorem sc_many_by : FnScope n_many_by p_many_by (defScope s_many_by) := ⟨rfl, rfl, rfl, by decide +kernel, rfl, by decide +kernel, by decide +kernel⟩
theorem many_by_ok (m : Bt mg) (c_others_of : Cal P w K mg base 1 "others_of" [] (pr_others_of K)) (c_net_of : Cal P w K mg base 1 "net_of" [] (pr_net_of K)) (c_pairs_by : Cal P w K mg base 1 "pairs_by" [] (pr_pairs_by K)) (c_alone_by : Cal P w K mg base 4 "alone_by" [] (pr_alone_by K)) (D : Dfn K mg "many_by" s_many_by [] f fd) : Cal P w K mg base 5 "many_by" [] (pr_many_by K) := by
  refine D.cal sc_many_by (fun vs H Q h => len3 h) (fun _ _ _ _ _ _ us hl => match us, hl with | [_, _, _], _ => rfl) fun cdv A outer s H vs Q hr h => ?_
  obtain ⟨n, _, _, rfl, hs, ws, r, k, hn, ok, rfl, hrm, rfl, hk9, q⟩ := inv3 h
  have fh := ok.fewH
  have fw := ok.fewW
  refine ⟨_, pss_cons (ps_setDc (i := 3) (own := [("house", 4)]) (g := gName 4) (tt := tYes) rfl sc_many_by.nd rfl rfl (swd_true rfl rfl rfl (by decide +kernel)) (pi_tup (p_call c_others_of hr (pa_cons (pv 0) (pa_cons (pv 1) pa_nil)))) (blkOk_by (N := n_many_by) (sc := defScope s_many_by) (by decide +kernel)) (fun _ _ _ _ _ => (pg_name (i := 4) sc_many_by.nd rfl (.inl rfl))) (fun _ _ _ _ _ => pts_nil) (fun _ _ _ _ _ => pv 4) (fun _ _ _ _ _ => pv 2))
    (pss_cons (ps_for PassesOwn.never rfl (pi_tup (p_call c_others_of hr (pa_cons (pv 0) (pa_cons (pv 1) pa_nil)))) (pg_name (i := 4) sc_many_by.nd rfl (.inl rfl))
      (pss_cons (ps_dput hr.u1 (pv 3) (pv 4) pe_int rfl)
      (pss_cons (ps_set (i := 5) sc_many_by.nd rfl (Or.inl rfl) (p_call c_net_of hr (pa_cons (pe_ix (r := rFst K (Tup Str) (Tup (Str × Str))) ix_fst (pv 0) pe_int (fun _ _ => rfl)) (pa_cons (pe_lst (StX.pa_star (pe_ix (r := rSnd K (Tup Str) (Tup (Str × Str))) ix_snd (pv 0) pe_int (fun _ _ => rfl)) (StX.pa_star (p_call c_pairs_by hr (pa_cons (pv 1) (pa_cons (pv 3) pa_nil))) pa_nil))) pa_nil))))
      (pss_one (ps_dput hr.u1 (pv 3) (pv 4) (p_max m (cr_max rfl) (pa_cons (pe_lst (pa_cons pe_int (pa_cons (pe_op op_sub (pv 2) (p_call c_alone_by hr (pa_cons (pv 5) (pa_cons (pv 1) (pa_cons (pv 4) pa_nil))))) pa_nil))) pa_nil)) rfl)))))
    (pss_one (ps_ret (pv 3)))), ?_⟩
  refine ⟨_, rfl, _, rfl, hs, ws, r, hn, rfl, by omega, fun v H1 s1 hv => ?_⟩
  obtain ⟨oa, ov, rfl, oq, oh⟩ := hv.tup
  have eo := isAll_strs oh
  subst eo
  have on := (oth_up (r := r) ok).nodup
  have ol := oth_len (r := r) ok
  refine ⟨oa, rfl, ⟨_, oq⟩, fun D hD => dc_texts (K := K) (xs := oth hs r) (v := .int (k : Int)) hD oq on (by omega) (fun z H2 Ky hz s2 kk => ⟨rfl, rfl, _, rfl, _, rfl, kk⟩) (fun x σ H Q Q' hq hx => hq _ _ hx) (fun σ H Q Q' hq hx => hq _ _ hx) ?_⟩
  intro H2 s2 eD
  have hDH : H D = none := free_of s1 hD
  have s12 := same_tr s1 s2
  refine ⟨_, rfl, _, rfl, hs, ws, r, hn.same s12, rfl, by omega, fun v3 H3 s3 hv3 => ?_⟩
  obtain ⟨pa, pv', rfl, pq, ph⟩ := hv3.tup
  have ep := isAll_strs ph
  subst ep
  have eD0 : H2 D = some (.dK (manyK ((oth hs r).map fun h => (h, k)))) := by
    rw [eD]
    unfold manyK
    rw [List.map_map]
    rfl
  have hov : List.length ((oth hs r).map V.str) = (oth hs r).length := List.length_map ..
  refine ⟨pa, rfl, ⟨_, pq⟩, for_it walk_tup (fun j σ H4 => ∃ o4 o5 many, σ = [some n, some (.str r), some (.int (k : Int)), some (.ref D), o4, o5] ∧ Same H H4 ∧ SqT K H4 pa ((oth hs r).map V.str) ∧ H4 D = some (.dK (manyK many)) ∧ Fit hs (oth hs r) r ws k many j)
    ⟨none, none, _, rfl, same_tr s12 s3, pq, s3 _ _ eD0, Fit.start fun x hx hne => mem_oth.mpr ⟨hx, hne⟩⟩ (fun j σ H4 _ ⟨_, _, _, _, _, e, _⟩ => e) ?_ ?_⟩
  · rintro j x σ H4 H5 hj ⟨o4, o5, many, rfl, s4, pq4, eD4, F⟩ ⟨rfl, hx⟩
    have hx : ((oth hs r).map V.str)[j]? = some x := hx
    rw [List.getElem?_map] at hx
    cases hz : (oth hs r)[j]? with
    | none => rw [hz] at hx; cases hx
    | some z =>
      rw [hz] at hx
      obtain rfl : V.str z = x := Option.some.inj hx
      have zo := mem_oth.mp (List.mem_of_getElem? hz)
      have zk : z ∈ many.map (·.1) := by rw [F.keys]; exact List.mem_of_getElem? hz
      have ml : many.length ≤ 4 := by
        have := congrArg List.length F.keys
        rw [List.length_map] at this
        omega
      have mk0 : (setM many z 0).map (·.1) = oth hs r := by rw [K86M.setM_keys, F.keys]
      have le0 : ∀ p ∈ setM many z 0, p.2 ≤ k := fun p hp => by
        unfold K86M.setM at hp
        obtain ⟨q, hq, e⟩ := List.mem_map.mp hp
        rw [← e]
        split
        · exact Nat.zero_le _
        · exact F.le q hq
      have tot0 : total (setM many z 0) ≤ 36 := by
        have h1 := total_le le0
        have h2 : (setM many z 0).length = many.length := by unfold K86M.setM; rw [List.length_map]
        have : k * (setM many z 0).length ≤ 9 * 4 := Nat.mul_le_mul hk9 (by omega)
        omega
      have e0 : putK (manyK many) (Sum.inr z) (.int 0) = manyK (setM many z 0) := many_put zk 0
      refine ⟨_, rfl, _, rfl, D, _, rfl, DPut.k (k := Sum.inr z) eD4 (by unfold manyK; rw [List.length_map, sizeLine_eq]; omega), ?_⟩
      rw [e0]
      have s5 : Same H (upd H5 D (.dK (manyK (setM many z 0)))) := same_at s4 hDH
      have pq5 : SqT K (upd H5 D (.dK (manyK (setM many z 0)))) pa ((oth hs r).map V.str) := (keep_dK eD4).seqT pq4
      have eD5 : upd H5 D (.dK (manyK (setM many z 0))) D = some (.dK (manyK (setM many z 0))) := upd_same
      generalize upd H5 D (.dK (manyK (setM many z 0))) = H6 at s5 pq5 eD5 ⊢
      refine ⟨_, rfl, _, hn.same s5, rfl, fun u hu => ?_⟩
      refine ⟨_, rfl, _, hn.same s5, rfl, fun u2 hu2 => ?_⟩
      obtain ⟨wa, wv, rfl, wq, wh⟩ := hu2.tup
      have wl : wv.length = ws.length := wh.length
      refine ⟨wa, wv, rfl, .inl wq, ?_⟩
      refine ⟨_, rfl, _, rfl, r, D, _, rfl, rfl, eD5, by rw [mk0]; exact oth_up ok, by unfold K86M.setM; rw [List.length_map]; omega, by omega, fun p vs H7 s7 np ep hvs => ?_⟩
      have pl : vs.length = total (setM many z 0) := by rw [hvs.length, K86M.pairs_len]
      refine ⟨p, vs, rfl, .inr (SqL.of ep), ?_⟩
      refine ⟨by rw [List.append_nil, List.length_append, sizeLine_eq]; omega, fun p2 np2 => ?_⟩
      rw [List.append_nil]
      have s8 := same_new (o := .lst (wv ++ vs)) np2
      have hL : Is K (upd H7 p2 (.lst (wv ++ vs))) (.ref p2) (ws ++ pairsOf r (setM many z 0)) := is_lst (SqL.of upd_same) (((wh.same s7).append hvs).same s8)
      refine ⟨hs, _, (hu.same s7).same s8, hL, fun wd H9 s9 hwd => ?_⟩
      rw [srt_of_up ok.up.up] at hwd
      have s69 := same_tr s7 (same_tr s8 s9)
      have lW : (srt (ws ++ pairsOf r (setM many z 0))).length ≤ 1000 := by
        rw [srt_length, List.length_append, K86M.pairs_len]
        omega
      refine ⟨_, rfl, _, rfl, _, rfl, _, rfl, hs, _, r, z, hwd, rfl, rfl, by omega, lW, ok.nd, hrm, zo.1, Ne.symm zo.2, wide_ok ok hrm mk0, fun H10 s10 => ?_⟩
      refine ⟨_, _, rfl, rfl, by show 2 ≤ sizeLine; decide, fun p11 np11 => ?_⟩
      have s11 := same_new (o := .lst [.int 0, .int ((k : Int) - (minAt (srt (ws ++ pairsOf r (setM many z 0))) r z : Nat))]) np11
      have hmin : MinOf (ws ++ pairsOf r (setM many z 0)) r z (minAt (srt (ws ++ pairsOf r (setM many z 0))) r z) := (min_ex _ zo.2).perm (srt_perm _)
      generalize minAt (srt (ws ++ pairsOf r (setM many z 0))) r z = a at s11 hmin ⊢
      refine ⟨p11, [0, (k : Int) - (a : Int)], rfl, SqL.of upd_same, Nat.succ_pos _, fun mx hmx1 hmx2 => ?_⟩
      have emx : mx = ((k - a : Nat) : Int) := by
        have g1 := hmx2 0 (by simp)
        have g2 := hmx2 ((k : Int) - (a : Int)) (by simp)
        simp only [List.mem_cons, List.not_mem_nil, or_false] at hmx1
        omega
      subst emx
      have s611 := same_tr s69 (same_tr s10 s11)
      have eD11 := s611 _ _ eD5
      have zk0 : z ∈ (setM many z 0).map (·.1) := by rw [K86M.setM_keys]; exact zk
      refine ⟨_, rfl, _, rfl, D, _, rfl, DPut.k (k := Sum.inr z) eD11 (by unfold manyK K86M.setM; rw [List.length_map, List.length_map, sizeLine_eq]; omega), ?_⟩
      have eF := F.step on (fun h => (mem_oth.mp h).2 rfl) (fun x hx => (mem_oth.mp hx).1) hz hmin
      rw [← K86M.setM_setM many z 0 (k - a)] at eF
      exact ⟨_, _, setM (setM many z 0) z (k - a), rfl, same_at (same_tr s5 s611) hDH, (keep_dK eD11).seqT ((keep_same s611).seqT pq5), by rw [upd_same, many_put zk0], eF⟩
  · rintro σ H4 ⟨o4, o5, many, rfl, s4, pq4, eD4, F⟩
    have F : Fit hs (oth hs r) r ws k many (List.length ((oth hs r).map V.str)) := F
    rw [hov] at F
    exact ⟨_, rfl, q D H4 many s4 eD4 F.done⟩

def pr_more_by (K : PySem.W.Frag) : Pr := pr3 fun n x kv H Q => ∃ (hs : List Str) (ws : List (Str × Str)) (r : Str) (k : Nat), Is K H n (net hs ws) ∧ NetOk hs ws ∧ x = .str r ∧ r ∈ hs ∧ kv = .int (k : Int) ∧ k ≤ 9 ∧
  ∀ v H' many, Same H H' → Is K H' v (Tup.mk (pairsOf r many)) → Fewest hs (oth hs r) r ws k many → Q v H'
theorem sc_more_by : FnScope n_more_by p_more_by (defScope s_more_by) := ⟨rfl, rfl, rfl, by decide +kernel, rfl, by decide +kernel, by decide +kernel⟩
theorem more_by_ok (m : Bt mg) (c_pairs_by : Cal P w K mg base 1 "pairs_by" [] (pr_pairs_by K)) (c_many_by : Cal P w K mg base 5 "many_by" [] (pr_many_by K)) (D : Dfn K mg "more_by" s_more_by [] f fd) : Cal P w K mg base 6 "more_by" [] (pr_more_by K) := by
  refine D.cal sc_more_by (fun vs H Q h => len3 h) (fun _ _ _ _ _ _ us hl => match us, hl with | [_, _, _], _ => rfl) fun cdv A outer s H vs Q hr h => ?_
  obtain ⟨n, _, _, rfl, hs, ws, r, k, hn, ok, rfl, hrm, rfl, hk9, q⟩ := inv3 h
  refine ⟨_, pss_one (ps_ret (p_tuple m call_tuple_of (pa_cons (p_call c_pairs_by hr (pa_cons (pv 1) (pa_cons (p_call c_many_by hr (pa_cons (pv 0) (pa_cons (pv 1) (pa_cons (pv 2) pa_nil)))) pa_nil))) pa_nil))), ?_⟩
  refine ⟨_, rfl, _, rfl, _, rfl, _, rfl, hs, ws, r, k, hn, ok, rfl, hrm, rfl, hk9, fun d H1 many s1 hd F => ?_⟩
  have ol := oth_len (r := r) ok
  have tt := Fewest.tot ok F hk9
  refine ⟨r, d, many, rfl, rfl, hd, by rw [F.keys]; exact oth_up ok, by have := congrArg List.length F.keys; rw [List.length_map] at this; omega, by omega, fun p vs H2 s2 np ep hvs => ?_⟩
  exact ⟨p, vs, rfl, .inl ⟨SqL.of ep, fun p3 np3 => q _ _ many (same_tr s1 (same_tr s2 (same_new np3))) (is_tup (SqT.of upd_same) (hvs.same (same_new np3))) F⟩⟩
end
end K86

end

section
set_option Elab.async false
set_option linter.all false
set_option maxRecDepth 100000
set_option maxHeartbeats 2000000
/-! The walks: lots, papers, widths. -/
namespace K86
open PySem PySem.Spec PyProof.Rows L2
open PySem.W (Datum DatumOrd Tup T3 T4 Holds HoldAll)
open K86M (tlW hdW Ends MinOf Great pairsOf setM Fit Fewest total Wide)
structure LotsOk (hs : List Str) (ws : List (Str × Str)) (r : Str) (many : List (Str × Nat)) (L : List (Tup Str)) : Prop where
  nd : L.Nodup
  few : L.length ≤ 4
  each : ∀ t ∈ L, ∃ h m, (h, m) ∈ many ∧ 0 < m ∧ Great hs (srt (ws ++ pairsOf r many)) r h t.items
  all : ∀ h m, (h, m) ∈ many → 0 < m → ∃ t ∈ L, h ∈ t.items
section
variable {P : Program} {w : World} {K : PySem.W.Frag} {mg : Str → Option Value} {base : Heap} {f : Addr} {fd : FuncData}

def pr_lots_by (K : PySem.W.Frag) : Pr := pr3 fun n x wv H Q => ∃ (hs : List Str) (ws : List (Str × Str)) (r : Str) (many : List (Str × Nat)), Is K H n (net hs ws) ∧ NetOk hs ws ∧ x = .str r ∧ r ∈ hs ∧ Is K H wv (Tup.mk (pairsOf r many)) ∧ many.map (·.1) = oth hs r ∧ total many ≤ 36 ∧
  ∀ v H' L, Same H H' → Is K H' v (Tup.mk L) → LotsOk hs ws r many L → Q v H'
theorem sc_lots_by : FnScope n_lots_by p_lots_by (defScope s_lots_by) := ⟨rfl, rfl, rfl, by decide +kernel, rfl, by decide +kernel, by decide +kernel⟩
theorem lots_by_ok (m : Bt mg) (c_net_of : Cal P w K mg base 1 "net_of" [] (pr_net_of K)) (c_greatest_side : Cal P w K mg base 4 "greatest_side" [] (pr_greatest_side K)) (D : Dfn K mg "lots_by" s_lots_by [] f fd) : Cal P w K mg base 5 "lots_by" [] (pr_lots_by K) := by
  refine D.cal sc_lots_by (fun vs H Q h => len3 h) (fun _ _ _ _ _ _ us hl => match us, hl with | [_, _, _], _ => rfl) fun cdv A outer s H vs Q hr h => ?_
  obtain ⟨n, _, wv, rfl, hs, ws, r, many, hn, ok, rfl, hrm, hw, hk, tot, q⟩ := inv3 h
  have fh := ok.fewH
  have fw := ok.fewW
  refine ⟨_, pss_cons (ps_set (i := 3) sc_lots_by.nd rfl (Or.inr rfl) (p_call c_net_of hr (pa_cons (pe_ix (r := rFst K (Tup Str) (Tup (Str × Str))) ix_fst (pv 0) pe_int (fun _ _ => rfl)) (pa_cons (pe_lst (StX.pa_star (pe_ix (r := rSnd K (Tup Str) (Tup (Str × Str))) ix_snd (pv 0) pe_int (fun _ _ => rfl)) (StX.pa_star (pv 2) pa_nil))) pa_nil))))
    (pss_cons (ps_setLc (i := 4) (own := [("head", 5)]) (g := gName 5) (tt := tYes) rfl sc_lots_by.nd rfl rfl (sw_true rfl rfl rfl (by decide +kernel))
      (pi_list (p_sorted m (cr_srtSet rfl hr.u) (pa_cons (p_set m (cr_setS rfl hr.u) (pa_cons (pe_lc (own := [("tail", 6), ("head", 5)]) (g := gTup K 2 (gCons (gName 6) (gCons (gName 5) gNil))) (tt := tYes) rfl sc_lots_by.nd (pi_tup (pv 2)) (blkOk_by (N := n_lots_by) (sc := defScope s_lots_by) (by decide +kernel))
        (fun _ _ _ _ _ => pg_tup rfl (pgs_cons (pg_name (i := 6) sc_lots_by.nd rfl (.inl rfl)) (pgs_cons (pg_name (i := 5) sc_lots_by.nd rfl (.inl rfl)) pgs_nil))) (fun _ _ _ _ _ => pts_nil) (fun _ _ _ _ _ => pv 5)) pa_nil)) pa_nil))) (blkOk_by (N := n_lots_by) (sc := defScope s_lots_by) (by decide +kernel)) (fun _ _ _ _ _ => (pg_name (i := 5) sc_lots_by.nd rfl (.inl rfl))) (fun _ _ _ _ _ => pts_nil)
      (fun _ _ _ _ _ => p_call c_greatest_side hr (pa_cons (pe_ix (r := rFst K (Tup Str) (Tup (Str × Str))) ix_fst (pv 3) pe_int (fun _ _ => rfl)) (pa_cons (pe_ix (r := rSnd K (Tup Str) (Tup (Str × Str))) ix_snd (pv 3) pe_int (fun _ _ => rfl)) (pa_cons (pv 1) (pa_cons (pv 5) pa_nil))))))
    (pss_one (ps_ret (p_tuple m call_tuple_of (pa_cons (p_sorted m (cr_srtW rfl hr.u) (pa_cons (p_set m (cr_setW rfl hr.u) (pa_cons (pv 4) pa_nil)) pa_nil)) pa_nil))))), ?_⟩
  refine ⟨_, rfl, _, hn, rfl, fun u hu => ?_⟩
  refine ⟨_, rfl, _, hn, rfl, fun u2 hu2 => ?_⟩
  obtain ⟨wa, wv', rfl, wq, wh⟩ := hu2.tup
  obtain ⟨pa, pv', rfl, pq, ph⟩ := hw.tup
  have wl : wv'.length = ws.length := wh.length
  have pl : pv'.length = total many := by rw [ph.length]; exact K86M.pairs_len r many
  refine ⟨wa, wv', rfl, .inl wq, ?_⟩
  refine ⟨_, rfl, pa, pv', rfl, .inl pq, ?_⟩
  refine ⟨by rw [List.append_nil, List.length_append, sizeLine_eq]; omega, fun p2 np2 => ?_⟩
  rw [List.append_nil]
  have s1 := same_new (o := .lst (wv' ++ pv')) np2
  have hL : Is K (upd H p2 (.lst (wv' ++ pv'))) (.ref p2) (ws ++ pairsOf r many) := is_lst (SqL.of upd_same) ((wh.append ph).same s1)
  refine ⟨hs, _, hu.same s1, hL, fun wd H2 s2 hwd => ?_⟩
  rw [srt_of_up ok.up.up] at hwd
  have s12 := same_tr s1 s2
  refine ⟨_, rfl, pa, rfl, ⟨_, sqT_same s12 pq⟩, fun D hD => lc_data (K := K) walk_tup (fun (i : Nat) => (pairsOf r many)[i]?.map (·.2)) hD (by omega) (fun H3 s3 => sqT_same (same_tr s12 s3) pq) ?_ ?_⟩
  · rintro i v H3 H4 Ky Kn hi s3 ⟨rfl, hx⟩ k1 k2
    obtain ⟨wr, hw1, hw2⟩ := ph.at hx
    have hw1 : (pairsOf r many)[i]? = some wr := hw1
    obtain ⟨b, x1, x2, rfl, bq, h1, h2⟩ := (hw2.same (same_tr s12 s3)).pair
    obtain rfl := h1.str
    obtain rfl := h2.str
    exact ⟨b, _, rfl, bq, rfl, _, _, rfl, _, _, rfl, rfl, rfl, _, rfl, k1 _ wr.2 _ (same_refl _) (by rw [hw1]; rfl) (is_str _)⟩
  intro H3 ys s3 e3 hy
  rw [pl, ← K86M.pairs_len r many, fm_map] at hy
  have ey := isAll_strs hy
  subst ey
  refine ⟨D, _, rfl, SqL.of e3, by rw [List.length_map, K86M.pairs_len]; omega, fun a S na nd _ mem => ?_⟩
  have sub : ∀ z ∈ S, z ∈ oth hs r := fun z hz => by
    obtain ⟨wr, hw1, rfl⟩ := List.mem_map.mp ((mem z).mp hz)
    obtain ⟨e1, e2, e3⟩ := pairs_in hk hw1
    exact mem_oth.mpr ⟨e2, e3⟩
  have lS : S.length ≤ 4 := Nat.le_trans (nd.length_le_of_subset sub) (oth_len ok)
  have lSs : (srt S).length ≤ 4 := by rw [srt_length]; exact lS
  have hDH : H2 D = none := hD
  have s4 := same_new (o := SetSO w a S) na
  refine ⟨a, S, rfl, upd_same, by omega, fun p np => ?_⟩
  have s5 := same_new (o := .lst ((srt S).map V.str)) np
  have s25 := same_tr s3 (same_tr s4 s5)
  have s05 := same_tr s12 s25
  have eGp : (upd (upd H3 a (SetSO w a S)) p (.lst ((srt S).map V.str))) p = some (.lst ((srt S).map V.str)) := upd_same
  refine ⟨p, rfl, ⟨_, SqL.of eGp⟩, fun D2 hD2 => lc_rel (K := K) (walk_list (xs := (srt S).map V.str)) (fun i (t : Tup Str) => ∃ z, (srt S)[i]? = some z ∧ Great hs (srt (ws ++ pairsOf r many)) r z t.items) hD2 (by rw [List.length_map]; omega) (fun H5 s6 => SqL.of (s6 _ _ eGp)) ?_ ?_⟩
  · rintro i v H5 H6 Ky Kn hi s6 ⟨rfl, hx⟩ ky
    rw [List.getElem?_map] at hx
    cases hz : (srt S)[i]? with
    | none => rw [hz] at hx; cases hx
    | some z =>
      rw [hz] at hx
      obtain rfl : V.str z = v := Option.some.inj hx
      have zo := mem_oth.mp (sub z (srt_mem.mp (List.mem_of_getElem? hz)))
      have hwd6 := (hwd.same s25).same s6
      refine ⟨rfl, _, rfl, _, hwd6, rfl, fun u3 hu3 => ?_⟩
      refine ⟨_, rfl, _, hwd6, rfl, fun u4 hu4 => ?_⟩
      have lW : (srt (ws ++ pairsOf r many)).length ≤ 1000 := by
        rw [srt_length, List.length_append, K86M.pairs_len]
        omega
      exact ⟨_, rfl, _, rfl, hs, _, r, z, hu3, hu4, rfl, rfl, by omega, lW, ok.nd, hrm, zo.1, Ne.symm zo.2, wide_ok ok hrm hk, fun v7 H7 lot s7 h7 g7 => ky _ (Tup.mk lot) _ s7 ⟨z, hz, g7⟩ h7⟩
  intro H5 ys bs s6 e6 h6 l6 R
  rw [List.length_map] at l6
  refine ⟨_, rfl, D2, ys, bs, rfl, .inl (SqL.of e6), h6, by omega, fun a2 L2 na2 nd2 is2 mem2 => ?_⟩
  have s7 := same_tr s05 s6
  refine ⟨a2, L2, rfl, upd_same, fun p hp => ⟨(is2 p hp).same (same_new na2), fun e => ?_⟩, fun p3 out np3 hout => ?_⟩
  · obtain ⟨i, hi⟩ := List.getElem?_of_mem ((mem2 p.2).mp (List.mem_map.mpr ⟨p, hp, rfl⟩))
    obtain ⟨z, _, g⟩ := R i _ hi
    have := g.mem
    rw [e] at this
    cases this
  · refine ⟨p3, out, rfl, .inl ⟨SqL.of upd_same, fun p4 np4 => ?_⟩⟩
    refine q _ _ (srt (L2.map fun (p : Row) => (Tup.mk p.2 : Tup Str))) (same_tr s7 (same_tr (same_new na2) (same_tr (same_new np3) (same_new np4)))) (is_tup (SqT.of upd_same) (hout.same (same_tr (same_new np3) (same_new np4)))) ?_
    have memL : ∀ t : Tup Str, t ∈ srt (L2.map fun (p : Row) => (Tup.mk p.2 : Tup Str)) ↔ t ∈ bs := fun t => by
      rw [srt_mem]
      refine Iff.trans ⟨fun h => ?_, fun h => ?_⟩ (mem2 t.items)
      · obtain ⟨p, hp, e⟩ := List.mem_map.mp h
        exact List.mem_map.mpr ⟨p, hp, by rw [← e]⟩
      · obtain ⟨p, hp, e⟩ := List.mem_map.mp h
        exact List.mem_map.mpr ⟨p, hp, by rw [e]⟩
    have head : ∀ z, z ∈ S ↔ ∃ m, (z, m) ∈ many ∧ 0 < m := fun z => by
      rw [mem z]
      constructor
      · intro h
        obtain ⟨wr, hw1, rfl⟩ := List.mem_map.mp h
        obtain ⟨⟨h, m⟩, hp, e, h0⟩ := K86M.pairs_mem hw1
        exact ⟨m, by rw [e]; exact hp, h0⟩
      · rintro ⟨m, hm, h0⟩
        exact List.mem_map.mpr ⟨_, K86M.pairs_has hm h0, rfl⟩
    have ndm : (L2.map fun (p : Row) => (Tup.mk p.2 : Tup Str)).Nodup := by
      have : (L2.map fun (p : Row) => (Tup.mk p.2 : Tup Str)) = (L2.map (·.2)).map Tup.mk := by rw [List.map_map]; rfl
      rw [this, List.Nodup, List.pairwise_map]
      exact nd2.imp fun hne e => hne (by injection e)
    refine ⟨?_, ?_, fun t ht => ?_, fun z m hm h0 => ?_⟩
    · refine (srt_perm _).nodup_iff.mpr ?_
      exact ndm
    · rw [srt_length]
      refine Nat.le_trans (ndm.length_le_of_subset (l₂ := bs) fun t ht => (memL t).mp (srt_mem.mpr ht)) (by omega)
    · obtain ⟨i, hi⟩ := List.getElem?_of_mem ((memL t).mp ht)
      obtain ⟨z, hz, g⟩ := R i _ hi
      obtain ⟨m, hm, h0⟩ := (head z).mp (srt_mem.mp (List.mem_of_getElem? hz))
      exact ⟨z, m, hm, h0, g⟩
    · have hz := srt_mem.mpr ((head z).mpr ⟨m, hm, h0⟩)
      obtain ⟨i, hi⟩ := List.getElem?_of_mem hz
      have hlt := (List.getElem?_eq_some_iff.mp hi).1
      obtain ⟨t, ht⟩ : ∃ t, bs[i]? = some t := ⟨bs[i], List.getElem?_eq_getElem (by omega)⟩
      obtain ⟨z', hz', g⟩ := R i t ht
      rw [hi] at hz'
      obtain rfl := Option.some.inj hz'
      exact ⟨t, (memL t).mpr (List.mem_of_getElem? ht), g.mem⟩

def pr_fewest_more (K : PySem.W.Frag) : Pr := pr3 fun n x kv H Q => ∃ (hs : List Str) (ws : List (Str × Str)) (r : Str) (k : Nat), Is K H n (net hs ws) ∧ NetOk hs ws ∧ x = .str r ∧ r ∈ hs ∧ kv = .int (k : Int) ∧ k ≤ 9 ∧
  ∀ v H' many, Same H H' → Is K H' v (Tup.mk (pairsOf r many)) → Fewest hs (oth hs r) r ws k many → Q v H'
theorem sc_fewest_more : FnScope n_fewest_more p_fewest_more (defScope s_fewest_more) := ⟨rfl, rfl, rfl, by decide +kernel, rfl, by decide +kernel, by decide +kernel⟩
theorem fewest_more_ok (m : Bt mg) (c_want_wide : Cal P w K mg base 6 "want_wide" [] (pr_want_wide K)) (c_more_by : Cal P w K mg base 6 "more_by" [] (pr_more_by K)) (D : Dfn K mg "fewest_more" s_fewest_more [] f fd) : Cal P w K mg base 7 "fewest_more" [] (pr_fewest_more K) := by
  refine D.cal sc_fewest_more (fun vs H Q h => len3 h) (fun _ _ _ _ _ _ us hl => match us, hl with | [_, _, _], _ => rfl) fun cdv A outer s H vs Q hr h => ?_
  obtain ⟨n, _, _, rfl, hs, ws, r, k, hn, ok, rfl, hrm, rfl, hk9, q⟩ := inv3 h
  refine ⟨_, pss_cons (ps_expr (p_call c_want_wide hr (pa_cons (pv 0) (pa_cons (pv 1) (pa_cons (pv 2) pa_nil))))) (pss_one (ps_ret (p_call c_more_by hr (pa_cons (pv 0) (pa_cons (pv 1) (pa_cons (pv 2) pa_nil)))))), ?_⟩
  refine ⟨_, rfl, _, rfl, _, rfl, hs, ws, r, k, hn, ok, rfl, hrm, rfl, by omega, by omega, fun _ H1 s1 => ?_⟩
  exact ⟨_, rfl, _, rfl, _, rfl, hs, ws, r, k, hn.same s1, ok, rfl, hrm, rfl, hk9, fun v H2 many s2 hv F => q _ _ many (same_tr s1 s2) hv F⟩

abbrev paper (r : Str) (many : List (Str × Nat)) (L : List (Tup Str)) : T3 Str (Tup (Str × Str)) (Tup (Tup Str)) := T3.mk (Str.ofString "more") (Tup.mk (pairsOf r many)) (Tup.mk L)
def pr_more_paper (K : PySem.W.Frag) : Pr := pr3 fun n x kv H Q => ∃ (hs : List Str) (ws : List (Str × Str)) (r : Str) (k : Nat), Is K H n (net hs ws) ∧ NetOk hs ws ∧ x = .str r ∧ r ∈ hs ∧ kv = .int (k : Int) ∧ k ≤ 9 ∧
  ∀ v H' many L, Same H H' → Is K H' v (paper r many L) → Fewest hs (oth hs r) r ws k many → LotsOk hs ws r many L → Q v H'
theorem sc_more_paper : FnScope n_more_paper p_more_paper (defScope s_more_paper) := ⟨rfl, rfl, rfl, by decide +kernel, rfl, by decide +kernel, by decide +kernel⟩
theorem more_paper_ok (m : Bt mg) (c_want_wide : Cal P w K mg base 6 "want_wide" [] (pr_want_wide K)) (c_more_by : Cal P w K mg base 6 "more_by" [] (pr_more_by K)) (c_lots_by : Cal P w K mg base 5 "lots_by" [] (pr_lots_by K)) (D : Dfn K mg "more_paper" s_more_paper [] f fd) : Cal P w K mg base 7 "more_paper" [] (pr_more_paper K) := by
  refine D.cal sc_more_paper (fun vs H Q h => len3 h) (fun _ _ _ _ _ _ us hl => match us, hl with | [_, _, _], _ => rfl) fun cdv A outer s H vs Q hr h => ?_
  obtain ⟨n, _, _, rfl, hs, ws, r, k, hn, ok, rfl, hrm, rfl, hk9, q⟩ := inv3 h
  refine ⟨_, pss_cons (ps_expr (p_call c_want_wide hr (pa_cons (pv 0) (pa_cons (pv 1) (pa_cons (pv 2) pa_nil)))))
    (pss_cons (ps_set (i := 3) sc_more_paper.nd rfl (Or.inl rfl) (p_call c_more_by hr (pa_cons (pv 0) (pa_cons (pv 1) (pa_cons (pv 2) pa_nil)))))
    (pss_one (ps_ret (pe_tup (pa_cons pe_str (pa_cons (pv 3) (pa_cons (p_call c_lots_by hr (pa_cons (pv 0) (pa_cons (pv 1) (pa_cons (pv 3) pa_nil)))) pa_nil))))))), ?_⟩
  refine ⟨_, rfl, _, rfl, _, rfl, hs, ws, r, k, hn, ok, rfl, hrm, rfl, by omega, by omega, fun _ H1 s1 => ?_⟩
  refine ⟨_, rfl, _, rfl, _, rfl, hs, ws, r, k, hn.same s1, ok, rfl, hrm, rfl, hk9, fun v H2 many s2 hv F => ?_⟩
  have s12 := same_tr s1 s2
  refine ⟨_, rfl, _, rfl, _, rfl, _, rfl, hs, ws, r, many, hn.same s12, ok, rfl, hrm, hv, F.keys, Fewest.tot ok F hk9, fun u H3 L s3 hu LO => ?_⟩
  refine ⟨by show 3 ≤ sizeLine; decide, fun p np => ?_⟩
  exact q _ _ many L (same_tr s12 (same_tr s3 (same_new np))) (is_t3 (SqT.of upd_same) (is_str _) (hv.same (same_tr s3 (same_new np))) (hu.same (same_new np))) F LO

def pr_width (K : PySem.W.Frag) : Pr := pr2 fun n x H Q => ∃ (hs : List Str) (ws : List (Str × Str)) (r : Str), Is K H n (net hs ws) ∧ NetOk hs ws ∧ x = .str r ∧ r ∈ hs ∧
  (oth hs r = [] → ∀ H', Same H H' → Q .non H') ∧ ∀ H' (mm : Nat), Same H H' → Narrow hs ws r mm → Q (.int (mm : Int)) H'
theorem sc_width : FnScope n_width p_width (defScope s_width) := ⟨rfl, rfl, rfl, by decide +kernel, rfl, by decide +kernel, by decide +kernel⟩
theorem width_ok (m : Bt mg) (c_want_root : Cal P w K mg base 5 "want_root" [] (pr_want_root K)) (c_narrow_by : Cal P w K mg base 5 "narrow_by" [] (pr_narrow_by K)) (D : Dfn K mg "width" s_width [] f fd) : Cal P w K mg base 6 "width" [] (pr_width K) := by
  refine D.cal sc_width (fun vs H Q h => len2 h) (fun _ _ _ _ _ _ us hl => match us, hl with | [_, _], _ => rfl) fun cdv A outer s H vs Q hr h => ?_
  obtain ⟨n, _, rfl, hs, ws, r, hn, ok, rfl, hrm, q0, q⟩ := inv2 h
  have fh := ok.fewH
  have fw := ok.fewW
  refine ⟨_, pss_cons (ps_expr (p_call c_want_root hr (pa_cons (pv 0) (pa_cons (pv 1) pa_nil))))
    (pss_cons (ps_set (i := 2) sc_width.nd rfl (Or.inl rfl) (p_call c_narrow_by hr (pa_cons (pv 0) (pa_cons (pv 1) pa_nil))))
    (pss_one (ps_ret (pe_ifExp (pt_cmp (pc_isN (pv 2))) pe_non (pe_ix (r := rFst K Int (Tup Str)) ix_fst (pv 2) pe_int (fun _ _ => rfl)))))), ?_⟩
  refine ⟨_, rfl, _, rfl, hs, ws, r, hn, ok, rfl, hrm, fun _ H1 s1 => ?_⟩
  refine ⟨_, rfl, _, rfl, hs, ws, r, hn.same s1, rfl, by omega, by omega, ok.nd, hrm, ok.ends', fun e H2 s2 => ?_, fun v H2 mm lot s2 N hv => ?_⟩
  · exact ⟨_, rfl, _, rfl, q0 e _ (same_tr s1 s2)⟩
  · have ⟨a, u1, u2, ea, _, h1, _⟩ := hv.pair
    subst ea
    refine ⟨_, rfl, _, rfl, _, rfl, _, hv, rfl, fun u hu => ?_⟩
    rw [hu.int]
    exact q _ mm (same_tr s1 s2) N

/-- does it carry -/
def pr_can_carry (K : PySem.W.Frag) : Pr := pr3 fun n x nv H Q => ∃ (hs : List Str) (ws : List (Str × Str)) (r : Str) (a b c d : Int) (k : Nat), Is K H n (net hs ws) ∧ NetOk hs ws ∧ x = .str r ∧ r ∈ hs ∧ Is K H nv (need4 a b c d) ∧ 0 < a ∧ 0 ≤ b ∧ 0 ≤ c ∧ 0 ≤ d ∧ a + d + (c + 2 * b) = (k : Int) ∧
  ∀ (o : Bool) H', Same H H' → (o = true ↔ Wide hs r ws k) → Q (.bl o) H'
theorem sc_can_carry : FnScope n_can_carry p_can_carry (defScope s_can_carry) := ⟨rfl, rfl, rfl, by decide +kernel, rfl, by decide +kernel, by decide +kernel⟩
theorem can_carry_ok (m : Bt mg) (c_want_root : Cal P w K mg base 5 "want_root" [] (pr_want_root K)) (c_want_need : Cal P w K mg base 5 "want_need" [] (pr_want_need K)) (c_narrow_by : Cal P w K mg base 5 "narrow_by" [] (pr_narrow_by K)) (c_want_in : Cal P w K mg base 2 "want_in" [] (pr_want_in K)) (D : Dfn K mg "can_carry" s_can_carry [] f fd) : Cal P w K mg base 6 "can_carry" [] (pr_can_carry K) := by
  refine D.cal sc_can_carry (fun vs H Q h => len3 h) (fun _ _ _ _ _ _ us hl => match us, hl with | [_, _, _], _ => rfl) fun cdv A outer s H vs Q hr h => ?_
  obtain ⟨n, _, nv, rfl, hs, ws, r, a, b, c, d, k, hn, ok, rfl, hrm, hw, pa, pb, pc, pd, ek, q⟩ := inv3 h
  have fh := ok.fewH
  have fw := ok.fewW
  refine ⟨_, pss_cons (ps_expr (p_call c_want_root hr (pa_cons (pv 0) (pa_cons (pv 1) pa_nil))))
    (pss_cons (ps_expr (p_call c_want_need hr (pa_cons (pv 2) pa_nil)))
    (pss_cons (ps_set (i := 3) sc_can_carry.nd rfl (Or.inl rfl) (p_call c_narrow_by hr (pa_cons (pv 0) (pa_cons (pv 1) pa_nil))))
    (pss_one (ps_ret (pe_or (pe_cmp (pc_isN (pv 3))) (pe_one (pe_cmpR op_ge (pe_ix (r := rFst K Int (Tup Str)) ix_fst (pv 3) pe_int (fun _ _ => rfl)) (p_call c_want_in hr (pa_cons (pv 2) pa_nil)) (nomark _)))))))), ?_⟩
  refine ⟨_, rfl, _, rfl, hs, ws, r, hn, ok, rfl, hrm, fun _ H1 s1 => ?_⟩
  refine ⟨_, rfl, a, b, c, d, hw.same s1, pa, pb, pc, pd, fun _ H2 s2 => ?_⟩
  have s12 := same_tr s1 s2
  refine ⟨_, rfl, _, rfl, hs, ws, r, hn.same s12, rfl, by omega, by omega, ok.nd, hrm, ok.ends', fun e H3 s3 => ?_, fun v H3 mm lot s3 N hv => ?_⟩
  · refine ⟨_, rfl, true, rfl, q true _ (same_tr s12 s3) ⟨fun _ S sr ⟨x, hx, hs'⟩ => ?_, fun _ => rfl⟩⟩
    have hxr : x ≠ r := fun e => by rw [e, sr] at hs'; cases hs'
    have : x ∈ oth hs r := mem_oth.mpr ⟨hx, hxr⟩
    rw [e] at this
    cases this
  · have ⟨a', u1, u2, ea, _, h1, _⟩ := hv.pair
    subst ea
    refine ⟨_, rfl, false, rfl, ?_⟩
    refine ⟨_, rfl, _, hv, rfl, fun u hu => ?_⟩
    obtain rfl := hu.int
    refine ⟨_, rfl, a, b, c, d, hw.same (same_tr s12 s3), mm, _, rfl, rfl, ?_⟩
    exact q _ _ (same_tr s12 s3) (by rw [decide_eq_true_iff, N.wide]; omega)
end
end K86

end

section
set_option Elab.async false
set_option linter.all false
set_option maxRecDepth 100000
set_option maxHeartbeats 2000000
/-! The walks: all lots, trees that grow. -/
namespace K86
open PySem PySem.Spec PyProof.Rows L2
open PySem.W (Datum DatumOrd Tup T3 T4 Holds HoldAll)
open K86M (tlW hdW Ends subs lotsOf isIn enters cnt WideI Tree Wide)
def mks (L : List (List Str)) : List (Tup Str) := L.map Tup.mk
section
variable {P : Program} {w : World} {K : PySem.W.Frag} {mg : Str → Option Value} {base : Heap} {f : Addr} {fd : FuncData}
theorem pa_starK {X : Cx} {e : Expr} {es : List Expr} {te : TE} {t : TA} {p : Pos} (K : PySem.W.Frag) (he : PE X e te) (hr : PA X es t) (hK : X.K = K := by rfl) (hs : starEach (.Starred e p :: es) X.env = (true, eval e X.env) :: starEach es X.env := by rfl) : PA X (.Starred e p :: es) (StX.tStar K te t) := by
  subst hK
  exact StX.pa_star he hr hs
theorem mks_len {os : List Str} {t : Tup Str} (nd : os.Nodup) (h : t ∈ mks (subs os)) : t.items.length ≤ os.length := by
  obtain ⟨l, hl, rfl⟩ := List.mem_map.mp h
  rw [K86M.mem_subs nd] at hl
  show l.length ≤ _
  rw [hl]
  exact List.length_filter_le _ _
theorem oth_take {hs : List Str} {r z : Str} {j : Nat} (h : hs[j]? = some z) : oth (hs.take (j + 1)) r = oth (hs.take j) r ++ (if z = r then [] else [z]) := by
  unfold oth
  rw [List.take_add_one, h, List.filter_append]
  congr 1
  by_cases e : z = r <;> simp [e]

def pr_all_lots (K : PySem.W.Frag) : Pr := pr2 fun n x H Q => ∃ (hs : List Str) (ws : List (Str × Str)) (r : Str), Is K H n (net hs ws) ∧ x = .str r ∧ hs.length ≤ 4 ∧ hs.Nodup ∧ ∀ v H', Same H H' → Is K H' v (mks (lotsOf (oth hs r))) → Q v H'
theorem sc_all_lots : FnScope n_all_lots p_all_lots (defScope s_all_lots) := ⟨rfl, rfl, rfl, by decide +kernel, rfl, by decide +kernel, by decide +kernel⟩
theorem all_lots_ok (m : Bt mg)  (D : Dfn K mg "all_lots" s_all_lots [] f fd) : Cal P w K mg base 1 "all_lots" [] (pr_all_lots K) := by
  refine D.cal sc_all_lots (fun vs H Q h => len2 h) (fun _ _ _ _ _ _ us hl => match us, hl with | [_, _], _ => rfl) fun cdv A outer s H vs Q hr h => ?_
  obtain ⟨n, _, rfl, hs, ws, r, hn, rfl, h4, nd, q⟩ := inv2 h
  refine ⟨_, pss_cons (ps_set (i := 2) sc_all_lots.nd rfl (Or.inl rfl) (pe_lst (pa_cons (pe_tup pa_nil) pa_nil)))
    (pss_cons (ps_for PassesOwn.never rfl (pi_tup (pe_ix (r := rFst K (Tup Str) (Tup (Str × Str))) ix_fst (pv 0) pe_int (fun _ _ => rfl))) (pg_name (i := 3) sc_all_lots.nd rfl (.inr rfl))
      (pss_one (ps_if (pt_cmpR op_ne (pv 3) (pv 1) (nomark _))
        (pss_one (ps_set (i := 2) sc_all_lots.nd rfl (Or.inl rfl) (pe_lst (StX.pa_star (pv 2) (StX.pa_star (pe_lc (own := [("lot", 4)]) (g := gName 4) (tt := tYes) rfl sc_all_lots.nd (pi_list (pv 2)) (blkOk_by (N := n_all_lots) (sc := defScope s_all_lots) (by decide +kernel)) (fun _ _ _ _ _ => (pg_name (i := 4) sc_all_lots.nd rfl (.inl rfl))) (fun _ _ _ _ _ => pts_nil) (fun _ _ _ _ _ => pe_tup (pa_starK K (pv 4) (pa_cons (pv 3) pa_nil)))) pa_nil)))))
        pss_nil)))
    (pss_one (ps_ret (pe_slice (sl_tailL (α := Tup Str)) (pv 2) (po_some pe_int) po_none)))), ?_⟩
  refine ⟨Nat.zero_le _, fun p1 n1 => ⟨by show 1 ≤ sizeLine; decide, fun p2 n2 => ?_⟩⟩
  have s1 := same_new (o := .tup []) n1
  have s2 := same_new (o := .lst [.ref p1]) n2
  refine ⟨_, rfl, _, hn.same (same_tr s1 s2), rfl, fun u hu => ?_⟩
  obtain ⟨ha, hv, rfl, hq, hh⟩ := hu.tup
  have hl : hv.length = hs.length := hh.length
  refine ⟨ha, rfl, ⟨_, hq⟩, for_it walk_tup (fun j σ H1 => ∃ o3 F, σ = [some n, some (.str r), some (.ref F), o3, none] ∧ Same (upd (upd H p1 (.tup [])) p2 (.lst [.ref p1])) H1 ∧ Is K H1 (.ref F) (mks (subs (oth (hs.take j) r))))
    ⟨none, p2, rfl, same_refl _, is_lst (SqL.of upd_same) (.cons (is_tup (sqT_same s2 (SqT.of upd_same)) .nil) .nil)⟩ (fun j σ H1 _ ⟨_, _, _, s3, _⟩ => sqT_same s3 hq) ?_ ?_⟩
  · rintro j x σ H1 H2 hj ⟨o3, F, rfl, s3, hF⟩ ⟨rfl, hx⟩
    obtain ⟨z, hz1, hz2⟩ := hh.at hx
    obtain rfl := hz2.str
    have hz1 : hs[j]? = some z := hz1
    refine ⟨_, rfl, _, rfl, rfl, _, rfl, ?_⟩
    by_cases c : z = r
    · rw [show decide (V.str z = V.str r) = true from decide_eq_true (by rw [c])]
      refine ⟨_, F, rfl, s3, ?_⟩
      rw [oth_take hz1, if_pos c, List.append_nil]
      exact hF
    · rw [show decide (V.str z = V.str r) = false from decide_eq_false fun e => c (by injection e)]
      obtain ⟨F', fv, e, fq, fh⟩ := hF.lst
      cases e
      have lo : (oth (hs.take j) r).length ≤ 4 := Nat.le_trans (List.length_filter_le _ _) (by rw [List.length_take]; omega)
      have ls : (mks (subs (oth (hs.take j) r))).length ≤ 16 := by
        unfold mks
        rw [List.length_map, K86M.subs_len]
        exact Nat.pow_le_pow_right (by decide) lo
      have fl : fv.length = (mks (subs (oth (hs.take j) r))).length := fh.length
      refine ⟨_, rfl, F, fv, rfl, .inr fq, ?_⟩
      refine ⟨_, rfl, F, rfl, ⟨_, fq⟩, fun D hD => lc_data (K := K) walk_list (fun (i : Nat) => (mks (subs (oth (hs.take j) r)))[i]?.map fun t => Tup.mk (t.items ++ [z])) hD (by omega) (fun H3 s4 => sqL_same s4 fq) ?_ ?_⟩
      · rintro i y H3 H4 Ky Kn hi s4 ⟨rfl, hy⟩ k1 k2
        obtain ⟨t, ht1, ht2⟩ := (fh.same s4).at hy
        obtain ⟨ta, tv, rfl, tq, th⟩ := ht2.tup
        have et := isAll_strs th
        have tl : t.items.length ≤ 4 := Nat.le_trans (mks_len (((List.take_sublist j hs).nodup nd).sublist List.filter_sublist) (List.mem_of_getElem? ht1)) lo
        refine ⟨rfl, _, rfl, ta, tv, rfl, .inl tq, _, rfl, ?_⟩
        refine ⟨by rw [et]; simp [sizeLine_eq]; omega, fun p hp => k1 _ (Tup.mk (t.items ++ [z])) _ (same_new hp) (by rw [ht1]; rfl) (is_tup (SqT.of upd_same) ((th.append (.cons (is_str z) .nil)).same (same_new hp)))⟩
      · intro H3 ys s4 e4 hys
        rw [fl, fm_map] at hys
        have yl := hys.length
        rw [List.length_map] at yl
        refine ⟨_, ys, rfl, .inr (SqL.of e4), ?_⟩
        refine ⟨by rw [List.append_nil, List.length_append, sizeLine_eq]; omega, fun p hp => ?_⟩
        rw [List.append_nil]
        have s5 := same_new (o := .lst (fv ++ ys)) hp
        refine ⟨_, p, rfl, same_tr s3 (same_tr s4 s5), is_lst (SqL.of upd_same) ?_⟩
        rw [oth_take hz1, if_neg c, K86M.subs_snoc]
        have := ((fh.same s4).append hys).same s5
        unfold mks at this ⊢
        rw [List.map_map] at this
        rw [List.map_append, List.map_map]
        exact this
  · rintro σ H1 ⟨o3, F, rfl, s3, hF⟩
    rw [hl, List.take_length] at hF
    refine ⟨_, rfl, 1, rfl, rfl, rfl, _, hF, fun v H2 s4 hv => ?_⟩
    refine q _ _ (same_tr (same_tr s1 s2) (same_tr s3 s4)) ?_
    rw [K86M.lotsOf_eq]
    unfold mks at hv ⊢
    rw [← List.map_drop] at hv
    exact hv
end
end K86

end

section
set_option Elab.async false
set_option linter.all false
set_option maxRecDepth 100000
set_option maxHeartbeats 2000000
/-! The walks: the next wire of a tree. -/
namespace K86
open PySem PySem.Spec PyProof.Rows L2
open PySem.W (Datum DatumOrd Tup T3 T4 Holds HoldAll)
open K86M (tlW hdW Ends subs lotsOf isIn enters cnt WideI Tree Wide)
def intsN (l : List Nat) : List Int := l.map fun (i : Nat) => (i : Int)
/-- the first wires that lead out of what is met -/
def outOf (ws : List (Str × Str)) (met : List Str) (i : Nat) : Bool := decide (tlW ws i ∈ met) && decide (hdW ws i ∉ met)
def spareOk (ws : List (Str × Str)) (i : Nat) (sp : Tup Str × Int) : Bool := !enters (isIn sp.1.items) (tlW ws i, hdW ws i) || decide (0 < sp.2)
def lcScope : Expr → Scope
  | .ListComp _ _ sc _ => sc
  | .Subscript (.ListComp _ _ sc _) _ _ => sc
  | _ => { kind := .function, names := [], isGenerator := false, isCoroutine := false }
def stExpr : Stmt → Expr
  | .Return (some e) _ => e
  | .Assign _ e _ => e
  | _ => .Tuple [] 0 ⟨0, 0, 0, 0⟩
/-- a comprehension's block within a block -/
def relab (sc outer : Scope) : Scope := { sc with names := sc.names.map fun (n, k) => if (k == .free && outer.kind == .function && outer.names.lookup n == some .cell) then (n, .cell) else (n, k) }
def sc_nw : Scope := relab (lcScope (stExpr ((defBody s_next_wire).getD 1 (.Pass ⟨0, 0, 0, 0⟩)))) (defScope s_next_wire)
section
variable {X : Cx} {p pos : Pos} {e tg : Expr} {es : List Expr} {te : TE} {t : TA}
theorem pi_listK (K : PySem.W.Frag) (h : PE X e te) (hK : X.K = K := by rfl) : PI X tg e (iList K te) := by
  subst hK
  exact pi_list h
theorem p_allK (K : PySem.W.Frag) (m : Bt X.mg) (hc : X.calm = true) (ha : PA X (e :: es) t) (hK : X.K = K := by rfl) (hg : Gl X "all" := by rfl) (he : starEach (e :: es) X.env = (false, eval e X.env) :: starEach es X.env := by rfl) (hpl : (backTo pos (starEach es X.env)).any (·.1) = false := by rfl) :
    PE X (.Call (.Name "all" p) (e :: es) [] pos) (tCB (rAll K) t) := by
  subst hK
  exact p_all m hc ha hg he hpl
end
section
variable {P : Program} {w : World} {K : PySem.W.Frag} {mg : Str → Option Value} {base : Heap} {f : Addr} {fd : FuncData}

def pr_next_wire (K : PySem.W.Frag) : Pr := pr4 fun n lv sv mv H Q => ∃ (hs : List Str) (ws : List (Str × Str)) (left : List Nat) (sps : List (Tup Str × Int)) (met : List Str), Is K H n (net hs ws) ∧ Is K H lv (intsN left) ∧ Is K H sv sps ∧ Is K H mv met ∧ (∀ i ∈ left, i < ws.length) ∧ left.length ≤ 1000 ∧ sps.length ≤ 1000 ∧
  (∃ i ∈ left, outOf ws met i = true ∧ sps.all (spareOk ws i) = true) ∧
  ∀ (i : Nat) H', Same H H' → i ∈ left → outOf ws met i = true → sps.all (spareOk ws i) = true → Q (.int (i : Int)) H'
theorem sc_next_wire : FnScope n_next_wire p_next_wire (defScope s_next_wire) := ⟨rfl, rfl, rfl, by decide +kernel, rfl, by decide +kernel, by decide +kernel⟩
theorem next_wire_ok (m : Bt mg) (c_does_enter : Cal P w K mg base 1 "does_enter" [] (pr_does_enter K)) (D : Dfn K mg "next_wire" s_next_wire [] f fd) : Cal P w K mg base 2 "next_wire" [] (pr_next_wire K) := by
  refine D.cal sc_next_wire (fun vs H Q h => len4 h) (fun _ _ _ _ _ _ us hl => match us, hl with | [_, _, _, _], _ => rfl) fun cdv A outer s H vs Q hr h => ?_
  obtain ⟨n, lv, sv, mv, rfl, hs, ws, left, sps, met, hn, hl, hsp, hm, lt, zl, zs, ex, q⟩ := inv4 h
  refine ⟨_, pss_cons (ps_setLc (i := 4) (own := [("index", 5)]) (g := gName 5) rfl sc_next_wire.nd rfl rfl (sw_true rfl rfl rfl (by decide +kernel)) (pi_list (pv 1)) (blkOk_by (N := n_next_wire) (sc := defScope s_next_wire) (by decide +kernel)) (fun _ _ _ _ _ => (pg_name (i := 5) sc_next_wire.nd rfl (.inl rfl)))
      (fun _ _ _ _ _ => pts_one (PW.pt (pw_and (pt_cmpR (r := rInL K Str) (op_inL hr.u) (pe_ix (r := rFst K Str Str) ix_fst (pe_ix (r := rAtT K (Str × Str)) ix_atT (pe_ix (r := rSnd K (Tup Str) (Tup (Str × Str))) ix_snd (pv 0) pe_int (fun _ _ => rfl)) (pv 5) (fun _ _ => rfl)) pe_int (fun _ _ => rfl)) (pv 3) rfl) (pw_and1 (pt_cmpR (r := rNinL K Str) (op_ninL hr.u) (pe_ix (r := rSnd K Str Str) ix_snd (pe_ix (r := rAtT K (Str × Str)) ix_atT (pe_ix (r := rSnd K (Tup Str) (Tup (Str × Str))) ix_snd (pv 0) pe_int (fun _ _ => rfl)) (pv 5) (fun _ _ => rfl)) pe_int (fun _ _ => rfl)) (pv 3) rfl)))))
      (fun _ _ _ _ _ => pv 5))
    (pss_one (ps_ret (pe_ix (ix_atL (α := Int)) (pe_lc (own := [("index", 5)]) (g := gName 5) rfl sc_next_wire.nd (pi_list (pv 4)) (blkOk_by (N := n_next_wire) (sc := defScope s_next_wire) (by decide +kernel)) (fun _ _ _ _ _ => (pg_name (i := 5) sc_next_wire.nd rfl (.inr rfl)))
      (fun _ _ _ _ _ => pts_one (pt_val (p_allK K m rfl (pa_cons (pe_lc (own := [("lot", 6), ("many", 7)]) (g := gTup K 2 (gCons (gName 6) (gCons (gName 7) gNil))) rfl sc_next_wire.nd (pi_listK K (pv 2)) (blkOk_by (N := n_next_wire) (sc := sc_nw) (by decide +kernel)) (fun _ _ _ _ _ => pg_tup rfl (pgs_cons (pg_name (i := 6) sc_next_wire.nd rfl (.inl rfl)) (pgs_cons (pg_name (i := 7) sc_next_wire.nd rfl (.inl rfl)) pgs_nil)))
          (fun _ _ _ _ _ => pts_one (pt_val (p_call c_does_enter hr (pa_cons (pe_ix (r := rAtT K (Str × Str)) ix_atT (pe_ix (r := rSnd K (Tup Str) (Tup (Str × Str))) ix_snd (pv 0) pe_int (fun _ _ => rfl)) (pv 5) (fun _ _ => rfl)) (pa_cons (pv 6) pa_nil)))))
          (fun _ _ _ _ _ => pe_cmpR op_gt (pv 7) pe_int (nomark _))) pa_nil))))
      (fun _ _ _ _ _ => pv 5)) pe_int (fun _ _ => rfl)))), ?_⟩
  obtain ⟨la, lv', rfl, lq, lh⟩ := hl.lst
  have ll : lv'.length = left.length := by rw [lh.length]; exact List.length_map ..
  obtain ⟨sa, sv', rfl, sq, sh⟩ := hsp.lst
  have sl : sv'.length = sps.length := sh.length
  have atN : ∀ {l : List Nat} {j : Nat} {x : Int}, (intsN l)[j]? = some x → ∃ i, l[j]? = some i ∧ x = (i : Int) := fun {l j x} e => by
    unfold intsN at e
    rw [List.getElem?_map] at e
    cases hi : l[j]? with
    | none => rw [hi] at e; cases e
    | some i =>
      rw [hi] at e
      exact ⟨i, rfl, (Option.some.inj e).symm⟩
  refine ⟨_, rfl, la, rfl, ⟨_, lq⟩, fun D hD => lc_data (K := K) walk_list (fun (j : Nat) => (left[j]?.filter (outOf ws met)).map fun (i : Nat) => (i : Int)) hD (by omega) (fun H1 s1 => sqL_same s1 lq) ?_ ?_⟩
  · rintro j v H1 H2 Ky Kn hj s1 ⟨rfl, hv⟩ k1 k2
    obtain ⟨x, hx1, hx2⟩ := lh.at hv
    obtain ⟨i, hi, rfl⟩ := atN hx1
    obtain rfl := hx2.int
    have il := lt i (List.mem_of_getElem? hi)
    refine ⟨rfl, _, rfl, _, hn.same s1, rfl, fun nw hnw => ?_⟩
    refine ⟨_, rfl, _, i, _, hnw, rfl, K86M.at_tlhd il, fun u hu => ?_⟩
    refine ⟨_, hu, rfl, fun u2 hu2 => ?_⟩
    refine ⟨_, rfl, _, met, hu2, hm.same s1, _, rfl, ?_⟩
    by_cases c1 : tlW ws i ∈ met
    · rw [show decide ((tlW ws i, hdW ws i).1 ∈ met) = true from decide_eq_true c1]
      refine ⟨_, rfl, _, hn.same s1, rfl, fun nw hnw => ?_⟩
      refine ⟨_, rfl, _, i, _, hnw, rfl, K86M.at_tlhd il, fun u hu => ?_⟩
      refine ⟨_, hu, rfl, fun u2 hu2 => ?_⟩
      refine ⟨_, rfl, _, met, hu2, hm.same s1, _, rfl, ?_⟩
      by_cases c2 : hdW ws i ∈ met
      · rw [show decide ((tlW ws i, hdW ws i).2 ∉ met) = false from decide_eq_false (not_not_intro c2)]
        exact k2 _ (same_refl _) (by rw [hi]; simp [Option.filter, outOf, c2])
      · rw [show decide ((tlW ws i, hdW ws i).2 ∉ met) = true from decide_eq_true c2]
        exact ⟨_, rfl, k1 _ (i : Int) _ (same_refl _) (by rw [hi]; simp [Option.filter, outOf, c1, c2]) (is_int _)⟩
    · rw [show decide ((tlW ws i, hdW ws i).1 ∈ met) = false from decide_eq_false c1]
      exact k2 _ (same_refl _) (by rw [hi]; simp [Option.filter, outOf, c1])
  intro H1 ys s1 e1 hy
  rw [ll, fm_filter] at hy
  have yl := hy.length
  rw [List.length_map] at yl
  have zl2 := List.length_filter_le (outOf ws met) left
  obtain ⟨som, es⟩ : ∃ som, som = left.filter (outOf ws met) := ⟨_, rfl⟩
  rw [← es] at hy yl zl2
  have insom : ∀ i, i ∈ som ↔ i ∈ left ∧ outOf ws met i = true := fun i => by rw [es, List.mem_filter]
  refine ⟨_, rfl, D, rfl, ⟨_, SqL.of e1⟩, fun D2 hD2 => lc_data (K := K) walk_list (fun (j : Nat) => (som[j]?.filter fun i => sps.all (spareOk ws i)).map fun (i : Nat) => (i : Int)) hD2 (by omega) (fun H2 s2 => SqL.of (s2 _ _ e1)) ?_ ?_⟩
  · rintro j v H2 H3 Ky Kn hj s2 ⟨rfl, hv⟩ k1 k2
    obtain ⟨x, hx1, hx2⟩ := hy.at hv
    obtain ⟨i, hi, rfl⟩ := atN hx1
    obtain rfl := hx2.int
    have il := lt i ((insom i).mp (List.mem_of_getElem? hi)).1
    have s12 := same_tr s1 s2
    refine ⟨rfl, _, rfl, sa, rfl, ⟨_, sqL_same s12 sq⟩, fun D3 hD3 => lc_data (K := K) walk_list (fun (j : Nat) => (sps[j]?.filter fun sp => enters (isIn sp.1.items) (tlW ws i, hdW ws i)).map fun sp => decide (0 < sp.2)) hD3 (by omega) (fun H4 s4 => sqL_same (same_tr s12 s4) sq) ?_ ?_⟩
    · rintro j2 v2 H4 H5 Ky2 Kn2 hj2 s4 ⟨rfl, hv2⟩ k3 k4
      obtain ⟨sp, hsp1, hsp2⟩ := (sh.same (same_tr s12 s4)).at hv2
      obtain ⟨b, u, z, rfl, bq, hu, hz⟩ := hsp2.pair
      obtain rfl := hz.int
      refine ⟨b, _, rfl, bq, rfl, _, _, rfl, _, _, rfl, rfl, rfl, ?_⟩
      refine ⟨_, rfl, _, hn.same (same_tr s12 s4), rfl, fun nw hnw => ?_⟩
      refine ⟨_, rfl, _, i, _, hnw, rfl, K86M.at_tlhd il, fun u3 hu3 => ?_⟩
      refine ⟨_, rfl, _, sp.1.items, hu3, hu, _, rfl, ?_⟩
      cases c : enters (isIn sp.1.items) (tlW ws i, hdW ws i) with
      | false => exact k4 _ (same_refl _) (by rw [hsp1]; simp [Option.filter, c])
      | true => exact ⟨_, rfl, _, _, rfl, rfl, k3 _ (decide (0 < sp.2)) _ (same_refl _) (by rw [hsp1]; simp [Option.filter, c]) (is_bl _)⟩
    · intro H4 zs s4 e4 hz
      rw [sl, fm_filter] at hz
      refine ⟨D3, _, rfl, SqL.of (by rw [e4, isAll_bls hz]), _, rfl, ?_⟩
      have ea : (((sps.filter fun sp => enters (isIn sp.1.items) (tlW ws i, hdW ws i)).map fun sp => decide (0 < sp.2)).all id) = sps.all (spareOk ws i) := by
        unfold spareOk
        rw [List.all_map, List.all_filter]
        rfl
      rw [ea]
      cases c : sps.all (spareOk ws i) with
      | false => exact k2 _ s4 (by rw [hi]; simp [Option.filter, c])
      | true => exact ⟨_, rfl, k1 _ (i : Int) _ s4 (by rw [hi]; simp [Option.filter, c]) (is_int _)⟩
  · intro H2 zs s2 e2 hz
    rw [yl, fm_filter] at hz
    obtain ⟨i0, rest, e0⟩ : ∃ i0 rest, (som.filter fun i => sps.all (spareOk ws i)) = i0 :: rest := by
      obtain ⟨i, h1, h2, h3⟩ := ex
      cases e : som.filter fun i => sps.all (spareOk ws i) with
      | nil =>
        have := List.filter_eq_nil_iff.mp e i ((insom i).mpr ⟨h1, h2⟩)
        exact absurd h3 this
      | cons a b => exact ⟨a, b, rfl⟩
    have hm0 : i0 ∈ som.filter fun i => sps.all (spareOk ws i) := by rw [e0]; exact List.mem_cons_self ..
    obtain ⟨m1, m2⟩ := List.mem_filter.mp hm0
    obtain ⟨m3, m4⟩ := (insom i0).mp m1
    rw [e0] at hz
    refine ⟨_, 0, (i0 : Int), is_lst (SqL.of e2) hz, rfl, rfl, fun u hu => ?_⟩
    rw [hu.int]
    exact q i0 _ (same_tr s1 s2) m3 m4 m2
end
end K86

end

section
set_option Elab.async false
set_option linter.all false
set_option maxRecDepth 100000
set_option maxHeartbeats 2000000
/-! The walks: trees that grow. -/
namespace K86
open PySem PySem.Spec PyProof.Rows L2
open PySem.W (Datum DatumOrd Tup T3 T4 Holds HoldAll)
open K86M (tlW hdW Ends subs lotsOf isIn enters cnt WideI Tree Wide)
def sc_gt : Scope := relab (lcScope (stExpr ((defBody s_grown_tree).getD 1 (.Pass ⟨0, 0, 0, 0⟩)))) (defScope s_grown_tree)
theorem lot_in {hs : List Str} {r : Str} {S : Str → Bool} (sr : S r = false) {x : Str} (hx : x ∈ hs) : isIn ((oth hs r).filter S) x = S x := by
  rw [Bool.eq_iff_iff, K86M.isIn_iff, List.mem_filter, mem_oth]
  constructor
  · exact fun h => h.2
  · intro h
    refine ⟨⟨hx, fun e => ?_⟩, h⟩
    rw [e, sr] at h
    cases h
theorem lot_ent {hs : List Str} {ws : List (Str × Str)} {r : Str} (he : Ends hs ws) {S : Str → Bool} (sr : S r = false) {i : Nat} (hi : i < ws.length) : enters (isIn ((oth hs r).filter S)) (tlW ws i, hdW ws i) = enters S (tlW ws i, hdW ws i) := by
  have := K86M.ends_at he i hi
  unfold K86M.enters
  rw [lot_in sr this.1, lot_in sr this.2]
theorem lot_cnt {hs : List Str} {ws : List (Str × Str)} {r : Str} (he : Ends hs ws) {S : Str → Bool} (sr : S r = false) {is : List Nat} (hi : ∀ i ∈ is, i < ws.length) : cnt (tlW ws) (hdW ws) (isIn ((oth hs r).filter S)) is = cnt (tlW ws) (hdW ws) S is := by
  unfold K86M.cnt
  exact List.countP_congr fun i hm => by rw [lot_ent he sr (hi i hm)]
theorem lot_mem {hs : List Str} {r : Str} (nd : hs.Nodup) {S : Str → Bool} (sr : S r = false) {x : Str} (hx : x ∈ hs) (hs' : S x = true) : (oth hs r).filter S ∈ lotsOf (oth hs r) := by
  have ndo : (oth hs r).Nodup := nd.sublist List.filter_sublist
  have hxo : x ∈ (oth hs r).filter S := by
    rw [← K86M.isIn_iff, lot_in sr hx]
    exact hs'
  refine (K86M.mem_lotsOf ndo).mpr ⟨List.filter_congr fun y hy => (K86M.isIn_filter hy).symm, fun e => ?_⟩
  rw [e] at hxo
  cases hxo
theorem lot_out {hs : List Str} {r : Str} (nd : hs.Nodup) {lot : List Str} (h : lot ∈ lotsOf (oth hs r)) : isIn lot r = false ∧ ∃ x ∈ hs, isIn lot x = true := by
  obtain ⟨e, ne⟩ := (K86M.mem_lotsOf (nd.sublist List.filter_sublist)).mp h
  refine ⟨K86M.isIn_no.mpr fun hr => ?_, ?_⟩
  · rw [e] at hr
    exact (mem_oth.mp (List.mem_filter.mp hr).1).2 rfl
  · cases lot with
    | nil => exact absurd rfl ne
    | cons y l =>
      refine ⟨y, ?_, K86M.isIn_iff.mpr (List.mem_cons_self ..)⟩
      have : y ∈ y :: l := List.mem_cons_self ..
      rw [e] at this
      exact (mem_oth.mp (List.mem_filter.mp this).1).1
theorem wideI_lots {hs : List Str} {ws : List (Str × Str)} {r : Str} {left : List Nat} {k : Nat} (nd : hs.Nodup) (he : Ends hs ws) (lt : ∀ i ∈ left, i < ws.length) :
    WideI (tlW ws) (hdW ws) hs r left k ↔ ∀ lot ∈ lotsOf (oth hs r), k ≤ cnt (tlW ws) (hdW ws) (isIn lot) left := by
  constructor
  · intro h lot hl
    obtain ⟨h1, h2⟩ := lot_out nd hl
    exact h _ h1 h2
  · intro h S sr ⟨x, hx, sx⟩
    rw [← lot_cnt he sr lt]
    exact h _ (lot_mem nd sr hx sx)
/-- the lots with what each may still lose -/
def sparesOf (ws : List (Str × Str)) (os : List Str) (k : Nat) (rest : List Nat) : List (Tup Str × Int) := (lotsOf os).map fun lot => (Tup.mk lot, (cnt (tlW ws) (hdW ws) (isIn lot) rest : Int) - k + 1)
theorem spares_all {hs : List Str} {ws : List (Str × Str)} {r : Str} {rest : List Nat} {k i : Nat} (nd : hs.Nodup) (he : Ends hs ws) (lt : ∀ i ∈ rest, i < ws.length) (hi : i < ws.length) :
    (sparesOf ws (oth hs r) k rest).all (spareOk ws i) = true ↔ ∀ S : Str → Bool, S r = false → enters S (tlW ws i, hdW ws i) = true → k ≤ cnt (tlW ws) (hdW ws) S rest := by
  unfold sparesOf
  rw [List.all_map, List.all_eq_true]
  constructor
  · intro h S sr es
    have hh : S (hdW ws i) = true := by
      unfold K86M.enters at es
      simp only [Bool.and_eq_true] at es
      exact es.1
    have h1 := h _ (lot_mem nd sr (K86M.ends_at he i hi).2 hh)
    have h1 : (!enters (isIn ((oth hs r).filter S)) (tlW ws i, hdW ws i) || decide (0 < (cnt (tlW ws) (hdW ws) (isIn ((oth hs r).filter S)) rest : Int) - k + 1)) = true := h1
    rw [lot_ent he sr hi, es, lot_cnt he sr lt] at h1
    simp only [Bool.not_true, Bool.false_or, decide_eq_true_eq] at h1
    omega
  · intro h lot hl
    show (!enters (isIn lot) (tlW ws i, hdW ws i) || decide (0 < (cnt (tlW ws) (hdW ws) (isIn lot) rest : Int) - k + 1)) = true
    cases c : enters (isIn lot) (tlW ws i, hdW ws i) with
    | false => rfl
    | true =>
      have := h _ (lot_out nd hl).1 c
      simp only [Bool.not_true, Bool.false_or, decide_eq_true_eq]
      omega
theorem spares_step {ws : List (Str × Str)} {os : List Str} {k i : Nat} {rest rest' : List Nat} (p : rest.Perm (i :: rest')) : sparesOf ws os k rest' = (sparesOf ws os k rest).map fun sp => (sp.1, sp.2 - (if enters (isIn sp.1.items) (tlW ws i, hdW ws i) = true then 1 else 0)) := by
  unfold sparesOf
  rw [List.map_map]
  refine List.map_congr_left fun lot _ => ?_
  show (Tup.mk lot, _) = (Tup.mk lot, _)
  congr 1
  show _ = (cnt (tlW ws) (hdW ws) (isIn lot) rest : Int) - k + 1 - (if enters (isIn lot) (tlW ws i, hdW ws i) = true then 1 else 0)
  rw [K86M.cnt_perm _ _ _ p, K86M.cnt_cons]
  split <;> omega
theorem spares_len {ws : List (Str × Str)} {os : List Str} {k : Nat} {rest : List Nat} (h : os.length ≤ 4) : (sparesOf ws os k rest).length ≤ 16 := by
  unfold sparesOf
  rw [List.length_map]
  exact Nat.le_trans (K86M.lotsOf_len os) (Nat.pow_le_pow_right (by decide) h)
section
variable {X : Cx} {p pos : Pos} {e tg : Expr} {es : List Expr} {te : TE} {t : TA}
theorem p_lenK (K : PySem.W.Frag) (m : Bt X.mg) (ha : PA X (e :: es) t) (hK : X.K = K := by rfl) (hg : Gl X "len" := by rfl) (he : starEach (e :: es) X.env = (false, eval e X.env) :: starEach es X.env := by rfl) (hpl : (backTo pos (starEach es X.env)).any (·.1) = false := by rfl) :
    PE X (.Call (.Name "len" p) (e :: es) [] pos) (tCB (fun xs H Q => ∃ p ys, xs = [.ref p] ∧ (SqL K H p ys ∨ SqT K H p ys) ∧ Q (.int (ys.length : Nat)) H) t) := by
  subst hK
  exact p_len m ha hg he hpl
end
theorem intsN_at {l : List Nat} {j : Nat} {x : Int} (e : (intsN l)[j]? = some x) : ∃ i, l[j]? = some i ∧ x = (i : Int) := by
  unfold intsN at e
  rw [List.getElem?_map] at e
  cases hi : l[j]? with
  | none => rw [hi] at e; cases e
  | some i =>
    rw [hi] at e
    exact ⟨i, rfl, (Option.some.inj e).symm⟩
theorem mem_intsN {l : List Nat} {i : Nat} : (i : Int) ∈ intsN l ↔ i ∈ l := by
  unfold intsN
  rw [List.mem_map]
  constructor
  · rintro ⟨j, hj, e⟩
    rw [show i = j by omega]
    exact hj
  · exact fun h => ⟨i, h, rfl⟩
/-- grown_tree at its while -/
def GrwW (K : PySem.W.Frag) (H : Hp) (n lv wv : V) (M F : Addr) (hs : List Str) (ws : List (Str × Str)) (r : Str) (left : List Nat) (k : Nat) (num : Nat) (σ : L2.St) (H1 : Hp) : Prop :=
  ∃ (o5 : Option V) (S : Addr) (vs : List V) (met : List Str) (found rest : List Nat), num = hs.length - met.length ∧
    σ = [some n, some (.str r), some lv, some (.int (k : Int)), some wv, o5, some (.ref S), none, none, none, some (.ref M), some (.ref F)] ∧ Same H H1 ∧
    H1 M = some (.lst (met.map V.str)) ∧ H1 F = some (.lst ((intsN found).map V.int)) ∧ H1 S = some (.lst vs) ∧ S ≠ M ∧ S ≠ F ∧ IsAll K H1 vs (sparesOf ws (oth hs r) k rest) ∧ Tree (tlW ws) (hdW ws) hs r left k met found rest
section
variable {P : Program} {w : World} {K : PySem.W.Frag} {mg : Str → Option Value} {base : Heap} {f : Addr} {fd : FuncData}

def pr_grown_tree (K : PySem.W.Frag) : Pr := pr4 fun n x lv kv H Q => ∃ (hs : List Str) (ws : List (Str × Str)) (r : Str) (left : List Nat) (k : Nat), Is K H n (net hs ws) ∧ NetOk hs ws ∧ x = .str r ∧ r ∈ hs ∧ Is K H lv (intsN left) ∧ left.Nodup ∧ (∀ i ∈ left, i < ws.length) ∧ kv = .int (k : Int) ∧ 1 ≤ k ∧
  (¬ WideI (tlW ws) (hdW ws) hs r left k → ∀ H', Same H H' → Q .non H') ∧
  (WideI (tlW ws) (hdW ws) hs r left k → ∀ v H' is, Same H H' → Is K H' v (Tup.mk is) → WideI (tlW ws) (hdW ws) hs r (left.filter fun (i : Nat) => decide ((i : Int) ∉ is)) (k - 1) → Q v H')
theorem sc_grown_tree : FnScope n_grown_tree p_grown_tree (defScope s_grown_tree) := ⟨rfl, rfl, rfl, by decide +kernel, rfl, by decide +kernel, by decide +kernel⟩
theorem grown_tree_ok (m : Bt mg) (c_all_lots : Cal P w K mg base 1 "all_lots" [] (pr_all_lots K)) (c_does_enter : Cal P w K mg base 1 "does_enter" [] (pr_does_enter K)) (c_next_wire : Cal P w K mg base 2 "next_wire" [] (pr_next_wire K)) (D : Dfn K mg "grown_tree" s_grown_tree [] f fd) : Cal P w K mg base 3 "grown_tree" [] (pr_grown_tree K) := by
  refine D.cal sc_grown_tree (fun vs H Q h => len4 h) (fun _ _ _ _ _ _ us hl => match us, hl with | [_, _, _, _], _ => rfl) fun cdv A outer s H vs Q hr h => ?_
  obtain ⟨n, _, lv, _, rfl, hs, ws, r, left, k, hn, ok, rfl, hrm, hl, nd, lt, rfl, hk, q0, q1⟩ := inv4 h
  refine ⟨_, pss_cons (ps_set (i := 4) sc_grown_tree.nd rfl (Or.inr rfl) (pe_lc (own := [("index", 5)]) (g := gName 5) (tt := tYes) rfl sc_grown_tree.nd (pi_list (pv 2)) (blkOk_by (N := n_grown_tree) (sc := defScope s_grown_tree) (by decide +kernel)) (fun _ _ _ _ _ => (pg_name (i := 5) sc_grown_tree.nd rfl (.inl rfl))) (fun _ _ _ _ _ => pts_nil)
      (fun _ _ _ _ _ => pe_ix (r := rAtT K (Str × Str)) ix_atT (pe_ix (r := rSnd K (Tup Str) (Tup (Str × Str))) ix_snd (pv 0) pe_int (fun _ _ => rfl)) (pv 5) (fun _ _ => rfl))))
    (pss_cons (ps_setLc (i := 6) (own := [("lot", 8)]) (g := gName 8) (tt := tYes) rfl sc_grown_tree.nd rfl rfl (sw_true rfl rfl rfl (by decide +kernel)) (pi_list (p_call c_all_lots hr (pa_cons (pv 0) (pa_cons (pv 1) pa_nil)))) (blkOk_by (N := n_grown_tree) (sc := defScope s_grown_tree) (by decide +kernel)) (fun _ _ _ _ _ => (pg_name (i := 8) sc_grown_tree.nd rfl (.inr rfl))) (fun _ _ _ _ _ => pts_nil)
      (fun _ _ _ _ _ => pe_tup (pa_cons (pv 8) (pa_cons (pe_op op_add (pe_op op_sub (p_lenK K m (pa_cons (pe_lc (own := [("wire", 7)]) (g := gName 7) rfl sc_grown_tree.nd (pi_listK K (pv 4)) (blkOk_by (N := n_grown_tree) (sc := sc_gt) (by decide +kernel)) (fun _ _ _ _ _ => (pg_name (i := 7) sc_grown_tree.nd rfl (.inl rfl)))
        (fun _ _ _ _ _ => pts_one (pt_val (p_call c_does_enter hr (pa_cons (pv 7) (pa_cons (pv 8) pa_nil))))) (fun _ _ _ _ _ => pv 7)) pa_nil)) (pv 3)) pe_int) pa_nil))))
    (pss_cons (ps_if (pt_val (p_any m rfl (pa_cons (pe_lc (own := [("lot", 8), ("many", 9)]) (g := gTup K 2 (gCons (gName 8) (gCons (gName 9) gNil))) (tt := tYes) rfl sc_grown_tree.nd (pi_list (pv 6)) (blkOk_by (N := n_grown_tree) (sc := defScope s_grown_tree) (by decide +kernel)) (fun _ _ _ _ _ => pg_tup rfl (pgs_cons (pg_name (i := 8) sc_grown_tree.nd rfl (.inl rfl)) (pgs_cons (pg_name (i := 9) sc_grown_tree.nd rfl (.inl rfl)) pgs_nil))) (fun _ _ _ _ _ => pts_nil)
        (fun _ _ _ _ _ => pe_cmpR op_lt (pv 9) pe_int (nomark _))) pa_nil))) (pss_one (ps_ret pe_non)) pss_nil)
    (pss_cons (ps_par (i := 10) (j := 11) rfl sc_grown_tree.nd rfl rfl (by decide) rfl rfl (pa_cons (pe_lst (pa_cons (pv 1) pa_nil)) (pa_cons (pe_lst pa_nil) pa_nil)) rfl)
    (pss_cons (ps_while PassesOwn.never (pt_cmpR op_lt (p_len m (pa_cons (pv 10) pa_nil)) (p_len m (pa_cons (pe_ix (r := rFst K (Tup Str) (Tup (Str × Str))) ix_fst (pv 0) pe_int (fun _ _ => rfl)) pa_nil)) (nomark _))
      (pss_cons (ps_set (i := 5) sc_grown_tree.nd rfl (Or.inr rfl) (p_call c_next_wire hr (pa_cons (pv 0) (pa_cons (pv 2) (pa_cons (pv 6) (pa_cons (pv 10) pa_nil))))))
      (pss_cons (ps_expr (p_app (pv 11) (pa_cons (pv 5) pa_nil)))
      (pss_cons (ps_expr (p_app (pv 10) (pa_cons (pe_ix (r := rSnd K Str Str) ix_snd (pe_ix (r := rAtT K (Str × Str)) ix_atT (pe_ix (r := rSnd K (Tup Str) (Tup (Str × Str))) ix_snd (pv 0) pe_int (fun _ _ => rfl)) (pv 5) (fun _ _ => rfl)) pe_int (fun _ _ => rfl)) pa_nil)))
      (pss_one (ps_setLc (i := 6) (own := [("lot", 8), ("many", 9)]) (g := gTup K 2 (gCons (gName 8) (gCons (gName 9) gNil))) (tt := tYes) rfl sc_grown_tree.nd rfl rfl (sw_true rfl rfl rfl (by decide +kernel)) (pi_list (pv 6)) (blkOk_by (N := n_grown_tree) (sc := defScope s_grown_tree) (by decide +kernel)) (fun _ _ _ _ _ => pg_tup rfl (pgs_cons (pg_name (i := 8) sc_grown_tree.nd rfl (.inl rfl)) (pgs_cons (pg_name (i := 9) sc_grown_tree.nd rfl (.inl rfl)) pgs_nil))) (fun _ _ _ _ _ => pts_nil)
        (fun _ _ _ _ _ => pe_tup (pa_cons (pv 8) (pa_cons (pe_op op_sub (pv 9) (p_int m (pa_cons (p_call c_does_enter hr (pa_cons (pe_ix (r := rAtT K (Str × Str)) ix_atT (pe_ix (r := rSnd K (Tup Str) (Tup (Str × Str))) ix_snd (pv 0) pe_int (fun _ _ => rfl)) (pv 5) (fun _ _ => rfl)) (pa_cons (pv 8) pa_nil))) pa_nil))) pa_nil)))))))))
    (pss_one (ps_ret (p_tuple m call_tuple_of (pa_cons (p_sorted m (cr_srtT (α := Int) hr.u) (pa_cons (pv 11) pa_nil)) pa_nil)))))))), ?_⟩
  have fh := ok.fewH
  have fw := ok.fewW
  have he := ok.ends'
  have zl : left.length ≤ 100 := by
    have h1 := List.Nodup.length_le_of_subset nd (l₂ := List.range ws.length) fun i hi => List.mem_range.mpr (lt i hi)
    rw [List.length_range] at h1
    omega
  have lol := oth_len (r := r) ok
  have zlots : (lotsOf (oth hs r)).length ≤ 16 := Nat.le_trans (K86M.lotsOf_len _) (Nat.pow_le_pow_right (by decide) lol)
  obtain ⟨la, lv', rfl, lq, lh⟩ := hl.lst
  have ll : lv'.length = left.length := by rw [lh.length]; exact List.length_map ..
  refine ⟨_, rfl, la, rfl, ⟨_, lq⟩, fun D hD => lc_data (K := K) walk_list (fun (j : Nat) => left[j]?.map fun i => (tlW ws i, hdW ws i)) hD (by omega) (fun H1 s1 => sqL_same s1 lq) ?_ ?_⟩
  · rintro j v H1 H2 Ky Kn hj s1 ⟨rfl, hv⟩ k1 k2
    obtain ⟨x, hx1, hx2⟩ := lh.at hv
    obtain ⟨i, hi, rfl⟩ := intsN_at hx1
    obtain rfl := hx2.int
    have il := lt i (List.mem_of_getElem? hi)
    refine ⟨rfl, _, rfl, _, hn.same s1, rfl, fun nw hnw => ?_⟩
    exact ⟨_, rfl, _, i, _, hnw, rfl, K86M.at_tlhd il, fun u hu => k1 _ (tlW ws i, hdW ws i) _ (same_refl _) (by rw [hi]; rfl) hu⟩
  intro H1 wv s1 e1 hw
  rw [ll, fm_map] at hw
  have wvl : wv.length = left.length := by rw [hw.length, List.length_map]
  refine ⟨_, rfl, _, rfl, hs, ws, r, hn.same s1, rfl, ok.fewH, ok.nd, fun av H2 s2 ha => ?_⟩
  obtain ⟨aa, avs, rfl, aq, ah⟩ := ha.lst
  have alen : avs.length = (lotsOf (oth hs r)).length := by
    rw [ah.length]
    exact List.length_map ..
  refine ⟨aa, rfl, ⟨_, aq⟩, fun D2 hD2 => lc_data (K := K) walk_list (fun (j : Nat) => (lotsOf (oth hs r))[j]?.map fun lot => (Tup.mk lot, (cnt (tlW ws) (hdW ws) (isIn lot) left : Int) - k + 1)) hD2 (by omega) (fun H3 s3 => sqL_same s3 aq) ?_ ?_⟩
  · rintro j v H3 H4 Ky Kn hj s3 ⟨rfl, hv⟩ k1 k2
    obtain ⟨t, ht1, ht2⟩ := (ah.same s3).at hv
    obtain ⟨lot, hlot, rfl⟩ : ∃ lot, (lotsOf (oth hs r))[j]? = some lot ∧ Tup.mk lot = t := by
      unfold mks at ht1
      rw [List.getElem?_map] at ht1
      cases e : (lotsOf (oth hs r))[j]? with
      | none => rw [e] at ht1; cases ht1
      | some lot => rw [e] at ht1; exact ⟨lot, rfl, Option.some.inj ht1⟩
    have s23 := same_tr s2 s3
    have e13 := s23 _ _ e1
    refine ⟨rfl, _, rfl, _, rfl, D, rfl, ⟨_, SqL.of e13⟩, fun D3 hD3 => lc_data (K := K) walk_list (fun (j : Nat) => ((left.map fun i => (tlW ws i, hdW ws i))[j]?.filter (enters (isIn lot))).map id) hD3 (by omega) (fun H5 s5 => SqL.of (s5 _ _ e13)) ?_ ?_⟩
    · rintro j2 v2 H5 H6 Ky2 Kn2 hj2 s5 ⟨rfl, hv2⟩ k3 k4
      obtain ⟨wr, hw1, hw2⟩ := (hw.same (same_tr s23 s5)).at hv2
      refine ⟨rfl, _, rfl, _, rfl, wr, lot, hw2, ht2.same s5, _, rfl, ?_⟩
      cases c : enters (isIn lot) wr with
      | false => exact k4 _ (same_refl _) (by rw [hw1]; simp [Option.filter, c])
      | true => exact ⟨_, rfl, k3 _ wr _ (same_refl _) (by rw [hw1]; simp [Option.filter, c]) hw2⟩
    · intro H5 zs s5 e5 hz
      rw [wvl, ← List.length_map (f := fun i => (tlW ws i, hdW ws i)) (as := left), fm_filter, List.map_id] at hz
      have zlen : zs.length = cnt (tlW ws) (hdW ws) (isIn lot) left := by
        rw [hz.length, ← List.countP_eq_length_filter, List.countP_map]
        rfl
      refine ⟨D3, zs, rfl, .inl (SqL.of e5), _, rfl, _, _, rfl, rfl, _, _, rfl, rfl, ?_⟩
      refine ⟨by show 2 ≤ sizeLine; decide, fun p hp => ?_⟩
      show Ky (.ref p) (upd H5 p (.tup [v, .int ((zs.length : Int) - (k : Int) + 1)]))
      rw [zlen]
      exact k1 _ (Tup.mk lot, (cnt (tlW ws) (hdW ws) (isIn lot) left : Int) - k + 1) _ (same_tr s5 (same_new hp)) (by rw [hlot]; rfl) (is_pair (SqT.of upd_same) (ht2.same (same_tr s5 (same_new hp))) (is_int _))
  intro H3 ys s3 e3 hy
  rw [alen, fm_map] at hy
  have hy : IsAll K H3 ys (sparesOf ws (oth hs r) k left) := hy
  have ylen : ys.length = (sparesOf ws (oth hs r) k left).length := hy.length
  have y16 := spares_len (ws := ws) (k := k) (rest := left) lol
  have s13 := same_tr s1 (same_tr s2 s3)
  refine ⟨_, rfl, D2, rfl, ⟨_, SqL.of e3⟩, fun D4 hD4 => lc_data (K := K) walk_list (fun (j : Nat) => (sparesOf ws (oth hs r) k left)[j]?.map fun sp => decide (sp.2 < 1)) hD4 (by omega) (fun H4 s4 => SqL.of (s4 _ _ e3)) ?_ ?_⟩
  · rintro j v H4 H5 Ky Kn hj s4 ⟨rfl, hv⟩ k1 k2
    obtain ⟨sp, hsp1, hsp2⟩ := (hy.same s4).at hv
    obtain ⟨b, u, z, rfl, bq, hu, hz⟩ := hsp2.pair
    obtain rfl := hz.int
    refine ⟨b, _, rfl, bq, rfl, _, _, rfl, _, _, rfl, rfl, rfl, ?_⟩
    exact ⟨_, rfl, _, _, rfl, rfl, k1 _ (decide (sp.2 < 1)) _ (same_refl _) (by rw [hsp1]; rfl) (is_bl _)⟩
  intro H4 bs s4 e4 hb
  rw [ylen, fm_map] at hb
  refine ⟨D4, _, rfl, SqL.of (by rw [e4, isAll_bls hb]), _, rfl, ?_⟩
  have s14 := same_tr s13 s4
  have anyW : (((sparesOf ws (oth hs r) k left).map fun sp => decide (sp.2 < 1)).any id) = true ↔ ¬ WideI (tlW ws) (hdW ws) hs r left k := by
    rw [wideI_lots ok.nd he lt]
    unfold sparesOf
    rw [List.map_map, List.any_map, List.any_eq_true]
    constructor
    · rintro ⟨lot, hlot, h⟩ h2
      have h3 := h2 lot hlot
      have h : decide ((cnt (tlW ws) (hdW ws) (isIn lot) left : Int) - k + 1 < 1) = true := h
      have := of_decide_eq_true h
      omega
    · intro h
      refine Classical.byContradiction fun hno => h fun lot hlot => ?_
      refine Nat.le_of_not_lt fun hlt => hno ⟨lot, hlot, ?_⟩
      show decide ((cnt (tlW ws) (hdW ws) (isIn lot) left : Int) - k + 1 < 1) = true
      exact decide_eq_true (by omega)
  cases cw : (((sparesOf ws (oth hs r) k left).map fun sp => decide (sp.2 < 1)).any id) with
  | true => exact q0 (anyW.mp cw) _ s14
  | false =>
    have hW : WideI (tlW ws) (hdW ws) hs r left k := Classical.byContradiction fun h => by
      have := anyW.mpr h
      rw [cw] at this
      cases this
    refine ⟨_, rfl, by show 1 ≤ sizeLine; decide, fun M nM => ⟨Nat.zero_le _, fun F nF => ⟨_, _, rfl, ?_⟩⟩⟩
    have sM := same_new (o := .lst [.str r]) nM
    have sF := same_new (o := .lst []) nF
    have hMH : H M = none := free_of s14 nM
    have hFH : H F = none := free_of (same_tr s14 sM) nF
    have hFM : F ≠ M := fun e => by rw [e, upd_same] at nF; cases nF
    have e34 := s4 _ _ e3
    refine ⟨GrwW K H n (.ref la) (.ref D) M F hs ws r left k, ⟨_, none, D2, ys, [r], [], left, rfl, rfl, same_tr s14 (same_tr sM sF), sF _ _ upd_same, upd_same, sF _ _ (sM _ _ e34), (fun e => by rw [e, nM] at e34; cases e34), (fun e => by rw [e] at e34; rw [sM _ _ e34] at nF; cases nF), (hy.same s4).same (same_tr sM sF), Tree.start hrm hW⟩, ?_⟩
    rintro num σ H5 ⟨o5, S, vs, met, found, rest, rfl, rfl, s5, eM, eF, eS, hSM, hSF, hvs, T⟩
    have ltr : ∀ i ∈ rest, i < ws.length := fun i hi => lt i (T.perm.mem_iff.mpr (List.mem_append_right _ hi))
    have lmet : met.length ≤ hs.length := T.nd.length_le_of_subset T.sub
    have lfound : found.length ≤ left.length := by
      have := T.perm.length_eq
      rw [List.length_append] at this
      omega
    refine ⟨_, rfl, M, _, rfl, .inl (SqL.of eM), ?_⟩
    refine ⟨_, rfl, _, hn.same s5, rfl, fun u hu => ?_⟩
    obtain ⟨ua, uv, rfl, uq, uh⟩ := hu.tup
    have ul : uv.length = hs.length := uh.length
    refine ⟨ua, uv, rfl, .inr uq, _, _, rfl, rfl, _, rfl, ?_⟩
    rw [List.length_map, ul]
    by_cases c : met.length < hs.length
    · rw [show decide ((met.length : Int) < (hs.length : Int)) = true from decide_eq_true (by omega)]
      refine ⟨fun σ' H' => ∃ m', m' < _ ∧ GrwW K H n (.ref la) (.ref D) M F hs ws r left k m' σ' H', fun _ _ h => h, ?_⟩
      obtain ⟨z, hz, hzm⟩ : ∃ z ∈ hs, z ∉ met := Classical.byContradiction fun h => by
        have := ok.nd.length_le_of_subset (l₂ := met) fun z hz => Classical.byContradiction fun hm => h ⟨z, hz, hm⟩
        omega
      have hin : ∀ i ∈ left, tlW ws i ∈ hs ∧ hdW ws i ∈ hs := fun i hi => K86M.ends_at he i (lt i hi)
      have ex : ∃ i ∈ left, outOf ws met i = true ∧ (sparesOf ws (oth hs r) k rest).all (spareOk ws i) = true := by
        obtain ⟨i, hi, h1, h2, h3⟩ := T.on hk hin hW hz hzm
        exact ⟨i, hi, by unfold outOf; simp [h1, h2], (spares_all ok.nd he ltr (lt i hi)).mpr h3⟩
      have sl := spares_len (ws := ws) (k := k) (rest := rest) lol
      refine ⟨_, rfl, _, rfl, _, rfl, _, rfl, hs, ws, left, sparesOf ws (oth hs r) k rest, met, hn.same s5, hl.same s5, is_lst (SqL.of eS) hvs, is_lst (SqL.of eM) (strs_isAll met), lt, by omega, by omega, ex, fun i H6 s6 hi ho hsp => ?_⟩
      have il := lt i hi
      unfold outOf at ho
      simp only [Bool.and_eq_true, decide_eq_true_eq] at ho
      obtain ⟨rest', T', pr⟩ := T.step hin hi ho.2 ((spares_all ok.nd he ltr il).mp hsp)
      have s06 := same_tr s5 s6
      have eF6 := s6 _ _ eF
      have eM6 := s6 _ _ eM
      have eS6 := s6 _ _ eS
      refine ⟨_, rfl, .inl ⟨rfl, _, SqL.of eF6⟩, _, rfl, F, _, _, rfl, rfl, eF6, by unfold intsN; rw [List.length_map, List.length_map, sizeLine_eq]; omega, ?_⟩
      have k7 := keep_lst (o := .lst ((intsN found).map V.int ++ [.int (i : Int)])) eF6
      have s7 : Same H (upd H6 F (.lst ((intsN found).map V.int ++ [.int (i : Int)]))) := same_at s06 hFH
      have eF7 : upd H6 F (.lst ((intsN found).map V.int ++ [.int (i : Int)])) F = some (.lst ((intsN (found ++ [i])).map V.int)) := by
        rw [upd_same]
        unfold intsN
        rw [List.map_append, List.map_append]
        rfl
      have eM7 : upd H6 F (.lst ((intsN found).map V.int ++ [.int (i : Int)])) M = some (.lst (met.map V.str)) := by rw [upd_ne (Ne.symm hFM)]; exact eM6
      have eS7 : upd H6 F (.lst ((intsN found).map V.int ++ [.int (i : Int)])) S = some (.lst vs) := by rw [upd_ne hSF]; exact eS6
      have hv7 := (hvs.same s6).keep k7
      generalize upd H6 F (.lst ((intsN found).map V.int ++ [.int (i : Int)])) = H7 at k7 s7 eF7 eM7 eS7 hv7 ⊢
      refine ⟨_, rfl, .inl ⟨rfl, _, SqL.of eM7⟩, ?_⟩
      refine ⟨_, rfl, _, hn.same s7, rfl, fun nw hnw => ?_⟩
      refine ⟨_, rfl, _, i, _, hnw, rfl, K86M.at_tlhd il, fun u hu => ?_⟩
      refine ⟨_, hu, rfl, fun u2 hu2 => ?_⟩
      obtain rfl := hu2.str
      refine ⟨M, _, _, rfl, rfl, eM7, by rw [List.length_map, sizeLine_eq]; omega, ?_⟩
      have k8 := keep_lst (o := .lst (met.map V.str ++ [.str (hdW ws i)])) eM7
      have s8 : Same H (upd H7 M (.lst (met.map V.str ++ [.str (hdW ws i)]))) := same_at s7 hMH
      have eM8 : upd H7 M (.lst (met.map V.str ++ [.str (hdW ws i)])) M = some (.lst ((met ++ [hdW ws i]).map V.str)) := by
        rw [upd_same, List.map_append]
        rfl
      have eF8 : upd H7 M (.lst (met.map V.str ++ [.str (hdW ws i)])) F = some (.lst ((intsN (found ++ [i])).map V.int)) := by rw [upd_ne hFM]; exact eF7
      have eS8 : upd H7 M (.lst (met.map V.str ++ [.str (hdW ws i)])) S = some (.lst vs) := by rw [upd_ne hSM]; exact eS7
      have hv8 := hv7.keep k8
      have vl : vs.length = (sparesOf ws (oth hs r) k rest).length := hvs.length
      refine ⟨_, rfl, S, rfl, ⟨_, SqL.of eS8⟩, fun D5 hD5 => lc_data (K := K) walk_list (fun (j : Nat) => (sparesOf ws (oth hs r) k rest)[j]?.map fun sp => (sp.1, sp.2 - (if enters (isIn sp.1.items) (tlW ws i, hdW ws i) = true then 1 else 0))) hD5 (by omega) (fun H9 s9 => SqL.of (s9 _ _ eS8)) ?_ ?_⟩
      · rintro j v H9 H10 Ky Kn hj s9 ⟨rfl, hv⟩ k1 k2
        obtain ⟨sp, hsp1, hsp2⟩ := (hv8.same s9).at hv
        obtain ⟨b, u, z, rfl, bq, hu, hz⟩ := hsp2.pair
        obtain rfl := hz.int
        refine ⟨b, _, rfl, bq, rfl, _, _, rfl, _, _, rfl, rfl, rfl, _, rfl, _, rfl, ?_⟩
        refine ⟨_, rfl, _, (hn.same s8).same s9, rfl, fun nw hnw => ?_⟩
        refine ⟨_, rfl, _, i, _, hnw, rfl, K86M.at_tlhd il, fun u3 hu3 => ?_⟩
        refine ⟨_, rfl, _, sp.1.items, hu3, hu, .inr ⟨_, rfl, _, _, rfl, rfl, by show 2 ≤ sizeLine; decide, fun p hp => ?_⟩⟩
        exact k1 _ (sp.1, sp.2 - (if enters (isIn sp.1.items) (tlW ws i, hdW ws i) = true then 1 else 0)) _ (same_new hp) (by rw [hsp1]; rfl) (is_pair (SqT.of upd_same) (hu.same (same_new hp)) (is_int _))
      · intro H9 zs s9 e9 hz
        rw [vl, fm_map, ← spares_step pr] at hz
        refine ⟨hs.length - (met ++ [hdW ws i]).length, by rw [List.length_append, List.length_singleton]; omega, _, D5, zs, met ++ [hdW ws i], found ++ [i], rest', rfl, rfl, same_tr s8 s9, s9 _ _ eM8, s9 _ _ eF8, e9, fun e => ?_, fun e => ?_, hz, T'⟩
        · rw [e, eM8] at hD5; cases hD5
        · rw [e, eF8] at hD5; cases hD5
    · rw [show decide ((met.length : Int) < (hs.length : Int)) = false from decide_eq_false (by omega)]
      refine ⟨_, rfl, F, _, intsN found, rfl, .inl (SqL.of eF), ints_isAll _, srtable_int _, fun p out np hout => ?_⟩
      refine ⟨p, out, rfl, .inl ⟨SqL.of upd_same, fun p2 np2 => ?_⟩⟩
      refine q1 hW _ _ (srt (intsN found)) (same_tr s5 (same_tr (same_new np) (same_new np2))) (is_tup (SqT.of upd_same) (hout.same (same_tr (same_new np) (same_new np2)))) ?_
      have hd := T.done nd (tree := found) fun i => Iff.rfl
      have ef : (left.filter fun (i : Nat) => decide ((i : Int) ∉ srt (intsN found))) = left.filter fun i => decide (i ∉ found) := List.filter_congr fun i _ => by
        rw [decide_eq_decide, srt_mem, mem_intsN]
      rw [ef]
      exact hd
end
end K86

end

section
set_option Elab.async false
set_option linter.all false
set_option maxRecDepth 100000
set_option maxHeartbeats 2000000
/-! The walks: bundles. -/
namespace K86
open PySem PySem.Spec PyProof.Rows L2
open PySem.W (Datum DatumOrd Tup T3 T4 Holds HoldAll)
open K86M (tlW hdW Ends subs lotsOf isIn enters cnt WideI Tree Wide)
theorem wide_range {hs : List Str} {ws : List (Str × Str)} {r : Str} {k : Nat} : WideI (tlW ws) (hdW ws) hs r (List.range ws.length) k ↔ Wide hs r ws k := by
  unfold K86M.WideI K86M.Wide
  constructor
  · intro h S sr hx
    rw [← K86M.cnt_range]
    exact h S sr hx
  · intro h S sr hx
    rw [K86M.cnt_range]
    exact h S sr hx
theorem rgV_nat (n : Nat) : rgV 0 (n : Int) = (intsN (List.range n)).map V.int := by
  unfold rgV intsN
  rw [List.map_map, show ((n : Int) - 0).toNat = n by omega]
  refine List.map_congr_left fun i _ => ?_
  show V.int (0 + (i : Int)) = V.int (i : Int)
  rw [Int.zero_add]
/-- grown_bundle at its for -/
def BunP (K : PySem.W.Frag) (H : Hp) (n : V) (F : Addr) (hs : List Str) (ws : List (Str × Str)) (r : Str) (k : Nat) (i : Nat) (σ : L2.St) (H1 : Hp) : Prop :=
  ∃ (o5 o6 : Option V) (L : Addr) (vs : List V) (left : List Nat) (ts : List (Tup Int)), σ = [some n, some (.str r), some (.int (k : Int)), some (.ref L), some (.ref F), o5, o6, none] ∧ Same H H1 ∧
    H1 L = some (.lst ((intsN left).map V.int)) ∧ L ≠ F ∧ H1 F = some (.lst vs) ∧ IsAll K H1 vs ts ∧ ts.length = i ∧ left.Nodup ∧ (∀ i ∈ left, i < ws.length) ∧
    ((i = 0 ∧ left = List.range ws.length) ∨ (WideI (tlW ws) (hdW ws) hs r left (k - i) ∧ Wide hs r ws k))
section
variable {P : Program} {w : World} {K : PySem.W.Frag} {mg : Str → Option Value} {base : Heap} {f : Addr} {fd : FuncData}

def pr_grown_bundle (K : PySem.W.Frag) : Pr := pr3 fun n x kv H Q => ∃ (hs : List Str) (ws : List (Str × Str)) (r : Str) (k : Nat), Is K H n (net hs ws) ∧ NetOk hs ws ∧ x = .str r ∧ r ∈ hs ∧ kv = .int (k : Int) ∧ k ≤ 9 ∧
  (¬ Wide hs r ws k → ∀ H', Same H H' → Q .non H') ∧ (Wide hs r ws k → ∀ v H' (ts : List (Tup Int)), Same H H' → Is K H' v (Tup.mk ts) → ts.length = k → Q v H')
theorem sc_grown_bundle : FnScope n_grown_bundle p_grown_bundle (defScope s_grown_bundle) := ⟨rfl, rfl, rfl, by decide +kernel, rfl, by decide +kernel, by decide +kernel⟩
theorem grown_bundle_ok (m : Bt mg) (c_grown_tree : Cal P w K mg base 3 "grown_tree" [] (pr_grown_tree K)) (D : Dfn K mg "grown_bundle" s_grown_bundle [] f fd) : Cal P w K mg base 4 "grown_bundle" [] (pr_grown_bundle K) := by
  refine D.cal sc_grown_bundle (fun vs H Q h => len3 h) (fun _ _ _ _ _ _ us hl => match us, hl with | [_, _, _], _ => rfl) fun cdv A outer s H vs Q hr h => ?_
  obtain ⟨n, _, _, rfl, hs, ws, r, k, hn, ok, rfl, hrm, rfl, hk9, q0, q1⟩ := inv3 h
  have fw := ok.fewW
  refine ⟨_, pss_cons (ps_par (i := 3) (j := 4) rfl sc_grown_bundle.nd rfl rfl (by decide) rfl rfl (pa_cons (pe_listRg rfl rfl m.list (prg_1 rfl m.range (p_len m (pa_cons (pe_ix (r := rSnd K (Tup Str) (Tup (Str × Str))) ix_snd (pv 0) pe_int (fun _ _ => rfl)) pa_nil)))) (pa_cons (pe_lst pa_nil) pa_nil)) rfl)
    (pss_cons (ps_for PassesOwn.never rfl (pi_range1 rfl m.range (pa_cons (pv 2) pa_nil)) (pg_name (i := 5) sc_grown_bundle.nd rfl (.inl rfl))
      (pss_cons (ps_set (i := 6) sc_grown_bundle.nd rfl (Or.inr rfl) (p_call c_grown_tree hr (pa_cons (pv 0) (pa_cons (pv 1) (pa_cons (pv 3) (pa_cons (pe_op op_sub (pv 2) (pv 5)) pa_nil))))))
      (pss_cons (ps_if (pt_cmp (pc_isN (pv 6))) (pss_one (ps_ret pe_non)) pss_nil)
      (pss_cons (ps_expr (p_app (pv 4) (pa_cons (pv 6) pa_nil)))
      (pss_one (ps_setLc (i := 3) (own := [("index", 7)]) (g := gName 7) rfl sc_grown_bundle.nd rfl rfl (sw_true rfl rfl rfl (by decide +kernel)) (pi_list (pv 3)) (blkOk_by (N := n_grown_bundle) (sc := defScope s_grown_bundle) (by decide +kernel)) (fun _ _ _ _ _ => (pg_name (i := 7) sc_grown_bundle.nd rfl (.inl rfl)))
        (fun _ _ _ _ _ => pts_one (pt_cmpR (r := rNinT K Int) (op_ninT hr.u) (pv 7) (pv 6) rfl)) (fun _ _ _ _ _ => pv 7)))))))
    (pss_one (ps_ret (p_tuple m call_tuple_of (pa_cons (pv 4) pa_nil))))), ?_⟩
  refine ⟨_, rfl, _, hn, rfl, fun u hu => ?_⟩
  obtain ⟨ua, uv, rfl, uq, uh⟩ := hu.tup
  have ul : uv.length = ws.length := uh.length
  refine ⟨ua, uv, rfl, .inr uq, _, rfl, RgOk.of_le (by omega) (by omega) (by omega) (by omega), fun L nL => ⟨Nat.zero_le _, fun F nF => ⟨_, _, rfl, ?_⟩⟩⟩
  rw [ul, rgV_nat] at nF ⊢
  have sL := same_new (o := .lst ((intsN (List.range ws.length)).map V.int)) nL
  have sF := same_new (o := .lst []) nF
  have hFH : H F = none := free_of sL nF
  have hLF : L ≠ F := fun e => by rw [← e, upd_same] at nF; cases nF
  refine ⟨_, rfl, (k : Int), rfl, by omega, by omega, for_range (lo := 0) (BunP K H n F hs ws r k) ⟨none, none, L, [], List.range ws.length, [], rfl, same_tr sL sF, sF _ _ upd_same, hLF, upd_same, .nil, rfl, List.nodup_range, fun i hi => List.mem_range.mp hi, .inl ⟨rfl, rfl⟩⟩ ?_ ?_⟩
  · rintro i σ H1 hi ⟨o5, o6, L, vs, left, ts, rfl, s1, eL, hLF, eF, hvs, tl, nd, lt, st⟩
    have hi : i < k := hi
    have zl : left.length ≤ 100 := by
      have h1 := List.Nodup.length_le_of_subset nd (l₂ := List.range ws.length) fun i hi => List.mem_range.mpr (lt i hi)
      rw [List.length_range] at h1
      omega
    have wd : WideI (tlW ws) (hdW ws) hs r left (k - i) → Wide hs r ws k := fun h => by
      rcases st with ⟨e1, e2⟩ | ⟨_, h2⟩
      · rw [e2, e1] at h
        exact wide_range.mp h
      · exact h2
    refine ⟨_, rfl, _, rfl, _, rfl, _, rfl, _, rfl, _, _, rfl, rfl, ?_⟩
    refine ⟨hs, ws, r, left, k - i, hn.same s1, ok, rfl, hrm, is_lst (SqL.of eL) (ints_isAll _), nd, lt, congrArg V.int (by omega), by omega, fun hW H2 s2 => ?_, fun hW v H2 is s2 hv hW2 => ?_⟩
    · refine ⟨_, rfl, _, rfl, ?_⟩
      refine q0 (fun h => hW ?_) _ (same_tr s1 s2)
      rcases st with ⟨e1, e2⟩ | ⟨h1, _⟩
      · rw [e2, e1]
        exact wide_range.mpr h
      · exact h1
    · have ⟨va, vv, ev, vq, vh⟩ := hv.tup
      subst ev
      have eF2 := s2 _ _ eF
      have eL2 := s2 _ _ eL
      have lvs : vs.length = i := by rw [hvs.length, tl]
      refine ⟨_, rfl, _, rfl, _, rfl, .inl ⟨rfl, _, SqL.of eF2⟩, _, rfl, F, _, _, rfl, rfl, eF2, by rw [sizeLine_eq]; omega, ?_⟩
      have k3 := keep_lst (o := .lst (vs ++ [.ref va])) eF2
      have s3 : Same H (upd H2 F (.lst (vs ++ [.ref va]))) := same_at (same_tr s1 s2) hFH
      have eF3 : upd H2 F (.lst (vs ++ [.ref va])) F = some (.lst (vs ++ [.ref va])) := upd_same
      have eL3 : upd H2 F (.lst (vs ++ [.ref va])) L = some (.lst ((intsN left).map V.int)) := by rw [upd_ne hLF]; exact eL2
      have hv3 : IsAll K (upd H2 F (.lst (vs ++ [.ref va]))) (vs ++ [.ref va]) (ts ++ [Tup.mk is]) := ((hvs.same s2).append (.cons hv .nil)).keep k3
      have hi3 := hv.keep k3
      generalize upd H2 F (.lst (vs ++ [.ref va])) = H3 at k3 s3 eF3 eL3 hv3 hi3 ⊢
      have ll : ((intsN left).map V.int).length = left.length := by unfold intsN; rw [List.length_map, List.length_map]
      refine ⟨_, rfl, L, rfl, ⟨_, SqL.of eL3⟩, fun D hD => lc_data (K := K) walk_list (fun (j : Nat) => (left[j]?.filter fun (i : Nat) => decide ((i : Int) ∉ is)).map fun (i : Nat) => (i : Int)) hD (by omega) (fun H4 s4 => SqL.of (s4 _ _ eL3)) ?_ ?_⟩
      · rintro j v H4 H5 Ky Kn hj s4 ⟨rfl, hv⟩ k1 k2
        obtain ⟨x, hx1, hx2⟩ := (ints_isAll (K := K) (H := H) (intsN left)).at hv
        obtain ⟨i', hi', rfl⟩ := intsN_at hx1
        obtain rfl := hx2.int
        refine ⟨rfl, _, rfl, _, rfl, (i' : Int), Tup.mk is, is_int _, hi3.same s4, _, rfl, ?_⟩
        by_cases c : (i' : Int) ∈ is
        · rw [decide_eq_false (not_not_intro c)]
          exact k2 _ (same_refl _) (by rw [hi']; simp [Option.filter, c])
        · rw [decide_eq_true c]
          exact ⟨_, rfl, k1 _ (i' : Int) _ (same_refl _) (by rw [hi']; simp [Option.filter, c]) (is_int _)⟩
      · intro H4 ys s4 e4 hy
        rw [ll, fm_filter] at hy
        have ey := isAll_ints hy
        subst ey
        refine ⟨_, _, D, _, left.filter fun (i : Nat) => decide ((i : Int) ∉ is), ts ++ [Tup.mk is], rfl, same_tr s3 s4, e4, fun e => ?_, s4 _ _ eF3, hv3.same s4, by rw [List.length_append, tl]; rfl, nd.sublist List.filter_sublist, fun i hi => lt i (List.mem_filter.mp hi).1, .inr ⟨?_, wd hW⟩⟩
        · rw [e, eF3] at hD; cases hD
        · rw [show k - (i + 1) = k - i - 1 by omega]
          exact hW2
  · rintro σ H1 ⟨o5, o6, L, vs, left, ts, rfl, s1, eL, hLF, eF, hvs, tl, nd, lt, st⟩
    refine ⟨_, rfl, F, vs, rfl, .inl ⟨SqL.of eF, fun p np => ?_⟩⟩
    refine q1 ?_ _ _ ts (same_tr s1 (same_new np)) (is_tup (SqT.of upd_same) (hvs.same (same_new np))) tl
    rcases st with ⟨e1, e2⟩ | ⟨_, h⟩
    · have e1 : k = 0 := e1
      rw [e1]
      exact fun S _ _ => Nat.zero_le _
    · exact h

def pr_bundle (K : PySem.W.Frag) : Pr := pr3 fun n x kv H Q => ∃ (hs : List Str) (ws : List (Str × Str)) (r : Str) (k : Nat), Is K H n (net hs ws) ∧ NetOk hs ws ∧ x = .str r ∧ r ∈ hs ∧ kv = .int (k : Int) ∧ k ≤ 9 ∧
  (¬ Wide hs r ws k → ∀ H', Same H H' → Q .non H') ∧ (Wide hs r ws k → ∀ v H' (ts : List (Tup Int)), Same H H' → Is K H' v (Tup.mk ts) → ts.length = k → Q v H')
theorem sc_bundle : FnScope n_bundle p_bundle (defScope s_bundle) := ⟨rfl, rfl, rfl, by decide +kernel, rfl, by decide +kernel, by decide +kernel⟩
theorem bundle_ok (m : Bt mg) (c_want_root : Cal P w K mg base 5 "want_root" [] (pr_want_root K)) (c_want_many_trees : Cal P w K mg base 3 "want_many_trees" [] (pr_want_many_trees K)) (c_grown_bundle : Cal P w K mg base 4 "grown_bundle" [] (pr_grown_bundle K)) (D : Dfn K mg "bundle" s_bundle [] f fd) : Cal P w K mg base 6 "bundle" [] (pr_bundle K) := by
  refine D.cal sc_bundle (fun vs H Q h => len3 h) (fun _ _ _ _ _ _ us hl => match us, hl with | [_, _, _], _ => rfl) fun cdv A outer s H vs Q hr h => ?_
  obtain ⟨n, _, _, rfl, hs, ws, r, k, hn, ok, rfl, hrm, rfl, hk9, q0, q1⟩ := inv3 h
  refine ⟨_, pss_cons (ps_expr (p_call c_want_root hr (pa_cons (pv 0) (pa_cons (pv 1) pa_nil)))) (pss_cons (ps_expr (p_call c_want_many_trees hr (pa_cons (pv 2) (pa_cons pe_int pa_nil)))) (pss_one (ps_ret (p_call c_grown_bundle hr (pa_cons (pv 0) (pa_cons (pv 1) (pa_cons (pv 2) pa_nil))))))), ?_⟩
  refine ⟨_, rfl, _, rfl, hs, ws, r, hn, ok, rfl, hrm, fun _ H1 s1 => ?_⟩
  refine ⟨_, rfl, k, 0, rfl, rfl, by omega, by omega, by omega, fun _ => ?_⟩
  exact ⟨_, rfl, _, rfl, _, rfl, hs, ws, r, k, hn.same s1, ok, rfl, hrm, rfl, hk9, fun hW H2 s2 => q0 hW _ (same_tr s1 s2), fun hW v H2 ts s2 hv tl => q1 hW v _ ts (same_tr s1 s2) hv tl⟩
end
end K86

end

section
set_option Elab.async false
set_option linter.all false
set_option maxRecDepth 100000
set_option maxHeartbeats 2000000
/-! The walks: faults of papers; wires put and taken. -/
namespace K86
open PySem PySem.Spec PyProof.Rows L2
open PySem.W (Datum DatumOrd Tup T3 T4 Holds HoldAll)
open K86M (tlW hdW Ends subs lotsOf isIn enters cnt WideI Tree Wide pairsOf lacking ent Apart)
theorem pe_never {X : Cx} {e : Expr} : PE X e (fun _ _ _ => False) := ⟨fun _ _ _ _ _ _ h => h.elim⟩
/-- lots as a paper should show them -/
structure LotsGood (hs : List Str) (r : Str) (L : List (Tup Str)) : Prop where
  each : ∀ t ∈ L, t.items ≠ [] ∧ (∀ x ∈ t.items, x ∈ hs ∧ x ≠ r) ∧ UpS t.items
  apart : Apart (L.map (·.items))
  few : L.length ≤ 100
/-- wires as a paper should show them -/
structure WiresGood (hs : List Str) (ws : List (Str × Str)) (r : Str) (k : Nat) (xs : List (Str × Str)) : Prop where
  each : ∀ x ∈ xs, x.1 = r ∧ x.2 ∈ hs ∧ x.2 ≠ r
  up : Up xs
  few : xs.length ≤ 100
  wide : Wide hs r (ws ++ xs) k
section
variable {P : Program} {w : World} {K : PySem.W.Frag} {mg : Str → Option Value} {base : Heap} {f : Addr} {fd : FuncData}

def pr_is_lot (K : PySem.W.Frag) : Pr := pr3 fun n x tv H Q => ∃ (hs : List Str) (ws : List (Str × Str)) (r : Str) (lot : List Str), Is K H n (net hs ws) ∧ NetOk hs ws ∧ x = .str r ∧ Is K H tv (Tup.mk lot) ∧ lot ≠ [] ∧ (∀ x ∈ lot, x ∈ hs ∧ x ≠ r) ∧ UpS lot ∧ ∀ H', Same H H' → Q (.bl true) H'
theorem sc_is_lot : FnScope n_is_lot p_is_lot (defScope s_is_lot) := ⟨rfl, rfl, rfl, by decide +kernel, rfl, by decide +kernel, by decide +kernel⟩
theorem is_lot_ok (m : Bt mg) (c_is_houses : Cal P w K mg base 3 "is_houses" [] (pr_is_houses K)) (D : Dfn K mg "is_lot" s_is_lot [] f fd) : Cal P w K mg base 4 "is_lot" [] (pr_is_lot K) := by
  refine D.cal sc_is_lot (fun vs H Q h => len3 h) (fun _ _ _ _ _ _ us hl => match us, hl with | [_, _, _], _ => rfl) fun cdv A outer s H vs Q hr h => ?_
  obtain ⟨n, _, tv, rfl, hs, ws, r, lot, hn, ok, rfl, ht, ne, hin, up, q⟩ := inv3 h
  have fh := ok.fewH
  have ll : lot.length ≤ 4 := Nat.le_trans (up.nodup.length_le_of_subset fun x hx => (hin x hx).1) fh
  refine ⟨_, pss_cons (ps_if (pt_not (pt_val (p_call c_is_houses hr (pa_cons (pv 2) pa_nil)))) pss_never pss_nil)
    (pss_cons (ps_set (i := 3) sc_is_lot.nd rfl (Or.inr rfl) (pe_dc (own := [("house", 4)]) (g := gName 4) (tt := tYes) rfl sc_is_lot.nd (pi_tup (pe_ix (r := rFst K (Tup Str) (Tup (Str × Str))) ix_fst (pv 0) pe_int (fun _ _ => rfl))) (blkOk_by (N := n_is_lot) (sc := defScope s_is_lot) (by decide +kernel)) (fun _ _ _ _ _ => (pg_name (i := 4) sc_is_lot.nd rfl (.inl rfl))) (fun _ _ _ _ _ => pts_nil) (fun _ _ _ _ _ => pv 4) (fun _ _ _ _ _ => pe_bl)))
    (pss_one (ps_ret (p_all m rfl (pa_cons (pe_lc (own := [("house", 4)]) (g := gName 4) (tt := tYes) rfl sc_is_lot.nd (pi_tup (pv 2)) (blkOk_by (N := n_is_lot) (sc := defScope s_is_lot) (by decide +kernel)) (fun _ _ _ _ _ => (pg_name (i := 4) sc_is_lot.nd rfl (.inl rfl))) (fun _ _ _ _ _ => pts_nil)
      (fun _ _ _ _ _ => pe_and (pe_cmpR (r := rMem K) (op_mem hr.u) (pv 4) (pv 3) rfl) (pe_one (pe_cmpR op_ne (pv 4) (pv 1) (nomark _))))) pa_nil))))), ?_⟩
  refine ⟨_, rfl, lot, ht, fun x hx => ok.nm x (hin x hx).1, up, by omega, ne, fun H1 s1 => ?_⟩
  refine ⟨_, rfl, ?_⟩
  refine ⟨_, rfl, _, hn.same s1, rfl, fun u hu => ?_⟩
  obtain ⟨ha, hv, rfl, hq, hh⟩ := hu.tup
  have eh := isAll_strs hh
  subst eh
  refine ⟨ha, rfl, ⟨_, hq⟩, fun d hd => dc_texts (K := K) (xs := hs) (v := .bl true) hd hq ok.nd (by omega) (fun z H1 Ky hz s1 k => ⟨rfl, rfl, _, rfl, k⟩) (fun x σ H Q Q' hq hx => hq _ _ hx) (fun σ H Q Q' hq hx => hq _ _ hx) ?_⟩
  intro H2 s2 e2
  obtain ⟨ta, tvs, rfl, tq, th⟩ := ((ht.same s1).same s2).tup
  have tl : tvs.length = lot.length := th.length
  refine ⟨_, rfl, ta, rfl, ⟨_, tq⟩, fun D hD => lc_data (K := K) walk_tup (fun (j : Nat) => lot[j]?.map fun _ => true) hD (by omega) (fun H3 s3 => sqT_same s3 tq) ?_ ?_⟩
  · rintro j v H3 H4 Ky Kn hj s3 ⟨rfl, hv⟩ k1 k2
    obtain ⟨z, hz1, hz2⟩ := th.at hv
    obtain rfl := hz2.str
    have hz1 : lot[j]? = some z := hz1
    have hz := hin z (List.mem_of_getElem? hz1)
    have has : ∀ {b}, b = decide (z ∈ hs) → Has K _ (.ref d) z b := fun {b} e => .inr ⟨d, _, rfl, .inl (s3 _ _ e2), by rw [val_texts]; exact e⟩
    refine ⟨rfl, _, rfl, _, rfl, z, true, rfl, has (decide_eq_true hz.1).symm, ?_⟩
    refine ⟨_, rfl, _, rfl, _, rfl, rfl, ?_⟩
    rw [show decide (V.str z = V.str r) = false from decide_eq_false fun e => hz.2 (by injection e)]
    exact k1 _ true _ (same_refl _) (by rw [hz1]; rfl) (is_bl true)
  · intro H3 ys s3 e3 hy
    rw [tl, fm_map] at hy
    refine ⟨D, _, rfl, SqL.of (by rw [e3, isAll_bls hy]), ?_⟩
    rw [show (lot.map fun _ => true).all id = true by simp]
    exact q _ (same_tr s1 (same_tr s2 s3))

def pr_wires_fault (K : PySem.W.Frag) : Pr := pr4 fun n x kv wv H Q => ∃ (hs : List Str) (ws : List (Str × Str)) (r : Str) (k : Nat) (xs : List (Str × Str)), Is K H n (net hs ws) ∧ NetOk hs ws ∧ x = .str r ∧ r ∈ hs ∧ kv = .int (k : Int) ∧ Is K H wv (Tup.mk xs) ∧ WiresGood hs ws r k xs ∧ ∀ H', Same H H' → Q .non H'
theorem sc_wires_fault : FnScope n_wires_fault p_wires_fault (defScope s_wires_fault) := ⟨rfl, rfl, rfl, by decide +kernel, rfl, by decide +kernel, by decide +kernel⟩
theorem wires_fault_ok (m : Bt mg) (c_is_wire_of : Cal P w K mg base 2 "is_wire_of" [] (pr_is_wire_of K)) (c_net_of : Cal P w K mg base 1 "net_of" [] (pr_net_of K)) (c_narrow_by : Cal P w K mg base 5 "narrow_by" [] (pr_narrow_by K)) (D : Dfn K mg "wires_fault" s_wires_fault [] f fd) : Cal P w K mg base 6 "wires_fault" [] (pr_wires_fault K) := by
  refine D.cal sc_wires_fault (fun vs H Q h => len4 h) (fun _ _ _ _ _ _ us hl => match us, hl with | [_, _, _, _], _ => rfl) fun cdv A outer s H vs Q hr h => ?_
  obtain ⟨n, _, _, wv, rfl, hs, ws, r, k, xs, hn, ok, rfl, hrm, rfl, hw, G, q⟩ := inv4 h
  have fh := ok.fewH
  have fw := ok.fewW
  have fx := G.few
  obtain ⟨xa, xv, rfl, xq, xh⟩ := hw.tup
  have xl : xv.length = xs.length := xh.length
  refine ⟨_, pss_cons (ps_for PassesOwn.never rfl (pi_enumT rfl m.enumerate (pa_cons (pv 3) pa_nil)) (pg_tup rfl (pgs_cons (pg_name (i := 4) sc_wires_fault.nd rfl (.inl rfl)) (pgs_cons (pg_name (i := 5) sc_wires_fault.nd rfl (.inl rfl)) pgs_nil)))
      (pss_cons (ps_if (pw_or (pt_not (pt_val (p_call c_is_wire_of hr (pa_cons (pe_ix (r := rFst K (Tup Str) (Tup (Str × Str))) ix_fst (pv 0) pe_int (fun _ _ => rfl)) (pa_cons (pv 5) pa_nil))))) (pw_or1 (pt_cmpR op_ne (pe_ix (r := rFst K Str Str) ix_fst (pv 5) pe_int (fun _ _ => rfl)) (pv 1) (nomark _)))).pt pss_never pss_nil)
      (pss_one (ps_if (pw_and (pt_cmpR op_gt (pv 4) pe_int (nomark _)) (pw_and1 (pt_cmpR (op_ltT' (α := Str × Str) hr.u) (pv 5) (pe_ix (ix_atT (α := Str × Str)) (pv 3) (pe_op op_sub (pv 4) pe_int) (fun _ _ => rfl)) (nomark _)))).pt pss_never pss_nil))))
    (pss_cons (ps_set (i := 6) sc_wires_fault.nd rfl (Or.inl rfl) (p_call c_narrow_by hr (pa_cons (p_call c_net_of hr (pa_cons (pe_ix (r := rFst K (Tup Str) (Tup (Str × Str))) ix_fst (pv 0) pe_int (fun _ _ => rfl)) (pa_cons (pe_lst (StX.pa_star (pe_ix (r := rSnd K (Tup Str) (Tup (Str × Str))) ix_snd (pv 0) pe_int (fun _ _ => rfl)) (StX.pa_star (pv 3) pa_nil))) pa_nil))) (pa_cons (pv 1) pa_nil))))
    (pss_one (ps_ret (pe_ifExp (pw_and (pt_cmp (pc_notN (pv 6))) (pw_and1 (pt_cmpR op_lt (pe_ix (r := rFst K Int (Tup Str)) ix_fst (pv 6) pe_int (fun _ _ => rfl)) (pv 2) (nomark _)))).pt pe_never pe_non)))), ?_⟩
  refine ⟨_, rfl, xa, xv, rfl, xq, for_it walk_enumT (fun i σ H1 => ∃ o4 o5, σ = [some n, some (.str r), some (.int (k : Int)), some (.ref xa), o4, o5, none] ∧ Same H H1) ⟨none, none, rfl, same_refl _⟩ (fun i σ H1 _ ⟨_, _, _, s1⟩ => sqT_same s1 xq) ?_ ?_⟩
  · rintro j x σ H1 H2 hj ⟨o4, o5, rfl, s1⟩ ⟨T, x, y, rfl, hT, rfl, hx1, hy1⟩
    obtain rfl : V.int (j : Int) = x := Option.some.inj hx1
    obtain ⟨wr, hw1, hw2⟩ := xh.at hy1
    have hw1 : xs[j]? = some wr := hw1
    obtain ⟨g1, g2, g3⟩ := G.each wr (List.mem_of_getElem? hw1)
    refine ⟨T, _, rfl, SqT.of upd_same, rfl, _, _, rfl, _, _, rfl, rfl, ?_⟩
    have sT : Same H (upd H1 T (.tup [.int (j : Int), y])) := same_tr s1 (same_new hT)
    refine ⟨_, rfl, _, hn.same sT, rfl, fun u hu => ?_⟩
    refine ⟨_, rfl, wr, hw2.same sT, ok.nm _ (by rw [g1]; exact hrm), ok.nm _ g2, .inl ⟨_, hu, (decide_eq_true (by rw [g1]; exact hrm)).symm⟩, .inl ⟨_, hu, (decide_eq_true g2).symm⟩, by rw [g1]; exact Ne.symm g3, fun H3 s3 => ?_⟩
    have s13 := same_tr sT s3
    refine ⟨_, rfl, ?_⟩
    refine ⟨_, rfl, _, hw2.same s13, rfl, fun u2 hu2 => ?_⟩
    obtain rfl := hu2.str
    refine ⟨_, rfl, rfl, _, rfl, ?_⟩
    rw [show decide (V.str wr.1 = V.str r) = true from decide_eq_true (by rw [g1])]
    refine ⟨_, rfl, _, _, rfl, rfl, _, rfl, ?_⟩
    by_cases c : 0 < j
    · rw [show decide ((0 : Int) < (j : Int)) = true from decide_eq_true (by omega)]
      obtain ⟨y2, hy2⟩ : ∃ y, xs[j - 1]? = some y := ⟨xs[j - 1], List.getElem?_eq_getElem (by omega)⟩
      refine ⟨_, rfl, _, rfl, _, rfl, _, _, rfl, rfl, Tup.mk xs, j - 1, y2, hw.same s13, congrArg V.int (by omega), hy2, fun u3 hu3 => ?_⟩
      refine ⟨wr, y2, hw2.same s13, hu3, _, rfl, ?_⟩
      have le := up_next G.up hy2 (show xs[j - 1 + 1]? = some wr by rw [show j - 1 + 1 = j by omega]; exact hw1)
      rw [show DatumOrd.lt wr y2 = false from le]
      exact ⟨_, _, rfl, s13⟩
    · rw [show decide ((0 : Int) < (j : Int)) = false from decide_eq_false (by omega)]
      exact ⟨_, _, rfl, s13⟩
  · rintro σ H1 ⟨o4, o5, rfl, s1⟩
    refine ⟨_, rfl, _, hn.same s1, rfl, fun u hu => ?_⟩
    refine ⟨_, rfl, _, hn.same s1, rfl, fun u2 hu2 => ?_⟩
    obtain ⟨wa, wv', rfl, wq, wh⟩ := hu2.tup
    have wl : wv'.length = ws.length := wh.length
    refine ⟨wa, wv', rfl, .inl wq, ?_⟩
    refine ⟨_, rfl, xa, xv, rfl, .inl (sqT_same s1 xq), ?_⟩
    refine ⟨by rw [List.append_nil, List.length_append, sizeLine_eq]; omega, fun p2 np2 => ?_⟩
    rw [List.append_nil]
    have s2 := same_new (o := .lst (wv' ++ xv)) np2
    have hL : Is K (upd H1 p2 (.lst (wv' ++ xv))) (.ref p2) (ws ++ xs) := is_lst (SqL.of upd_same) ((wh.append (xh.same s1)).same s2)
    refine ⟨hs, _, hu.same s2, hL, fun wd H3 s3 hwd => ?_⟩
    rw [srt_of_up ok.up.up] at hwd
    have s13 := same_tr s1 (same_tr s2 s3)
    have ends : Ends hs (srt (ws ++ xs)) := fun wr hwr => by
      rcases List.mem_append.mp (srt_mem.mp hwr) with h | h
      · exact ok.ends' wr h
      · obtain ⟨g1, g2, _⟩ := G.each wr h
        exact ⟨by rw [g1]; exact hrm, g2⟩
    refine ⟨_, rfl, hs, _, r, hwd, rfl, by omega, by rw [srt_length, List.length_append]; omega, ok.nd, hrm, ends, fun e H4 s4 => ?_, fun v H4 mm lot s4 N hv => ?_⟩
    · refine ⟨_, rfl, _, rfl, q _ (same_tr s13 s4)⟩
    · have ⟨a', u1, u2, ea, _, h1, _⟩ := hv.pair
      subst ea
      refine ⟨_, rfl, _, rfl, ?_⟩
      refine ⟨_, rfl, _, hv, rfl, fun u hu => ?_⟩
      obtain rfl := hu.int
      refine ⟨_, rfl, _, _, rfl, rfl, _, rfl, ?_⟩
      have hm : k ≤ mm := N.wide.mp fun S sr hx => by
        rw [K86M.ent_perm S (srt_perm _)]
        exact G.wide S sr hx
      rw [show decide ((mm : Int) < (k : Int)) = false from decide_eq_false (by omega)]
      exact q _ (same_tr s13 s4)
end
end K86

end

section
set_option Elab.async false
set_option linter.all false
set_option maxRecDepth 100000
set_option maxHeartbeats 2000000
/-! The walks: faults of papers; wires put and taken. -/
namespace K86
open PySem PySem.Spec PyProof.Rows L2
open PySem.W (Datum DatumOrd Tup T3 T4 Holds HoldAll)
open K86M (tlW hdW Ends subs lotsOf isIn enters cnt WideI Tree Wide pairsOf lacking ent Apart)
/-- lots_fault at its for -/
def LotP (K : PySem.W.Frag) (H : Hp) (n wv lv : V) (M : Addr) (r : Str) (k : Nat) (L : List (Tup Str)) (i : Nat) (b : Nat) (σ : L2.St) (H1 : Hp) (o7 : V) : Prop :=
  ∃ (o6 o8 : Option V) (kvs : List (Key × V)), σ = [some n, some (.str r), some (.int (k : Int)), some wv, some lv, some (.ref M), o6, some o7, o8, none] ∧ Same H H1 ∧
    H1 M = some (.dK kvs) ∧ kvs.length ≤ b ∧ ∀ z, (valV kvs (Sum.inr z)).isSome = true → ∃ t ∈ L.take i, z ∈ t.items
def LotP0 (K : PySem.W.Frag) (H : Hp) (n wv lv : V) (M : Addr) (r : Str) (k : Nat) (L : List (Tup Str)) (i : Nat) (σ : L2.St) (H1 : Hp) : Prop :=
  ∃ (o6 o7 o8 : Option V) (kvs : List (Key × V)), σ = [some n, some (.str r), some (.int (k : Int)), some wv, some lv, some (.ref M), o6, o7, o8, none] ∧ Same H H1 ∧
    H1 M = some (.dK kvs) ∧ kvs.length ≤ 4 * i ∧ ∀ z, (valV kvs (Sum.inr z)).isSome = true → ∃ t ∈ L.take i, z ∈ t.items
section
variable {P : Program} {w : World} {K : PySem.W.Frag} {mg : Str → Option Value} {base : Heap} {f : Addr} {fd : FuncData}

def pr_lots_fault (K : PySem.W.Frag) : Pr := pr5 fun n x kv wv lv H Q => ∃ (hs : List Str) (ws : List (Str × Str)) (r : Str) (k : Nat) (xs : List (Str × Str)) (L : List (Tup Str)), Is K H n (net hs ws) ∧ NetOk hs ws ∧ x = .str r ∧ r ∈ hs ∧ kv = .int (k : Int) ∧ Is K H wv (Tup.mk xs) ∧ Is K H lv (Tup.mk L) ∧
  LotsGood hs r L ∧ lacking ws k (L.map (·.items)) = (xs.length : Int) ∧ ∀ H', Same H H' → Q .non H'
theorem sc_lots_fault : FnScope n_lots_fault p_lots_fault (defScope s_lots_fault) := ⟨rfl, rfl, rfl, by decide +kernel, rfl, by decide +kernel, by decide +kernel⟩
theorem lots_fault_ok (m : Bt mg) (c_is_lot : Cal P w K mg base 4 "is_lot" [] (pr_is_lot K)) (c_entered_by : Cal P w K mg base 1 "entered_by" [] (pr_entered_by K)) (D : Dfn K mg "lots_fault" s_lots_fault [] f fd) : Cal P w K mg base 5 "lots_fault" [] (pr_lots_fault K) := by
  refine D.cal sc_lots_fault (fun vs H Q h => len5 h) (fun _ _ _ _ _ _ us hl => match us, hl with | [_, _, _, _, _], _ => rfl) fun cdv A outer s H vs Q hr h => ?_
  obtain ⟨n, _, _, wv, lv, rfl, hs, ws, r, k, xs, L, hn, ok, rfl, hrm, rfl, hw, hl, G, elack, q⟩ := inv5 h
  have fh := ok.fewH
  have fw := ok.fewW
  have fL := G.few
  have it4 : ∀ t ∈ L, t.items.length ≤ 4 := fun t ht => Nat.le_trans ((G.each t ht).2.2.nodup.length_le_of_subset fun x hx => ((G.each t ht).2.1 x hx).1) fh
  obtain ⟨la, lvs, rfl, lq, lh⟩ := hl.tup
  have ll : lvs.length = L.length := lh.length
  obtain ⟨xa, xv, rfl, xq, xh⟩ := hw.tup
  have xl : xv.length = xs.length := xh.length
  refine ⟨_, pss_cons (ps_set (i := 5) sc_lots_fault.nd rfl (Or.inr rfl) pe_dnewK)
    (pss_cons (ps_for PassesOwn.never rfl (pi_enumT rfl m.enumerate (pa_cons (pv 4) pa_nil)) (pg_tup rfl (pgs_cons (pg_name (i := 6) sc_lots_fault.nd rfl (.inl rfl)) (pgs_cons (pg_name (i := 7) sc_lots_fault.nd rfl (.inl rfl)) pgs_nil)))
      (pss_cons (ps_if (pt_not (pt_val (p_call c_is_lot hr (pa_cons (pv 0) (pa_cons (pv 1) (pa_cons (pv 7) pa_nil)))))) pss_never pss_nil)
      (pss_cons (ps_if (pt_val (p_any m rfl (pa_cons (pe_lc (own := [("house", 8)]) (g := gName 8) (tt := tYes) rfl sc_lots_fault.nd (pi_tup (pv 7)) (blkOk_by (N := n_lots_fault) (sc := defScope s_lots_fault) (by decide +kernel)) (fun _ _ _ _ _ => (pg_name (i := 8) sc_lots_fault.nd rfl (.inl rfl))) (fun _ _ _ _ _ => pts_nil)
          (fun _ _ _ _ _ => pe_cmpR (r := rMem K) (op_mem hr.u) (pv 8) (pv 5) rfl)) pa_nil))) pss_never pss_nil)
      (pss_one (ps_for PassesOwn.never rfl (pi_tup (pv 7)) (pg_name (i := 8) sc_lots_fault.nd rfl (.inl rfl)) (pss_one (ps_dput hr.u1 (pv 5) (pv 8) pe_bl rfl)))))))
    (pss_cons (ps_set (i := 9) sc_lots_fault.nd rfl (Or.inl rfl) (p_sum m rfl (pa_cons (pe_lc (own := [("lot", 7)]) (g := gName 7) (tt := tYes) rfl sc_lots_fault.nd (pi_tup (pv 4)) (blkOk_by (N := n_lots_fault) (sc := defScope s_lots_fault) (by decide +kernel)) (fun _ _ _ _ _ => (pg_name (i := 7) sc_lots_fault.nd rfl (.inl rfl))) (fun _ _ _ _ _ => pts_nil)
      (fun _ _ _ _ _ => pe_op op_sub (pv 2) (p_lenK K m (pa_cons (p_call c_entered_by hr (pa_cons (pv 0) (pa_cons (pv 7) pa_nil))) pa_nil)))) pa_nil)))
    (pss_one (ps_ret (pe_ifExp (pt_cmpR op_eq (pv 9) (p_len m (pa_cons (pv 3) pa_nil)) (nomark _)) pe_non pe_never))))), ?_⟩
  intro M hM
  have sM := same_new (o := .dK []) hM
  refine ⟨_, rfl, la, lvs, rfl, sqT_same sM lq, for_it walk_enumT (LotP0 K H n (.ref xa) (.ref la) M r k L) ⟨none, none, none, [], rfl, sM, upd_same, Nat.zero_le _, fun z hz => by cases hz⟩ (fun i σ H1 _ ⟨_, _, _, _, _, s1, _⟩ => sqT_same s1 lq) ?_ ?_⟩
  · rintro j x σ H1 H2 hj ⟨o6, o7, o8, kvs, rfl, s1, eM, lk, hk⟩ ⟨T, x, y, rfl, hT, rfl, hx1, hy1⟩
    obtain rfl : V.int (j : Int) = x := Option.some.inj hx1
    obtain ⟨t, ht1, ht2⟩ := lh.at hy1
    have ht1 : L[j]? = some t := ht1
    have tm := List.mem_of_getElem? ht1
    obtain ⟨g1, g2, g3⟩ := G.each t tm
    have t4 := it4 t tm
    refine ⟨T, _, rfl, SqT.of upd_same, rfl, _, _, rfl, _, _, rfl, rfl, ?_⟩
    have s1T := same_new (H := H1) (o := .tup [.int (j : Int), y]) hT
    have sT := same_tr s1 s1T
    refine ⟨_, rfl, _, rfl, _, rfl, hs, ws, r, t.items, hn.same sT, ok, rfl, ht2.same sT, g1, g2, g3, fun H3 s3 => ?_⟩
    refine ⟨_, rfl, ?_⟩
    have s13 := same_tr sT s3
    have eM3 := s3 _ _ (s1T _ _ eM)
    have ht3 := ht2.same s13
    obtain ⟨ta, tv, rfl, tq, th⟩ := ht3.tup
    have tl : tv.length = t.items.length := th.length
    have fresh : ∀ z ∈ t.items, (valV kvs (Sum.inr z)).isSome = false := fun z hz => by
      cases e : (valV kvs (Sum.inr z)).isSome with
      | false => rfl
      | true =>
        obtain ⟨t', ht', hz'⟩ := hk z e
        exfalso
        obtain ⟨i, hi⟩ := List.getElem?_of_mem ht'
        have hij : i < j := by
          have := (List.getElem?_eq_some_iff.mp hi).1
          rw [List.length_take] at this
          omega
        rw [List.getElem?_take_of_lt hij] at hi
        have A := G.apart
        unfold K86M.Apart at A
        rw [List.pairwise_iff_getElem] at A
        have h1 := (List.getElem?_eq_some_iff.mp hi)
        have h2 := (List.getElem?_eq_some_iff.mp ht1)
        obtain ⟨l1, e1⟩ := h1
        obtain ⟨l2, e2⟩ := h2
        have := A i j (by rw [List.length_map]; exact l1) (by rw [List.length_map]; exact l2) hij z
        rw [List.getElem_map, List.getElem_map, e1, e2] at this
        exact this hz' hz
    refine ⟨_, rfl, ta, rfl, ⟨_, tq⟩, fun D hD => lc_data (K := K) walk_tup (fun (i : Nat) => t.items[i]?.map fun _ => false) hD (by omega) (fun H4 s4 => sqT_same s4 tq) ?_ ?_⟩
    · rintro i v H4 H5 Ky Kn hi s4 ⟨rfl, hv⟩ k1 k2
      obtain ⟨z, hz1, hz2⟩ := th.at hv
      obtain rfl := hz2.str
      refine ⟨rfl, _, rfl, _, rfl, z, false, rfl, .inr ⟨M, kvs, rfl, .inl (s4 _ _ eM3), (fresh z (List.mem_of_getElem? hz1)).symm⟩, ?_⟩
      exact k1 _ false _ (same_refl _) (by rw [hz1]; rfl) (is_bl false)
    intro H4 bs s4 e4 hb
    rw [tl, fm_map] at hb
    refine ⟨D, _, rfl, SqL.of (by rw [e4, isAll_bls hb]), _, rfl, ?_⟩
    rw [show (t.items.map fun _ => false).any id = false by simp]
    have eM4 := s4 _ _ eM3
    have s14 := same_tr s13 s4
    have hMH : H M = none := hM
    refine ⟨_, rfl, ta, rfl, ⟨_, sqT_same s4 tq⟩, for_it walk_tup (fun i σ H5 => LotP K H n (.ref xa) (.ref la) M r k L (j + 1) (4 * j + i) σ H5 (.ref ta) ∧ SqT K H5 ta tv) ⟨⟨_, _, kvs, rfl, s14, eM4, lk, fun z hz => ?_⟩, sqT_same s4 tq⟩ (fun i σ H5 _ h => h.2) ?_ ?_⟩
    · obtain ⟨t', ht', hz'⟩ := hk z hz
      exact ⟨t', by rw [List.take_add_one]; exact List.mem_append_left _ ht', hz'⟩
    · rintro i x σ H5 H6 hi ⟨⟨o6, o8, kvs', rfl, s5, eM5, lk5, hk5⟩, tq5⟩ ⟨rfl, hx⟩
      obtain ⟨z, hz1, hz2⟩ := th.at hx
      obtain rfl := hz2.str
      have zm := List.mem_of_getElem? hz1
      refine ⟨_, rfl, _, rfl, M, _, rfl, DPut.k (k := Sum.inr z) eM5 (by rw [sizeLine_eq]; omega), ?_⟩
      refine ⟨⟨_, _, _, rfl, same_at s5 hMH, upd_same, ?_, fun y hy => ?_⟩, (keep_dK eM5).seqT tq5⟩
      · have := length_putK kvs' (Sum.inr z) (.bl true)
        omega
      · rw [valV_put] at hy
        split at hy
        · rename_i e
          obtain rfl : y = z := Sum.inr.inj e
          exact ⟨t, by rw [List.take_add_one, ht1]; exact List.mem_append_right _ (by simp), zm⟩
        · exact hk5 y hy
    · rintro σ H5 ⟨⟨o6, o8, kvs', rfl, s5, eM5, lk5, hk5⟩, _⟩
      exact ⟨_, _, _, kvs', rfl, s5, eM5, by omega, hk5⟩
  · rintro σ H1 ⟨o6, o7, o8, kvs, rfl, s1, eM, lk, hk⟩
    have s1 : Same H H1 := s1
    refine ⟨_, rfl, la, rfl, ⟨_, sqT_same s1 lq⟩, fun D hD => lc_data (K := K) walk_tup (fun (i : Nat) => L[i]?.map fun t => (k : Int) - (ent (isIn t.items) ws : Int)) hD (by omega) (fun H2 s2 => sqT_same (same_tr s1 s2) lq) ?_ ?_⟩
    · rintro i v H2 H3 Ky Kn hi s2 ⟨rfl, hv⟩ k1 k2
      obtain ⟨t, ht1, ht2⟩ := lh.at hv
      have ht1 : L[i]? = some t := ht1
      have tm := List.mem_of_getElem? ht1
      have t4 := it4 t tm
      have s12 := same_tr s1 s2
      refine ⟨rfl, _, rfl, _, rfl, _, rfl, hs, ws, t.items, hn.same s12, ht2.same s12, (G.each t tm).2.2.nodup, by omega, by omega, fun u H4 is s4 hu hlen => ?_⟩
      obtain ⟨ia, iv, rfl, iq, ih⟩ := hu.tup
      have il : iv.length = is.length := ih.length
      refine ⟨ia, iv, rfl, .inr iq, (k : Int), _, rfl, rfl, ?_⟩
      exact k1 _ ((k : Int) - (ent (isIn t.items) ws : Int)) _ s4 (by rw [ht1]; rfl) (by rw [il, hlen]; exact is_int _)
    · intro H2 ys s2 e2 hy
      rw [ll, fm_map] at hy
      have s12 := same_tr s1 s2
      refine ⟨D, _, rfl, SqL.of (by rw [e2, isAll_ints hy]), ?_⟩
      have es : (L.map fun t => (k : Int) - (ent (isIn t.items) ws : Int)).sum = (xs.length : Int) := by
        rw [← elack]
        unfold K86M.lacking
        rw [List.map_map]
        rfl
      rw [es]
      refine ⟨_, rfl, _, rfl, xa, xv, rfl, .inr (sqT_same s12 xq), rfl, _, rfl, ?_⟩
      rw [xl, show decide (V.int (xs.length : Int) = V.int (xs.length : Int)) = true from decide_eq_true rfl]
      exact q _ s12

abbrev paper3 (xs : List (Str × Str)) (L : List (Tup Str)) : T3 Str (Tup (Str × Str)) (Tup (Tup Str)) := T3.mk (Str.ofString "more") (Tup.mk xs) (Tup.mk L)
def pr_more_fault (K : PySem.W.Frag) : Pr := pr4 fun n x kv tv H Q => ∃ (hs : List Str) (ws : List (Str × Str)) (r : Str) (k : Nat) (xs : List (Str × Str)) (L : List (Tup Str)), Is K H n (net hs ws) ∧ NetOk hs ws ∧ x = .str r ∧ r ∈ hs ∧ kv = .int (k : Int) ∧ Is K H tv (paper3 xs L) ∧ WiresGood hs ws r k xs ∧
  LotsGood hs r L ∧ lacking ws k (L.map (·.items)) = (xs.length : Int) ∧ ∀ H', Same H H' → Q .non H'
theorem sc_more_fault : FnScope n_more_fault p_more_fault (defScope s_more_fault) := ⟨rfl, rfl, rfl, by decide +kernel, rfl, by decide +kernel, by decide +kernel⟩
theorem more_fault_ok (m : Bt mg) (c_wires_fault : Cal P w K mg base 6 "wires_fault" [] (pr_wires_fault K)) (c_lots_fault : Cal P w K mg base 5 "lots_fault" [] (pr_lots_fault K)) (D : Dfn K mg "more_fault" s_more_fault [] f fd) : Cal P w K mg base 7 "more_fault" [] (pr_more_fault K) := by
  refine D.cal sc_more_fault (fun vs H Q h => len4 h) (fun _ _ _ _ _ _ us hl => match us, hl with | [_, _, _, _], _ => rfl) fun cdv A outer s H vs Q hr h => ?_
  obtain ⟨n, _, _, tv, rfl, hs, ws, r, k, xs, L, hn, ok, rfl, hrm, rfl, ht, GW, GL, elack, q⟩ := inv4 h
  have ⟨ta, u1, u2, u3, ea, tq, h1, h2, h3⟩ := ht.t3
  subst ea
  obtain rfl := h1.str
  obtain ⟨xa, xv, rfl, xq, xh⟩ := h2.tup
  obtain ⟨la, lvs, rfl, lq, lh⟩ := h3.tup
  refine ⟨_, pss_cons (ps_if (pw_or (pt_not (pt_val (p_isi m (pa_cons (pv 3) (pa_cons (pe_ty m.tuple b_tuple) pa_nil))))) (pw_or (pt_cmpR op_ne (p_len m (pa_cons (pv 3) pa_nil)) pe_int (nomark _))
        (pw_or (pt_not (pt_val (p_isi m (pa_cons (pe_ix (ix_3a (α := Str) (β := Tup (Str × Str)) (γ := Tup (Tup Str))) (pv 3) pe_int (fun _ _ => rfl)) (pa_cons (pe_ty m.str b_str) pa_nil))))) (pw_or1 (pt_cmpR op_ne (pe_ix (ix_3a (α := Str) (β := Tup (Str × Str)) (γ := Tup (Tup Str))) (pv 3) pe_int (fun _ _ => rfl)) pe_str (nomark _)))))).pt pss_never pss_nil)
    (pss_cons (ps_asg (pv 3) (pg_tup rfl (pgs_cons (pg_name (i := 4) sc_more_fault.nd rfl (.inl rfl)) (pgs_cons (pg_name (i := 5) sc_more_fault.nd rfl (.inl rfl)) (pgs_cons (pg_name (i := 6) sc_more_fault.nd rfl (.inl rfl)) pgs_nil)))))
    (pss_cons (ps_if (pw_or (pt_not (pt_val (p_isi m (pa_cons (pv 5) (pa_cons (pe_ty m.tuple b_tuple) pa_nil))))) (pw_or1 (pt_not (pt_val (p_isi m (pa_cons (pv 6) (pa_cons (pe_ty m.tuple b_tuple) pa_nil))))))).pt pss_never pss_nil)
    (pss_cons (ps_set (i := 7) sc_more_fault.nd rfl (Or.inl rfl) (p_call c_wires_fault hr (pa_cons (pv 0) (pa_cons (pv 1) (pa_cons (pv 2) (pa_cons (pv 5) pa_nil))))))
    (pss_one (ps_ret (pe_ifExp (pt_cmp (pc_isN (pv 7))) (p_call c_lots_fault hr (pa_cons (pv 0) (pa_cons (pv 1) (pa_cons (pv 2) (pa_cons (pv 5) (pa_cons (pv 6) pa_nil)))))) pe_never)))))), ?_⟩
  refine ⟨_, rfl, _, _, _, true, rfl, ty_tup tq, by decide +kernel, true, rfl, ?_⟩
  refine ⟨_, rfl, ta, _, rfl, .inr tq, rfl, false, rfl, ?_⟩
  refine ⟨_, rfl, _, ht, rfl, fun v1 hv1 => ?_⟩
  obtain rfl := hv1.str
  refine ⟨_, _, _, true, rfl, .base (.str _), by decide +kernel, true, rfl, ?_⟩
  refine ⟨_, rfl, _, ht, rfl, fun v2 hv2 => ?_⟩
  obtain rfl := hv2.str
  refine ⟨rfl, _, rfl, ?_⟩
  rw [show decide (V.str (paper3 xs L).a = V.str (Str.ofString "more")) = true from decide_eq_true rfl]
  refine ⟨_, rfl, ta, _, rfl, tq, rfl, _, _, rfl, _, _, rfl, _, _, rfl, rfl, ?_⟩
  refine ⟨_, rfl, _, _, _, true, rfl, ty_tup xq, by decide +kernel, true, rfl, ?_⟩
  refine ⟨_, rfl, _, _, _, true, rfl, ty_tup lq, by decide +kernel, true, rfl, ?_⟩
  refine ⟨_, rfl, _, rfl, _, rfl, _, rfl, hs, ws, r, k, xs, hn, ok, rfl, hrm, rfl, h2, GW, fun H1 s1 => ?_⟩
  refine ⟨_, rfl, _, rfl, ?_⟩
  exact ⟨_, rfl, _, rfl, _, rfl, _, rfl, _, rfl, hs, ws, r, k, xs, L, hn.same s1, ok, rfl, hrm, rfl, h2.same s1, h3.same s1, GL, elack, fun H2 s2 => q _ (same_tr s1 s2)⟩

def pr_lets_more (K : PySem.W.Frag) : Pr := pr4 fun n x kv tv H Q => ∃ (hs : List Str) (ws : List (Str × Str)) (r : Str) (k : Nat) (xs : List (Str × Str)) (L : List (Tup Str)), Is K H n (net hs ws) ∧ NetOk hs ws ∧ x = .str r ∧ r ∈ hs ∧ kv = .int (k : Int) ∧ Is K H tv (paper3 xs L) ∧ WiresGood hs ws r k xs ∧
  LotsGood hs r L ∧ lacking ws k (L.map (·.items)) = (xs.length : Int) ∧ ∀ H', Same H H' → Q (.int (xs.length : Int)) H'
theorem sc_lets_more : FnScope n_lets_more p_lets_more (defScope s_lets_more) := ⟨rfl, rfl, rfl, by decide +kernel, rfl, by decide +kernel, by decide +kernel⟩
theorem lets_more_ok (m : Bt mg) (c_want_root : Cal P w K mg base 5 "want_root" [] (pr_want_root K)) (c_want : Cal P w K mg base 1 "want" [] (pr_want K)) (c_is_number : Cal P w K mg base 2 "is_number" [] (pr_is_number K)) (c_more_fault : Cal P w K mg base 7 "more_fault" [] (pr_more_fault K)) (D : Dfn K mg "lets_more" s_lets_more [] f fd) : Cal P w K mg base 8 "lets_more" [] (pr_lets_more K) := by
  refine D.cal sc_lets_more (fun vs H Q h => len4 h) (fun _ _ _ _ _ _ us hl => match us, hl with | [_, _, _, _], _ => rfl) fun cdv A outer s H vs Q hr h => ?_
  obtain ⟨n, _, _, tv, rfl, hs, ws, r, k, xs, L, hn, ok, rfl, hrm, rfl, ht, GW, GL, elack, q⟩ := inv4 h
  refine ⟨_, pss_cons (ps_expr (p_call c_want_root hr (pa_cons (pv 0) (pa_cons (pv 1) pa_nil))))
    (pss_cons (ps_expr (p_call c_want hr (pa_cons (p_call c_is_number hr (pa_cons (pv 2) pa_nil)) (pa_cons pe_str (pa_cons (pv 2) pa_nil)))))
    (pss_cons (ps_set (i := 4) sc_lets_more.nd rfl (Or.inl rfl) (p_call c_more_fault hr (pa_cons (pv 0) (pa_cons (pv 1) (pa_cons (pv 2) (pa_cons (pv 3) pa_nil))))))
    (pss_cons (ps_if (pt_cmp (pc_notN (pv 4))) pss_never pss_nil)
    (pss_one (ps_ret (p_len m (pa_cons (pe_ix (ix_3b (α := Str) (β := Tup (Str × Str)) (γ := Tup (Tup Str))) (pv 3) pe_int (fun _ _ => rfl)) pa_nil))))))), ?_⟩
  refine ⟨_, rfl, _, rfl, hs, ws, r, hn, ok, rfl, hrm, fun _ H1 s1 => ?_⟩
  refine ⟨_, rfl, k, rfl, _, rfl, congrArg V.bl (decide_eq_true (by omega)), ?_⟩
  refine ⟨_, rfl, _, rfl, _, rfl, _, rfl, hs, ws, r, k, xs, L, hn.same s1, ok, rfl, hrm, rfl, ht.same s1, GW, GL, elack, fun H2 s2 => ?_⟩
  have s12 := same_tr s1 s2
  refine ⟨_, rfl, _, rfl, ?_⟩
  refine ⟨_, rfl, _, ht.same s12, rfl, fun u hu => ?_⟩
  obtain ⟨xa, xv, rfl, xq, xh⟩ := hu.tup
  have xl : xv.length = xs.length := xh.length
  refine ⟨xa, xv, rfl, .inr xq, ?_⟩
  rw [xl]
  exact q _ s12

def pr_with_wire (K : PySem.W.Frag) : Pr := pr2 fun n x H Q => ∃ (hs : List Str) (ws : List (Str × Str)) (wr : Str × Str), Is K H n (net hs ws) ∧ NetOk hs ws ∧ Is K H x wr ∧ wr.1 ∈ hs ∧ wr.2 ∈ hs ∧ wr.1 ≠ wr.2 ∧ ∀ v H', Same H H' → Is K H' v (net hs (srt (ws ++ [wr]))) → Q v H'
theorem sc_with_wire : FnScope n_with_wire p_with_wire (defScope s_with_wire) := ⟨rfl, rfl, rfl, by decide +kernel, rfl, by decide +kernel, by decide +kernel⟩
theorem with_wire_ok (m : Bt mg) (c_want_net : Cal P w K mg base 4 "want_net" [] (pr_want_net K)) (c_want_wire : Cal P w K mg base 3 "want_wire" [] (pr_want_wire K)) (c_net_of : Cal P w K mg base 1 "net_of" [] (pr_net_of K)) (D : Dfn K mg "with_wire" s_with_wire [] f fd) : Cal P w K mg base 5 "with_wire" [] (pr_with_wire K) := by
  refine D.cal sc_with_wire (fun vs H Q h => len2 h) (fun _ _ _ _ _ _ us hl => match us, hl with | [_, _], _ => rfl) fun cdv A outer s H vs Q hr h => ?_
  obtain ⟨n, x, rfl, hs, ws, wr, hn, ok, hw, w1, w2, wne, q⟩ := inv2 h
  have fw := ok.fewW
  refine ⟨_, pss_cons (ps_expr (p_call c_want_net hr (pa_cons (pv 0) pa_nil)))
    (pss_cons (ps_expr (p_call c_want_wire hr (pa_cons (pv 0) (pa_cons (pv 1) pa_nil))))
    (pss_one (ps_ret (p_call c_net_of hr (pa_cons (pe_ix (r := rFst K (Tup Str) (Tup (Str × Str))) ix_fst (pv 0) pe_int (fun _ _ => rfl)) (pa_cons (pe_lst (StX.pa_star (pe_ix (r := rSnd K (Tup Str) (Tup (Str × Str))) ix_snd (pv 0) pe_int (fun _ _ => rfl)) (pa_cons (pv 1) pa_nil))) pa_nil)))))), ?_⟩
  refine ⟨_, rfl, hs, ws, hn, ok, fun _ H1 s1 => ?_⟩
  refine ⟨_, rfl, _, rfl, hs, ws, wr, hn.same s1, ok, hw.same s1, w1, w2, wne, fun _ H2 s2 => ?_⟩
  have s12 := same_tr s1 s2
  refine ⟨_, rfl, _, hn.same s12, rfl, fun u hu => ?_⟩
  refine ⟨_, rfl, _, hn.same s12, rfl, fun u2 hu2 => ?_⟩
  obtain ⟨wa, wv, rfl, wq, wh⟩ := hu2.tup
  have wl : wv.length = ws.length := wh.length
  refine ⟨wa, wv, rfl, .inl wq, _, rfl, by rw [List.length_append, List.length_singleton, sizeLine_eq]; omega, fun p np => ?_⟩
  have s3 := same_new (o := .lst (wv ++ [x])) np
  have hL : Is K (upd H2 p (.lst (wv ++ [x]))) (.ref p) (ws ++ [wr]) := is_lst (SqL.of upd_same) ((wh.append (.cons (hw.same s12) .nil)).same s3)
  refine ⟨hs, _, hu.same s3, hL, fun v H4 s4 hv => ?_⟩
  rw [srt_of_up ok.up.up] at hv
  exact q _ _ (same_tr s12 (same_tr s3 s4)) hv

/-- the wires without the i-th -/
def drp (ws : List (Str × Str)) (i : Nat) : List (Str × Str) := (List.range ws.length).filterMap fun j => if j = i then none else ws[j]?
def pr_without_wire (K : PySem.W.Frag) : Pr := pr2 fun n x H Q => ∃ (hs : List Str) (ws : List (Str × Str)) (i : Nat), Is K H n (net hs ws) ∧ NetOk hs ws ∧ x = .int (i : Int) ∧ i < ws.length ∧ ∀ v H', Same H H' → Is K H' v (net hs (srt (drp ws i))) → Q v H'
theorem sc_without_wire : FnScope n_without_wire p_without_wire (defScope s_without_wire) := ⟨rfl, rfl, rfl, by decide +kernel, rfl, by decide +kernel, by decide +kernel⟩
theorem without_wire_ok (m : Bt mg) (c_want_net : Cal P w K mg base 4 "want_net" [] (pr_want_net K)) (c_want_index : Cal P w K mg base 3 "want_index" [] (pr_want_index K)) (c_net_of : Cal P w K mg base 1 "net_of" [] (pr_net_of K)) (D : Dfn K mg "without_wire" s_without_wire [] f fd) : Cal P w K mg base 5 "without_wire" [] (pr_without_wire K) := by
  refine D.cal sc_without_wire (fun vs H Q h => len2 h) (fun _ _ _ _ _ _ us hl => match us, hl with | [_, _], _ => rfl) fun cdv A outer s H vs Q hr h => ?_
  obtain ⟨n, _, rfl, hs, ws, i, hn, ok, rfl, hi, q⟩ := inv2 h
  have fw := ok.fewW
  refine ⟨_, pss_cons (ps_expr (p_call c_want_net hr (pa_cons (pv 0) pa_nil)))
    (pss_cons (ps_expr (p_call c_want_index hr (pa_cons (pv 0) (pa_cons (pv 1) pa_nil))))
    (pss_one (ps_ret (p_call c_net_of hr (pa_cons (pe_ix (r := rFst K (Tup Str) (Tup (Str × Str))) ix_fst (pv 0) pe_int (fun _ _ => rfl)) (pa_cons (pe_lc (own := [("k", 2), ("wire", 3)]) (g := gTup K 2 (gCons (gName 2) (gCons (gName 3) gNil))) rfl sc_without_wire.nd (pi_enumT rfl m.enumerate (pa_cons (pe_ix (r := rSnd K (Tup Str) (Tup (Str × Str))) ix_snd (pv 0) pe_int (fun _ _ => rfl)) pa_nil)) (blkOk_by (N := n_without_wire) (sc := defScope s_without_wire) (by decide +kernel)) (fun _ _ _ _ _ => pg_tup rfl (pgs_cons (pg_name (i := 2) sc_without_wire.nd rfl (.inl rfl)) (pgs_cons (pg_name (i := 3) sc_without_wire.nd rfl (.inl rfl)) pgs_nil)))
      (fun _ _ _ _ _ => pts_one (pt_cmpR op_ne (pv 2) (pv 1) (nomark _))) (fun _ _ _ _ _ => pv 3)) pa_nil)))))), ?_⟩
  refine ⟨_, rfl, hs, ws, hn, ok, fun _ H1 s1 => ?_⟩
  refine ⟨_, rfl, _, rfl, hs, ws, i, hn.same s1, rfl, hi, fun _ => ?_⟩
  refine ⟨_, rfl, _, hn.same s1, rfl, fun u hu => ?_⟩
  refine ⟨_, rfl, _, hn.same s1, rfl, fun u2 hu2 => ?_⟩
  obtain ⟨wa, wv, rfl, wq, wh⟩ := hu2.tup
  have wl : wv.length = ws.length := wh.length
  refine ⟨wa, wv, rfl, wq, fun D hD => lc_data (K := K) walk_enumT (fun j => if j = i then none else ws[j]?) hD (by omega) (fun H2 s2 => sqT_same s2 wq) ?_ ?_⟩
  · rintro j v H2 H3 Ky Kn hj s2 ⟨T, x, y, rfl, hT, rfl, hx1, hy1⟩ k1 k2
    obtain rfl : V.int (j : Int) = x := Option.some.inj hx1
    obtain ⟨wr, hw1, hw2⟩ := wh.at hy1
    have hw1 : ws[j]? = some wr := hw1
    have sT : Same H2 (upd H2 T (.tup [.int (j : Int), y])) := same_new hT
    refine ⟨T, _, rfl, SqT.of upd_same, rfl, _, _, rfl, _, _, rfl, rfl, rfl, ?_⟩
    refine ⟨_, rfl, _, rfl, rfl, _, rfl, ?_⟩
    by_cases c : j = i
    · rw [show decide (V.int (j : Int) = V.int (i : Int)) = true from decide_eq_true (by rw [c])]
      exact k2 _ sT (if_pos c)
    · rw [show decide (V.int (j : Int) = V.int (i : Int)) = false from decide_eq_false fun e => c (by injection e with e; omega)]
      exact ⟨_, rfl, k1 _ wr _ sT (by rw [if_neg c]; exact hw1) (hw2.same (same_tr s2 sT))⟩
  · intro H2 ys s2 e2 hy
    rw [wl] at hy
    refine ⟨hs, drp ws i, hu.same s2, is_lst (SqL.of e2) hy, fun v H4 s4 hv => ?_⟩
    rw [srt_of_up ok.up.up] at hv
    exact q _ _ (same_tr s1 (same_tr s2 s4)) hv
end
end K86

end

section
set_option Elab.async false
set_option linter.all false
set_option maxRecDepth 100000
set_option maxHeartbeats 2000000
/-! The walks of the law: its feed. -/
namespace K86
open PySem PySem.Spec PyProof.Rows L2
open PySem.W (Datum DatumOrd Tup T3 T4 Holds HoldAll)
abbrev kCells : Str := Str.ofString "cells"
abbrev kAt : Str := Str.ofString "at"
abbrev kLeft : Str := Str.ofString "left"
abbrev kCount : Str := Str.ofString "count"
def feedK (la : Addr) (a l c : Int) : List (Key × V) := [(Sum.inr kCells, .ref la), (Sum.inr kAt, .int a), (Sum.inr kLeft, .int l), (Sum.inr kCount, .int c)]
section
variable {la : Addr} {a l c x : Int}
theorem feed_cells : valV (feedK la a l c) (Sum.inr kCells) = some (.ref la) := rfl
theorem feed_at : valV (feedK la a l c) (Sum.inr kAt) = some (.int a) := rfl
theorem feed_left : valV (feedK la a l c) (Sum.inr kLeft) = some (.int l) := rfl
theorem feed_count : valV (feedK la a l c) (Sum.inr kCount) = some (.int c) := rfl
theorem put_at : putK (feedK la a l c) (Sum.inr kAt) (.int x) = feedK la x l c := rfl
theorem put_left : putK (feedK la a l c) (Sum.inr kLeft) (.int x) = feedK la a x c := rfl
theorem put_count : putK (feedK la a l c) (Sum.inr kCount) (.int x) = feedK la a l x := rfl
theorem merge_feed : mergeK [] [(Sum.inr kCells, .ref la), (Sum.inr kAt, .int a), (Sum.inr kLeft, .int l), (Sum.inr kCount, .int c)] = feedK la a l c := rfl
end
theorem dget {H : Hp} {d : Addr} {kvs : List (Key × V)} {k : Key} {v : V} (e : H d = some (.dK kvs)) (h : valV kvs k = some v) : DGet H d (kV k) (some v) := h ▸ DGet.k e
/-- all but what stands at d stays -/
def SameX (d : Addr) (H H' : Hp) : Prop := ∀ b u, b ≠ d → H b = some u → H' b = some u
theorem SameX.refl (d : Addr) (H : Hp) : SameX d H H := fun _ _ _ e => e
theorem SameX.tr {d : Addr} {H H1 H2 : Hp} (a : SameX d H H1) (b : SameX d H1 H2) : SameX d H H2 := fun c u n e => b c u n (a c u n e)
theorem Same.x {d : Addr} {H H' : Hp} (s : Same H H') : SameX d H H' := fun b u _ e => s b u e
theorem sameX_upd {d : Addr} {H : Hp} {o : HO} : SameX d H (upd H d o) := fun b u n e => by rw [upd_ne n]; exact e
theorem sqL_x {K : PySem.W.Frag} {H H' : Hp} {d b : Addr} {kvs : List (Key × V)} {xs : List V} (s : SameX d H H') (e : H d = some (.dK kvs)) (h : SqL K H b xs) : SqL K H' b xs := by
  rcases h with (h | ⟨p, h⟩) | h
  · exact .inl (.inl (s _ _ (fun z => by rw [z, e] at h; cases h) h))
  · exact .inl (.inr ⟨p, s _ _ (fun z => by rw [z, e] at h; cases h) h⟩)
  · exact .inr h
theorem SameX.keep {H H' : Hp} {d : Addr} {kvs : List (Key × V)} (s : SameX d H H') (e : H d = some (.dK kvs)) : Keep H H' := fun b xs h => by
  rcases h with h | ⟨p, h⟩
  · exact .inl (s _ _ (fun z => by rw [z, e] at h; cases h) h)
  · exact .inr ⟨p, s _ _ (fun z => by rw [z, e] at h; cases h) h⟩
/-- the feed at d, its cells at la -/
def Feed (K : PySem.W.Frag) (H : Hp) (d la : Addr) (ns : List Int) : Prop := (∃ a l c : Int, H d = some (.dK (feedK la a l c))) ∧ SqL K H la (ns.map V.int)
section
variable {K : PySem.W.Frag} {H H1 H' : Hp} {d la : Addr} {ns : List Int}
theorem Feed.dk (f : Feed K H d la ns) : ∃ kvs, H d = some (.dK kvs) := let ⟨⟨_, _, _, e⟩, _⟩ := f; ⟨_, e⟩
theorem Feed.same (f : Feed K H d la ns) (s : Same H H') : Feed K H' d la ns :=
  let ⟨⟨a, l, c, e⟩, q⟩ := f
  ⟨⟨a, l, c, s _ _ e⟩, sqL_same s q⟩
theorem Feed.keep (f : Feed K H d la ns) (s : SameX d H H') : Keep H H' := let ⟨_, e⟩ := f.dk; s.keep e
/-- after writes at other places -/
theorem Feed.on (f : Feed K H d la ns) (s : SameX d H H') (g : Feed K H1 d la ns) (e : H' d = H1 d) : Feed K H' d la ns :=
  let ⟨⟨a, l, c, e1⟩, _⟩ := g
  let ⟨_, e2⟩ := f.dk
  ⟨⟨a, l, c, e.trans e1⟩, sqL_x s e2 f.2⟩
theorem sameX_at {p : Addr} {o : HO} (s : SameX d H H1) (h : H p = none) : SameX d H (upd H1 p o) := fun b u n e => by
  rw [upd_ne (ne_of_none e h)]
  exact s b u n e
theorem Feed.free (f : Feed K H d la ns) {p : Addr} (h : H p = none) : p ≠ d := fun z => by
  obtain ⟨_, e⟩ := f.dk
  rw [z, e] at h
  cases h
theorem free_x {p : Addr} (f : Feed K H d la ns) (s : SameX d H H1) (g : Feed K H1 d la ns) (h : H1 p = none) : H p = none := by
  cases e : H p with
  | none => rfl
  | some u =>
    have := s p u (g.free h) e
    rw [h] at this
    cases this
end
theorem ite_both {b : Bool} {A B : VK → Prop} {Q : VK} {x : V} {H : Hp} (hA : b = true → ∀ Q' : VK, Q' x H → A Q') (hB : b = false → ∀ Q' : VK, Q' x H → B Q') (h : Q x H) : if b = true then A Q else B Q := by
  cases b with
  | true => exact hA rfl Q h
  | false => exact hB rfl Q h
theorem mod_small {z n : Int} (h : 0 < n) (h2 : n < 2 ^ 64) : -(2 ^ 64) < z % n ∧ z % n < 2 ^ 64 := by
  have h1 := Int.emod_nonneg z (b := n) (by omega)
  have h3 := Int.emod_lt_of_pos z h
  constructor
  · have : (-(2 ^ 64) : Int) < 0 := by decide
    omega
  · omega
section
variable {P : Program} {w : World} {K : PySem.W.Frag} {mg : Str → Option Value} {base : Heap} {f : Addr} {fd : FuncData}

def pr_L_draw (K : PySem.W.Frag) : Pr := pr2 fun v mv H Q => ∃ (d : Addr) (many : Nat) (la : Addr) (ns : List Int), v = .ref d ∧ mv = .int (many : Int) ∧ 0 < many ∧ many < 1000 ∧ Feed K H d la ns ∧ ∀ (x : Nat) H', x < many → SameX d H H' → Feed K H' d la ns → Q (.int (x : Int)) H'
theorem sc_L_draw : FnScope n_L_draw p_L_draw (defScope s_L_draw) := ⟨rfl, rfl, rfl, by decide +kernel, rfl, by decide +kernel, by decide +kernel⟩
theorem L_draw_ok (m : Bt mg)  (D : Dfn K mg "_law_draw" s_L_draw [] f fd) : Cal P w K mg base 1 "_law_draw" [] (pr_L_draw K) := by
  refine D.cal sc_L_draw (fun vs H Q h => len2 h) (fun _ _ _ _ _ _ us hl => match us, hl with | [_, _], _ => rfl) fun cdv A outer s H vs Q hr h => ?_
  obtain ⟨_, _, rfl, d, many, la, ns, rfl, rfl, m0, m1, F, q⟩ := inv2 h
  refine ⟨_, pss_cons (ps_dput hr.u1 (pv 0) pe_str (pe_op op_add (pe_dget hr.u1 (pv 0) pe_str (fun _ _ => rfl)) pe_int) rfl)
    (pss_cons (ps_set (i := 2) sc_L_draw.nd rfl (Or.inl rfl) (p_int m (pa_cons (pe_dget hr.u1 (pv 0) pe_str (fun _ _ => rfl)) pa_nil)))
    (pss_cons (ps_if (pt_cmpR op_gt (pv 2) pe_int (nomark _)) (pss_cons (ps_dput hr.u1 (pv 0) pe_str (pe_op op_fdiv (pv 2) (pv 1)) rfl) (pss_one (ps_ret (pe_op op_mod (pv 2) (pv 1))))) pss_nil)
    (pss_cons (ps_par (i := 3) (j := 4) rfl sc_L_draw.nd rfl rfl (by decide) rfl rfl (pa_cons (pe_dget hr.u1 (pv 0) pe_str (fun _ _ => rfl)) (pa_cons (pe_dget hr.u1 (pv 0) pe_str (fun _ _ => rfl)) pa_nil)) rfl)
    (pss_cons (ps_dput hr.u1 (pv 0) pe_str (pe_op op_add (pv 4) pe_int) rfl)
    (pss_cons (ps_set (i := 5) sc_L_draw.nd rfl (Or.inl rfl) (pe_ifExp (pt_cmpR (op_neT (α := List Int) hr.u) (pv 3) (pe_lst pa_nil) (nomark _)) (p_int m (pa_cons (pe_ix (ix_atL (α := Int)) (pv 3) (pe_op op_mod (pv 4) (p_len m (pa_cons (pv 3) pa_nil))) (fun _ _ => rfl)) pa_nil)) pe_int))
    (pss_cons (ps_if (pw_and (pt_cmpR op_ge (pv 5) (pe_op op_pow pe_int pe_int) (nomark _)) (pw_and1 (pt_cmpR op_lt (pv 4) (p_len m (pa_cons (pv 3) pa_nil)) (nomark _)))).pt
        (pss_cons (ps_dput hr.u1 (pv 0) pe_str (pe_op op_fdiv (pv 5) (pv 1)) rfl) (pss_one (ps_ret (pe_op op_mod (pv 5) (pv 1))))) pss_nil)
    (pss_cons (ps_set (i := 6) sc_L_draw.nd rfl (Or.inl rfl) (pe_op op_mod (p_int m (pa_cons (pe_op op_add (pe_op op_add (pe_op op_mod (pv 5) pe_int) (pe_op op_mul pe_int (pe_dget hr.u1 (pv 0) pe_str (fun _ _ => rfl)))) pe_int) pa_nil)) pe_int))
    (pss_cons (ps_set (i := 6) sc_L_draw.nd rfl (Or.inl rfl) (pe_op op_mod (p_int m (pa_cons (pe_op op_add (pe_op op_add (pe_op op_mul (pv 6) (pv 6)) (pe_op op_mul pe_int (pe_dget hr.u1 (pv 0) pe_str (fun _ _ => rfl)))) pe_int) pa_nil)) pe_int))
    (pss_one (ps_ret (pe_op op_mod (pe_op op_fdiv (pe_op op_mod (p_int m (pa_cons (pe_op op_add (pe_op op_add (pe_op op_mul (pv 6) (pv 6)) (pe_op op_mul pe_int (pv 6))) pe_int) pa_nil)) pe_int) pe_int) (pv 1)))))))))))), ?_⟩
  obtain ⟨⟨a, l, c, e⟩, cq⟩ := F
  have modq : ∀ (z : Int) H', SameX d H H' → Feed K H' d la ns → Q (.int (z % (many : Int))) H' := fun z H' s' F' => by
    have h1 := Int.emod_nonneg z (b := (many : Int)) (by omega)
    have h2 := Int.emod_lt_of_pos z (b := (many : Int)) (by omega)
    have := q (z % (many : Int)).toNat H' (by omega) s' F'
    rw [Int.toNat_of_nonneg h1] at this
    exact this
  have size : ∀ a l c, (feedK la a l c).length < sizeLine := fun _ _ _ => by show 4 < sizeLine; decide
  refine ⟨_, rfl, d, _, rfl, dget e feed_count, _, _, rfl, rfl, ?_⟩
  refine ⟨_, rfl, d, _, rfl, DPut.k (k := Sum.inr kCount) e (size _ _ _), ?_⟩
  rw [put_count]
  have s1 : SameX d H (upd H d (.dK (feedK la a l (c + 1)))) := sameX_upd
  have e1 : upd H d (.dK (feedK la a l (c + 1))) d = some (.dK (feedK la a l (c + 1))) := upd_same
  have cq1 := sqL_x s1 e cq
  generalize upd H d (.dK (feedK la a l (c + 1))) = H1 at s1 e1 cq1 ⊢
  refine ⟨_, rfl, d, _, rfl, dget e1 feed_left, .inl ⟨_, rfl, ?_⟩⟩
  refine ⟨_, rfl, _, _, rfl, rfl, _, rfl, ?_⟩
  cases h1 : decide ((0 : Int) < l) with
  | true =>
    refine ⟨_, rfl, _, rfl, _, _, rfl, rfl, ⟨by omega, by omega⟩, _, rfl, d, _, rfl, DPut.k (k := Sum.inr kLeft) e1 (size _ _ _), ?_⟩
    rw [put_left]
    refine ⟨_, rfl, _, rfl, _, _, rfl, rfl, by omega, ?_⟩
    exact modq _ _ (s1.tr sameX_upd) ⟨⟨_, _, _, upd_same⟩, sqL_x sameX_upd e1 cq1⟩
  | false =>
    refine ⟨_, rfl, d, _, rfl, dget e1 feed_cells, _, rfl, d, _, rfl, dget e1 feed_at, _, _, rfl, ?_⟩
    refine ⟨_, rfl, _, _, rfl, rfl, _, rfl, d, _, rfl, DPut.k (k := Sum.inr kAt) e1 (size _ _ _), ?_⟩
    rw [put_at]
    have s2 : SameX d H (upd H1 d (.dK (feedK la (a + 1) l (c + 1)))) := s1.tr sameX_upd
    have e2 : upd H1 d (.dK (feedK la (a + 1) l (c + 1))) d = some (.dK (feedK la (a + 1) l (c + 1))) := upd_same
    have cq2 : SqL K (upd H1 d (.dK (feedK la (a + 1) l (c + 1)))) la (ns.map V.int) := sqL_x sameX_upd e1 cq1
    generalize upd H1 d (.dK (feedK la (a + 1) l (c + 1))) = H2 at s2 e2 cq2 ⊢
    refine ⟨_, rfl, Nat.zero_le _, fun p np => ?_⟩
    have sp := same_new (o := .lst []) np
    refine ⟨ns, ([] : List Int), (is_lst cq2 (ints_isAll ns)).same sp, is_lst (SqL.of upd_same) .nil, _, rfl, ?_⟩
    have s3 := s2.tr (Same.x (d := d) sp)
    have e3 := sp _ _ e2
    have cq3 := sqL_same sp cq2
    generalize upd H2 p (.lst []) = H3 at s3 e3 cq3 ⊢
    obtain ⟨cell, hc⟩ : ∃ cell : Int, ∃ i : Nat, (ns ≠ [] → (i : Int) = a % (ns.length : Int) ∧ ns[i]? = some cell) ∧ (ns = [] → cell = 379) := by
      by_cases cn : ns = []
      · exact ⟨379, 0, fun h => absurd cn h, fun _ => rfl⟩
      · have hl : 0 < ns.length := List.length_pos_iff.mpr cn
        have h1 := Int.emod_nonneg a (b := (ns.length : Int)) (by omega)
        have h2 := Int.emod_lt_of_pos a (b := (ns.length : Int)) (by omega)
        have h3 : (a % (ns.length : Int)).toNat < ns.length := by omega
        exact ⟨ns[(a % (ns.length : Int)).toNat], (a % (ns.length : Int)).toNat, fun _ => ⟨Int.toNat_of_nonneg h1, List.getElem?_eq_getElem h3⟩, fun h => absurd h cn⟩
    obtain ⟨ix, hc1, hc2⟩ := hc
    have nl : (ns.map V.int).length = ns.length := List.length_map ..
    refine ite_both (x := .int cell) (H := H3) (fun hb Q' hq => ?_) (fun hb Q' hq => ?_) ?_
    · have cn : ns ≠ [] := of_decide_eq_true hb
      have hl : 0 < ns.length := List.length_pos_iff.mpr cn
      obtain ⟨g1, g2⟩ := hc1 cn
      refine ⟨_, rfl, _, rfl, _, rfl, la, _, rfl, .inl cq3, _, _, rfl, rfl, by rw [nl]; omega, ?_⟩
      refine ⟨ns, ix, cell, is_lst cq3 (ints_isAll ns), by rw [nl, g1], g2, fun u hu => ?_⟩
      obtain rfl := hu.int
      exact .inl ⟨_, rfl, hq⟩
    · have cn : ns = [] := Classical.byContradiction fun h => by
        rw [decide_eq_true h] at hb
        cases hb
      rw [← hc2 cn]
      exact hq
    · refine ⟨_, rfl, _, _, rfl, rfl, ⟨by decide, by decide, by decide⟩, _, _, rfl, rfl, _, rfl, ?_⟩
      cases b1 : decide ((10 : Int) ^ (18 : Int).toNat ≤ cell) with
      | true =>
        refine ⟨_, rfl, _, rfl, la, _, rfl, .inl cq3, _, _, rfl, rfl, _, rfl, ?_⟩
        rw [nl]
        cases b2 : decide (a < (ns.length : Int)) with
        | true =>
          refine ⟨_, rfl, _, rfl, _, _, rfl, rfl, ⟨by omega, by omega⟩, _, rfl, d, _, rfl, DPut.k (k := Sum.inr kLeft) e3 (size _ _ _), ?_⟩
          rw [put_left]
          refine ⟨_, rfl, _, rfl, _, _, rfl, rfl, by omega, ?_⟩
          exact modq _ _ (s3.tr sameX_upd) ⟨⟨_, _, _, upd_same⟩, sqL_x sameX_upd e3 cq3⟩
        | false =>
          refine ⟨_, rfl, _, _, rfl, rfl, (by show (0 : Int) < _; decide), _, rfl, d, _, rfl, dget e3 feed_count, _, _, rfl, rfl, .inl ⟨by decide, by decide⟩, _, _, rfl, rfl, _, _, rfl, rfl, .inl ⟨_, rfl, _, _, rfl, rfl, (by show (0 : Int) < _; decide), ?_⟩⟩
          refine ⟨_, rfl, _, rfl, _, _, rfl, rfl, .inl (mod_small (by decide) (by decide)), _, rfl, d, _, rfl, dget e3 feed_count, _, _, rfl, rfl, .inl ⟨by decide, by decide⟩, _, _, rfl, rfl, _, _, rfl, rfl, .inl ⟨_, rfl, _, _, rfl, rfl, (by show (0 : Int) < _; decide), ?_⟩⟩
          refine ⟨_, rfl, _, rfl, _, _, rfl, rfl, .inl (mod_small (by decide) (by decide)), _, rfl, _, _, rfl, rfl, .inl ⟨by decide, by decide⟩, _, _, rfl, rfl, _, _, rfl, rfl, .inl ⟨_, rfl, _, _, rfl, rfl, (by show (0 : Int) < _; decide), _, _, rfl, rfl, ⟨by decide, by decide⟩, _, rfl, _, _, rfl, rfl, by omega, ?_⟩⟩
          exact modq _ _ s3 ⟨⟨_, _, _, e3⟩, cq3⟩
      | false =>
        refine ⟨_, rfl, _, _, rfl, rfl, (by show (0 : Int) < _; decide), _, rfl, d, _, rfl, dget e3 feed_count, _, _, rfl, rfl, .inl ⟨by decide, by decide⟩, _, _, rfl, rfl, _, _, rfl, rfl, .inl ⟨_, rfl, _, _, rfl, rfl, (by show (0 : Int) < _; decide), ?_⟩⟩
        refine ⟨_, rfl, _, rfl, _, _, rfl, rfl, .inl (mod_small (by decide) (by decide)), _, rfl, d, _, rfl, dget e3 feed_count, _, _, rfl, rfl, .inl ⟨by decide, by decide⟩, _, _, rfl, rfl, _, _, rfl, rfl, .inl ⟨_, rfl, _, _, rfl, rfl, (by show (0 : Int) < _; decide), ?_⟩⟩
        refine ⟨_, rfl, _, rfl, _, _, rfl, rfl, .inl (mod_small (by decide) (by decide)), _, rfl, _, _, rfl, rfl, .inl ⟨by decide, by decide⟩, _, _, rfl, rfl, _, _, rfl, rfl, .inl ⟨_, rfl, _, _, rfl, rfl, (by show (0 : Int) < _; decide), _, _, rfl, rfl, ⟨by decide, by decide⟩, _, rfl, _, _, rfl, rfl, by omega, ?_⟩⟩
        exact modq _ _ s3 ⟨⟨_, _, _, e3⟩, cq3⟩
end
end K86

end

section
set_option Elab.async false
set_option linter.all false
set_option maxRecDepth 100000
set_option maxHeartbeats 2000000
/-! The walks of the law: its feed, its names. -/
namespace K86
open PySem PySem.Spec PyProof.Rows L2
open PySem.W (Datum DatumOrd Tup T3 T4 Holds HoldAll)
def pool13 : List Str := ["a", "ab", "abc", "b", "ba", "c", "house", "k", "r", "root", "s", "z", "zero"]
theorem pool_nd : pool13.Nodup := by decide +kernel
theorem pool_nm : ∀ x ∈ pool13, IsName x := by
  have h : ∀ x ∈ pool13, 0 < x.length ∧ x.length < 9 ∧ ∀ c ∈ x.cps.toList, 97 ≤ c ∧ c ≤ 122 := by decide +kernel
  exact fun x hx => ⟨(h x hx).1, (h x hx).2.1, (h x hx).2.2⟩
theorem seqIx {i n : Nat} (h : i < n) : seqIndex? (i : Int) n = some i := by
  have e : (if (i : Int) < 0 then (i : Int) + n else i) = i := if_neg (by omega)
  have e2 : (decide (0 ≤ (i : Int)) && decide ((i : Int) < (n : Int))) = true := by
    rw [decide_eq_true (by omega), decide_eq_true (by omega)]
    rfl
  unfold seqIndex?
  simp only [e]
  rw [if_pos e2]
  rfl
theorem cut_ints (ns : List Int) (hi : Option Int) : ∃ ns' : List Int, cutV (ns.map V.int) none hi = ns'.map V.int := by
  unfold cutV
  exact ⟨_, by rw [← List.map_drop, ← List.map_take]⟩
section
variable {P : Program} {w : World} {K : PySem.W.Frag} {mg : Str → Option Value} {base : Heap} {f : Addr} {fd : FuncData}

def pr_L_feed (K : PySem.W.Frag) : Pr := pr1 fun v H Q => ∃ (l : Addr) (ns : List Int), v = .ref l ∧ SqL K H l (ns.map V.int) ∧ ∀ d la ns' H', Same H H' → Feed K H' d la ns' → Q (.ref d) H'
theorem sc_L_feed : FnScope n_L_feed p_L_feed (defScope s_L_feed) := ⟨rfl, rfl, rfl, by decide +kernel, rfl, by decide +kernel, by decide +kernel⟩
theorem L_feed_ok (m : Bt mg)  (D : Dfn K mg "_law_feed" s_L_feed [] f fd) : Cal P w K mg base 1 "_law_feed" [] (pr_L_feed K) := by
  refine D.cal sc_L_feed (fun vs H Q h => len1 h) (fun _ _ _ _ _ _ us hl => match us, hl with | [_], _ => rfl) fun cdv A outer s H vs Q hr h => ?_
  obtain ⟨_, rfl, l, ns, rfl, hl, q⟩ := inv1 h
  refine ⟨_, pss_one (ps_ret (pe_disp (pps_cons pe_str (p_list m call_list_of (pa_cons (pe_slice sl_list (pv 0) po_none (po_some pe_int)) pa_nil)) (pps_cons pe_str pe_int (pps_cons pe_str pe_int (pps_cons pe_str pe_int pps_nil)))) rfl rfl (by intro e; cases e) (by decide))), ?_⟩
  intro d hd
  have s1 := same_new (o := .dK []) hd
  obtain ⟨ns', en⟩ := cut_ints ns (some 63)
  refine ⟨_, rfl, 63, rfl, l, _, rfl, sqL_same s1 hl, fun p np => ?_⟩
  rw [en]
  have s2 := same_new (o := .lst (ns'.map V.int)) np
  refine ⟨p, _, rfl, .inl (SqL.of upd_same), fun la nla => ?_⟩
  have s3 := same_new (o := .lst (ns'.map V.int)) nla
  have ed : upd (upd (upd H d (.dK [])) p (.lst (ns'.map V.int))) la (.lst (ns'.map V.int)) d = some (.dK []) := s3 _ _ (s2 _ _ upd_same)
  refine ⟨ed, [(Sum.inr kCells, .ref la), (Sum.inr kAt, .int 0), (Sum.inr kLeft, .int 0), (Sum.inr kCount, .int 0)], rfl, by show 4 ≤ 15; decide, ?_⟩
  rw [merge_feed]
  refine q d la ns' _ (same_at (same_tr s1 (same_tr s2 s3)) hd) ⟨⟨0, 0, 0, upd_same⟩, sqL_x sameX_upd ed (SqL.of upd_same)⟩

/-- L_names at its for -/
def NamP (K : PySem.W.Frag) (H : Hp) (d la : Addr) (ns : List Int) (many : Nat) (Pl Fd : Addr) (i : Nat) (σ : L2.St) (H1 : Hp) : Prop :=
  ∃ (o4 : Option V) (found pool : List Str), σ = [some (.ref d), some (.int (many : Int)), some (.ref Pl), some (.ref Fd), o4, none] ∧ SameX d H H1 ∧ Feed K H1 d la ns ∧
    H1 Pl = some (.lst (pool.map V.str)) ∧ H1 Fd = some (.lst (found.map V.str)) ∧ (found ++ pool).Perm pool13 ∧ found.length = i
theorem perm_pop {α : Type} : ∀ {l : List α} {i : Nat} {x : α}, l[i]? = some x → l.Perm (x :: l.eraseIdx i)
  | [], i, x, h => by simp at h
  | y :: l, 0, x, h => by
    have h : y = x := Option.some.inj h
    rw [h]
    exact List.Perm.refl _
  | y :: l, i + 1, x, h => by
    have ih := perm_pop (l := l) (i := i) (x := x) (by simpa using h)
    rw [List.eraseIdx_cons_succ]
    exact (ih.cons y).trans (List.Perm.swap x y _)
def pr_L_names (K : PySem.W.Frag) : Pr := pr2 fun v mv H Q => ∃ (d : Addr) (many : Nat) (la : Addr) (ns : List Int), v = .ref d ∧ mv = .int (many : Int) ∧ 0 < many ∧ many ≤ 13 ∧ Feed K H d la ns ∧
  ∀ u H' hs r, SameX d H H' → Feed K H' d la ns → Is K H' u (Tup.mk hs, r) → hs.length = many → UpS hs → (∀ x ∈ hs, IsName x) → r ∈ hs → Q u H'
theorem sc_L_names : FnScope n_L_names p_L_names (defScope s_L_names) := ⟨rfl, rfl, rfl, by decide +kernel, rfl, by decide +kernel, by decide +kernel⟩
theorem L_names_ok (m : Bt mg) (c_L_draw : Cal P w K mg base 1 "_law_draw" [] (pr_L_draw K)) (D : Dfn K mg "_law_names" s_L_names [] f fd) : Cal P w K mg base 2 "_law_names" [] (pr_L_names K) := by
  refine D.cal sc_L_names (fun vs H Q h => len2 h) (fun _ _ _ _ _ _ us hl => match us, hl with | [_, _], _ => rfl) fun cdv A outer s H vs Q hr h => ?_
  obtain ⟨_, _, rfl, d, many, la, ns, rfl, rfl, m0, m13, F, q⟩ := inv2 h
  refine ⟨_, pss_cons (ps_set (i := 2) sc_L_names.nd rfl (Or.inl rfl) (pe_lst (pa_cons pe_str (pa_cons pe_str (pa_cons pe_str (pa_cons pe_str (pa_cons pe_str (pa_cons pe_str (pa_cons pe_str (pa_cons pe_str (pa_cons pe_str (pa_cons pe_str (pa_cons pe_str (pa_cons pe_str (pa_cons pe_str pa_nil)))))))))))))))
    (pss_cons (ps_set (i := 3) sc_L_names.nd rfl (Or.inl rfl) (pe_lst pa_nil))
    (pss_cons (ps_for PassesOwn.never rfl (pi_range1 rfl m.range (pa_cons (pv 1) pa_nil)) (pg_name (i := 4) sc_L_names.nd rfl (.inl rfl))
      (pss_one (ps_expr (p_app (pv 3) (pa_cons (pe_bm PySem.F.plainAttrs_list PySem.F.slot_list_pop PySem.F.type_list_pop mt_popAt (pv 2) (pa_cons (p_call c_L_draw hr (pa_cons (pv 0) (pa_cons (p_len m (pa_cons (pv 2) pa_nil)) pa_nil))) pa_nil)) pa_nil)))))
    (pss_cons (ps_set (i := 5) sc_L_names.nd rfl (Or.inl rfl) (pe_ix (ix_atL (α := Str)) (pv 3) (p_call c_L_draw hr (pa_cons (pv 0) (pa_cons (pv 1) pa_nil))) (fun _ _ => rfl)))
    (pss_one (ps_ret (pe_tup (pa_cons (p_tuple m call_tuple_of (pa_cons (p_sorted m (cr_srtT (α := Str) hr.u) (pa_cons (pv 3) pa_nil)) pa_nil)) (pa_cons (pv 5) pa_nil)))))))), ?_⟩
  refine ⟨by show 13 ≤ sizeLine; decide, fun Pl nP => ?_⟩
  have sP : Same H (upd H Pl (.lst (pool13.map V.str))) := same_new nP
  refine ⟨Nat.zero_le _, fun Fd nF => ?_⟩
  have nF : upd H Pl (.lst (pool13.map V.str)) Fd = none := nF
  have sF := same_new (o := .lst []) nF
  have hFH : H Fd = none := free_of sP nF
  have hPF : Pl ≠ Fd := fun e => by rw [← e, upd_same] at nF; cases nF
  have hPd := F.free nP
  have hFd := F.free hFH
  refine ⟨_, rfl, (many : Int), rfl, by omega, by omega, for_range (lo := 0) (NamP K H d la ns many Pl Fd) ⟨none, [], pool13, rfl, Same.x (same_tr sP sF), F.same (same_tr sP sF), sF _ _ upd_same, upd_same, List.Perm.refl _, rfl⟩ ?_ ?_⟩
  · rintro i σ H1 hi ⟨o4, found, pool, rfl, s1, F1, eP, eF, pm, fl⟩
    have hi : i < many := hi
    have pl : found.length + pool.length = 13 := by
      have := pm.length_eq
      rw [List.length_append] at this
      exact this
    refine ⟨_, rfl, .inl ⟨rfl, _, SqL.of eF⟩, ?_⟩
    refine ⟨_, rfl, .inl ⟨rfl, _, SqL.of eP⟩, ?_⟩
    refine ⟨_, rfl, _, rfl, Pl, _, rfl, .inl (SqL.of eP), d, pool.length, la, ns, rfl, by rw [List.length_map], by omega, by omega, F1, fun x H2 hx s2 F2 => ?_⟩
    have eP2 := s2 _ _ hPd eP
    have eF2 := s2 _ _ hFd eF
    have hx2 : pool[x]? = some pool[x] := List.getElem?_eq_getElem hx
    generalize pool[x] = z at hx2
    refine ⟨Pl, _, (x : Int), x, .str z, rfl, rfl, eP2, by omega, by omega, seqIx (by rw [List.length_map]; exact hx), by rw [List.getElem?_map, hx2]; rfl, ?_⟩
    have s12 := s1.tr s2
    have eF3 : upd H2 Pl (.lst ((pool.map V.str).eraseIdx x)) Fd = some (.lst (found.map V.str)) := by rw [upd_ne (Ne.symm hPF)]; exact eF2
    refine ⟨Fd, _, _, rfl, rfl, eF3, by rw [List.length_map, sizeLine_eq]; omega, ?_⟩
    have s4 : SameX d H (upd (upd H2 Pl (.lst ((pool.map V.str).eraseIdx x))) Fd (.lst (found.map V.str ++ [.str z]))) := sameX_at (sameX_at s12 nP) hFH
    refine ⟨_, found ++ [z], pool.eraseIdx x, rfl, s4, F.on s4 F2 (by rw [upd_ne (Ne.symm hFd), upd_ne (Ne.symm hPd)]), ?_, by rw [upd_same, List.map_append]; rfl, ?_, by rw [List.length_append, fl]; rfl⟩
    · rw [upd_ne hPF, upd_same]
      have em : ∀ (l : List Str) (j : Nat), (l.map V.str).eraseIdx j = (l.eraseIdx j).map V.str := fun l => by
        induction l with
        | nil => intro j; rfl
        | cons y l ih =>
          intro j
          cases j with
          | zero => rfl
          | succ j =>
            rw [List.map_cons, List.eraseIdx_cons_succ, List.eraseIdx_cons_succ, List.map_cons, ih]
      rw [em]
    · refine List.Perm.trans ?_ pm
      rw [List.append_assoc]
      exact List.Perm.append_left found (perm_pop hx2).symm
  · rintro σ H1 ⟨o4, found, pool, rfl, s1, F1, eP, eF, pm, fl⟩
    have fl : found.length = many := fl
    refine ⟨_, rfl, _, rfl, _, rfl, d, many, la, ns, rfl, rfl, m0, by omega, F1, fun x H2 hx s2 F2 => ?_⟩
    have eF2 := s2 _ _ hFd eF
    have hx2 : found[x]? = some found[x] := List.getElem?_eq_getElem (by omega)
    generalize found[x] = r at hx2
    have hrm := List.mem_of_getElem? hx2
    refine ⟨found, x, r, is_lst (SqL.of eF2) (strs_isAll found), rfl, hx2, fun u hu => ?_⟩
    obtain rfl := hu.str
    refine ⟨_, rfl, Fd, _, found, rfl, .inl (SqL.of eF2), strs_isAll found, srtable_str found, fun p out np hout => ?_⟩
    refine ⟨p, out, rfl, .inl ⟨SqL.of upd_same, fun p2 np2 => ?_⟩⟩
    have sp := same_tr (same_new (o := .lst out) np) (same_new (o := .tup out) np2)
    refine ⟨_, rfl, by show 2 ≤ sizeLine; decide, fun p3 np3 => ?_⟩
    have sp3 := same_tr sp (same_new (o := .tup [.ref p2, .str r]) np3)
    have sub : ∀ y ∈ found, y ∈ pool13 := fun y hy => pm.mem_iff.mp (List.mem_append_left _ hy)
    have ndf : found.Nodup := (List.nodup_append.mp (pm.nodup_iff.mpr pool_nd)).1
    refine q _ _ (srt found) r ((s1.tr s2).tr (Same.x sp3)) (F2.same sp3) (is_pair (SqT.of upd_same) ((is_tup (SqT.of upd_same) (hout.same sp)).same (same_new np3)) (is_str _)) (by rw [srt_length, fl]) ?_ (fun y hy => pool_nm y (sub y (srt_mem.mp hy))) (srt_mem.mpr hrm)
    exact (srt_up found).strict ((srt_perm found).nodup_iff.mpr ndf)
end
end K86

end

section
set_option Elab.async false
set_option linter.all false
set_option maxRecDepth 100000
set_option maxHeartbeats 2000000
/-! The walks of the law: networks that it draws. -/
namespace K86
open PySem PySem.Spec PyProof.Rows L2
open PySem.W (Datum DatumOrd Tup T3 T4 Holds HoldAll)
def sc_gr : Scope := relab (lcScope (stExpr ((defBody s_L_grown).getD 5 (.Pass ⟨0, 0, 0, 0⟩)))) (defScope s_L_grown)
section
variable {X : Cx} {p pos : Pos} {e tg : Expr} {es : List Expr} {te : TE} {t : TA}
theorem p_tupleK (K : PySem.W.Frag) (m : Bt X.mg) (ha : PA X (e :: es) t) (hK : X.K = K := by rfl) (hg : Gl X "tuple" := by rfl) (he : starEach (e :: es) X.env = (false, eval e X.env) :: starEach es X.env := by rfl) (hpl : (backTo pos (starEach es X.env)).any (·.1) = false := by rfl) :
    PE X (.Call (.Name "tuple" p) (e :: es) [] pos) (tCB (fun xs H Q => ∃ p ys, xs = [.ref p] ∧ ((SqL K H p ys ∧ ∀ l, H l = none → Q (.ref l) (upd H l (.tup ys))) ∨ (SqT K H p ys ∧ Q (.ref p) H))) t) := by
  subst hK
  exact p_tuple m call_tuple_of ha hg he hpl
end
theorem ite_any {b : Bool} {A B : VK → Prop} {Q : VK} (R : V → Hp → Prop) (hA : b = true → ∀ Q' : VK, (∀ x H, R x H → Q' x H) → A Q') (hB : b = false → ∀ Q' : VK, (∀ x H, R x H → Q' x H) → B Q') (h : ∀ x H, R x H → Q x H) : if b = true then A Q else B Q := by
  cases b with
  | true => exact hA rfl Q h
  | false => exact hB rfl Q h
theorem turn_ne {m a b : Nat} (hm : m ≤ 4) (ha : a < m) (hb : b < m - 1) : (a + (1 + b)) % m ≠ a ∧ (a + (1 + b)) % m < m := by
  have : m = 2 ∨ m = 3 ∨ m = 4 := by omega
  rcases this with h | h | h <;> subst h <;> omega
theorem em_str : ∀ (l : List Str) (j : Nat), (l.map V.str).eraseIdx j = (l.eraseIdx j).map V.str := fun l => by
  induction l with
  | nil => intro j; rfl
  | cons y l ih =>
    intro j
    cases j with
    | zero => rfl
    | succ j => rw [List.map_cons, List.eraseIdx_cons_succ, List.eraseIdx_cons_succ, List.map_cons, ih]
/-- a wire as it is found -/
def T3Ok (hs : List Str) (t : T3 Str Str Int) : Prop := t.a ∈ hs ∧ t.b ∈ hs ∧ t.a ≠ t.b
/-- L_grown at its fors -/
def GrnW (K : PySem.W.Frag) (H1 : Hp) (d la : Addr) (ns : List Int) (many trees more : Nat) (hv : V) (r : Str) (hs : List Str) (Fd : Addr) (b : Nat) (o7 o8 o9 : Option V) (σ : L2.St) (H2 : Hp) : Prop :=
  ∃ (o10 o11 o12 o13 : Option V) (fv : List V) (ts : List (T3 Str Str Int)),
    σ = [some (.ref d), some (.int (many : Int)), some (.int (trees : Int)), some (.int (more : Int)), some hv, some (.str r), some (.ref Fd), o7, o8, o9, o10, o11, o12, o13, none, none, none] ∧
    SameX d H1 H2 ∧ Feed K H2 d la ns ∧ H2 Fd = some (.lst fv) ∧ IsAll K H2 fv ts ∧ (∀ t ∈ ts, T3Ok hs t) ∧ ts.length ≤ b
/-- wires as found, sorted: their ends are -/
theorem t3_up {ts : List (T3 Str Str Int)} (h : Up ts) : Up (ts.map fun t => (t.a, t.b)) := by
  unfold Up at h ⊢
  rw [List.pairwise_map]
  refine h.imp fun {t u} h => ?_
  rw [leO_iff] at h ⊢
  cases e : DatumOrd.lt (u.a, u.b) (t.a, t.b) with
  | false => rfl
  | true =>
    exfalso
    rw [pair_lt] at e
    rw [t3_lt] at h
    dsimp only at e
    by_cases ea : u.a = t.a
    · rw [if_pos ea] at e h
      by_cases eb : u.b = t.b
      · rw [eb, Lin.irr] at e
        cases e
      · rw [if_neg eb, e] at h
        cases h
    · rw [if_neg ea] at e h
      rw [e] at h
      cases h
section
variable {P : Program} {w : World} {K : PySem.W.Frag} {mg : Str → Option Value} {base : Heap} {f : Addr} {fd : FuncData}

def pr_L_grown (K : PySem.W.Frag) : Pr := pr4 fun v mv tv ov H Q => ∃ (d : Addr) (many trees more : Nat) (la : Addr) (ns : List Int), v = .ref d ∧ mv = .int (many : Int) ∧ tv = .int (trees : Int) ∧ ov = .int (more : Int) ∧ 0 < many ∧ many ≤ 4 ∧ trees ≤ 2 ∧ more ≤ 4 ∧ Feed K H d la ns ∧
  ∀ a u1 u3 H' hs ws r, SameX d H H' → Feed K H' d la ns → SqT K H' a [u1, .str r, u3] → Is K H' u1 (net hs ws) → NetOk hs ws → r ∈ hs → ws.length ≤ 60 → Q (.ref a) H'
theorem sc_L_grown : FnScope n_L_grown p_L_grown (defScope s_L_grown) := ⟨rfl, rfl, rfl, by decide +kernel, rfl, by decide +kernel, by decide +kernel⟩
theorem L_grown_ok (m : Bt mg) (c_L_names : Cal P w K mg base 2 "_law_names" [] (pr_L_names K)) (c_L_draw : Cal P w K mg base 1 "_law_draw" [] (pr_L_draw K)) (D : Dfn K mg "_law_grown" s_L_grown [] f fd) : Cal P w K mg base 3 "_law_grown" [] (pr_L_grown K) := by
  refine D.cal sc_L_grown (fun vs H Q h => len4 h) (fun _ _ _ _ _ _ us hl => match us, hl with | [_, _, _, _], _ => rfl) fun cdv A outer s H vs Q hr h => ?_
  obtain ⟨_, _, _, _, rfl, d, many, trees, more, la, ns, rfl, rfl, rfl, rfl, m0, m4, t2, o4, F0, q⟩ := inv4 h
  refine ⟨_, pss_cons (ps_asg (p_call c_L_names hr (pa_cons (pv 0) (pa_cons (pv 1) pa_nil))) (pg_tup rfl (pgs_cons (pg_name (i := 4) sc_L_grown.nd rfl (.inl rfl)) (pgs_cons (pg_name (i := 5) sc_L_grown.nd rfl (.inr rfl)) pgs_nil))))
    (pss_cons (ps_set (i := 6) sc_L_grown.nd rfl (Or.inr rfl) (pe_lst pa_nil))
    (pss_cons (ps_for PassesOwn.never rfl (pi_range1 rfl m.range (pa_cons (pv 2) pa_nil)) (pg_name (i := 7) sc_L_grown.nd rfl (.inl rfl))
      (pss_cons (ps_par (i := 8) (j := 9) rfl sc_L_grown.nd rfl rfl (by decide) rfl rfl (pa_cons (pe_lc (own := [("_law_house", 10)]) (g := gName 10) rfl sc_L_grown.nd (pi_tup (pv 4)) (blkOk_by (N := n_L_grown) (sc := defScope s_L_grown) (by decide +kernel)) (fun _ _ _ _ _ => (pg_name (i := 10) sc_L_grown.nd rfl (.inl rfl))) (fun _ _ _ _ _ => pts_one (pt_cmpR op_ne (pv 10) (pv 5) (nomark _))) (fun _ _ _ _ _ => pv 10)) (pa_cons (pe_lst (pa_cons (pv 5) pa_nil)) pa_nil)) rfl)
      (pss_one (ps_for PassesOwn.never rfl (pi_range1 rfl m.range (pa_cons (pe_op op_sub (pv 1) pe_int) pa_nil)) (pg_name (i := 11) sc_L_grown.nd rfl (.inl rfl))
        (pss_cons (ps_set (i := 10) sc_L_grown.nd rfl (Or.inl rfl) (pe_bm PySem.F.plainAttrs_list PySem.F.slot_list_pop PySem.F.type_list_pop mt_popAt (pv 8) (pa_cons (p_call c_L_draw hr (pa_cons (pv 0) (pa_cons (p_len m (pa_cons (pv 8) pa_nil)) pa_nil))) pa_nil)))
        (pss_cons (ps_expr (p_app (pv 6) (pa_cons (pe_tup (pa_cons (pe_ix (ix_atL (α := Str)) (pv 9) (p_call c_L_draw hr (pa_cons (pv 0) (pa_cons (p_len m (pa_cons (pv 9) pa_nil)) pa_nil))) (fun _ _ => rfl)) (pa_cons (pv 10) (pa_cons (pv 7) pa_nil)))) pa_nil)))
        (pss_one (ps_expr (p_app (pv 9) (pa_cons (pv 10) pa_nil))))))))))
    (pss_cons (ps_for PassesOwn.never rfl (pi_range1 rfl m.range (pa_cons (pe_ifExp (pt_cmpR op_gt (pv 1) pe_int (nomark _)) (p_call c_L_draw hr (pa_cons (pv 0) (pa_cons (pe_op op_add (pv 3) pe_int) pa_nil))) pe_int) pa_nil)) (pg_name (i := 11) sc_L_grown.nd rfl (.inl rfl))
      (pss_cons (ps_par (i := 12) (j := 13) rfl sc_L_grown.nd rfl rfl (by decide) rfl rfl (pa_cons (p_call c_L_draw hr (pa_cons (pv 0) (pa_cons (pv 1) pa_nil))) (pa_cons (pe_op op_add pe_int (p_call c_L_draw hr (pa_cons (pv 0) (pa_cons (pe_op op_sub (pv 1) pe_int) pa_nil)))) pa_nil)) rfl)
      (pss_one (ps_expr (p_app (pv 6) (pa_cons (pe_tup (pa_cons (pe_ix (ix_atT (α := Str)) (pv 4) (pv 12) (fun _ _ => rfl)) (pa_cons (pe_ix (ix_atT (α := Str)) (pv 4) (pe_op op_mod (p_int m (pa_cons (pe_op op_add (pv 12) (pv 13)) pa_nil)) (pv 1)) (fun _ _ => rfl)) (pa_cons (pv 2) pa_nil)))) pa_nil))))))
    (pss_cons (ps_set (i := 6) sc_L_grown.nd rfl (Or.inr rfl) (p_sorted m (cr_srtT (α := T3 Str Str Int) hr.u) (pa_cons (pv 6) pa_nil)))
    (pss_cons (ps_setLc (i := 14) (own := [("_law_tree", 15)]) (g := gName 15) (tt := tYes) rfl sc_L_grown.nd rfl rfl (sw_true rfl rfl rfl (by decide +kernel)) (pi_range1 rfl m.range (pa_cons (pv 2) pa_nil)) (blkOk_by (N := n_L_grown) (sc := defScope s_L_grown) (by decide +kernel)) (fun _ _ _ _ _ => (pg_name (i := 15) sc_L_grown.nd rfl (.inr rfl))) (fun _ _ _ _ _ => pts_nil)
      (fun _ _ _ _ _ => p_tupleK K m (pa_cons (pe_lc (own := [("_law_k", 7)]) (g := gName 7) rfl sc_L_grown.nd (pi_range1 rfl m.range (pa_cons (p_lenK K m (pa_cons (pv 6) pa_nil)) pa_nil)) (blkOk_by (N := n_L_grown) (sc := sc_gr) (by decide +kernel)) (fun _ _ _ _ _ => (pg_name (i := 7) sc_L_grown.nd rfl (.inl rfl)))
        (fun _ _ _ _ _ => pts_one (pt_cmpR op_eq (pe_ix (r := r3c K Str Str Int) ix_3c (pe_ix (r := rAtL K (T3 Str Str Int)) ix_atL (pv 6) (pv 7) (fun _ _ => rfl)) pe_int (fun _ _ => rfl)) (pv 15) (nomark _))) (fun _ _ _ _ _ => pv 7)) pa_nil)))
    (pss_one (ps_ret (pe_tup (pa_cons (pe_tup (pa_cons (pv 4) (pa_cons (p_tuple m call_tuple_of (pa_cons (pe_lc (own := [("_law_wire", 16)]) (g := gName 16) (tt := tYes) rfl sc_L_grown.nd (pi_list (pv 6)) (blkOk_by (N := n_L_grown) (sc := defScope s_L_grown) (by decide +kernel)) (fun _ _ _ _ _ => (pg_name (i := 16) sc_L_grown.nd rfl (.inl rfl))) (fun _ _ _ _ _ => pts_nil)
        (fun _ _ _ _ _ => pe_tup (pa_cons (pe_ix (r := r3a K Str Str Int) ix_3a (pv 16) pe_int (fun _ _ => rfl)) (pa_cons (pe_ix (r := r3b K Str Str Int) ix_3b (pv 16) pe_int (fun _ _ => rfl)) pa_nil)))) pa_nil)) pa_nil))) (pa_cons (pv 5) (pa_cons (p_tuple m call_tuple_of (pa_cons (pv 14) pa_nil)) pa_nil))))))))))), ?_⟩
  refine ⟨_, rfl, _, rfl, d, many, la, ns, rfl, rfl, m0, by omega, F0, fun u H1 hs r s01 F1 hu hlen up nm hrm => ?_⟩
  have ⟨ua, h1, h2, eu, uq, hh, hr2⟩ := hu.pair
  subst eu
  obtain rfl := hr2.str
  refine ⟨ua, _, rfl, uq, rfl, _, _, rfl, _, _, rfl, rfl, ?_⟩
  have ⟨ha, hvs, eh, hq, hall⟩ := hh.tup
  subst eh
  have hvl : hvs.length = hs.length := hall.length
  refine ⟨Nat.zero_le _, fun Fd nF => ?_⟩
  have sF := same_new (o := .lst []) nF
  have hFd := F1.free nF
  refine ⟨_, rfl, (trees : Int), rfl, by omega, by omega, for_range (lo := 0) (fun k σ H2 => ∃ o7 o8 o9, GrnW K H1 d la ns many trees more (.ref ha) r hs Fd (3 * k) o7 o8 o9 σ H2)
    ⟨none, none, none, none, none, none, none, [], [], rfl, Same.x sF, F1.same sF, upd_same, .nil, fun t ht => (List.not_mem_nil ht).elim, Nat.le_refl _⟩ ?_ ?_⟩
  · rintro k σ H2 hk ⟨o7, o8, o9, o10, o11, o12, o13, fv, ts, rfl, s2, F2, eF, hfv, tok, tl⟩
    have hk : k < trees := hk
    have hq2 : SqT K H2 ha hvs := (F1.keep s2).seqT hq
    refine ⟨_, rfl, ha, rfl, ⟨_, hq2⟩, fun L nL => lc_data (K := K) walk_tup (fun (i : Nat) => (hs[i]?.filter fun h => decide (h ≠ r)).map id) nL (by omega) (fun H3 s3 => sqT_same s3 hq2) ?_ ?_⟩
    · rintro i v H3 H4 Ky Kn hi s3 ⟨rfl, hvi⟩ k1 k2
      obtain ⟨x, hx1, hx2⟩ := hall.at hvi
      obtain rfl := hx2.str
      have hx1 : hs[i]? = some x := hx1
      refine ⟨rfl, _, rfl, _, rfl, rfl, _, rfl, ?_⟩
      by_cases c : x = r
      · rw [show decide (V.str x = V.str r) = true from decide_eq_true (by rw [c])]
        exact k2 _ (same_refl _) (by rw [hx1]; simp [Option.filter, c])
      · rw [show decide (V.str x = V.str r) = false from decide_eq_false fun e => c (by injection e)]
        exact ⟨_, rfl, k1 _ x _ (same_refl _) (by rw [hx1]; simp [Option.filter, c]) (is_str x)⟩
    intro H3 ys s3 eL hy
    rw [hvl, fm_filter, List.map_id] at hy
    have ey := isAll_strs hy
    subst ey
    have hL1 : H1 L = none := free_x F1 s2 F2 nL
    refine ⟨_, rfl, by show 1 ≤ sizeLine; decide, fun T nT => ⟨_, _, rfl, ?_⟩⟩
    have sT := same_new (o := .lst [.str r]) nT
    have hT1 : H1 T = none := free_x F1 s2 F2 (free_of s3 nT)
    have hLT : L ≠ T := fun e => by rw [← e, eL] at nT; cases nT
    have hLF : L ≠ Fd := fun e => by rw [e, eF] at nL; cases nL
    have hTF : T ≠ Fd := fun e => by rw [e, s3 _ _ eF] at nT; cases nT
    have hLd := F1.free hL1
    have hTd := F1.free hT1
    have s34 := same_tr s3 sT
    refine ⟨_, rfl, _, _, rfl, rfl, (many : Int) - 1, rfl, by omega, by omega, for_range (lo := 0) (fun i σ H4 => ∃ left there, GrnW K H1 d la ns many trees more (.ref ha) r hs Fd (3 * k + i) (some (.int (0 + (k : Int)))) (some (.ref L)) (some (.ref T)) σ H4 ∧
      H4 L = some (.lst (left.map V.str)) ∧ H4 T = some (.lst (there.map V.str)) ∧ (there ++ left).Perm hs ∧ there.length = i + 1)
      ⟨oth hs r, [r], ⟨o10, o11, o12, o13, fv, ts, rfl, s2.tr (Same.x s34), F2.same s34, s34 _ _ eF, hfv.same s34, tok, by omega⟩, sT _ _ eL, upd_same, ?_, rfl⟩ ?_ ?_⟩
    · refine K86M.perm_of_same ?_ up.nodup fun x => ?_
      · exact List.nodup_cons.mpr ⟨fun h => (mem_oth.mp h).2 rfl, up.nodup.sublist List.filter_sublist⟩
      · show x ∈ r :: oth hs r ↔ _
        rw [List.mem_cons, mem_oth]
        exact ⟨fun h => h.elim (fun e => e ▸ hrm) fun h => h.1, fun h => (Classical.em (x = r)).imp id fun n => ⟨h, n⟩⟩
    · rintro i σ H4 hi ⟨left, there, ⟨o10, o11, o12, o13, fv, ts, rfl, s4, F4, eF4, hfv4, tok, tl⟩, eL4, eT4, pm, thl⟩
      have pl : there.length + left.length = many := by
        have := pm.length_eq
        rw [List.length_append, hlen] at this
        exact this
      have hi : i < ((many : Int) - 1).toNat := hi
      have ndp : (there ++ left).Nodup := pm.nodup_iff.mpr up.nodup
      refine ⟨_, rfl, .inl ⟨rfl, _, SqL.of eL4⟩, ?_⟩
      refine ⟨_, rfl, _, rfl, L, _, rfl, .inl (SqL.of eL4), d, left.length, la, ns, rfl, by rw [List.length_map], by omega, by omega, F4, fun x H5 hx s5 F5 => ?_⟩
      have hx2 : left[x]? = some left[x] := List.getElem?_eq_getElem hx
      generalize left[x] = z at hx2
      have eL5 := s5 _ _ hLd eL4
      have eT5 := s5 _ _ hTd eT4
      have eF5 := s5 _ _ hFd eF4
      refine ⟨L, _, (x : Int), x, .str z, rfl, rfl, eL5, by omega, by omega, seqIx (by rw [List.length_map]; exact hx), by rw [List.getElem?_map, hx2]; rfl, ?_⟩
      rw [em_str]
      have s6 : SameX d H1 (upd H5 L (.lst ((left.eraseIdx x).map V.str))) := sameX_at (s4.tr s5) hL1
      have F6 : Feed K (upd H5 L (.lst ((left.eraseIdx x).map V.str))) d la ns := F1.on s6 F5 (upd_ne (Ne.symm hLd))
      have eL6 : upd H5 L (.lst ((left.eraseIdx x).map V.str)) L = some (.lst ((left.eraseIdx x).map V.str)) := upd_same
      have eT6 : upd H5 L (.lst ((left.eraseIdx x).map V.str)) T = some (.lst (there.map V.str)) := by rw [upd_ne (Ne.symm hLT)]; exact eT5
      have eF6 : upd H5 L (.lst ((left.eraseIdx x).map V.str)) Fd = some (.lst fv) := by rw [upd_ne (Ne.symm hLF)]; exact eF5
      have hf6 : IsAll K (upd H5 L (.lst ((left.eraseIdx x).map V.str))) fv ts := (hfv4.keep (F4.keep s5)).keep (keep_lst eL5)
      generalize upd H5 L (.lst ((left.eraseIdx x).map V.str)) = H6 at s6 F6 eL6 eT6 eF6 hf6 ⊢
      refine ⟨_, rfl, .inl ⟨rfl, _, SqL.of eF6⟩, ?_⟩
      refine ⟨_, rfl, _, rfl, _, rfl, T, _, rfl, .inl (SqL.of eT6), d, there.length, la, ns, rfl, by rw [List.length_map], by omega, by omega, F6, fun x' H7 hx' s7 F7 => ?_⟩
      have hx3 : there[x']? = some there[x'] := List.getElem?_eq_getElem hx'
      generalize there[x'] = y at hx3
      have eL7 := s7 _ _ hLd eL6
      have eT7 := s7 _ _ hTd eT6
      have eF7 := s7 _ _ hFd eF6
      have hf7 := hf6.keep (F6.keep s7)
      refine ⟨there, x', y, is_lst (SqL.of eT7) (strs_isAll there), rfl, hx3, fun u hu => ?_⟩
      obtain rfl := hu.str
      refine ⟨_, rfl, _, rfl, by show 3 ≤ sizeLine; decide, fun p np => ?_⟩
      have sp := same_new (o := .tup [.str y, .str z, .int (0 + (k : Int))]) np
      have hp1 : H1 p = none := free_x F1 (s6.tr s7) F7 np
      have eF8 := sp _ _ eF7
      have eT8 := sp _ _ eT7
      have eL8 := sp _ _ eL7
      have F8 := F7.same sp
      have lfv : fv.length = ts.length := hfv4.length
      have hi8 : IsAll K (upd H7 p (.tup [.str y, .str z, .int (0 + (k : Int))])) (fv ++ [.ref p]) (ts ++ [T3.mk y z (0 + (k : Int))]) := (hf7.same sp).append (.cons (is_t3 (SqT.of upd_same) (is_str _) (is_str _) (is_int _)) .nil)
      have s8 := (s6.tr s7).tr (Same.x (d := d) sp)
      generalize upd H7 p (.tup [.str y, .str z, .int (0 + (k : Int))]) = H8 at sp eF8 eT8 eL8 F8 hi8 s8 ⊢
      refine ⟨Fd, _, _, rfl, rfl, eF8, by rw [sizeLine_eq]; omega, ?_⟩
      have s9 : SameX d H1 (upd H8 Fd (.lst (fv ++ [.ref p]))) := sameX_at s8 nF
      have F9 : Feed K (upd H8 Fd (.lst (fv ++ [.ref p]))) d la ns := F1.on s9 F8 (upd_ne (Ne.symm hFd))
      have eF9 : upd H8 Fd (.lst (fv ++ [.ref p])) Fd = some (.lst (fv ++ [.ref p])) := upd_same
      have eT9 : upd H8 Fd (.lst (fv ++ [.ref p])) T = some (.lst (there.map V.str)) := by rw [upd_ne hTF]; exact eT8
      have eL9 : upd H8 Fd (.lst (fv ++ [.ref p])) L = some (.lst ((left.eraseIdx x).map V.str)) := by rw [upd_ne hLF]; exact eL8
      have hi9 := hi8.keep (keep_lst (o := .lst (fv ++ [.ref p])) eF8)
      generalize upd H8 Fd (.lst (fv ++ [.ref p])) = H9 at s9 F9 eF9 eT9 eL9 hi9 ⊢
      refine ⟨_, rfl, .inl ⟨rfl, _, SqL.of eT9⟩, _, rfl, T, _, _, rfl, rfl, eT9, by rw [List.length_map, sizeLine_eq]; omega, ?_⟩
      have s10 : SameX d H1 (upd H9 T (.lst (there.map V.str ++ [.str z]))) := sameX_at s9 hT1
      have zl : z ∈ left := List.mem_of_getElem? hx2
      have yt : y ∈ there := List.mem_of_getElem? hx3
      have yz : y ≠ z := fun e => (List.nodup_append.mp ndp).2.2 y yt z zl e
      refine ⟨left.eraseIdx x, there ++ [z], ⟨_, _, o12, o13, fv ++ [.ref p], ts ++ [T3.mk y z (0 + (k : Int))], rfl, s10, F1.on s10 F9 (upd_ne (Ne.symm hTd)), by rw [upd_ne (Ne.symm hTF)]; exact eF9, hi9.keep (keep_lst eT9), fun t ht => ?_, by rw [List.length_append, List.length_singleton]; omega⟩, by rw [upd_ne hLT]; exact eL9, by rw [upd_same, List.map_append]; rfl, ?_, by rw [List.length_append, thl]; rfl⟩
      · rcases List.mem_append.mp ht with ht | ht
        · exact tok t ht
        · rw [List.mem_singleton.mp ht]
          exact ⟨pm.mem_iff.mp (List.mem_append_left _ yt), pm.mem_iff.mp (List.mem_append_right _ zl), yz⟩
      · refine List.Perm.trans ?_ pm
        rw [List.append_assoc]
        exact List.Perm.append_left there (perm_pop hx2).symm
    · rintro σ H4 ⟨left, there, ⟨o10, o11, o12, o13, fv, ts, rfl, s4, F4, eF4, hfv4, tok, tl⟩, _⟩
      exact ⟨_, _, _, o10, o11, o12, o13, fv, ts, rfl, s4, F4, eF4, hfv4, tok, by omega⟩
  · rintro σ H2 ⟨o7, o8, o9, o10, o11, o12, o13, fv, ts, rfl, s2, F2, eF, hfv, tok, tl⟩
    have tl : ts.length ≤ 3 * trees := tl
    refine ⟨_, rfl, _, _, rfl, rfl, _, rfl, ?_⟩
    refine ite_any (fun x H' => ∃ n : Nat, x = .int (n : Int) ∧ n ≤ 4 ∧ (0 < n → 1 < many) ∧ SameX d H2 H' ∧ Feed K H' d la ns) (fun hb Q' hq => ?_) (fun hb Q' hq => ?_) ?_
    · have hm : 1 < many := by
        have := of_decide_eq_true hb
        omega
      exact ⟨_, rfl, _, rfl, _, _, rfl, rfl, d, more + 1, la, ns, rfl, congrArg V.int (by omega), by omega, by omega, F2, fun x H3 hx s3 F3 => hq _ _ ⟨x, rfl, by omega, fun _ => hm, s3, F3⟩⟩
    · exact hq _ _ ⟨0, rfl, by omega, fun h => absurd h (Nat.lt_irrefl 0), SameX.refl d H2, F2⟩
    rintro x H3 ⟨n, rfl, n4, nm1, s3, F3⟩
    have s13 := s2.tr s3
    have hNd := F1.free nF
    refine ⟨(n : Int), rfl, by omega, by omega, for_range (lo := 0) (fun i σ H4 => GrnW K H1 d la ns many trees more (.ref ha) r hs Fd (3 * trees + i) o7 o8 o9 σ H4)
      ⟨o10, o11, o12, o13, fv, ts, rfl, s13, F3, s3 _ _ hNd eF, hfv.keep (F2.keep s3), tok, by omega⟩ ?_ ?_⟩
    · rintro i σ H4 hi ⟨o10, o11, o12, o13, fv, ts, rfl, s4, F4, eF4, hfv4, tok, tl⟩
      have hi : i < n := hi
      have m1 := nm1 (by omega)
      refine ⟨_, rfl, _, rfl, d, many, la, ns, rfl, rfl, m0, by omega, F4, fun x1 H5 hx1 s5 F5 => ?_⟩
      refine ⟨_, rfl, _, rfl, _, _, rfl, rfl, d, many - 1, la, ns, rfl, congrArg V.int (by omega), by omega, by omega, F5, fun x2 H6 hx2 s6 F6 => ?_⟩
      refine ⟨_, _, rfl, rfl, _, _, rfl, ?_⟩
      have s46 := s5.tr s6
      have eF6 := s46 _ _ hNd eF4
      have hf6 := hfv4.keep (F4.keep s46)
      have hh6 := hh.keep (F1.keep (s4.tr s46))
      obtain ⟨j1, j2⟩ := turn_ne m4 hx1 hx2
      have g1 : hs[x1]? = some hs[x1] := List.getElem?_eq_getElem (by omega)
      have g2 : hs[(x1 + (1 + x2)) % many]? = some hs[(x1 + (1 + x2)) % many] := List.getElem?_eq_getElem (by omega)
      have gne : hs[x1] ≠ hs[(x1 + (1 + x2)) % many] := fun e => by
        have := (List.getElem?_inj (i := x1) (j := (x1 + (1 + x2)) % many) (by omega) up.nodup).mp (by rw [g1, g2, e])
        omega
      generalize hs[x1] = y at g1 gne
      generalize hs[(x1 + (1 + x2)) % many] = z at g2 gne
      refine ⟨_, rfl, .inl ⟨rfl, _, SqL.of eF6⟩, ?_⟩
      refine ⟨_, rfl, _, rfl, Tup.mk hs, x1, y, hh6, rfl, g1, fun u hu => ?_⟩
      obtain rfl := hu.str
      refine ⟨_, rfl, _, rfl, _, rfl, _, _, rfl, rfl, .inl ⟨_, rfl, _, rfl, _, _, rfl, rfl, by omega, Tup.mk hs, (x1 + (1 + x2)) % many, z, hh6, congrArg V.int (by rw [Int.natCast_emod, show ((x1 + (1 + x2) : Nat) : Int) = (x1 : Int) + (1 + (x2 : Int)) by omega]), g2, fun u2 hu2 => ?_⟩⟩
      obtain rfl := hu2.str
      refine ⟨_, rfl, by show 3 ≤ sizeLine; decide, fun p np => ?_⟩
      have sp := same_new (o := .tup [.str y, .str z, .int (trees : Int)]) np
      have lfv : fv.length = ts.length := hfv4.length
      have eF7 := sp _ _ eF6
      refine ⟨Fd, _, _, rfl, rfl, eF7, by rw [sizeLine_eq]; omega, ?_⟩
      have s7 := (s4.tr s46).tr (Same.x (d := d) sp)
      have s8 : SameX d H1 (upd (upd H6 p (.tup [.str y, .str z, .int (trees : Int)])) Fd (.lst (fv ++ [.ref p]))) := sameX_at s7 nF
      have hi8 : IsAll K (upd H6 p (.tup [.str y, .str z, .int (trees : Int)])) (fv ++ [.ref p]) (ts ++ [T3.mk y z (trees : Int)]) := (hf6.same sp).append (.cons (is_t3 (SqT.of upd_same) (is_str _) (is_str _) (is_int _)) .nil)
      refine ⟨_, _, _, _, fv ++ [.ref p], ts ++ [T3.mk y z (trees : Int)], rfl, s8, F1.on s8 (F6.same sp) (upd_ne (Ne.symm hNd)), upd_same, hi8.keep (keep_lst eF7), fun t ht => ?_, by rw [List.length_append, List.length_singleton]; omega⟩
      rcases List.mem_append.mp ht with ht | ht
      · exact tok t ht
      · rw [List.mem_singleton.mp ht]
        exact ⟨List.mem_of_getElem? g1, List.mem_of_getElem? g2, gne⟩
    · rintro σ H4 ⟨o10, o11, o12, o13, fv, ts, rfl, s4, F4, eF4, hfv4, tok, tl⟩
      have tl : ts.length ≤ 3 * trees + n := tl
      refine ⟨_, rfl, Fd, fv, ts, rfl, .inl (SqL.of eF4), hfv4, srtable_t3 ts, fun S out nS hout => ?_⟩
      have sS := same_new (o := .lst out) nS
      have eS : upd H4 S (.lst out) S = some (.lst out) := upd_same
      have hS : IsAll K (upd H4 S (.lst out)) out (srt ts) := hout.same sS
      have s5 := s4.tr (Same.x (d := d) sS)
      have F5 := F4.same sS
      generalize upd H4 S (.lst out) = H5 at eS hS s5 F5 ⊢
      have ol : out.length = (srt ts).length := hS.length
      have sl : (srt ts).length ≤ 10 := by rw [srt_length]; omega
      refine ⟨_, rfl, (trees : Int), rfl, by omega, by omega, fun D nD => lc_rel (K := K) walk_range (fun _ (_ : Tup Int) => True) nD (by omega) (fun _ _ => trivial) ?_ ?_⟩
      · rintro i x H6 H7 Ky Kn hi s6 ⟨rfl, rfl⟩ ky
        refine ⟨rfl, _, rfl, S, _, rfl, .inl (SqL.of (s6 _ _ eS)), (out.length : Int), rfl, by omega, by omega, fun D2 nD2 => lc_data (K := K) walk_range (fun (j : Nat) => ((srt ts)[j]?.filter fun t => decide (t.c = 0 + (i : Int))).map fun _ => (j : Int)) nD2 (by omega) (fun _ _ => trivial) ?_ ?_⟩
        · rintro j y H8 H9 Ky2 Kn2 hj s8 ⟨rfl, rfl⟩ k1 k2
          have hj : j < out.length := hj
          have g : (srt ts)[j]? = some (srt ts)[j] := List.getElem?_eq_getElem (by omega)
          generalize (srt ts)[j] = t at g
          refine ⟨rfl, _, rfl, _, rfl, srt ts, j, t, is_lst (SqL.of (s8 _ _ (s6 _ _ eS))) ((hS.same s6).same s8), congrArg V.int (by omega), g, fun u hu => ?_⟩
          refine ⟨t, hu, rfl, fun u2 hu2 => ?_⟩
          obtain rfl := hu2.int
          refine ⟨_, rfl, rfl, _, rfl, ?_⟩
          by_cases c : t.c = 0 + (i : Int)
          · rw [show decide (V.int t.c = V.int (0 + (i : Int))) = true from decide_eq_true (by rw [c])]
            refine ⟨_, rfl, k1 _ (j : Int) _ (same_refl _) (by rw [g]; simp only [Option.filter, decide_eq_true c]; rfl) ?_⟩
            show Is K _ (.int (0 + (j : Int))) (j : Int)
            rw [show (0 : Int) + (j : Int) = (j : Int) by omega]
            exact is_int _
          · rw [show decide (V.int t.c = V.int (0 + (i : Int))) = false from decide_eq_false fun e => c (by injection e)]
            exact k2 _ (same_refl _) (by rw [g]; simp only [Option.filter, decide_eq_false c]; rfl)
        · intro H8 zs s8 e8 hz
          exact ⟨D2, zs, rfl, .inl ⟨SqL.of e8, fun p2 np2 => ky _ (Tup.mk _) _ (same_tr s8 (same_new np2)) trivial (is_tup (SqT.of upd_same) (hz.same (same_new np2)))⟩⟩
      intro H6 ys bs s6 e6 h6 l6 _
      have eS6 := s6 _ _ eS
      refine ⟨_, rfl, _, rfl, S, rfl, ⟨_, SqL.of eS6⟩, fun D3 nD3 => lc_data (K := K) walk_list (fun (j : Nat) => (srt ts)[j]?.map fun t => (t.a, t.b)) nD3 (by omega) (fun H7 s7 => SqL.of (s7 _ _ eS6)) ?_ ?_⟩
      · rintro j y H7 H8 Ky Kn hj s7 ⟨rfl, hy⟩ k1 k2
        obtain ⟨t, ht1, ht2⟩ := ((hS.same s6).same s7).at hy
        refine ⟨rfl, _, rfl, t, ht2, rfl, fun u hu => ?_⟩
        obtain rfl := hu.str
        refine ⟨_, rfl, t, ht2, rfl, fun u2 hu2 => ?_⟩
        obtain rfl := hu2.str
        exact ⟨by show 2 ≤ sizeLine; decide, fun p np => k1 _ (t.a, t.b) _ (same_new np) (by rw [ht1]; rfl) (is_pair (SqT.of upd_same) (is_str _) (is_str _))⟩
      intro H7 zs s7 e7 hz
      rw [ol, fm_map] at hz
      refine ⟨D3, zs, rfl, .inl ⟨SqL.of e7, fun p1 np1 => ⟨by show 2 ≤ sizeLine; decide, fun p2 np2 => ?_⟩⟩⟩
      have t1 := same_new (o := .tup zs) np1
      have t2 := same_new (o := .tup [.ref ha, .ref p1]) np2
      have s57 := same_tr s6 s7
      have s59 := same_tr s57 (same_tr t1 t2)
      have e69 := same_tr s7 (same_tr t1 t2)
      refine ⟨_, rfl, _, rfl, D, ys, rfl, .inl ⟨SqL.of (e69 _ _ e6), fun p3 np3 => ⟨by show 3 ≤ sizeLine; decide, fun p4 np4 => ?_⟩⟩⟩
      have t34 := same_tr (same_new (o := .tup ys) np3) (same_new (o := .tup [.ref p2, .str r, .ref p3]) np4)
      have sAll := same_tr s59 t34
      have sX : SameX d H (upd (upd (upd (upd H7 p1 (.tup zs)) p2 (.tup [.ref ha, .ref p1])) p3 (.tup ys)) p4 (.tup [.ref p2, .str r, .ref p3])) := s01.tr (s5.tr (Same.x sAll))
      have hhE := hh.keep (F1.keep (s5.tr (Same.x (d := d) s59)))
      have hW : Is K (upd (upd H7 p1 (.tup zs)) p2 (.tup [.ref ha, .ref p1])) (.ref p1) (Tup.mk ((srt ts).map fun t => (t.a, t.b))) := is_tup (sqT_same t2 (SqT.of upd_same)) (hz.same (same_tr t1 t2))
      refine q p4 (.ref p2) (.ref p3) _ hs ((srt ts).map fun t => (t.a, t.b)) r sX (F5.same sAll) (SqT.of upd_same) ((is_pair (SqT.of upd_same) hhE hW).same t34) ?_ hrm (by rw [List.length_map]; omega)
      refine ⟨(fun e => by rw [e] at hrm; cases hrm), nm, up, by omega, fun wr hw => ?_, t3_up (srt_up ts), by rw [List.length_map]; omega⟩
      obtain ⟨t, ht, rfl⟩ := List.mem_map.mp hw
      exact tok t (srt_mem.mp ht)
end
end K86

end

section
set_option Elab.async false
set_option linter.all false
set_option maxRecDepth 100000
set_option maxHeartbeats 2000000
/-! The walks of the law: the network that it draws. -/
namespace K86
open PySem PySem.Spec PyProof.Rows L2
open PySem.W (Datum DatumOrd Tup T3 T4 Holds HoldAll)
section
variable {P : Program} {w : World} {K : PySem.W.Frag} {mg : Str → Option Value} {base : Heap} {f : Addr} {fd : FuncData}
/-- L_net at its for -/
def NetP (K : PySem.W.Frag) (H1 : Hp) (d la : Addr) (ns : List Int) (many : Nat) (hv : V) (r : Str) (hs : List Str) (Fd : Addr) (i : Nat) (σ : L2.St) (H2 : Hp) : Prop :=
  ∃ (o6 o7 o8 : Option V) (fv : List V) (ts : List (Str × Str)),
    σ = [some (.ref d), some (.int (many : Int)), none, some hv, some (.str r), some (.ref Fd), o6, o7, o8] ∧
    SameX d H1 H2 ∧ Feed K H2 d la ns ∧ H2 Fd = some (.lst fv) ∧ IsAll K H2 fv ts ∧ (∀ t ∈ ts, t.1 ∈ hs ∧ t.2 ∈ hs ∧ t.1 ≠ t.2) ∧ ts.length ≤ i
def pr_L_net (K : PySem.W.Frag) : Pr := pr1 fun v H Q => ∃ (d la : Addr) (ns : List Int), v = .ref d ∧ Feed K H d la ns ∧
  ∀ u H' hs ws r, SameX d H H' → Feed K H' d la ns → Is K H' u (net hs ws, r) → NetOk hs ws → r ∈ hs → ws.length ≤ 60 → Q u H'
theorem sc_L_net : FnScope n_L_net p_L_net (defScope s_L_net) := ⟨rfl, rfl, rfl, by decide +kernel, rfl, by decide +kernel, by decide +kernel⟩
theorem L_net_ok (m : Bt mg) (c_L_draw : Cal P w K mg base 1 "_law_draw" [] (pr_L_draw K)) (c_L_grown : Cal P w K mg base 3 "_law_grown" [] (pr_L_grown K)) (c_L_names : Cal P w K mg base 2 "_law_names" [] (pr_L_names K)) (D : Dfn K mg "_law_net" s_L_net [] f fd) : Cal P w K mg base 4 "_law_net" [] (pr_L_net K) := by
  refine D.cal sc_L_net (fun vs H Q h => len1 h) (fun _ _ _ _ _ _ us hl => match us, hl with | [_], _ => rfl) fun cdv A outer s H vs Q hr h => ?_
  obtain ⟨_, rfl, d, la, ns, rfl, F0, q⟩ := inv1 h
  refine ⟨_, pss_cons (ps_set (i := 1) sc_L_net.nd rfl (Or.inl rfl) (pe_op op_add pe_int (p_call c_L_draw hr (pa_cons (pv 0) (pa_cons pe_int pa_nil)))))
    (pss_cons (ps_if (pw_or (pt_cmpR op_eq (pv 1) pe_int (nomark _)) (pw_or1 (pt_cmpR op_eq (p_call c_L_draw hr (pa_cons (pv 0) (pa_cons pe_int pa_nil))) pe_int (nomark _)))).pt
      (pss_cons (ps_set (i := 2) sc_L_net.nd rfl (Or.inl rfl) (p_call c_L_grown hr (pa_cons (pv 0) (pa_cons (pv 1) (pa_cons (pe_op op_add pe_int (p_call c_L_draw hr (pa_cons (pv 0) (pa_cons pe_int pa_nil)))) (pa_cons pe_int pa_nil))))))
      (pss_one (ps_ret (pe_tup (pa_cons (pe_ix ix_tup (pv 2) pe_int (fun _ _ => rfl)) (pa_cons (pe_ix ix_tup (pv 2) pe_int (fun _ _ => rfl)) pa_nil)))))) pss_nil)
    (pss_cons (ps_asg (p_call c_L_names hr (pa_cons (pv 0) (pa_cons (pv 1) pa_nil))) (pg_tup rfl (pgs_cons (pg_name (i := 3) sc_L_net.nd rfl (.inl rfl)) (pgs_cons (pg_name (i := 4) sc_L_net.nd rfl (.inl rfl)) pgs_nil))))
    (pss_cons (ps_set (i := 5) sc_L_net.nd rfl (Or.inl rfl) (pe_lst pa_nil))
    (pss_cons (ps_for PassesOwn.never rfl (pi_range1 rfl m.range (pa_cons (p_call c_L_draw hr (pa_cons (pv 0) (pa_cons pe_int pa_nil))) pa_nil)) (pg_name (i := 6) sc_L_net.nd rfl (.inl rfl))
      (pss_cons (ps_par (i := 7) (j := 8) rfl sc_L_net.nd rfl rfl (by decide) rfl rfl (pa_cons (p_call c_L_draw hr (pa_cons (pv 0) (pa_cons (pv 1) pa_nil))) (pa_cons (pe_op op_add pe_int (p_call c_L_draw hr (pa_cons (pv 0) (pa_cons (pe_op op_sub (pv 1) pe_int) pa_nil)))) pa_nil)) rfl)
      (pss_one (ps_expr (p_app (pv 5) (pa_cons (pe_tup (pa_cons (pe_ix (ix_atT (α := Str)) (pv 3) (pv 7) (fun _ _ => rfl)) (pa_cons (pe_ix (ix_atT (α := Str)) (pv 3) (pe_op op_mod (p_int m (pa_cons (pe_op op_add (pv 7) (pv 8)) pa_nil)) (pv 1)) (fun _ _ => rfl)) pa_nil))) pa_nil))))))
    (pss_one (ps_ret (pe_tup (pa_cons (pe_tup (pa_cons (pv 3) (pa_cons (p_tuple m call_tuple_of (pa_cons (p_sorted m (cr_srtT (α := Str × Str) hr.u) (pa_cons (pv 5) pa_nil)) pa_nil)) pa_nil))) (pa_cons (pv 4) pa_nil))))))))), ?_⟩
  refine ⟨_, rfl, d, 4, la, ns, rfl, rfl, by omega, by omega, F0, fun x0 H1 hx0 s1 F1 => ?_⟩
  refine ⟨_, _, rfl, rfl, ?_⟩
  obtain ⟨many, em⟩ : ∃ many : Nat, many = 1 + x0 := ⟨_, rfl⟩
  have m0 : 0 < many := by omega
  have m4 : many ≤ 4 := by omega
  rw [show (fun i j => V.int (i + j)) (1 : Int) (x0 : Int) = V.int (many : Int) from congrArg V.int (by omega)]
  have fin : ∀ a u1 u3 H' hs ws r, SameX d H H' → Feed K H' d la ns → SqT K H' a [u1, .str r, u3] → Is K H' u1 (net hs ws) → NetOk hs ws → r ∈ hs → ws.length ≤ 60 → ∀ p, H' p = none → Q (.ref p) (upd H' p (.tup [u1, .str r])) := fun a u1 u3 H' hs ws r s F _ hn ok hr hl p np =>
    q _ _ hs ws r (s.tr (Same.x (same_new np))) (F.same (same_new np)) (is_pair (SqT.of upd_same) (hn.same (same_new np)) (is_str _)) ok hr hl
  refine ⟨_, rfl, rfl, _, rfl, ?_⟩
  cases c1 : decide (V.int (many : Int) = V.int 1) with
  | true =>
    refine ⟨_, rfl, _, rfl, _, rfl, d, 2, la, ns, rfl, rfl, by omega, by omega, F1, fun x H3 hx s3 F3 => ?_⟩
    refine ⟨_, _, rfl, rfl, d, many, 1 + x, 1, la, ns, rfl, rfl, congrArg V.int (by omega), rfl, m0, m4, by omega, by omega, F3, fun a u1 u3 H4 hs ws r s4 F4 aq hn ok hrm hl => ?_⟩
    exact ⟨_, rfl, a, _, 0, u1, rfl, rfl, aq, at0, _, rfl, a, _, 1, .str r, rfl, rfl, aq, at1, by show 2 ≤ sizeLine; decide, fun p np => fin a u1 u3 H4 hs ws r (s1.tr (s3.tr s4)) F4 aq hn ok hrm hl p np⟩
  | false =>
    have m2 : many ≠ 1 := fun e => by
      rw [e] at c1
      exact absurd (decide_eq_true (p := V.int ((1 : Nat) : Int) = V.int 1) rfl) (by rw [c1]; intro h; cases h)
    refine ⟨_, rfl, d, 3, la, ns, rfl, rfl, by omega, by omega, F1, fun x1 H2 hx1 s2 F2 => ?_⟩
    have s12 := s1.tr s2
    refine ⟨rfl, _, rfl, ?_⟩
    cases c2 : decide (V.int (x1 : Int) = V.int 0) with
    | true =>
      refine ⟨_, rfl, _, rfl, _, rfl, d, 2, la, ns, rfl, rfl, by omega, by omega, F2, fun x H3 hx s3 F3 => ?_⟩
      refine ⟨_, _, rfl, rfl, d, many, 1 + x, 1, la, ns, rfl, rfl, congrArg V.int (by omega), rfl, m0, m4, by omega, by omega, F3, fun a u1 u3 H4 hs ws r s4 F4 aq hn ok hrm hl => ?_⟩
      exact ⟨_, rfl, a, _, 0, u1, rfl, rfl, aq, at0, _, rfl, a, _, 1, .str r, rfl, rfl, aq, at1, by show 2 ≤ sizeLine; decide, fun p np => fin a u1 u3 H4 hs ws r (s12.tr (s3.tr s4)) F4 aq hn ok hrm hl p np⟩
    | false =>
      refine ⟨_, rfl, _, rfl, d, many, la, ns, rfl, rfl, m0, by omega, F2, fun u H3 hs r s3 F3 hu hlen up nm hrm => ?_⟩
      have s03 := s12.tr s3
      have ⟨ua, h1, h2, eu, uq, hh, hr2⟩ := hu.pair
      subst eu
      obtain rfl := hr2.str
      refine ⟨ua, _, rfl, uq, rfl, _, _, rfl, _, _, rfl, rfl, ?_⟩
      refine ⟨Nat.zero_le _, fun Fd nF => ?_⟩
      have sF := same_new (o := .lst []) nF
      have hNd := F3.free nF
      have F3' := F3.same sF
      refine ⟨_, rfl, d, 8, la, ns, rfl, rfl, by omega, by omega, F3', fun n H4 hn4 s4 F4 => ?_⟩
      refine ⟨(n : Int), rfl, by omega, by omega, for_range (lo := 0) (NetP K H3 d la ns many h1 r hs Fd) ⟨none, none, none, [], [], rfl, (Same.x sF).tr s4, F4, s4 _ _ hNd upd_same, .nil, fun t ht => (List.not_mem_nil ht).elim, Nat.le_refl _⟩ ?_ ?_⟩
      · rintro i σ H5 hi ⟨o6, o7, o8, fv, ts, rfl, s5, F5, eF5, hf5, tok, tl⟩
        have hi : i < n := hi
        refine ⟨_, rfl, _, rfl, d, many, la, ns, rfl, rfl, m0, by omega, F5, fun y1 H6 hy1 s6 F6 => ?_⟩
        refine ⟨_, rfl, _, rfl, _, _, rfl, rfl, d, many - 1, la, ns, rfl, congrArg V.int (by omega), by omega, by omega, F6, fun y2 H7 hy2 s7 F7 => ?_⟩
        refine ⟨_, _, rfl, rfl, _, _, rfl, ?_⟩
        have s57 := s6.tr s7
        have eF7 := s57 _ _ hNd eF5
        have hf7 := hf5.keep (F5.keep s57)
        have hh7 := hh.keep (F3.keep (s5.tr s57))
        obtain ⟨j1, j2⟩ := turn_ne m4 hy1 hy2
        have g1 : hs[y1]? = some hs[y1] := List.getElem?_eq_getElem (by omega)
        have g2 : hs[(y1 + (1 + y2)) % many]? = some hs[(y1 + (1 + y2)) % many] := List.getElem?_eq_getElem (by omega)
        have gne : hs[y1] ≠ hs[(y1 + (1 + y2)) % many] := fun e => by
          have := (List.getElem?_inj (i := y1) (j := (y1 + (1 + y2)) % many) (by omega) up.nodup).mp (by rw [g1, g2, e])
          omega
        generalize hs[y1] = y at g1 gne
        generalize hs[(y1 + (1 + y2)) % many] = z at g2 gne
        refine ⟨_, rfl, .inl ⟨rfl, _, SqL.of eF7⟩, ?_⟩
        refine ⟨_, rfl, _, rfl, Tup.mk hs, y1, y, hh7, rfl, g1, fun u hu => ?_⟩
        obtain rfl := hu.str
        refine ⟨_, rfl, _, rfl, _, rfl, _, _, rfl, rfl, .inl ⟨_, rfl, _, rfl, _, _, rfl, rfl, by omega, Tup.mk hs, (y1 + (1 + y2)) % many, z, hh7, congrArg V.int (by rw [Int.natCast_emod, show ((y1 + (1 + y2) : Nat) : Int) = (y1 : Int) + (1 + (y2 : Int)) by omega]), g2, fun u2 hu2 => ?_⟩⟩
        obtain rfl := hu2.str
        refine ⟨by show 2 ≤ sizeLine; decide, fun p np => ?_⟩
        have sp := same_new (o := .tup [.str y, .str z]) np
        have lfv : fv.length = ts.length := hf5.length
        have eF8 := sp _ _ eF7
        refine ⟨Fd, _, _, rfl, rfl, eF8, by rw [sizeLine_eq]; omega, ?_⟩
        have s8 := (s5.tr s57).tr (Same.x (d := d) sp)
        have s9 : SameX d H3 (upd (upd H7 p (.tup [.str y, .str z])) Fd (.lst (fv ++ [.ref p]))) := sameX_at s8 nF
        have hi9 : IsAll K (upd H7 p (.tup [.str y, .str z])) (fv ++ [.ref p]) (ts ++ [(y, z)]) := (hf7.same sp).append (.cons (is_pair (SqT.of upd_same) (is_str _) (is_str _)) .nil)
        refine ⟨_, _, _, fv ++ [.ref p], ts ++ [(y, z)], rfl, s9, F3.on s9 (F7.same sp) (upd_ne (Ne.symm hNd)), upd_same, hi9.keep (keep_lst eF8), fun t ht => ?_, by rw [List.length_append, List.length_singleton]; omega⟩
        rcases List.mem_append.mp ht with ht | ht
        · exact tok t ht
        · rw [List.mem_singleton.mp ht]
          exact ⟨List.mem_of_getElem? g1, List.mem_of_getElem? g2, gne⟩
      · rintro σ H5 ⟨o6, o7, o8, fv, ts, rfl, s5, F5, eF5, hf5, tok, tl⟩
        have tl : ts.length ≤ n := tl
        refine ⟨_, rfl, _, rfl, Fd, fv, ts, rfl, .inl (SqL.of eF5), hf5, srtable_pair ts, fun S out nS hout => ?_⟩
        refine ⟨S, out, rfl, .inl ⟨SqL.of upd_same, fun p1 np1 => ⟨by show 2 ≤ sizeLine; decide, fun p2 np2 => ?_⟩⟩⟩
        have t0 := same_new (o := .lst out) nS
        have t1 := same_new (o := .tup out) np1
        have t2 := same_new (o := .tup [h1, .ref p1]) np2
        have t02 := same_tr t0 (same_tr t1 t2)
        refine ⟨_, rfl, by show 2 ≤ sizeLine; decide, fun p3 np3 => ?_⟩
        have t3 := same_new (o := .tup [.ref p2, .str r]) np3
        have hW : Is K _ (.ref p1) (Tup.mk (srt ts)) := is_tup (sqT_same (same_tr t2 t3) (SqT.of upd_same)) (hout.same (same_tr t0 (same_tr t1 (same_tr t2 t3))))
        have hhE := ((hh.keep (F3.keep s5)).same t02).same t3
        refine q _ _ hs (srt ts) r (s03.tr (s5.tr (Same.x (same_tr t02 t3)))) (F5.same (same_tr t02 t3)) (is_pair (SqT.of upd_same) (is_pair (sqT_same t3 (SqT.of upd_same)) hhE hW) (is_str _)) ?_ hrm (by rw [srt_length]; omega)
        exact ⟨(fun e => by rw [e] at hrm; cases hrm), nm, up, by omega, fun wr hw => tok wr (srt_mem.mp hw), srt_up ts, by rw [srt_length]; omega⟩
end
end K86

end

section
set_option Elab.async false
set_option linter.all false
set_option maxRecDepth 100000
set_option maxHeartbeats 2000000
/-! The walks of the law: lots, wires that enter, widths. -/
namespace K86
open PySem PySem.Spec PyProof.Rows L2
open PySem.W (Datum DatumOrd Tup T3 T4 Holds HoldAll)
open K86M (tlW hdW Ends subs lotsOf isIn enters cnt WideI Tree Wide pairsOf lacking ent Apart apartOf MinOf)
section
variable {X : Cx} {α : Type} [DecidableEq α] [Datum α]
/-- t + u -/
def rCatTup (K : PySem.W.Frag) (α : Type) [DecidableEq α] [Datum α] : R2 := fun x y H Q => ∃ s t : Tup α, Is K H x s ∧ Is K H y t ∧ s.items.length + t.items.length ≤ sizeLine ∧ ∀ v H', Same H H' → Is K H' v (Tup.mk (s.items ++ t.items)) → Q v H'
theorem op_catTup : OpR X (binaryOp .Add) (rCatTup X.K α) := by
  intro pins s σ H x y v u Q I rx ry h
  obtain ⟨t1, t2, h1, h2, z, q⟩ := h
  obtain ⟨a, xs, rfl, hq1, ha1⟩ := h1.tup
  obtain ⟨b, ys, rfl, hq2, ha2⟩ := h2.tup
  have l1 := ha1.length
  have l2 := ha2.length
  refine op_catA pins s σ H _ _ v u Q I rx ry ⟨a, b, xs, ys, rfl, rfl, hq1, hq2, by omega, fun e => ?_, fun _ e => ?_, fun _ _ p np => ?_⟩
  · refine q _ _ (same_refl H) (is_tup hq2 ?_)
    have : t1.items = [] := List.length_eq_zero_iff.mp (by rw [← l1, e]; rfl)
    rw [this]
    exact ha2
  · refine q _ _ (same_refl H) (is_tup hq1 ?_)
    have : t2.items = [] := List.length_eq_zero_iff.mp (by rw [← l2, e]; rfl)
    rw [this, List.append_nil]
    exact ha1
  · exact q _ _ (same_new np) (is_tup (SqT.of upd_same) ((ha1.append ha2).same (same_new np)))
end
theorem take_snoc {α : Type} {l : List α} {j : Nat} {x : α} (h : l[j]? = some x) : l.take (j + 1) = l.take j ++ [x] := by rw [List.take_add_one, h]; rfl
section
variable {P : Program} {w : World} {K : PySem.W.Frag} {mg : Str → Option Value} {base : Heap} {f : Addr} {fd : FuncData}

def pr_L_lots (K : PySem.W.Frag) : Pr := pr2 fun n x H Q => ∃ (hs : List Str) (ws : List (Str × Str)) (r : Str), Is K H n (net hs ws) ∧ NetOk hs ws ∧ x = .str r ∧ ∀ v H', Same H H' → Is K H' v (mks (lotsOf (oth hs r))) → Q v H'
theorem sc_L_lots : FnScope n_L_lots p_L_lots (defScope s_L_lots) := ⟨rfl, rfl, rfl, by decide +kernel, rfl, by decide +kernel, by decide +kernel⟩
theorem L_lots_ok (m : Bt mg) (c_L_others : Cal P w K mg base 1 "_law_others" [] (pr_L_others K)) (D : Dfn K mg "_law_lots" s_L_lots [] f fd) : Cal P w K mg base 2 "_law_lots" [] (pr_L_lots K) := by
  refine D.cal sc_L_lots (fun vs H Q h => len2 h) (fun _ _ _ _ _ _ us hl => match us, hl with | [_, _], _ => rfl) fun cdv A outer s H vs Q hr h => ?_
  obtain ⟨n, _, rfl, hs, ws, r, hn, ok, rfl, q⟩ := inv2 h
  have fh := ok.fewH
  have lol := oth_len (r := r) ok
  have ndo : (oth hs r).Nodup := ok.nd.sublist List.filter_sublist
  refine ⟨_, pss_cons (ps_set (i := 2) sc_L_lots.nd rfl (Or.inl rfl) (pe_lst (pa_cons (pe_tup pa_nil) pa_nil)))
    (pss_cons (ps_for PassesOwn.never rfl (pi_list (p_call c_L_others hr (pa_cons (pv 0) (pa_cons (pv 1) pa_nil)))) (pg_name (i := 3) sc_L_lots.nd rfl (.inr rfl))
      (pss_one (ps_set (i := 2) sc_L_lots.nd rfl (Or.inl rfl) (pe_op op_cat (pv 2) (pe_lc (own := [("_law_lot", 4)]) (g := gName 4) (tt := tYes) rfl sc_L_lots.nd (pi_list (pv 2)) (blkOk_by (N := n_L_lots) (sc := defScope s_L_lots) (by decide +kernel)) (fun _ _ _ _ _ => (pg_name (i := 4) sc_L_lots.nd rfl (.inl rfl))) (fun _ _ _ _ _ => pts_nil)
        (fun _ _ _ _ _ => pe_op (r := rCatTup K Str) op_catTup (pv 4) (pe_tup (pa_cons (pv 3) pa_nil))))))))
    (pss_one (ps_ret (pe_lc (own := [("_law_lot", 4)]) (g := gName 4) rfl sc_L_lots.nd (pi_list (pv 2)) (blkOk_by (N := n_L_lots) (sc := defScope s_L_lots) (by decide +kernel)) (fun _ _ _ _ _ => (pg_name (i := 4) sc_L_lots.nd rfl (.inl rfl)))
      (fun _ _ _ _ _ => pts_one (pt_cmpR (r := rNeT K (Tup Str)) (op_neT hr.u) (pv 4) (pe_tup pa_nil) (nomark _))) (fun _ _ _ _ _ => pv 4))))), ?_⟩
  refine ⟨Nat.zero_le _, fun p1 n1 => ⟨by show 1 ≤ sizeLine; decide, fun p2 n2 => ?_⟩⟩
  have s1 := same_new (o := .tup []) n1
  have s2 := same_new (o := .lst [.ref p1]) n2
  refine ⟨_, rfl, _, rfl, hs, ws, r, hn.same (same_tr s1 s2), rfl, by omega, fun v H1 s3 hv => ?_⟩
  obtain ⟨oa, ov, rfl, oq, oh⟩ := hv.lst
  have ol : ov.length = (oth hs r).length := oh.length
  have s02 := same_tr s1 s2
  have sub16 : ∀ j, (mks (subs ((oth hs r).take j))).length ≤ 16 := fun j => by
    unfold mks
    rw [List.length_map, K86M.subs_len]
    exact Nat.pow_le_pow_right (by decide) (Nat.le_trans (by rw [List.length_take]; omega) lol)
  refine ⟨oa, rfl, ⟨_, oq⟩, for_it walk_list (fun j σ H2 => ∃ o3 F fv, σ = [some n, some (.str r), some (.ref F), o3, none] ∧ Same H1 H2 ∧ H2 F = some (.lst fv) ∧ IsAll K H2 fv (mks (subs ((oth hs r).take j))))
    ⟨none, p2, [.ref p1], rfl, same_refl _, s3 _ _ upd_same, ((IsAll.cons (is_tup (sqT_same s2 (SqT.of upd_same)) .nil) .nil : IsAll K _ [.ref p1] (mks (subs [])))).same s3⟩ (fun j σ H2 _ ⟨_, _, _, _, s4, _⟩ => sqL_same s4 oq) ?_ ?_⟩
  · rintro j x σ H2 H3 hj ⟨o3, F, fv, rfl, s4, eF, hfv⟩ ⟨rfl, hx⟩
    obtain ⟨z, hz1, hz2⟩ := oh.at hx
    obtain rfl := hz2.str
    have l16 := sub16 j
    have fl : fv.length = (mks (subs ((oth hs r).take j))).length := hfv.length
    refine ⟨_, rfl, _, rfl, F, rfl, ⟨_, SqL.of eF⟩, fun D nD => lc_data (K := K) walk_list (fun (i : Nat) => (mks (subs ((oth hs r).take j)))[i]?.map fun t => Tup.mk (t.items ++ [z])) nD (by omega) (fun H4 s5 => SqL.of (s5 _ _ eF)) ?_ ?_⟩
    · rintro i y H4 H5 Ky Kn hi s5 ⟨rfl, hy⟩ k1 k2
      obtain ⟨t, ht1, ht2⟩ := (hfv.same s5).at hy
      have tl : t.items.length ≤ 4 := Nat.le_trans (mks_len ((List.take_sublist j _).nodup ndo) (List.mem_of_getElem? ht1)) (Nat.le_trans (by rw [List.length_take]; omega) lol)
      refine ⟨rfl, _, rfl, _, rfl, by show 1 ≤ sizeLine; decide, fun p np => ?_⟩
      refine ⟨t, Tup.mk [z], ht2.same (same_new np), is_tup (SqT.of upd_same) (.cons (is_str z) .nil), by show t.items.length + 1 ≤ sizeLine; rw [sizeLine_eq]; omega, fun u H6 s6 hu => ?_⟩
      exact k1 _ (Tup.mk (t.items ++ [z])) _ (same_tr (same_new np) s6) (by rw [ht1]; rfl) hu
    · intro H4 ys s5 e5 hys
      rw [fl, fm_map] at hys
      have yl := hys.length
      rw [List.length_map] at yl
      refine ⟨F, D, fv, ys, rfl, rfl, s5 _ _ eF, e5, by rw [sizeLine_eq]; omega, fun p np => ?_⟩
      refine ⟨_, p, fv ++ ys, rfl, same_tr s4 (same_tr s5 (same_new np)), upd_same, ?_⟩
      rw [take_snoc hz1, K86M.subs_snoc]
      have := ((hfv.same s5).append hys).same (same_new (o := .lst (fv ++ ys)) np)
      unfold mks at this ⊢
      rw [List.map_map] at this
      rw [List.map_append, List.map_map]
      exact this
  · rintro σ H2 ⟨o3, F, fv, rfl, s4, eF, hfv⟩
    rw [ol, List.take_length] at hfv
    have l16 := sub16 (oth hs r).length
    rw [List.take_length] at l16
    have fl : fv.length = (mks (subs (oth hs r))).length := hfv.length
    refine ⟨_, rfl, F, rfl, ⟨_, SqL.of eF⟩, fun D nD => lc_data (K := K) walk_list (fun (i : Nat) => ((mks (subs (oth hs r)))[i]?.filter fun t => decide (t ≠ Tup.mk [])).map id) nD (by omega) (fun H4 s5 => SqL.of (s5 _ _ eF)) ?_ ?_⟩
    · rintro i y H4 H5 Ky Kn hi s5 ⟨rfl, hy⟩ k1 k2
      obtain ⟨t, ht1, ht2⟩ := (hfv.same s5).at hy
      refine ⟨rfl, _, rfl, Nat.zero_le _, fun p np => ?_⟩
      refine ⟨t, Tup.mk [], ht2.same (same_new np), is_tup (SqT.of upd_same) .nil, _, rfl, ?_⟩
      by_cases c : t = Tup.mk []
      · rw [decide_eq_false (not_not_intro c)]
        exact k2 _ (same_new np) (by rw [ht1]; simp only [Option.filter, decide_eq_false (not_not_intro c)]; rfl)
      · rw [decide_eq_true c]
        exact ⟨_, rfl, k1 _ t _ (same_new np) (by rw [ht1]; simp only [Option.filter, decide_eq_true c]; rfl) (ht2.same (same_new np))⟩
    · intro H4 ys s5 e5 hys
      rw [fl, fm_filter, List.map_id] at hys
      refine q _ _ (same_tr s02 (same_tr s3 (same_tr s4 s5))) (is_lst (SqL.of e5) ?_)
      unfold K86M.lotsOf
      have ef : ((mks (subs (oth hs r))).filter fun t => decide (t ≠ Tup.mk [])) = mks ((subs (oth hs r)).filter fun l => decide (l ≠ [])) := by
        unfold mks
        rw [List.filter_map]
        congr 1
        refine List.filter_congr fun l _ => ?_
        show decide (Tup.mk l ≠ Tup.mk []) = decide (l ≠ [])
        rw [decide_eq_decide]
        exact not_congr ⟨fun e => by injection e, fun e => by rw [e]⟩
      rw [← ef]
      exact hys

def pr_L_entering (K : PySem.W.Frag) : Pr := pr2 fun n l H Q => ∃ (hs : List Str) (ws : List (Str × Str)) (lot : List Str), Is K H n (net hs ws) ∧ Is K H l (Tup.mk lot) ∧ ws.length ≤ 1000 ∧
  ∀ v H' (is : List Int), Same H H' → Is K H' v (Tup.mk is) → is.length = ent (isIn lot) ws → Q v H'
theorem sc_L_entering : FnScope n_L_entering p_L_entering (defScope s_L_entering) := ⟨rfl, rfl, rfl, by decide +kernel, rfl, by decide +kernel, by decide +kernel⟩
theorem L_entering_ok (m : Bt mg)  (D : Dfn K mg "_law_entering" s_L_entering [] f fd) : Cal P w K mg base 1 "_law_entering" [] (pr_L_entering K) := by
  refine D.cal sc_L_entering (fun vs H Q h => len2 h) (fun _ _ _ _ _ _ us hl => match us, hl with | [_, _], _ => rfl) fun cdv A outer s H vs Q hr h => ?_
  obtain ⟨n, lv, rfl, hs, ws, lot, hn, hl, wz, q⟩ := inv2 h
  refine ⟨_, pss_cons (ps_set (i := 2) sc_L_entering.nd rfl (Or.inl rfl) (pe_lst pa_nil))
    (pss_cons (ps_for PassesOwn.never rfl (pi_range1 rfl m.range (pa_cons (p_len m (pa_cons (pe_ix (r := rSnd K (Tup Str) (Tup (Str × Str))) ix_snd (pv 0) pe_int (fun _ _ => rfl)) pa_nil)) pa_nil)) (pg_name (i := 3) sc_L_entering.nd rfl (.inl rfl))
      (pss_one (ps_if (pw_and (pt_cmpR (op_mem hr.u) (pe_ix (r := rSnd K Str Str) ix_snd (pe_ix (ix_atT (α := Str × Str)) (pe_ix (r := rSnd K (Tup Str) (Tup (Str × Str))) ix_snd (pv 0) pe_int (fun _ _ => rfl)) (pv 3) (fun _ _ => rfl)) pe_int (fun _ _ => rfl)) (pv 1) rfl) (pw_and1 (pt_cmpR (op_nmem hr.u) (pe_ix (r := rFst K Str Str) ix_fst (pe_ix (ix_atT (α := Str × Str)) (pe_ix (r := rSnd K (Tup Str) (Tup (Str × Str))) ix_snd (pv 0) pe_int (fun _ _ => rfl)) (pv 3) (fun _ _ => rfl)) pe_int (fun _ _ => rfl)) (pv 1) rfl))).pt
        (pss_one (ps_expr (p_app (pv 2) (pa_cons (pv 3) pa_nil)))) pss_nil)))
    (pss_one (ps_ret (p_tuple m call_tuple_of (pa_cons (pv 2) pa_nil))))), ?_⟩
  refine ⟨Nat.zero_le _, fun F nF => ?_⟩
  have sF := same_new (o := .lst []) nF
  refine ⟨_, rfl, _, hn.same sF, rfl, fun u hu => ?_⟩
  obtain ⟨wa, wv, rfl, wq, wh⟩ := hu.tup
  have wl : wv.length = ws.length := wh.length
  refine ⟨wa, wv, rfl, .inr wq, (wv.length : Int), rfl, by omega, by omega, for_range (lo := 0) (fun i σ H1 => ∃ o3 is, σ = [some n, some lv, some (.ref F), o3] ∧ Same H H1 ∧ H1 F = some (.lst (is.map V.int)) ∧ is.length = ent (isIn lot) (ws.take i))
    ⟨none, [], rfl, sF, upd_same, rfl⟩ ?_ ?_⟩
  · rintro i σ H1 hi ⟨o3, is, rfl, s1, eF, il⟩
    have hi : i < wv.length := hi
    have hi' : i < ws.length := by omega
    have g := K86M.at_tlhd hi'
    have has : ∀ {H2}, Same H H2 → ∀ z, Has K H2 lv z (isIn lot z) := fun s z => .inl ⟨_, hl.same s, rfl⟩
    have est : ent (isIn lot) (ws.take (i + 1)) = ent (isIn lot) (ws.take i) + (if enters (isIn lot) (tlW ws i, hdW ws i) = true then 1 else 0) := by
      rw [take_snoc g, K86M.ent_append]
      congr 1
      rw [K86M.ent_cons]
      exact Nat.zero_add _
    have ib : is.length ≤ i := by
      rw [il]
      unfold K86M.ent
      exact Nat.le_trans List.countP_le_length (by rw [List.length_take]; omega)
    refine ⟨_, rfl, _, hn.same s1, rfl, fun nw hnw => ?_⟩
    refine ⟨_, rfl, _, i, _, hnw, congrArg V.int (by omega), g, fun u hu => ?_⟩
    refine ⟨_, hu, rfl, fun u2 hu2 => ?_⟩
    obtain rfl := hu2.str
    refine ⟨_, rfl, _, _, rfl, has s1 _, _, rfl, ?_⟩
    unfold K86M.enters at est
    cases c1 : isIn lot (hdW ws i) with
    | false =>
      rw [c1] at est
      exact ⟨_, is, rfl, s1, eF, by rw [est, il]; rfl⟩
    | true =>
      refine ⟨_, rfl, _, hn.same s1, rfl, fun nw hnw => ?_⟩
      refine ⟨_, rfl, _, i, _, hnw, congrArg V.int (by omega), g, fun u hu => ?_⟩
      refine ⟨_, hu, rfl, fun u2 hu2 => ?_⟩
      obtain rfl := hu2.str
      refine ⟨_, rfl, _, _, rfl, has s1 _, _, rfl, ?_⟩
      cases c2 : isIn lot (tlW ws i) with
      | true =>
        rw [c1, c2] at est
        exact ⟨_, is, rfl, s1, eF, by rw [est, il]; rfl⟩
      | false =>
        rw [c1, c2] at est
        refine ⟨_, rfl, .inl ⟨rfl, _, SqL.of eF⟩, _, rfl, F, _, _, rfl, rfl, eF, by rw [List.length_map, sizeLine_eq]; omega, ?_⟩
        refine ⟨_, is ++ [0 + (i : Int)], rfl, same_at s1 nF, by rw [upd_same, List.map_append]; rfl, by rw [est, List.length_append, il]; rfl⟩
  · rintro σ H1 ⟨o3, is, rfl, s1, eF, il⟩
    have il : is.length = ent (isIn lot) (ws.take wv.length) := il
    rw [wl, List.take_length] at il
    exact ⟨_, rfl, F, _, rfl, .inl ⟨SqL.of eF, fun p np => q _ _ is (same_tr s1 (same_new np)) (is_tup (SqT.of upd_same) (ints_isAll is)) il⟩⟩
end
end K86

end

section
set_option Elab.async false
set_option linter.all false
set_option maxRecDepth 100000
set_option maxHeartbeats 2000000
/-! The walks of the law: widths, what lacks, lots apart. -/
namespace K86
open PySem PySem.Spec PyProof.Rows L2
open PySem.W (Datum DatumOrd Tup T3 T4 Holds HoldAll)
open K86M (tlW hdW Ends subs lotsOf isIn enters cnt WideI Tree Wide pairsOf lacking ent Apart apartOf MinOf freeOf)
/-- the least of the lots' counts is the narrowest house's -/
theorem narrow_lots {hs : List Str} {ws : List (Str × Str)} {r : Str} {m : Nat} (nd : hs.Nodup) (he : Ends hs ws) (h1 : ∃ lot ∈ lotsOf (oth hs r), ent (isIn lot) ws = m) (h2 : ∀ lot ∈ lotsOf (oth hs r), m ≤ ent (isIn lot) ws) : Narrow hs ws r m := by
  have ex : ∀ (S : Str → Bool) (h : Str), S r = false → h ∈ oth hs r → S h = true → m ≤ ent S ws := fun S h sr hh sh => by
    have := h2 _ (lot_mem nd sr (mem_oth.mp hh).1 sh)
    have e : ent (isIn ((oth hs r).filter S)) ws = ent S ws := K86M.ent_congr fun w hw => ⟨lot_in sr (he w hw).1, lot_in sr (he w hw).2⟩
    rw [e] at this
    exact this
  obtain ⟨lot, hl, el⟩ := h1
  obtain ⟨ro, x, hx, xl⟩ := lot_out nd hl
  have xr : x ≠ r := fun e => by rw [e, ro] at xl; cases xl
  have xo : x ∈ oth hs r := mem_oth.mpr ⟨hx, xr⟩
  refine ⟨⟨x, xo, ⟨⟨isIn lot, ro, xl, el⟩, fun T tr th => ex T x tr xo th⟩⟩, fun h hh m' M => ?_⟩
  obtain ⟨S, sr, sh, es⟩ := M.ex
  rw [← es]
  exact ex S h sr hh sh
theorem lots_nil {hs : List Str} {r : Str} (nd : hs.Nodup) : lotsOf (oth hs r) = [] ↔ oth hs r = [] := by
  constructor
  · intro h
    cases e : oth hs r with
    | nil => rfl
    | cons x l =>
      exfalso
      have hx : x ∈ oth hs r := by rw [e]; exact List.mem_cons_self ..
      have := lot_mem (r := r) (S := fun y => decide (y = x)) nd (decide_eq_false fun z => (mem_oth.mp hx).2 z.symm) (mem_oth.mp hx).1 (decide_eq_true rfl)
      rw [h] at this
      cases this
  · intro h
    rw [h]
    rfl
/-- lots as the law makes them -/
def mkk (F : List (List Str)) : Tup (Tup Str) := Tup.mk (mks F)
theorem mks_flat (F : List (List Str)) : ((mks F).map (·.items)) = F := by
  unfold mks
  rw [List.map_map]
  exact List.map_id F
theorem mks_snoc (F : List (List Str)) (lot : List Str) : mks (F ++ [lot]) = mks F ++ [Tup.mk lot] := List.map_append
theorem apart_sub {lots : List (List Str)} {F : List (List Str)} (h : F ∈ apartOf lots) (nd : lots.Nodup) (ne : ∀ l ∈ lots, l ≠ []) : F.length ≤ lots.length := by
  obtain ⟨A, sub⟩ := K86M.apart_sound lots F h
  refine List.Nodup.length_le_of_subset ?_ sub
  unfold K86M.Apart at A
  rw [List.Nodup]
  refine A.imp_of_mem fun {a b} ha hb hab e => ?_
  subst e
  cases e : a with
  | nil => exact ne a (sub a ha) e
  | cons x l =>
    have hx : x ∈ a := by rw [e]; exact List.mem_cons_self ..
    exact hab x hx hx
theorem flat_len : ∀ {F : List (List Str)}, (∀ l ∈ F, l.length ≤ 4) → F.flatten.length ≤ 4 * F.length
  | [], _ => Nat.zero_le _
  | l :: F, h => by
    have h1 := flat_len (F := F) fun l hl => h l (List.mem_cons_of_mem _ hl)
    have h2 := h l (List.mem_cons_self ..)
    rw [List.flatten_cons, List.length_append, List.length_cons]
    omega
section
variable {P : Program} {w : World} {K : PySem.W.Frag} {mg : Str → Option Value} {base : Heap} {f : Addr} {fd : FuncData}

def pr_L_width (K : PySem.W.Frag) : Pr := pr2 fun n x H Q => ∃ (hs : List Str) (ws : List (Str × Str)) (r : Str), Is K H n (net hs ws) ∧ NetOk hs ws ∧ x = .str r ∧
  (oth hs r = [] → ∀ H', Same H H' → Q .non H') ∧ ∀ H' (mm : Nat), Same H H' → Narrow hs ws r mm → Q (.int (mm : Int)) H'
theorem sc_L_width : FnScope n_L_width p_L_width (defScope s_L_width) := ⟨rfl, rfl, rfl, by decide +kernel, rfl, by decide +kernel, by decide +kernel⟩
theorem L_width_ok (m : Bt mg) (c_L_lots : Cal P w K mg base 2 "_law_lots" [] (pr_L_lots K)) (c_L_entering : Cal P w K mg base 1 "_law_entering" [] (pr_L_entering K)) (D : Dfn K mg "_law_width" s_L_width [] f fd) : Cal P w K mg base 3 "_law_width" [] (pr_L_width K) := by
  refine D.cal sc_L_width (fun vs H Q h => len2 h) (fun _ _ _ _ _ _ us hl => match us, hl with | [_, _], _ => rfl) fun cdv A outer s H vs Q hr h => ?_
  obtain ⟨n, _, rfl, hs, ws, r, hn, ok, rfl, q0, q1⟩ := inv2 h
  have fw := ok.fewW
  have lol := oth_len (r := r) ok
  have zlots : (lotsOf (oth hs r)).length ≤ 16 := Nat.le_trans (K86M.lotsOf_len _) (Nat.pow_le_pow_right (by decide) lol)
  refine ⟨_, pss_cons (ps_setLc (i := 2) (own := [("_law_lot", 3)]) (g := gName 3) (tt := tYes) rfl sc_L_width.nd rfl rfl (sw_true rfl rfl rfl (by decide +kernel)) (pi_list (p_call c_L_lots hr (pa_cons (pv 0) (pa_cons (pv 1) pa_nil)))) (blkOk_by (N := n_L_width) (sc := defScope s_L_width) (by decide +kernel)) (fun _ _ _ _ _ => (pg_name (i := 3) sc_L_width.nd rfl (.inl rfl))) (fun _ _ _ _ _ => pts_nil)
      (fun _ _ _ _ _ => p_lenK K m (pa_cons (p_call c_L_entering hr (pa_cons (pv 0) (pa_cons (pv 3) pa_nil))) pa_nil)))
    (pss_one (ps_ret (pe_ifExp (pt_cmpR (op_neT (α := List Int) hr.u) (pv 2) (pe_lst pa_nil) (nomark _)) (p_min m (cr_minT (α := Int) rfl hr.u) (pa_cons (pv 2) pa_nil)) pe_non))), ?_⟩
  refine ⟨_, rfl, _, rfl, hs, ws, r, hn, ok, rfl, fun v H1 s1 hv => ?_⟩
  obtain ⟨la, lv, rfl, lq, lh⟩ := hv.lst
  have ll : lv.length = (lotsOf (oth hs r)).length := by
    rw [lh.length]
    exact List.length_map ..
  refine ⟨la, rfl, ⟨_, lq⟩, fun D nD => lc_data (K := K) walk_list (fun (j : Nat) => (lotsOf (oth hs r))[j]?.map fun lot => (ent (isIn lot) ws : Int)) nD (by omega) (fun H2 s2 => sqL_same s2 lq) ?_ ?_⟩
  · rintro j x H2 H3 Ky Kn hj s2 ⟨rfl, hx⟩ k1 k2
    obtain ⟨t, ht1, ht2⟩ := (lh.same s2).at hx
    obtain ⟨lot, hlot, rfl⟩ : ∃ lot, (lotsOf (oth hs r))[j]? = some lot ∧ Tup.mk lot = t := by
      unfold mks at ht1
      rw [List.getElem?_map] at ht1
      cases e : (lotsOf (oth hs r))[j]? with
      | none => rw [e] at ht1; cases ht1
      | some lot => rw [e] at ht1; exact ⟨lot, rfl, Option.some.inj ht1⟩
    refine ⟨rfl, _, rfl, _, rfl, hs, ws, lot, hn.same (same_tr s1 s2), ht2, by omega, fun u H4 is s4 hu il => ?_⟩
    obtain ⟨ia, iv, rfl, iq, ih⟩ := hu.tup
    have ivl : iv.length = is.length := ih.length
    refine ⟨ia, iv, rfl, .inr iq, ?_⟩
    rw [ivl, il]
    exact k1 _ (ent (isIn lot) ws : Int) _ s4 (by rw [hlot]; rfl) (is_int _)
  intro H2 ys s2 e2 hy
  rw [ll, fm_map] at hy
  refine ⟨_, rfl, Nat.zero_le _, fun p np => ?_⟩
  have sp := same_new (o := .lst []) np
  have s3 := same_tr s1 (same_tr s2 sp)
  have hL : Is K (upd H2 p (.lst [])) (.ref D) ((lotsOf (oth hs r)).map fun lot => (ent (isIn lot) ws : Int)) := is_lst (SqL.of (sp _ _ e2)) (hy.same sp)
  refine ⟨_, ([] : List Int), hL, is_lst (SqL.of upd_same) .nil, _, rfl, ?_⟩
  cases eo : lotsOf (oth hs r) with
  | nil => exact q0 ((lots_nil ok.nd).mp eo) _ s3
  | cons l0 ls =>
    rw [eo] at hL
    refine ⟨_, rfl, .ref D, _, _, rfl, hL, fun u hu => ?_⟩
    have hmem := minOf_mem (ent (isIn l0) ws : Int) (ls.map fun lot => (ent (isIn lot) ws : Int))
    have hle := minOf_le (ent (isIn l0) ws : Int) (ls.map fun lot => (ent (isIn lot) ws : Int))
    generalize PySem.W.minOf (ent (isIn l0) ws : Int) (ls.map fun lot => (ent (isIn lot) ws : Int)) = mo at hmem hle hu
    have em : ((ent (isIn l0) ws : Int) :: ls.map fun lot => (ent (isIn lot) ws : Int)) = (lotsOf (oth hs r)).map fun lot => (ent (isIn lot) ws : Int) := by rw [eo]; rfl
    rw [em] at hmem hle
    obtain ⟨lot, hlot, rfl⟩ := List.mem_map.mp hmem
    rw [hu.int]
    refine q1 _ (ent (isIn lot) ws) s3 (narrow_lots ok.nd ok.ends' ⟨lot, hlot, rfl⟩ fun lot' hl' => ?_)
    have := hle _ (List.mem_map.mpr ⟨lot', hl', rfl⟩)
    rw [leO_iff] at this
    have : ¬ ((ent (isIn lot') ws : Int) < (ent (isIn lot) ws : Int)) := of_decide_eq_false this
    omega

def pr_L_lacking (K : PySem.W.Frag) : Pr := pr3 fun n lv kv H Q => ∃ (hs : List Str) (ws : List (Str × Str)) (L : List (Tup Str)) (k : Nat), Is K H n (net hs ws) ∧ NetOk hs ws ∧ Is K H lv (Tup.mk L) ∧ L.length ≤ 1000 ∧ kv = .int (k : Int) ∧ ∀ H', Same H H' → Q (.int (lacking ws k (L.map (·.items)))) H'
theorem sc_L_lacking : FnScope n_L_lacking p_L_lacking (defScope s_L_lacking) := ⟨rfl, rfl, rfl, by decide +kernel, rfl, by decide +kernel, by decide +kernel⟩
theorem L_lacking_ok (m : Bt mg) (c_L_entering : Cal P w K mg base 1 "_law_entering" [] (pr_L_entering K)) (D : Dfn K mg "_law_lacking" s_L_lacking [] f fd) : Cal P w K mg base 2 "_law_lacking" [] (pr_L_lacking K) := by
  refine D.cal sc_L_lacking (fun vs H Q h => len3 h) (fun _ _ _ _ _ _ us hl => match us, hl with | [_, _, _], _ => rfl) fun cdv A outer s H vs Q hr h => ?_
  obtain ⟨n, lv, _, rfl, hs, ws, L, k, hn, ok, hl, fL, rfl, q⟩ := inv3 h
  have fw := ok.fewW
  obtain ⟨la, lvs, rfl, lq, lh⟩ := hl.tup
  have ll : lvs.length = L.length := lh.length
  refine ⟨_, pss_one (ps_ret (p_sum m rfl (pa_cons (pe_lc (own := [("_law_lot", 3)]) (g := gName 3) (tt := tYes) rfl sc_L_lacking.nd (pi_tup (pv 1)) (blkOk_by (N := n_L_lacking) (sc := defScope s_L_lacking) (by decide +kernel)) (fun _ _ _ _ _ => (pg_name (i := 3) sc_L_lacking.nd rfl (.inl rfl))) (fun _ _ _ _ _ => pts_nil)
      (fun _ _ _ _ _ => pe_op op_sub (pv 2) (p_lenK K m (pa_cons (p_call c_L_entering hr (pa_cons (pv 0) (pa_cons (pv 3) pa_nil))) pa_nil)))) pa_nil))), ?_⟩
  refine ⟨_, rfl, la, rfl, ⟨_, lq⟩, fun D hD => lc_data (K := K) walk_tup (fun (i : Nat) => L[i]?.map fun t => (k : Int) - (ent (isIn t.items) ws : Int)) hD (by omega) (fun H2 s2 => sqT_same s2 lq) ?_ ?_⟩
  · rintro i v H2 H3 Ky Kn hi s2 ⟨rfl, hv⟩ k1 k2
    obtain ⟨t, ht1, ht2⟩ := lh.at hv
    have ht1 : L[i]? = some t := ht1
    refine ⟨rfl, _, rfl, _, rfl, _, rfl, hs, ws, t.items, hn.same s2, ht2.same s2, by omega, fun u H4 is s4 hu hlen => ?_⟩
    obtain ⟨ia, iv, rfl, iq, ih⟩ := hu.tup
    have il : iv.length = is.length := ih.length
    refine ⟨ia, iv, rfl, .inr iq, (k : Int), _, rfl, rfl, ?_⟩
    exact k1 _ ((k : Int) - (ent (isIn t.items) ws : Int)) _ s4 (by rw [ht1]; rfl) (by rw [il, hlen]; exact is_int _)
  · intro H2 ys s2 e2 hy
    rw [ll, fm_map] at hy
    refine ⟨D, _, rfl, SqL.of (by rw [e2, isAll_ints hy]), ?_⟩
    have es : (L.map fun t => (k : Int) - (ent (isIn t.items) ws : Int)).sum = lacking ws k (L.map (·.items)) := by
      unfold K86M.lacking
      rw [List.map_map]
      rfl
    rw [es]
    exact q _ s2

def pr_L_apart (K : PySem.W.Frag) : Pr := pr2 fun n x H Q => ∃ (hs : List Str) (ws : List (Str × Str)) (r : Str), Is K H n (net hs ws) ∧ NetOk hs ws ∧ x = .str r ∧ ∀ v H', Same H H' → Is K H' v ((apartOf (lotsOf (oth hs r))).map mkk) → Q v H'
theorem sc_L_apart : FnScope n_L_apart p_L_apart (defScope s_L_apart) := ⟨rfl, rfl, rfl, by decide +kernel, rfl, by decide +kernel, by decide +kernel⟩
theorem L_apart_ok (m : Bt mg) (c_L_lots : Cal P w K mg base 2 "_law_lots" [] (pr_L_lots K)) (D : Dfn K mg "_law_apart" s_L_apart [] f fd) : Cal P w K mg base 3 "_law_apart" [] (pr_L_apart K) := by
  refine D.cal sc_L_apart (fun vs H Q h => len2 h) (fun _ _ _ _ _ _ us hl => match us, hl with | [_, _], _ => rfl) fun cdv A outer s H vs Q hr h => ?_
  obtain ⟨n, _, rfl, hs, ws, r, hn, ok, rfl, q⟩ := inv2 h
  refine ⟨_, pss_cons (ps_set (i := 2) sc_L_apart.nd rfl (Or.inl rfl) (pe_lst (pa_cons (pe_tup pa_nil) pa_nil)))
    (pss_cons (ps_for PassesOwn.never rfl (pi_list (p_call c_L_lots hr (pa_cons (pv 0) (pa_cons (pv 1) pa_nil)))) (pg_name (i := 3) sc_L_apart.nd rfl (.inl rfl))
      (pss_cons (ps_set (i := 4) sc_L_apart.nd rfl (Or.inl rfl) (pe_lst pa_nil))
      (pss_cons (ps_for PassesOwn.never rfl (pi_list (pv 2)) (pg_name (i := 5) sc_L_apart.nd rfl (.inl rfl))
        (pss_cons (ps_set (i := 6) sc_L_apart.nd rfl (Or.inr rfl) (pe_lst pa_nil))
        (pss_cons (ps_for PassesOwn.never rfl (pi_tup (pv 5)) (pg_name (i := 7) sc_L_apart.nd rfl (.inl rfl)) (pss_one (ps_expr (pe_bm PySem.F.plainAttrs_list PySem.F.slot_list_extend PySem.F.type_list_extend mt_extend (pv 6) (pa_cons (p_list m call_list_of (pa_cons (pv 7) pa_nil)) pa_nil)))))
        (pss_one (ps_if (pt_cmpR (op_eqT (α := List Str) hr.u) (pe_lc (own := [("_law_house", 8)]) (g := gName 8) rfl sc_L_apart.nd (pi_tup (pv 3)) (blkOk_by (N := n_L_apart) (sc := defScope s_L_apart) (by decide +kernel)) (fun _ _ _ _ _ => (pg_name (i := 8) sc_L_apart.nd rfl (.inl rfl))) (fun _ _ _ _ _ => pts_one (pt_cmpR (r := rInL K Str) (op_inL hr.u) (pv 8) (pv 6) rfl)) (fun _ _ _ _ _ => pv 8)) (pe_lst pa_nil) (nomark _))
          (pss_one (ps_expr (p_app (pv 4) (pa_cons (pe_op (op_catTup (α := Tup Str)) (pv 5) (pe_tup (pa_cons (pv 3) pa_nil))) pa_nil)))) pss_nil)))))
      (pss_one (ps_set (i := 2) sc_L_apart.nd rfl (Or.inl rfl) (pe_op op_cat (pv 2) (pv 4)))))))
    (pss_one (ps_ret (pv 2)))), ?_⟩
  have lol := oth_len (r := r) ok
  have ndo : (oth hs r).Nodup := ok.nd.sublist List.filter_sublist
  obtain ⟨lots, el⟩ : ∃ lots, lots = lotsOf (oth hs r) := ⟨_, rfl⟩
  rw [← el] at q
  have zlots : lots.length ≤ 16 := by rw [el]; exact Nat.le_trans (K86M.lotsOf_len _) (Nat.pow_le_pow_right (by decide) lol)
  have ndl : lots.Nodup := by rw [el]; exact K86M.lotsOf_nodup ndo
  have lot4 : ∀ l ∈ lots, l ≠ [] ∧ l.length ≤ 4 := fun l hl => by
    rw [el] at hl
    obtain ⟨e, ne⟩ := (K86M.mem_lotsOf ndo).mp hl
    exact ⟨ne, by rw [e]; exact Nat.le_trans (List.length_filter_le _ _) lol⟩
  have ap : ∀ j, (apartOf (lots.take j)).length ≤ 65536 := fun j => Nat.le_trans (K86M.apart_len _) (Nat.le_trans (Nat.pow_le_pow_right (by decide) (by rw [List.length_take]; omega : (lots.take j).length ≤ 16)) (by decide))
  have apF : ∀ j F, F ∈ apartOf (lots.take j) → F.length ≤ 16 ∧ ∀ l ∈ F, l ∈ lots := fun j F hF => by
    have h1 := apart_sub hF ((List.take_sublist j _).nodup ndl) fun l hl => (lot4 l (List.mem_of_mem_take hl)).1
    rw [List.length_take] at h1
    exact ⟨by omega, fun l hl => List.mem_of_mem_take ((K86M.apart_sound _ F hF).2 l hl)⟩
  refine ⟨Nat.zero_le _, fun p1 n1 => ⟨by show 1 ≤ sizeLine; decide, fun p2 n2 => ?_⟩⟩
  have s1 := same_new (o := .tup []) n1
  have s2 := same_new (o := .lst [.ref p1]) n2
  have s02 := same_tr s1 s2
  refine ⟨_, rfl, _, rfl, hs, ws, r, hn.same s02, ok, rfl, fun v H1 s3 hv => ?_⟩
  rw [← el] at hv
  obtain ⟨la, lv, rfl, lq, lh⟩ := hv.lst
  have ll : lv.length = lots.length := by
    rw [lh.length]
    exact List.length_map ..
  refine ⟨la, rfl, ⟨_, lq⟩, for_it walk_list (fun j σ H2 => ∃ o3 o4 o5 o6 o7 F fv, σ = [some n, some (.str r), some (.ref F), o3, o4, o5, o6, o7, none] ∧ Same H1 H2 ∧ H2 F = some (.lst fv) ∧ IsAll K H2 fv ((apartOf (lots.take j)).map mkk))
    ⟨none, none, none, none, none, p2, [.ref p1], rfl, same_refl _, s3 _ _ upd_same, (IsAll.cons (is_tup (sqT_same s2 (SqT.of upd_same)) .nil) .nil : IsAll K _ [.ref p1] [mkk []]).same s3⟩ (fun j σ H2 _ ⟨_, _, _, _, _, _, _, _, s4, _⟩ => sqL_same s4 lq) ?_ ?_⟩
  · rintro j x σ H2 H3 hj ⟨o3, o4, o5, o6, o7, F, fv, rfl, s4, eF, hfv⟩ ⟨rfl, hx⟩
    obtain ⟨t, ht1, ht2⟩ := lh.at hx
    obtain ⟨lot, hlot, rfl⟩ : ∃ lot, lots[j]? = some lot ∧ Tup.mk lot = t := by
      unfold mks at ht1
      rw [List.getElem?_map] at ht1
      cases e : lots[j]? with
      | none => rw [e] at ht1; cases ht1
      | some lot => rw [e] at ht1; exact ⟨lot, rfl, Option.some.inj ht1⟩
    obtain ⟨ta, tv, rfl, tq, th⟩ := ht2.tup
    have tl : tv.length = lot.length := th.length
    have l4 := (lot4 lot (List.mem_of_getElem? hlot)).2
    have apj := ap j
    have fl : fv.length = (apartOf (lots.take j)).length := by rw [hfv.length, List.length_map]
    refine ⟨Nat.zero_le _, fun M nM => ?_⟩
    have sM := same_new (o := .lst []) nM
    have hM1 : H1 M = none := free_of s4 nM
    have hFM : F ≠ M := fun e => by rw [← e, eF] at nM; cases nM
    have eFM := sM _ _ eF
    refine ⟨_, rfl, F, rfl, ⟨_, SqL.of eFM⟩, for_it (walk_list (xs := fv)) (fun i σ H4 => ∃ o5 o6 o7 mv, σ = [some n, some (.str r), some (.ref F), some (.ref ta), some (.ref M), o5, o6, o7, none] ∧ Same H1 H4 ∧ H4 F = some (.lst fv) ∧ H4 M = some (.lst mv) ∧
        IsAll K H4 fv ((apartOf (lots.take j)).map mkk) ∧ IsAll K H4 mv (((((apartOf (lots.take j)).take i).filter (freeOf lot)).map (· ++ [lot])).map mkk))
      ⟨o5, o6, o7, [], rfl, same_tr s4 sM, eFM, upd_same, hfv.same sM, .nil⟩ (fun i σ H4 _ ⟨_, _, _, _, _, _, e, _⟩ => SqL.of e) ?_ ?_⟩
    · rintro i y σ H4 H5 hi ⟨o5, o6, o7, mv, rfl, s5, eF5, eM5, hf5, hm5⟩ ⟨rfl, hy⟩
      obtain ⟨t2, ht3, ht4⟩ := hf5.at hy
      obtain ⟨some', hsome, rfl⟩ : ∃ G, (apartOf (lots.take j))[i]? = some G ∧ mkk G = t2 := by
        rw [List.getElem?_map] at ht3
        cases e : (apartOf (lots.take j))[i]? with
        | none => rw [e] at ht3; cases ht3
        | some G => rw [e] at ht3; exact ⟨G, rfl, Option.some.inj ht3⟩
      obtain ⟨g16, gsub⟩ := apF j some' (List.mem_of_getElem? hsome)
      obtain ⟨ga, gv, rfl, gq, gh⟩ := ht4.tup
      have gl : gv.length = some'.length := by
        rw [gh.length]
        exact List.length_map ..
      refine ⟨Nat.zero_le _, fun U nU => ?_⟩
      have sU := same_new (o := .lst []) nU
      have hU1 : H1 U = none := free_of s5 nU
      have hUF : F ≠ U := fun e => by rw [← e, eF5] at nU; cases nU
      have hUM : M ≠ U := fun e => by rw [← e, eM5] at nU; cases nU
      refine ⟨_, rfl, ga, rfl, ⟨_, sqT_same sU gq⟩, for_it (walk_tup (xs := gv)) (fun b σ H6 => ∃ o7, σ = [some n, some (.str r), some (.ref F), some (.ref ta), some (.ref M), some (.ref ga), some (.ref U), o7, none] ∧ Same H1 H6 ∧ H6 F = some (.lst fv) ∧ H6 M = some (.lst mv) ∧
          IsAll K H6 fv ((apartOf (lots.take j)).map mkk) ∧ IsAll K H6 mv (((((apartOf (lots.take j)).take i).filter (freeOf lot)).map (· ++ [lot])).map mkk) ∧ SqT K H6 ga gv ∧ IsAll K H6 gv (mks some') ∧ H6 U = some (.lst (((some'.take b).flatten).map V.str)))
        ⟨o7, rfl, same_tr s5 sU, sU _ _ eF5, sU _ _ eM5, hf5.same sU, hm5.same sU, sqT_same sU gq, gh.same sU, upd_same⟩ (fun b σ H6 _ ⟨_, _, _, _, _, _, _, e, _⟩ => e) ?_ ?_⟩
      · rintro b z σ H6 H7 hb ⟨o7, rfl, s6, eF6, eM6, hf6, hm6, gq6, gh6, eU6⟩ ⟨rfl, hz⟩
        obtain ⟨t3, ht5, ht6⟩ := gh6.at hz
        obtain ⟨one, hone, rfl⟩ : ∃ one, some'[b]? = some one ∧ Tup.mk one = t3 := by
          unfold mks at ht5
          rw [List.getElem?_map] at ht5
          cases e : some'[b]? with
          | none => rw [e] at ht5; cases ht5
          | some one => rw [e] at ht5; exact ⟨one, rfl, Option.some.inj ht5⟩
        obtain ⟨oa, ov, rfl, oq, oh⟩ := ht6.tup
        have eo := isAll_strs oh
        subst eo
        have o4' := (lot4 one (gsub one (List.mem_of_getElem? hone))).2
        have ff := flat_len (F := some'.take b) fun l hl => (lot4 l (gsub l (List.mem_of_mem_take hl))).2
        have fb : (some'.take b).length ≤ 16 := by rw [List.length_take]; omega
        refine ⟨_, rfl, .inl ⟨rfl, _, SqL.of eU6⟩, _, rfl, oa, _, rfl, .inr oq, fun q1 nq => ?_⟩
        have sq := same_new (o := .lst (one.map V.str)) nq
        have eU7 := sq _ _ eU6
        refine ⟨U, q1, _, _, rfl, rfl, eU7, upd_same, by rw [List.length_map, List.length_map, sizeLine_eq]; show ((some'.take b).flatten).length + one.length ≤ _; omega, ?_⟩
        have kU := keep_lst (o := .lst (((some'.take b).flatten).map V.str ++ one.map V.str)) eU7
        refine ⟨_, rfl, same_at (same_tr s6 sq) hU1, by rw [upd_ne hUF]; exact sq _ _ eF6, by rw [upd_ne hUM]; exact sq _ _ eM6, (hf6.same sq).keep kU, (hm6.same sq).keep kU, kU.seqT (sqT_same sq gq6), (gh6.same sq).keep kU, ?_⟩
        rw [upd_same, take_snoc hone, List.flatten_append, List.map_append]
        simp
      · rintro σ H6 ⟨o7, rfl, s6, eF6, eM6, hf6, hm6, gq6, gh6, eU6⟩
        rw [gl, List.take_length] at eU6
        have tq6 : SqT K H6 ta tv := sqT_same s6 tq
        have th6 : IsAll K H6 tv lot := th.same s6
        refine ⟨_, rfl, ta, rfl, ⟨_, tq6⟩, fun D nD => lc_data (K := K) (walk_tup (xs := tv)) (fun (c : Nat) => (lot[c]?.filter fun h => decide (h ∈ some'.flatten)).map id) nD (by omega) (fun H7 s7 => sqT_same s7 tq6) ?_ ?_⟩
        · rintro c z H7 H8 Ky Kn hc s7 ⟨rfl, hz⟩ k1 k2
          obtain ⟨h, hh1, hh2⟩ := th6.at hz
          obtain rfl := hh2.str
          refine ⟨rfl, _, rfl, _, rfl, h, some'.flatten, is_str h, is_lst (SqL.of (s7 _ _ eU6)) (strs_isAll _), _, rfl, ?_⟩
          by_cases c1 : h ∈ some'.flatten
          · rw [decide_eq_true c1]
            exact ⟨_, rfl, k1 _ h _ (same_refl _) (by rw [hh1]; simp only [Option.filter, decide_eq_true c1]; rfl) (is_str h)⟩
          · rw [decide_eq_false c1]
            exact k2 _ (same_refl _) (by rw [hh1]; simp only [Option.filter, decide_eq_false c1]; rfl)
        intro H7 ys s7 e7 hys
        rw [tl, fm_filter, List.map_id] at hys
        refine ⟨Nat.zero_le _, fun p np => ?_⟩
        have sp := same_new (o := .lst []) np
        have s67 := same_tr s7 sp
        refine ⟨_, ([] : List Str), is_lst (SqL.of (sp _ _ e7)) (hys.same sp), is_lst (SqL.of upd_same) .nil, _, rfl, ?_⟩
        have efr : decide ((lot.filter fun h => decide (h ∈ some'.flatten)) = []) = freeOf lot some' := by
          unfold K86M.freeOf
          rw [Bool.eq_iff_iff, decide_eq_true_iff, List.filter_eq_nil_iff, List.all_eq_true]
          simp
        rw [efr]
        have nx : (apartOf (lots.take j)).take (i + 1) = (apartOf (lots.take j)).take i ++ [some'] := take_snoc hsome
        have eF7 := s67 _ _ eF6
        have eM7 := s67 _ _ eM6
        have hf7 := hf6.same s67
        have hm7 := hm6.same s67
        cases cf : freeOf lot some' with
        | false =>
          refine ⟨_, _, _, mv, rfl, same_tr s6 s67, eF7, eM7, hf7, ?_⟩
          rw [nx, List.filter_append]
          simp only [List.filter_cons, cf, List.filter_nil]
          simpa using hm7
        | true =>
          have mvl : mv.length ≤ 65536 := by
            rw [hm7.length, List.length_map, List.length_map]
            exact Nat.le_trans (List.length_filter_le _ _) (by rw [List.length_take]; omega)
          refine ⟨_, rfl, .inl ⟨rfl, _, SqL.of eM7⟩, _, rfl, _, rfl, by show 1 ≤ sizeLine; decide, fun p3 np3 => ?_⟩
          have s3' := same_new (o := .tup [.ref ta]) np3
          refine ⟨mkk some', Tup.mk [Tup.mk lot], is_tup (sqT_same (same_tr s67 s3') gq6) ((gh6.same s67).same s3'), is_tup (SqT.of upd_same) (.cons (is_tup (sqT_same (same_tr s67 s3') tq6) ((th6.same s67).same s3')) .nil), by
            have : (mkk some').items.length = some'.length := List.length_map ..
            rw [this, sizeLine_eq]
            show some'.length + 1 ≤ _
            omega, fun u H9 s9 hu => ?_⟩
          have s79 := same_tr s3' s9
          have eM9 := s79 _ _ eM7
          refine ⟨M, _, _, rfl, rfl, eM9, by rw [sizeLine_eq]; omega, ?_⟩
          have kM := keep_lst (o := .lst (mv ++ [u])) eM9
          refine ⟨_, _, _, mv ++ [u], rfl, same_at (same_tr s6 (same_tr s67 s79)) hM1, by rw [upd_ne hFM]; exact s79 _ _ eF7, upd_same, (hf7.same s79).keep kM, ?_⟩
          rw [nx, List.filter_append]
          simp only [List.filter_cons, cf, List.filter_nil, if_true]
          rw [List.map_append, List.map_append]
          refine ((hm7.same s79).keep kM).append (.cons ?_ .nil)
          have hu := hu.keep kM
          have e5 : (Tup.mk ((mkk some').items ++ [Tup.mk lot]) : Tup (Tup Str)) = mkk (some' ++ [lot]) := by
            unfold mkk
            rw [mks_snoc]
          exact e5 ▸ hu
    · rintro σ H4 ⟨o5, o6, o7, mv, rfl, s5, eF5, eM5, hf5, hm5⟩
      rw [fl, List.take_length] at hm5
      have mvl : mv.length ≤ 65536 := by
        rw [hm5.length, List.length_map, List.length_map]
        exact Nat.le_trans (List.length_filter_le _ _) apj
      refine ⟨_, rfl, _, rfl, F, M, fv, mv, rfl, rfl, eF5, eM5, by rw [sizeLine_eq]; omega, fun p np => ?_⟩
      have sp := same_new (o := .lst (fv ++ mv)) np
      refine ⟨_, _, _, _, _, p, fv ++ mv, rfl, same_tr s5 sp, upd_same, ?_⟩
      rw [take_snoc hlot, K86M.apart_snoc, List.map_append]
      exact (hf5.append hm5).same sp
  · rintro σ H2 ⟨o3, o4, o5, o6, o7, F, fv, rfl, s4, eF, hfv⟩
    rw [ll, List.take_length] at hfv
    exact ⟨_, rfl, q _ _ (same_tr s02 (same_tr s3 s4)) (is_lst (SqL.of eF) hfv)⟩
end
end K86

end

section
set_option Elab.async false
set_option linter.all false
set_option maxRecDepth 100000
set_option maxHeartbeats 2000000
/-! The walks of the law: what repr shows; are these wires more enough. -/
namespace K86
open PySem PySem.Spec PyProof.Rows L2
open PySem.W (Datum DatumOrd Tup T3 T4 Holds HoldAll)
open K86M (tlW hdW Ends subs lotsOf isIn enters cnt WideI Tree Wide pairsOf lacking ent Apart apartOf MinOf freeOf total Fewest)
/-- data that repr shows, by depth and weight -/
structure ShowOk (dp b : Nat) (d : PyData) : Prop where
  lv : d.leavesShort 13 = true
  nd : d.hasDict = false
  ok : d.showable = true
  dp : d.depth ≤ dp
  wt : d.weight ≤ b
theorem ShowOk.shows {dp b : Nat} {d : PyData} (h : ShowOk dp b d) (hd : dp ≤ 60) (hb : b ≤ 1048576) : Shows d :=
  ⟨h.ok, h.nd, Nat.le_trans h.dp hd, PyData.shown_fits (by decide) (by decide) h.lv (by
    have := h.wt
    have e : (2 : Nat) ^ 20 = 1048576 := by decide
    omega)⟩
theorem so_str {x : Str} (n : IsName x) : ShowOk 0 9 (.str x) := by
  refine ⟨?_, by simp only [PyData.hasDict], by simp only [PyData.showable], by simp only [PyData.depth]; exact Nat.le_refl _, ?_⟩
  · simp only [PyData.leavesShort, List.all_eq_true, decide_eq_true_eq]
    intro c hc
    have h2 := (n.az c hc).2
    have e : (16 : Nat) ^ 8 = 4294967296 := by decide
    omega
  · simp only [PyData.weight]
    have h : x.cps.size < 9 := n.lt
    omega
theorem so_all {dp b : Nat} : ∀ {ds : List PyData}, (∀ d ∈ ds, ShowOk dp b d) → PyData.leavesShortAll 13 ds = true ∧ PyData.hasDictAll ds = false ∧ PyData.showableAll ds = true ∧ PyData.depthAll ds ≤ dp ∧ PyData.weightAll ds ≤ (b + 1) * ds.length
  | [], _ => ⟨by simp only [PyData.leavesShortAll], by simp only [PyData.hasDictAll], by simp only [PyData.showableAll], by simp only [PyData.depthAll]; exact Nat.zero_le _, by simp only [PyData.weightAll]; exact Nat.zero_le _⟩
  | d :: ds, h => by
    obtain ⟨h1, h2, h3, h4, h5⟩ := so_all (ds := ds) fun e he => h e (List.mem_cons_of_mem _ he)
    have g := h d (List.mem_cons_self ..)
    refine ⟨by simp only [PyData.leavesShortAll, g.lv, h1, Bool.and_self], by simp only [PyData.hasDictAll, g.nd, h2, Bool.or_self], by simp only [PyData.showableAll, g.ok, h3, Bool.and_self], ?_, ?_⟩
    · simp only [PyData.depthAll]
      have := g.dp
      omega
    · simp only [PyData.weightAll]
      have := g.wt
      rw [List.length_cons, Nat.mul_succ]
      omega
theorem so_tuple {dp b : Nat} {ds : List PyData} (h : ∀ d ∈ ds, ShowOk dp b d) : ShowOk (dp + 1) ((b + 1) * ds.length) (.tuple ds) := by
  obtain ⟨h1, h2, h3, h4, h5⟩ := so_all h
  exact ⟨by simp only [PyData.leavesShort, h1], by simp only [PyData.hasDict, h2], by simp only [PyData.showable, h3], by simp only [PyData.depth]; omega, by simp only [PyData.weight]; exact h5⟩
theorem ShowOk.mono {dp b dp' b' : Nat} {d : PyData} (h : ShowOk dp b d) (h1 : dp ≤ dp') (h2 : b ≤ b') : ShowOk dp' b' d := ⟨h.lv, h.nd, h.ok, Nat.le_trans h.dp h1, Nat.le_trans h.wt h2⟩
theorem so_wire {w : Str × Str} (h1 : IsName w.1) (h2 : IsName w.2) : ShowOk 1 20 (Datum.toD w) := so_tuple (dp := 0) (b := 9) (ds := [.str w.1, .str w.2]) fun d hd => by
  rcases List.mem_cons.mp hd with e | hd
  · rw [e]; exact so_str h1
  · rw [List.mem_singleton.mp hd]; exact so_str h2
theorem so_wires {ws : List (Str × Str)} (h : ∀ w ∈ ws, IsName w.1 ∧ IsName w.2) (hl : ws.length ≤ 100) : ShowOk 2 2100 (Datum.toD (Tup.mk ws)) :=
  (so_tuple (dp := 1) (b := 20) (ds := ws.map Datum.toD) fun d hd => by
    obtain ⟨w, hw, rfl⟩ := List.mem_map.mp hd
    exact so_wire (h w hw).1 (h w hw).2).mono (Nat.le_refl _) (by rw [List.length_map]; omega)
theorem so_houses {hs : List Str} (h : ∀ x ∈ hs, IsName x) (hl : hs.length ≤ 4) : ShowOk 1 40 (Datum.toD (Tup.mk hs)) :=
  (so_tuple (dp := 0) (b := 9) (ds := hs.map Datum.toD) fun d hd => by
    obtain ⟨w, hw, rfl⟩ := List.mem_map.mp hd
    exact so_str (h w hw)).mono (Nat.le_refl _) (by rw [List.length_map]; omega)
theorem so_net {hs : List Str} {ws : List (Str × Str)} (ok : NetOk hs ws) : ShowOk 3 5000 (Datum.toD (net hs ws)) :=
  (so_tuple (dp := 2) (b := 2100) (ds := [Datum.toD (Tup.mk hs), Datum.toD (Tup.mk ws)]) fun d hd => by
    rcases List.mem_cons.mp hd with e | hd
    · rw [e]; exact (so_houses ok.nm ok.fewH).mono (by omega) (by omega)
    · rw [List.mem_singleton.mp hd]; exact so_wires (fun w hw => ⟨ok.nm _ (ok.ends w hw).1, ok.nm _ (ok.ends w hw).2.1⟩) ok.fewW).mono (Nat.le_refl _) (by show 2101 * 2 ≤ 5000; decide)
section
variable {X : Cx} {p pos : Pos} {e tg : Expr} {es : List Expr} {te : TE} {t : TA}
theorem p_reprK (K : PySem.W.Frag) (m : Bt X.mg) {k : Nat} (hr : Rm k X.A) (ha : PA X (e :: es) t) (hK : X.K = K := by rfl) (hg : Gl X "repr" := by rfl) (he : starEach (e :: es) X.env = (false, eval e X.env) :: starEach es X.env := by rfl) (hpl : (backTo pos (starEach es X.env)).any (·.1) = false := by rfl) :
    PE X (.Call (.Name "repr" p) (e :: es) [] pos) (tCB (rRepr K) t) := by
  subst hK
  exact p_repr m hr ha hg he hpl
end
theorem pairs_up {r : Str} : ∀ {many : List (Str × Nat)}, UpS (many.map (·.1)) → Up (pairsOf r many)
  | [], _ => List.Pairwise.nil
  | p :: many, h => by
    unfold UpS at h
    rw [List.map_cons, List.pairwise_cons] at h
    have ih := pairs_up (r := r) (many := many) h.2
    rw [K86M.pairs_cons]
    unfold Up at ih ⊢
    rw [List.pairwise_append]
    refine ⟨?_, ih, fun a ha b hb => ?_⟩
    · rw [List.pairwise_replicate]
      right
      rw [leO_iff, Lin.irr]
    · rw [List.eq_of_mem_replicate ha]
      obtain ⟨q, hq, e, _⟩ := K86M.pairs_mem hb
      rw [e, leO_iff, pair_lt, if_pos rfl]
      exact lin_asym (h.1 q.1 (List.mem_map.mpr ⟨q, hq, rfl⟩))
theorem late_ok {hs : List Str} {ws : List (Str × Str)} {r : Str} {many : List (Str × Nat)} (ok : NetOk hs ws) (w60 : ws.length ≤ 60) (hr : r ∈ hs) (hk : many.map (·.1) = oth hs r) (ht : total many ≤ 36) : NetOk hs (srt (ws ++ pairsOf r many)) :=
  ⟨ok.ne, ok.nm, ok.up, ok.fewH, fun w hw => by
    rcases List.mem_append.mp (srt_mem.mp hw) with h | h
    · exact ok.ends w h
    · obtain ⟨e1, e2, e3⟩ := pairs_in hk h
      exact ⟨by rw [e1]; exact hr, e2, by rw [e1]; exact Ne.symm e3⟩, srt_up _, by rw [srt_length, List.length_append, K86M.pairs_len]; omega⟩
section
variable {P : Program} {w : World} {K : PySem.W.Frag} {mg : Str → Option Value} {base : Heap} {f : Addr} {fd : FuncData}

/-- the network with the wires more -/
abbrev lateW (ws : List (Str × Str)) (r : Str) (many : List (Str × Nat)) : List (Str × Str) := srt (ws ++ pairsOf r many)
def pr_L_are_more (K : PySem.W.Frag) : Pr := pr4 fun n x kv wv H Q => ∃ (hs : List Str) (ws : List (Str × Str)) (r : Str) (k : Nat) (many : List (Str × Nat)), Is K H n (net hs ws) ∧ NetOk hs ws ∧ ws.length ≤ 60 ∧ x = .str r ∧ r ∈ hs ∧ kv = .int (k : Int) ∧ k ≤ 9 ∧ Is K H wv (Tup.mk (pairsOf r many)) ∧ Fewest hs (oth hs r) r ws k many ∧
  ∀ a t o hv ys H', Same H H' → SqT K H' a [hv, .ref t] → Is K H' hv (Tup.mk hs) → H' t = some (.frz o (.tup ys)) → o.dict = none → o.cls = .type "tuple" → IsAll K H' ys (lateW ws r many) → Q (.ref a) H'
theorem sc_L_are_more : FnScope n_L_are_more p_L_are_more (defScope s_L_are_more) := ⟨rfl, rfl, rfl, by decide +kernel, rfl, by decide +kernel, by decide +kernel⟩
theorem L_are_more_ok (m : Bt mg) (c_L_others : Cal P w K mg base 1 "_law_others" [] (pr_L_others K)) (c_L_width : Cal P w K mg base 3 "_law_width" [] (pr_L_width K)) (D : Dfn K mg "_law_are_more" s_L_are_more [] f fd) : Cal P w K mg base 4 "_law_are_more" [] (pr_L_are_more K) := by
  refine D.cal sc_L_are_more (fun vs H Q h => len4 h) (fun _ _ _ _ _ _ us hl => match us, hl with | [_, _, _, _], _ => rfl) fun cdv A outer s H vs Q hr h => ?_
  obtain ⟨n, _, _, wv, rfl, hs, ws, r, k, many, hn, ok, w60, rfl, hrm, rfl, hk9, hw, FW, q⟩ := inv4 h
  refine ⟨_, pss_cons (ps_set (i := 4) sc_L_are_more.nd rfl (Or.inl rfl) (p_call c_L_others hr (pa_cons (pv 0) (pa_cons (pv 1) pa_nil))))
    (pss_cons (ps_for PassesOwn.never rfl (pi_tup (pv 3)) (pg_name (i := 5) sc_L_are_more.nd rfl (.inl rfl))
      (pss_one (ps_if (pt_cmpR (op_ninL (α := Str) hr.u) (p_repr m hr (pa_cons (pv 5) pa_nil)) (pe_lc (own := [("_law_house", 6)]) (g := gName 6) (tt := tYes) rfl sc_L_are_more.nd (pi_list (pv 4)) (blkOk_by (N := n_L_are_more) (sc := defScope s_L_are_more) (by decide +kernel)) (fun _ _ _ _ _ => (pg_name (i := 6) sc_L_are_more.nd rfl (.inl rfl))) (fun _ _ _ _ _ => pts_nil)
        (fun _ _ _ _ _ => p_reprK K m hr (pa_cons (pe_tup (pa_cons (pv 1) (pa_cons (pv 6) pa_nil))) pa_nil))) rfl) pss_never pss_nil)))
    (pss_cons (ps_if (pt_cmpR op_ne (p_repr m hr (pa_cons (pv 3) pa_nil)) (p_repr m hr (pa_cons (p_tuple m call_tuple_of (pa_cons (p_sorted m (cr_srtT (α := Str × Str) hr.u) (pa_cons (pv 3) pa_nil)) pa_nil)) pa_nil)) (nomark _)) pss_never pss_nil)
    (pss_cons (ps_set (i := 7) sc_L_are_more.nd rfl (Or.inl rfl) (pe_tup (pa_cons (pe_ix (r := rFst K (Tup Str) (Tup (Str × Str))) ix_fst (pv 0) pe_int (fun _ _ => rfl)) (pa_cons (p_tuple m cr_tupF (pa_cons (p_sorted m (cr_srtT (α := Str × Str) hr.u) (pa_cons (pe_op (op_catTup (α := Str × Str)) (pe_ix (r := rSnd K (Tup Str) (Tup (Str × Str))) ix_snd (pv 0) pe_int (fun _ _ => rfl)) (pv 3)) pa_nil)) pa_nil)) pa_nil))))
    (pss_cons (ps_set (i := 8) sc_L_are_more.nd rfl (Or.inl rfl) (p_call c_L_width hr (pa_cons (pv 7) (pa_cons (pv 1) pa_nil))))
    (pss_one (ps_ret (pe_ifExp (pw_or (pt_cmp (pc_isN (pv 8))) (pw_or1 (pt_cmpR op_ge (pv 8) (pv 2) (nomark _)))).pt (pv 7) pe_never))))))), ?_⟩
  have fw := ok.fewW
  have fh := ok.fewH
  have tot := Fewest.tot ok FW hk9
  have lol := oth_len (r := r) ok
  have okl := late_ok ok w60 hrm FW.keys tot
  have pin : ∀ x ∈ pairsOf r many, IsName x.1 ∧ IsName x.2 ∧ x.1 = r ∧ x.2 ∈ oth hs r := fun x hx => by
    obtain ⟨e1, e2, e3⟩ := pairs_in FW.keys hx
    exact ⟨by rw [e1]; exact ok.nm r hrm, ok.nm _ e2, e1, mem_oth.mpr ⟨e2, e3⟩⟩
  have sho : ∀ {x : Str × Str}, IsName x.1 → IsName x.2 → Shows (Datum.toD x) := fun h1 h2 => (so_wire h1 h2).shows (by omega) (by omega)
  have pl : (pairsOf r many).length = total many := K86M.pairs_len r many
  have upP : Up (pairsOf r many) := pairs_up (by rw [FW.keys]; exact oth_up ok)
  have shW : Shows (Datum.toD (Tup.mk (pairsOf r many))) := (so_wires (fun x hx => ⟨(pin x hx).1, (pin x hx).2.1⟩) (by omega)).shows (by omega) (by omega)
  obtain ⟨wa, wvs, rfl, wq, wh⟩ := hw.tup
  have wl : wvs.length = (pairsOf r many).length := wh.length
  refine ⟨_, rfl, _, rfl, hs, ws, r, hn, rfl, by omega, fun v H1 s1 hv => ?_⟩
  obtain ⟨oa, ov, rfl, oq, oh⟩ := hv.lst
  have ol : ov.length = (oth hs r).length := oh.length
  refine ⟨_, rfl, wa, rfl, ⟨_, sqT_same s1 wq⟩, for_it (walk_tup (xs := wvs)) (fun i σ H2 => ∃ o5, σ = [some n, some (.str r), some (.int (k : Int)), some (.ref wa), some (.ref oa), o5, none, none, none] ∧ Same H1 H2) ⟨none, rfl, same_refl _⟩ (fun i σ H2 _ ⟨_, _, s2⟩ => sqT_same (same_tr s1 s2) wq) ?_ ?_⟩
  · rintro i x σ H2 H3 hi ⟨o5, rfl, s2⟩ ⟨rfl, hx⟩
    have s12 := same_tr s1 s2
    obtain ⟨wr, hw1, hw2⟩ := (wh.same s12).at hx
    have hw1 : (pairsOf r many)[i]? = some wr := hw1
    obtain ⟨n1, n2, e1, mo⟩ := pin wr (List.mem_of_getElem? hw1)
    have ⟨ra, _, _, er, _⟩ := hw2.pair
    subst er
    refine ⟨_, rfl, _, rfl, .inl ⟨ra, Datum.toD wr, rfl, hw2, sho n1 n2, ?_⟩⟩
    refine ⟨_, rfl, oa, rfl, ⟨_, sqL_same s2 oq⟩, fun D nD => lc_data (K := K) (walk_list (xs := ov)) (fun (j : Nat) => (oth hs r)[j]?.map fun h => (Datum.toD (r, h)).shown) nD (by omega) (fun H4 s4 => sqL_same (same_tr s2 s4) oq) ?_ ?_⟩
    · rintro j y H4 H5 Ky Kn hj s4 ⟨rfl, hy⟩ k1 k2
      obtain ⟨h, hh1, hh2⟩ := (oh.same (same_tr s2 s4)).at hy
      obtain rfl := hh2.str
      have hm := mem_oth.mp (List.mem_of_getElem? hh1)
      refine ⟨rfl, _, rfl, _, rfl, by show 2 ≤ sizeLine; decide, fun p np => ?_⟩
      exact ⟨_, rfl, .inl ⟨p, Datum.toD (r, h), rfl, is_pair (SqT.of upd_same) (is_str _) (is_str _), sho (x := (r, h)) (ok.nm r hrm) (ok.nm h hm.1), k1 _ (Datum.toD (r, h)).shown _ (same_new np) (by rw [hh1]; rfl) (is_str _)⟩⟩
    · intro H4 ys s4 e4 hys
      rw [ol, fm_map] at hys
      have hin : (Datum.toD wr).shown ∈ (oth hs r).map fun h => (Datum.toD (r, h)).shown := List.mem_map.mpr ⟨wr.2, mo, by rw [← e1]⟩
      refine ⟨(Datum.toD wr).shown, _, is_str _, is_lst (SqL.of e4) hys, _, rfl, ?_⟩
      rw [decide_eq_false (not_not_intro hin)]
      exact ⟨_, rfl, same_tr s2 s4⟩
  · rintro σ H2 ⟨o5, rfl, s2⟩
    have s12 := same_tr s1 s2
    have wq2 := sqT_same s12 wq
    have wh2 : IsAll K H2 wvs (pairsOf r many) := wh.same s12
    refine ⟨_, rfl, _, rfl, .inl ⟨wa, Datum.toD (Tup.mk (pairsOf r many)), rfl, is_tup wq2 wh2, shW, ?_⟩⟩
    refine ⟨_, rfl, wa, wvs, pairsOf r many, rfl, .inr wq2, wh2, srtable_pair _, fun p out np hout => ?_⟩
    rw [srt_of_up upP] at hout
    have sp := same_new (o := .lst out) np
    refine ⟨p, out, rfl, .inl ⟨SqL.of upd_same, fun p2 np2 => ?_⟩⟩
    have sp2 := same_new (o := .tup out) np2
    have s3 := same_tr s12 (same_tr sp sp2)
    refine ⟨_, rfl, .inl ⟨p2, Datum.toD (Tup.mk (pairsOf r many)), rfl, is_tup (SqT.of upd_same) (hout.same (same_tr sp sp2)), shW, rfl, _, rfl, ?_⟩⟩
    rw [show decide (V.str (Datum.toD (Tup.mk (pairsOf r many))).shown = V.str (Datum.toD (Tup.mk (pairsOf r many))).shown) = true from decide_eq_true rfl]
    refine ⟨_, rfl, _, hn.same s3, rfl, fun hv hhv => ?_⟩
    refine ⟨_, rfl, _, hn.same s3, rfl, fun u hu => ?_⟩
    refine ⟨_, rfl, Tup.mk ws, Tup.mk (pairsOf r many), hu, hw.same s3, by show ws.length + (pairsOf r many).length ≤ sizeLine; rw [sizeLine_eq]; omega, fun cv H4 s4 hcv => ?_⟩
    obtain ⟨ca, cvs, rfl, cq, ch⟩ := hcv.tup
    refine ⟨ca, cvs, ws ++ pairsOf r many, rfl, .inr cq, ch, srtable_pair _, fun p4 out4 np4 hout4 => ?_⟩
    have t4 := same_new (o := .lst out4) np4
    refine ⟨p4, out4, rfl, SqL.of upd_same, fun t o nt od oc => ?_⟩
    have t5 := same_new (o := .frz o (.tup out4)) nt
    refine ⟨by show 2 ≤ sizeLine; decide, fun a na => ?_⟩
    have t6 := same_new (o := .tup [hv, .ref t]) na
    have s46 := same_tr s4 (same_tr t4 (same_tr t5 t6))
    have hh6 := hhv.same s46
    have hy6 := hout4.same (same_tr t4 (same_tr t5 t6))
    have et6 := t6 _ _ (upd_same (H := upd H4 p4 (.lst out4)) (a := t) (o := .frz o (.tup out4)))
    have ea6 : SqT K _ a [hv, .ref t] := SqT.of (K := K) (upd_same (H := upd (upd H4 p4 (.lst out4)) t (.frz o (.tup out4))) (a := a) (o := .tup [hv, .ref t]))
    have s06 := same_tr s3 s46
    generalize upd (upd (upd H4 p4 (.lst out4)) t (.frz o (.tup out4))) a (.tup [hv, .ref t]) = H6 at hh6 hy6 et6 ea6 s06 ⊢
    have hl6 : Is K H6 (.ref a) (net hs (lateW ws r many)) := is_pair ea6 hh6 (is_tup (.inl (.inr ⟨o, et6⟩)) hy6)
    refine ⟨_, rfl, _, rfl, hs, lateW ws r many, r, hl6, okl, rfl, fun e H7 s7 => ?_, fun H7 mm s7 N => ?_⟩
    · exact ⟨_, rfl, _, rfl, _, rfl, q a t o hv out4 _ (same_tr s06 s7) (sqT_same s7 ea6) (hh6.same s7) (s7 _ _ et6) od oc (hy6.same s7)⟩
    · refine ⟨_, rfl, _, rfl, ?_⟩
      refine ⟨_, rfl, _, rfl, _, _, rfl, rfl, _, rfl, ?_⟩
      have km : k ≤ mm := N.wide.mp fun S sr hx => by
        rw [K86M.ent_perm S (srt_perm _)]
        exact FW.wide S sr hx
      rw [show decide ((k : Int) ≤ (mm : Int)) = true from decide_eq_true (by omega)]
      exact ⟨_, rfl, q a t o hv out4 _ (same_tr s06 s7) (sqT_same s7 ea6) (hh6.same s7) (s7 _ _ et6) od oc (hy6.same s7)⟩
end
end K86

end

section
set_option Elab.async false
set_option linter.all false
set_option maxRecDepth 100000
set_option maxHeartbeats 2000000
/-! The walks of the law: do trees grow on the network with the wires more, and not without one. -/
namespace K86
open PySem PySem.Spec PyProof.Rows L2
open PySem.W (Datum DatumOrd Tup T3 T4 Holds HoldAll)
open K86M (tlW hdW Ends subs lotsOf isIn enters cnt WideI Tree Wide pairsOf lacking ent Apart apartOf MinOf freeOf total Fewest)
theorem drp_eq : ∀ (ws : List (Str × Str)) (i : Nat), drp ws i = ws.eraseIdx i
  | [], i => rfl
  | w :: ws, i => by
    unfold drp
    rw [List.length_cons, List.range_succ_eq_map, List.filterMap_cons, List.filterMap_map]
    cases i with
    | zero =>
      rw [if_pos rfl]
      show (List.range ws.length).filterMap (fun j => if j + 1 = 0 then none else (w :: ws)[j + 1]?) = ws
      have : ((List.range ws.length).filterMap fun j => if j + 1 = 0 then none else (w :: ws)[j + 1]?) = (List.range ws.length).filterMap fun j => ws[j]?.map id := fm_congr fun j _ => by
        rw [if_neg (Nat.succ_ne_zero j), List.getElem?_cons_succ]
        cases ws[j]? <;> rfl
      rw [this, fm_map, List.map_id]
    | succ i =>
      rw [if_neg (by omega)]
      show w :: (List.range ws.length).filterMap (fun j => if j + 1 = i + 1 then none else (w :: ws)[j + 1]?) = _
      rw [List.eraseIdx_cons_succ, ← drp_eq ws i]
      unfold drp
      congr 1
      refine fm_congr fun j _ => ?_
      by_cases c : j = i
      · rw [if_pos (by omega), if_pos c]
      · rw [if_neg (by omega), if_neg c, List.getElem?_cons_succ]
theorem narrow_one {hs : List Str} {ws : List (Str × Str)} {r : Str} {m m' : Nat} (a : Narrow hs ws r m) (b : Narrow hs ws r m') : m = m' := by
  obtain ⟨⟨h, hh, M⟩, l⟩ := a
  obtain ⟨⟨h', hh', M'⟩, l'⟩ := b
  have := l h' hh' m' M'
  have := l' h hh m M
  omega
theorem narrow_few {hs : List Str} {ws : List (Str × Str)} {r : Str} {m : Nat} (a : Narrow hs ws r m) : m ≤ ws.length := by
  obtain ⟨⟨h, hh, M⟩, l⟩ := a
  obtain ⟨S, _, _, e⟩ := M.ex
  rw [← e]
  exact List.countP_le_length
section
variable {hs : List Str} {ws : List (Str × Str)} {r : Str} {k : Nat} {many : List (Str × Nat)}
theorem late_wide (FW : Fewest hs (oth hs r) r ws k many) : Wide hs r (lateW ws r many) k := fun S sr hx => by
  rw [K86M.ent_perm S (srt_perm _)]
  exact FW.wide S sr hx
/-- without one of the wires more: narrower than k -/
theorem less_narrow (ok : NetOk hs ws) (FW : Fewest hs (oth hs r) r ws k many) {x : Str × Str} (hx : x ∈ pairsOf r many) {i : Nat} (hi : (lateW ws r many)[i]? = some x) : ¬ Wide hs r (srt (drp (lateW ws r many) i)) k ∧ 0 < k := by
  obtain ⟨⟨h, m⟩, hm, e, h0⟩ := K86M.pairs_mem hx
  obtain ⟨S, sr, sh, es⟩ := FW.tight h m hm h0
  have hho : h ∈ oth hs r := by rw [← FW.keys]; exact List.mem_map.mpr ⟨_, hm, rfl⟩
  have e1 : ent S (lateW ws r many) = k := by rw [K86M.ent_perm S (srt_perm _), es]
  have p : (lateW ws r many).Perm (x :: drp (lateW ws r many) i) := by rw [drp_eq]; exact perm_pop hi
  have e2 : enters S x = true := by
    rw [e]
    unfold K86M.enters
    rw [sh, sr]
    rfl
  rw [K86M.ent_perm S p, K86M.ent_cons, if_pos e2] at e1
  refine ⟨fun hW => ?_, by omega⟩
  have := hW S sr ⟨h, (mem_oth.mp hho).1, sh⟩
  rw [K86M.ent_perm S (srt_perm _)] at this
  omega
theorem less_ok (ok : NetOk hs ws) (i : Nat) : NetOk hs (srt (drp ws i)) := by
  have sub : ∀ x ∈ drp ws i, x ∈ ws := fun x hx => by
    rw [drp_eq] at hx
    exact (List.eraseIdx_sublist ws i).mem hx
  exact ⟨ok.ne, ok.nm, ok.up, ok.fewH, fun w hw => ok.ends w (sub w (srt_mem.mp hw)), srt_up _, by
    rw [srt_length, drp_eq]
    exact Nat.le_trans (List.eraseIdx_sublist ws i).length_le ok.fewW⟩
end
section
variable {P : Program} {w : World} {K : PySem.W.Frag} {mg : Str → Option Value} {base : Heap} {f : Addr} {fd : FuncData}

def pr_L_is_grown (K : PySem.W.Frag) : Pr := pr5 fun n x kv wv lv H Q => ∃ (hs : List Str) (ws : List (Str × Str)) (r : Str) (k : Nat) (many : List (Str × Nat)) (a t : Addr) (o : Obj) (hv : V) (ys : List V), Is K H n (net hs ws) ∧ NetOk hs ws ∧ ws.length ≤ 60 ∧ x = .str r ∧ r ∈ hs ∧ kv = .int (k : Int) ∧ k ≤ 9 ∧ Is K H wv (Tup.mk (pairsOf r many)) ∧ Fewest hs (oth hs r) r ws k many ∧
  lv = .ref a ∧ SqT K H a [hv, .ref t] ∧ Is K H hv (Tup.mk hs) ∧ H t = some (.frz o (.tup ys)) ∧ o.dict = none ∧ o.cls = .type "tuple" ∧ IsAll K H ys (lateW ws r many) ∧ ∀ H', Same H H' → Q (.bl true) H'
theorem sc_L_is_grown : FnScope n_L_is_grown p_L_is_grown (defScope s_L_is_grown) := ⟨rfl, rfl, rfl, by decide +kernel, rfl, by decide +kernel, by decide +kernel⟩
theorem L_is_grown_ok (m : Bt mg) (c_with_wire : Cal P w K mg base 5 "with_wire" [] (pr_with_wire K)) (c_bundle : Cal P w K mg base 6 "bundle" [] (pr_bundle K)) (c_width : Cal P w K mg base 6 "width" [] (pr_width K)) (c_L_width : Cal P w K mg base 3 "_law_width" [] (pr_L_width K)) (c_without_wire : Cal P w K mg base 5 "without_wire" [] (pr_without_wire K)) (c_can_carry : Cal P w K mg base 6 "can_carry" [] (pr_can_carry K)) (D : Dfn K mg "_law_is_grown" s_L_is_grown [] f fd) : Cal P w K mg base 7 "_law_is_grown" [] (pr_L_is_grown K) := by
  refine D.cal sc_L_is_grown (fun vs H Q h => len5 h) (fun _ _ _ _ _ _ us hl => match us, hl with | [_, _, _, _, _], _ => rfl) fun cdv A outer s H vs Q hr h => ?_
  obtain ⟨n, _, _, wv, _, rfl, hs, ws, r, k, many, a, t, o, hv, ys, hn, ok, w60, rfl, hrm, rfl, hk9, hw, FW, rfl, aq, hhv, et, od, oc, hys, q⟩ := inv5 h
  have fw := ok.fewW
  have fh := ok.fewH
  have tot := Fewest.tot ok FW hk9
  have okl := late_ok ok w60 hrm FW.keys tot
  have pl : (pairsOf r many).length = total many := K86M.pairs_len r many
  have hl : Is K H (.ref a) (net hs (lateW ws r many)) := is_pair aq hhv (is_tup (.inl (.inr ⟨o, et⟩)) hys)
  have wideL := late_wide FW
  obtain ⟨wa, wvs, rfl, wq, wh⟩ := hw.tup
  have wl : wvs.length = (pairsOf r many).length := wh.length
  have shN : Shows (Datum.toD (net hs (lateW ws r many))) := (so_net okl).shows (by omega) (by omega)
  refine ⟨_, pss_cons (ps_set (i := 5) sc_L_is_grown.nd rfl (Or.inl rfl) (pv 0))
    (pss_cons (ps_for PassesOwn.never rfl (pi_tup (pv 3)) (pg_name (i := 6) sc_L_is_grown.nd rfl (.inl rfl)) (pss_one (ps_set (i := 5) sc_L_is_grown.nd rfl (Or.inl rfl) (p_call c_with_wire hr (pa_cons (pv 5) (pa_cons (pv 6) pa_nil))))))
    (pss_cons (ps_if (pw_or (pt_cmpR op_ne (p_repr m hr (pa_cons (pv 5) pa_nil)) (p_repr m hr (pa_cons (pv 4) pa_nil)) (nomark _)) (pw_or (pt_cmp (pc_isN (p_call c_bundle hr (pa_cons (pv 4) (pa_cons (pv 1) (pa_cons (pv 2) pa_nil))))))
        (pw_or1 (pt_cmpR op_ne (p_len m (pa_cons (p_call c_bundle hr (pa_cons (pv 4) (pa_cons (pv 1) (pa_cons (pv 2) pa_nil)))) pa_nil)) (pv 2) (nomark _))))).pt pss_never pss_nil)
    (pss_cons (ps_if (pt_cmpR op_ne (p_repr m hr (pa_cons (p_call c_width hr (pa_cons (pv 4) (pa_cons (pv 1) pa_nil))) pa_nil)) (p_repr m hr (pa_cons (p_call c_L_width hr (pa_cons (pv 4) (pa_cons (pv 1) pa_nil))) pa_nil)) (nomark _)) pss_never pss_nil)
    (pss_cons (ps_if (pt_cmpR (op_eqT (α := Tup (Str × Str)) hr.u) (pv 3) (pe_tup pa_nil) (nomark _)) (pss_one (ps_ret pe_bl)) pss_nil)
    (pss_cons (ps_set (i := 7) sc_L_is_grown.nd rfl (Or.inl rfl) (p_call c_without_wire hr (pa_cons (pv 4) (pa_cons (pe_tIdx (α := Str × Str) hr.u (pe_ix ix_tup (pv 4) pe_int (fun _ _ => rfl)) (pa_cons (pe_ix (ix_lastT (α := Str × Str)) (pv 3) (pe_un un_neg pe_int) (fun _ _ => rfl)) pa_nil)) pa_nil))))
    (pss_one (ps_ret (pe_and (pe_cmp (pc_isN (p_call c_bundle hr (pa_cons (pv 7) (pa_cons (pv 1) (pa_cons (pv 2) pa_nil)))))) (pe_one (pe_not (p_call c_can_carry hr (pa_cons (pv 7) (pa_cons (pv 1) (pa_cons (pe_tup (pa_cons (pv 2) (pa_cons pe_int (pa_cons pe_int (pa_cons pe_int pa_nil))))) pa_nil)))))))))))))), ?_⟩
  have mids : ∀ i, NetOk hs (srt (ws ++ (pairsOf r many).take i)) := fun i =>
    ⟨ok.ne, ok.nm, ok.up, ok.fewH, fun x hx => by
      rcases List.mem_append.mp (srt_mem.mp hx) with h | h
      · exact ok.ends x h
      · obtain ⟨e1, e2, e3⟩ := pairs_in FW.keys (List.mem_of_mem_take h)
        exact ⟨by rw [e1]; exact hrm, e2, by rw [e1]; exact Ne.symm e3⟩, srt_up _, by rw [srt_length, List.length_append, List.length_take]; omega⟩
  refine ⟨_, rfl, ?_⟩
  refine ⟨_, rfl, wa, rfl, ⟨_, wq⟩, for_it (walk_tup (xs := wvs)) (fun i σ H1 => ∃ sv o6, σ = [some n, some (.str r), some (.int (k : Int)), some (.ref wa), some (.ref a), some sv, o6, none] ∧ Same H H1 ∧ Is K H1 sv (net hs (srt (ws ++ (pairsOf r many).take i))))
    ⟨n, none, rfl, same_refl _, ?_⟩ (fun i σ H1 _ ⟨_, _, _, s1, _⟩ => sqT_same s1 wq) ?_ ?_⟩
  · rw [List.take_zero, List.append_nil, srt_of_up ok.upW]
    exact hn
  · rintro i x σ H1 H2 hi ⟨sv, o6, rfl, s1, hsv⟩ ⟨rfl, hx⟩
    obtain ⟨wr, hw1, hw2⟩ := (wh.same s1).at hx
    have hw1 : (pairsOf r many)[i]? = some wr := hw1
    obtain ⟨e1, e2, e3⟩ := pairs_in FW.keys (List.mem_of_getElem? hw1)
    refine ⟨_, rfl, _, rfl, hs, _, wr, hsv, mids i, hw2, by rw [e1]; exact hrm, e2, by rw [e1]; exact Ne.symm e3, fun v H3 s3 hv3 => ?_⟩
    refine ⟨v, _, rfl, same_tr s1 s3, ?_⟩
    rw [take_snoc hw1, ← List.append_assoc, srt_same ((srt_perm (ws ++ (pairsOf r many).take i)).symm.append_right [wr])]
    exact hv3
  · rintro σ H1 ⟨sv, o6, rfl, s1, hsv⟩
    rw [wl, List.take_length] at hsv
    have ⟨sa, _, _, es, _⟩ := hsv.pair
    subst es
    refine ⟨_, rfl, _, rfl, .inl ⟨sa, Datum.toD (net hs (lateW ws r many)), rfl, hsv, shN, ?_⟩⟩
    refine ⟨_, rfl, _, rfl, .inl ⟨a, Datum.toD (net hs (lateW ws r many)), rfl, hl.same s1, shN, rfl, _, rfl, ?_⟩⟩
    rw [show decide (V.str (Datum.toD (net hs (lateW ws r many))).shown = V.str (Datum.toD (net hs (lateW ws r many))).shown) = true from decide_eq_true rfl]
    refine ⟨_, rfl, _, rfl, _, rfl, hs, lateW ws r many, r, k, hl.same s1, okl, rfl, hrm, rfl, hk9, fun hW => absurd wideL hW, fun _ v2 H2 ts s2 hv2 tl => ?_⟩
    obtain ⟨ba, bv, rfl, bq, bh⟩ := hv2.tup
    have s12 := same_tr s1 s2
    refine ⟨_, rfl, ?_⟩
    refine ⟨_, rfl, _, rfl, _, rfl, hs, lateW ws r many, r, k, hl.same s12, okl, rfl, hrm, rfl, hk9, fun hW => absurd wideL hW, fun _ v3 H3 ts3 s3 hv3 tl3 => ?_⟩
    obtain ⟨ca, cv, rfl, cq, ch⟩ := hv3.tup
    have cl : cv.length = k := by rw [ch.length]; exact tl3
    have s13 := same_tr s12 s3
    refine ⟨ca, cv, rfl, .inr cq, _, rfl, rfl, _, rfl, ?_⟩
    rw [cl, show decide (V.int (k : Int) = V.int (k : Int)) = true from decide_eq_true rfl]
    have log : ∀ mm : Nat, mm ≤ 100 → (mm : Int).natAbs.log2 < 1920 := fun mm h => by
      have h2 : (mm : Int).natAbs < 2 ^ 7 := by
        have e : (2 : Nat) ^ 7 = 128 := by decide
        omega
      have := PySem.Flt.log2_lt_of (k := 7) (by decide) h2
      omega
    -- the rest, behind the widths
    have rest : ∀ H4, Same H H4 → ∀ (T : Prop), T → T := fun _ _ _ h => h
    refine ⟨_, rfl, _, rfl, hs, lateW ws r many, r, hl.same s13, okl, rfl, hrm, fun eo H4 s4 => ?_, fun H4 mm s4 N => ?_⟩
    · refine ⟨_, rfl, .inr (.inr ⟨rfl, ?_⟩)⟩
      refine ⟨_, rfl, _, rfl, hs, lateW ws r many, r, hl.same (same_tr s13 s4), okl, rfl, fun _ H5 s5 => ?_, fun H5 mm s5 N => ?_⟩
      · refine ⟨_, rfl, .inr (.inr ⟨rfl, rfl, _, rfl, ?_⟩)⟩
        rw [show decide (V.str (Str.ofString "None") = V.str (Str.ofString "None")) = true from decide_eq_true rfl]
        have s15 := same_tr s13 (same_tr s4 s5)
        have pe : pairsOf r many = [] := by
          have : many = [] := List.map_eq_nil_iff.mp (FW.keys.trans eo)
          rw [this]
          rfl
        refine ⟨_, rfl, Nat.zero_le _, fun p np => ?_⟩
        refine ⟨Tup.mk (pairsOf r many), Tup.mk [], (hw.same s15).same (same_new np), is_tup (SqT.of upd_same) .nil, _, rfl, ?_⟩
        rw [decide_eq_true (by rw [pe])]
        exact q _ (same_tr s15 (same_new np))
      · obtain ⟨⟨h, hh, _⟩, _⟩ := N
        rw [eo] at hh
        cases hh
    · refine ⟨_, rfl, .inr (.inl ⟨(mm : Int), rfl, log mm (Nat.le_trans (narrow_few N) okl.fewW), ?_⟩)⟩
      refine ⟨_, rfl, _, rfl, hs, lateW ws r many, r, hl.same (same_tr s13 s4), okl, rfl, fun eo H5 s5 => ?_, fun H5 mm2 s5 N2 => ?_⟩
      · obtain ⟨⟨h, hh, _⟩, _⟩ := N
        rw [eo] at hh
        cases hh
      obtain rfl := narrow_one N N2
      refine ⟨_, rfl, .inr (.inl ⟨(mm : Int), rfl, log mm (Nat.le_trans (narrow_few N) okl.fewW), rfl, _, rfl, ?_⟩)⟩
      rw [show decide (V.str (Str.ofString (toString (mm : Int))) = V.str (Str.ofString (toString (mm : Int)))) = true from decide_eq_true rfl]
      have s15 := same_tr s13 (same_tr s4 s5)
      refine ⟨_, rfl, Nat.zero_le _, fun p np => ?_⟩
      have sp := same_new (o := .tup []) np
      refine ⟨Tup.mk (pairsOf r many), Tup.mk [], (hw.same s15).same sp, is_tup (SqT.of upd_same) .nil, _, rfl, ?_⟩
      have s16 := same_tr s15 sp
      by_cases ce : pairsOf r many = []
      · rw [decide_eq_true (by rw [ce])]
        exact q _ s16
      · rw [decide_eq_false (fun z => ce (by injection z))]
        obtain ⟨init, lst, el⟩ : ∃ init lst, pairsOf r many = init ++ [lst] := ⟨_, _, (List.dropLast_concat_getLast ce).symm⟩
        have hlm : lst ∈ pairsOf r many := by rw [el]; exact List.mem_append_right _ (List.mem_singleton.mpr rfl)
        have hlL : lst ∈ lateW ws r many := srt_mem.mpr (List.mem_append_right _ hlm)
        have hw6 := hw.same s16
        rw [el] at hw6
        refine ⟨_, rfl, _, rfl, a, _, 1, .ref t, rfl, rfl, sqT_same s16 aq, at1, ?_⟩
        refine ⟨t, o, ys, rfl, s16 _ _ et, od, oc, ?_⟩
        refine ⟨_, rfl, 1, rfl, init, lst, hw6, rfl, fun u hu => ?_⟩
        refine ⟨u, lateW ws r many, lst, rfl, hys.same s16, s16 _ _ et, hu, hlL, ?_⟩
        obtain ⟨ix, eix⟩ : ∃ ix, ix = @List.idxOf (Str × Str) instBEqOfDecidableEq lst (lateW ws r many) := ⟨_, rfl⟩
        have hix : ix < (lateW ws r many).length := by
          rw [eix]
          exact (@List.idxOf_lt_length_iff (Str × Str) instBEqOfDecidableEq _ _ _).mpr hlL
        have hat : (lateW ws r many)[ix]? = some lst := by
          rw [List.getElem?_eq_getElem hix]
          subst eix
          rw [@List.getElem_idxOf (Str × Str) instBEqOfDecidableEq]
        obtain ⟨nW, kpos⟩ := less_narrow ok FW hlm hat
        have okd := less_ok okl ix
        refine ⟨hs, lateW ws r many, ix, hl.same s16, okl, by rw [eix], hix, fun v7 H7 s7 hv7 => ?_⟩
        refine ⟨_, rfl, _, rfl, _, rfl, hs, _, r, k, hv7, okd, rfl, hrm, rfl, hk9, fun _ H8 s8 => ?_, fun hW => absurd hW nW⟩
        refine ⟨_, rfl, ?_⟩
        refine ⟨_, rfl, _, rfl, _, rfl, by show 4 ≤ sizeLine; decide, fun p9 np9 => ?_⟩
        have s9 := same_new (o := .tup [.int (k : Int), .int 0, .int 0, .int 0]) np9
        refine ⟨hs, _, r, (k : Int), 0, 0, 0, k, hv7.same (same_tr s8 s9), okd, rfl, hrm, is_tup (SqT.of upd_same) (.cons (is_int _) (.cons (is_int _) (.cons (is_int _) (.cons (is_int _) .nil)))), by omega, by omega, by omega, by omega, by omega, fun b H10 s10 hb => ?_⟩
        have hbf : b = false := by
          cases b with
          | false => rfl
          | true => exact absurd (hb.mp rfl) nW
        subst hbf
        exact ⟨_, rfl, q _ (same_tr s16 (same_tr s7 (same_tr s8 (same_tr s9 s10))))⟩
end
end K86

end

section
set_option Elab.async false
set_option linter.all false
set_option maxRecDepth 100000
set_option maxHeartbeats 2000000
/-! The walks of the law: is it a paper. -/
namespace K86
open PySem PySem.Spec PyProof.Rows L2
open PySem.W (Datum DatumOrd Tup T3 T4 Holds HoldAll)
open K86M (tlW hdW Ends subs lotsOf isIn enters cnt WideI Tree Wide pairsOf lacking ent Apart apartOf MinOf freeOf total Fewest)
theorem items_nd {L : List (Tup Str)} (nd : L.Nodup) : (L.map (·.items)).Nodup := by
  rw [List.Nodup, List.pairwise_map]
  refine List.Pairwise.imp (fun {a b} hne e => hne ?_) nd
  cases a
  cases b
  dsimp only at e
  rw [e]
theorem mks_items (L : List (Tup Str)) : mks (L.map (·.items)) = L := by
  unfold mks
  rw [List.map_map]
  exact List.map_id L
/-- what the lots of a paper are good for -/
theorem lots_plain {hs : List Str} {ws : List (Str × Str)} {r : Str} {k : Nat} {many : List (Str × Nat)} {L : List (Tup Str)} (ok : NetOk hs ws) (FW : Fewest hs (oth hs r) r ws k many) (LO : LotsOk hs ws r many L) :
    LotsGood hs r L ∧ lacking ws k (L.map (·.items)) = (total many : Int) ∧ ∃ F ∈ apartOf (lotsOf (oth hs r)), F.Perm (L.map (·.items)) := by
  have ndo : (oth hs r).Nodup := ok.nd.sublist List.filter_sublist
  obtain ⟨hA, h1, h2, h3⟩ := K86M.lacking_eq FW (srt_perm (ws ++ pairsOf r many)) (items_nd LO.nd) (fun lot hl => by
    obtain ⟨t, ht, rfl⟩ := List.mem_map.mp hl
    exact LO.each t ht) (fun h m hm h0 => by
    obtain ⟨t, ht, hh⟩ := LO.all h m hm h0
    exact ⟨t.items, List.mem_map.mpr ⟨t, ht, rfl⟩, hh⟩) fun x hx => (mem_oth.mp hx).1
  have ne : ∀ t ∈ L, t.items ≠ [] := fun t ht e => by
    obtain ⟨_, x, _, hx⟩ := h1 t.items (List.mem_map.mpr ⟨t, ht, rfl⟩)
    rw [e] at hx
    cases hx
  refine ⟨⟨fun t ht => ⟨ne t ht, fun x hx => ?_, ?_⟩, hA, Nat.le_trans LO.few (by omega)⟩, h3, ?_⟩
  · have e := h2 t.items (List.mem_map.mpr ⟨t, ht, rfl⟩)
    have ro := (h1 t.items (List.mem_map.mpr ⟨t, ht, rfl⟩)).1
    refine ⟨?_, fun z => ro (z ▸ hx)⟩
    rw [e] at hx
    exact (List.mem_filter.mp hx).1
  · rw [h2 t.items (List.mem_map.mpr ⟨t, ht, rfl⟩)]
    exact ok.up.filter _
  · refine K86M.apart_perm (K86M.lotsOf_nodup ndo) (items_nd LO.nd) (fun lot hl => ?_) hA
    obtain ⟨t, ht, rfl⟩ := List.mem_map.mp hl
    refine (K86M.mem_lotsOf ndo).mpr ⟨?_, ne t ht⟩
    have e := h2 t.items hl
    have ro := (h1 t.items hl).1
    unfold oth
    rw [List.filter_filter]
    refine e.trans (List.filter_congr fun x hx => ?_)
    by_cases c : x = r
    · rw [c, K86M.isIn_no.mpr ro]
      rfl
    · simp [c]
section
variable {X : Cx} {p pos : Pos} {e tg : Expr} {es : List Expr} {te : TE} {t : TA}
theorem p_lenR {r : List V → Hp → VK → Prop} (m : Bt X.mg) (hr : CallR X (.builtin "len") r) (ha : PA X (e :: es) t) (hg : Gl X "len" := by rfl) (he : starEach (e :: es) X.env = (false, eval e X.env) :: starEach es X.env := by rfl) (hpl : (backTo pos (starEach es X.env)).any (·.1) = false := by rfl) :
    PE X (.Call (.Name "len" p) (e :: es) [] pos) (tCB r t) := pe_callB hr hg m.len b_len ha (by decide) (by decide) he hpl
theorem p_sortedK {α : Type} [DecidableEq α] [DatumOrd α] [Lin α] [Flat α] (K : PySem.W.Frag) (m : Bt X.mg) (hu : X.A.units + 64 < cLine) (ha : PA X (e :: es) t) (hK : X.K = K := by rfl) (hd : Datum.depth α ≤ 60 := by decide) (hg : Gl X "sorted" := by rfl) (he : starEach (e :: es) X.env = (false, eval e X.env) :: starEach es X.env := by rfl) (hpl : (backTo pos (starEach es X.env)).any (·.1) = false := by rfl) :
    PE X (.Call (.Name "sorted" p) (e :: es) [] pos) (tCB (rSrtT K α) t) := by
  subst hK
  exact p_sorted m (cr_srtT hu hd) ha hg he hpl
end
/-- a comprehension that gives new lists of flat data -/
theorem lc_lists {K : PySem.W.Frag} {α : Type} [DecidableEq α] [Datum α] [Flat α] {J : It} {n : Nat} {G : Hp → Prop} {Y : Nat → Hp → V → Hp → Prop} (w : Walk J n G Y) {g : TG} {tt : TT} {te : TE} {vs : List Nat} {σ : L2.St} {H1 : Hp} {D : Addr} {Qd : Hp → Prop} (f : Nat → List α) (hD : H1 D = none) (hn : n ≤ 1000000)
    (hG : ∀ H, Same H1 H → G H)
    (hs : ∀ (i : Nat) (x : V) (H H' : Hp) (Ky : VK) (Kn : Hp → Prop), i < n → Same H1 H → Y i H x H' → (∀ p out, H' p = none → IsAll K H' out (f i) → Ky (.ref p) (upd H' p (.lst out))) → Same H H' →
      g x (wipe σ vs) H' fun σ2 H2 => wipe σ2 vs = wipe σ vs ∧ tt σ2 H2 fun b H3 => if b = true then te σ2 H3 Ky else Kn H3) (hY : ∀ i H x H', Y i H x H' → H' = H)
    (hd : ∀ H ys, Same H1 H → H D = some (.lst ys) → IsAll K H ys ((List.range n).map f) → Qd H) :
    ∃ W : Nat → Nat → Hp → Prop, (∃ m, W 0 m (upd H1 D (.lst []))) ∧ ∀ i m H, W i m H →
      (J.stop i H ∧ Qd H) ∨ (J.go i H ∧ ∃ Nx : Hp → Prop, (∀ H', Nx H' → ∃ m', m' < m ∧ W (i + 1) m' H') ∧ ∀ x H', J.yld i H x H' → g x (wipe σ vs) H' fun σ2 H2 => wipe σ2 vs = wipe σ vs ∧ tt σ2 H2 fun b H3 =>
        if b = true then te σ2 H3 fun y H4 => ∃ acc, H4 D = some (.lst acc) ∧ acc.length < sizeLine ∧ Nx (upd H4 D (.lst (acc ++ [y]))) else Nx H3) := by
  refine lc_it w (fun i H => ∃ ps : List (Addr × List V), Same H1 H ∧ H D = some (.lst (ps.map fun q => V.ref q.1)) ∧ ps.length = i ∧ ∀ j q, ps[j]? = some q → q.1 ≠ D ∧ H q.1 = some (.lst q.2) ∧ IsAll K H q.2 (f j)) ⟨[], same_new hD, upd_same, rfl, fun j q h => by simp at h⟩ (fun i H _ ⟨_, s, _⟩ => hG H s) ?_ ?_
  · intro i x H H' hi ⟨ps, s, e, l, r⟩ hy
    have eH := hY i H x H' hy
    subst eH
    refine hs i x H' H' _ _ hi s hy (fun p out np hout => ?_) (same_refl _)
    have sp := same_new (o := .lst out) np
    have e4 := sp _ _ e
    have hpD : p ≠ D := fun z => by rw [z, e] at np; cases np
    refine ⟨_, e4, by rw [List.length_map, l, sizeLine_eq]; omega, ps ++ [(p, out)], same_at (same_tr s sp) hD, by rw [upd_same, List.map_append]; rfl, by rw [List.length_append, l]; rfl, fun j q hj => ?_⟩
    have kD := keep_lst (o := .lst ((ps.map fun q => V.ref q.1) ++ [.ref p])) e4
    rcases Nat.lt_or_ge j ps.length with z | z
    · rw [List.getElem?_append_left z] at hj
      obtain ⟨h1, h2, h3⟩ := r j q hj
      exact ⟨h1, by rw [upd_ne h1]; exact sp _ _ h2, (h3.same sp).keep kD⟩
    · rw [List.getElem?_append_right z] at hj
      have hz : j - ps.length = 0 := by
        have := (List.getElem?_eq_some_iff.mp hj).1
        rw [List.length_singleton] at this
        omega
      rw [hz] at hj
      obtain rfl := Option.some.inj hj
      have ej : j = i := by omega
      subst ej
      exact ⟨hpD, by rw [upd_ne hpD]; exact upd_same, (hout.same sp).keep kD⟩
  · intro H ⟨ps, s, e, l, r⟩
    refine hd H _ s e (isAll_of (by rw [List.length_map, List.length_map, List.length_range, l]) fun j v x h1 h2 => ?_)
    rw [List.getElem?_map] at h1 h2
    cases hq : ps[j]? with
    | none => rw [hq] at h1; cases h1
    | some q =>
      rw [hq] at h1
      obtain rfl : V.ref q.1 = v := Option.some.inj h1
      obtain ⟨_, g2, g3⟩ := r j q hq
      have hjn : j < n := by
        have := (List.getElem?_eq_some_iff.mp hq).1
        omega
      rw [List.getElem?_range hjn] at h2
      obtain rfl : f j = x := Option.some.inj h2
      exact is_lst (SqL.of g2) g3
end K86

end

section
set_option Elab.async false
set_option linter.all false
set_option maxRecDepth 100000
set_option maxHeartbeats 2000000
/-! The walks of the law: is it a paper; how it is judged. -/
namespace K86
open PySem PySem.Spec PyProof.Rows L2
open PySem.W (Datum DatumOrd Tup T3 T4 Holds HoldAll)
open K86M (tlW hdW Ends subs lotsOf isIn enters cnt WideI Tree Wide pairsOf lacking ent Apart apartOf MinOf freeOf total Fewest)
section
variable {P : Program} {w : World} {K : PySem.W.Frag} {mg : Str → Option Value} {base : Heap} {f : Addr} {fd : FuncData}

def pr_L_is_paper (K : PySem.W.Frag) : Pr := pr4 fun n x kv pv' H Q => ∃ (hs : List Str) (ws : List (Str × Str)) (r : Str) (k : Nat) (many : List (Str × Nat)) (L : List (Tup Str)), Is K H n (net hs ws) ∧ NetOk hs ws ∧ ws.length ≤ 60 ∧ x = .str r ∧ r ∈ hs ∧ kv = .int (k : Int) ∧ k ≤ 9 ∧ Is K H pv' (paper r many L) ∧ Fewest hs (oth hs r) r ws k many ∧ LotsOk hs ws r many L ∧
  ∀ H', Same H H' → Q (.bl true) H'
theorem sc_L_is_paper : FnScope n_L_is_paper p_L_is_paper (defScope s_L_is_paper) := ⟨rfl, rfl, rfl, by decide +kernel, rfl, by decide +kernel, by decide +kernel⟩
theorem L_is_paper_ok (m : Bt mg) (c_L_are_more : Cal P w K mg base 4 "_law_are_more" [] (pr_L_are_more K)) (c_L_apart : Cal P w K mg base 3 "_law_apart" [] (pr_L_apart K)) (c_L_lacking : Cal P w K mg base 2 "_law_lacking" [] (pr_L_lacking K)) (D : Dfn K mg "_law_is_paper" s_L_is_paper [] f fd) : Cal P w K mg base 5 "_law_is_paper" [] (pr_L_is_paper K) := by
  refine D.cal sc_L_is_paper (fun vs H Q h => len4 h) (fun _ _ _ _ _ _ us hl => match us, hl with | [_, _, _, _], _ => rfl) fun cdv A outer s H vs Q hr h => ?_
  obtain ⟨n, _, _, pv', rfl, hs, ws, r, k, many, L, hn, ok, w60, rfl, hrm, rfl, hk9, hp, FW, LO, q⟩ := inv4 h
  have fw := ok.fewW
  have lol := oth_len (r := r) ok
  have ndo : (oth hs r).Nodup := ok.nd.sublist List.filter_sublist
  obtain ⟨GL, elack, F, hF, pF⟩ := lots_plain ok FW LO
  have pl : (pairsOf r many).length = total many := K86M.pairs_len r many
  have fL := LO.few
  have ⟨pa, u1, u2, u3, ea, pq, h1, h2, h3⟩ := hp.t3
  subst ea
  obtain rfl := h1.str
  obtain ⟨xa, xv, rfl, xq, xh⟩ := h2.tup
  obtain ⟨la, lvs, rfl, lq, lh⟩ := h3.tup
  have xl : xv.length = (pairsOf r many).length := xh.length
  have ll : lvs.length = L.length := lh.length
  have neL : ∀ t ∈ L, t.items ≠ [] := fun t ht => (GL.each t ht).1
  refine ⟨_, pss_cons (ps_if (pw_or (pt_not (pt_val (p_isi m (pa_cons (pv 3) (pa_cons (pe_ty m.tuple b_tuple) pa_nil))))) (pw_or (pt_cmpR op_ne (p_len m (pa_cons (pv 3) pa_nil)) pe_int (nomark _))
        (pw_or1 (pt_cmpR op_ne (pe_ix (ix_3a (α := Str) (β := Tup (Str × Str)) (γ := Tup (Tup Str))) (pv 3) pe_int (fun _ _ => rfl)) pe_str (nomark _))))).pt pss_never pss_nil)
    (pss_cons (ps_if (pw_or (pt_not (pt_val (p_isi m (pa_cons (pe_ix (ix_3b (α := Str) (β := Tup (Str × Str)) (γ := Tup (Tup Str))) (pv 3) pe_int (fun _ _ => rfl)) (pa_cons (pe_ty m.tuple b_tuple) pa_nil))))) (pw_or1 (pt_not (pt_val (p_isi m (pa_cons (pe_ix (ix_3c (α := Str) (β := Tup (Str × Str)) (γ := Tup (Tup Str))) (pv 3) pe_int (fun _ _ => rfl)) (pa_cons (pe_ty m.tuple b_tuple) pa_nil))))))).pt pss_never pss_nil)
    (pss_cons (ps_if (pw_or (pt_cmp (pc_isN (p_call c_L_are_more hr (pa_cons (pv 0) (pa_cons (pv 1) (pa_cons (pv 2) (pa_cons (pe_ix (ix_3b (α := Str) (β := Tup (Str × Str)) (γ := Tup (Tup Str))) (pv 3) pe_int (fun _ _ => rfl)) pa_nil)))))))
        (pw_or1 (pt_cmpR op_ne (p_lenR m cr_lenW (pa_cons (p_set m (cr_setW rfl hr.u) (pa_cons (pe_ix (ix_3c (α := Str) (β := Tup (Str × Str)) (γ := Tup (Tup Str))) (pv 3) pe_int (fun _ _ => rfl)) pa_nil)) pa_nil)) (p_len m (pa_cons (pe_ix (ix_3c (α := Str) (β := Tup (Str × Str)) (γ := Tup (Tup Str))) (pv 3) pe_int (fun _ _ => rfl)) pa_nil)) (nomark _)))).pt pss_never pss_nil)
    (pss_cons (ps_setLc (i := 4) (own := [("_law_lots_here", 5)]) (g := gName 5) (tt := tYes) rfl sc_L_is_paper.nd rfl rfl (sw_true rfl rfl rfl (by decide +kernel)) (pi_list (p_call c_L_apart hr (pa_cons (pv 0) (pa_cons (pv 1) pa_nil)))) (blkOk_by (N := n_L_is_paper) (sc := defScope s_L_is_paper) (by decide +kernel)) (fun _ _ _ _ _ => (pg_name (i := 5) sc_L_is_paper.nd rfl (.inl rfl))) (fun _ _ _ _ _ => pts_nil)
      (fun _ _ _ _ _ => p_sortedK (α := Tup Str) K m hr.u (pa_cons (pv 5) pa_nil)))
    (pss_one (ps_ret (pe_and (pe_cmpR (op_inL (α := List (Tup Str)) hr.u) (p_sorted m (cr_srtT (α := Tup Str) hr.u) (pa_cons (pe_ix (ix_3c (α := Str) (β := Tup (Str × Str)) (γ := Tup (Tup Str))) (pv 3) pe_int (fun _ _ => rfl)) pa_nil)) (pv 4) rfl)
      (pe_one (pe_cmpR op_eq (p_call c_L_lacking hr (pa_cons (pv 0) (pa_cons (pe_ix (ix_3c (α := Str) (β := Tup (Str × Str)) (γ := Tup (Tup Str))) (pv 3) pe_int (fun _ _ => rfl)) (pa_cons (pv 2) pa_nil)))) (p_len m (pa_cons (pe_ix (ix_3b (α := Str) (β := Tup (Str × Str)) (γ := Tup (Tup Str))) (pv 3) pe_int (fun _ _ => rfl)) pa_nil)) (nomark _))))))))), ?_⟩
  refine ⟨_, rfl, _, _, _, true, rfl, ty_tup pq, by decide +kernel, true, rfl, ?_⟩
  refine ⟨_, rfl, pa, _, rfl, .inr pq, rfl, false, rfl, ?_⟩
  refine ⟨_, rfl, _, hp, rfl, fun v1 hv1 => ?_⟩
  obtain rfl := hv1.str
  refine ⟨rfl, _, rfl, ?_⟩
  rw [show decide (V.str (paper r many L).a = V.str (Str.ofString "more")) = true from decide_eq_true rfl]
  refine ⟨_, rfl, _, hp, rfl, fun v2 hv2 => ?_⟩
  obtain ⟨a2, w2, rfl, q2, _⟩ := hv2.tup
  refine ⟨_, _, _, true, rfl, ty_tup q2, by decide +kernel, true, rfl, ?_⟩
  refine ⟨_, rfl, _, hp, rfl, fun v3 hv3 => ?_⟩
  obtain ⟨a3, w3, rfl, q3, _⟩ := hv3.tup
  refine ⟨_, _, _, true, rfl, ty_tup q3, by decide +kernel, true, rfl, ?_⟩
  refine ⟨_, rfl, _, rfl, _, rfl, _, rfl, _, hp, rfl, fun v4 hv4 => ?_⟩
  refine ⟨hs, ws, r, k, many, hn, ok, w60, rfl, hrm, rfl, hk9, hv4, FW, fun a5 t5 o5 hv5 ys5 H1 s1 _ _ _ _ _ _ => ?_⟩
  refine ⟨_, rfl, ?_⟩
  have hp1 := hp.same s1
  refine ⟨_, rfl, _, hp1, rfl, fun v6 hv6 => ?_⟩
  obtain ⟨a6, w6, rfl, q6, g6⟩ := hv6.tup
  refine ⟨a6, w6, L, rfl, .inr q6, g6, fL, fun S L2 nS nd2 is2 mem2 => ?_⟩
  refine ⟨S, L2, rfl, upd_same, ?_⟩
  have sS := same_new (o := SetWO P w S L2) nS
  have s2 := same_tr s1 sS
  have l2 : L2.length = L.length := by
    have p : (L2.map (·.2)).Perm (L.map (·.items)) := K86M.perm_of_same nd2 (items_nd LO.nd) fun x => by
      rw [mem2 x]
      constructor
      · exact fun h => List.mem_map.mpr ⟨_, h, rfl⟩
      · intro h
        obtain ⟨t, ht, rfl⟩ := List.mem_map.mp h
        exact ht
    have := p.length_eq
    rw [List.length_map, List.length_map] at this
    exact this
  refine ⟨_, rfl, _, hp.same s2, rfl, fun v7 hv7 => ?_⟩
  obtain ⟨a7, w7, rfl, q7, g7⟩ := hv7.tup
  have l7 : w7.length = L.length := g7.length
  refine ⟨a7, w7, rfl, .inr q7, rfl, _, rfl, ?_⟩
  rw [l2, l7, show decide (V.int (L.length : Int) = V.int (L.length : Int)) = true from decide_eq_true rfl]
  refine ⟨_, rfl, _, rfl, hs, ws, r, hn.same s2, ok, rfl, fun v8 H3 s3 hv8 => ?_⟩
  obtain ⟨aa, av, rfl, aq, ah⟩ := hv8.lst
  have al : av.length = (apartOf (lotsOf (oth hs r))).length := by
    rw [ah.length]
    exact List.length_map ..
  have zlots : (lotsOf (oth hs r)).length ≤ 16 := Nat.le_trans (K86M.lotsOf_len _) (Nat.pow_le_pow_right (by decide) lol)
  have zap : (apartOf (lotsOf (oth hs r))).length ≤ 65536 := Nat.le_trans (K86M.apart_len _) (Nat.le_trans (Nat.pow_le_pow_right (by decide) zlots) (by decide))
  have s03 := same_tr s2 s3
  refine ⟨aa, rfl, ⟨_, aq⟩, fun D nD => lc_lists (K := K) (walk_list (xs := av)) (fun (j : Nat) => srt (mks ((apartOf (lotsOf (oth hs r))).getD j []))) nD (by omega) (fun H4 s4 => sqL_same s4 aq) ?_ (fun i H x H' h => h.1) ?_⟩
  · rintro j x H4 H5 Ky Kn hj s4 ⟨rfl, hx⟩ ky _
    obtain ⟨t, ht1, ht2⟩ := (ah.same s4).at hx
    obtain ⟨G, hG, rfl⟩ : ∃ G, (apartOf (lotsOf (oth hs r)))[j]? = some G ∧ mkk G = t := by
      rw [List.getElem?_map] at ht1
      cases e : (apartOf (lotsOf (oth hs r)))[j]? with
      | none => rw [e] at ht1; cases ht1
      | some G => rw [e] at ht1; exact ⟨G, rfl, Option.some.inj ht1⟩
    obtain ⟨ga, gv, rfl, gq, gh⟩ := ht2.tup
    have eG : (apartOf (lotsOf (oth hs r))).getD j [] = G := by rw [List.getD_eq_getElem?_getD, hG]; rfl
    rw [eG] at ky
    have neG : ∀ t ∈ mks G, t.items ≠ [] := fun t ht => by
      obtain ⟨l, hl, rfl⟩ := List.mem_map.mp ht
      exact ((K86M.mem_lotsOf ndo).mp ((K86M.apart_sound _ G (List.mem_of_getElem? hG)).2 l hl)).2
    exact ⟨rfl, _, rfl, ga, gv, mks G, rfl, .inr gq, gh, srtable_tup neG, fun p out np hout => ky p out np hout⟩
  intro H4 ys s4 e4 hys
  have s04 := same_tr s03 s4
  refine ⟨_, rfl, _, hp.same s04, rfl, fun v9 hv9 => ?_⟩
  obtain ⟨a9, w9, rfl, q9, g9⟩ := hv9.tup
  refine ⟨a9, w9, L, rfl, .inr q9, g9, srtable_tup neL, fun p out np hout => ?_⟩
  have sp := same_new (o := .lst out) np
  have s05 := same_tr s04 sp
  refine ⟨_, rfl, srt L, _, is_lst (SqL.of upd_same) (hout.same sp), (is_lst (SqL.of e4) hys : Is K H4 (.ref D) _).same sp, _, rfl, ?_⟩
  have hin : srt L ∈ (List.range av.length).map fun (j : Nat) => srt (mks ((apartOf (lotsOf (oth hs r))).getD j [])) := by
    obtain ⟨j, hj⟩ := List.getElem?_of_mem hF
    have hjl := (List.getElem?_eq_some_iff.mp hj).1
    refine List.mem_map.mpr ⟨j, List.mem_range.mpr (by omega), ?_⟩
    rw [List.getD_eq_getElem?_getD, hj]
    show srt (mks F) = srt L
    refine srt_same ?_
    have := pF.map Tup.mk
    have e : (L.map (·.items)).map (Tup.mk : List Str → Tup Str) = L := mks_items L
    rw [e] at this
    exact this
  have hd : ∀ inst : Decidable (srt L ∈ (List.range av.length).map fun (j : Nat) => srt (mks ((apartOf (lotsOf (oth hs r))).getD j []))), @decide _ inst = true := fun inst => @decide_eq_true _ inst hin
  rw [hd]
  refine ⟨_, rfl, _, rfl, _, hp.same s05, rfl, fun v10 hv10 => ?_⟩
  refine ⟨_, rfl, hs, ws, L, k, hn.same s05, ok, hv10, by omega, rfl, fun H6 s6 => ?_⟩
  have s06 := same_tr s05 s6
  refine ⟨_, rfl, _, hp.same s06, rfl, fun v11 hv11 => ?_⟩
  obtain ⟨a11, w11, rfl, q11, g11⟩ := hv11.tup
  have l11 : w11.length = (pairsOf r many).length := g11.length
  refine ⟨a11, w11, rfl, .inr q11, rfl, ?_⟩
  rw [elack, l11, pl, show decide (V.int (total many : Int) = V.int ((total many : Nat) : Int)) = true from decide_eq_true rfl]
  exact q _ s06

def pr_L_judged (K : PySem.W.Frag) : Pr := pr4 fun n x kv tv H Q => ∃ (hs : List Str) (ws : List (Str × Str)) (r : Str) (k : Nat) (xs : List (Str × Str)) (L : List (Tup Str)), Is K H n (net hs ws) ∧ NetOk hs ws ∧ x = .str r ∧ r ∈ hs ∧ kv = .int (k : Int) ∧ Is K H tv (paper3 xs L) ∧ WiresGood hs ws r k xs ∧
  LotsGood hs r L ∧ lacking ws k (L.map (·.items)) = (xs.length : Int) ∧ ∀ H', Same H H' → Q (.int (xs.length : Int)) H'
theorem sc_L_judged : FnScope n_L_judged p_L_judged (defScope s_L_judged) := ⟨rfl, rfl, rfl, by decide +kernel, rfl, by decide +kernel, by decide +kernel⟩
theorem L_judged_ok (m : Bt mg) (c_lets_more : Cal P w K mg base 8 "lets_more" [] (pr_lets_more K)) (D : Dfn K mg "_law_judged" s_L_judged [] f fd) : Cal P w K mg base 9 "_law_judged" [] (pr_L_judged K) := by
  refine D.cal sc_L_judged (fun vs H Q h => len4 h) (fun _ _ _ _ _ _ us hl => match us, hl with | [_, _, _, _], _ => rfl) fun cdv A outer s H vs Q hr h => ?_
  obtain ⟨n, _, _, tv, rfl, hs, ws, r, k, xs, L, hn, ok, rfl, hrm, rfl, ht, GW, GL, elack, q⟩ := inv4 h
  refine ⟨_, pss_one (ps_try_thru0 (pss_one (ps_ret (p_call c_lets_more hr (pa_cons (pv 0) (pa_cons (pv 1) (pa_cons (pv 2) (pa_cons (pv 3) pa_nil)))))))), ?_⟩
  exact ⟨_, rfl, _, rfl, _, rfl, _, rfl, hs, ws, r, k, xs, L, hn, ok, rfl, hrm, rfl, ht, GW, GL, elack, fun H1 s1 => q H1 s1⟩
end
end K86

end

section
set_option Elab.async false
set_option linter.all false
set_option maxRecDepth 100000
set_option maxHeartbeats 2000000
/-! Lots for the fewest wires more: there are some. -/
namespace K86
open PySem PySem.Spec PyProof.Rows L2
open PySem.W (Datum DatumOrd Tup T3 T4 Holds HoldAll)
open K86M (tlW hdW Ends isIn enters ent MinOf Great pairsOf total Fewest)
theorem great_ex {hs : List Str} {ws : List (Str × Str)} {r h : Str} (he : Ends hs ws) (hh : h ∈ hs) (hne : h ≠ r) : ∃ lot, Great hs ws r h lot := by
  have M := min_ex ws hne
  obtain ⟨S0, a1, a2, a3⟩ := M.ex
  obtain ⟨S, ⟨h1, h2, h3⟩, hmax⟩ := K86M.exists_least (fun S : Str → Bool => S r = false ∧ S h = true ∧ ent S ws = minAt ws r h) (fun S => hs.length - (hs.filter S).length) _ ⟨S0, ⟨a1, a2, a3⟩, Nat.le_refl _⟩
  have eS : ent (isIn (hs.filter S)) ws = ent S ws := K86M.ent_filter he S
  refine ⟨hs.filter S, List.filter_congr fun x hx => (K86M.isIn_filter hx).symm, fun z => ?_, List.mem_filter.mpr ⟨hh, h2⟩, by rw [eS, h3]; exact M, fun T t1 t2 t3 x hx tx => ?_⟩
  · have := (List.mem_filter.mp z).2
    rw [h1] at this
    cases this
  · refine List.mem_filter.mpr ⟨hx, ?_⟩
    cases c : S x with
    | true => rfl
    | false =>
      exfalso
      rw [eS, h3] at t3
      have sub := K86M.ent_sub S T ws
      have b1 := M.le (fun y => S y && T y) (by rw [h1]; rfl) (by rw [h2, t2]; rfl)
      have b2 := M.le (fun y => S y || T y) (by rw [h1, t1]; rfl) (by rw [h2]; rfl)
      have eU : ent (fun y => S y || T y) ws = minAt ws r h := by omega
      have m1 := hmax (fun y => S y || T y) ⟨by rw [h1, t1]; rfl, by rw [h2]; rfl, eU⟩
      have m2 := K86M.filter_lt (p := fun y => S y || T y) (q := S) (l := hs) (fun y _ hy => by rw [hy]; rfl) hx (by rw [tx, c]; rfl) c
      have m3 := List.length_filter_le (fun y => S y || T y) hs
      have m1 : hs.length - (hs.filter S).length ≤ hs.length - (hs.filter fun y => S y || T y).length := m1
      omega
theorem lots_ex {hs : List Str} {ws : List (Str × Str)} {r : Str} {k : Nat} {many : List (Str × Nat)} (ok : NetOk hs ws) (hrm : r ∈ hs) (FW : Fewest hs (oth hs r) r ws k many) : ∃ L, LotsOk hs ws r many L := by
  have he : Ends hs (srt (ws ++ pairsOf r many)) := wide_ok ok hrm FW.keys
  have key : ∀ hd : List Str, (∀ h ∈ hd, h ∈ oth hs r) → ∃ L : List (Tup Str), L.Nodup ∧ L.length ≤ hd.length ∧ (∀ t ∈ L, ∃ h ∈ hd, Great hs (srt (ws ++ pairsOf r many)) r h t.items) ∧ ∀ h ∈ hd, ∃ t ∈ L, h ∈ t.items := by
    intro hd
    induction hd with
    | nil => exact fun _ => ⟨[], List.nodup_nil, Nat.le_refl _, fun t ht => (List.not_mem_nil ht).elim, fun h hh => (List.not_mem_nil hh).elim⟩
    | cons z hd ih =>
      intro hz
      obtain ⟨L, n1, n2, n3, n4⟩ := ih fun h hh => hz h (List.mem_cons_of_mem _ hh)
      have zo := mem_oth.mp (hz z (List.mem_cons_self ..))
      obtain ⟨lot, g⟩ := great_ex he zo.1 zo.2
      by_cases c : (Tup.mk lot) ∈ L
      · refine ⟨L, n1, by rw [List.length_cons]; omega, fun t ht => ?_, fun h hh => ?_⟩
        · obtain ⟨h, hh, gg⟩ := n3 t ht
          exact ⟨h, List.mem_cons_of_mem _ hh, gg⟩
        · rcases List.mem_cons.mp hh with e | hh
          · rw [e]
            exact ⟨_, c, g.mem⟩
          · exact n4 h hh
      · refine ⟨Tup.mk lot :: L, List.nodup_cons.mpr ⟨c, n1⟩, by rw [List.length_cons, List.length_cons]; omega, fun t ht => ?_, fun h hh => ?_⟩
        · rcases List.mem_cons.mp ht with e | ht
          · rw [e]
            exact ⟨z, List.mem_cons_self .., g⟩
          · obtain ⟨h, hh, gg⟩ := n3 t ht
            exact ⟨h, List.mem_cons_of_mem _ hh, gg⟩
        · rcases List.mem_cons.mp hh with e | hh
          · rw [e]
            exact ⟨_, List.mem_cons_self .., g.mem⟩
          · obtain ⟨t, ht, hx⟩ := n4 h hh
            exact ⟨t, List.mem_cons_of_mem _ ht, hx⟩
  have mo : ∀ p ∈ many, p.1 ∈ oth hs r := fun p hp => by rw [← FW.keys]; exact List.mem_map.mpr ⟨p, hp, rfl⟩
  have ml : many.length ≤ 4 := by
    have := congrArg List.length FW.keys
    rw [List.length_map] at this
    have := oth_len (r := r) ok
    omega
  obtain ⟨L, n1, n2, n3, n4⟩ := key ((many.filter fun (p : Str × Nat) => decide (0 < p.2)).map fun (p : Str × Nat) => p.1) fun h hh => by
    obtain ⟨p, hp, rfl⟩ := List.mem_map.mp hh
    exact mo p (List.mem_filter.mp hp).1
  refine ⟨L, n1, ?_, fun t ht => ?_, fun h m hm h0 => n4 h (List.mem_map.mpr ⟨(h, m), List.mem_filter.mpr ⟨hm, decide_eq_true h0⟩, rfl⟩)⟩
  · rw [List.length_map] at n2
    have := List.length_filter_le (fun p : Str × Nat => decide (0 < p.2)) many
    omega
  · obtain ⟨h, hh, g⟩ := n3 t ht
    obtain ⟨p, hp, rfl⟩ := List.mem_map.mp hh
    obtain ⟨p1, p2⟩ := List.mem_filter.mp hp
    exact ⟨p.1, p.2, p1, of_decide_eq_true p2, g⟩
end K86

end

section
set_option Elab.async false
set_option linter.all false
set_option maxRecDepth 100000
set_option maxHeartbeats 2000000
/-! The greatest of what lots apart lack is the number of the fewest wires more. -/
namespace K86
open PySem PySem.Spec PyProof.Rows L2
open PySem.W (Datum DatumOrd Tup T3 T4 Holds HoldAll)
open K86M (tlW hdW Ends isIn enters ent MinOf Great pairsOf total Fewest lotsOf apartOf lacking Apart)
theorem apart_good {hs : List Str} {ws : List (Str × Str)} {r : Str} (ok : NetOk hs ws) {F : List (List Str)} (hF : F ∈ apartOf (lotsOf (oth hs r))) : LotsGood hs r (mks F) := by
  have ndo : (oth hs r).Nodup := ok.nd.sublist List.filter_sublist
  obtain ⟨A, sub⟩ := K86M.apart_sound _ F hF
  have lol := oth_len (r := r) ok
  have zlots : (lotsOf (oth hs r)).length ≤ 16 := Nat.le_trans (K86M.lotsOf_len _) (Nat.pow_le_pow_right (by decide) lol)
  have len := apart_sub hF (K86M.lotsOf_nodup ndo) fun l hl => ((K86M.mem_lotsOf ndo).mp hl).2
  refine ⟨fun t ht => ?_, by rw [mks_flat]; exact A, by unfold mks; rw [List.length_map]; omega⟩
  obtain ⟨l, hl, rfl⟩ := List.mem_map.mp ht
  obtain ⟨e, ne⟩ := (K86M.mem_lotsOf ndo).mp (sub l hl)
  refine ⟨ne, fun x hx => ?_, ?_⟩
  · have hx : x ∈ l := hx
    rw [e] at hx
    exact mem_oth.mp (List.mem_filter.mp hx).1
  · show UpS l
    rw [e]
    exact (oth_up ok).filter _
theorem most_is {hs : List Str} {ws : List (Str × Str)} {r : Str} {k : Nat} {many : List (Str × Nat)} (ok : NetOk hs ws) (hrm : r ∈ hs) (FW : Fewest hs (oth hs r) r ws k many) {mo : Int × Tup (Tup Str)}
    (hm : mo ∈ (apartOf (lotsOf (oth hs r))).map fun F => (lacking ws k F, mkk F)) (hle : ∀ y ∈ (apartOf (lotsOf (oth hs r))).map fun F => (lacking ws k F, mkk F), leO y mo = true) :
    mo.1 = (total many : Int) ∧ ∃ L, mo.2 = Tup.mk L ∧ LotsGood hs r L ∧ lacking ws k (L.map (·.items)) = (total many : Int) := by
  have ndo : (oth hs r).Nodup := ok.nd.sublist List.filter_sublist
  obtain ⟨F0, hF0, rfl⟩ := List.mem_map.mp hm
  obtain ⟨L, LO⟩ := lots_ex ok hrm FW
  obtain ⟨_, elack, F, hF, pF⟩ := lots_plain ok FW LO
  obtain ⟨A, sub⟩ := K86M.apart_sound _ F0 hF0
  have up : lacking ws k F0 ≤ (total many : Int) := K86M.lacking_le FW A (fun lot hl => K86M.isIn_no.mp (lot_out ok.nd (sub lot hl)).1) fun lot hl => by
    obtain ⟨x, h1, h2⟩ := (lot_out ok.nd (sub lot hl)).2
    exact ⟨x, h1, K86M.isIn_iff.mp h2⟩
  have lo : (total many : Int) ≤ lacking ws k F0 := by
    have := hle _ (List.mem_map.mpr ⟨F, hF, rfl⟩)
    rw [leO_iff, pair_lt] at this
    dsimp only at this
    rw [K86M.lacking_perm ws k pF, elack] at this
    by_cases e : lacking ws k F0 = (total many : Int)
    · omega
    · rw [if_neg e] at this
      have : ¬ (lacking ws k F0 < (total many : Int)) := of_decide_eq_false this
      omega
  have eq : lacking ws k F0 = (total many : Int) := by omega
  exact ⟨eq, mks F0, rfl, apart_good ok hF0, by rw [mks_flat]; exact eq⟩
end K86

end

section
set_option Elab.async false
set_option linter.all false
set_option maxRecDepth 100000
set_option maxHeartbeats 2000000
/-! The walk of the law. -/
namespace K86
open PySem PySem.Spec PyProof.Rows L2
open PySem.W (Datum DatumOrd Tup T3 T4 Holds HoldAll)
open K86M (tlW hdW Ends subs lotsOf isIn enters cnt WideI Tree Wide pairsOf lacking ent Apart apartOf MinOf freeOf total Fewest)
theorem ite_stm {b : Bool} {t u : TS} {D : L2.Ends} {σ : L2.St} {H : Hp} (R : L2.St → Hp → Prop) (hA : b = true → ∀ D' : L2.Ends, (∀ σ H, R σ H → D'.nx σ H) → t D' σ H) (hB : b = false → ∀ D' : L2.Ends, (∀ σ H, R σ H → D'.nx σ H) → u D' σ H) (h : ∀ σ H, R σ H → D.nx σ H) : if b = true then t D σ H else u D σ H := by
  cases b with
  | true => exact hA rfl D h
  | false => exact hB rfl D h
/-- the terms as drawn -/
def TermOk (K : PySem.W.Frag) (H : Hp) (tv : V) (k : Nat) : Prop := tv = .non ∨ ∃ (p : Addr) (a b c e : Int), tv = .ref p ∧ Is K H tv (need4 a b c e) ∧ 0 < a ∧ 0 ≤ b ∧ 0 ≤ c ∧ 0 ≤ e ∧ a + e + (c + 2 * b) = (k : Int)
theorem TermOk.same {K : PySem.W.Frag} {H H' : Hp} {tv : V} {k : Nat} (h : TermOk K H tv k) (s : Same H H') : TermOk K H' tv k := by
  rcases h with h | ⟨p, a, b, c, e, h1, h2, h3⟩
  · exact .inl h
  · exact .inr ⟨p, a, b, c, e, h1, h2.same s, h3⟩
section
variable {P : Program} {w : World} {K : PySem.W.Frag} {mg : Str → Option Value} {base : Heap} {f : Addr} {fd : FuncData}

def pr_law (K : PySem.W.Frag) : Pr := pr1 fun v H Q => ∃ (l : Addr) (ns : List Int), v = .ref l ∧ SqL K H l (ns.map V.int) ∧ ∀ H', Q (.bl true) H'
theorem sc_law : FnScope n_law p_law (defScope s_law) := ⟨rfl, rfl, rfl, by decide +kernel, rfl, by decide +kernel, by decide +kernel⟩
theorem law_fn (m : Bt mg) (c_L_feed : Cal P w K mg base 1 "_law_feed" [] (pr_L_feed K)) (c_L_net : Cal P w K mg base 4 "_law_net" [] (pr_L_net K)) (c_L_draw : Cal P w K mg base 1 "_law_draw" [] (pr_L_draw K)) (c_L_want : Cal P w K mg base 1 "_law_want" [] (pr_L_want K)) (c_L_apart : Cal P w K mg base 3 "_law_apart" [] (pr_L_apart K)) (c_L_lacking : Cal P w K mg base 2 "_law_lacking" [] (pr_L_lacking K)) (c_fewest_more : Cal P w K mg base 7 "fewest_more" [] (pr_fewest_more K)) (c_L_are_more : Cal P w K mg base 4 "_law_are_more" [] (pr_L_are_more K)) (c_L_is_grown : Cal P w K mg base 7 "_law_is_grown" [] (pr_L_is_grown K)) (c_can_carry : Cal P w K mg base 6 "can_carry" [] (pr_can_carry K)) (c_more_paper : Cal P w K mg base 7 "more_paper" [] (pr_more_paper K)) (c_L_is_paper : Cal P w K mg base 5 "_law_is_paper" [] (pr_L_is_paper K)) (c_L_judged : Cal P w K mg base 9 "_law_judged" [] (pr_L_judged K)) (D : Dfn K mg "law" s_law [] f fd) : FnG P w K mg base 10 f fd p_law (pr_law K) := by
  refine fnG_of D.fn sc_law (fun vs H Q h => len1 h) fun cdv A outer s H vs Q hr h => ?_
  obtain ⟨_, rfl, l, ns, rfl, hl, q⟩ := inv1 h
  refine ⟨_, pss_cons (ps_set (i := 1) sc_law.nd rfl (Or.inl rfl) (p_call c_L_feed hr (pa_cons (pv 0) pa_nil)))
    (pss_cons (ps_asg (p_call c_L_net hr (pa_cons (pv 1) pa_nil)) (pg_tup rfl (pgs_cons (pg_name (i := 2) sc_law.nd rfl (.inr rfl)) (pgs_cons (pg_name (i := 3) sc_law.nd rfl (.inl rfl)) pgs_nil))))
    (pss_cons (ps_asg (pe_tup (pa_cons (p_call c_L_draw hr (pa_cons (pv 1) (pa_cons pe_int pa_nil))) (pa_cons pe_non pa_nil))) (pg_tup rfl (pgs_cons (pg_name (i := 4) sc_law.nd rfl (.inr rfl)) (pgs_cons (pg_name (i := 5) sc_law.nd rfl (.inl rfl)) pgs_nil))))
    (pss_cons (ps_if (pt_cmpR op_eq (p_call c_L_draw hr (pa_cons (pv 1) (pa_cons pe_int pa_nil))) pe_int (nomark _))
      (pss_cons (ps_set (i := 5) sc_law.nd rfl (Or.inl rfl) (pe_tup (pa_cons (pe_op op_add pe_int (p_call c_L_draw hr (pa_cons (pv 1) (pa_cons pe_int pa_nil)))) (pa_cons (p_call c_L_draw hr (pa_cons (pv 1) (pa_cons pe_int pa_nil))) (pa_cons (p_call c_L_draw hr (pa_cons (pv 1) (pa_cons pe_int pa_nil))) (pa_cons (p_call c_L_draw hr (pa_cons (pv 1) (pa_cons pe_int pa_nil))) pa_nil))))))
      (pss_one (ps_set (i := 4) sc_law.nd rfl (Or.inr rfl) (p_call c_L_want hr (pa_cons (pv 5) pa_nil))))) pss_nil)
    (pss_cons (ps_setLc (i := 6) (own := [("_law_lots_here", 7)]) (g := gName 7) (tt := tYes) rfl sc_law.nd rfl rfl (sw_true rfl rfl rfl (by decide +kernel)) (pi_list (p_call c_L_apart hr (pa_cons (pv 2) (pa_cons (pv 3) pa_nil)))) (blkOk_by (N := n_law) (sc := defScope s_law) (by decide +kernel)) (fun _ _ _ _ _ => (pg_name (i := 7) sc_law.nd rfl (.inl rfl))) (fun _ _ _ _ _ => pts_nil)
      (fun _ _ _ _ _ => pe_tup (pa_cons (p_call c_L_lacking hr (pa_cons (pv 2) (pa_cons (pv 7) (pa_cons (pv 4) pa_nil)))) (pa_cons (pv 7) pa_nil))))
    (pss_cons (ps_set (i := 8) sc_law.nd rfl (Or.inl rfl) (p_max m (cr_maxT (α := Int × Tup (Tup Str)) rfl hr.u) (pa_cons (pv 6) pa_nil)))
    (pss_cons (ps_set (i := 9) sc_law.nd rfl (Or.inl rfl) (p_call c_fewest_more hr (pa_cons (pv 2) (pa_cons (pv 3) (pa_cons (pv 4) pa_nil)))))
    (pss_cons (ps_set (i := 10) sc_law.nd rfl (Or.inl rfl) (p_call c_L_are_more hr (pa_cons (pv 2) (pa_cons (pv 3) (pa_cons (pv 4) (pa_cons (pv 9) pa_nil))))))
    (pss_cons (ps_if (pw_or (pt_cmp (pc_isN (pv 10))) (pw_or1 (pt_cmpR op_ne (p_len m (pa_cons (pv 9) pa_nil)) (pe_ix (r := rFst K Int (Tup (Tup Str))) ix_fst (pv 8) pe_int (fun _ _ => rfl)) (nomark _)))).pt pss_never pss_nil)
    (pss_cons (ps_if (pt_cmpR op_le (p_len m (pa_cons (pe_ix (r := rSnd K (Tup Str) (Tup (Str × Str))) ix_snd (pv 10) pe_int (fun _ _ => rfl)) pa_nil)) pe_int (nomark _))
      (pss_cons (ps_if (pt_not (pt_val (p_call c_L_is_grown hr (pa_cons (pv 2) (pa_cons (pv 3) (pa_cons (pv 4) (pa_cons (pv 9) (pa_cons (pv 10) pa_nil)))))))) pss_never pss_nil)
      (pss_one (ps_if (pw_and (pt_cmp (pc_notN (pv 5))) (pw_and1 (pt_not (pt_val (p_call c_can_carry hr (pa_cons (pv 10) (pa_cons (pv 3) (pa_cons (pv 5) pa_nil)))))))).pt pss_never pss_nil))) pss_nil)
    (pss_cons (ps_set (i := 11) sc_law.nd rfl (Or.inl rfl) (p_call c_more_paper hr (pa_cons (pv 2) (pa_cons (pv 3) (pa_cons (pv 4) pa_nil)))))
    (pss_cons (ps_if (pw_or (pt_not (pt_val (p_call c_L_is_paper hr (pa_cons (pv 2) (pa_cons (pv 3) (pa_cons (pv 4) (pa_cons (pv 11) pa_nil))))))) (pw_or1 (pt_cmpR op_ne (p_len m (pa_cons (pe_ix (ix_3b (α := Str) (β := Tup (Str × Str)) (γ := Tup (Tup Str))) (pv 11) pe_int (fun _ _ => rfl)) pa_nil)) (pe_ix (r := rFst K Int (Tup (Tup Str))) ix_fst (pv 8) pe_int (fun _ _ => rfl)) (nomark _)))).pt pss_never pss_nil)
    (pss_cons (ps_for PassesOwn.never rfl (pi_list (pe_lst (pa_cons (pv 11) (pa_cons (pe_tup (pa_cons pe_str (pa_cons (pv 9) (pa_cons (pe_ix (ix_3c (α := Str) (β := Tup (Str × Str)) (γ := Tup (Tup Str))) (pv 11) pe_int (fun _ _ => rfl)) pa_nil))))
        (pa_cons (pe_tup (pa_cons pe_str (pa_cons (pe_ix (ix_3b (α := Str) (β := Tup (Str × Str)) (γ := Tup (Tup Str))) (pv 11) pe_int (fun _ _ => rfl)) (pa_cons (pe_ix (r := rSnd K Int (Tup (Tup Str))) ix_snd (pv 8) pe_int (fun _ _ => rfl)) pa_nil)))) pa_nil))))) (pg_name (i := 12) sc_law.nd rfl (.inl rfl))
      (pss_one (ps_if (pt_cmpR op_ne (p_repr m hr (pa_cons (p_call c_L_judged hr (pa_cons (pv 2) (pa_cons (pv 3) (pa_cons (pv 4) (pa_cons (pv 12) pa_nil))))) pa_nil)) (p_repr m hr (pa_cons (pe_ix (r := rFst K Int (Tup (Tup Str))) ix_fst (pv 8) pe_int (fun _ _ => rfl)) pa_nil)) (nomark _)) pss_never pss_nil)))
    (pss_one (ps_ret pe_bl)))))))))))))), ?_⟩
  refine ⟨_, rfl, l, ns, rfl, hl, fun d la ns' H1 s1 F1 => ?_⟩
  refine ⟨_, rfl, d, la, ns', rfl, F1, fun u H2 hs ws r s2 F2 hu ok hrm w60 => ?_⟩
  have ⟨ua, n, x, eu, uq, hn, hr2⟩ := hu.pair
  subst eu
  obtain rfl := hr2.str
  refine ⟨ua, _, rfl, uq, rfl, _, _, rfl, _, _, rfl, rfl, ?_⟩
  refine ⟨_, rfl, d, 6, la, ns', rfl, rfl, by omega, by omega, F2, fun x0 H3 hx0 s3 F3 => ?_⟩
  refine ⟨by show 2 ≤ sizeLine; decide, fun p3 np3 => ?_⟩
  have sp3 := same_new (o := .tup [.int (x0 : Int), .non]) np3
  refine ⟨p3, _, rfl, SqT.of upd_same, rfl, _, _, rfl, _, _, rfl, rfl, ?_⟩
  have F4 := F3.same sp3
  have hn4 : Is K _ n (net hs ws) := (hn.keep (F2.keep s3)).same sp3
  generalize upd H3 p3 (.tup [.int (x0 : Int), .non]) = H4 at F4 hn4 ⊢
  refine ⟨_, rfl, d, 2, la, ns', rfl, rfl, by omega, by omega, F4, fun x1 H5 hx1 s5 F5 => ?_⟩
  have hn5 := hn4.keep (F4.keep s5)
  refine ⟨rfl, _, rfl, ?_⟩
  refine ite_stm (fun σ H6 => ∃ (k : Nat) (tv : V), σ = [some (.ref l), some (.ref d), some n, some (.str r), some (.int (k : Int)), some tv, none, none, none, none, none, none, none] ∧ k ≤ 9 ∧ Is K H6 n (net hs ws) ∧ TermOk K H6 tv k) (fun _ D' hD => ?_) (fun _ D' hD => ?_) ?_
  · refine ⟨_, rfl, d, 2, la, ns', rfl, rfl, by omega, by omega, F5, fun y0 H6 hy0 s6 F6 => ⟨_, _, rfl, rfl, ?_⟩⟩
    refine ⟨_, rfl, d, 2, la, ns', rfl, rfl, by omega, by omega, F6, fun y1 H7 hy1 s7 F7 => ?_⟩
    refine ⟨_, rfl, d, 2, la, ns', rfl, rfl, by omega, by omega, F7, fun y2 H8 hy2 s8 F8 => ?_⟩
    refine ⟨_, rfl, d, 2, la, ns', rfl, rfl, by omega, by omega, F8, fun y3 H9 hy3 s9 F9 => ?_⟩
    refine ⟨by show 4 ≤ sizeLine; decide, fun p np => ?_⟩
    have sp := same_new (o := .tup [.int (1 + (y0 : Int)), .int (y1 : Int), .int (y2 : Int), .int (y3 : Int)]) np
    have hn9 : Is K _ n (net hs ws) := (hn5.keep (F5.keep (s6.tr (s7.tr (s8.tr s9))))).same sp
    have ht9 : Is K (upd H9 p (.tup [.int (1 + (y0 : Int)), .int (y1 : Int), .int (y2 : Int), .int (y3 : Int)])) (.ref p) (need4 (1 + (y0 : Int)) y1 y2 y3) := is_tup (SqT.of upd_same) (.cons (is_int _) (.cons (is_int _) (.cons (is_int _) (.cons (is_int _) .nil))))
    refine ⟨_, rfl, 1 + (y0 : Int), y1, y2, y3, ht9, ?_⟩
    refine hD _ _ ⟨1 + y0 + y3 + y2 + 2 * y1, .ref p, ?_, by omega, hn9, .inr ⟨p, 1 + (y0 : Int), y1, y2, y3, rfl, ht9, by omega, by omega, by omega, by omega, by omega⟩⟩
    rw [show ((1 + y0 + y3 + y2 + 2 * y1 : Nat) : Int) = 1 + (y0 : Int) + (y3 : Int) + (y2 : Int) + 2 * (y1 : Int) by omega]
    rfl
  · exact hD _ _ ⟨x0, .non, rfl, by omega, hn5, .inl rfl⟩
  rintro σ H6 ⟨k, tv, rfl, hk9, hn6, tok⟩
  have lol := oth_len (r := r) ok
  have zlots : (lotsOf (oth hs r)).length ≤ 16 := Nat.le_trans (K86M.lotsOf_len _) (Nat.pow_le_pow_right (by decide) lol)
  have zap : (apartOf (lotsOf (oth hs r))).length ≤ 65536 := Nat.le_trans (K86M.apart_len _) (Nat.le_trans (Nat.pow_le_pow_right (by decide) zlots) (by decide))
  refine ⟨_, rfl, _, rfl, hs, ws, r, hn6, ok, rfl, fun v7 H7 s7 hv7 => ?_⟩
  obtain ⟨aa, av, rfl, aq, ah⟩ := hv7.lst
  have al : av.length = (apartOf (lotsOf (oth hs r))).length := by
    rw [ah.length]
    exact List.length_map ..
  refine ⟨aa, rfl, ⟨_, aq⟩, fun D nD => lc_data (K := K) (walk_list (xs := av)) (fun (j : Nat) => (apartOf (lotsOf (oth hs r)))[j]?.map fun F => (lacking ws k F, mkk F)) nD (by omega) (fun H8 s8 => sqL_same s8 aq) ?_ ?_⟩
  · rintro j x H8 H9 Ky Kn hj s8 ⟨rfl, hx⟩ k1 k2
    obtain ⟨t, ht1, ht2⟩ := (ah.same s8).at hx
    obtain ⟨G, hG, rfl⟩ : ∃ G, (apartOf (lotsOf (oth hs r)))[j]? = some G ∧ mkk G = t := by
      rw [List.getElem?_map] at ht1
      cases e : (apartOf (lotsOf (oth hs r)))[j]? with
      | none => rw [e] at ht1; cases ht1
      | some G => rw [e] at ht1; exact ⟨G, rfl, Option.some.inj ht1⟩
    have gl := (apart_good ok (List.mem_of_getElem? hG)).few
    refine ⟨rfl, _, rfl, _, rfl, _, rfl, hs, ws, mks G, k, hn6.same (same_tr s7 s8), ok, ht2, by omega, rfl, fun H10 s10 => ?_⟩
    refine ⟨_, rfl, by show 2 ≤ sizeLine; decide, fun p np => ?_⟩
    exact k1 _ (lacking ws k G, mkk G) _ (same_tr s10 (same_new np)) (by rw [hG]; rfl) (is_pair (SqT.of upd_same) (by rw [mks_flat]; exact is_int _) ((ht2.same s10).same (same_new np)))
  intro H8 ys s8 e8 hy
  rw [al, fm_map] at hy
  have s68 := same_tr s7 s8
  have hn8 := hn6.same s68
  have tok8 := tok.same s68
  have hL : Is K H8 (.ref D) ((apartOf (lotsOf (oth hs r))).map fun F => (lacking ws k F, mkk F)) := is_lst (SqL.of e8) hy
  obtain ⟨rest, er⟩ := K86M.apart_nil (lotsOf (oth hs r))
  have em : ((apartOf (lotsOf (oth hs r))).map fun F => (lacking ws k F, mkk F)) = (lacking ws k [], mkk []) :: rest.map fun F => (lacking ws k F, mkk F) := by rw [er]; rfl
  refine ⟨_, rfl, .ref D, (lacking ws k [], mkk []), rest.map fun F => (lacking ws k F, mkk F), rfl, em ▸ hL, fun u8 hu8 => ?_⟩
  have hmem := maxOf_mem (lacking ws k [], mkk []) (rest.map fun F => (lacking ws k F, mkk F))
  have hle := maxOf_le (lacking ws k [], mkk []) (rest.map fun F => (lacking ws k F, mkk F))
  generalize PySem.W.maxOf (lacking ws k [], mkk []) (rest.map fun F => (lacking ws k F, mkk F)) = mo at hmem hle hu8
  rw [← em] at hmem hle
  refine ⟨_, rfl, _, rfl, _, rfl, hs, ws, r, k, hn8, ok, rfl, hrm, rfl, hk9, fun v9 H9 many s9 hv9 FW => ?_⟩
  obtain ⟨m1, Lm, m2, GLm, elm⟩ := most_is ok hrm FW hmem hle
  have tot := Fewest.tot ok FW hk9
  have fw := ok.fewW
  have pl : (pairsOf r many).length = total many := K86M.pairs_len r many
  have okl := late_ok ok w60 hrm FW.keys tot
  have hn9 := hn8.same s9
  have hu9 := hu8.same s9
  have tok9 := tok8.same s9
  refine ⟨_, rfl, _, rfl, _, rfl, _, rfl, hs, ws, r, k, many, hn9, ok, w60, rfl, hrm, rfl, hk9, hv9, FW, fun a t o hv ys2 H10 s10 aq2 hh et od oc hys => ?_⟩
  have hn10 := hn9.same s10
  have hu10 := hu9.same s10
  have hv10 := hv9.same s10
  have tok10 := tok9.same s10
  have hl10 : Is K H10 (.ref a) (net hs (lateW ws r many)) := is_pair aq2 hh (is_tup (.inl (.inr ⟨o, et⟩)) hys)
  obtain ⟨wa, wv, rfl, wq, wh⟩ := hv10.tup
  have wl : wv.length = total many := by rw [wh.length]; exact pl
  refine ⟨_, rfl, _, rfl, ?_⟩
  refine ⟨_, rfl, wa, wv, rfl, .inr wq, ?_⟩
  refine ⟨_, rfl, mo, hu10, rfl, fun u1 hu1 => ?_⟩
  obtain rfl := hu1.int
  refine ⟨rfl, _, rfl, ?_⟩
  rw [m1, wl, show decide (V.int (total many : Int) = V.int ((total many : Nat) : Int)) = true from decide_eq_true rfl]
  refine ⟨_, rfl, _, hl10, rfl, fun u2 hu2 => ?_⟩
  obtain ⟨la2, lv2, rfl, lq2, lh2⟩ := hu2.tup
  refine ⟨la2, lv2, rfl, .inr lq2, _, _, rfl, rfl, _, rfl, ?_⟩
  refine ite_stm (fun σ H11 => σ = [some (.ref l), some (.ref d), some n, some (.str r), some (.int (k : Int)), some tv, some (.ref D), none, some u8, some (.ref wa), some (.ref a), none, none] ∧ Same H10 H11) (fun _ D' hD => ?_) (fun _ D' hD => ?_) ?_
  · refine ⟨_, rfl, _, rfl, _, rfl, _, rfl, _, rfl, hs, ws, r, k, many, a, t, o, hv, ys2, hn10, ok, w60, rfl, hrm, rfl, hk9, hv10, FW, rfl, aq2, hh, et, od, oc, hys, fun H11 s11 => ?_⟩
    refine ⟨true, rfl, ?_⟩
    rcases tok10.same s11 with rfl | ⟨p, ta, tb, tc, te, rfl, h2, pa, pb, pc, pe, ek⟩
    · exact ⟨_, rfl, _, rfl, hD _ _ ⟨rfl, s11⟩⟩
    · refine ⟨_, rfl, _, rfl, ?_⟩
      refine ⟨_, rfl, _, rfl, _, rfl, hs, lateW ws r many, r, ta, tb, tc, te, k, hl10.same s11, okl, rfl, hrm, h2, pa, pb, pc, pe, ek, fun oo H12 s12 iff => ?_⟩
      obtain rfl : oo = true := iff.mpr (late_wide FW)
      exact ⟨true, rfl, hD _ _ ⟨rfl, same_tr s11 s12⟩⟩
  · exact hD _ _ ⟨rfl, same_refl _⟩
  rintro σ H11 ⟨rfl, s11⟩
  refine ⟨_, rfl, _, rfl, _, rfl, hs, ws, r, k, hn10.same s11, ok, rfl, hrm, rfl, hk9, fun v12 H12 many2 L2 s12 hv12 FW2 LO2 => ?_⟩
  have m1' := (most_is ok hrm FW2 hmem hle).1
  have tt : total many2 = total many := by omega
  have pl2 : (pairsOf r many2).length = total many2 := K86M.pairs_len r many2
  obtain ⟨GL2, el2, _, _, _⟩ := lots_plain ok FW2 LO2
  have hn12 := hn10.same (same_tr s11 s12)
  have hu12 := hu10.same (same_tr s11 s12)
  have hw12 : Is K H12 (.ref wa) (Tup.mk (pairsOf r many)) := hv10.same (same_tr s11 s12)
  refine ⟨_, rfl, _, rfl, _, rfl, _, rfl, hs, ws, r, k, many2, L2, hn12, ok, w60, rfl, hrm, rfl, hk9, hv12, FW2, LO2, fun H13 s13 => ?_⟩
  refine ⟨true, rfl, ?_⟩
  refine ⟨_, rfl, _, hv12.same s13, rfl, fun v14 hv14 => ?_⟩
  obtain ⟨a14, w14, rfl, q14, g14⟩ := hv14.tup
  have l14 : w14.length = (pairsOf r many2).length := g14.length
  refine ⟨a14, w14, rfl, .inr q14, ?_⟩
  refine ⟨_, rfl, mo, hu12.same s13, rfl, fun u3 hu3 => ?_⟩
  obtain rfl := hu3.int
  refine ⟨rfl, _, rfl, ?_⟩
  rw [m1, l14, pl2, tt, show decide (V.int (total many : Int) = V.int ((total many : Nat) : Int)) = true from decide_eq_true rfl]
  have s1013 := same_tr s11 (same_tr s12 s13)
  have hn13 := hn10.same s1013
  have hu13 := hu10.same s1013
  have hv13 := hv12.same s13
  have hw13 := hw12.same s13
  have log : ∀ mm : Nat, mm ≤ 100 → (mm : Int).natAbs.log2 < 1920 := fun mm h => by
    have h2 : (mm : Int).natAbs < 2 ^ 7 := by
      have e : (2 : Nat) ^ 7 = 128 := by decide
      omega
    have := PySem.Flt.log2_lt_of (k := 7) (by decide) h2
    omega
  have GW : WiresGood hs ws r k (pairsOf r many) := ⟨fun x hx => pairs_in FW.keys hx, pairs_up (by rw [FW.keys]; exact oth_up ok), by omega, FW.wide⟩
  have GW2 : WiresGood hs ws r k (pairsOf r many2) := ⟨fun x hx => pairs_in FW2.keys hx, pairs_up (by rw [FW2.keys]; exact oth_up ok), by omega, FW2.wide⟩
  obtain ⟨pa, pv1, pv2, pv3, rfl, pq, g1, g2, g3⟩ := hv13.t3
  refine ⟨_, rfl, _, rfl, _, rfl, _, hv13, rfl, fun z3 hz3 => ?_⟩
  refine ⟨by show 3 ≤ sizeLine; decide, fun p1 np1 => ?_⟩
  have sp1 := same_new (o := .tup [.str (Str.ofString "more"), .ref wa, z3]) np1
  have t1 : Is K _ (.ref p1) (paper3 (pairsOf r many) L2) := is_t3 (SqT.of upd_same) (is_str _) (hw13.same sp1) (hz3.same sp1)
  refine ⟨_, rfl, _, hv13.same sp1, rfl, fun z2 hz2 => ?_⟩
  refine ⟨_, rfl, _, hu13.same sp1, rfl, fun z4 hz4 => ?_⟩
  refine ⟨by show 3 ≤ sizeLine; decide, fun p2 np2 => ?_⟩
  have sp2 := same_new (o := .tup [.str (Str.ofString "more"), z2, z4]) np2
  have t2 : Is K _ (.ref p2) (paper3 (pairsOf r many2) Lm) := is_t3 (SqT.of upd_same) (is_str _) (hz2.same sp2) ((m2 ▸ hz4).same sp2)
  refine ⟨by show 3 ≤ sizeLine; decide, fun p3 np3' => ?_⟩
  have sp3 := same_new (o := .lst [.ref pa, .ref p1, .ref p2]) np3'
  have hall : IsAll K _ [.ref pa, .ref p1, .ref p2] [paper3 (pairsOf r many2) L2, paper3 (pairsOf r many) L2, paper3 (pairsOf r many2) Lm] :=
    .cons (hv13.same (same_tr sp1 (same_tr sp2 sp3))) (.cons (t1.same (same_tr sp2 sp3)) (.cons (t2.same sp3) .nil))
  have eL := SqL.of (K := K) (upd_same (H := upd (upd H13 p1 (.tup [.str (Str.ofString "more"), .ref wa, z3])) p2 (.tup [.str (Str.ofString "more"), z2, z4])) (a := p3) (o := .lst [.ref pa, .ref p1, .ref p2]))
  have hnL := hn13.same (same_tr sp1 (same_tr sp2 sp3))
  have huL := hu13.same (same_tr sp1 (same_tr sp2 sp3))
  generalize upd (upd (upd H13 p1 (.tup [.str (Str.ofString "more"), .ref wa, z3])) p2 (.tup [.str (Str.ofString "more"), z2, z4])) p3 (.lst [.ref pa, .ref p1, .ref p2]) = HL at hall eL hnL huL ⊢
  refine ⟨p3, rfl, ⟨_, eL⟩, for_it (walk_list (xs := [.ref pa, .ref p1, .ref p2])) (fun i σ H1 => ∃ o12, σ = [some (.ref l), some (.ref d), some n, some (.str r), some (.int (k : Int)), some tv, some (.ref D), none, some u8, some (.ref wa), some (.ref a), some (.ref pa), o12] ∧ Same HL H1)
    ⟨none, rfl, same_refl _⟩ (fun i σ H1 _ ⟨_, _, s1⟩ => sqL_same s1 eL) ?_ ?_⟩
  · rintro i x σ H1 H2 hi ⟨o12, rfl, s1⟩ ⟨rfl, hx⟩
    obtain ⟨T, ht1, ht2⟩ := (hall.same s1).at hx
    obtain ⟨xs, L, rfl, gw, gl, el, xl⟩ : ∃ xs L, T = paper3 xs L ∧ WiresGood hs ws r k xs ∧ LotsGood hs r L ∧ lacking ws k (L.map (·.items)) = (xs.length : Int) ∧ xs.length = total many := by
      rcases List.mem_cons.mp (List.mem_of_getElem? ht1) with e | hm
      · exact ⟨_, _, e, GW2, GL2, by rw [el2, pl2], by rw [pl2, tt]⟩
      rcases List.mem_cons.mp hm with e | hm
      · exact ⟨_, _, e, GW, GL2, by rw [el2, pl, tt], pl⟩
      rcases List.mem_cons.mp hm with e | hm
      · exact ⟨_, _, e, GW2, GLm, by rw [elm, pl2, tt], by rw [pl2, tt]⟩
      · cases hm
    refine ⟨_, rfl, _, rfl, _, rfl, _, rfl, hs, ws, r, k, xs, L, hnL.same s1, ok, rfl, hrm, rfl, ht2, gw, gl, el, fun H3 s3 => ?_⟩
    refine ⟨_, rfl, .inr (.inl ⟨_, rfl, log _ (by omega), ?_⟩)⟩
    refine ⟨_, rfl, mo, huL.same (same_tr s1 s3), rfl, fun u4 hu4 => ?_⟩
    obtain rfl := hu4.int
    refine ⟨_, rfl, .inr (.inl ⟨_, rfl, by rw [m1]; exact log _ (by omega), rfl, _, rfl, ?_⟩)⟩
    rw [m1, xl, show decide (V.str (Str.ofString (toString (total many : Int))) = V.str (Str.ofString (toString (total many : Int)))) = true from decide_eq_true rfl]
    exact ⟨_, rfl, same_tr s1 s3⟩
  · rintro σ H1 ⟨o12, rfl, s1⟩
    exact q _
end
end K86

end

section
set_option Elab.async false
set_option linter.all false
set_option maxRecDepth 100000
set_option maxHeartbeats 2000000
/-! The join: the head's facts, the chain of the defs, the row. -/
namespace K86
open PySem PySem.Spec PyProof.Rows L2
section
variable {K : PySem.W.Frag} {h : Heap} {mg : Str → Option Value}
theorem dfn_steps_on (X : K.In h) (G : h.Ns mainGlobals mg) (c : He.SaysD faAll fnAll K) : ∃ f fd, Dfn K mg "steps_on" s_steps_on [] f fd := by
  obtain ⟨fd, F⟩ := c.def_ 0 (d := d_steps_on) rfl
  exact ⟨_, fd, F, He.glo_ok X G (c.fact 0 (f := .glo "steps_on") rfl)⟩
theorem dfn_comings (X : K.In h) (G : h.Ns mainGlobals mg) (c : He.SaysD faAll fnAll K) : ∃ f fd, Dfn K mg "comings" s_comings [] f fd := by
  obtain ⟨fd, F⟩ := c.def_ 1 (d := d_comings) rfl
  exact ⟨_, fd, F, He.glo_ok X G (c.fact 1 (f := .glo "comings") rfl)⟩
theorem dfn_one_way_more (X : K.In h) (G : h.Ns mainGlobals mg) (c : He.SaysD faAll fnAll K) : ∃ f fd, Dfn K mg "one_way_more" s_one_way_more [] f fd := by
  obtain ⟨fd, F⟩ := c.def_ 2 (d := d_one_way_more) rfl
  exact ⟨_, fd, F, He.glo_ok X G (c.fact 2 (f := .glo "one_way_more") rfl)⟩
theorem dfn_taken_by (X : K.In h) (G : h.Ns mainGlobals mg) (c : He.SaysD faAll fnAll K) : ∃ f fd, Dfn K mg "taken_by" s_taken_by [] f fd := by
  obtain ⟨fd, F⟩ := c.def_ 3 (d := d_taken_by) rfl
  exact ⟨_, fd, F, He.glo_ok X G (c.fact 3 (f := .glo "taken_by") rfl)⟩
theorem dfn_many_of (X : K.In h) (G : h.Ns mainGlobals mg) (c : He.SaysD faAll fnAll K) : ∃ f fd, Dfn K mg "many_of" s_many_of [] f fd := by
  obtain ⟨fd, F⟩ := c.def_ 4 (d := d_many_of) rfl
  exact ⟨_, fd, F, He.glo_ok X G (c.fact 4 (f := .glo "many_of") rfl)⟩
theorem dfn_greatest_side (X : K.In h) (G : h.Ns mainGlobals mg) (c : He.SaysD faAll fnAll K) : ∃ f fd, Dfn K mg "greatest_side" s_greatest_side [] f fd := by
  obtain ⟨fd, F⟩ := c.def_ 5 (d := d_greatest_side) rfl
  exact ⟨_, fd, F, He.glo_ok X G (c.fact 5 (f := .glo "greatest_side") rfl)⟩
theorem dfn_is_integer (X : K.In h) (G : h.Ns mainGlobals mg) (c : He.SaysD faAll fnAll K) : ∃ f fd, Dfn K mg "is_integer" s_is_integer [] f fd := by
  obtain ⟨fd, F⟩ := c.def_ 6 (d := d_is_integer) rfl
  exact ⟨_, fd, F, He.glo_ok X G (c.fact 6 (f := .glo "is_integer") rfl)⟩
theorem dfn_is_number (X : K.In h) (G : h.Ns mainGlobals mg) (c : He.SaysD faAll fnAll K) : ∃ f fd, Dfn K mg "is_number" s_is_number [] f fd := by
  obtain ⟨fd, F⟩ := c.def_ 7 (d := d_is_number) rfl
  exact ⟨_, fd, F, He.glo_ok X G (c.fact 7 (f := .glo "is_number") rfl)⟩
theorem dfn_is_name (X : K.In h) (G : h.Ns mainGlobals mg) (c : He.SaysD faAll fnAll K) : ∃ f fd, Dfn K mg "is_name" s_is_name [] f fd := by
  obtain ⟨fd, F⟩ := c.def_ 8 (d := d_is_name) rfl
  exact ⟨_, fd, F, He.glo_ok X G (c.fact 8 (f := .glo "is_name") rfl)⟩
theorem dfn_is_pair (X : K.In h) (G : h.Ns mainGlobals mg) (c : He.SaysD faAll fnAll K) : ∃ f fd, Dfn K mg "is_pair" s_is_pair [] f fd := by
  obtain ⟨fd, F⟩ := c.def_ 9 (d := d_is_pair) rfl
  exact ⟨_, fd, F, He.glo_ok X G (c.fact 9 (f := .glo "is_pair") rfl)⟩
theorem dfn_is_name_set (X : K.In h) (G : h.Ns mainGlobals mg) (c : He.SaysD faAll fnAll K) : ∃ f fd, Dfn K mg "is_name_set" s_is_name_set [] f fd := by
  obtain ⟨fd, F⟩ := c.def_ 10 (d := d_is_name_set) rfl
  exact ⟨_, fd, F, He.glo_ok X G (c.fact 10 (f := .glo "is_name_set") rfl)⟩
theorem dfn_is_houses (X : K.In h) (G : h.Ns mainGlobals mg) (c : He.SaysD faAll fnAll K) : ∃ f fd, Dfn K mg "is_houses" s_is_houses [] f fd := by
  obtain ⟨fd, F⟩ := c.def_ 11 (d := d_is_houses) rfl
  exact ⟨_, fd, F, He.glo_ok X G (c.fact 11 (f := .glo "is_houses") rfl)⟩
theorem dfn_is_wire_of (X : K.In h) (G : h.Ns mainGlobals mg) (c : He.SaysD faAll fnAll K) : ∃ f fd, Dfn K mg "is_wire_of" s_is_wire_of [] f fd := by
  obtain ⟨fd, F⟩ := c.def_ 12 (d := d_is_wire_of) rfl
  exact ⟨_, fd, F, He.glo_ok X G (c.fact 12 (f := .glo "is_wire_of") rfl)⟩
theorem dfn_entered_by (X : K.In h) (G : h.Ns mainGlobals mg) (c : He.SaysD faAll fnAll K) : ∃ f fd, Dfn K mg "entered_by" s_entered_by [] f fd := by
  obtain ⟨fd, F⟩ := c.def_ 13 (d := d_entered_by) rfl
  exact ⟨_, fd, F, He.glo_ok X G (c.fact 13 (f := .glo "entered_by") rfl)⟩
theorem dfn_net_of (X : K.In h) (G : h.Ns mainGlobals mg) (c : He.SaysD faAll fnAll K) : ∃ f fd, Dfn K mg "net_of" s_net_of [] f fd := by
  obtain ⟨fd, F⟩ := c.def_ 14 (d := d_net_of) rfl
  exact ⟨_, fd, F, He.glo_ok X G (c.fact 14 (f := .glo "net_of") rfl)⟩
theorem dfn_need (X : K.In h) (G : h.Ns mainGlobals mg) (c : He.SaysD faAll fnAll K) : ∃ f fd, Dfn K mg "need" s_need [.int (-1)] f fd := by
  obtain ⟨fd, F⟩ := c.def_ 15 (d := d_need) rfl
  exact ⟨_, fd, F, He.glo_ok X G (c.fact 15 (f := .glo "need") rfl)⟩
theorem dfn_are_two_tuples (X : K.In h) (G : h.Ns mainGlobals mg) (c : He.SaysD faAll fnAll K) : ∃ f fd, Dfn K mg "are_two_tuples" s_are_two_tuples [] f fd := by
  obtain ⟨fd, F⟩ := c.def_ 16 (d := d_are_two_tuples) rfl
  exact ⟨_, fd, F, He.glo_ok X G (c.fact 16 (f := .glo "are_two_tuples") rfl)⟩
theorem dfn_accept_houses (X : K.In h) (G : h.Ns mainGlobals mg) (c : He.SaysD faAll fnAll K) : ∃ f fd, Dfn K mg "accept_houses" s_accept_houses [] f fd := by
  obtain ⟨fd, F⟩ := c.def_ 17 (d := d_accept_houses) rfl
  exact ⟨_, fd, F, He.glo_ok X G (c.fact 17 (f := .glo "accept_houses") rfl)⟩
theorem dfn_lets_net (X : K.In h) (G : h.Ns mainGlobals mg) (c : He.SaysD faAll fnAll K) : ∃ f fd, Dfn K mg "lets_net" s_lets_net [] f fd := by
  obtain ⟨fd, F⟩ := c.def_ 18 (d := d_lets_net) rfl
  exact ⟨_, fd, F, He.glo_ok X G (c.fact 18 (f := .glo "lets_net") rfl)⟩
theorem dfn_want (X : K.In h) (G : h.Ns mainGlobals mg) (c : He.SaysD faAll fnAll K) : ∃ f fd, Dfn K mg "want" s_want [.int (-1)] f fd := by
  obtain ⟨fd, F⟩ := c.def_ 19 (d := d_want) rfl
  exact ⟨_, fd, F, He.glo_ok X G (c.fact 19 (f := .glo "want") rfl)⟩
theorem dfn_want_net (X : K.In h) (G : h.Ns mainGlobals mg) (c : He.SaysD faAll fnAll K) : ∃ f fd, Dfn K mg "want_net" s_want_net [] f fd := by
  obtain ⟨fd, F⟩ := c.def_ 20 (d := d_want_net) rfl
  exact ⟨_, fd, F, He.glo_ok X G (c.fact 20 (f := .glo "want_net") rfl)⟩
theorem dfn_want_house (X : K.In h) (G : h.Ns mainGlobals mg) (c : He.SaysD faAll fnAll K) : ∃ f fd, Dfn K mg "want_house" s_want_house [.str "house"] f fd := by
  obtain ⟨fd, F⟩ := c.def_ 21 (d := d_want_house) rfl
  exact ⟨_, fd, F, He.glo_ok X G (c.fact 21 (f := .glo "want_house") rfl)⟩
theorem dfn_want_root (X : K.In h) (G : h.Ns mainGlobals mg) (c : He.SaysD faAll fnAll K) : ∃ f fd, Dfn K mg "want_root" s_want_root [] f fd := by
  obtain ⟨fd, F⟩ := c.def_ 22 (d := d_want_root) rfl
  exact ⟨_, fd, F, He.glo_ok X G (c.fact 22 (f := .glo "want_root") rfl)⟩
theorem dfn_want_index (X : K.In h) (G : h.Ns mainGlobals mg) (c : He.SaysD faAll fnAll K) : ∃ f fd, Dfn K mg "want_index" s_want_index [] f fd := by
  obtain ⟨fd, F⟩ := c.def_ 23 (d := d_want_index) rfl
  exact ⟨_, fd, F, He.glo_ok X G (c.fact 23 (f := .glo "want_index") rfl)⟩
theorem dfn_want_wire (X : K.In h) (G : h.Ns mainGlobals mg) (c : He.SaysD faAll fnAll K) : ∃ f fd, Dfn K mg "want_wire" s_want_wire [] f fd := by
  obtain ⟨fd, F⟩ := c.def_ 24 (d := d_want_wire) rfl
  exact ⟨_, fd, F, He.glo_ok X G (c.fact 24 (f := .glo "want_wire") rfl)⟩
theorem dfn_alone_by (X : K.In h) (G : h.Ns mainGlobals mg) (c : He.SaysD faAll fnAll K) : ∃ f fd, Dfn K mg "alone_by" s_alone_by [] f fd := by
  obtain ⟨fd, F⟩ := c.def_ 25 (d := d_alone_by) rfl
  exact ⟨_, fd, F, He.glo_ok X G (c.fact 25 (f := .glo "alone_by") rfl)⟩
theorem dfn_others_of (X : K.In h) (G : h.Ns mainGlobals mg) (c : He.SaysD faAll fnAll K) : ∃ f fd, Dfn K mg "others_of" s_others_of [] f fd := by
  obtain ⟨fd, F⟩ := c.def_ 26 (d := d_others_of) rfl
  exact ⟨_, fd, F, He.glo_ok X G (c.fact 26 (f := .glo "others_of") rfl)⟩
theorem dfn_narrow_by (X : K.In h) (G : h.Ns mainGlobals mg) (c : He.SaysD faAll fnAll K) : ∃ f fd, Dfn K mg "narrow_by" s_narrow_by [] f fd := by
  obtain ⟨fd, F⟩ := c.def_ 27 (d := d_narrow_by) rfl
  exact ⟨_, fd, F, He.glo_ok X G (c.fact 27 (f := .glo "narrow_by") rfl)⟩
theorem dfn_pairs_by (X : K.In h) (G : h.Ns mainGlobals mg) (c : He.SaysD faAll fnAll K) : ∃ f fd, Dfn K mg "pairs_by" s_pairs_by [] f fd := by
  obtain ⟨fd, F⟩ := c.def_ 28 (d := d_pairs_by) rfl
  exact ⟨_, fd, F, He.glo_ok X G (c.fact 28 (f := .glo "pairs_by") rfl)⟩
theorem dfn_many_by (X : K.In h) (G : h.Ns mainGlobals mg) (c : He.SaysD faAll fnAll K) : ∃ f fd, Dfn K mg "many_by" s_many_by [] f fd := by
  obtain ⟨fd, F⟩ := c.def_ 29 (d := d_many_by) rfl
  exact ⟨_, fd, F, He.glo_ok X G (c.fact 29 (f := .glo "many_by") rfl)⟩
theorem dfn_more_by (X : K.In h) (G : h.Ns mainGlobals mg) (c : He.SaysD faAll fnAll K) : ∃ f fd, Dfn K mg "more_by" s_more_by [] f fd := by
  obtain ⟨fd, F⟩ := c.def_ 30 (d := d_more_by) rfl
  exact ⟨_, fd, F, He.glo_ok X G (c.fact 30 (f := .glo "more_by") rfl)⟩
theorem dfn_lots_by (X : K.In h) (G : h.Ns mainGlobals mg) (c : He.SaysD faAll fnAll K) : ∃ f fd, Dfn K mg "lots_by" s_lots_by [] f fd := by
  obtain ⟨fd, F⟩ := c.def_ 31 (d := d_lots_by) rfl
  exact ⟨_, fd, F, He.glo_ok X G (c.fact 31 (f := .glo "lots_by") rfl)⟩
theorem dfn_want_wide (X : K.In h) (G : h.Ns mainGlobals mg) (c : He.SaysD faAll fnAll K) : ∃ f fd, Dfn K mg "want_wide" s_want_wide [] f fd := by
  obtain ⟨fd, F⟩ := c.def_ 32 (d := d_want_wide) rfl
  exact ⟨_, fd, F, He.glo_ok X G (c.fact 32 (f := .glo "want_wide") rfl)⟩
theorem dfn_fewest_more (X : K.In h) (G : h.Ns mainGlobals mg) (c : He.SaysD faAll fnAll K) : ∃ f fd, Dfn K mg "fewest_more" s_fewest_more [] f fd := by
  obtain ⟨fd, F⟩ := c.def_ 33 (d := d_fewest_more) rfl
  exact ⟨_, fd, F, He.glo_ok X G (c.fact 33 (f := .glo "fewest_more") rfl)⟩
theorem dfn_more_paper (X : K.In h) (G : h.Ns mainGlobals mg) (c : He.SaysD faAll fnAll K) : ∃ f fd, Dfn K mg "more_paper" s_more_paper [] f fd := by
  obtain ⟨fd, F⟩ := c.def_ 34 (d := d_more_paper) rfl
  exact ⟨_, fd, F, He.glo_ok X G (c.fact 34 (f := .glo "more_paper") rfl)⟩
theorem dfn_all_lots (X : K.In h) (G : h.Ns mainGlobals mg) (c : He.SaysD faAll fnAll K) : ∃ f fd, Dfn K mg "all_lots" s_all_lots [] f fd := by
  obtain ⟨fd, F⟩ := c.def_ 35 (d := d_all_lots) rfl
  exact ⟨_, fd, F, He.glo_ok X G (c.fact 35 (f := .glo "all_lots") rfl)⟩
theorem dfn_does_enter (X : K.In h) (G : h.Ns mainGlobals mg) (c : He.SaysD faAll fnAll K) : ∃ f fd, Dfn K mg "does_enter" s_does_enter [] f fd := by
  obtain ⟨fd, F⟩ := c.def_ 36 (d := d_does_enter) rfl
  exact ⟨_, fd, F, He.glo_ok X G (c.fact 36 (f := .glo "does_enter") rfl)⟩
theorem dfn_next_wire (X : K.In h) (G : h.Ns mainGlobals mg) (c : He.SaysD faAll fnAll K) : ∃ f fd, Dfn K mg "next_wire" s_next_wire [] f fd := by
  obtain ⟨fd, F⟩ := c.def_ 37 (d := d_next_wire) rfl
  exact ⟨_, fd, F, He.glo_ok X G (c.fact 37 (f := .glo "next_wire") rfl)⟩
theorem dfn_grown_tree (X : K.In h) (G : h.Ns mainGlobals mg) (c : He.SaysD faAll fnAll K) : ∃ f fd, Dfn K mg "grown_tree" s_grown_tree [] f fd := by
  obtain ⟨fd, F⟩ := c.def_ 38 (d := d_grown_tree) rfl
  exact ⟨_, fd, F, He.glo_ok X G (c.fact 38 (f := .glo "grown_tree") rfl)⟩
theorem dfn_grown_bundle (X : K.In h) (G : h.Ns mainGlobals mg) (c : He.SaysD faAll fnAll K) : ∃ f fd, Dfn K mg "grown_bundle" s_grown_bundle [] f fd := by
  obtain ⟨fd, F⟩ := c.def_ 39 (d := d_grown_bundle) rfl
  exact ⟨_, fd, F, He.glo_ok X G (c.fact 39 (f := .glo "grown_bundle") rfl)⟩
theorem dfn_want_many_trees (X : K.In h) (G : h.Ns mainGlobals mg) (c : He.SaysD faAll fnAll K) : ∃ f fd, Dfn K mg "want_many_trees" s_want_many_trees [] f fd := by
  obtain ⟨fd, F⟩ := c.def_ 40 (d := d_want_many_trees) rfl
  exact ⟨_, fd, F, He.glo_ok X G (c.fact 40 (f := .glo "want_many_trees") rfl)⟩
theorem dfn_bundle (X : K.In h) (G : h.Ns mainGlobals mg) (c : He.SaysD faAll fnAll K) : ∃ f fd, Dfn K mg "bundle" s_bundle [] f fd := by
  obtain ⟨fd, F⟩ := c.def_ 41 (d := d_bundle) rfl
  exact ⟨_, fd, F, He.glo_ok X G (c.fact 41 (f := .glo "bundle") rfl)⟩
theorem dfn_need_fault (X : K.In h) (G : h.Ns mainGlobals mg) (c : He.SaysD faAll fnAll K) : ∃ f fd, Dfn K mg "need_fault" s_need_fault [] f fd := by
  obtain ⟨fd, F⟩ := c.def_ 42 (d := d_need_fault) rfl
  exact ⟨_, fd, F, He.glo_ok X G (c.fact 42 (f := .glo "need_fault") rfl)⟩
theorem dfn_is_need (X : K.In h) (G : h.Ns mainGlobals mg) (c : He.SaysD faAll fnAll K) : ∃ f fd, Dfn K mg "is_need" s_is_need [] f fd := by
  obtain ⟨fd, F⟩ := c.def_ 43 (d := d_is_need) rfl
  exact ⟨_, fd, F, He.glo_ok X G (c.fact 43 (f := .glo "is_need") rfl)⟩
theorem dfn_size_in (X : K.In h) (G : h.Ns mainGlobals mg) (c : He.SaysD faAll fnAll K) : ∃ f fd, Dfn K mg "size_in" s_size_in [] f fd := by
  obtain ⟨fd, F⟩ := c.def_ 44 (d := d_size_in) rfl
  exact ⟨_, fd, F, He.glo_ok X G (c.fact 44 (f := .glo "size_in") rfl)⟩
theorem dfn_slack_in (X : K.In h) (G : h.Ns mainGlobals mg) (c : He.SaysD faAll fnAll K) : ∃ f fd, Dfn K mg "slack_in" s_slack_in [] f fd := by
  obtain ⟨fd, F⟩ := c.def_ 45 (d := d_slack_in) rfl
  exact ⟨_, fd, F, He.glo_ok X G (c.fact 45 (f := .glo "slack_in") rfl)⟩
theorem dfn_want_in (X : K.In h) (G : h.Ns mainGlobals mg) (c : He.SaysD faAll fnAll K) : ∃ f fd, Dfn K mg "want_in" s_want_in [] f fd := by
  obtain ⟨fd, F⟩ := c.def_ 46 (d := d_want_in) rfl
  exact ⟨_, fd, F, He.glo_ok X G (c.fact 46 (f := .glo "want_in") rfl)⟩
theorem dfn_want_need (X : K.In h) (G : h.Ns mainGlobals mg) (c : He.SaysD faAll fnAll K) : ∃ f fd, Dfn K mg "want_need" s_want_need [] f fd := by
  obtain ⟨fd, F⟩ := c.def_ 47 (d := d_want_need) rfl
  exact ⟨_, fd, F, He.glo_ok X G (c.fact 47 (f := .glo "want_need") rfl)⟩
theorem dfn_can_carry (X : K.In h) (G : h.Ns mainGlobals mg) (c : He.SaysD faAll fnAll K) : ∃ f fd, Dfn K mg "can_carry" s_can_carry [] f fd := by
  obtain ⟨fd, F⟩ := c.def_ 48 (d := d_can_carry) rfl
  exact ⟨_, fd, F, He.glo_ok X G (c.fact 48 (f := .glo "can_carry") rfl)⟩
theorem dfn_is_lot (X : K.In h) (G : h.Ns mainGlobals mg) (c : He.SaysD faAll fnAll K) : ∃ f fd, Dfn K mg "is_lot" s_is_lot [] f fd := by
  obtain ⟨fd, F⟩ := c.def_ 49 (d := d_is_lot) rfl
  exact ⟨_, fd, F, He.glo_ok X G (c.fact 49 (f := .glo "is_lot") rfl)⟩
theorem dfn_wires_fault (X : K.In h) (G : h.Ns mainGlobals mg) (c : He.SaysD faAll fnAll K) : ∃ f fd, Dfn K mg "wires_fault" s_wires_fault [] f fd := by
  obtain ⟨fd, F⟩ := c.def_ 50 (d := d_wires_fault) rfl
  exact ⟨_, fd, F, He.glo_ok X G (c.fact 50 (f := .glo "wires_fault") rfl)⟩
theorem dfn_lots_fault (X : K.In h) (G : h.Ns mainGlobals mg) (c : He.SaysD faAll fnAll K) : ∃ f fd, Dfn K mg "lots_fault" s_lots_fault [] f fd := by
  obtain ⟨fd, F⟩ := c.def_ 51 (d := d_lots_fault) rfl
  exact ⟨_, fd, F, He.glo_ok X G (c.fact 51 (f := .glo "lots_fault") rfl)⟩
theorem dfn_more_fault (X : K.In h) (G : h.Ns mainGlobals mg) (c : He.SaysD faAll fnAll K) : ∃ f fd, Dfn K mg "more_fault" s_more_fault [] f fd := by
  obtain ⟨fd, F⟩ := c.def_ 52 (d := d_more_fault) rfl
  exact ⟨_, fd, F, He.glo_ok X G (c.fact 52 (f := .glo "more_fault") rfl)⟩
theorem dfn_lets_more (X : K.In h) (G : h.Ns mainGlobals mg) (c : He.SaysD faAll fnAll K) : ∃ f fd, Dfn K mg "lets_more" s_lets_more [] f fd := by
  obtain ⟨fd, F⟩ := c.def_ 53 (d := d_lets_more) rfl
  exact ⟨_, fd, F, He.glo_ok X G (c.fact 53 (f := .glo "lets_more") rfl)⟩
theorem dfn_with_wire (X : K.In h) (G : h.Ns mainGlobals mg) (c : He.SaysD faAll fnAll K) : ∃ f fd, Dfn K mg "with_wire" s_with_wire [] f fd := by
  obtain ⟨fd, F⟩ := c.def_ 54 (d := d_with_wire) rfl
  exact ⟨_, fd, F, He.glo_ok X G (c.fact 54 (f := .glo "with_wire") rfl)⟩
theorem dfn_without_wire (X : K.In h) (G : h.Ns mainGlobals mg) (c : He.SaysD faAll fnAll K) : ∃ f fd, Dfn K mg "without_wire" s_without_wire [] f fd := by
  obtain ⟨fd, F⟩ := c.def_ 55 (d := d_without_wire) rfl
  exact ⟨_, fd, F, He.glo_ok X G (c.fact 55 (f := .glo "without_wire") rfl)⟩
theorem dfn_width (X : K.In h) (G : h.Ns mainGlobals mg) (c : He.SaysD faAll fnAll K) : ∃ f fd, Dfn K mg "width" s_width [] f fd := by
  obtain ⟨fd, F⟩ := c.def_ 56 (d := d_width) rfl
  exact ⟨_, fd, F, He.glo_ok X G (c.fact 56 (f := .glo "width") rfl)⟩
theorem dfn_L_feed (X : K.In h) (G : h.Ns mainGlobals mg) (c : He.SaysD faAll fnAll K) : ∃ f fd, Dfn K mg "_law_feed" s_L_feed [] f fd := by
  obtain ⟨fd, F⟩ := c.def_ 57 (d := d_L_feed) rfl
  exact ⟨_, fd, F, He.glo_ok X G (c.fact 57 (f := .glo "_law_feed") rfl)⟩
theorem dfn_L_draw (X : K.In h) (G : h.Ns mainGlobals mg) (c : He.SaysD faAll fnAll K) : ∃ f fd, Dfn K mg "_law_draw" s_L_draw [] f fd := by
  obtain ⟨fd, F⟩ := c.def_ 58 (d := d_L_draw) rfl
  exact ⟨_, fd, F, He.glo_ok X G (c.fact 58 (f := .glo "_law_draw") rfl)⟩
theorem dfn_L_names (X : K.In h) (G : h.Ns mainGlobals mg) (c : He.SaysD faAll fnAll K) : ∃ f fd, Dfn K mg "_law_names" s_L_names [] f fd := by
  obtain ⟨fd, F⟩ := c.def_ 59 (d := d_L_names) rfl
  exact ⟨_, fd, F, He.glo_ok X G (c.fact 59 (f := .glo "_law_names") rfl)⟩
theorem dfn_L_grown (X : K.In h) (G : h.Ns mainGlobals mg) (c : He.SaysD faAll fnAll K) : ∃ f fd, Dfn K mg "_law_grown" s_L_grown [] f fd := by
  obtain ⟨fd, F⟩ := c.def_ 60 (d := d_L_grown) rfl
  exact ⟨_, fd, F, He.glo_ok X G (c.fact 60 (f := .glo "_law_grown") rfl)⟩
theorem dfn_L_others (X : K.In h) (G : h.Ns mainGlobals mg) (c : He.SaysD faAll fnAll K) : ∃ f fd, Dfn K mg "_law_others" s_L_others [] f fd := by
  obtain ⟨fd, F⟩ := c.def_ 61 (d := d_L_others) rfl
  exact ⟨_, fd, F, He.glo_ok X G (c.fact 61 (f := .glo "_law_others") rfl)⟩
theorem dfn_L_lots (X : K.In h) (G : h.Ns mainGlobals mg) (c : He.SaysD faAll fnAll K) : ∃ f fd, Dfn K mg "_law_lots" s_L_lots [] f fd := by
  obtain ⟨fd, F⟩ := c.def_ 62 (d := d_L_lots) rfl
  exact ⟨_, fd, F, He.glo_ok X G (c.fact 62 (f := .glo "_law_lots") rfl)⟩
theorem dfn_L_entering (X : K.In h) (G : h.Ns mainGlobals mg) (c : He.SaysD faAll fnAll K) : ∃ f fd, Dfn K mg "_law_entering" s_L_entering [] f fd := by
  obtain ⟨fd, F⟩ := c.def_ 63 (d := d_L_entering) rfl
  exact ⟨_, fd, F, He.glo_ok X G (c.fact 63 (f := .glo "_law_entering") rfl)⟩
theorem dfn_L_width (X : K.In h) (G : h.Ns mainGlobals mg) (c : He.SaysD faAll fnAll K) : ∃ f fd, Dfn K mg "_law_width" s_L_width [] f fd := by
  obtain ⟨fd, F⟩ := c.def_ 64 (d := d_L_width) rfl
  exact ⟨_, fd, F, He.glo_ok X G (c.fact 64 (f := .glo "_law_width") rfl)⟩
theorem dfn_L_want (X : K.In h) (G : h.Ns mainGlobals mg) (c : He.SaysD faAll fnAll K) : ∃ f fd, Dfn K mg "_law_want" s_L_want [] f fd := by
  obtain ⟨fd, F⟩ := c.def_ 65 (d := d_L_want) rfl
  exact ⟨_, fd, F, He.glo_ok X G (c.fact 65 (f := .glo "_law_want") rfl)⟩
theorem dfn_L_net (X : K.In h) (G : h.Ns mainGlobals mg) (c : He.SaysD faAll fnAll K) : ∃ f fd, Dfn K mg "_law_net" s_L_net [] f fd := by
  obtain ⟨fd, F⟩ := c.def_ 66 (d := d_L_net) rfl
  exact ⟨_, fd, F, He.glo_ok X G (c.fact 66 (f := .glo "_law_net") rfl)⟩
theorem dfn_L_apart (X : K.In h) (G : h.Ns mainGlobals mg) (c : He.SaysD faAll fnAll K) : ∃ f fd, Dfn K mg "_law_apart" s_L_apart [] f fd := by
  obtain ⟨fd, F⟩ := c.def_ 67 (d := d_L_apart) rfl
  exact ⟨_, fd, F, He.glo_ok X G (c.fact 67 (f := .glo "_law_apart") rfl)⟩
theorem dfn_L_lacking (X : K.In h) (G : h.Ns mainGlobals mg) (c : He.SaysD faAll fnAll K) : ∃ f fd, Dfn K mg "_law_lacking" s_L_lacking [] f fd := by
  obtain ⟨fd, F⟩ := c.def_ 68 (d := d_L_lacking) rfl
  exact ⟨_, fd, F, He.glo_ok X G (c.fact 68 (f := .glo "_law_lacking") rfl)⟩
theorem dfn_L_are_more (X : K.In h) (G : h.Ns mainGlobals mg) (c : He.SaysD faAll fnAll K) : ∃ f fd, Dfn K mg "_law_are_more" s_L_are_more [] f fd := by
  obtain ⟨fd, F⟩ := c.def_ 69 (d := d_L_are_more) rfl
  exact ⟨_, fd, F, He.glo_ok X G (c.fact 69 (f := .glo "_law_are_more") rfl)⟩
theorem dfn_L_is_grown (X : K.In h) (G : h.Ns mainGlobals mg) (c : He.SaysD faAll fnAll K) : ∃ f fd, Dfn K mg "_law_is_grown" s_L_is_grown [] f fd := by
  obtain ⟨fd, F⟩ := c.def_ 70 (d := d_L_is_grown) rfl
  exact ⟨_, fd, F, He.glo_ok X G (c.fact 70 (f := .glo "_law_is_grown") rfl)⟩
theorem dfn_L_is_paper (X : K.In h) (G : h.Ns mainGlobals mg) (c : He.SaysD faAll fnAll K) : ∃ f fd, Dfn K mg "_law_is_paper" s_L_is_paper [] f fd := by
  obtain ⟨fd, F⟩ := c.def_ 71 (d := d_L_is_paper) rfl
  exact ⟨_, fd, F, He.glo_ok X G (c.fact 71 (f := .glo "_law_is_paper") rfl)⟩
theorem dfn_L_judged (X : K.In h) (G : h.Ns mainGlobals mg) (c : He.SaysD faAll fnAll K) : ∃ f fd, Dfn K mg "_law_judged" s_L_judged [] f fd := by
  obtain ⟨fd, F⟩ := c.def_ 72 (d := d_L_judged) rfl
  exact ⟨_, fd, F, He.glo_ok X G (c.fact 72 (f := .glo "_law_judged") rfl)⟩
theorem dfn_law (X : K.In h) (G : h.Ns mainGlobals mg) (c : He.SaysD faAll fnAll K) : ∃ f fd, Dfn K mg "law" s_law [] f fd := by
  obtain ⟨fd, F⟩ := c.def_ 73 (d := d_law) rfl
  exact ⟨_, fd, F, He.glo_ok X G (c.fact 73 (f := .glo "law") rfl)⟩
theorem bt_of (X : K.In h) (G : h.Ns mainGlobals mg) (c : He.SaysD faAll fnAll K) : Bt mg where
  len := He.free_ok X G (c.fact 74 (f := .free "len") rfl)
  enumerate := He.free_ok X G (c.fact 75 (f := .free "enumerate") rfl)
  dict := He.free_ok X G (c.fact 76 (f := .free "dict") rfl)
  tuple := He.free_ok X G (c.fact 77 (f := .free "tuple") rfl)
  isinstance := He.free_ok X G (c.fact 78 (f := .free "isinstance") rfl)
  int := He.free_ok X G (c.fact 79 (f := .free "int") rfl)
  bool := He.free_ok X G (c.fact 80 (f := .free "bool") rfl)
  str := He.free_ok X G (c.fact 81 (f := .free "str") rfl)
  all := He.free_ok X G (c.fact 82 (f := .free "all") rfl)
  any := He.free_ok X G (c.fact 83 (f := .free "any") rfl)
  zip := He.free_ok X G (c.fact 84 (f := .free "zip") rfl)
  sorted := He.free_ok X G (c.fact 85 (f := .free "sorted") rfl)
  min := He.free_ok X G (c.fact 86 (f := .free "min") rfl)
  max := He.free_ok X G (c.fact 87 (f := .free "max") rfl)
  sum := He.free_ok X G (c.fact 88 (f := .free "sum") rfl)
  set := He.free_ok X G (c.fact 89 (f := .free "set") rfl)
  list := He.free_ok X G (c.fact 90 (f := .free "list") rfl)
  range := He.free_ok X G (c.fact 91 (f := .free "range") rfl)
  repr := He.free_ok X G (c.fact 92 (f := .free "repr") rfl)
  wide9 := He.int_ok X G (c.fact 93 (f := .int "MOST_WIDE" 9) rfl)
  trees9 := He.int_ok X G (c.fact 94 (f := .int "MOST_TREES" 9) rfl)
end
theorem facts {P : Program} {w : World} {K : PySem.W.Frag} {h : Heap} {mg : Str → Option Value} {fa : Addr} (X : K.In h) (G : h.Ns mainGlobals mg) (hfa : mg ("law" : Str) = some (.ref fa)) (c : He.SaysD faAll fnAll K) :
    ∃ fd : FuncData, (∀ (s : Shared) (u : Value), BindsTo s fd ⟨[u], []⟩ [("_law_script", u)]) ∧ ∀ base : Heap, K.In base → base.Ns mainGlobals mg → FnG P w K mg base 10 fa fd ["_law_script"] (pr_law K) := by
  have m := bt_of X G c
  obtain ⟨f_steps_on, fd_steps_on, D_steps_on⟩ := dfn_steps_on X G c
  obtain ⟨f_comings, fd_comings, D_comings⟩ := dfn_comings X G c
  obtain ⟨f_one_way_more, fd_one_way_more, D_one_way_more⟩ := dfn_one_way_more X G c
  obtain ⟨f_taken_by, fd_taken_by, D_taken_by⟩ := dfn_taken_by X G c
  obtain ⟨f_many_of, fd_many_of, D_many_of⟩ := dfn_many_of X G c
  obtain ⟨f_greatest_side, fd_greatest_side, D_greatest_side⟩ := dfn_greatest_side X G c
  obtain ⟨f_is_integer, fd_is_integer, D_is_integer⟩ := dfn_is_integer X G c
  obtain ⟨f_is_number, fd_is_number, D_is_number⟩ := dfn_is_number X G c
  obtain ⟨f_is_name, fd_is_name, D_is_name⟩ := dfn_is_name X G c
  obtain ⟨f_is_pair, fd_is_pair, D_is_pair⟩ := dfn_is_pair X G c
  obtain ⟨f_is_name_set, fd_is_name_set, D_is_name_set⟩ := dfn_is_name_set X G c
  obtain ⟨f_is_houses, fd_is_houses, D_is_houses⟩ := dfn_is_houses X G c
  obtain ⟨f_is_wire_of, fd_is_wire_of, D_is_wire_of⟩ := dfn_is_wire_of X G c
  obtain ⟨f_entered_by, fd_entered_by, D_entered_by⟩ := dfn_entered_by X G c
  obtain ⟨f_net_of, fd_net_of, D_net_of⟩ := dfn_net_of X G c
  obtain ⟨f_need, fd_need, D_need⟩ := dfn_need X G c
  obtain ⟨f_are_two_tuples, fd_are_two_tuples, D_are_two_tuples⟩ := dfn_are_two_tuples X G c
  obtain ⟨f_accept_houses, fd_accept_houses, D_accept_houses⟩ := dfn_accept_houses X G c
  obtain ⟨f_lets_net, fd_lets_net, D_lets_net⟩ := dfn_lets_net X G c
  obtain ⟨f_want, fd_want, D_want⟩ := dfn_want X G c
  obtain ⟨f_want_net, fd_want_net, D_want_net⟩ := dfn_want_net X G c
  obtain ⟨f_want_house, fd_want_house, D_want_house⟩ := dfn_want_house X G c
  obtain ⟨f_want_root, fd_want_root, D_want_root⟩ := dfn_want_root X G c
  obtain ⟨f_want_index, fd_want_index, D_want_index⟩ := dfn_want_index X G c
  obtain ⟨f_want_wire, fd_want_wire, D_want_wire⟩ := dfn_want_wire X G c
  obtain ⟨f_alone_by, fd_alone_by, D_alone_by⟩ := dfn_alone_by X G c
  obtain ⟨f_others_of, fd_others_of, D_others_of⟩ := dfn_others_of X G c
  obtain ⟨f_narrow_by, fd_narrow_by, D_narrow_by⟩ := dfn_narrow_by X G c
  obtain ⟨f_pairs_by, fd_pairs_by, D_pairs_by⟩ := dfn_pairs_by X G c
  obtain ⟨f_many_by, fd_many_by, D_many_by⟩ := dfn_many_by X G c
  obtain ⟨f_more_by, fd_more_by, D_more_by⟩ := dfn_more_by X G c
  obtain ⟨f_lots_by, fd_lots_by, D_lots_by⟩ := dfn_lots_by X G c
  obtain ⟨f_want_wide, fd_want_wide, D_want_wide⟩ := dfn_want_wide X G c
  obtain ⟨f_fewest_more, fd_fewest_more, D_fewest_more⟩ := dfn_fewest_more X G c
  obtain ⟨f_more_paper, fd_more_paper, D_more_paper⟩ := dfn_more_paper X G c
  obtain ⟨f_all_lots, fd_all_lots, D_all_lots⟩ := dfn_all_lots X G c
  obtain ⟨f_does_enter, fd_does_enter, D_does_enter⟩ := dfn_does_enter X G c
  obtain ⟨f_next_wire, fd_next_wire, D_next_wire⟩ := dfn_next_wire X G c
  obtain ⟨f_grown_tree, fd_grown_tree, D_grown_tree⟩ := dfn_grown_tree X G c
  obtain ⟨f_grown_bundle, fd_grown_bundle, D_grown_bundle⟩ := dfn_grown_bundle X G c
  obtain ⟨f_want_many_trees, fd_want_many_trees, D_want_many_trees⟩ := dfn_want_many_trees X G c
  obtain ⟨f_bundle, fd_bundle, D_bundle⟩ := dfn_bundle X G c
  obtain ⟨f_need_fault, fd_need_fault, D_need_fault⟩ := dfn_need_fault X G c
  obtain ⟨f_is_need, fd_is_need, D_is_need⟩ := dfn_is_need X G c
  obtain ⟨f_size_in, fd_size_in, D_size_in⟩ := dfn_size_in X G c
  obtain ⟨f_slack_in, fd_slack_in, D_slack_in⟩ := dfn_slack_in X G c
  obtain ⟨f_want_in, fd_want_in, D_want_in⟩ := dfn_want_in X G c
  obtain ⟨f_want_need, fd_want_need, D_want_need⟩ := dfn_want_need X G c
  obtain ⟨f_can_carry, fd_can_carry, D_can_carry⟩ := dfn_can_carry X G c
  obtain ⟨f_is_lot, fd_is_lot, D_is_lot⟩ := dfn_is_lot X G c
  obtain ⟨f_wires_fault, fd_wires_fault, D_wires_fault⟩ := dfn_wires_fault X G c
  obtain ⟨f_lots_fault, fd_lots_fault, D_lots_fault⟩ := dfn_lots_fault X G c
  obtain ⟨f_more_fault, fd_more_fault, D_more_fault⟩ := dfn_more_fault X G c
  obtain ⟨f_lets_more, fd_lets_more, D_lets_more⟩ := dfn_lets_more X G c
  obtain ⟨f_with_wire, fd_with_wire, D_with_wire⟩ := dfn_with_wire X G c
  obtain ⟨f_without_wire, fd_without_wire, D_without_wire⟩ := dfn_without_wire X G c
  obtain ⟨f_width, fd_width, D_width⟩ := dfn_width X G c
  obtain ⟨f_L_feed, fd_L_feed, D_L_feed⟩ := dfn_L_feed X G c
  obtain ⟨f_L_draw, fd_L_draw, D_L_draw⟩ := dfn_L_draw X G c
  obtain ⟨f_L_names, fd_L_names, D_L_names⟩ := dfn_L_names X G c
  obtain ⟨f_L_grown, fd_L_grown, D_L_grown⟩ := dfn_L_grown X G c
  obtain ⟨f_L_others, fd_L_others, D_L_others⟩ := dfn_L_others X G c
  obtain ⟨f_L_lots, fd_L_lots, D_L_lots⟩ := dfn_L_lots X G c
  obtain ⟨f_L_entering, fd_L_entering, D_L_entering⟩ := dfn_L_entering X G c
  obtain ⟨f_L_width, fd_L_width, D_L_width⟩ := dfn_L_width X G c
  obtain ⟨f_L_want, fd_L_want, D_L_want⟩ := dfn_L_want X G c
  obtain ⟨f_L_net, fd_L_net, D_L_net⟩ := dfn_L_net X G c
  obtain ⟨f_L_apart, fd_L_apart, D_L_apart⟩ := dfn_L_apart X G c
  obtain ⟨f_L_lacking, fd_L_lacking, D_L_lacking⟩ := dfn_L_lacking X G c
  obtain ⟨f_L_are_more, fd_L_are_more, D_L_are_more⟩ := dfn_L_are_more X G c
  obtain ⟨f_L_is_grown, fd_L_is_grown, D_L_is_grown⟩ := dfn_L_is_grown X G c
  obtain ⟨f_L_is_paper, fd_L_is_paper, D_L_is_paper⟩ := dfn_L_is_paper X G c
  obtain ⟨f_L_judged, fd_L_judged, D_L_judged⟩ := dfn_L_judged X G c
  obtain ⟨f_law, fd_law, D_law⟩ := dfn_law X G c
  have c_many_of : ∀ base : Heap, Cal P w K mg base 1 "many_of" [] (pr_many_of K) := fun base => many_of_ok m D_many_of
  have c_L_entering : ∀ base : Heap, Cal P w K mg base 1 "_law_entering" [] (pr_L_entering K) := fun base => L_entering_ok m D_L_entering
  have c_pairs_by : ∀ base : Heap, Cal P w K mg base 1 "pairs_by" [] (pr_pairs_by K) := fun base => pairs_by_ok m D_pairs_by
  have c_all_lots : ∀ base : Heap, Cal P w K mg base 1 "all_lots" [] (pr_all_lots K) := fun base => all_lots_ok m D_all_lots
  have c_one_way_more : ∀ base : Heap, Cal P w K mg base 1 "one_way_more" [] (pr_one_way_more K) := fun base => one_way_more_ok m D_one_way_more
  have c_L_draw : ∀ base : Heap, Cal P w K mg base 1 "_law_draw" [] (pr_L_draw K) := fun base => L_draw_ok m D_L_draw
  have c_is_integer : ∀ base : Heap, Cal P w K mg base 1 "is_integer" [] (pr_is_integer K) := fun base => is_integer_ok m D_is_integer
  have c_is_name : ∀ base : Heap, Cal P w K mg base 1 "is_name" [] (pr_is_name K) := fun base => is_name_ok m D_is_name
  have c_is_pair : ∀ base : Heap, Cal P w K mg base 1 "is_pair" [] (pr_is_pair K) := fun base => is_pair_ok m D_is_pair
  have c_entered_by : ∀ base : Heap, Cal P w K mg base 1 "entered_by" [] (pr_entered_by K) := fun base => entered_by_ok m D_entered_by
  have c_net_of : ∀ base : Heap, Cal P w K mg base 1 "net_of" [] (pr_net_of K) := fun base => net_of_ok m D_net_of
  have c_need : ∀ base : Heap, Cal P w K mg base 1 "need" [] (pr_need K) := fun base => need_ok D_need
  have c_needD : ∀ base : Heap, Cal P w K mg base 1 "need" [.int (-1)] (pr_need K) := fun base => needD_ok D_need
  have c_want : ∀ base : Heap, Cal P w K mg base 1 "want" [] (pr_want K) := fun base => want_ok D_want
  have c_wantD : ∀ base : Heap, Cal P w K mg base 1 "want" [.int (-1)] (pr_want K) := fun base => wantD_ok D_want
  have c_L_feed : ∀ base : Heap, Cal P w K mg base 1 "_law_feed" [] (pr_L_feed K) := fun base => L_feed_ok m D_L_feed
  have c_steps_on : ∀ base : Heap, Cal P w K mg base 1 "steps_on" [] (pr_steps_on K) := fun base => steps_on_ok m D_steps_on
  have c_others_of : ∀ base : Heap, Cal P w K mg base 1 "others_of" [] (pr_others_of K) := fun base => others_of_ok m D_others_of
  have c_L_others : ∀ base : Heap, Cal P w K mg base 1 "_law_others" [] (pr_L_others K) := fun base => L_others_ok m D_L_others
  have c_does_enter : ∀ base : Heap, Cal P w K mg base 1 "does_enter" [] (pr_does_enter K) := fun base => does_enter_ok m D_does_enter
  have c_size_in : ∀ base : Heap, Cal P w K mg base 1 "size_in" [] (pr_size_in K) := fun base => size_in_ok m D_size_in
  have c_slack_in : ∀ base : Heap, Cal P w K mg base 1 "slack_in" [] (pr_slack_in K) := fun base => slack_in_ok m D_slack_in
  have c_L_want : ∀ base : Heap, Cal P w K mg base 1 "_law_want" [] (pr_L_want K) := fun base => L_want_ok m D_L_want
  have c_L_lacking : ∀ base : Heap, Cal P w K mg base 2 "_law_lacking" [] (pr_L_lacking K) := fun base => L_lacking_ok m (c_L_entering base) D_L_lacking
  have c_L_lots : ∀ base : Heap, Cal P w K mg base 2 "_law_lots" [] (pr_L_lots K) := fun base => L_lots_ok m (c_L_others base) D_L_lots
  have c_accept_houses : ∀ base : Heap, Cal P w K mg base 2 "accept_houses" [] (pr_accept_houses K) := fun base => accept_houses_ok m (c_is_name base) (c_need base) D_accept_houses
  have c_want_house : ∀ base : Heap, Cal P w K mg base 2 "want_house" [] (pr_want_house K) := fun base => want_house_ok m (c_want base) (c_is_name base) D_want_house
  have c_is_number : ∀ base : Heap, Cal P w K mg base 2 "is_number" [] (pr_is_number K) := fun base => is_number_ok m (c_is_integer base) D_is_number
  have c_is_name_set : ∀ base : Heap, Cal P w K mg base 2 "is_name_set" [] (pr_is_name_set K) := fun base => is_name_set_ok m (c_is_name base) D_is_name_set
  have c_is_wire_of : ∀ base : Heap, Cal P w K mg base 2 "is_wire_of" [] (pr_is_wire_of K) := fun base => is_wire_of_ok m (c_is_pair base) (c_is_name base) D_is_wire_of
  have c_are_two_tuples : ∀ base : Heap, Cal P w K mg base 2 "are_two_tuples" [] (pr_are_two_tuples K) := fun base => are_two_tuples_ok m (c_is_pair base) D_are_two_tuples
  have c_next_wire : ∀ base : Heap, Cal P w K mg base 2 "next_wire" [] (pr_next_wire K) := fun base => next_wire_ok m (c_does_enter base) D_next_wire
  have c_L_names : ∀ base : Heap, Cal P w K mg base 2 "_law_names" [] (pr_L_names K) := fun base => L_names_ok m (c_L_draw base) D_L_names
  have c_comings : ∀ base : Heap, Cal P w K mg base 2 "comings" [] (pr_comings K) := fun base => comings_ok m (c_steps_on base) D_comings
  have c_want_in : ∀ base : Heap, Cal P w K mg base 2 "want_in" [] (pr_want_in K) := fun base => want_in_ok m (c_size_in base) (c_slack_in base) D_want_in
  have c_L_width : ∀ base : Heap, Cal P w K mg base 3 "_law_width" [] (pr_L_width K) := fun base => L_width_ok m (c_L_lots base) (c_L_entering base) D_L_width
  have c_L_apart : ∀ base : Heap, Cal P w K mg base 3 "_law_apart" [] (pr_L_apart K) := fun base => L_apart_ok m (c_L_lots base) D_L_apart
  have c_grown_tree : ∀ base : Heap, Cal P w K mg base 3 "grown_tree" [] (pr_grown_tree K) := fun base => grown_tree_ok m (c_all_lots base) (c_does_enter base) (c_next_wire base) D_grown_tree
  have c_taken_by : ∀ base : Heap, Cal P w K mg base 3 "taken_by" [] (pr_taken_by K) := fun base => taken_by_ok m (c_comings base) (c_one_way_more base) D_taken_by
  have c_lets_net : ∀ base : Heap, Cal P w K mg base 3 "lets_net" [] (pr_lets_net K) := fun base => lets_net_ok m (c_needD base) (c_need base) (c_are_two_tuples base) (c_accept_houses base) (c_is_wire_of base) D_lets_net
  have c_want_index : ∀ base : Heap, Cal P w K mg base 3 "want_index" [] (pr_want_index K) := fun base => want_index_ok m (c_want base) (c_is_number base) D_want_index
  have c_want_wire : ∀ base : Heap, Cal P w K mg base 3 "want_wire" [] (pr_want_wire K) := fun base => want_wire_ok m (c_wantD base) (c_is_wire_of base) D_want_wire
  have c_is_houses : ∀ base : Heap, Cal P w K mg base 3 "is_houses" [] (pr_is_houses K) := fun base => is_houses_ok m (c_is_name_set base) D_is_houses
  have c_need_fault : ∀ base : Heap, Cal P w K mg base 3 "need_fault" [] (pr_need_fault K) := fun base => need_fault_ok m (c_is_number base) D_need_fault
  have c_want_many_trees : ∀ base : Heap, Cal P w K mg base 3 "want_many_trees" [] (pr_want_many_trees K) := fun base => want_many_trees_ok m (c_want base) (c_is_number base) D_want_many_trees
  have c_L_grown : ∀ base : Heap, Cal P w K mg base 3 "_law_grown" [] (pr_L_grown K) := fun base => L_grown_ok m (c_L_names base) (c_L_draw base) D_L_grown
  have c_greatest_side : ∀ base : Heap, Cal P w K mg base 4 "greatest_side" [] (pr_greatest_side K) := fun base => greatest_side_ok m (c_taken_by base) (c_comings base) D_greatest_side
  have c_alone_by : ∀ base : Heap, Cal P w K mg base 4 "alone_by" [] (pr_alone_by K) := fun base => alone_by_ok m (c_many_of base) (c_taken_by base) D_alone_by
  have c_want_net : ∀ base : Heap, Cal P w K mg base 4 "want_net" [] (pr_want_net K) := fun base => want_net_ok m (c_lets_net base) D_want_net
  have c_L_are_more : ∀ base : Heap, Cal P w K mg base 4 "_law_are_more" [] (pr_L_are_more K) := fun base => L_are_more_ok m (c_L_others base) (c_L_width base) D_L_are_more
  have c_grown_bundle : ∀ base : Heap, Cal P w K mg base 4 "grown_bundle" [] (pr_grown_bundle K) := fun base => grown_bundle_ok m (c_grown_tree base) D_grown_bundle
  have c_is_lot : ∀ base : Heap, Cal P w K mg base 4 "is_lot" [] (pr_is_lot K) := fun base => is_lot_ok m (c_is_houses base) D_is_lot
  have c_is_need : ∀ base : Heap, Cal P w K mg base 4 "is_need" [] (pr_is_need K) := fun base => is_need_ok m (c_need_fault base) D_is_need
  have c_L_net : ∀ base : Heap, Cal P w K mg base 4 "_law_net" [] (pr_L_net K) := fun base => L_net_ok m (c_L_draw base) (c_L_grown base) (c_L_names base) D_L_net
  have c_L_is_paper : ∀ base : Heap, Cal P w K mg base 5 "_law_is_paper" [] (pr_L_is_paper K) := fun base => L_is_paper_ok m (c_L_are_more base) (c_L_apart base) (c_L_lacking base) D_L_is_paper
  have c_lots_fault : ∀ base : Heap, Cal P w K mg base 5 "lots_fault" [] (pr_lots_fault K) := fun base => lots_fault_ok m (c_is_lot base) (c_entered_by base) D_lots_fault
  have c_with_wire : ∀ base : Heap, Cal P w K mg base 5 "with_wire" [] (pr_with_wire K) := fun base => with_wire_ok m (c_want_net base) (c_want_wire base) (c_net_of base) D_with_wire
  have c_without_wire : ∀ base : Heap, Cal P w K mg base 5 "without_wire" [] (pr_without_wire K) := fun base => without_wire_ok m (c_want_net base) (c_want_index base) (c_net_of base) D_without_wire
  have c_narrow_by : ∀ base : Heap, Cal P w K mg base 5 "narrow_by" [] (pr_narrow_by K) := fun base => narrow_by_ok m (c_alone_by base) (c_others_of base) (c_greatest_side base) D_narrow_by
  have c_lots_by : ∀ base : Heap, Cal P w K mg base 5 "lots_by" [] (pr_lots_by K) := fun base => lots_by_ok m (c_net_of base) (c_greatest_side base) D_lots_by
  have c_want_root : ∀ base : Heap, Cal P w K mg base 5 "want_root" [] (pr_want_root K) := fun base => want_root_ok m (c_want_net base) (c_want_house base) D_want_root
  have c_many_by : ∀ base : Heap, Cal P w K mg base 5 "many_by" [] (pr_many_by K) := fun base => many_by_ok m (c_others_of base) (c_net_of base) (c_pairs_by base) (c_alone_by base) D_many_by
  have c_want_need : ∀ base : Heap, Cal P w K mg base 5 "want_need" [] (pr_want_need K) := fun base => want_need_ok m (c_wantD base) (c_is_need base) D_want_need
  have c_width : ∀ base : Heap, Cal P w K mg base 6 "width" [] (pr_width K) := fun base => width_ok m (c_want_root base) (c_narrow_by base) D_width
  have c_can_carry : ∀ base : Heap, Cal P w K mg base 6 "can_carry" [] (pr_can_carry K) := fun base => can_carry_ok m (c_want_root base) (c_want_need base) (c_narrow_by base) (c_want_in base) D_can_carry
  have c_bundle : ∀ base : Heap, Cal P w K mg base 6 "bundle" [] (pr_bundle K) := fun base => bundle_ok m (c_want_root base) (c_want_many_trees base) (c_grown_bundle base) D_bundle
  have c_wires_fault : ∀ base : Heap, Cal P w K mg base 6 "wires_fault" [] (pr_wires_fault K) := fun base => wires_fault_ok m (c_is_wire_of base) (c_net_of base) (c_narrow_by base) D_wires_fault
  have c_more_by : ∀ base : Heap, Cal P w K mg base 6 "more_by" [] (pr_more_by K) := fun base => more_by_ok m (c_pairs_by base) (c_many_by base) D_more_by
  have c_want_wide : ∀ base : Heap, Cal P w K mg base 6 "want_wide" [] (pr_want_wide K) := fun base => want_wide_ok m (c_want_root base) (c_want base) (c_is_number base) D_want_wide
  have c_more_fault : ∀ base : Heap, Cal P w K mg base 7 "more_fault" [] (pr_more_fault K) := fun base => more_fault_ok m (c_wires_fault base) (c_lots_fault base) D_more_fault
  have c_fewest_more : ∀ base : Heap, Cal P w K mg base 7 "fewest_more" [] (pr_fewest_more K) := fun base => fewest_more_ok m (c_want_wide base) (c_more_by base) D_fewest_more
  have c_more_paper : ∀ base : Heap, Cal P w K mg base 7 "more_paper" [] (pr_more_paper K) := fun base => more_paper_ok m (c_want_wide base) (c_more_by base) (c_lots_by base) D_more_paper
  have c_L_is_grown : ∀ base : Heap, Cal P w K mg base 7 "_law_is_grown" [] (pr_L_is_grown K) := fun base => L_is_grown_ok m (c_with_wire base) (c_bundle base) (c_width base) (c_L_width base) (c_without_wire base) (c_can_carry base) D_L_is_grown
  have c_lets_more : ∀ base : Heap, Cal P w K mg base 8 "lets_more" [] (pr_lets_more K) := fun base => lets_more_ok m (c_want_root base) (c_want base) (c_is_number base) (c_more_fault base) D_lets_more
  have c_L_judged : ∀ base : Heap, Cal P w K mg base 9 "_law_judged" [] (pr_L_judged K) := fun base => L_judged_ok m (c_lets_more base) D_L_judged
  have e : f_law = fa := by
    have e := hfa.symm.trans D_law.at_
    cases e
    rfl
  subst e
  have b := FunD.bindsA (ps := ["_law_script"]) D_law.fn fun _ _ _ _ _ _ us hl => match us, hl with | [_], _ => rfl
  exact ⟨fd_law, fun s v => b s [v] rfl, fun base _ _ => law_fn m (c_L_feed base) (c_L_net base) (c_L_draw base) (c_L_want base) (c_L_apart base) (c_L_lacking base) (c_fewest_more base) (c_L_are_more base) (c_L_is_grown base) (c_can_carry base) (c_more_paper base) (c_L_is_paper base) (c_L_judged base) D_law⟩
end K86
open PySem PySem.W PySem.Calls PyProof.Rows
theorem PySem.Challenge.cw_stillarrives_k86_whole_the_fewest_wires_holds : PySem.Challenge.rw_stillarrives_k86_whole_the_fewest_wires.Holds := by
  w_on; o_law
  refine HandSHeadRun.head_any (r := OpenLaw.row PySem.Challenge.rw_stillarrives_k86_whole_the_fewest_wires) (q := view (OpenLaw.row PySem.Challenge.rw_stillarrives_k86_whole_the_fewest_wires).prog [98]) (H := K86.hkH) (ob := K86.obH) (M := 4000) (loose := K86.looseAll) (d := HandSHeadRun.topDef (OpenLaw.row PySem.Challenge.rw_stillarrives_k86_whole_the_fewest_wires).prog 98) (kwd := []) K86.obH_eq
    (by kernel_rfl) (fun s => by kernel_rfl) K86.runH (by kernel_rfl) (by kernel_rfl) (by kernel_rfl) (by rfl) (by first | assumption | decide +kernel) (by decide +kernel) ⟨rfl, rfl, rfl, rfl, rfl, by decide +kernel⟩ ?hw ?hc
  case hw => w_witness2
  case hc =>
    refine K86.walk_ofG (l := PySem.Challenge.rw_stillarrives_k86_whole_the_fewest_wires) (n := 63) (k := 10) (x := "_law_script") rfl (by decide) (by kernel_rfl) ⟨⟨rfl, by decide, by decide⟩, rfl⟩ ?F
    intro w mg fa h Y G hmg0
    obtain ⟨K, KX, c⟩ := Y
    have hmg : mg ("law" : PySem.Str) = some (.ref fa) := by
      have e : (HandSHeadRun.topDef (OpenLaw.row PySem.Challenge.rw_stillarrives_k86_whole_the_fewest_wires).prog 98).name = ("law" : PySem.Str) := by kernel_rfl
      rw [← e]
      exact hmg0
    obtain ⟨fd, hb, hF⟩ := K86.facts (P := (PySem.Challenge.rw_stillarrives_k86_whole_the_fewest_wires).prog) (w := w) KX G hmg c
    exact ⟨K, fd, K86.pr_law K, KX, hb, fun H a ns hl _ hS => ⟨a, ns, rfl, hS, fun _ => rfl⟩, hF⟩
-- x

end
