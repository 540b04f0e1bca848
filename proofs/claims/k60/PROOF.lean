import PyProof.Rows.All
import Wide.All
import OpenK.AllK
import Wide.FinOn
import KE.KStateDown
import HandS.ForMost
import HandS.Style
import HandS.Walk
import HandS.Zip
import HandS.Defaults
import HandS.Conv
import HandS.TupAny
import HandS.IsInst
import HandS.Wide
import HandS.Zip0
import HandS.Iter
import PyProof.Draws
import HandS.TupSets
import HandS.SortInts
import KE.GoesMore
import KE.GoesNew
import KE.GoesZip
import KE.GoesEnum
import HandS.Dict
import HandS.DictTup
import HandS.SortRule
import KE.KDictPairs
import HandS.More
import HandS.Head0
import HandS.Head1
import HandS.Head2
import HandS.HeadEnd
import HandS.HeadHook1
import HandS.HeadHook2
import PySem.Challenge.RW_sceneflies_k60_whole_fewest_hands
set_option Elab.async false
set_option linter.all false
set_option maxRecDepth 100000
set_option maxHeartbeats 0
namespace Z
open PySem PySem.Spec PyProof.Rows L2
def top (i : Nat) : Stmt := PySem.Challenge.pw_sceneflies_k60_whole_fewest_hands.main.body.getD i (.Pass ⟨0, 0, 0, 0⟩)
abbrev s_Full__init : Stmt := inClass (top 6) 0
abbrev n_Full__init : List Str := ["self", "most"]
theorem sc_Full__init : FnScope n_Full__init ["self", "most"] (defScope s_Full__init) := ⟨rfl, rfl, rfl, by decide +kernel, rfl, by decide +kernel, by decide +kernel⟩
abbrev s_is_number : Stmt := top 12
abbrev n_is_number : List Str := ["thing", "least", "most"]
theorem sc_is_number : FnScope n_is_number ["thing", "least", "most"] (defScope s_is_number) := ⟨rfl, rfl, rfl, by decide +kernel, rfl, by decide +kernel, by decide +kernel⟩
abbrev s_need_number : Stmt := top 13
abbrev n_need_number : List Str := ["thing", "least", "most"]
theorem sc_need_number : FnScope n_need_number ["thing", "least", "most"] (defScope s_need_number) := ⟨rfl, rfl, rfl, by decide +kernel, rfl, by decide +kernel, by decide +kernel⟩
abbrev s_House__init : Stmt := inClass (top 14) 0
abbrev n_House__init : List Str := ["self", "lines", "slots", "hands"]
theorem sc_House__init : FnScope n_House__init ["self", "lines", "slots", "hands"] (defScope s_House__init) := ⟨rfl, rfl, rfl, by decide +kernel, rfl, by decide +kernel, by decide +kernel⟩
abbrev s_House__len : Stmt := inClass (top 14) 1
abbrev n_House__len : List Str := ["self"]
theorem sc_House__len : FnScope n_House__len ["self"] (defScope s_House__len) := ⟨rfl, rfl, rfl, by decide +kernel, rfl, by decide +kernel, by decide +kernel⟩
abbrev s_House__eq : Stmt := inClass (top 14) 2
abbrev n_House__eq : List Str := ["self", "other"]
theorem sc_House__eq : FnScope n_House__eq ["self", "other"] (defScope s_House__eq) := ⟨rfl, rfl, rfl, by decide +kernel, rfl, by decide +kernel, by decide +kernel⟩
abbrev s_House__str : Stmt := inClass (top 14) 3
abbrev n_House__str : List Str := ["self", "found", "piece", "line"]
theorem sc_House__str : FnScope n_House__str ["self"] (defScope s_House__str) := ⟨rfl, rfl, rfl, by decide +kernel, rfl, by decide +kernel, by decide +kernel⟩
abbrev s_House_numbers : Stmt := inClass (top 14) 4
abbrev n_House_numbers : List Str := ["self"]
theorem sc_House_numbers : FnScope n_House_numbers ["self"] (defScope s_House_numbers) := ⟨rfl, rfl, rfl, by decide +kernel, rfl, by decide +kernel, by decide +kernel⟩
abbrev s_House_pieces : Stmt := inClass (top 14) 5
abbrev n_House_pieces : List Str := ["self"]
theorem sc_House_pieces : FnScope n_House_pieces ["self"] (defScope s_House_pieces) := ⟨rfl, rfl, rfl, by decide +kernel, rfl, by decide +kernel, by decide +kernel⟩
abbrev s_House_taken_in : Stmt := inClass (top 14) 6
abbrev n_House_taken_in : List Str := ["self", "piece"]
theorem sc_House_taken_in : FnScope n_House_taken_in ["self", "piece"] (defScope s_House_taken_in) := ⟨rfl, rfl, rfl, by decide +kernel, rfl, by decide +kernel, by decide +kernel⟩
abbrev s_House_cloth : Stmt := inClass (top 14) 7
abbrev n_House_cloth : List Str := ["self", "line", "beats", "hands"]
theorem sc_House_cloth : FnScope n_House_cloth ["self", "line", "beats", "hands"] (defScope s_House_cloth) := ⟨rfl, rfl, rfl, by decide +kernel, rfl, by decide +kernel, by decide +kernel⟩
abbrev s_House_truck : Stmt := inClass (top 14) 8
abbrev n_House_truck : List Str := ["self", "beats", "hands"]
theorem sc_House_truck : FnScope n_House_truck ["self", "beats", "hands"] (defScope s_House_truck) := ⟨rfl, rfl, rfl, by decide +kernel, rfl, by decide +kernel, by decide +kernel⟩
abbrev s_House_beats_of : Stmt := inClass (top 14) 9
abbrev n_House_beats_of : List Str := ["self", "piece"]
theorem sc_House_beats_of : FnScope n_House_beats_of ["self", "piece"] (defScope s_House_beats_of) := ⟨rfl, rfl, rfl, by decide +kernel, rfl, by decide +kernel, by decide +kernel⟩
abbrev s_House_hands_of : Stmt := inClass (top 14) 10
abbrev n_House_hands_of : List Str := ["self", "piece"]
theorem sc_House_hands_of : FnScope n_House_hands_of ["self", "piece"] (defScope s_House_hands_of) := ⟨rfl, rfl, rfl, by decide +kernel, rfl, by decide +kernel, by decide +kernel⟩
abbrev s_House_may_be : Stmt := inClass (top 14) 11
abbrev n_House_may_be : List Str := ["self", "piece", "place", "own"]
theorem sc_House_may_be : FnScope n_House_may_be ["self", "piece", "place"] (defScope s_House_may_be) := ⟨rfl, rfl, rfl, by decide +kernel, rfl, by decide +kernel, by decide +kernel⟩
abbrev s_House_is_scene : Stmt := inClass (top 14) 12
abbrev n_House_is_scene : List Str := ["self", "thing", "piece", "place", "held"]
theorem sc_House_is_scene : FnScope n_House_is_scene ["self", "thing"] (defScope s_House_is_scene) := ⟨rfl, rfl, rfl, by decide +kernel, rfl, by decide +kernel, by decide +kernel⟩
abbrev s_need_scenes : Stmt := top 16
abbrev n_need_scenes : List Str := ["house", "first", "then"]
theorem sc_need_scenes : FnScope n_need_scenes ["house", "first", "then"] (defScope s_need_scenes) := ⟨rfl, rfl, rfl, by decide +kernel, rfl, by decide +kernel, by decide +kernel⟩
abbrev s_moving : Stmt := top 17
abbrev n_moving : List Str := ["first", "then", "piece", "place"]
theorem sc_moving : FnScope n_moving ["first", "then"] (defScope s_moving) := ⟨rfl, rfl, rfl, by decide +kernel, rfl, by decide +kernel, by decide +kernel⟩
abbrev s_waiting : Stmt := top 18
abbrev n_waiting : List Str := ["first", "then", "found", "piece", "other"]
theorem sc_waiting : FnScope n_waiting ["first", "then"] (defScope s_waiting) := ⟨rfl, rfl, rfl, by decide +kernel, rfl, by decide +kernel, by decide +kernel⟩
abbrev s_need_time : Stmt := top 20
abbrev n_need_time : List Str := ["thing", "most"]
theorem sc_need_time : FnScope n_need_time ["thing", "most"] (defScope s_need_time) := ⟨rfl, rfl, rfl, by decide +kernel, rfl, by decide +kernel, by decide +kernel⟩
abbrev s_hands_at : Stmt := top 21
abbrev n_hands_at : List Str := ["house", "starts", "beat", "piece"]
theorem sc_hands_at : FnScope n_hands_at ["house", "starts", "beat"] (defScope s_hands_at) := ⟨rfl, rfl, rfl, by decide +kernel, rfl, by decide +kernel, by decide +kernel⟩
abbrev s_comes_out : Stmt := top 22
abbrev n_comes_out : List Str := ["house", "awaited", "starts", "hands", "piece", "other"]
theorem sc_comes_out : FnScope n_comes_out ["house", "awaited", "starts", "hands"] (defScope s_comes_out) := ⟨rfl, rfl, rfl, by decide +kernel, rfl, by decide +kernel, by decide +kernel⟩
abbrev s_end_of : Stmt := top 24
abbrev n_end_of : List Str := ["house", "starts", "piece"]
theorem sc_end_of : FnScope n_end_of ["house", "starts"] (defScope s_end_of) := ⟨rfl, rfl, rfl, by decide +kernel, rfl, by decide +kernel, by decide +kernel⟩
abbrev s_fits : Stmt := top 25
abbrev n_fits : List Str := ["house", "starts", "piece", "start", "hands", "beat"]
theorem sc_fits : FnScope n_fits ["house", "starts", "piece", "start", "hands"] (defScope s_fits) := ⟨rfl, rfl, rfl, by decide +kernel, rfl, by decide +kernel, by decide +kernel⟩
abbrev s_put_in : Stmt := top 26
abbrev n_put_in : List Str := ["house", "awaited", "starts", "piece", "beat", "hands", "start", "other", "found"]
theorem sc_put_in : FnScope n_put_in ["house", "awaited", "starts", "piece", "beat", "hands"] (defScope s_put_in) := ⟨rfl, rfl, rfl, by decide +kernel, rfl, by decide +kernel, by decide +kernel⟩
abbrev s_Search__init : Stmt := inClass (top 27) 0
abbrev n_Search__init : List Str := ["self", "house", "awaited", "beat", "hands"]
theorem sc_Search__init : FnScope n_Search__init ["self", "house", "awaited", "beat", "hands"] (defScope s_Search__init) := ⟨rfl, rfl, rfl, by decide +kernel, rfl, by decide +kernel, by decide +kernel⟩
abbrev s_Search_go : Stmt := inClass (top 27) 1
abbrev n_Search_go : List Str := ["self", "starts", "rest", "piece", "more", "one"]
theorem sc_Search_go : FnScope n_Search_go ["self", "starts", "rest"] (defScope s_Search_go) := ⟨rfl, rfl, rfl, by decide +kernel, rfl, by decide +kernel, by decide +kernel⟩
abbrev s_earliest : Stmt := top 28
abbrev n_earliest : List Str := ["house", "first", "then", "begun", "beat", "hands", "pieces", "awaited", "starts", "piece", "rest", "search"]
theorem sc_earliest : FnScope n_earliest ["house", "first", "then", "begun", "beat", "hands"] (defScope s_earliest) := ⟨rfl, rfl, rfl, by decide +kernel, rfl, by decide +kernel, by decide +kernel⟩
abbrev s_as_plan : Stmt := top 29
abbrev n_as_plan : List Str := ["starts"]
theorem sc_as_plan : FnScope n_as_plan ["starts"] (defScope s_as_plan) := ⟨rfl, rfl, rfl, by decide +kernel, rfl, by decide +kernel, by decide +kernel⟩
abbrev s_plan : Stmt := top 30
abbrev n_plan : List Str := ["house", "first", "then", "time", "starts"]
theorem sc_plan : FnScope n_plan ["house", "first", "then", "time"] (defScope s_plan) := ⟨rfl, rfl, rfl, by decide +kernel, rfl, by decide +kernel, by decide +kernel⟩
abbrev s_fewest_hands : Stmt := top 32
abbrev n_fewest_hands : List Str := ["house", "first", "then", "time", "hands", "starts"]
theorem sc_fewest_hands : FnScope n_fewest_hands ["house", "first", "then", "time"] (defScope s_fewest_hands) := ⟨rfl, rfl, rfl, by decide +kernel, rfl, by decide +kernel, by decide +kernel⟩
abbrev s_L_cell : Stmt := top 34
abbrev n_L_cell : List Str := ["_law_script", "_law_k"]
theorem sc_L_cell : FnScope n_L_cell ["_law_script", "_law_k"] (defScope s_L_cell) := ⟨rfl, rfl, rfl, by decide +kernel, rfl, by decide +kernel, by decide +kernel⟩
abbrev s_L_drawn : Stmt := top 35
abbrev n_L_drawn : List Str := ["_law_cell_here", "_law_k", "_law_more"]
theorem sc_L_drawn : FnScope n_L_drawn ["_law_cell_here", "_law_k"] (defScope s_L_drawn) := ⟨rfl, rfl, rfl, by decide +kernel, rfl, by decide +kernel, by decide +kernel⟩
abbrev s_L_roll : Stmt := top 36
abbrev n_L_roll : List Str := ["_law_dice", "_law_many", "_law_told"]
theorem sc_L_roll : FnScope n_L_roll ["_law_dice", "_law_many"] (defScope s_L_roll) := ⟨rfl, rfl, rfl, by decide +kernel, rfl, by decide +kernel, by decide +kernel⟩
abbrev s_L_rounds : Stmt := top 37
abbrev n_L_rounds : List Str := ["_law_script", "_law_most", "_law_k"]
theorem sc_L_rounds : FnScope n_L_rounds ["_law_script", "_law_most"] (defScope s_L_rounds) := ⟨rfl, rfl, rfl, by decide +kernel, rfl, by decide +kernel, by decide +kernel⟩
abbrev s_L_table : Stmt := top 38
abbrev n_L_table : List Str := ["_law_dice", "_law_most", "_law_wide", "_law_wings", "_law_crew", "_law_pieces", "_law_trucks", "_law_turn", "_law_long", "_law_own"]
theorem sc_L_table : FnScope n_L_table ["_law_dice", "_law_most"] (defScope s_L_table) := ⟨rfl, rfl, rfl, by decide +kernel, rfl, by decide +kernel, by decide +kernel⟩
abbrev s_L_house : Stmt := top 39
abbrev n_L_house : List Str := ["_law_table_here", "_law_house_here", "_law_piece"]
theorem sc_L_house : FnScope n_L_house ["_law_table_here"] (defScope s_L_house) := ⟨rfl, rfl, rfl, by decide +kernel, rfl, by decide +kernel, by decide +kernel⟩
abbrev s_L_scene : Stmt := top 40
abbrev n_L_scene : List Str := ["_law_table_here", "_law_dice", "_law_elder", "_law_lines", "_law_slots", "_law_hands_here", "_law_found", "_law_held", "_law_piece", "_law_kind", "_law_number", "_law_free", "_law_place", "_law_own"]
theorem sc_L_scene : FnScope n_L_scene ["_law_table_here", "_law_dice", "_law_elder"] (defScope s_L_scene) := ⟨rfl, rfl, rfl, by decide +kernel, rfl, by decide +kernel, by decide +kernel⟩
abbrev s_L_turned : Stmt := top 41
abbrev n_L_turned : List Str := ["_law_table_here", "_law_dice", "_law_first", "_law_places", "_law_place", "_law_piece", "_law_by", "_law_found", "_law_at"]
theorem sc_L_turned : FnScope n_L_turned ["_law_table_here", "_law_dice", "_law_first"] (defScope s_L_turned) := ⟨rfl, rfl, rfl, by decide +kernel, rfl, by decide +kernel, by decide +kernel⟩
abbrev s_L_change : Stmt := top 42
abbrev n_L_change : List Str := ["_law_dice", "_law_most", "_law_table_here", "_law_first"]
theorem sc_L_change : FnScope n_L_change ["_law_dice", "_law_most"] (defScope s_L_change) := ⟨rfl, rfl, rfl, by decide +kernel, rfl, by decide +kernel, by decide +kernel⟩
abbrev s_L_beats : Stmt := top 43
abbrev n_L_beats : List Str := ["_law_table_here", "_law_piece"]
theorem sc_L_beats : FnScope n_L_beats ["_law_table_here", "_law_piece"] (defScope s_L_beats) := ⟨rfl, rfl, rfl, by decide +kernel, rfl, by decide +kernel, by decide +kernel⟩
abbrev s_L_hands : Stmt := top 44
abbrev n_L_hands : List Str := ["_law_table_here", "_law_piece"]
theorem sc_L_hands : FnScope n_L_hands ["_law_table_here", "_law_piece"] (defScope s_L_hands) := ⟨rfl, rfl, rfl, by decide +kernel, rfl, by decide +kernel, by decide +kernel⟩
abbrev s_L_moves : Stmt := top 45
abbrev n_L_moves : List Str := ["_law_first", "_law_then", "_law_piece"]
theorem sc_L_moves : FnScope n_L_moves ["_law_first", "_law_then"] (defScope s_L_moves) := ⟨rfl, rfl, rfl, by decide +kernel, rfl, by decide +kernel, by decide +kernel⟩
abbrev s_L_waits : Stmt := top 46
abbrev n_L_waits : List Str := ["_law_first", "_law_then", "_law_found", "_law_piece", "_law_other"]
theorem sc_L_waits : FnScope n_L_waits ["_law_first", "_law_then"] (defScope s_L_waits) := ⟨rfl, rfl, rfl, by decide +kernel, rfl, by decide +kernel, by decide +kernel⟩
abbrev s_L_is_number : Stmt := top 47
abbrev n_L_is_number : List Str := ["_law_thing", "_law_low", "_law_high"]
theorem sc_L_is_number : FnScope n_L_is_number ["_law_thing", "_law_low", "_law_high"] (defScope s_L_is_number) := ⟨rfl, rfl, rfl, by decide +kernel, rfl, by decide +kernel, by decide +kernel⟩
abbrev s_L_load : Stmt := top 48
abbrev n_L_load : List Str := ["_law_table_here", "_law_starts", "_law_beat", "_law_found", "_law_piece"]
theorem sc_L_load : FnScope n_L_load ["_law_table_here", "_law_starts", "_law_beat"] (defScope s_L_load) := ⟨rfl, rfl, rfl, by decide +kernel, rfl, by decide +kernel, by decide +kernel⟩
abbrev s_L_clean : Stmt := top 49
abbrev n_L_clean : List Str := ["_law_table_here", "_law_awaited", "_law_starts", "_law_piece", "_law_other"]
theorem sc_L_clean : FnScope n_L_clean ["_law_table_here", "_law_awaited", "_law_starts"] (defScope s_L_clean) := ⟨rfl, rfl, rfl, by decide +kernel, rfl, by decide +kernel, by decide +kernel⟩
abbrev s_L_is_plan : Stmt := top 50
abbrev n_L_is_plan : List Str := ["_law_table_here", "_law_first", "_law_then", "_law_time", "_law_thing", "_law_movers", "_law_starts", "_law_row", "_law_piece"]
theorem sc_L_is_plan : FnScope n_L_is_plan ["_law_table_here", "_law_first", "_law_then", "_law_time", "_law_thing"] (defScope s_L_is_plan) := ⟨rfl, rfl, rfl, by decide +kernel, rfl, by decide +kernel, by decide +kernel⟩
abbrev s_L_some : Stmt := top 51
abbrev n_L_some : List Str := ["_law_table_here", "_law_awaited", "_law_movers", "_law_starts", "_law_since", "_law_time", "_law_rest", "_law_piece", "_law_start", "_law_more", "_law_found"]
theorem sc_L_some : FnScope n_L_some ["_law_table_here", "_law_awaited", "_law_movers", "_law_starts", "_law_since", "_law_time"] (defScope s_L_some) := ⟨rfl, rfl, rfl, by decide +kernel, rfl, by decide +kernel, by decide +kernel⟩
abbrev s_L_is_any : Stmt := top 52
abbrev n_L_is_any : List Str := ["_law_table_here", "_law_first", "_law_then", "_law_time"]
theorem sc_L_is_any : FnScope n_L_is_any ["_law_table_here", "_law_first", "_law_then", "_law_time"] (defScope s_L_is_any) := ⟨rfl, rfl, rfl, by decide +kernel, rfl, by decide +kernel, by decide +kernel⟩
abbrev s_L_calm : Stmt := top 53
abbrev n_L_calm : List Str := ["_law_first", "_law_then", "_law_most", "_law_movers", "_law_found", "_law_piece", "_law_place", "_law_held"]
theorem sc_L_calm : FnScope n_L_calm ["_law_first", "_law_then", "_law_most"] (defScope s_L_calm) := ⟨rfl, rfl, rfl, by decide +kernel, rfl, by decide +kernel, by decide +kernel⟩
abbrev s_L_with_hands : Stmt := top 54
abbrev n_L_with_hands : List Str := ["_law_table_here", "_law_crew"]
theorem sc_L_with_hands : FnScope n_L_with_hands ["_law_table_here", "_law_crew"] (defScope s_L_with_hands) := ⟨rfl, rfl, rfl, by decide +kernel, rfl, by decide +kernel, by decide +kernel⟩
abbrev s_law : Stmt := top 55
abbrev n_law : List Str := ["_law_script", "_law_dice", "_law_table_here", "_law_house_here", "_law_first", "_law_then", "_law_time", "_law_told", "_law_crew", "_law_few", "_law_own"]
theorem sc_law : FnScope n_law ["_law_script"] (defScope s_law) := ⟨rfl, rfl, rfl, by decide +kernel, rfl, by decide +kernel, by decide +kernel⟩
end Z

namespace Z
open PySem PySem.Spec PyProof.Rows L2
def d_0 : He.DefD := ⟨("is_number", none), "is_number", "is_number", defArgs s_is_number, defBody s_is_number, defScope s_is_number, [], []⟩
def d_1 : He.DefD := ⟨("need_number", none), "need_number", "need_number", defArgs s_need_number, defBody s_need_number, defScope s_need_number, [], []⟩
def d_2 : He.DefD := ⟨("House", some "__init__"), "__init__", "House.__init__", defArgs s_House__init, defBody s_House__init, defScope s_House__init, [.int 0, .int 1], []⟩
def d_3 : He.DefD := ⟨("House", some "taken_in"), "taken_in", "House.taken_in", defArgs s_House_taken_in, defBody s_House_taken_in, defScope s_House_taken_in, [], []⟩
def d_4 : He.DefD := ⟨("House", some "cloth"), "cloth", "House.cloth", defArgs s_House_cloth, defBody s_House_cloth, defScope s_House_cloth, [.int 1, .int 1], []⟩
def d_5 : He.DefD := ⟨("House", some "truck"), "truck", "House.truck", defArgs s_House_truck, defBody s_House_truck, defScope s_House_truck, [.int 1, .int 1], []⟩
def d_6 : He.DefD := ⟨("_law_drawn", none), "_law_drawn", "_law_drawn", defArgs s_L_drawn, defBody s_L_drawn, defScope s_L_drawn, [], []⟩
def d_7 : He.DefD := ⟨("_law_roll", none), "_law_roll", "_law_roll", defArgs s_L_roll, defBody s_L_roll, defScope s_L_roll, [], []⟩
def d_8 : He.DefD := ⟨("_law_cell", none), "_law_cell", "_law_cell", defArgs s_L_cell, defBody s_L_cell, defScope s_L_cell, [], []⟩
def d_9 : He.DefD := ⟨("_law_rounds", none), "_law_rounds", "_law_rounds", defArgs s_L_rounds, defBody s_L_rounds, defScope s_L_rounds, [], []⟩
def d_10 : He.DefD := ⟨("_law_table", none), "_law_table", "_law_table", defArgs s_L_table, defBody s_L_table, defScope s_L_table, [], []⟩
def d_11 : He.DefD := ⟨("_law_house", none), "_law_house", "_law_house", defArgs s_L_house, defBody s_L_house, defScope s_L_house, [], []⟩
def d_12 : He.DefD := ⟨("House", some "may_be"), "may_be", "House.may_be", defArgs s_House_may_be, defBody s_House_may_be, defScope s_House_may_be, [], []⟩
def d_13 : He.DefD := ⟨("House", some "is_scene"), "is_scene", "House.is_scene", defArgs s_House_is_scene, defBody s_House_is_scene, defScope s_House_is_scene, [], []⟩
def d_14 : He.DefD := ⟨("_law_scene", none), "_law_scene", "_law_scene", defArgs s_L_scene, defBody s_L_scene, defScope s_L_scene, [], []⟩
def d_15 : He.DefD := ⟨("need_scenes", none), "need_scenes", "need_scenes", defArgs s_need_scenes, defBody s_need_scenes, defScope s_need_scenes, [], []⟩
def d_16 : He.DefD := ⟨("moving", none), "moving", "moving", defArgs s_moving, defBody s_moving, defScope s_moving, [], []⟩
def d_17 : He.DefD := ⟨("waiting", none), "waiting", "waiting", defArgs s_waiting, defBody s_waiting, defScope s_waiting, [], []⟩
def d_18 : He.DefD := ⟨("_law_moves", none), "_law_moves", "_law_moves", defArgs s_L_moves, defBody s_L_moves, defScope s_L_moves, [], []⟩
def d_19 : He.DefD := ⟨("_law_waits", none), "_law_waits", "_law_waits", defArgs s_L_waits, defBody s_L_waits, defScope s_L_waits, [], []⟩
def d_20 : He.DefD := ⟨("_law_turned", none), "_law_turned", "_law_turned", defArgs s_L_turned, defBody s_L_turned, defScope s_L_turned, [], []⟩
def d_21 : He.DefD := ⟨("_law_change", none), "_law_change", "_law_change", defArgs s_L_change, defBody s_L_change, defScope s_L_change, [], []⟩
def d_22 : He.DefD := ⟨("House", some "beats_of"), "beats_of", "House.beats_of", defArgs s_House_beats_of, defBody s_House_beats_of, defScope s_House_beats_of, [], []⟩
def d_23 : He.DefD := ⟨("House", some "hands_of"), "hands_of", "House.hands_of", defArgs s_House_hands_of, defBody s_House_hands_of, defScope s_House_hands_of, [], []⟩
def d_24 : He.DefD := ⟨("House", some "numbers"), "numbers", "House.numbers", defArgs s_House_numbers, defBody s_House_numbers, defScope s_House_numbers, [], []⟩
def d_25 : He.DefD := ⟨("hands_at", none), "hands_at", "hands_at", defArgs s_hands_at, defBody s_hands_at, defScope s_hands_at, [], []⟩
def d_26 : He.DefD := ⟨("comes_out", none), "comes_out", "comes_out", defArgs s_comes_out, defBody s_comes_out, defScope s_comes_out, [], []⟩
def d_27 : He.DefD := ⟨("end_of", none), "end_of", "end_of", defArgs s_end_of, defBody s_end_of, defScope s_end_of, [], []⟩
def d_28 : He.DefD := ⟨("fits", none), "fits", "fits", defArgs s_fits, defBody s_fits, defScope s_fits, [], []⟩
def d_29 : He.DefD := ⟨("put_in", none), "put_in", "put_in", defArgs s_put_in, defBody s_put_in, defScope s_put_in, [], []⟩
def d_30 : He.DefD := ⟨("Search", some "__init__"), "__init__", "Search.__init__", defArgs s_Search__init, defBody s_Search__init, defScope s_Search__init, [], []⟩
def d_31 : He.DefD := ⟨("Search", some "go"), "go", "Search.go", defArgs s_Search_go, defBody s_Search_go, defScope s_Search_go, [], []⟩
def d_32 : He.DefD := ⟨("earliest", none), "earliest", "earliest", defArgs s_earliest, defBody s_earliest, defScope s_earliest, [], []⟩
def d_33 : He.DefD := ⟨("as_plan", none), "as_plan", "as_plan", defArgs s_as_plan, defBody s_as_plan, defScope s_as_plan, [], []⟩
def d_34 : He.DefD := ⟨("need_time", none), "need_time", "need_time", defArgs s_need_time, defBody s_need_time, defScope s_need_time, [.int 60], []⟩
def d_35 : He.DefD := ⟨("plan", none), "plan", "plan", defArgs s_plan, defBody s_plan, defScope s_plan, [], []⟩
def d_36 : He.DefD := ⟨("_law_beats", none), "_law_beats", "_law_beats", defArgs s_L_beats, defBody s_L_beats, defScope s_L_beats, [], []⟩
def d_37 : He.DefD := ⟨("_law_hands", none), "_law_hands", "_law_hands", defArgs s_L_hands, defBody s_L_hands, defScope s_L_hands, [], []⟩
def d_38 : He.DefD := ⟨("_law_is_number", none), "_law_is_number", "_law_is_number", defArgs s_L_is_number, defBody s_L_is_number, defScope s_L_is_number, [], []⟩
def d_39 : He.DefD := ⟨("_law_load", none), "_law_load", "_law_load", defArgs s_L_load, defBody s_L_load, defScope s_L_load, [], []⟩
def d_40 : He.DefD := ⟨("_law_clean", none), "_law_clean", "_law_clean", defArgs s_L_clean, defBody s_L_clean, defScope s_L_clean, [], []⟩
def d_41 : He.DefD := ⟨("_law_is_plan", none), "_law_is_plan", "_law_is_plan", defArgs s_L_is_plan, defBody s_L_is_plan, defScope s_L_is_plan, [], []⟩
def d_42 : He.DefD := ⟨("_law_some", none), "_law_some", "_law_some", defArgs s_L_some, defBody s_L_some, defScope s_L_some, [], []⟩
def d_43 : He.DefD := ⟨("_law_is_any", none), "_law_is_any", "_law_is_any", defArgs s_L_is_any, defBody s_L_is_any, defScope s_L_is_any, [], []⟩
def d_44 : He.DefD := ⟨("_law_calm", none), "_law_calm", "_law_calm", defArgs s_L_calm, defBody s_L_calm, defScope s_L_calm, [], []⟩
def d_45 : He.DefD := ⟨("fewest_hands", none), "fewest_hands", "fewest_hands", defArgs s_fewest_hands, defBody s_fewest_hands, defScope s_fewest_hands, [], []⟩
def d_46 : He.DefD := ⟨("_law_with_hands", none), "_law_with_hands", "_law_with_hands", defArgs s_L_with_hands, defBody s_L_with_hands, defScope s_L_with_hands, [], []⟩
def d_47 : He.DefD := ⟨("law", none), "law", "law", defArgs s_law, defBody s_law, defScope s_law, [], []⟩
def fn : List He.DefD := [d_0, d_1, d_2, d_3, d_4, d_5, d_6, d_7, d_8, d_9, d_10, d_11, d_12, d_13, d_14, d_15, d_16, d_17, d_18, d_19, d_20, d_21, d_22, d_23, d_24, d_25, d_26, d_27, d_28, d_29, d_30, d_31, d_32, d_33, d_34, d_35, d_36, d_37, d_38, d_39, d_40, d_41, d_42, d_43, d_44, d_45, d_46, d_47]
def fa : List He.Fa := [.free "isinstance", .free "int", .free "bool", .glo "is_number", .glo "need_number", .int "MOST_HANDS" 6, .cls "House", .noat "House" "size", .noat "House" "stock", .mkr "House", .glo "House", .free "len", .int "MOST_PIECES" 8, .meth "House" "taken_in", .int "MOST_BEATS" 4, .meth "House" "cloth", .meth "House" "truck", .glo "_law_drawn", .glo "_law_roll", .glo "_law_cell", .free "min", .free "max", .free "range", .glo "_law_rounds", .glo "_law_table", .glo "_law_house", .str "UP" "up", .free "str", .meth "House" "may_be", .free "tuple", .free "all", .free "set", .free "enumerate", .meth "House" "is_scene", .free "list", .glo "_law_scene", .glo "need_scenes", .glo "moving", .glo "waiting", .glo "_law_moves", .glo "_law_waits", .free "zip", .glo "_law_turned", .glo "_law_change", .meth "House" "beats_of", .meth "House" "hands_of", .meth "House" "numbers", .free "sum", .glo "hands_at", .glo "comes_out", .glo "end_of", .glo "fits", .free "dict", .glo "put_in", .cls "Search", .noat "Search" "own", .noat "Search" "awaited", .noat "Search" "beat", .noat "Search" "hands", .noat "Search" "best", .mkr "Search", .glo "Search", .meth "Search" "go", .glo "earliest", .free "sorted", .glo "as_plan", .glo "need_time", .glo "plan", .glo "_law_beats", .glo "_law_hands", .glo "_law_is_number", .glo "_law_load", .glo "_law_clean", .glo "_law_is_plan", .glo "_law_some", .glo "_law_is_any", .glo "_law_calm", .glo "fewest_hands", .glo "_law_with_hands", .glo "law"]
abbrev R : PySem.W.OpenRow := PySem.W.OpenLaw.row PySem.Challenge.rw_sceneflies_k60_whole_fewest_hands
abbrev hk : PySem.W.Hook := He.hookD 4 fa fn
def ob (s : PySem.W.SharedT) : He.AlD := He.obsDG 4 fa fn (HandSHeadRun.getT s)
theorem ob_eq (s : PySem.W.SharedT) : ob s = hk.obs s.abs := He.obsDG_eq (HandSHeadRun.getT_eq s)
def loose0 : List PySem.Str := ["StageError", "BadNumber", "BadLine", "BadScene", "BadTime", "Full", "MOST_PIECES", "MOST_BEATS", "MOST_HANDS", "UP", "is_number", "need_number", "House", "need_scenes", "moving", "waiting", "need_time", "hands_at", "comes_out", "end_of", "fits", "put_in", "Search", "earliest", "as_plan", "plan", "fewest_hands", "_law_cell", "_law_drawn", "_law_roll"]
def loose1 : List PySem.Str := ["_law_rounds", "_law_table", "_law_house", "_law_scene", "_law_turned", "_law_change", "_law_beats", "_law_hands", "_law_moves", "_law_waits", "_law_is_number", "_law_load", "_law_clean", "_law_is_plan", "_law_some", "_law_is_any", "_law_calm", "_law_with_hands"]
def loose : List PySem.Str := loose0 ++ loose1
theorem run (w : World) : HandSHeadRun.RunEq R (PySem.W.view R.prog [55]) hk ob 6000 loose w := by
  intro os
  kernel_rfl
end Z

/-! Zb: values without the heap (Dv), their standing in a heap that only grows (Rep), mutable cells, the state's word (At), judgements EV, SV. -/
namespace Z
open PySem PySem.Spec PyProof.Rows L2

/-- what never changes any more, by value -/
inductive Dv where
  | non | bl (b : Bool) | int (i : Int) | str (s : Str)
  | tup (l : List Dv) | ptp (l : List Dv) | lst (l : List Dv) | dct (l : List (Key × Dv)) | ins (C : Addr) (l : List (Str × Dv))
/-- a value: frozen, or a cell -/
inductive Mv where
  | frz (d : Dv) | cel (a : Addr) | scr (K : PySem.W.Frag) (a : Addr) (ns : List Int)
/-- what stands in a cell -/
inductive Cell where
  | lst (l : List Mv) | tup (l : List Mv) | dct (l : List (Key × Mv)) | ins (C : Addr) (l : List (Str × Mv)) | dice
abbrev Cs := List (Addr × Cell)
abbrev Env := List (Option Mv)
def ads (cs : Cs) : List Addr := cs.map (·.1)

def Ex (H H' : Hp) : Prop := ∀ a o, H a = some o → H' a = some o
theorem Ex.refl (H : Hp) : Ex H H := fun _ _ h => h
theorem Ex.trans {H H1 H2 : Hp} (a : Ex H H1) (b : Ex H1 H2) : Ex H H2 := fun x o h => b x o (a x o h)
theorem Ex.new {H : Hp} {p : Addr} {o : HO} (h : H p = none) : Ex H (upd H p o) := fun a u e => by
  rw [upd_ne (ne_of_none e h)]
  exact e
theorem Ex.out {F H : Hp} (e : Ex F H) {p : Addr} (h : H p = none) : F p = none := by
  cases q : F p with
  | none => rfl
  | some o => rw [e p o q] at h; cases h

mutual
inductive Rep (F : Hp) : Dv → V → Prop
  | non : Rep F .non .non
  | bl (b : Bool) : Rep F (.bl b) (.bl b)
  | int (i : Int) : Rep F (.int i) (.int i)
  | str (x : Str) : Rep F (.str x) (.str x)
  | tup {a : Addr} {xs : List V} {ds : List Dv} : F a = some (.tup xs) → Reps F ds xs → Rep F (.tup ds) (.ref a)
  | ptp {a : Addr} {od : Obj} {xs : List V} {ds : List Dv} : F a = some (.frz od (.tup xs)) → od.dict = none → Reps F ds xs → Rep F (.ptp ds) (.ref a)
  | lst {a : Addr} {xs : List V} {ds : List Dv} : F a = some (.lst xs) → Reps F ds xs → Rep F (.lst ds) (.ref a)
  | dct {a : Addr} {od : Obj} {xs : List (Key × V)} {ds : List (Key × Dv)} : F a = some (.frz od (.dK xs)) → RepK F ds xs → Rep F (.dct ds) (.ref a)
  | ins {a dx C : Addr} {xs : List (Str × V)} {ds : List (Str × Dv)} : F a = some (.ins C dx xs) → RepF F ds xs → Rep F (.ins C ds) (.ref a)
inductive Reps (F : Hp) : List Dv → List V → Prop
  | nil : Reps F [] []
  | cons {d : Dv} {v : V} {ds : List Dv} {vs : List V} : Rep F d v → Reps F ds vs → Reps F (d :: ds) (v :: vs)
inductive RepK (F : Hp) : List (Key × Dv) → List (Key × V) → Prop
  | nil : RepK F [] []
  | cons {k : Key} {d : Dv} {v : V} {ds : List (Key × Dv)} {vs : List (Key × V)} : Rep F d v → RepK F ds vs → RepK F ((k, d) :: ds) ((k, v) :: vs)
inductive RepF (F : Hp) : List (Str × Dv) → List (Str × V) → Prop
  | nil : RepF F [] []
  | cons {k : Str} {d : Dv} {v : V} {ds : List (Str × Dv)} {vs : List (Str × V)} : Rep F d v → RepF F ds vs → RepF F ((k, d) :: ds) ((k, v) :: vs)
end
section
variable {F F' : Hp}
mutual
theorem Rep.mono (e : Ex F F') : ∀ {d : Dv} {v : V}, Rep F d v → Rep F' d v
  | _, _, .non => .non
  | _, _, .bl b => .bl b
  | _, _, .int b => .int b
  | _, _, .str b => .str b
  | _, _, .tup h r => .tup (e _ _ h) (Reps.mono e r)
  | _, _, .ptp h z r => .ptp (e _ _ h) z (Reps.mono e r)
  | _, _, .lst h r => .lst (e _ _ h) (Reps.mono e r)
  | _, _, .dct h r => .dct (e _ _ h) (RepK.mono e r)
  | _, _, .ins h r => .ins (e _ _ h) (RepF.mono e r)
theorem Reps.mono (e : Ex F F') : ∀ {d : List Dv} {v : List V}, Reps F d v → Reps F' d v
  | _, _, .nil => .nil
  | _, _, .cons h r => .cons (Rep.mono e h) (Reps.mono e r)
theorem RepK.mono (e : Ex F F') : ∀ {d : List (Key × Dv)} {v : List (Key × V)}, RepK F d v → RepK F' d v
  | _, _, .nil => .nil
  | _, _, .cons h r => .cons (Rep.mono e h) (RepK.mono e r)
theorem RepF.mono (e : Ex F F') : ∀ {d : List (Str × Dv)} {v : List (Str × V)}, RepF F d v → RepF F' d v
  | _, _, .nil => .nil
  | _, _, .cons h r => .cons (Rep.mono e h) (RepF.mono e r)
end
end

def RepM (F : Hp) : Mv → V → Prop
  | .frz d, v => Rep F d v
  | .cel a, v => v = .ref a
  | .scr K a ns, v => v = .ref a ∧ SqL K F a (ns.map V.int)
theorem RepM.mono {F F' : Hp} (e : Ex F F') {m : Mv} {v : V} (h : RepM F m v) : RepM F' m v := by
  cases m with
  | frz d => exact Rep.mono e h
  | cel a => exact h
  | scr K a ns =>
    refine ⟨h.1, ?_⟩
    rcases h.2 with g | g
    · rcases g with g | ⟨o, g⟩
      · exact .inl (.inl (e _ _ g))
      · exact .inl (.inr ⟨o, e _ _ g⟩)
    · exact .inr g
inductive RepMs (F : Hp) : List Mv → List V → Prop
  | nil : RepMs F [] []
  | cons {m : Mv} {v : V} {ms : List Mv} {vs : List V} : RepM F m v → RepMs F ms vs → RepMs F (m :: ms) (v :: vs)
inductive RepMK {κ : Type} (F : Hp) : List (κ × Mv) → List (κ × V) → Prop
  | nil : RepMK F [] []
  | cons {k : κ} {d : Mv} {v : V} {ds : List (κ × Mv)} {vs : List (κ × V)} : RepM F d v → RepMK F ds vs → RepMK F ((k, d) :: ds) ((k, v) :: vs)
theorem RepMs.mono {F F' : Hp} (e : Ex F F') : ∀ {ms : List Mv} {vs : List V}, RepMs F ms vs → RepMs F' ms vs
  | _, _, .nil => .nil
  | _, _, .cons h r => .cons (h.mono e) (RepMs.mono e r)
theorem RepMK.mono {κ : Type} {F F' : Hp} (e : Ex F F') : ∀ {ms : List (κ × Mv)} {vs : List (κ × V)}, RepMK F ms vs → RepMK F' ms vs
  | _, _, .nil => .nil
  | _, _, .cons h r => .cons (h.mono e) (RepMK.mono e r)

/-- what the cell's word says of the object -/
def CRep (F : Hp) : Cell → HO → Prop
  | .lst l, o => ∃ xs, o = .lst xs ∧ RepMs F l xs
  | .tup l, o => ∃ xs, o = .tup xs ∧ RepMs F l xs
  | .dct l, o => ∃ xs, o = .dK xs ∧ RepMK F l xs
  | .ins C l, o => ∃ dx xs, o = .ins C dx xs ∧ RepMK F l xs
  | .dice, o => ∃ i j, o = .lst [.int i, .int j]
theorem CRep.mono {F F' : Hp} (e : Ex F F') {c : Cell} {o : HO} (h : CRep F c o) : CRep F' c o := by
  cases c with
  | lst l => obtain ⟨xs, a, r⟩ := h; exact ⟨xs, a, r.mono e⟩
  | tup l => obtain ⟨xs, a, r⟩ := h; exact ⟨xs, a, r.mono e⟩
  | dct l => obtain ⟨xs, a, r⟩ := h; exact ⟨xs, a, r.mono e⟩
  | ins C l => obtain ⟨dx, xs, a, r⟩ := h; exact ⟨dx, xs, a, r.mono e⟩
  | dice => exact h
/-- frozen and cells stand in H -/
structure Stt (F H : Hp) (cs : Cs) : Prop where
  sub : Ex F H
  cel : ∀ p ∈ cs, ∃ o, H p.1 = some o ∧ CRep F p.2 o
  out : ∀ p ∈ cs, F p.1 = none
  nd : (ads cs).Nodup
/-- from a state to a later one: the frozen part grows by new objects and former cells, all but the cells stays -/
structure Step (F H : Hp) (cs : Cs) (F' H' : Hp) (cs' : Cs) : Prop where
  ff : Ex F F'
  keep : ∀ b o, H b = some o → b ∉ ads cs → H' b = some o
  new : ∀ b, F' b ≠ none → F b ≠ none ∨ H b = none ∨ b ∈ ads cs
  cel : ∀ b, b ∈ ads cs' → b ∈ ads cs ∨ H b = none
theorem Step.refl (F H : Hp) (cs : Cs) : Step F H cs F H cs := ⟨Ex.refl _, fun _ _ h _ => h, fun _ h => .inl h, fun _ h => .inl h⟩
theorem Step.trans {F H F1 H1 F2 H2 : Hp} {cs cs1 cs2 : Cs} (a : Step F H cs F1 H1 cs1) (b : Step F1 H1 cs1 F2 H2 cs2) : Step F H cs F2 H2 cs2 := by
  have notin : ∀ x o, H x = some o → x ∉ ads cs → x ∉ ads cs1 := fun x o h n m => by
    rcases a.cel x m with z | z
    · exact n z
    · rw [h] at z; cases z
  refine ⟨a.ff.trans b.ff, fun x o h n => b.keep x o (a.keep x o h n) (notin x o h n), fun x h => ?_, fun x h => ?_⟩
  · rcases b.new x h with z | z | z
    · exact a.new x z
    · cases q : H x with
      | none => exact .inr (.inl rfl)
      | some o =>
        by_cases m : x ∈ ads cs
        · exact .inr (.inr m)
        · rw [a.keep x o q m] at z; cases z
    · rcases a.cel x z with z | z
      · exact .inr (.inr z)
      · exact .inr (.inl z)
  · rcases b.cel x h with z | z
    · exact a.cel x z
    · cases q : H x with
      | none => exact .inr rfl
      | some o =>
        by_cases m : x ∈ ads cs
        · exact .inl m
        · rw [a.keep x o q m] at z; cases z
/-- the entry of a def: the anchor -/
structure An where
  F : Hp
  H : Hp
  cs : Cs
structure At (a : An) (F H : Hp) (cs : Cs) : Prop where
  stt : Stt F H cs
  st : Step a.F a.H a.cs F H cs
theorem At.refl {F H : Hp} {cs : Cs} (s : Stt F H cs) : At ⟨F, H, cs⟩ F H cs := ⟨s, Step.refl _ _ _⟩
theorem At.go {a : An} {F H F' H' : Hp} {cs cs' : Cs} (t : At a F H cs) (s : Step F H cs F' H' cs') (s' : Stt F' H' cs') : At a F' H' cs' := ⟨s', t.st.trans s⟩

theorem mem_ads {cs : Cs} {p : Addr × Cell} (h : p ∈ cs) : p.1 ∈ ads cs := List.mem_map.mpr ⟨p, h, rfl⟩
theorem Stt.fresh {F H : Hp} {cs : Cs} (s : Stt F H cs) {p : Addr} (h : H p = none) : p ∉ ads cs := fun m => by
  obtain ⟨q, hq, e⟩ := List.mem_map.mp m
  obtain ⟨o, ho, _⟩ := s.cel q hq
  rw [e, h] at ho; cases ho
/-- a new frozen object -/
theorem At.newF {a : An} {F H : Hp} {cs : Cs} {p : Addr} {o : HO} (t : At a F H cs) (h : H p = none) : At a (upd F p o) (upd H p o) cs := by
  have hf : F p = none := t.stt.sub.out h
  have e1 : Ex F (upd F p o) := Ex.new hf
  refine t.go ⟨e1, fun b u hb _ => by rw [upd_ne (ne_of_none hb h)]; exact hb, fun b hb => ?_, fun b hb => .inl hb⟩ ⟨fun b u hb => ?_, fun q hq => ?_, fun q hq => ?_, t.stt.nd⟩
  · by_cases z : b = p
    · subst z; exact .inr (.inl h)
    · rw [upd_ne z] at hb; exact .inl hb
  · by_cases z : b = p
    · subst z; rw [upd_same] at hb ⊢; exact hb
    · rw [upd_ne z] at hb ⊢; exact t.stt.sub b u hb
  · obtain ⟨u, hu, c⟩ := t.stt.cel q hq
    exact ⟨u, by rw [upd_ne (ne_of_none hu h)]; exact hu, c.mono e1⟩
  · have : q.1 ≠ p := fun z => t.stt.fresh h (by rw [← z]; exact mem_ads hq)
    rw [upd_ne this]; exact t.stt.out q hq
/-- a new cell -/
theorem At.newC {a : An} {F H : Hp} {cs : Cs} {p : Addr} {o : HO} {c : Cell} (t : At a F H cs) (h : H p = none) (r : CRep F c o) : At a F (upd H p o) ((p, c) :: cs) := by
  have hf : F p = none := t.stt.sub.out h
  refine t.go ⟨Ex.refl _, fun b u hb _ => by rw [upd_ne (ne_of_none hb h)]; exact hb, fun b hb => .inl hb, fun b hb => ?_⟩ ⟨fun b u hb => ?_, fun q hq => ?_, fun q hq => ?_, ?_⟩
  · rcases List.mem_cons.mp hb with z | z
    · rw [z]; exact .inr h
    · exact .inl z
  · rw [upd_ne (ne_of_none hb hf)]; exact t.stt.sub b u hb
  · rcases List.mem_cons.mp hq with z | z
    · subst z; exact ⟨o, upd_same, r⟩
    · obtain ⟨u, hu, c⟩ := t.stt.cel q z
      exact ⟨u, by rw [upd_ne (ne_of_none hu h)]; exact hu, c⟩
  · rcases List.mem_cons.mp hq with z | z
    · subst z; exact hf
    · exact t.stt.out q z
  · exact List.nodup_cons.mpr ⟨t.stt.fresh h, t.stt.nd⟩
/-- all stands, more may stand -/
theorem At.more {a : An} {F H H' : Hp} {cs : Cs} (t : At a F H cs) (e : Ex H H') : At a F H' cs :=
  t.go ⟨Ex.refl _, fun b o h _ => e b o h, fun b h => .inl h, fun b h => .inl h⟩ ⟨t.stt.sub.trans e, fun q hq => let ⟨u, hu, c⟩ := t.stt.cel q hq; ⟨u, e _ _ hu, c⟩, t.stt.out, t.stt.nd⟩

/-- the cell at p is another -/
def setC : Cs → Addr → Cell → Cs
  | [], _, _ => []
  | (q, d) :: r, p, c => if q = p then (q, c) :: r else (q, d) :: setC r p c
theorem ads_setC : ∀ (cs : Cs) (p : Addr) (c : Cell), ads (setC cs p c) = ads cs
  | [], _, _ => rfl
  | (q, d) :: r, p, c => by
    unfold setC
    split
    · rfl
    · show q :: ads (setC r p c) = q :: ads r
      rw [ads_setC r p c]
theorem mem_setC : ∀ {cs : Cs} {p : Addr} {c : Cell} {q : Addr × Cell}, (ads cs).Nodup → q ∈ setC cs p c → q = (p, c) ∨ (q.1 ≠ p ∧ q ∈ cs)
  | [], _, _, _, _, h => by cases h
  | (x, d) :: r, p, c, q, nd, h => by
    have nd' : x ∉ ads r ∧ (ads r).Nodup := List.nodup_cons.mp nd
    unfold setC at h
    split at h
    · rename_i e
      rcases List.mem_cons.mp h with z | z
      · rw [z, e]; exact .inl rfl
      · refine .inr ⟨fun w => nd'.1 (by rw [e, ← w]; exact mem_ads z), List.mem_cons_of_mem _ z⟩
    · rename_i e
      rcases List.mem_cons.mp h with z | z
      · rw [z]; exact .inr ⟨e, List.mem_cons_self⟩
      · rcases mem_setC nd'.2 z with w | w
        · exact .inl w
        · exact .inr ⟨w.1, List.mem_cons_of_mem _ w.2⟩
/-- a cell is written -/
theorem At.setC {a : An} {F H : Hp} {cs : Cs} {p : Addr} {o : HO} {c0 c : Cell} (t : At a F H cs) (hm : (p, c0) ∈ cs) (r : CRep F c o) : At a F (upd H p o) (setC cs p c) := by
  have hf : F p = none := t.stt.out _ hm
  have hp : p ∈ ads cs := mem_ads hm
  refine t.go ⟨Ex.refl _, fun b u hb n => ?_, fun b hb => .inl hb, fun b hb => .inl (by rw [ads_setC] at hb; exact hb)⟩ ⟨fun b u hb => ?_, fun q hq => ?_, fun q hq => ?_, by rw [ads_setC]; exact t.stt.nd⟩
  · have : b ≠ p := fun z => n (by rw [z]; exact hp)
    rw [upd_ne this]; exact hb
  · rw [upd_ne (ne_of_none hb hf)]; exact t.stt.sub b u hb
  · rcases mem_setC t.stt.nd hq with z | ⟨z, w⟩
    · rw [z]; exact ⟨o, upd_same, r⟩
    · obtain ⟨u, hu, k⟩ := t.stt.cel q w
      exact ⟨u, by rw [upd_ne z]; exact hu, k⟩
  · rcases mem_setC t.stt.nd hq with z | ⟨z, w⟩
    · rw [z]; exact hf
    · exact t.stt.out q w
/-- the cell at p, c0, becomes c -/
inductive PutR (p : Addr) (c0 c : Cell) : Cs → Cs → Prop
  | hit {r : Cs} : PutR p c0 c ((p, c0) :: r) ((p, c) :: r)
  | skip {x : Addr × Cell} {r r' : Cs} : PutR p c0 c r r' → PutR p c0 c (x :: r) (x :: r')
theorem PutR.mem {p : Addr} {c0 c : Cell} {cs cs' : Cs} (h : PutR p c0 c cs cs') : (p, c0) ∈ cs := by
  induction h with
  | hit => exact List.mem_cons_self
  | skip _ ih => exact List.mem_cons_of_mem _ ih
theorem PutR.new {p : Addr} {c0 c : Cell} {cs cs' : Cs} (h : PutR p c0 c cs cs') : (p, c) ∈ cs' := by
  induction h with
  | hit => exact List.mem_cons_self
  | skip _ ih => exact List.mem_cons_of_mem _ ih
theorem PutR.ads {p : Addr} {c0 c : Cell} {cs cs' : Cs} (h : PutR p c0 c cs cs') : ads cs' = ads cs := by
  induction h with
  | hit => rfl
  | @skip x r r' _ ih => show x.1 :: Z.ads r' = x.1 :: Z.ads r; rw [ih]
theorem PutR.eq {p : Addr} {c0 c : Cell} {cs cs' : Cs} (h : PutR p c0 c cs cs') (nd : (Z.ads cs).Nodup) : setC cs p c = cs' := by
  induction h with
  | hit => unfold setC; rw [if_pos rfl]
  | @skip x r r' h ih =>
    obtain ⟨q, d⟩ := x
    have nd' : q ∉ Z.ads r ∧ (Z.ads r).Nodup := List.nodup_cons.mp nd
    unfold setC
    rw [if_neg (fun e => nd'.1 (by rw [e]; exact mem_ads h.mem)), ih nd'.2]
theorem PutR.of {p : Addr} {c0 c : Cell} : ∀ {cs : Cs}, (Z.ads cs).Nodup → (p, c0) ∈ cs → PutR p c0 c cs (setC cs p c)
  | (q, d) :: r, nd, h => by
    have nd' : q ∉ Z.ads r ∧ (Z.ads r).Nodup := List.nodup_cons.mp nd
    unfold setC
    rcases List.mem_cons.mp h with z | z
    · cases z; rw [if_pos rfl]; exact .hit
    · rw [if_neg (fun e => nd'.1 (by rw [e]; exact mem_ads z))]; exact .skip (PutR.of nd'.2 z)
theorem PutR.same {p : Addr} {c : Cell} {cs cs' : Cs} (h : PutR p c c cs cs') (nd : (Z.ads cs).Nodup) : cs' = cs := by
  induction h with
  | hit => rfl
  | skip h ih => rw [ih (List.nodup_cons.mp nd).2]
theorem At.put {a : An} {F H : Hp} {cs cs' : Cs} {p : Addr} {o : HO} {c0 c : Cell} (t : At a F H cs) (h : PutR p c0 c cs cs') (r : CRep F c o) : At a F (upd H p o) cs' := by
  have z := t.setC h.mem r
  rw [h.eq t.stt.nd] at z
  exact z
/-- the cell at p is left out -/
def delC : Cs → Addr → Cs
  | [], _ => []
  | (q, d) :: r, p => if q = p then r else (q, d) :: delC r p
theorem delC_sub : ∀ (cs : Cs) (p : Addr), List.Sublist (delC cs p) cs
  | [], _ => .slnil
  | (q, d) :: r, p => by
    unfold delC
    split
    · exact List.sublist_cons_self _ _
    · exact (delC_sub r p).cons_cons _
theorem mem_delC {cs : Cs} {p : Addr} {q : Addr × Cell} (h : q ∈ delC cs p) : q ∈ cs := (delC_sub cs p).subset h
theorem delC_ne : ∀ {cs : Cs} {p : Addr} {q : Addr × Cell}, (ads cs).Nodup → q ∈ delC cs p → q.1 ≠ p
  | [], _, _, _, h => by cases h
  | (x, d) :: r, p, q, nd, h => by
    have nd' : x ∉ ads r ∧ (ads r).Nodup := List.nodup_cons.mp nd
    unfold delC at h
    split at h
    · rename_i e
      exact fun w => nd'.1 (by rw [e, ← w]; exact mem_ads h)
    · rename_i e
      rcases List.mem_cons.mp h with z | z
      · rw [z]; exact e
      · exact delC_ne nd'.2 z
/-- a cell freezes: its object is from now on frozen -/
theorem At.freeze {a : An} {F H : Hp} {cs : Cs} {p : Addr} {o : HO} {c0 : Cell} (t : At a F H cs) (hm : (p, c0) ∈ cs) (ho : H p = some o) : At a (upd F p o) H (delC cs p) ∧ Ex F (upd F p o) := by
  have hf : F p = none := t.stt.out _ hm
  have e1 : Ex F (upd F p o) := Ex.new hf
  refine ⟨t.go ⟨e1, fun b u hb _ => hb, fun b hb => ?_, fun b hb => ?_⟩ ⟨fun b u hb => ?_, fun q hq => ?_, fun q hq => ?_, ?_⟩, e1⟩
  · by_cases z : b = p
    · subst z; exact .inr (.inr (mem_ads hm))
    · rw [upd_ne z] at hb; exact .inl hb
  · obtain ⟨q, hq, e⟩ := List.mem_map.mp hb
    exact .inl (by rw [← e]; exact mem_ads (mem_delC hq))
  · by_cases z : b = p
    · subst z; rw [upd_same] at hb; rw [← hb]; exact ho
    · rw [upd_ne z] at hb; exact t.stt.sub b u hb
  · obtain ⟨u, hu, c⟩ := t.stt.cel q (mem_delC hq)
    exact ⟨u, hu, c.mono e1⟩
  · rw [upd_ne (delC_ne t.stt.nd hq)]; exact t.stt.out q (mem_delC hq)
  · exact (List.Sublist.map _ (delC_sub cs p)).nodup t.stt.nd
/-- cells are forgotten -/
theorem At.drop {a : An} {F H : Hp} {cs cs' : Cs} (t : At a F H cs) (s : List.Sublist cs' cs) : At a F H cs' :=
  t.go ⟨Ex.refl _, fun b o h _ => h, fun b h => .inl h, fun b h => .inl ((List.Sublist.map _ s).subset h)⟩ ⟨t.stt.sub, fun q hq => t.stt.cel q (s.subset hq), fun q hq => t.stt.out q (s.subset hq), (List.Sublist.map _ s).nodup t.stt.nd⟩

/-- the slots -/
def RepS (F : Hp) (ρ : Env) (σ : L2.St) : Prop := ρ.length = σ.length ∧ ∀ (i : Nat) (m : Mv), ρ[i]? = some (some m) → ∃ v, σ[i]? = some (some v) ∧ RepM F m v
theorem RepS.mono {F F' : Hp} (e : Ex F F') {ρ : Env} {σ : L2.St} (h : RepS F ρ σ) : RepS F' ρ σ := ⟨h.1, fun i m q => let ⟨v, a, r⟩ := h.2 i m q; ⟨v, a, r.mono e⟩⟩
theorem RepS.set {F : Hp} {ρ : Env} {σ : L2.St} (h : RepS F ρ σ) {i : Nat} {m : Mv} {v : V} (r : RepM F m v) : RepS F (ρ.set i (some m)) (σ.set i (some v)) := by
  refine ⟨by rw [List.length_set, List.length_set]; exact h.1, fun j n q => ?_⟩
  by_cases hj : i = j
  · subst hj
    have hl : i < ρ.length := by
      have := (List.getElem?_eq_some_iff.mp q).1
      rw [List.length_set] at this; exact this
    rw [List.getElem?_set_self hl] at q
    cases q
    exact ⟨v, by rw [List.getElem?_set_self (by rw [← h.1]; exact hl)], r⟩
  · rw [List.getElem?_set_ne hj] at q
    obtain ⟨u, a, r'⟩ := h.2 j n q
    exact ⟨u, by rw [List.getElem?_set_ne hj]; exact a, r'⟩

/-! ### the judgements -/
section
variable (X : Cx)
def WE (e : Expr) : TE := fun σ H Q => ∀ (pins : List (Addr × Obj)) (s : Shared), Inv X pins σ H s → wpAny (model X.prog X.w) X.A (eval e X.env) (EP X pins σ Q) X.xe s
def WT (e : Expr) : TT := fun σ H Q => ∀ (pins : List (Addr × Obj)) (s : Shared), Inv X pins σ H s → wpAny (model X.prog X.w) X.A (isTrue e X.env (eval e X.env)) (TP X pins σ Q) X.xe s
def WW (e : Expr) : TT := fun σ H Q => ∀ (whole : Sem Value) (pins : List (Addr × Obj)) (s : Shared), Inv X pins σ H s → wpAny (model X.prog X.w) X.A (isTrue e X.env whole) (TP X pins σ Q) X.xe s
def WA (es : List Expr) : TA := fun σ H Q => ∀ (pos : Pos) (pins : List (Addr × Obj)) (s : Shared), Inv X pins σ H s → wpAny (model X.prog X.w) X.A (spliced (backTo pos (starEach es X.env))) (AP X pins σ Q) X.xe s
def WS (st : Stmt) : TS := fun D σ H => ∀ (pins : List (Addr × Obj)) (s : Shared), Inv X pins σ H s → wpAny (model X.prog X.w) X.A (exec st X.env) (SP X pins D) X.xe s
def WSs (st : List Stmt) : TS := fun D σ H => ∀ (pins : List (Addr × Obj)) (s : Shared), Inv X pins σ H s → wpAny (model X.prog X.w) X.A (execs st X.env) (SP X pins D) X.xe s
end
section
variable {X : Cx}
theorem pe (e : Expr) : PE X e (WE X e) := ⟨fun pins s _ _ _ I h => h pins s I⟩
theorem pt (e : Expr) : PT X e (WT X e) := ⟨fun pins s _ _ _ I h => h pins s I⟩
theorem pw (e : Expr) : PW X e (WW X e) := ⟨fun wh pins s _ _ _ I h => h wh pins s I⟩
theorem pa (es : List Expr) : PA X es (WA X es) := ⟨fun pos pins s _ _ _ I h => h pos pins s I⟩
theorem ps (st : Stmt) : PS X st (WS X st) := ⟨fun pins s _ _ _ I h => h pins s I⟩
theorem pss (st : List Stmt) : PSs X st (WSs X st) := ⟨fun pins s _ _ _ I h => h pins s I⟩
theorem WE.of {e : Expr} {t : TE} (h : PE X e t) {σ : L2.St} {H : Hp} {Q : VK} (q : t σ H Q) : WE X e σ H Q := fun pins s I => h.run pins s σ H Q I q
theorem WT.of {e : Expr} {t : TT} (h : PT X e t) {σ : L2.St} {H : Hp} {Q : Bool → Hp → Prop} (q : t σ H Q) : WT X e σ H Q := fun pins s I => h.run pins s σ H Q I q
theorem WW.of {e : Expr} {t : TT} (h : PW X e t) {σ : L2.St} {H : Hp} {Q : Bool → Hp → Prop} (q : t σ H Q) : WW X e σ H Q := fun wh pins s I => h.run wh pins s σ H Q I q
theorem WA.of {e : List Expr} {t : TA} (h : PA X e t) {σ : L2.St} {H : Hp} {Q : List V → Hp → Prop} (q : t σ H Q) : WA X e σ H Q := fun pos pins s I => h.run pos pins s σ H Q I q
theorem WS.of {e : Stmt} {t : TS} (h : PS X e t) {σ : L2.St} {H : Hp} {D : Ends} (q : t D σ H) : WS X e D σ H := fun pins s I => h.run pins s σ H D I q
theorem WSs.of {e : List Stmt} {t : TS} (h : PSs X e t) {σ : L2.St} {H : Hp} {D : Ends} (q : t D σ H) : WSs X e D σ H := fun pins s I => h.run pins s σ H D I q
theorem WE.mono {e : Expr} {σ : L2.St} {H : Hp} {Q Q' : VK} (h : WE X e σ H Q) (i : ∀ v H', Q v H' → Q' v H') : WE X e σ H Q' := fun pins s I =>
  thn (h pins s I) fun _ _ ⟨v, H', I', r, q⟩ => ⟨v, H', I', r, i v H' q⟩
theorem WT.mono {e : Expr} {σ : L2.St} {H : Hp} {Q Q' : Bool → Hp → Prop} (h : WT X e σ H Q) (i : ∀ v H', Q v H' → Q' v H') : WT X e σ H Q' := fun pins s I =>
  thn (h pins s I) fun _ _ ⟨H', I', q⟩ => ⟨H', I', i _ H' q⟩
theorem WW.mono {e : Expr} {σ : L2.St} {H : Hp} {Q Q' : Bool → Hp → Prop} (h : WW X e σ H Q) (i : ∀ v H', Q v H' → Q' v H') : WW X e σ H Q' := fun wh pins s I =>
  thn (h wh pins s I) fun _ _ ⟨H', I', q⟩ => ⟨H', I', i _ H' q⟩
theorem WA.mono {e : List Expr} {σ : L2.St} {H : Hp} {Q Q' : List V → Hp → Prop} (h : WA X e σ H Q) (i : ∀ v H', Q v H' → Q' v H') : WA X e σ H Q' := fun pos pins s I =>
  thn (h pos pins s I) fun _ _ ⟨v, H', I', r, q⟩ => ⟨v, H', I', r, i v H' q⟩
/-- ends that imply others -/
structure EndsLe (D D' : Ends) : Prop where
  nx : ∀ σ H, D.nx σ H → D'.nx σ H
  rt : ∀ v H, D.rt v H → D'.rt v H
  bk : ∀ σ H, D.bk σ H → D'.bk σ H
  ct : ∀ σ H, D.ct σ H → D'.ct σ H
theorem sp_le {D D' : Ends} (l : EndsLe D D') {pins : List (Addr × Obj)} {f : Flow} {s : Shared} (h : SP X pins D f s) : SP X pins D' f s := by
  cases f with
  | next => obtain ⟨σ, H, I, q⟩ := h; exact ⟨σ, H, I, l.nx _ _ q⟩
  | brk => obtain ⟨σ, H, I, q⟩ := h; exact ⟨σ, H, I, l.bk _ _ q⟩
  | cont => obtain ⟨σ, H, I, q⟩ := h; exact ⟨σ, H, I, l.ct _ _ q⟩
  | ret v => obtain ⟨v, σ, H, I, r, q⟩ := h; exact ⟨v, σ, H, I, r, l.rt _ _ q⟩
theorem WS.mono {e : Stmt} {σ : L2.St} {H : Hp} {D D' : Ends} (h : WS X e D σ H) (l : EndsLe D D') : WS X e D' σ H := fun pins s I => thn (h pins s I) fun _ _ q => sp_le l q
theorem WSs.mono {e : List Stmt} {σ : L2.St} {H : Hp} {D D' : Ends} (h : WSs X e D σ H) (l : EndsLe D D') : WSs X e D' σ H := fun pins s I => thn (h pins s I) fun _ _ q => sp_le l q
end

/-- a value and a heap, by the word Q of values without heap -/
def Rt (a : An) (F : Hp) (Q : Mv → Cs → Prop) : VK := fun v H' => ∃ F' m cs', Ex F F' ∧ At a F' H' cs' ∧ RepM F' m v ∧ Q m cs'
def RtT (a : An) (F : Hp) (Q : Bool → Cs → Prop) : Bool → Hp → Prop := fun b H' => ∃ F' cs', Ex F F' ∧ At a F' H' cs' ∧ Q b cs'
def RtA (a : An) (F : Hp) (Q : List Mv → Cs → Prop) : List V → Hp → Prop := fun vs H' => ∃ F' ms cs', Ex F F' ∧ At a F' H' cs' ∧ RepMs F' ms vs ∧ Q ms cs'
structure Dn where
  nx : Env → Cs → Prop
  rt : Mv → Cs → Prop
  bk : Env → Cs → Prop := fun _ _ => False
  ct : Env → Cs → Prop := fun _ _ => False
def RtS (a : An) (F : Hp) (Q : Env → Cs → Prop) : L2.St → Hp → Prop := fun σ' H' => ∃ F' ρ' cs', Ex F F' ∧ At a F' H' cs' ∧ RepS F' ρ' σ' ∧ Q ρ' cs'
def En (a : An) (F : Hp) (D : Dn) : Ends := { nx := RtS a F D.nx, rt := Rt a F D.rt, bk := RtS a F D.bk, ct := RtS a F D.ct }

section
variable (a : An) (X : Cx)
structure EV (e : Expr) (ρ : Env) (cs : Cs) (Q : Mv → Cs → Prop) : Prop where
  run : ∀ σ F H, At a F H cs → RepS F ρ σ → WE X e σ H (Rt a F Q)
structure TV (e : Expr) (ρ : Env) (cs : Cs) (Q : Bool → Cs → Prop) : Prop where
  run : ∀ σ F H, At a F H cs → RepS F ρ σ → WT X e σ H (RtT a F Q)
structure WV (e : Expr) (ρ : Env) (cs : Cs) (Q : Bool → Cs → Prop) : Prop where
  run : ∀ σ F H, At a F H cs → RepS F ρ σ → WW X e σ H (RtT a F Q)
structure AV (es : List Expr) (ρ : Env) (cs : Cs) (Q : List Mv → Cs → Prop) : Prop where
  run : ∀ σ F H, At a F H cs → RepS F ρ σ → WA X es σ H (RtA a F Q)
structure SV (st : Stmt) (ρ : Env) (cs : Cs) (D : Dn) : Prop where
  run : ∀ σ F H, At a F H cs → RepS F ρ σ → WS X st (En a F D) σ H
structure SVs (st : List Stmt) (ρ : Env) (cs : Cs) (D : Dn) : Prop where
  run : ∀ σ F H, At a F H cs → RepS F ρ σ → WSs X st (En a F D) σ H
end
section
variable {a : An} {F F1 : Hp}
theorem Rt.up (e : Ex F F1) {Q Q' : Mv → Cs → Prop} (i : ∀ m cs, Q m cs → Q' m cs) {v : V} {H : Hp} (h : Rt a F1 Q v H) : Rt a F Q' v H := by
  obtain ⟨F', m, cs', e', t, r, q⟩ := h
  exact ⟨F', m, cs', e.trans e', t, r, i _ _ q⟩
theorem RtT.up (e : Ex F F1) {Q Q' : Bool → Cs → Prop} (i : ∀ m cs, Q m cs → Q' m cs) {v : Bool} {H : Hp} (h : RtT a F1 Q v H) : RtT a F Q' v H := by
  obtain ⟨F', cs', e', t, q⟩ := h
  exact ⟨F', cs', e.trans e', t, i _ _ q⟩
theorem RtA.up (e : Ex F F1) {Q Q' : List Mv → Cs → Prop} (i : ∀ m cs, Q m cs → Q' m cs) {v : List V} {H : Hp} (h : RtA a F1 Q v H) : RtA a F Q' v H := by
  obtain ⟨F', m, cs', e', t, r, q⟩ := h
  exact ⟨F', m, cs', e.trans e', t, r, i _ _ q⟩
theorem RtS.up (e : Ex F F1) {Q Q' : Env → Cs → Prop} (i : ∀ m cs, Q m cs → Q' m cs) {σ : L2.St} {H : Hp} (h : RtS a F1 Q σ H) : RtS a F Q' σ H := by
  obtain ⟨F', m, cs', e', t, r, q⟩ := h
  exact ⟨F', m, cs', e.trans e', t, r, i _ _ q⟩
structure DnLe (D D' : Dn) : Prop where
  nx : ∀ ρ cs, D.nx ρ cs → D'.nx ρ cs
  rt : ∀ m cs, D.rt m cs → D'.rt m cs
  bk : ∀ ρ cs, D.bk ρ cs → D'.bk ρ cs
  ct : ∀ ρ cs, D.ct ρ cs → D'.ct ρ cs
theorem En.le (e : Ex F F1) {D D' : Dn} (l : DnLe D D') : EndsLe (En a F1 D) (En a F D') :=
  ⟨fun _ _ h => RtS.up e l.nx h, fun _ _ h => Rt.up e l.rt h, fun _ _ h => RtS.up e l.bk h, fun _ _ h => RtS.up e l.ct h⟩
theorem DnLe.refl (D : Dn) : DnLe D D := ⟨fun _ _ h => h, fun _ _ h => h, fun _ _ h => h, fun _ _ h => h⟩
end
end Z

/-! Zr: rules of the judgements: expressions, tests, statements, calls. -/
namespace Z
open PySem PySem.Spec PyProof.Rows L2

/-! ### plain data as PyData, == -/
mutual
def Dv.py : Dv → PyData
  | .non => .none
  | .bl b => .bool b
  | .int i => .int i
  | .str x => .str x
  | .tup l => .tuple (Dv.pys l)
  | .ptp l => .tuple (Dv.pys l)
  | .lst l => .list (Dv.pys l)
  | .dct _ => .none
  | .ins _ _ => .none
def Dv.pys : List Dv → List PyData
  | [] => []
  | d :: r => Dv.py d :: Dv.pys r
end
mutual
/-- plain, at most n deep -/
def Dv.sh : Nat → Dv → Bool
  | _, .non => true
  | _, .bl _ => true
  | _, .int _ => true
  | _, .str x => PyData.strOk x
  | 0, .tup _ => false
  | 0, .ptp _ => false
  | 0, .lst _ => false
  | n + 1, .tup l => Dv.shs n l
  | n + 1, .ptp l => Dv.shs n l
  | n + 1, .lst l => Dv.shs n l
  | _, .dct _ => false
  | _, .ins _ _ => false
def Dv.shs : Nat → List Dv → Bool
  | _, [] => true
  | n, d :: r => Dv.sh n d && Dv.shs n r
end
mutual
theorem Dv.sh_can : ∀ (n : Nat) (d : Dv), Dv.sh n d = true → (Dv.py d).canLay0 = true ∧ (Dv.py d).depth ≤ n + 1
  | n, .non, _ => by simp [Dv.py, PyData.canLay0, PyData.depth]
  | n, .bl _, _ => by simp [Dv.py, PyData.canLay0, PyData.depth]
  | n, .int _, _ => by simp [Dv.py, PyData.canLay0, PyData.depth]
  | n, .str x, h => by
    have h' : PyData.strOk x = true := by simpa [Dv.sh] using h
    simp [Dv.py, PyData.canLay0, PyData.depth, h']
  | 0, .tup l, h => by simp [Dv.sh] at h
  | 0, .ptp l, h => by simp [Dv.sh] at h
  | 0, .lst l, h => by simp [Dv.sh] at h
  | n + 1, .tup l, h => by
    have h' : Dv.shs n l = true := by simpa [Dv.sh] using h
    have q := Dv.shs_can n l h'
    simp only [Dv.py, PyData.canLay0, PyData.depth]
    exact ⟨q.1, by omega⟩
  | n + 1, .ptp l, h => by
    have h' : Dv.shs n l = true := by simpa [Dv.sh] using h
    have q := Dv.shs_can n l h'
    simp only [Dv.py, PyData.canLay0, PyData.depth]
    exact ⟨q.1, by omega⟩
  | n + 1, .lst l, h => by
    have h' : Dv.shs n l = true := by simpa [Dv.sh] using h
    have q := Dv.shs_can n l h'
    simp only [Dv.py, PyData.canLay0, PyData.depth]
    exact ⟨q.1, by omega⟩
  | n, .dct _, h => by cases n <;> simp [Dv.sh] at h
  | n, .ins _ _, h => by cases n <;> simp [Dv.sh] at h
theorem Dv.shs_can : ∀ (n : Nat) (l : List Dv), Dv.shs n l = true → PyData.canLayAll0 (Dv.pys l) = true ∧ PyData.depthAll (Dv.pys l) ≤ n + 1
  | n, [], _ => by simp [Dv.pys, PyData.canLayAll0, PyData.depthAll]
  | n, d :: r, h => by
    have h' : Dv.sh n d = true ∧ Dv.shs n r = true := by simpa [Dv.shs] using h
    have q1 := Dv.sh_can n d h'.1
    have q2 := Dv.shs_can n r h'.2
    simp only [Dv.pys, PyData.canLayAll0, PyData.depthAll, Bool.and_eq_true]
    exact ⟨⟨q1.1, q2.1⟩, by omega⟩
end
theorem Dv.shaped {n : Nat} {d : Dv} (h : Dv.sh n d = true) (hn : n ≤ 63 := by decide) : SeqAt.shaped (Dv.py d) = true := by
  have q := Dv.sh_can n d h
  unfold SeqAt.shaped
  rw [q.1, Bool.true_and]
  exact decide_eq_true (by omega)
mutual
theorem Rep.dp {F H : Hp} {K : PySem.W.Frag} (e : Ex F H) : ∀ {d : Dv} {v : V}, Rep F d v → ∀ {n : Nat}, Dv.sh n d = true → Dp K H v (Dv.py d)
  | _, _, .non, _, _ => .non
  | _, _, .bl b, _, _ => .bl b
  | _, _, .int b, _, _ => .int b
  | _, _, .str b, _, _ => .str b
  | _, _, .tup h r, n, z => by
    cases n with
    | zero => simp [Dv.sh] at z
    | succ n => exact .tup (SqT.of (e _ _ h)) (Reps.dp e r (n := n) (by simpa [Dv.sh] using z))
  | _, _, .ptp h _ r, n, z => by
    cases n with
    | zero => simp [Dv.sh] at z
    | succ n => exact .tup (.inl (.inr ⟨_, e _ _ h⟩)) (Reps.dp e r (n := n) (by simpa [Dv.sh] using z))
  | _, _, .lst h r, n, z => by
    cases n with
    | zero => simp [Dv.sh] at z
    | succ n => exact .lst (SqL.of (e _ _ h)) (Reps.dp e r (n := n) (by simpa [Dv.sh] using z))
  | _, _, .dct h r, n, z => by cases n <;> simp [Dv.sh] at z
  | _, _, .ins h r, n, z => by cases n <;> simp [Dv.sh] at z
theorem Reps.dp {F H : Hp} {K : PySem.W.Frag} (e : Ex F H) : ∀ {d : List Dv} {v : List V}, Reps F d v → ∀ {n : Nat}, Dv.shs n d = true → DpAll K H v (Dv.pys d)
  | _, _, .nil, _, _ => .nil
  | d :: ds, _, .cons h r, n, z => by
    have z' : Dv.sh n d = true ∧ Dv.shs n ds = true := by simpa [Dv.shs] using z
    exact .cons (Rep.dp e h z'.1) (Reps.dp e r z'.2)
end
/-- Python's == of plain data -/
def Dv.eqv (d e : Dv) : Bool := PyData.eqv d.py e.py

/-! ### a value's word over the heap's cells -/
/-- m is plain data d, at most n deep, as the cells are -/
inductive PlM (cs : Cs) : Mv → PyData → Prop
  | frz {d : Dv} {n : Nat} (h : Dv.sh n d = true) (hn : n ≤ 60) : PlM cs (.frz d) d.py
  | lst {p : Addr} {l : List Dv} {n : Nat} (h : (p, Cell.lst (l.map Mv.frz)) ∈ cs) (hs : Dv.shs n l = true) (hn : n ≤ 60) : PlM cs (.cel p) (.list (Dv.pys l))
theorem RepMs.frz {F : Hp} : ∀ {l : List Dv} {xs : List V}, RepMs F (l.map Mv.frz) xs → Reps F l xs
  | [], _, .nil => .nil
  | _ :: _, _, .cons h r => .cons h (RepMs.frz r)
theorem RepMs.of {F : Hp} : ∀ {l : List Dv} {xs : List V}, Reps F l xs → RepMs F (l.map Mv.frz) xs
  | _, _, .nil => .nil
  | _, _, .cons h r => .cons h (RepMs.of r)
theorem Reps.length {F : Hp} : ∀ {l : List Dv} {xs : List V}, Reps F l xs → l.length = xs.length
  | _, _, .nil => rfl
  | _, _, .cons _ r => by rw [List.length_cons, List.length_cons, Reps.length r]
theorem RepMs.length {F : Hp} : ∀ {l : List Mv} {xs : List V}, RepMs F l xs → l.length = xs.length
  | _, _, .nil => rfl
  | _, _, .cons _ r => by rw [List.length_cons, List.length_cons, RepMs.length r]
theorem Reps.get {F : Hp} : ∀ {l : List Dv} {xs : List V} {i : Nat} {d : Dv}, Reps F l xs → l[i]? = some d → ∃ v, xs[i]? = some v ∧ Rep F d v
  | _, _, _, _, .nil, e => by simp at e
  | _, _, 0, _, .cons h _, e => by simp at e; subst e; exact ⟨_, rfl, h⟩
  | _, _, i + 1, _, .cons _ r, e => by simpa using Reps.get (i := i) r (by simpa using e)
theorem RepMs.get {F : Hp} : ∀ {l : List Mv} {xs : List V} {i : Nat} {d : Mv}, RepMs F l xs → l[i]? = some d → ∃ v, xs[i]? = some v ∧ RepM F d v
  | _, _, _, _, .nil, e => by simp at e
  | _, _, 0, _, .cons h _, e => by simp at e; subst e; exact ⟨_, rfl, h⟩
  | _, _, i + 1, _, .cons _ r, e => by simpa using RepMs.get (i := i) r (by simpa using e)
theorem RepMs.ix {F : Hp} : ∀ {l : List Mv} {xs : List V} {i : Nat} {v : V}, RepMs F l xs → xs[i]? = some v → ∃ m, l[i]? = some m ∧ RepM F m v
  | _, _, _, _, .nil, e => by simp at e
  | _, _, 0, _, .cons h _, e => by simp at e; subst e; exact ⟨_, rfl, h⟩
  | _, _, i + 1, _, .cons _ r, e => by simpa using RepMs.ix (i := i) r (by simpa using e)
theorem Reps.ix {F : Hp} : ∀ {l : List Dv} {xs : List V} {i : Nat} {v : V}, Reps F l xs → xs[i]? = some v → ∃ m, l[i]? = some m ∧ Rep F m v
  | _, _, _, _, .nil, e => by simp at e
  | _, _, 0, _, .cons h _, e => by simp at e; subst e; exact ⟨_, rfl, h⟩
  | _, _, i + 1, _, .cons _ r, e => by simpa using Reps.ix (i := i) r (by simpa using e)
theorem RepMs.append {F : Hp} : ∀ {l k : List Mv} {xs ys : List V}, RepMs F l xs → RepMs F k ys → RepMs F (l ++ k) (xs ++ ys)
  | _, _, _, _, .nil, s => s
  | _, _, _, _, .cons h r, s => .cons h (RepMs.append r s)
theorem Reps.append {F : Hp} : ∀ {l k : List Dv} {xs ys : List V}, Reps F l xs → Reps F k ys → Reps F (l ++ k) (xs ++ ys)
  | _, _, _, _, .nil, s => s
  | _, _, _, _, .cons h r, s => .cons h (Reps.append r s)
theorem RepMs.set {F : Hp} {m : Mv} {v : V} (h : RepM F m v) : ∀ {l : List Mv} {xs : List V} (i : Nat), RepMs F l xs → RepMs F (l.set i m) (xs.set i v)
  | _, _, _, .nil => .nil
  | _, _, 0, .cons _ r => .cons h r
  | _, _, i + 1, .cons q r => .cons q (RepMs.set h i r)
theorem Reps.drop {F : Hp} : ∀ {l : List Dv} {xs : List V} (n : Nat), Reps F l xs → Reps F (l.drop n) (xs.drop n)
  | _, _, 0, r => r
  | _, _, _ + 1, .nil => .nil
  | _, _, n + 1, .cons _ r => Reps.drop n r
theorem Reps.take {F : Hp} : ∀ {l : List Dv} {xs : List V} (n : Nat), Reps F l xs → Reps F (l.take n) (xs.take n)
  | _, _, 0, _ => .nil
  | _, _, _ + 1, .nil => .nil
  | _, _, n + 1, .cons h r => .cons h (Reps.take n r)
theorem RepMs.drop {F : Hp} : ∀ {l : List Mv} {xs : List V} (n : Nat), RepMs F l xs → RepMs F (l.drop n) (xs.drop n)
  | _, _, 0, r => r
  | _, _, _ + 1, .nil => .nil
  | _, _, n + 1, .cons _ r => RepMs.drop n r
theorem RepMs.take {F : Hp} : ∀ {l : List Mv} {xs : List V} (n : Nat), RepMs F l xs → RepMs F (l.take n) (xs.take n)
  | _, _, 0, _ => .nil
  | _, _, _ + 1, .nil => .nil
  | _, _, n + 1, .cons h r => .cons h (RepMs.take n r)
theorem RepM.int {F : Hp} {i : Int} {v : V} (h : RepM F (.frz (.int i)) v) : v = .int i := by cases h; rfl
theorem RepM.bl {F : Hp} {i : Bool} {v : V} (h : RepM F (.frz (.bl i)) v) : v = .bl i := by cases h; rfl
theorem RepM.str {F : Hp} {i : Str} {v : V} (h : RepM F (.frz (.str i)) v) : v = .str i := by cases h; rfl
theorem RepM.non {F : Hp} {v : V} (h : RepM F (.frz .non) v) : v = .non := by cases h; rfl
theorem PlM.dp {a : An} {F H : Hp} {cs : Cs} {K : PySem.W.Frag} (t : At a F H cs) {m : Mv} {d : PyData} {v : V} (h : PlM cs m d) (r : RepM F m v) : Dp K H v d ∧ SeqAt.shaped d = true := by
  cases h with
  | frz h hn => exact ⟨Rep.dp t.stt.sub r h, Dv.shaped h (by omega)⟩
  | lst h hs hn =>
    rename_i p l n
    obtain ⟨o, ho, xs, e, r'⟩ := t.stt.cel _ h
    have e' : v = .ref p := r
    subst e'
    rw [e] at ho
    refine ⟨.lst (SqL.of ho) (Reps.dp t.stt.sub r'.frz hs), ?_⟩
    exact Dv.shaped (n := n + 1) (d := .lst l) (by simpa [Dv.sh] using hs) (by omega)

/-! ### operations on values -/
/-- the reading r at x, y gives Q -/
def RV (a : An) (r : R2) (x y : Mv) (cs : Cs) (Q : Mv → Cs → Prop) : Prop := ∀ F0 F H vx vy, Ex F0 F → At a F H cs → RepM F x vx → RepM F y vy → r vx vy H (Rt a F0 Q)
def UV (a : An) (r : V → Hp → VK → Prop) (x : Mv) (cs : Cs) (Q : Mv → Cs → Prop) : Prop := ∀ F0 F H vx, Ex F0 F → At a F H cs → RepM F x vx → r vx H (Rt a F0 Q)
def CV (a : An) (r : List V → Hp → VK → Prop) (xs : List Mv) (cs : Cs) (Q : Mv → Cs → Prop) : Prop := ∀ F0 F H vs, Ex F0 F → At a F H cs → RepMs F xs vs → r vs H (Rt a F0 Q)
section
variable {a : An} {F0 F H : Hp} {cs : Cs} {Q : Mv → Cs → Prop}
/-- an end: the value stands -/
theorem rt_at (e : Ex F0 F) (t : At a F H cs) {m : Mv} {v : V} (r : RepM F m v) (q : Q m cs) : Rt a F0 Q v H := ⟨F, m, cs, e, t, r, q⟩
theorem rt_int (e : Ex F0 F) (t : At a F H cs) {i : Int} (q : Q (.frz (.int i)) cs) : Rt a F0 Q (.int i) H := rt_at (m := .frz (.int i)) e t (Rep.int i) q
theorem rt_bl (e : Ex F0 F) (t : At a F H cs) {i : Bool} (q : Q (.frz (.bl i)) cs) : Rt a F0 Q (.bl i) H := rt_at (m := .frz (.bl i)) e t (Rep.bl i) q
theorem rt_str (e : Ex F0 F) (t : At a F H cs) {i : Str} (q : Q (.frz (.str i)) cs) : Rt a F0 Q (.str i) H := rt_at (m := .frz (.str i)) e t (Rep.str i) q
theorem rt_non (e : Ex F0 F) (t : At a F H cs) (q : Q (.frz .non) cs) : Rt a F0 Q .non H := rt_at (m := .frz .non) e t Rep.non q
/-- a new frozen object -/
theorem rt_newF (e : Ex F0 F) (t : At a F H cs) {p : Addr} {o : HO} {d : Dv} (h : H p = none) (r : ∀ F', F' p = some o → Ex F F' → Rep F' d (.ref p)) (q : Q (.frz d) cs) : Rt a F0 Q (.ref p) (upd H p o) := by
  have e1 : Ex F (upd F p o) := Ex.new (t.stt.sub.out h)
  exact ⟨_, .frz d, cs, e.trans e1, t.newF h, r _ upd_same e1, q⟩
theorem rt_newC (e : Ex F0 F) (t : At a F H cs) {p : Addr} {o : HO} {c : Cell} (h : H p = none) (r : CRep F c o) (q : ∀ p, p ∉ ads cs → Q (.cel p) ((p, c) :: cs)) : Rt a F0 Q (.ref p) (upd H p o) :=
  ⟨F, .cel p, _, e, t.newC h r, rfl, q p (t.stt.fresh h)⟩
end
section
variable {a : An} {cs : Cs} {Q : Mv → Cs → Prop} {i j : Int}
theorem rv_I0 {g : Int → Int → V} {d : Dv} (hg : ∀ F, Rep F d (g i j)) (q : Q (.frz d) cs) : RV a (rI0 g) (.frz (.int i)) (.frz (.int j)) cs Q := fun F0 F H vx vy e t r1 r2 => by
  cases r1.int; cases r2.int
  exact ⟨i, j, rfl, rfl, rt_at (m := .frz d) e t (hg F) q⟩
theorem rv_I {C : Int → Int → Prop} {g : Int → Int → V} {d : Dv} (hc : C i j) (hg : ∀ F, Rep F d (g i j)) (q : Q (.frz d) cs) : RV a (rI C g) (.frz (.int i)) (.frz (.int j)) cs Q := fun F0 F H vx vy e t r1 r2 => by
  cases r1.int; cases r2.int
  exact ⟨i, j, rfl, rfl, hc, rt_at (m := .frz d) e t (hg F) q⟩
theorem rv_add (q : Q (.frz (.int (i + j))) cs) : RV a (rI0 fun i j => .int (i + j)) (.frz (.int i)) (.frz (.int j)) cs Q := rv_I0 (d := .int (i + j)) (fun _ => .int _) q
theorem rv_sub (q : Q (.frz (.int (i - j))) cs) : RV a (rI0 fun i j => .int (i - j)) (.frz (.int i)) (.frz (.int j)) cs Q := rv_I0 (d := .int (i - j)) (fun _ => .int _) q
theorem rv_mul (h : CMul i j) (q : Q (.frz (.int (i * j))) cs) : RV a (rI CMul fun i j => .int (i * j)) (.frz (.int i)) (.frz (.int j)) cs Q := rv_I (d := .int (i * j)) h (fun _ => .int _) q
theorem rv_fdiv (h : CDiv i j) (q : Q (.frz (.int (i / j))) cs) : RV a (rI CDiv fun i j => .int (i / j)) (.frz (.int i)) (.frz (.int j)) cs Q := rv_I (d := .int (i / j)) h (fun _ => .int _) q
theorem rv_mod (h : 0 < j) (q : Q (.frz (.int (i % j))) cs) : RV a (rI (fun _ j => 0 < j) fun i j => .int (i % j)) (.frz (.int i)) (.frz (.int j)) cs Q := rv_I (d := .int (i % j)) h (fun _ => .int _) q
theorem rv_lt (q : Q (.frz (.bl (decide (i < j)))) cs) : RV a (rI0 fun i j => .bl (decide (i < j))) (.frz (.int i)) (.frz (.int j)) cs Q := rv_I0 (d := .bl (decide (i < j))) (fun _ => .bl _) q
theorem rv_le (q : Q (.frz (.bl (decide (i ≤ j)))) cs) : RV a (rI0 fun i j => .bl (decide (i ≤ j))) (.frz (.int i)) (.frz (.int j)) cs Q := rv_I0 (d := .bl (decide (i ≤ j))) (fun _ => .bl _) q
theorem rv_gt (q : Q (.frz (.bl (decide (j < i)))) cs) : RV a (rI0 fun i j => .bl (decide (j < i))) (.frz (.int i)) (.frz (.int j)) cs Q := rv_I0 (d := .bl (decide (j < i))) (fun _ => .bl _) q
theorem rv_ge (q : Q (.frz (.bl (decide (j ≤ i)))) cs) : RV a (rI0 fun i j => .bl (decide (j ≤ i))) (.frz (.int i)) (.frz (.int j)) cs Q := rv_I0 (d := .bl (decide (j ≤ i))) (fun _ => .bl _) q
theorem rv_eq {K : PySem.W.Frag} {x y : Mv} {d e : PyData} (hx : PlM cs x d) (hy : PlM cs y e) (q : Q (.frz (.bl (PyData.eqv d e))) cs) : RV a (rEqD K) x y cs Q := fun F0 F H vx vy e0 t r1 r2 => by
  have h1 := hx.dp (K := K) t r1
  have h2 := hy.dp (K := K) t r2
  exact ⟨d, e, h1.1, h2.1, h1.2, h2.2, rt_bl e0 t q⟩
theorem rv_ne {K : PySem.W.Frag} {x y : Mv} {d e : PyData} (hx : PlM cs x d) (hy : PlM cs y e) (q : Q (.frz (.bl (!PyData.eqv d e))) cs) : RV a (rNeD K) x y cs Q := fun F0 F H vx vy e0 t r1 r2 => by
  have h1 := hx.dp (K := K) t r1
  have h2 := hy.dp (K := K) t r2
  exact ⟨d, e, h1.1, h2.1, h1.2, h2.2, rt_bl e0 t q⟩
end

/-! ### expressions -/
section
variable {a : An} {X : Cx} {ρ : Env} {cs : Cs} {Q : Mv → Cs → Prop} {QT : Bool → Cs → Prop} {QA : List Mv → Cs → Prop} {pos : Pos} {e l r b : Expr} {es : List Expr}
theorem EV.mono (h : EV a X e ρ cs Q) {Q' : Mv → Cs → Prop} (i : ∀ m cs', Q m cs' → Q' m cs') : EV a X e ρ cs Q' := .mk fun σ F H t q => (h.run σ F H t q).mono fun _ _ z => Rt.up (Ex.refl _) i z
theorem ev_var (i : Nat) {x : Str} {m : Mv} (hN : X.N[i]? = some x) (hv : Vis X.env.scope x) (hm : ρ[i]? = some (some m)) (q : Q m cs) (hd : (x == ("__debug__" : Str)) = false := by decide) (hcd : (x == ("__classdict__" : Str)) = false := by decide) :
    EV a X (.Name x pos) ρ cs Q := .mk fun σ F H t r => by
  obtain ⟨v, hs, rm⟩ := r.2 i m hm
  exact WE.of (pe_var hN hv hd hcd) ⟨v, hs, rt_at (Ex.refl _) t rm q⟩
theorem ev_int {i : Int} {j} (q : Q (.frz (.int i)) cs) : EV a X (.Constant (.int i) j pos) ρ cs Q := .mk fun σ F H t r => WE.of pe_int (rt_int (Ex.refl _) t q)
theorem ev_bl {i : Bool} {j} (q : Q (.frz (.bl i)) cs) : EV a X (.Constant (.bool i) j pos) ρ cs Q := .mk fun σ F H t r => WE.of pe_bl (rt_bl (Ex.refl _) t q)
theorem ev_non {j} (q : Q (.frz .non) cs) : EV a X (.Constant .none j pos) ρ cs Q := .mk fun σ F H t r => WE.of pe_non (rt_non (Ex.refl _) t q)
theorem ev_str {x : Str} {j} (q : Q (.frz (.str x)) cs) : EV a X (.Constant (.str x) j pos) ρ cs Q := .mk fun σ F H t r => WE.of pe_str (rt_str (Ex.refl _) t q)
/-- a module's constant int or text -/
theorem ev_globI {x : Str} {i : Int} {tk : Tok} (hg : Gl X x) (hm : X.mg x = some (.int i tk)) (q : Q (.frz (.int i)) cs) (hd : (x == ("__debug__" : Str)) = false := by decide) : EV a X (.Name x pos) ρ cs Q :=
  .mk fun σ F H t r => WE.of (pe_glob (v := .int i) hg hm ⟨_, rfl⟩ hd) (rt_int (Ex.refl _) t q)
theorem ev_globS {x : Str} {i : Str} {tk : Tok} (hg : Gl X x) (hm : X.mg x = some (.str i tk)) (q : Q (.frz (.str i)) cs) (hd : (x == ("__debug__" : Str)) = false := by decide) : EV a X (.Name x pos) ρ cs Q :=
  .mk fun σ F H t r => WE.of (pe_glob (v := .str i) hg hm ⟨_, rfl⟩ hd) (rt_str (Ex.refl _) t q)
theorem bin_any {rr : R2} {G : Expr} (h : EV a X l ρ cs fun x c1 => EV a X r ρ c1 fun y c2 => RV a rr x y c2 Q) (hp : PE X G (tOp rr (WE X l) (WE X r))) : EV a X G ρ cs Q := .mk fun σ F H t s => by
  refine WE.of hp ((h.run σ F H t s).mono fun v H1 z => ?_)
  obtain ⟨F1, m, c1, e1, t1, r1, q1⟩ := z
  refine (q1.run σ F1 H1 t1 (s.mono e1)).mono fun u H2 z => ?_
  obtain ⟨F2, n, c2, e2, t2, r2, q2⟩ := z
  exact q2 F F2 H2 v u (e1.trans e2) t2 (r1.mono e2) r2
theorem ev_bin {op : Operator} {rr : R2} (ho : OpR X (binaryOp op) rr) (h : EV a X l ρ cs fun x c1 => EV a X r ρ c1 fun y c2 => RV a rr x y c2 Q) : EV a X (.BinOp l op r pos) ρ cs Q := bin_any h (pe_op ho (pe l) (pe r))
theorem ev_cmp {op : CmpOp} {rr : R2} (ho : OpR X (compareOp op) rr) (hm : behindInMarks op r = false) (h : EV a X l ρ cs fun x c1 => EV a X r ρ c1 fun y c2 => RV a rr x y c2 Q) : EV a X (.Compare l [op] [r] pos) ρ cs Q := bin_any h (pe_cmpR ho (pe l) (pe r) hm)
/-- a value that is a truth, for a test -/
abbrev Tr (Q : Bool → Cs → Prop) : Mv → Cs → Prop := fun m cs => ∃ k, m = .frz (.bl k) ∧ Q k cs
theorem rt_tr {F : Hp} {v : V} {H : Hp} (h : Rt a F (Tr QT) v H) : ∃ k, v = .bl k ∧ RtT a F QT k H := by
  obtain ⟨F', m, cs', e, t, r, k, rfl, q⟩ := h
  cases r.bl
  exact ⟨k, rfl, F', cs', e, t, q⟩
def TRv (t : TE) : Prop := ∀ σ H Q Q', (∀ v H', Q v H' → Q' v H') → t σ H Q → t σ H Q'
theorem tv_cmp {op : CmpOp} {rr : R2} (ho : OpR X (compareOp op) rr) (hm : behindInMarks op r = false) (mo : ∀ x y H Q Q', (∀ v H', Q v H' → Q' v H') → rr x y H Q → rr x y H Q') (h : EV a X l ρ cs fun x c1 => EV a X r ρ c1 fun y c2 => RV a rr x y c2 (Tr QT)) :
    TV a X (.Compare l [op] [r] pos) ρ cs QT := .mk fun σ F H t s => by
  refine WT.of (pt_cmpR ho (pe l) (pe r) hm) ?_
  refine (h.run σ F H t s).mono fun v H1 z => ?_
  obtain ⟨F1, m, c1, e1, t1, r1, q1⟩ := z
  refine (q1.run σ F1 H1 t1 (s.mono e1)).mono fun u H2 z => ?_
  obtain ⟨F2, n, c2, e2, t2, r2, q2⟩ := z
  exact mo _ _ _ _ _ (fun v H' => rt_tr) (q2 F F2 H2 v u (e1.trans e2) t2 (r1.mono e2) r2)
theorem ev_un {op : UnaryOp} {rr : V → Hp → VK → Prop} (ho : UnR X (unaryOp op) rr) (h : EV a X l ρ cs fun x c1 => UV a rr x c1 Q) : EV a X (.UnaryOp op l pos) ρ cs Q := .mk fun σ F H t s => by
  refine WE.of (pe_un ho (pe l)) ((h.run σ F H t s).mono fun v H1 z => ?_)
  obtain ⟨F1, m, c1, e1, t1, r1, q1⟩ := z
  exact q1 F F1 H1 v e1 t1 r1
theorem uv_neg {i : Int} (q : Q (.frz (.int (-i))) cs) : UV a (rU fun i => .int (-i)) (.frz (.int i)) cs Q := fun F0 F H vx e t r1 => by
  cases r1.int
  exact ⟨i, rfl, rt_int e t q⟩
/-- x op y op' z, of ints -/
theorem ev_chain {op op' : CmpOp} {g g' : Int → Int → Bool} (ho : OpR X (compareOp op) (rI0 fun i j => .bl (g i j))) (ho' : OpR X (compareOp op') (rI0 fun i j => .bl (g' i j))) (hm : lastMarks [op, op'] [r, b] = false := by with_unfolding_all rfl)
    (h : EV a X l ρ cs fun x c1 => EV a X r ρ c1 fun y c2 => ∃ i j, x = .frz (.int i) ∧ y = .frz (.int j) ∧ (g i j = true → EV a X b ρ c2 fun z c3 => ∃ k, z = .frz (.int k) ∧ Q (.frz (.bl (g' j k))) c3) ∧ (g i j = false → Q (.frz (.bl false)) c2)) :
    EV a X (.Compare l [op, op'] [r, b] pos) ρ cs Q := .mk fun σ F H t s => by
  refine WE.of (pe_chain ho ho' (pe l) (pe r) (pe b) hm) ((h.run σ F H t s).mono fun v H1 z => ?_)
  obtain ⟨F1, m, c1, e1, t1, r1, q1⟩ := z
  refine (q1.run σ F1 H1 t1 (s.mono e1)).mono fun u H2 z => ?_
  obtain ⟨F2, n, c2, e2, t2, r2, i, j, rfl, rfl, k1, k2⟩ := z
  cases r1.int; cases r2.int
  refine ⟨i, j, rfl, rfl, g i j, rfl, ?_⟩
  cases hb : g i j with
  | true =>
    rw [if_pos rfl]
    refine ((k1 hb).run σ F2 H2 t2 (s.mono (e1.trans e2))).mono fun w H3 z => ?_
    obtain ⟨F3, n, c3, e3, t3, r3, k, rfl, q⟩ := z
    cases r3.int
    exact ⟨j, k, rfl, rfl, rt_bl ((e1.trans e2).trans e3) t3 q⟩
  | false =>
    rw [if_neg Bool.false_ne_true]
    exact rt_bl (e1.trans e2) t2 (k2 hb)
theorem tv_chain {op op' : CmpOp} {g g' : Int → Int → Bool} (ho : OpR X (compareOp op) (rI0 fun i j => .bl (g i j))) (ho' : OpR X (compareOp op') (rI0 fun i j => .bl (g' i j))) (hm : lastMarks [op, op'] [r, b] = false := by with_unfolding_all rfl)
    (h : EV a X l ρ cs fun x c1 => EV a X r ρ c1 fun y c2 => ∃ i j, x = .frz (.int i) ∧ y = .frz (.int j) ∧ (g i j = true → EV a X b ρ c2 fun z c3 => ∃ k, z = .frz (.int k) ∧ QT (g' j k) c3) ∧ (g i j = false → QT false c2)) :
    TV a X (.Compare l [op, op'] [r, b] pos) ρ cs QT := .mk fun σ F H t s => by
  refine WT.of (pt_chain ho ho' (pe l) (pe r) (pe b) hm) ?_
  refine (h.run σ F H t s).mono fun v H1 z => ?_
  obtain ⟨F1, m, c1, e1, t1, r1, q1⟩ := z
  refine (q1.run σ F1 H1 t1 (s.mono e1)).mono fun u H2 z => ?_
  obtain ⟨F2, n, c2, e2, t2, r2, i, j, rfl, rfl, k1, k2⟩ := z
  cases r1.int; cases r2.int
  refine ⟨i, j, rfl, rfl, g i j, rfl, ?_⟩
  cases hb : g i j with
  | true =>
    rw [if_pos rfl]
    refine ((k1 hb).run σ F2 H2 t2 (s.mono (e1.trans e2))).mono fun w H3 z => ?_
    obtain ⟨F3, n, c3, e3, t3, r3, k, rfl, q⟩ := z
    cases r3.int
    exact ⟨j, k, rfl, rfl, g' j k, rfl, F3, c3, (e1.trans e2).trans e3, t3, q⟩
  | false =>
    rw [if_neg Bool.false_ne_true]
    exact ⟨false, rfl, F2, c2, e1.trans e2, t2, k2 hb⟩
theorem ev_one {op} (h : EV a X e ρ cs Q) : EV a X (.BoolOp op [e] pos) ρ cs Q := .mk fun σ F H t s => WE.of (pe_one (pe e)) (h.run σ F H t s)
theorem ev_and (h : EV a X l ρ cs fun x c1 => ∃ k, x = .frz (.bl k) ∧ (k = true → EV a X (.BoolOp .And (r :: es) pos) ρ c1 Q) ∧ (k = false → Q (.frz (.bl false)) c1)) : EV a X (.BoolOp .And (l :: r :: es) pos) ρ cs Q := .mk fun σ F H t s => by
  refine WE.of (pe_and (pe l) (pe _)) ((h.run σ F H t s).mono fun v H1 z => ?_)
  obtain ⟨F1, m, c1, e1, t1, r1, k, rfl, k1, k2⟩ := z
  cases r1.bl
  refine ⟨k, rfl, ?_⟩
  cases k with
  | true => rw [if_pos rfl]; exact ((k1 rfl).run σ F1 H1 t1 (s.mono e1)).mono fun _ _ z => Rt.up e1 (fun _ _ q => q) z
  | false => rw [if_neg Bool.false_ne_true]; exact rt_bl e1 t1 (k2 rfl)
theorem ev_or (h : EV a X l ρ cs fun x c1 => ∃ k, x = .frz (.bl k) ∧ (k = false → EV a X (.BoolOp .Or (r :: es) pos) ρ c1 Q) ∧ (k = true → Q (.frz (.bl true)) c1)) : EV a X (.BoolOp .Or (l :: r :: es) pos) ρ cs Q := .mk fun σ F H t s => by
  refine WE.of (pe_or (pe l) (pe _)) ((h.run σ F H t s).mono fun v H1 z => ?_)
  obtain ⟨F1, m, c1, e1, t1, r1, k, rfl, k1, k2⟩ := z
  cases r1.bl
  refine ⟨k, rfl, ?_⟩
  cases k with
  | false => rw [if_neg Bool.false_ne_true]; exact ((k1 rfl).run σ F1 H1 t1 (s.mono e1)).mono fun _ _ z => Rt.up e1 (fun _ _ q => q) z
  | true => rw [if_pos rfl]; exact rt_bl e1 t1 (k2 rfl)
theorem ev_not (h : EV a X l ρ cs fun x c1 => ∃ k, x = .frz (.bl k) ∧ Q (.frz (.bl (!k))) c1) : EV a X (.UnaryOp .Not l pos) ρ cs Q := .mk fun σ F H t s => by
  refine WE.of (pe_not (pe l)) ((h.run σ F H t s).mono fun v H1 z => ?_)
  obtain ⟨F1, m, c1, e1, t1, r1, k, rfl, q⟩ := z
  cases r1.bl
  exact ⟨k, rfl, rt_bl e1 t1 q⟩
/-! tests -/
theorem TV.mono (h : TV a X e ρ cs QT) {Q' : Bool → Cs → Prop} (i : ∀ m cs', QT m cs' → Q' m cs') : TV a X e ρ cs Q' := .mk fun σ F H t q => (h.run σ F H t q).mono fun _ _ z => RtT.up (Ex.refl _) i z
theorem wv_and1 (h : TV a X e ρ cs QT) : WV a X (.BoolOp .And [e] pos) ρ cs QT := .mk fun σ F H t s => WW.of (pw_and1 (pt e)) (h.run σ F H t s)
theorem wv_or1 (h : TV a X e ρ cs QT) : WV a X (.BoolOp .Or [e] pos) ρ cs QT := .mk fun σ F H t s => WW.of (pw_or1 (pt e)) (h.run σ F H t s)
theorem wv_and (h : TV a X l ρ cs fun k c1 => (k = true → WV a X (.BoolOp .And (r :: es) pos) ρ c1 QT) ∧ (k = false → QT false c1)) : WV a X (.BoolOp .And (l :: r :: es) pos) ρ cs QT := .mk fun σ F H t s => by
  refine WW.of (pw_and (pt l) (pw _)) ((h.run σ F H t s).mono fun k H1 z => ?_)
  obtain ⟨F1, c1, e1, t1, k1, k2⟩ := z
  cases k with
  | true => rw [if_pos rfl]; exact ((k1 rfl).run σ F1 H1 t1 (s.mono e1)).mono fun _ _ z => RtT.up e1 (fun _ _ q => q) z
  | false => rw [if_neg Bool.false_ne_true]; exact ⟨F1, c1, e1, t1, k2 rfl⟩
theorem wv_or (h : TV a X l ρ cs fun k c1 => (k = false → WV a X (.BoolOp .Or (r :: es) pos) ρ c1 QT) ∧ (k = true → QT true c1)) : WV a X (.BoolOp .Or (l :: r :: es) pos) ρ cs QT := .mk fun σ F H t s => by
  refine WW.of (pw_or (pt l) (pw _)) ((h.run σ F H t s).mono fun k H1 z => ?_)
  obtain ⟨F1, c1, e1, t1, k1, k2⟩ := z
  cases k with
  | false => rw [if_neg Bool.false_ne_true]; exact ((k1 rfl).run σ F1 H1 t1 (s.mono e1)).mono fun _ _ z => RtT.up e1 (fun _ _ q => q) z
  | true => rw [if_pos rfl]; exact ⟨F1, c1, e1, t1, k2 rfl⟩
theorem tv_w (h : WV a X e ρ cs QT) : TV a X e ρ cs QT := .mk fun σ F H t s => WT.of (pw e).pt (h.run σ F H t s)
theorem tv_not (h : TV a X e ρ cs fun k c1 => QT (!k) c1) : TV a X (.UnaryOp .Not e pos) ρ cs QT := .mk fun σ F H t s => WT.of (pt_not (pt e)) (h.run σ F H t s)
/-- a value that is a truth, as a test -/
theorem tv_val (h : EV a X e ρ cs (Tr QT)) (he : ∀ whole, isTrue e X.env whole = (do let v ← whole; standAt e.pos; holding [v] (truthy v)) := by intro _; rfl) : TV a X e ρ cs QT := .mk fun σ F H t s =>
  WT.of (pt_val (pe e) he) ((h.run σ F H t s).mono fun v H1 z => rt_tr z)
theorem ev_if (h : TV a X b ρ cs fun k c1 => (k = true → EV a X l ρ c1 Q) ∧ (k = false → EV a X r ρ c1 Q)) : EV a X (.IfExp b l r pos) ρ cs Q := .mk fun σ F H t s => by
  refine WE.of (pe_ifExp (pt b) (pe l) (pe r)) ((h.run σ F H t s).mono fun k H1 z => ?_)
  obtain ⟨F1, c1, e1, t1, k1, k2⟩ := z
  cases k with
  | true => rw [if_pos rfl]; exact ((k1 rfl).run σ F1 H1 t1 (s.mono e1)).mono fun _ _ z => Rt.up e1 (fun _ _ q => q) z
  | false => rw [if_neg Bool.false_ne_true]; exact ((k2 rfl).run σ F1 H1 t1 (s.mono e1)).mono fun _ _ z => Rt.up e1 (fun _ _ q => q) z
/-! arguments, displays -/
theorem av_nil (q : QA [] cs) : AV a X [] ρ cs QA := .mk fun σ F H t s => WA.of pa_nil ⟨F, [], cs, Ex.refl _, t, .nil, q⟩
theorem av_cons (h : EV a X e ρ cs fun m c1 => AV a X es ρ c1 fun ms c2 => QA (m :: ms) c2) (hs : starEach (e :: es) X.env = (false, eval e X.env) :: starEach es X.env := by rfl) : AV a X (e :: es) ρ cs QA := .mk fun σ F H t s => by
  refine WA.of (pa_cons (pe e) (pa es) hs) ((h.run σ F H t s).mono fun v H1 z => ?_)
  obtain ⟨F1, m, c1, e1, t1, r1, q1⟩ := z
  refine (q1.run σ F1 H1 t1 (s.mono e1)).mono fun vs H2 z => ?_
  obtain ⟨F2, ms, c2, e2, t2, r2, q2⟩ := z
  exact ⟨F2, m :: ms, c2, e1.trans e2, t2, .cons (r1.mono e2) r2, q2⟩
theorem ev_lst (h : AV a X es ρ cs fun ms c1 => ms.length ≤ 100000 ∧ ∀ p, p ∉ ads c1 → Q (.cel p) ((p, .lst ms) :: c1)) : EV a X (.List es pos) ρ cs Q := .mk fun σ F H t s => by
  refine WE.of (pe_lst (pa es)) ((h.run σ F H t s).mono fun vs H1 z => ?_)
  obtain ⟨F1, ms, c1, e1, t1, r1, hl, q⟩ := z
  exact ⟨by rw [← r1.length]; exact Nat.le_trans hl (by decide), fun p hp => rt_newC (c := .lst ms) e1 t1 hp ⟨_, rfl, r1⟩ q⟩
theorem ev_tup {x1} (h : AV a X es ρ cs fun ms c1 => ∃ ds, ms = ds.map Mv.frz ∧ ds.length ≤ 100000 ∧ Q (.frz (.tup ds)) c1) : EV a X (.Tuple es x1 pos) ρ cs Q := .mk fun σ F H t s => by
  refine WE.of (pe_tup (pa es)) ((h.run σ F H t s).mono fun vs H1 z => ?_)
  obtain ⟨F1, ms, c1, e1, t1, r1, ds, rfl, hl, q⟩ := z
  exact ⟨by rw [← r1.frz.length]; exact Nat.le_trans hl (by decide), fun p hp => rt_newF e1 t1 hp (fun F' h1 h2 => .tup h1 (Reps.mono h2 r1.frz)) q⟩
/-! calls of built-ins -/
theorem ev_callB {id : String} {rr : List V → Hp → VK → Prop} {x : Str} {p : Pos} (hc : CallR X (.builtin id) rr) (hg : Gl X x) (hm : X.mg x = none) (hv : bootBuiltins x = some (.builtin id)) (h : AV a X (e :: es) ρ cs fun ms c1 => CV a rr ms c1 Q) (hn : x ≠ "__name__" := by decide)
    (hdb : (x == ("__debug__" : Str)) = false := by decide) (he : starEach (e :: es) X.env = (false, eval e X.env) :: starEach es X.env := by rfl) (hpl : (backTo pos (starEach es X.env)).any (·.1) = false := by rfl) : EV a X (.Call (.Name x p) (e :: es) [] pos) ρ cs Q := .mk fun σ F H t s => by
  refine WE.of (pe_callB hc hg hm hv (pa _) hn hdb he hpl) ((h.run σ F H t s).mono fun vs H1 z => ?_)
  obtain ⟨F1, ms, c1, e1, t1, r1, q⟩ := z
  exact q F F1 H1 vs e1 t1 r1
theorem ev_callT {T : String} {rr : List V → Hp → VK → Prop} {x : Str} {p : Pos} (hc : CallR X (.type T) rr) (hg : Gl X x) (hm : X.mg x = none) (hv : bootBuiltins x = some (.type T)) (h : AV a X (e :: es) ρ cs fun ms c1 => CV a rr ms c1 Q) (hn : x ≠ "__name__" := by decide)
    (hdb : (x == ("__debug__" : Str)) = false := by decide) (he : starEach (e :: es) X.env = (false, eval e X.env) :: starEach es X.env := by rfl) (hpl : (backTo pos (starEach es X.env)).any (·.1) = false := by rfl) : EV a X (.Call (.Name x p) (e :: es) [] pos) ρ cs Q := .mk fun σ F H t s => by
  refine WE.of (pe_callTy hc hg hm hv (pa _) hn hdb he hpl) ((h.run σ F H t s).mono fun vs H1 z => ?_)
  obtain ⟨F1, ms, c1, e1, t1, r1, q⟩ := z
  exact q F F1 H1 vs e1 t1 r1
end
end Z

/-! Zs: fields, subscripts, statements, targets, defs and their calls. -/
namespace Z
open PySem PySem.Spec PyProof.Rows L2

/-! ### look-ups -/
def lookF {α : Type} (f : Str) (l : List (Str × α)) : Option α := l.lookup f
def lookK {α : Type} (k : Key) (l : List (Key × α)) : Option α := (l.find? fun kv => decide (kv.1 = k)).map (·.2)
def putKs {α : Type} (l : List (Key × α)) (k : Key) (v : α) : List (Key × α) :=
  if (l.any fun kv => decide (kv.1 = k)) = true then l.map (fun kv => if kv.1 = k then (kv.1, v) else kv) else l ++ [(k, v)]
def putFs {α : Type} (f : Str) (v : α) : List (Str × α) → List (Str × α)
  | [] => [(f, v)]
  | (g, x) :: r => if g = f then (g, v) :: r else (g, x) :: putFs f v r
section
variable {F : Hp}
theorem RepF.look {f : Str} {d : Dv} : ∀ {l : List (Str × Dv)} {xs : List (Str × V)}, RepF F l xs → l.lookup f = some d → ∃ v, xs.lookup f = some v ∧ Rep F d v
  | _, _, .nil, e => by simp [List.lookup] at e
  | (k, x) :: l, _, .cons h r, e => by
    simp only [List.lookup] at e ⊢
    split at e
    · simp only [Option.some.injEq] at e
      subst e
      exact ⟨_, rfl, h⟩
    · exact RepF.look r e
theorem RepMK.lookF {f : Str} {d : Mv} : ∀ {l : List (Str × Mv)} {xs : List (Str × V)}, RepMK F l xs → l.lookup f = some d → ∃ v, xs.lookup f = some v ∧ RepM F d v
  | _, _, .nil, e => by simp [List.lookup] at e
  | (k, x) :: l, _, .cons h r, e => by
    simp only [List.lookup] at e ⊢
    split at e
    · simp only [Option.some.injEq] at e
      subst e
      exact ⟨_, rfl, h⟩
    · exact RepMK.lookF r e
theorem RepMK.putF {f : Str} {m : Mv} {v : V} (h : RepM F m v) : ∀ {l : List (Str × Mv)} {xs : List (Str × V)}, RepMK F l xs → RepMK F (putFs f m l) (putF f v xs)
  | _, _, .nil => .cons h .nil
  | (k, x) :: l, (_, y) :: xs, .cons q r => by
    unfold putFs L2.putF
    by_cases e : k = f
    · rw [if_pos e, if_pos e]; exact .cons h r
    · rw [if_neg e, if_neg e]; exact .cons q (RepMK.putF h r)
theorem RepMK.len {κ : Type} : ∀ {l : List (κ × Mv)} {xs : List (κ × V)}, RepMK F l xs → l.length = xs.length
  | _, _, .nil => rfl
  | _, _, .cons _ r => by rw [List.length_cons, List.length_cons, RepMK.len r]
theorem RepK.look {k : Key} : ∀ {l : List (Key × Dv)} {xs : List (Key × V)}, RepK F l xs → (lookK k l = none → valV xs k = none) ∧ ∀ d, lookK k l = some d → ∃ v, valV xs k = some v ∧ Rep F d v
  | _, _, .nil => ⟨fun _ => rfl, fun d e => by simp [lookK] at e⟩
  | (q, x) :: l, (_, y) :: xs, .cons h r => by
    have ih := RepK.look (k := k) r
    by_cases e : q = k
    · subst e
      refine ⟨fun z => by simp [lookK, List.find?_cons] at z, fun d z => ?_⟩
      have : x = d := by simpa [lookK, List.find?_cons] using z
      subst this
      exact ⟨y, by rw [valV_pos rfl], h⟩
    · refine ⟨fun z => ?_, fun d z => ?_⟩
      · rw [valV_neg e]; exact ih.1 (by simpa [lookK, List.find?_cons, e] using z)
      · rw [valV_neg e]; exact ih.2 d (by simpa [lookK, List.find?_cons, e] using z)
theorem RepMK.look {k : Key} : ∀ {l : List (Key × Mv)} {xs : List (Key × V)}, RepMK F l xs → (lookK k l = none → valV xs k = none) ∧ ∀ d, lookK k l = some d → ∃ v, valV xs k = some v ∧ RepM F d v
  | _, _, .nil => ⟨fun _ => rfl, fun d e => by simp [lookK] at e⟩
  | (q, x) :: l, (_, y) :: xs, .cons h r => by
    have ih := RepMK.look (k := k) r
    by_cases e : q = k
    · subst e
      refine ⟨fun z => by simp [lookK, List.find?_cons] at z, fun d z => ?_⟩
      have : x = d := by simpa [lookK, List.find?_cons] using z
      subst this
      exact ⟨y, by rw [valV_pos rfl], h⟩
    · refine ⟨fun z => ?_, fun d z => ?_⟩
      · rw [valV_neg e]; exact ih.1 (by simpa [lookK, List.find?_cons, e] using z)
      · rw [valV_neg e]; exact ih.2 d (by simpa [lookK, List.find?_cons, e] using z)
theorem RepMK.any {k : Key} : ∀ {l : List (Key × Mv)} {xs : List (Key × V)}, RepMK F l xs → (l.any fun kv => decide (kv.1 = k)) = (xs.any fun kv => decide (kv.1 = k))
  | _, _, .nil => rfl
  | (q, x) :: l, (_, y) :: xs, .cons h r => by rw [List.any_cons, List.any_cons, RepMK.any r]
theorem RepMK.map {k : Key} {m : Mv} {v : V} (h : RepM F m v) : ∀ {l : List (Key × Mv)} {xs : List (Key × V)}, RepMK F l xs → RepMK F (l.map fun kv => if kv.1 = k then (kv.1, m) else kv) (xs.map fun kv => if kv.1 = k then (kv.1, v) else kv)
  | _, _, .nil => .nil
  | (q, x) :: l, (_, y) :: xs, .cons z r => by
    rw [List.map_cons, List.map_cons]
    by_cases e : q = k
    · simp only [e, if_true]; exact .cons h (RepMK.map h r)
    · simp only [e, if_false]; exact .cons z (RepMK.map h r)
theorem RepMK.app {κ : Type} : ∀ {l k : List (κ × Mv)} {xs ys : List (κ × V)}, RepMK F l xs → RepMK F k ys → RepMK F (l ++ k) (xs ++ ys)
  | _, _, _, _, .nil, s => s
  | _, _, _, _, .cons h r, s => .cons h (RepMK.app r s)
theorem RepMK.put {k : Key} {m : Mv} {v : V} (h : RepM F m v) {l : List (Key × Mv)} {xs : List (Key × V)} (r : RepMK F l xs) : RepMK F (putKs l k m) (putK xs k v) := by
  unfold putKs L2.putK
  rw [r.any]
  split
  · exact r.map h
  · exact r.app (.cons h .nil)
theorem RepMK.frzK : ∀ {l : List (Key × Dv)} {xs : List (Key × V)}, RepMK F (l.map fun kv => (kv.1, Mv.frz kv.2)) xs → RepK F l xs
  | [], _, .nil => .nil
  | _ :: _, _, .cons h r => .cons h (RepMK.frzK r)
theorem RepMK.frzF : ∀ {l : List (Str × Dv)} {xs : List (Str × V)}, RepMK F (l.map fun kv => (kv.1, Mv.frz kv.2)) xs → RepF F l xs
  | [], _, .nil => .nil
  | _ :: _, _, .cons h r => .cons h (RepMK.frzF r)
end
/-- m's items -/
inductive SeqM (cs : Cs) : Mv → List Mv → Prop
  | lst {l : List Dv} : SeqM cs (.frz (.lst l)) (l.map Mv.frz)
  | tup {l : List Dv} : SeqM cs (.frz (.tup l)) (l.map Mv.frz)
  | ptp {l : List Dv} : SeqM cs (.frz (.ptp l)) (l.map Mv.frz)
  | cel {p : Addr} {l : List Mv} : (p, Cell.lst l) ∈ cs → SeqM cs (.cel p) l
  | celt {p : Addr} {l : List Mv} : (p, Cell.tup l) ∈ cs → SeqM cs (.cel p) l
theorem SeqM.sq {a : An} {F H : Hp} {cs : Cs} (K : PySem.W.Frag) (t : At a F H cs) {m : Mv} {ms : List Mv} {v : V} (h : SeqM cs m ms) (r : RepM F m v) : ∃ p xs, v = .ref p ∧ (SqL K H p xs ∨ SqT K H p xs) ∧ RepMs F ms xs := by
  cases h with
  | lst => cases r with | lst h q => exact ⟨_, _, rfl, .inl (SqL.of (t.stt.sub _ _ h)), RepMs.of q⟩
  | tup => cases r with | tup h q => exact ⟨_, _, rfl, .inr (SqT.of (t.stt.sub _ _ h)), RepMs.of q⟩
  | ptp => cases r with | ptp h z q => exact ⟨_, _, rfl, .inr (.inl (.inr ⟨_, t.stt.sub _ _ h⟩)), RepMs.of q⟩
  | cel hm =>
    obtain ⟨o, ho, xs, e, q⟩ := t.stt.cel _ hm
    rw [e] at ho
    exact ⟨_, xs, r, .inl (SqL.of ho), q⟩
  | celt hm =>
    obtain ⟨o, ho, xs, e, q⟩ := t.stt.cel _ hm
    rw [e] at ho
    exact ⟨_, xs, r, .inr (SqT.of ho), q⟩
/-- a field's value -/
inductive FldM (cs : Cs) (C : Addr) (f : Str) : Mv → Mv → Prop
  | frz {l : List (Str × Dv)} {d : Dv} : l.lookup f = some d → FldM cs C f (.frz (.ins C l)) (.frz d)
  | cel {p : Addr} {l : List (Str × Mv)} {m : Mv} : (p, Cell.ins C l) ∈ cs → l.lookup f = some m → FldM cs C f (.cel p) m
/-- a dict's entry, or none -/
inductive DctM (cs : Cs) (k : Key) : Mv → Option Mv → Prop
  | frz {l : List (Key × Dv)} : DctM cs k (.frz (.dct l)) ((lookK k l).map Mv.frz)
  | cel {p : Addr} {l : List (Key × Mv)} : (p, Cell.dct l) ∈ cs → DctM cs k (.cel p) (lookK k l)
/-- a key's value -/
def kM : Key → Mv
  | .inl i => .frz (.int i)
  | .inr x => .frz (.str x)
theorem RepM.key {F : Hp} {k : Key} {v : V} (h : RepM F (kM k) v) : v = kV k := by
  cases k with
  | inl i => exact h.int
  | inr x => exact h.str
theorem DctM.get {a : An} {F H : Hp} {cs : Cs} (t : At a F H cs) {k : Key} {m : Mv} {o : Option Mv} {v : V} (h : DctM cs k m o) (r : RepM F m v) : ∃ d w, v = .ref d ∧ DGet H d (kV k) w ∧ (o = none → w = none) ∧ ∀ n, o = some n → ∃ u, w = some u ∧ RepM F n u := by
  cases h with
  | frz =>
    rename_i l
    cases r with
    | @dct _ od xs _ h q =>
      refine ⟨_, valV xs k, rfl, .inl ⟨xs, k, .inr ⟨od, t.stt.sub _ _ h⟩, rfl, rfl⟩, fun z => q.look.1 (by simpa using z), fun n z => ?_⟩
      obtain ⟨d, e1, e2⟩ := Option.map_eq_some_iff.mp z
      obtain ⟨u, h1, h2⟩ := q.look.2 d e1
      subst e2
      exact ⟨u, h1, h2⟩
  | cel hm =>
    rename_i p l
    obtain ⟨o', ho, xs, e, q⟩ := t.stt.cel _ hm
    rw [e] at ho
    have e' : v = .ref p := r
    subst e'
    exact ⟨p, valV xs k, rfl, .inl ⟨xs, k, .inl ho, rfl, rfl⟩, q.look.1, q.look.2⟩

section
variable {a : An} {X : Cx} {ρ : Env} {cs : Cs} {Q : Mv → Cs → Prop} {QT : Bool → Cs → Prop} {QA : List Mv → Cs → Prop} {pos apos : Pos} {e l r b o : Expr} {es : List Expr} {f : Str}
/-! ### fields, subscripts -/
theorem ev_fld {C : Addr} (hc : Cls X.K C) (hn : NoAttr X.K C f) (h : EV a X e ρ cs fun x c1 => ∃ m, FldM c1 C f x m ∧ Q m c1) (hb : attributeBase e f X.env (eval e X.env) = eval e X.env := by rfl) : EV a X (.Attribute e f pos) ρ cs Q := .mk fun σ F H t s => by
  refine WE.of (pe_fld (pe e) hb) ((h.run σ F H t s).mono fun v H1 z => ?_)
  obtain ⟨F1, x, c1, e1, t1, r1, m, hf, q⟩ := z
  cases hf with
  | frz hl =>
    cases r1 with
    | ins h q1 =>
      obtain ⟨u, h1, h2⟩ := q1.look hl
      exact ⟨_, C, _, _, u, rfl, t1.stt.sub _ _ h, hc, hn, h1, rt_at e1 t1 (m := .frz _) h2 q⟩
  | cel hm hl =>
    rename_i p l
    obtain ⟨o', ho, dx, xs, e', q1⟩ := t1.stt.cel _ hm
    rw [e'] at ho
    obtain ⟨u, h1, h2⟩ := q1.lookF hl
    exact ⟨p, C, dx, xs, u, r1, ho, hc, hn, h1, rt_at e1 t1 h2 q⟩
/-- dicts by IxR -/
def rIxD : R2 := fun x y H Q => ∃ d v, x = .ref d ∧ DGet H d y (some v) ∧ Q v H
theorem ix_dict (hu : X.A.units + 1 < cLine) : IxR X rIxD := by
  intro value slice pins s σ H x y v u Q I rx ry h hs
  obtain ⟨d, w, rfl, g, q⟩ := h
  cases rx
  exact tail_any (dict_typeIs I g) PySem.F.slot_dict_getitem.lookup (d_getItem hu I g ry fun w' s3 I3 rw' => ⟨w, H, I3, rw', q⟩) hs
def rIxA (K : PySem.W.Frag) : R2 := fun x y H Q => rIx K x y H Q ∨ rIxD x y H Q
theorem ix_all (hu : X.A.units + 1 < cLine) : IxR X (rIxA X.K) := IxR.or ix_seq (ix_dict hu)
theorem atI_map {α β : Type} (g : α → β) (l : List α) (i : Int) : atI (l.map g) i = (atI l i).map g := by
  unfold atI
  rw [List.length_map]
  cases ixN l.length i with
  | none => rfl
  | some j => simp [List.getElem?_map]
theorem RepMs.at_ {F : Hp} {l : List Mv} {xs : List V} (r : RepMs F l xs) {i : Int} {m : Mv} (h : atI l i = some m) : ∃ v, atI xs i = some v ∧ RepM F m v := by
  unfold atI at h ⊢
  rw [← r.length]
  cases q : ixN l.length i with
  | none => rw [q] at h; cases h
  | some j =>
    rw [q] at h
    exact r.get h
/-- x[y] -/
inductive IxM (cs : Cs) : Mv → Mv → Mv → Prop
  | seq {x : Mv} {ms : List Mv} {i : Int} {m : Mv} : SeqM cs x ms → atI ms i = some m → IxM cs x (.frz (.int i)) m
  | dct {x : Mv} {k : Key} {m : Mv} : DctM cs k x (some m) → IxM cs x (kM k) m
  | str {z : Str} {i : Int} {c : Nat} : z.length ≤ 100000 → atI z.cps.toList i = some c → IxM cs (.frz (.str z)) (.frz (.int i)) (.frz (.str ⟨#[c]⟩))
theorem rv_ix {K : PySem.W.Frag} {x y m : Mv} (h : IxM cs x y m) (q : Q m cs) : RV a (rIxA K) x y cs Q := fun F0 F H vx vy e0 t r1 r2 => by
  cases h with
  | seq hs hi =>
    obtain ⟨p, xs, rfl, hq, rs⟩ := hs.sq K t r1
    obtain ⟨v, e1, rv⟩ := rs.at_ hi
    cases r2.int
    rcases hq with hq | hq
    · exact .inl (.inl ⟨p, xs, _, v, rfl, rfl, hq, e1, rt_at e0 t rv q⟩)
    · exact .inl (.inr (.inl ⟨p, xs, _, v, rfl, rfl, hq, e1, rt_at e0 t rv q⟩))
  | dct hd =>
    obtain ⟨d, w, rfl, g, _, k2⟩ := hd.get t r1
    obtain ⟨u, rfl, ru⟩ := k2 _ rfl
    cases r2.key
    exact .inr ⟨d, u, rfl, g, rt_at e0 t ru q⟩
  | str hl hi =>
    cases r1.str; cases r2.int
    exact .inl (.inr (.inr ⟨_, _, _, rfl, rfl, Nat.le_trans hl (by decide), hi, rt_str e0 t q⟩))
theorem ev_ix (hu : X.A.units + 1 < cLine) (h : EV a X l ρ cs fun x c1 => EV a X r ρ c1 fun y c2 => ∃ m, IxM c2 x y m ∧ Q m c2) (hs : PlainIx r := by exact fun _ _ => rfl) : EV a X (.Subscript l r pos) ρ cs Q :=
  bin_any (h.mono fun x c1 z => z.mono fun y c2 ⟨m, hm, q⟩ => rv_ix hm q) (pe_ix (ix_all hu) (pe l) (pe r) hs)
/-- in, not in: of sequences of flat things, of dicts -/
def rInD (neg : Bool) : R2 := fun y x H Q => ∃ d o, x = .ref d ∧ DGet H d y o ∧ Q (.bl (if neg then !o.isSome else o.isSome)) H
theorem op_inD (hu : X.A.units + 1 < cLine) : OpR X (compareOp .In) (rInD false) := by
  intro pins s σ H x y v u Q I rx ry h
  obtain ⟨d, o, rfl, g, q⟩ := h
  cases ry
  exact d_in hu I g rx fun s' I' => ⟨.bl o.isSome, H, I', rfl, q⟩
theorem op_ninD (hu : X.A.units + 1 < cLine) : OpR X (compareOp .NotIn) (rInD true) := by
  intro pins s σ H x y v u Q I rx ry h
  obtain ⟨d, o, rfl, g, q⟩ := h
  cases ry
  exact d_notIn hu I g rx fun s' I' => ⟨.bl (!o.isSome), H, I', rfl, q⟩
def rInA (K : PySem.W.Frag) (neg : Bool) : R2 := fun x y H Q => rIn K neg x y H Q ∨ rInD neg x y H Q
theorem op_inA (hu : X.A.units + 1 < cLine) : OpR X (compareOp .In) (rInA X.K false) := OpR.or op_in_seq (op_inD hu)
theorem op_ninA (hu : X.A.units + 1 < cLine) : OpR X (compareOp .NotIn) (rInA X.K true) := OpR.or op_notIn_seq (op_ninD hu)
theorem rInA_mono {K : PySem.W.Frag} {neg : Bool} : ∀ x y H Q Q', (∀ v H', Q v H' → Q' v H') → rInA K neg x y H Q → rInA K neg x y H Q' := fun x y H Q Q' i h => by
  rcases h with ⟨p, xs, h1, h2, h3, h4, q⟩ | ⟨d, o, h1, g, q⟩
  · exact .inl ⟨p, xs, h1, h2, h3, h4, i _ _ q⟩
  · exact .inr ⟨d, o, h1, g, i _ _ q⟩
/-- flat things -/
def Dv.fl : Dv → Option V
  | .non => some .non
  | .bl b => some (.bl b)
  | .int i => some (.int i)
  | .str x => some (.str x)
  | _ => none
theorem Rep.fl {F : Hp} {d : Dv} {v w : V} (r : Rep F d v) (h : d.fl = some w) : v = w := by
  cases r <;> simp [Dv.fl] at h <;> exact h
theorem Reps.fl {F : Hp} : ∀ {l : List Dv} {xs ws : List V}, Reps F l xs → l.mapM Dv.fl = some ws → xs = ws
  | [], _, ws, .nil, h => by simp at h; exact h.symm
  | d :: l, _, ws, .cons r q, h => by
    simp only [List.mapM_cons, Option.bind_eq_bind, Option.bind_eq_some_iff] at h
    obtain ⟨w, h1, ws', h2, h3⟩ := h
    simp at h3
    subst h3
    rw [r.fl h1, Reps.fl q h2]
/-- x in m, m of flat things -/
inductive InM (cs : Cs) : Mv → Mv → Bool → Prop
  | seq {d : Dv} {w : V} {m : Mv} {ds : List Dv} {ws : List V} : d.fl = some w → flatV w = true → SeqM cs m (ds.map Mv.frz) → ds.mapM Dv.fl = some ws → ws.all flatV = true → InM cs (.frz d) m (inV w ws)
  | dct {k : Key} {m : Mv} {o : Option Mv} : DctM cs k m o → InM cs (kM k) m o.isSome
theorem rv_in {K : PySem.W.Frag} {neg : Bool} {x y : Mv} {k : Bool} (h : InM cs x y k) (q : Q (.frz (.bl (if neg then !k else k))) cs) : RV a (rInA K neg) x y cs Q := fun F0 F H vx vy e0 t r1 r2 => by
  cases h with
  | seq h1 h2 h3 h4 h5 =>
    obtain ⟨p, xs, rfl, hq, rs⟩ := h3.sq K t r2
    have e1 : vx = _ := Rep.fl r1 h1
    subst e1
    have e2 := rs.frz.fl h4
    subst e2
    exact .inl ⟨p, _, rfl, hq, h2, h5, rt_bl e0 t q⟩
  | dct hd =>
    rename_i k' o
    obtain ⟨d, w, rfl, g, k1, k2⟩ := hd.get t r2
    cases r1.key
    have e1 : w.isSome = o.isSome := by
      cases o with
      | none => rw [k1 rfl] <;> rfl
      | some n => obtain ⟨u, rfl, _⟩ := k2 n rfl; rfl
    refine .inr ⟨d, w, rfl, g, ?_⟩
    rw [e1]
    exact rt_bl e0 t q
theorem ev_in (hu : X.A.units + 1 < cLine) (h : EV a X l ρ cs fun x c1 => EV a X r ρ c1 fun y c2 => ∃ k, InM c2 x y k ∧ Q (.frz (.bl k)) c2) (hm : behindInMarks .In r = false := by rfl) : EV a X (.Compare l [.In] [r] pos) ρ cs Q :=
  ev_cmp (op_inA hu) hm (h.mono fun x c1 z => z.mono fun y c2 ⟨k, hk, q⟩ => rv_in hk q)
theorem ev_nin (hu : X.A.units + 1 < cLine) (h : EV a X l ρ cs fun x c1 => EV a X r ρ c1 fun y c2 => ∃ k, InM c2 x y k ∧ Q (.frz (.bl (!k))) c2) (hm : behindInMarks .NotIn r = false := by rfl) : EV a X (.Compare l [.NotIn] [r] pos) ρ cs Q :=
  ev_cmp (op_ninA hu) hm (h.mono fun x c1 z => z.mono fun y c2 ⟨k, hk, q⟩ => rv_in (neg := true) hk q)
theorem tv_in (hu : X.A.units + 1 < cLine) (h : EV a X l ρ cs fun x c1 => EV a X r ρ c1 fun y c2 => ∃ k, InM c2 x y k ∧ QT k c2) (hm : behindInMarks .In r = false := by rfl) : TV a X (.Compare l [.In] [r] pos) ρ cs QT :=
  tv_cmp (op_inA hu) hm rInA_mono (h.mono fun x c1 z => z.mono fun y c2 ⟨k, hk, q⟩ => rv_in hk ⟨_, rfl, q⟩)
theorem tv_nin (hu : X.A.units + 1 < cLine) (h : EV a X l ρ cs fun x c1 => EV a X r ρ c1 fun y c2 => ∃ k, InM c2 x y k ∧ QT (!k) c2) (hm : behindInMarks .NotIn r = false := by rfl) : TV a X (.Compare l [.NotIn] [r] pos) ρ cs QT :=
  tv_cmp (op_ninA hu) hm rInA_mono (h.mono fun x c1 z => z.mono fun y c2 ⟨k, hk, q⟩ => rv_in (neg := true) hk ⟨_, rfl, q⟩)
/-! ### targets -/
def WG (X : Cx) (tg : Expr) : TG := fun v σ H Q => ∀ (pins : List (Addr × Obj)) (s : Shared) (u : Value), Inv X pins σ H s → RelV v u →
  wpAny (model X.prog X.w) X.A (assign tg X.env u) (fun _ s' => ∃ σ' H', Inv X pins σ' H' s' ∧ Q σ' H') X.xe s
theorem pg (tg : Expr) : PG X tg (WG X tg) := ⟨fun pins s _ _ _ u _ I r h => h pins s u I r⟩
theorem WG.of {tg : Expr} {g : TG} (h : PG X tg g) {v : V} {σ : L2.St} {H : Hp} {Q : L2.St → Hp → Prop} (q : g v σ H Q) : WG X tg v σ H Q := fun pins s u I r => h.run pins s σ H v u Q I r q
theorem WG.mono {tg : Expr} {v : V} {σ : L2.St} {H : Hp} {Q Q' : L2.St → Hp → Prop} (h : WG X tg v σ H Q) (i : ∀ σ' H', Q σ' H' → Q' σ' H') : WG X tg v σ H Q' := fun pins s u I r =>
  thn (h pins s u I r) fun _ _ ⟨σ', H', I', q⟩ => ⟨σ', H', I', i _ _ q⟩
structure GV (a : An) (X : Cx) (tg : Expr) (m : Mv) (ρ : Env) (cs : Cs) (QE : Env → Cs → Prop) : Prop where
  run : ∀ σ F H v, At a F H cs → RepS F ρ σ → RepM F m v → WG X tg v σ H (RtS a F QE)
variable {QE : Env → Cs → Prop}
theorem gv_name (i : Nat) {x : Str} {m : Mv} (hN : X.N.Nodup) (hi : X.N[i]? = some x) (hx : Loc X.env.scope x) (q : QE (ρ.set i (some m)) cs) (hf : X.fn x = true ∨ X.env.scope.names.lookup x = some .local := by first | exact .inl rfl | exact .inr rfl | assumption) : GV a X (.Name x pos) m ρ cs QE :=
  .mk fun σ F H v t s r => WG.of (pg_name hN hi hx hf) ⟨F, _, cs, Ex.refl _, t, s.set r, q⟩
/-- x[y] = m -/
inductive SetM (cs : Cs) : Mv → Mv → Mv → Cs → Prop
  | lst {p : Addr} {l : List Mv} {i : Int} {j : Nat} {m : Mv} {cs' : Cs} : PutR p (.lst l) (.lst (l.set j m)) cs cs' → ixN l.length i = some j → SetM cs (.cel p) (.frz (.int i)) m cs'
theorem gv_sub {m : Mv} (h : EV a X o ρ cs fun x c1 => EV a X b ρ c1 fun y c2 => ∃ c3, SetM c2 x y m c3 ∧ QE ρ c3) (ha : ∀ v, assign (.Subscript o b pos) X.env v = (do
      let ov ← holding [v] (eval o X.env)
      let iv ← holding [v, ov] (eval b X.env)
      standAt pos
      holding [v, ov, iv] (setItem ov iv v)
      release [v, ov, iv] []) := by intro _; rfl) : GV a X (.Subscript o b pos) m ρ cs QE := .mk fun σ F H v t s r => by
  refine WG.of (pg_sub (pe o) (pe b) set_list ha) ((h.run σ F H t s).mono fun ov H1 z => ?_)
  obtain ⟨F1, x, c1, e1, t1, r1, q1⟩ := z
  refine (q1.run σ F1 H1 t1 (s.mono e1)).mono fun iv H2 z => ?_
  obtain ⟨F2, y, c2, e2, t2, r2, c3, hs, q⟩ := z
  cases hs with
  | lst hm hj =>
    rename_i p l i j
    obtain ⟨o', ho, xs, e', q1⟩ := t2.stt.cel _ hm.mem
    rw [e'] at ho
    cases r2.int
    have e3 : ov = .ref p := r1.mono e2
    refine ⟨p, xs, i, j, e3, rfl, ho, by rw [← q1.length]; exact hj, F2, ρ, _, e1.trans e2, t2.put hm ⟨_, rfl, q1.set (r.mono (e1.trans e2)) j⟩, s.mono (e1.trans e2), q⟩
/-- targets a, b, .. for items -/
def WGs (X : Cx) (ts : List Expr) : TGs := fun vs σ H Q => ∀ (pins : List (Addr × Obj)) (s : Shared) (us : List Value), Inv X pins σ H s → Vals vs us →
  wpAny (model X.prog X.w) X.A (assignInOrder ((assignEach ts X.env).map (·.2)) us) (fun _ s' => ∃ σ' H', Inv X pins σ' H' s' ∧ Q σ' H') X.xe s
theorem pgs (ts : List Expr) : PGs X ts (WGs X ts) := ⟨fun pins s _ _ _ u _ I r h => h pins s u I r⟩
theorem WGs.of {tg : List Expr} {g : TGs} (h : PGs X tg g) {v : List V} {σ : L2.St} {H : Hp} {Q : L2.St → Hp → Prop} (q : g v σ H Q) : WGs X tg v σ H Q := fun pins s u I r => h.run pins s σ H v u Q I r q
theorem WGs.mono {tg : List Expr} {v : List V} {σ : L2.St} {H : Hp} {Q Q' : L2.St → Hp → Prop} (h : WGs X tg v σ H Q) (i : ∀ σ' H', Q σ' H' → Q' σ' H') : WGs X tg v σ H Q' := fun pins s u I r =>
  thn (h pins s u I r) fun _ _ ⟨σ', H', I', q⟩ => ⟨σ', H', I', i _ _ q⟩
structure GVs (a : An) (X : Cx) (ts : List Expr) (ms : List Mv) (ρ : Env) (cs : Cs) (QE : Env → Cs → Prop) : Prop where
  run : ∀ σ F H vs, At a F H cs → RepS F ρ σ → RepMs F ms vs → WGs X ts vs σ H (RtS a F QE)
theorem gvs_nil (q : QE ρ cs) : GVs a X [] [] ρ cs QE := .mk fun σ F H v t s r => by
  cases r
  exact WGs.of pgs_nil ⟨rfl, F, ρ, cs, Ex.refl _, t, s, q⟩
theorem gvs_cons {m : Mv} {ms : List Mv} (h : GV a X e m ρ cs fun ρ1 c1 => GVs a X es ms ρ1 c1 QE) (hs : (assignEach (e :: es) X.env).map (·.2) = assign e X.env :: (assignEach es X.env).map (·.2) := by rfl) : GVs a X (e :: es) (m :: ms) ρ cs QE := .mk fun σ F H v t s r => by
  cases r with
  | cons r1 r2 =>
    refine WGs.of (pgs_cons (pg e) (pgs es) hs) ⟨_, _, rfl, (h.run σ F H _ t s r1).mono fun σ' H' z => ?_⟩
    obtain ⟨F1, ρ1, c1, e1, t1, s1, q⟩ := z
    exact (q.run σ' F1 H' _ t1 s1 (r2.mono e1)).mono fun _ _ z => RtS.up e1 (fun _ _ q => q) z
inductive TupM (cs : Cs) : Mv → List Mv → Prop
  | tup {l : List Dv} : TupM cs (.frz (.tup l)) (l.map Mv.frz)
  | cel {p : Addr} {l : List Mv} : (p, Cell.tup l) ∈ cs → TupM cs (.cel p) l
theorem gv_tup {k : Nat} {m : Mv} {ms : List Mv} (hc : X.calm = true) (hm : TupM cs m ms) (hl : (assignEach es X.env).length = ms.length) (h : GVs a X es ms ρ cs QE) (hst : (assignEach es X.env).findIdx? (·.1) = none := by rfl) : GV a X (.Tuple es k pos) m ρ cs QE := .mk fun σ F H v t s r => by
  refine WG.of (pg_tup hc (pgs es) hl hst) ?_
  cases hm with
  | tup =>
    cases r with
    | tup h1 h2 => exact ⟨_, _, rfl, SqT.of (t.stt.sub _ _ h1), by rw [← h2.length, List.length_map], h.run σ F H _ t s (RepMs.of h2)⟩
  | cel hm =>
    obtain ⟨o', ho, xs, e', q1⟩ := t.stt.cel _ hm
    rw [e'] at ho
    exact ⟨_, xs, r, SqT.of ho, by rw [← q1.length], h.run σ F H _ t s q1⟩

/-! ### statements -/
variable {D : Dn} {st : Stmt} {sts sts' : List Stmt}
theorem svs_nil (q : D.nx ρ cs) : SVs a X [] ρ cs D := .mk fun σ F H t s => WSs.of pss_nil ⟨F, ρ, cs, Ex.refl _, t, s, q⟩
theorem svs_cons (h : SV a X st ρ cs { D with nx := fun ρ' cs' => SVs a X sts ρ' cs' D }) : SVs a X (st :: sts) ρ cs D := .mk fun σ F H t s => by
  refine WSs.of (pss_cons (ps st) (pss sts)) ((h.run σ F H t s).mono ⟨fun σ' H' z => ?_, fun _ _ z => z, fun _ _ z => z, fun _ _ z => z⟩)
  obtain ⟨F1, ρ1, c1, e1, t1, s1, q⟩ := z
  exact (q.run σ' F1 H' t1 s1).mono (En.le e1 (DnLe.refl D))
theorem svs_mono (h : SVs a X sts ρ cs D) {D' : Dn} (l : DnLe D D') : SVs a X sts ρ cs D' := .mk fun σ F H t s => (h.run σ F H t s).mono (En.le (Ex.refl _) l)
theorem sv_ret (h : EV a X e ρ cs D.rt) : SV a X (.Return (some e) pos) ρ cs D := .mk fun σ F H t s => WS.of (ps_ret (pe e)) (h.run σ F H t s)
theorem sv_retN (h : D.rt (.frz .non) cs) : SV a X (.Return none pos) ρ cs D := .mk fun σ F H t s => WS.of ps_retN (rt_non (Ex.refl _) t h)
theorem sv_pass (h : D.nx ρ cs) : SV a X (.Pass pos) ρ cs D := .mk fun σ F H t s => WS.of ps_pass ⟨F, ρ, cs, Ex.refl _, t, s, h⟩
theorem sv_break (h : D.bk ρ cs) : SV a X (.Break pos) ρ cs D := .mk fun σ F H t s => WS.of ps_break ⟨F, ρ, cs, Ex.refl _, t, s, h⟩
theorem sv_cont (h : D.ct ρ cs) : SV a X (.Continue pos) ρ cs D := .mk fun σ F H t s => WS.of ps_continue ⟨F, ρ, cs, Ex.refl _, t, s, h⟩
theorem sv_expr (h : EV a X e ρ cs fun _ c1 => D.nx ρ c1) (hs : swapsWith e none pos.line X.env = pure false := by rfl) : SV a X (.Expr e pos) ρ cs D := .mk fun σ F H t s => by
  refine WS.of (ps_expr (pe e) hs) ((h.run σ F H t s).mono fun v H1 z => ?_)
  obtain ⟨F1, x, c1, e1, t1, r1, q⟩ := z
  exact ⟨F1, ρ, c1, e1, t1, s.mono e1, q⟩
theorem sv_if (h : TV a X e ρ cs fun k c1 => (k = true → SVs a X sts ρ c1 D) ∧ (k = false → SVs a X sts' ρ c1 D)) : SV a X (.If e sts sts' pos) ρ cs D := .mk fun σ F H t s => by
  refine WS.of (ps_if (pt e) (pss sts) (pss sts')) ((h.run σ F H t s).mono fun k H1 z => ?_)
  obtain ⟨F1, c1, e1, t1, k1, k2⟩ := z
  cases k with
  | true => rw [if_pos rfl]; exact ((k1 rfl).run σ F1 H1 t1 (s.mono e1)).mono (En.le e1 (DnLe.refl D))
  | false => rw [if_neg Bool.false_ne_true]; exact ((k2 rfl).run σ F1 H1 t1 (s.mono e1)).mono (En.le e1 (DnLe.refl D))
theorem sv_asg {tg : Expr} (h : EV a X e ρ cs fun m c1 => GV a X tg m ρ c1 D.nx) (hs : swapsWithSole [tg] e pos.line X.env = pure false := by rfl) (hw : swappedStores [tg] e X.env = pure none := by rfl)
    (h1 : (assignEach [tg] X.env).map (·.2) = [assign tg X.env] := by rfl) : SV a X (.Assign [tg] e pos) ρ cs D := .mk fun σ F H t s => by
  refine WS.of (ps_asg (pe e) (pg tg) hs hw h1) ((h.run σ F H t s).mono fun v H1 z => ?_)
  obtain ⟨F1, m, c1, e1, t1, r1, q⟩ := z
  exact (q.run σ F1 H1 v t1 (s.mono e1) r1).mono fun _ _ z => RtS.up e1 (fun _ _ q => q) z
/-- x = e -/
theorem sv_set (i : Nat) {x : Str} {pos' : Pos} (hN : X.N.Nodup) (hi : X.N[i]? = some x) (hx : Loc X.env.scope x) (h : EV a X e ρ cs fun m c1 => D.nx (ρ.set i (some m)) c1) (hs : swapsWith e (some (.Name x pos')) pos.line X.env = pure false := by rfl)
    (hf : X.fn x = true ∨ X.env.scope.names.lookup x = some .local := by first | exact .inl rfl | exact .inr rfl | assumption) : SV a X (.Assign [.Name x pos'] e pos) ρ cs D := .mk fun σ F H t s => by
  refine WS.of (ps_set hN hi hx (pe e) hs hf) ((h.run σ F H t s).mono fun v H1 z => ?_)
  obtain ⟨F1, m, c1, e1, t1, r1, q⟩ := z
  exact ⟨F1, _, c1, e1, t1, (s.mono e1).set r1, q⟩
/-- x, y = e, e' -/
theorem sv_par (i j : Nat) {x y : Str} {px py pt : Pos} {kt k2 pt2} (hc : X.calm = true) (hN : X.N.Nodup) (hi : X.N[i]? = some x) (hj : X.N[j]? = some y) (hij : i ≠ j) (hx : X.env.scope.names.lookup x = some .local) (hy : X.env.scope.names.lookup y = some .local)
    (hw : swappedStores [.Tuple [.Name x px, .Name y py] kt pt] (.Tuple [l, r] k2 pt2) X.env = pure (some [x, y])) (h : EV a X l ρ cs fun m c1 => EV a X r ρ c1 fun n c2 => D.nx ((ρ.set i (some m)).set j (some n)) c2)
    (hs : swapsWithSole [.Tuple [.Name x px, .Name y py] kt pt] (.Tuple [l, r] k2 pt2) pos.line X.env = pure false := by rfl) (h1 : starEach (l :: [r]) X.env = (false, eval l X.env) :: starEach [r] X.env := by rfl) (h2 : starEach (r :: []) X.env = (false, eval r X.env) :: starEach [] X.env := by rfl) :
    SV a X (.Assign [.Tuple [.Name x px, .Name y py] kt pt] (.Tuple [l, r] k2 pt2) pos) ρ cs D := .mk fun σ F H t s => by
  refine WS.of (ps_par hc hN hi hj hij hx hy (pa_cons (pe l) (pa_cons (pe r) pa_nil h2) h1) hw hs) ((h.run σ F H t s).mono fun v H1 z => ?_)
  obtain ⟨F1, m, c1, e1, t1, r1, q⟩ := z
  refine (q.run σ F1 H1 t1 (s.mono e1)).mono fun u H2 z => ?_
  obtain ⟨F2, n, c2, e2, t2, r2, q⟩ := z
  exact ⟨v, u, rfl, F2, _, c2, e1.trans e2, t2, ((s.mono (e1.trans e2)).set (r1.mono e2)).set r2, q⟩
/-- o.f = e -/
theorem sv_fld {C : Addr} {pos' : Pos} (hc : Cls X.K C) (hn : NoAttr X.K C f) (h : EV a X e ρ cs fun m c1 => EV a X o ρ c1 fun x c2 => ∃ p l cs', x = .cel p ∧ PutR p (.ins C l) (.ins C (putFs f m l)) c2 cs' ∧ l.length < 1000 ∧ D.nx ρ cs')
    (hs : swapsWith e (some (.Attribute o f pos')) pos.line X.env = pure false := by rfl) : SV a X (.Assign [.Attribute o f pos'] e pos) ρ cs D := .mk fun σ F H t s => by
  refine WS.of (ps_fld (pe o) (pe e) hs) ((h.run σ F H t s).mono fun v H1 z => ?_)
  obtain ⟨F1, m, c1, e1, t1, r1, q⟩ := z
  refine (q.run σ F1 H1 t1 (s.mono e1)).mono fun u H2 z => ?_
  obtain ⟨F2, x, c2, e2, t2, r2, p, l, cs', rfl, hm, hl, q⟩ := z
  obtain ⟨o', ho, dx, xs, e', q1⟩ := t2.stt.cel _ hm.mem
  rw [e'] at ho
  exact ⟨p, C, dx, xs, r2, ho, hc, hn, by rw [← q1.len]; exact hl, F2, ρ, _, e1.trans e2, t2.put hm ⟨dx, _, rfl, q1.putF (r1.mono e2)⟩, s.mono (e1.trans e2), q⟩
/-- d[k] = e, d a cell -/
theorem sv_dput {pos' : Pos} (hu : X.A.units + 1 < cLine) (h : EV a X e ρ cs fun m c1 => EV a X o ρ c1 fun x c2 => EV a X b ρ c2 fun y c3 => ∃ p l k cs', x = .cel p ∧ y = kM k ∧ PutR p (.dct l) (.dct (putKs l k m)) c3 cs' ∧ l.length < 100000 ∧ D.nx ρ cs')
    (hs : swapsWith e (some (.Subscript o b pos')) pos.line X.env = pure false := by rfl) : SV a X (.Assign [.Subscript o b pos'] e pos) ρ cs D := .mk fun σ F H t s => by
  refine WS.of (ps_dput hu (pe o) (pe b) (pe e) hs) ((h.run σ F H t s).mono fun v H1 z => ?_)
  obtain ⟨F1, m, c1, e1, t1, r1, q⟩ := z
  refine (q.run σ F1 H1 t1 (s.mono e1)).mono fun u H2 z => ?_
  obtain ⟨F2, x, c2, e2, t2, r2, q⟩ := z
  refine (q.run σ F2 H2 t2 (s.mono (e1.trans e2))).mono fun w H3 z => ?_
  obtain ⟨F3, y, c3, e3, t3, r3, p, l, k, cs', rfl, rfl, hm, hl, q⟩ := z
  obtain ⟨o', ho, xs, e', q1⟩ := t3.stt.cel _ hm.mem
  rw [e'] at ho
  cases r3.key
  have e4 : u = .ref p := r2
  exact ⟨p, _, e4, DPut.k ho (by rw [← q1.len]; exact Nat.lt_of_lt_of_le hl (by decide)), F3, ρ, _, (e1.trans e2).trans e3, t3.put hm ⟨_, rfl, q1.put (r1.mono (e2.trans e3))⟩, s.mono ((e1.trans e2).trans e3), q⟩
end
end Z

/-! Zt: defs and their calls, freezing, loops, comprehensions. -/
namespace Z
open PySem PySem.Spec PyProof.Rows L2

/-! ### a def's word -/
/-- arguments, cells; what is wanted of the value; what is wanted of an exception (class, fields) -/
abbrev FSp := List Mv → Cs → (Mv → Cs → Prop) → (Value → List (Str × Mv) → Cs → Prop) → Prop
def XR (F H : Hp) (d : Option Addr) (fs : List (Str × Mv)) : Prop := (d = none ∧ fs = []) ∨ ∃ dd xs, d = some dd ∧ H dd = some (.xd xs) ∧ RepMK F fs xs
def toSp (W : FSp) : Sp := fun vs H Q E => ∃ F ms cs R Z, Stt F H cs ∧ RepMs F ms vs ∧ W ms cs R Z ∧ (∀ m cs' v F' H', Step F H cs F' H' cs' → Stt F' H' cs' → RepM F' m v → R m cs' → Q v H') ∧
  ∀ cls fs cs' d F' H', Step F H cs F' H' cs' → Stt F' H' cs' → XR F' H' d fs → Z cls fs cs' → E cls d H'
def Z0 : Value → List (Str × Mv) → Cs → Prop := fun _ _ _ => False
def startM (N : List Str) (ms : List Mv) : Env := ms.map some ++ List.replicate (N.length - ms.length) none
theorem startM_rep {F : Hp} {N : List Str} : ∀ {ms : List Mv} {vs : List V}, RepMs F ms vs → RepS F (startM N ms) (L2.start N vs) := fun {ms vs} r => by
  have hl := r.length
  unfold startM L2.start
  rw [hl]
  refine ⟨by simp [hl], fun i m e => ?_⟩
  by_cases h : i < ms.length
  · rw [List.getElem?_append_left (by simpa using h), List.getElem?_map] at e
    cases q : ms[i]? with
    | none => rw [q] at e; cases e
    | some m' =>
      rw [q] at e
      simp only [Option.map_some, Option.some.injEq] at e
      subst e
      obtain ⟨v, hv, rv⟩ := r.get q
      exact ⟨v, by rw [List.getElem?_append_left (by simp; omega), List.getElem?_map, hv]; rfl, rv⟩
  · rw [List.getElem?_append_right (by simp; omega), List.getElem?_replicate] at e
    split at e <;> cases e
section
variable {P : Program} {w : World} {K : PySem.W.Frag} {mg : Str → Option Value} {base : Heap}
theorem toSp_len {W : FSp} {ps : List Str} (len : ∀ ms cs R Z, W ms cs R Z → ms.length = ps.length) : ∀ vs H Q E, toSp W vs H Q E → vs.length = ps.length := fun vs H Q E ⟨F, ms, cs, R, Z, _, r, h, _⟩ => by
  rw [← r.length]; exact len _ _ _ _ h
/-- a def as it stands behind the top, whatever its defaults -/
def FunZ (K : PySem.W.Frag) (x qual : Str) (st : Stmt) (f : Addr) (fd : FuncData) : Prop := ∃ dvs kws, FunD K x qual (defArgs st) (defBody st) (defScope st) dvs kws f fd
/-- a def that raises nothing where W holds -/
theorem def_ok {x qual : Str} {st : Stmt} {f : Addr} {fd : FuncData} {N ps : List Str} {k : Nat} {W : FSp} (F : FunZ K x qual st f fd) (S : FnScope N ps (defScope st)) (len : ∀ ms cs R Z, W ms cs R Z → ms.length = ps.length)
    (body : ∀ (cdv : Value) (A : Around) (outer : List PySem.Env) (s : Shared) (H : Hp) (E : XK) (a : An) (ms : List Mv) (cs : Cs) (R : Mv → Cs → Prop) (Zx : Value → List (Str × Mv) → Cs → Prop), Room k (A.deeper (envOfC qual (defScope st) s.heap.objs.size f cdv)) → W ms cs R Zx →
      SVs a (cxOf CX0 P w K mg base N qual (defScope st) f cdv A outer s H E).nox (defBody st) (startM N ms) cs { nx := fun _ c => R (.frz .non) c, rt := R }) : FnOk P w K mg base CX0 (k + 1) f fd ps (toSp W) := by
  obtain ⟨dvs, kws, F⟩ := F
  refine F.ok S (toSp_len len) fun cdv A outer s H vs Q E hr h => ?_
  obtain ⟨F0, ms, cs, R, Zx, stt, r, hw, kq, kx⟩ := h
  refine ⟨_, PSs.nox (pss _), ((body cdv A outer s H E ⟨F0, H, cs⟩ ms cs R Zx hr hw).run (L2.start N vs) F0 H (At.refl stt) (startM_rep r)).mono ⟨fun σ' H' z => ?_, fun v H' z => ?_, fun _ _ z => ?_, fun _ _ z => ?_⟩⟩
  · obtain ⟨F', ρ', cs', e, t, _, q⟩ := z
    exact kq (.frz .non) _ _ _ _ t.st t.stt Rep.non q
  · obtain ⟨F', m, cs', e, t, rm, q⟩ := z
    exact kq _ _ _ _ _ t.st t.stt rm q
  · obtain ⟨_, _, _, _, _, _, q⟩ := z
    exact q.elim
  · obtain ⟨_, _, _, _, _, _, q⟩ := z
    exact q.elim
end
section
variable {a : An} {X : Cx} {ρ : Env} {cs : Cs} {Q : Mv → Cs → Prop} {QT : Bool → Cs → Prop} {QA : List Mv → Cs → Prop} {pos apos : Pos} {e l r b o : Expr} {es : List Expr} {f : Str} {D : Dn} {st : Stmt} {sts sts' : List Stmt}
/-- the word of a call, used -/
theorem toSp_use {W : FSp} {F F1 H1 : Hp} {c1 : Cs} {ms : List Mv} {vs : List V} (e1 : Ex F F1) (t1 : At a F1 H1 c1) (r : RepMs F1 ms vs) (h : W ms c1 Q Z0) : toSp W vs H1 (Rt a F Q) E0 :=
  ⟨F1, ms, c1, Q, Z0, t1.stt, r, h, fun m cs' v F' H' st stt rm q => ⟨F', m, cs', e1.trans st.ff, t1.go st stt, rm, q⟩, fun _ _ _ _ _ _ _ _ _ z => z.elim⟩
def DefV (dvs : List V) (dms : List Mv) : Prop := ∀ F, RepMs F dms dvs
theorem DefV.nil : DefV [] [] := fun _ => .nil
theorem DefV.int {i : Int} {dvs : List V} {dms : List Mv} (h : DefV dvs dms) : DefV (.int i :: dvs) (.frz (.int i) :: dms) := fun F => .cons (Rep.int i) (h F)
theorem ev_call {W : FSp} {k : Nat} {g : Addr} {fd : FuncData} {ps : List Str} {x : Str} {p : Pos} {dvs : List V} {dms : List Mv} {ds : List Value} (G : FnOk X.prog X.w X.K X.mg X.base CX0 k g fd ps (toSp W)) (hr : Room k X.A) (hg : Gl X x) (hm : X.mg x = some (.ref g)) (hk : PySem.W.keepIn X.K (.ref g) = true)
    (hb : Binds X.K fd ps ds) (hd : Vals dvs ds) (hdm : DefV dvs dms) (h : AV a X (e :: es) ρ cs fun ms c1 => W (ms ++ dms) c1 Q Z0) (hdb : (x == ("__debug__" : Str)) = false := by decide)
    (he : starEach (e :: es) X.env = (false, eval e X.env) :: starEach es X.env := by rfl) (hpl : (backTo pos (starEach es X.env)).any (·.1) = false := by rfl) : EV a X (.Call (.Name x p) (e :: es) [] pos) ρ cs Q := .mk fun σ F H t s => by
  refine WE.of (pe_call G hr hg hm hk hb hd pass0 (pa _) hdb he hpl) ((h.run σ F H t s).mono fun vs H1 z => ?_)
  obtain ⟨F1, ms, c1, e1, t1, r1, q⟩ := z
  exact toSp_use e1 t1 (r1.append (hdm _)) q
/-- x is an instance of C that has no field m -/
inductive InsM (cs : Cs) (C : Addr) (m : Str) : Mv → Prop
  | frz {l : List (Str × Dv)} : l.lookup m = none → InsM cs C m (.frz (.ins C l))
  | cel {p : Addr} {l : List (Str × Mv)} : (p, Cell.ins C l) ∈ cs → l.lookup m = none → InsM cs C m (.cel p)
theorem RepF.lookN {F : Hp} {f : Str} : ∀ {l : List (Str × Dv)} {xs : List (Str × V)}, RepF F l xs → l.lookup f = none → xs.lookup f = none
  | _, _, .nil, _ => rfl
  | (k, x) :: l, _, .cons h r, e => by
    simp only [List.lookup] at e ⊢
    split at e
    · cases e
    · exact RepF.lookN r e
theorem RepMK.lookN {F : Hp} {f : Str} : ∀ {l : List (Str × Mv)} {xs : List (Str × V)}, RepMK F l xs → l.lookup f = none → xs.lookup f = none
  | _, _, .nil, _ => rfl
  | (k, x) :: l, _, .cons h r, e => by
    simp only [List.lookup] at e ⊢
    split at e
    · cases e
    · exact RepMK.lookN r e
theorem InsM.at_ {F H : Hp} {C : Addr} {m : Str} (t : At a F H cs) {x : Mv} {v : V} (h : InsM cs C m x) (r : RepM F x v) : ∃ p dx xs, v = .ref p ∧ H p = some (.ins C dx xs) ∧ xs.lookup m = none := by
  cases h with
  | frz hl =>
    cases r with
    | ins h q => exact ⟨_, _, _, rfl, t.stt.sub _ _ h, q.lookN hl⟩
  | cel hm hl =>
    obtain ⟨o', ho, dx, xs, e', q⟩ := t.stt.cel _ hm
    rw [e'] at ho
    exact ⟨_, dx, xs, r, ho, q.lookN hl⟩
theorem ev_meth {W : FSp} {k : Nat} {g C : Addr} {fd : FuncData} {ps : List Str} {m : Str} {dvs : List V} {dms : List Mv} {ds : List Value} {pl : Sem Bool} (hc : Cls X.K C) (hm : Meth X.K C m g) (G : FnOk X.prog X.w X.K X.mg X.base CX0 k g fd ps (toSp W)) (hr : Room k X.A)
    (hb : Binds X.K fd ps ds) (hd : Vals dvs ds) (hdm : DefV dvs dms) (h : EV a X o ρ cs fun x c1 => InsM c1 C m x ∧ AV a X (e :: es) ρ c1 fun ms c2 => W (x :: ms ++ dms) c2 Q Z0)
    (hst : starEach (e :: es) X.env = (false, eval e X.env) :: starEach es X.env := by rfl) (hpl : (backTo pos (starEach es X.env)).any (·.1) = false := by rfl)
    (ht : eval (.Call (.Attribute o m apos) (e :: es) [] pos) X.env = (do
      let ov ← eval o X.env
      standAt apos.atName
      let (f, first) ← holding [ov] (getMethod ov m pl)
      callWith pos f first (backTo pos (starEach (e :: es) X.env)) (backToKw pos (keywordEach [] X.env))) := by rfl) : EV a X (.Call (.Attribute o m apos) (e :: es) [] pos) ρ cs Q := .mk fun σ F H t s => by
  refine WE.of (pe_meth (pl := pl) (pe o) hc hm G hr hb hd pass0 (pa _) hst hpl ht) ((h.run σ F H t s).mono fun v H1 z => ?_)
  obtain ⟨F1, x, c1, e1, t1, r1, hi, q⟩ := z
  obtain ⟨p, dx, xs, rfl, hp, hl⟩ := hi.at_ t1 r1
  refine ⟨p, dx, xs, rfl, hp, hl, (q.run σ F1 H1 t1 (s.mono e1)).mono fun vs H2 z => ?_⟩
  obtain ⟨F2, ms, c2, e2, t2, r2, q⟩ := z
  exact toSp_use (e1.trans e2) t2 (RepMs.append (RepMs.cons (r1.mono e2) r2) (hdm _)) q
theorem ev_meth0 {W : FSp} {k : Nat} {g C : Addr} {fd : FuncData} {ps : List Str} {m : Str} {dvs : List V} {dms : List Mv} {ds : List Value} {pl : Sem Bool} (hc : Cls X.K C) (hm : Meth X.K C m g) (G : FnOk X.prog X.w X.K X.mg X.base CX0 k g fd ps (toSp W)) (hr : Room k X.A)
    (hb : Binds X.K fd ps ds) (hd : Vals dvs ds) (hdm : DefV dvs dms) (h : EV a X o ρ cs fun x c1 => InsM c1 C m x ∧ W (x :: dms) c1 Q Z0)
    (ht : eval (.Call (.Attribute o m apos) [] [] pos) X.env = (do
      let ov ← eval o X.env
      standAt apos.atName
      let (f, first) ← holding [ov] (getMethod ov m pl)
      callWith pos f first (backTo pos (starEach [] X.env)) (backToKw pos (keywordEach [] X.env))) := by rfl) : EV a X (.Call (.Attribute o m apos) [] [] pos) ρ cs Q := .mk fun σ F H t s => by
  refine WE.of (pe_meth0 (pl := pl) (pe o) hc hm G hr hb hd pass0 ht) ((h.run σ F H t s).mono fun v H1 z => ?_)
  obtain ⟨F1, x, c1, e1, t1, r1, hi, q⟩ := z
  obtain ⟨p, dx, xs, rfl, hp, hl⟩ := hi.at_ t1 r1
  exact ⟨p, dx, xs, rfl, hp, hl, toSp_use e1 t1 (RepMs.cons r1 (hdm _)) q⟩
/-- C(..): a new instance, __init__ at it -/
theorem ev_make {W : FSp} {k : Nat} {g C : Addr} {fd : FuncData} {ps : List Str} {x : Str} {p : Pos} {dvs : List V} {dms : List Mv} {ds : List Value} (M : Mk X.K C g) (G : FnOk X.prog X.w X.K X.mg X.base CX0 k g fd ps (toSp W)) (hr : Room (k + 1) X.A) (hg : Gl X x) (hm : X.mg x = some (.ref C))
    (hb : Binds X.K fd ps ds) (hd : Vals dvs ds) (hdm : DefV dvs dms) (h : AV a X (e :: es) ρ cs fun ms c1 => ∀ p, p ∉ ads c1 → W (.cel p :: (ms ++ dms)) ((p, .ins C []) :: c1) (fun m c2 => m = .frz .non ∧ Q (.cel p) c2) Z0) (hdb : (x == ("__debug__" : Str)) = false := by decide)
    (he : starEach (e :: es) X.env = (false, eval e X.env) :: starEach es X.env := by rfl) (hpl : (backTo pos (starEach es X.env)).any (·.1) = false := by rfl) : EV a X (.Call (.Name x p) (e :: es) [] pos) ρ cs Q := .mk fun σ F H t s => by
  refine WE.of (pe_make M G hr hg hm hb hd pass0 (pa _) hdb he hpl) ((h.run σ F H t s).mono fun vs H1 z => ?_)
  obtain ⟨F1, ms, c1, e1, t1, r1, q⟩ := z
  intro y dx hy hdx hne
  have t2 : At a F1 (upd H1 dx (.own y)) c1 := t1.more (Ex.new hdx)
  have hy2 : upd H1 dx (.own y) y = none := by rw [upd_ne (Ne.symm hne)]; exact hy
  have t3 : At a F1 (upd (upd H1 dx (.own y)) y (.ins C dx [])) ((y, .ins C []) :: c1) := t2.newC hy2 ⟨dx, [], rfl, .nil⟩
  refine ⟨F1, .cel y :: (ms ++ dms), _, _, Z0, t3.stt, .cons rfl (r1.append (hdm _)), q y (t2.stt.fresh hy2), fun m cs' v F' H' st stt rm z => ?_, fun _ _ _ _ _ _ _ _ _ z => z.elim⟩
  obtain ⟨rfl, q⟩ := z
  exact ⟨rm.non, F', .cel y, cs', e1.trans st.ff, t3.go st stt, rfl, q⟩

/-! ### freezing a cell -/
inductive FzC : Cell → Dv → Prop
  | lst (l : List Dv) : FzC (.lst (l.map Mv.frz)) (.lst l)
  | tup (l : List Dv) : FzC (.tup (l.map Mv.frz)) (.tup l)
  | dct (l : List (Key × Dv)) : FzC (.dct (l.map fun kv => (kv.1, Mv.frz kv.2))) (.dct l)
  | ins (C : Addr) (l : List (Str × Dv)) : FzC (.ins C (l.map fun kv => (kv.1, Mv.frz kv.2))) (.ins C l)
theorem freeze_ok {pins : List (Addr × Obj)} {σ : L2.St} {F H : Hp} {s : Shared} {p : Addr} {c : Cell} {d : Dv} (I : Inv X pins σ H s) (t : At a F H cs) (hm : (p, c) ∈ cs) (hz : FzC c d) :
    ∃ F' H', Inv X pins σ H' s ∧ At a F' H' (delC cs p) ∧ Ex F F' ∧ Rep F' d (.ref p) := by
  obtain ⟨o, ho, r⟩ := t.stt.cel _ hm
  cases hz with
  | lst l =>
    obtain ⟨xs, e, r⟩ := r
    have z := t.freeze hm ho
    exact ⟨_, H, I, z.1, z.2, .lst (by rw [upd_same, e]) (r.frz.mono z.2)⟩
  | tup l =>
    obtain ⟨xs, e, r⟩ := r
    have z := t.freeze hm ho
    exact ⟨_, H, I, z.1, z.2, .tup (by rw [upd_same, e]) (r.frz.mono z.2)⟩
  | ins C l =>
    obtain ⟨dx, xs, e, r⟩ := r
    have z := t.freeze hm ho
    exact ⟨_, H, I, z.1, z.2, .ins (by rw [upd_same, e]) (r.frzF.mono z.2)⟩
  | dct l =>
    obtain ⟨xs, e, r⟩ := r
    rw [e] at ho
    obtain ⟨od, I1⟩ := I.lock ho trivial
    have hn : p ∉ ads (delC cs p) := fun z => by
      obtain ⟨q, hq, e⟩ := List.mem_map.mp z
      exact delC_ne t.stt.nd hq e
    have hf : F p = none := t.stt.out _ hm
    have e1 : Ex F (upd F p (.frz od (.dK xs))) := Ex.new hf
    refine ⟨upd F p (.frz od (.dK xs)), upd H p (.frz od (.dK xs)), I1, t.go ⟨e1, fun b u hb n => ?_, fun b hb => ?_, fun b hb => ?_⟩ ⟨fun b u hb => ?_, fun q hq => ?_, fun q hq => ?_, ?_⟩, e1, .dct upd_same (r.frzK.mono e1)⟩
    · rw [upd_ne (fun z => n (by rw [z]; exact mem_ads hm))]; exact hb
    · by_cases z : b = p
      · subst z; exact .inr (.inr (mem_ads hm))
      · rw [upd_ne z] at hb; exact .inl hb
    · obtain ⟨q, hq, e⟩ := List.mem_map.mp hb
      exact .inl (by rw [← e]; exact mem_ads (mem_delC hq))
    · by_cases z : b = p
      · subst z; rw [upd_same] at hb ⊢; exact hb
      · rw [upd_ne z] at hb ⊢; exact t.stt.sub b u hb
    · obtain ⟨u, hu, c⟩ := t.stt.cel q (mem_delC hq)
      exact ⟨u, by rw [upd_ne (delC_ne t.stt.nd hq)]; exact hu, c.mono e1⟩
    · rw [upd_ne (delC_ne t.stt.nd hq)]; exact t.stt.out q (mem_delC hq)
    · exact (List.Sublist.map _ (delC_sub cs p)).nodup t.stt.nd
/-- p told as d -/
inductive SubM (p : Addr) (d : Dv) : Mv → Mv → Prop
  | hit : SubM p d (.cel p) (.frz d)
  | same (m : Mv) : SubM p d m m
inductive SubMs (p : Addr) (d : Dv) : List Mv → List Mv → Prop
  | nil : SubMs p d [] []
  | cons {m n : Mv} {ms ns : List Mv} : SubM p d m n → SubMs p d ms ns → SubMs p d (m :: ms) (n :: ns)
  | same (l : List Mv) : SubMs p d l l
inductive SubMK {κ : Type} (p : Addr) (d : Dv) : List (κ × Mv) → List (κ × Mv) → Prop
  | nil : SubMK p d [] []
  | cons {k : κ} {m n : Mv} {ms ns : List (κ × Mv)} : SubM p d m n → SubMK p d ms ns → SubMK p d ((k, m) :: ms) ((k, n) :: ns)
  | same (l : List (κ × Mv)) : SubMK p d l l
inductive SubC1 (p : Addr) (d : Dv) : Cell → Cell → Prop
  | same (c : Cell) : SubC1 p d c c
  | lst {l k : List Mv} : SubMs p d l k → SubC1 p d (.lst l) (.lst k)
  | tup {l k : List Mv} : SubMs p d l k → SubC1 p d (.tup l) (.tup k)
  | dct {l k : List (Key × Mv)} : SubMK p d l k → SubC1 p d (.dct l) (.dct k)
  | ins {C : Addr} {l k : List (Str × Mv)} : SubMK p d l k → SubC1 p d (.ins C l) (.ins C k)
/-- the cells without p, p told as d in them -/
inductive SubC (p : Addr) (d : Dv) : Cs → Cs → Prop
  | nil : SubC p d [] []
  | hit {c : Cell} {r k : Cs} : SubC p d r k → SubC p d ((p, c) :: r) k
  | cons {q : Addr} {c c' : Cell} {r k : Cs} : SubC1 p d c c' → SubC p d r k → SubC p d ((q, c) :: r) ((q, c') :: k)
  | same (c : Cs) : SubC p d c c
inductive SubE (p : Addr) (d : Dv) : Env → Env → Prop
  | nil : SubE p d [] []
  | none {r k : Env} : SubE p d r k → SubE p d (none :: r) (none :: k)
  | cons {m n : Mv} {r k : Env} : SubM p d m n → SubE p d r k → SubE p d (some m :: r) (some n :: k)
  | same (r : Env) : SubE p d r r
/-- the cell at p, c, is the frozen d: left out, told as d elsewhere -/
inductive FrzR (p : Addr) (c : Cell) (d : Dv) : Cs → Cs → Prop
  | hit {r k : Cs} : SubC p d r k → FrzR p c d ((p, c) :: r) k
  | skip {q : Addr} {c1 c2 : Cell} {r k : Cs} : SubC1 p d c1 c2 → FrzR p c d r k → FrzR p c d ((q, c1) :: r) ((q, c2) :: k)
theorem FrzR.mem {p : Addr} {c : Cell} {d : Dv} {cs cs' : Cs} (h : FrzR p c d cs cs') : (p, c) ∈ cs := by
  induction h with
  | hit _ => exact List.mem_cons_self
  | skip _ _ ih => exact List.mem_cons_of_mem _ ih
theorem FrzR.sub {p : Addr} {c : Cell} {d : Dv} {cs cs' : Cs} (h : FrzR p c d cs cs') (nd : (ads cs).Nodup) : SubC p d (delC cs p) cs' := by
  induction h with
  | hit h => unfold delC; rw [if_pos rfl]; exact h
  | @skip q c1 c2 r k h1 h ih =>
    have nd' : q ∉ ads r ∧ (ads r).Nodup := List.nodup_cons.mp nd
    unfold delC
    rw [if_neg (fun e => nd'.1 (by rw [e]; exact mem_ads h.mem))]
    exact .cons h1 (ih nd'.2)
theorem SubM.rep {p : Addr} {d : Dv} {F : Hp} (hd : Rep F d (.ref p)) {m n : Mv} {v : V} (h : SubM p d m n) (r : RepM F m v) : RepM F n v := by
  cases h with
  | hit => have e : v = .ref p := r; rw [e]; exact hd
  | same => exact r
theorem SubMs.rep {p : Addr} {d : Dv} {F : Hp} (hd : Rep F d (.ref p)) {m n : List Mv} (h : SubMs p d m n) : ∀ {v : List V}, RepMs F m v → RepMs F n v := by
  induction h with
  | nil => intro v r; exact r
  | same => intro v r; exact r
  | cons h _ ih => intro v r; cases r with | cons a b => exact .cons (h.rep hd a) (ih b)
theorem SubMK.rep {κ : Type} {p : Addr} {d : Dv} {F : Hp} (hd : Rep F d (.ref p)) {m n : List (κ × Mv)} (h : SubMK p d m n) : ∀ {v : List (κ × V)}, RepMK F m v → RepMK F n v := by
  induction h with
  | nil => intro v r; exact r
  | same => intro v r; exact r
  | cons h _ ih => intro v r; cases r with | cons a b => exact .cons (h.rep hd a) (ih b)
theorem SubC1.rep {p : Addr} {d : Dv} {F : Hp} (hd : Rep F d (.ref p)) {m n : Cell} {o : HO} (h : SubC1 p d m n) (r : CRep F m o) : CRep F n o := by
  cases h with
  | same => exact r
  | lst h => obtain ⟨xs, e, r⟩ := r; exact ⟨xs, e, h.rep hd r⟩
  | tup h => obtain ⟨xs, e, r⟩ := r; exact ⟨xs, e, h.rep hd r⟩
  | dct h => obtain ⟨xs, e, r⟩ := r; exact ⟨xs, e, h.rep hd r⟩
  | ins h => obtain ⟨dx, xs, e, r⟩ := r; exact ⟨dx, xs, e, h.rep hd r⟩
theorem SubE.rep {p : Addr} {d : Dv} {F : Hp} (hd : Rep F d (.ref p)) {m n : Env} (h : SubE p d m n) : ∀ {σ : L2.St}, RepS F m σ → RepS F n σ := by
  induction h with
  | nil => intro v r; exact r
  | same => intro v r; exact r
  | @none r k h ih =>
    intro σ q
    cases σ with
    | nil => simp [RepS] at q
    | cons x σ =>
      have q' : RepS F r σ := ⟨by have := q.1; simpa using this, fun i m e => by simpa using q.2 (i + 1) m (by simpa using e)⟩
      have z := ih q'
      refine ⟨by simpa using z.1, fun i m e => ?_⟩
      cases i with
      | zero => simp at e
      | succ i => simpa using z.2 i m (by simpa using e)
  | @cons m n r k hm h ih =>
    intro σ q
    cases σ with
    | nil => simp [RepS] at q
    | cons x σ =>
      have q' : RepS F r σ := ⟨by have := q.1; simpa using this, fun i m e => by simpa using q.2 (i + 1) m (by simpa using e)⟩
      have z := ih q'
      refine ⟨by simpa using z.1, fun i m' e => ?_⟩
      cases i with
      | zero =>
        simp at e
        subst e
        obtain ⟨v, e1, r1⟩ := q.2 0 m (by simp)
        exact ⟨v, by simpa using e1, hm.rep hd r1⟩
      | succ i => simpa using z.2 i m' (by simpa using e)
theorem SubC.sub {p : Addr} {d : Dv} {m n : Cs} (h : SubC p d m n) : List.Sublist (ads n) (ads m) := by
  induction h with
  | nil => exact .slnil
  | same => exact List.Sublist.refl _
  | hit _ ih => exact ih.cons _
  | cons _ _ ih => exact ih.cons_cons _
theorem SubC.mem {p : Addr} {d : Dv} {m n : Cs} (h : SubC p d m n) {q : Addr × Cell} (hq : q ∈ n) : ∃ c, (q.1, c) ∈ m ∧ SubC1 p d c q.2 := by
  induction h with
  | nil => cases hq
  | same => exact ⟨q.2, hq, .same _⟩
  | hit _ ih => obtain ⟨c, h1, h2⟩ := ih hq; exact ⟨c, List.mem_cons_of_mem _ h1, h2⟩
  | cons h1 _ ih =>
    rcases List.mem_cons.mp hq with z | z
    · subst z; exact ⟨_, List.mem_cons_self, h1⟩
    · obtain ⟨c, h1, h2⟩ := ih z; exact ⟨c, List.mem_cons_of_mem _ h1, h2⟩
theorem At.subC {F H : Hp} {p : Addr} {d : Dv} {c : Cs} (hd : Rep F d (.ref p)) (t : At a F H cs) (h : SubC p d cs c) : At a F H c :=
  t.go ⟨Ex.refl _, fun b o e _ => e, fun b e => .inl e, fun b e => .inl (h.sub.subset e)⟩ ⟨t.stt.sub, fun q hq => by
    obtain ⟨c', h1, h2⟩ := h.mem hq
    obtain ⟨o, ho, r⟩ := t.stt.cel _ h1
    exact ⟨o, ho, h2.rep hd r⟩, fun q hq => by obtain ⟨c', h1, h2⟩ := h.mem hq; exact t.stt.out (q.1, c') h1, h.sub.nodup t.stt.nd⟩
/-- from here on the cell at p is the frozen d -/
theorem svs_frz (p : Addr) {c : Cell} {d : Dv} {ρ' : Env} {cs' : Cs} (hz : FzC c d) (hρ : SubE p d ρ ρ') (hc : FrzR p c d cs cs') (h : SVs a X sts ρ' cs' D) : SVs a X sts ρ cs D := .mk fun σ F H t s pins st I => by
  obtain ⟨F', H', I', t', e, r⟩ := freeze_ok I t hc.mem hz
  exact ((h.run σ F' H' (t'.subC r (hc.sub t.stt.nd)) (hρ.rep r (s.mono e))).mono (En.le e (DnLe.refl D))) pins st I'
/-- a value that freezes -/
theorem ev_frz (h : EV a X e ρ cs fun m c1 => ∃ p c d cs', m = .cel p ∧ FzC c d ∧ FrzR p c d c1 cs' ∧ Q (.frz d) cs') : EV a X e ρ cs Q := .mk fun σ F H t s pins st I => by
  refine thn (h.run σ F H t s pins st I) fun u s1 ⟨v, H1, I1, rv, z⟩ => ?_
  obtain ⟨F1, m, c1, e1, t1, r1, p, c, d, cs', rfl, hz, hc, q⟩ := z
  obtain ⟨F', H', I', t', e', r⟩ := freeze_ok I1 t1 hc.mem hz
  have ev : v = .ref p := r1
  subst ev
  exact ⟨_, H', I', rv, F', _, cs', e1.trans e', t'.subC r (hc.sub t1.stt.nd), (show RepM F' (.frz d) (.ref p) from r), q⟩
/-- cells, slots are forgotten -/
theorem svs_drop {cs' : Cs} (hs : List.Sublist cs' cs) (h : SVs a X sts ρ cs' D) : SVs a X sts ρ cs D := .mk fun σ F H t s => h.run σ F H (t.drop hs) s
theorem ev_drop {cs' : Cs} (hs : List.Sublist cs' cs) (h : EV a X e ρ cs' Q) : EV a X e ρ cs Q := .mk fun σ F H t s => h.run σ F H (t.drop hs) s
end

/-! ### what is walked -/
inductive ItM where
  | one (m : Mv) | two (x y : Mv)
def RepIt (F : Hp) : ItM → V → Prop
  | .one m, v => RepM F m v
  | .two x y, v => ∃ T vx vy, v = .ref T ∧ F T = some (.tup [vx, vy]) ∧ RepM F x vx ∧ RepM F y vy
structure WalkM (a : An) (F1 : Hp) (J : It) (its : List ItM) (G : Cs → Prop) : Prop where
  go : ∀ F H c i, Ex F1 F → At a F H c → G c → i < its.length → J.go i H
  yl : ∀ F H c i it x H', Ex F1 F → At a F H c → G c → its[i]? = some it → J.yld i H x H' → ∃ F2, Ex F F2 ∧ At a F2 H' c ∧ RepIt F2 it x
  st : ∀ F H c, Ex F1 F → At a F H c → G c → J.stop its.length H
def WI (X : Cx) (tg e : Expr) : TI := fun σ H R => ∀ (pins : List (Addr × Obj)) (s : Shared), Inv X pins σ H s →
  wpAny (model X.prog X.w) X.A (eval e X.env) (fun v s1 => wpAny (model X.prog X.w) X.A (pyIter v) (PIE X pins σ tg R) X.xe s1) X.xe s
theorem pi_ (X : Cx) (tg e : Expr) : PI X tg e (WI X tg e) := ⟨fun pins s _ _ _ I h => h pins s I⟩
theorem WI.of {X : Cx} {tg e : Expr} {wi : TI} (h : PI X tg e wi) {σ : L2.St} {H : Hp} {R : It → Hp → Prop} (q : wi σ H R) : WI X tg e σ H R := fun pins s I => h.run pins s σ H R I q
theorem WI.mono {X : Cx} {tg e : Expr} {σ : L2.St} {H : Hp} {R R' : It → Hp → Prop} (h : WI X tg e σ H R) (i : ∀ J H', R J H' → R' J H') : WI X tg e σ H R' := fun pins s I =>
  thn (h pins s I) fun _ _ z => thn z fun _ _ ⟨it, fp, tn, J, H', e, I', T, st, f, q⟩ => ⟨it, fp, tn, J, H', e, I', T, st, f, i J H' q⟩
def RtI (a : An) (F : Hp) (Q : List ItM → (Cs → Prop) → Cs → Prop) : It → Hp → Prop := fun J H' => ∃ F' c' its G, Ex F F' ∧ At a F' H' c' ∧ WalkM a F' J its G ∧ Q its G c'
structure IV (a : An) (X : Cx) (tg e : Expr) (ρ : Env) (cs : Cs) (Q : List ItM → (Cs → Prop) → Cs → Prop) : Prop where
  run : ∀ σ F H, At a F H cs → RepS F ρ σ → WI X tg e σ H (RtI a F Q)
structure GI (a : An) (X : Cx) (tg : Expr) (it : ItM) (ρ : Env) (cs : Cs) (QE : Env → Cs → Prop) : Prop where
  run : ∀ σ F H v, At a F H cs → RepS F ρ σ → RepIt F it v → WG X tg v σ H (RtS a F QE)
section
variable {a : An} {X : Cx} {ρ : Env} {cs : Cs} {Q : List ItM → (Cs → Prop) → Cs → Prop} {pos apos : Pos} {e tg l r b o : Expr} {es : List Expr} {QE : Env → Cs → Prop} {D : Dn} {sts : List Stmt}
theorem gi_one {m : Mv} (h : GV a X tg m ρ cs QE) : GI a X tg (.one m) ρ cs QE := .mk fun σ F H v t s r => h.run σ F H v t s r
theorem gi_two {t1 t2 : Expr} {k : Nat} {x y : Mv} (hc : X.calm = true) (hl : (assignEach [t1, t2] X.env).length = 2) (h : GVs a X [t1, t2] [x, y] ρ cs QE) (hst : (assignEach [t1, t2] X.env).findIdx? (·.1) = none := by rfl) : GI a X (.Tuple [t1, t2] k pos) (.two x y) ρ cs QE := .mk fun σ F H v t s r => by
  obtain ⟨T, vx, vy, rfl, hT, rx, ry⟩ := r
  exact WG.of (pg_tup hc (pgs _) hl hst) ⟨T, [vx, vy], rfl, SqT.of (t.stt.sub _ _ hT), rfl, h.run σ F H _ t s (.cons rx (.cons ry .nil))⟩
inductive LstM (cs : Cs) : Mv → List Mv → Prop
  | lst {l : List Dv} : LstM cs (.frz (.lst l)) (l.map Mv.frz)
  | cel {p : Addr} {l : List Mv} : (p, Cell.lst l) ∈ cs → LstM cs (.cel p) l
theorem LstM.sq {F H : Hp} (t : At a F H cs) {m : Mv} {ms : List Mv} {v : V} (h : LstM cs m ms) (r : RepM F m v) : ∃ p xs, v = .ref p ∧ H p = some (.lst xs) ∧ RepMs F ms xs := by
  cases h with
  | lst => cases r with | lst h q => exact ⟨_, _, rfl, t.stt.sub _ _ h, RepMs.of q⟩
  | cel hm =>
    obtain ⟨o, ho, xs, e, q⟩ := t.stt.cel _ hm
    rw [e] at ho
    exact ⟨_, xs, r, ho, q⟩
theorem TupM.sq {F H : Hp} (t : At a F H cs) {m : Mv} {ms : List Mv} {v : V} (h : TupM cs m ms) (r : RepM F m v) : ∃ p xs, v = .ref p ∧ H p = some (.tup xs) ∧ RepMs F ms xs := by
  cases h with
  | tup => cases r with | tup h q => exact ⟨_, _, rfl, t.stt.sub _ _ h, RepMs.of q⟩
  | cel hm =>
    obtain ⟨o, ho, xs, e, q⟩ := t.stt.cel _ hm
    rw [e] at ho
    exact ⟨_, xs, r, ho, q⟩
theorem sqL_eq {K : PySem.W.Frag} {H : Hp} {p : Addr} {xs ys : List V} {pins : List (Addr × Obj)} {σ : L2.St} {s : Shared} (h : H p = some (.lst xs)) (h' : Rd H p (.lst ys)) : xs = ys := by
  rcases h' with z | ⟨o, z⟩
  · rw [h] at z; cases z; rfl
  · rw [h] at z; cases z
theorem iv_list (h : EV a X e ρ cs fun m c1 => ∃ ms, LstM c1 m ms ∧ Q (ms.map ItM.one) (fun c => LstM c m ms) c1) : IV a X tg e ρ cs Q := .mk fun σ F H t s => by
  refine WI.of (pi_list (pe e)) ((h.run σ F H t s).mono fun v H1 z => ?_)
  obtain ⟨F1, m, c1, e1, t1, r1, ms, hl, q⟩ := z
  obtain ⟨p, xs, rfl, hp, rs⟩ := hl.sq t1 r1
  refine ⟨p, rfl, ⟨xs, SqL.of hp⟩, F1, c1, _, _, e1, t1, ⟨fun F2 H2 c i e2 t2 g hi => ?_, fun F2 H2 c i it x H' e2 t2 g hi y => ?_, fun F2 H2 c e2 t2 g => ?_⟩, q⟩
  · obtain ⟨p', ys, e3, hp', rs'⟩ := g.sq t2 (r1.mono e2)
    cases e3
    rw [List.length_map] at hi
    have hl2 := rs'.length
    exact ⟨ys, ys[i]'(by omega), SqL.of hp', by simp⟩
  · obtain ⟨p', ys, e3, hp', rs'⟩ := g.sq t2 (r1.mono e2)
    cases e3
    obtain ⟨rfl, y⟩ := y
    rw [List.getElem?_map] at hi
    obtain ⟨m', hm', rfl⟩ := Option.map_eq_some_iff.mp hi
    obtain ⟨v', hv', rv'⟩ := rs'.get hm'
    have hx := y ys (SqL.of hp')
    rw [hv'] at hx
    cases hx
    exact ⟨F2, Ex.refl _, t2, rv'⟩
  · obtain ⟨p', ys, e3, hp', rs'⟩ := g.sq t2 (r1.mono e2)
    cases e3
    have hl2 := rs'.length
    exact ⟨ys, SqL.of hp', by rw [List.length_map]; omega⟩
theorem iv_tup (h : EV a X e ρ cs fun m c1 => ∃ ms, TupM c1 m ms ∧ Q (ms.map ItM.one) (fun c => TupM c m ms) c1) : IV a X tg e ρ cs Q := .mk fun σ F H t s => by
  refine WI.of (pi_tup (pe e)) ((h.run σ F H t s).mono fun v H1 z => ?_)
  obtain ⟨F1, m, c1, e1, t1, r1, ms, hl, q⟩ := z
  obtain ⟨p, xs, rfl, hp, rs⟩ := hl.sq t1 r1
  refine ⟨p, rfl, ⟨xs, SqT.of hp⟩, F1, c1, _, _, e1, t1, ⟨fun F2 H2 c i e2 t2 g hi => ?_, fun F2 H2 c i it x H' e2 t2 g hi y => ?_, fun F2 H2 c e2 t2 g => ?_⟩, q⟩
  · obtain ⟨p', ys, e3, hp', rs'⟩ := g.sq t2 (r1.mono e2)
    cases e3
    rw [List.length_map] at hi
    have hl2 := rs'.length
    exact ⟨ys, ys[i]'(by omega), SqT.of hp', by simp⟩
  · obtain ⟨p', ys, e3, hp', rs'⟩ := g.sq t2 (r1.mono e2)
    cases e3
    obtain ⟨rfl, y⟩ := y
    rw [List.getElem?_map] at hi
    obtain ⟨m', hm', rfl⟩ := Option.map_eq_some_iff.mp hi
    obtain ⟨v', hv', rv'⟩ := rs'.get hm'
    have hx := y ys (SqT.of hp')
    rw [hv'] at hx
    cases hx
    exact ⟨F2, Ex.refl _, t2, rv'⟩
  · obtain ⟨p', ys, e3, hp', rs'⟩ := g.sq t2 (r1.mono e2)
    cases e3
    have hl2 := rs'.length
    exact ⟨ys, SqT.of hp', by rw [List.length_map]; omega⟩
theorem walk_rng {F1 : Hp} {lo : Int} {n : Nat} : WalkM a F1 (Itr lo n) ((List.range n).map fun i => ItM.one (.frz (.int (lo + (i : Nat))))) (fun _ => True) := by
  refine ⟨fun F2 H2 c i e2 t2 g hi => ?_, fun F2 H2 c i it x H' e2 t2 g hi y => ?_, fun F2 H2 c e2 t2 g => ?_⟩
  · show i < n
    simpa using hi
  · obtain ⟨rfl, rfl⟩ := y
    rw [List.getElem?_map] at hi
    obtain ⟨j, hj, rfl⟩ := Option.map_eq_some_iff.mp hi
    have : j = i := by
      have := List.getElem?_eq_some_iff.mp hj
      obtain ⟨h1, h2⟩ := this
      simpa using h2.symm
    subst this
    exact ⟨F2, Ex.refl _, t2, Rep.int _⟩
  · simp [Itr]
theorem iv_range1 {p : Pos} (hg : Gl X "range") (hm : X.mg "range" = none) (h : EV a X e ρ cs fun m c1 => ∃ n : Int, m = .frz (.int n) ∧ n < 2 ^ 62 ∧ -(2 ^ 62) ≤ n ∧ Q ((List.range n.toNat).map fun i => ItM.one (.frz (.int (i : Nat)))) (fun _ => True) c1)
    (hs : starEach [e] X.env = [(false, eval e X.env)] := by rfl) : IV a X tg (.Call (.Name "range" p) [e] [] pos) ρ cs Q := .mk fun σ F H t s => by
  refine WI.of (pi_range1 hg hm (pa_cons (pe e) pa_nil hs) hs) ((h.run σ F H t s).mono fun v H1 z => ?_)
  obtain ⟨F1, m, c1, e1, t1, r1, n, rfl, h1, h2, q⟩ := z
  cases r1.int
  refine ⟨n, rfl, h2, h1, F1, c1, _, _, e1, t1, walk_rng, ?_⟩
  have e : (fun i : Nat => ItM.one (.frz (.int (0 + (i : Nat))))) = fun i : Nat => ItM.one (.frz (.int (i : Nat))) := by funext i; rw [Int.zero_add]
  rw [e]
  exact q
theorem iv_range2 {p : Pos} (hg : Gl X "range") (hm : X.mg "range" = none) (h : EV a X l ρ cs fun m c1 => EV a X r ρ c1 fun m' c2 => ∃ lo hi : Int, m = .frz (.int lo) ∧ m' = .frz (.int hi) ∧ (-(2 ^ 62) ≤ lo ∧ lo < 2 ^ 62 ∧ -(2 ^ 62) ≤ hi ∧ hi < 2 ^ 62) ∧
      Q ((List.range (hi - lo).toNat).map fun i => ItM.one (.frz (.int (lo + (i : Nat))))) (fun _ => True) c2)
    (hs : starEach [l, r] X.env = [(false, eval l X.env), (false, eval r X.env)] := by rfl) (hs2 : starEach [r] X.env = [(false, eval r X.env)] := by rfl) : IV a X tg (.Call (.Name "range" p) [l, r] [] pos) ρ cs Q := .mk fun σ F H t s => by
  refine WI.of (pi_range2 hg hm (pa_cons (pe l) (pa_cons (pe r) pa_nil hs2) (by rw [hs, hs2])) hs hs2) ((h.run σ F H t s).mono fun v H1 z => ?_)
  obtain ⟨F1, m, c1, e1, t1, r1, z⟩ := z
  refine (z.run σ F1 H1 t1 (s.mono e1)).mono fun u H2 z => ?_
  obtain ⟨F2, m', c2, e2, t2, r2, lo, hi, rfl, rfl, hb, q⟩ := z
  cases r1.int; cases r2.int
  exact ⟨lo, hi, rfl, hb, F2, c2, _, _, e1.trans e2, t2, walk_rng, q⟩
/-- for tg in e: sts -/
theorem sv_for (hp : PassesOwn (model X.prog X.w) X.A X.env X.xe) (hc : X.calm = true)
    (h : IV a X tg e ρ cs fun its G c1 => ∃ P : Nat → Env → Cs → Prop, P 0 ρ c1 ∧ (∀ i ρ' c', i ≤ its.length → P i ρ' c' → G c') ∧
      (∀ i it ρ' c', its[i]? = some it → P i ρ' c' → GI a X tg it ρ' c' fun ρ2 c2 => SVs a X sts ρ2 c2 { nx := P (i + 1), rt := D.rt, bk := D.nx, ct := P (i + 1) }) ∧ ∀ ρ' c', P its.length ρ' c' → D.nx ρ' c')
    (hs : ∀ x, foldedSetIterable e X.env x = pure x := by intro _; rfl) : SV a X (.For tg e sts [] pos) ρ cs D := .mk fun σ F H t s => by
  refine WS.of (ps_for hp hc (pi_ X tg e) (pg tg) (pss sts) hs) ((h.run σ F H t s).mono fun J H1 z => ?_)
  obtain ⟨F1, c1, its, G, e1, t1, wk, P, p0, pG, step, done⟩ := z
  refine ⟨fun i m σ' H' => m = its.length - i ∧ i ≤ its.length ∧ ∃ F2 ρ2 c2, Ex F1 F2 ∧ At a F2 H' c2 ∧ RepS F2 ρ2 σ' ∧ P i ρ2 c2, ⟨its.length, by omega, by omega, F1, ρ, c1, Ex.refl _, t1, s.mono e1, p0⟩, ?_⟩
  rintro i m σ' H' ⟨rfl, hi, F2, ρ2, c2, e2, t2, s2, p2⟩
  by_cases hlt : i < its.length
  · refine .inr ⟨wk.go F2 H' c2 i e2 t2 (pG i ρ2 c2 hi p2) hlt, fun σ' H' => ∃ F2 ρ2 c2, Ex F1 F2 ∧ At a F2 H' c2 ∧ RepS F2 ρ2 σ' ∧ P (i + 1) ρ2 c2, fun σ' H' z => ⟨its.length - (i + 1), by omega, rfl, hlt, z⟩, fun x H3 y => ?_⟩
    have hit : its[i]? = some its[i] := by simp [hlt]
    obtain ⟨F3, e3, t3, r3⟩ := wk.yl F2 H' c2 i _ x H3 e2 t2 (pG i ρ2 c2 hi p2) hit y
    refine ((step i _ ρ2 c2 hit p2).run σ' F3 H3 x t3 (s2.mono e3) r3).mono fun σ4 H4 z => ?_
    obtain ⟨F4, ρ4, c4, e4, t4, s4, q4⟩ := z
    have e14 : Ex F1 F4 := (e2.trans e3).trans e4
    refine (q4.run σ4 F4 H4 t4 s4).mono ⟨fun σ5 H5 z => ?_, fun v H5 z => Rt.up (e1.trans e14) (fun _ _ q => q) z, fun σ5 H5 z => RtS.up (e1.trans e14) (fun _ _ q => q) z, fun σ5 H5 z => ?_⟩
    · obtain ⟨F5, ρ5, c5, e5, t5, s5, q5⟩ := z
      exact ⟨F5, ρ5, c5, e14.trans e5, t5, s5, q5⟩
    · obtain ⟨F5, ρ5, c5, e5, t5, s5, q5⟩ := z
      exact ⟨F5, ρ5, c5, e14.trans e5, t5, s5, q5⟩
  · have ei : i = its.length := by omega
    subst ei
    exact .inl ⟨wk.st F2 H' c2 e2 t2 (pG _ ρ2 c2 hi p2), F2, ρ2, c2, e1.trans e2, t2, s2, done ρ2 c2 p2⟩
/-- while e: sts -/
theorem sv_while (hp : PassesOwn (model X.prog X.w) X.A X.env X.xe) (P : Nat → Env → Cs → Prop) (m0 : Nat) (h0 : P m0 ρ cs)
    (h : ∀ m ρ' c', P m ρ' c' → TV a X e ρ' c' fun k c1 => (k = true → SVs a X sts ρ' c1 { nx := fun ρ2 c2 => ∃ m', m' < m ∧ P m' ρ2 c2, rt := D.rt, bk := D.nx, ct := fun ρ2 c2 => ∃ m', m' < m ∧ P m' ρ2 c2 }) ∧ (k = false → D.nx ρ' c1)) : SV a X (.While e sts [] pos) ρ cs D := .mk fun σ F H t s => by
  refine WS.of (ps_while hp (pt e) (pss sts)) ⟨fun m σ' H' => ∃ F2 ρ2 c2, Ex F F2 ∧ At a F2 H' c2 ∧ RepS F2 ρ2 σ' ∧ P m ρ2 c2, ⟨m0, F, ρ, cs, Ex.refl _, t, s, h0⟩, ?_⟩
  rintro m σ' H' ⟨F2, ρ2, c2, e2, t2, s2, p2⟩
  refine ((h m ρ2 c2 p2).run σ' F2 H' t2 s2).mono fun k H3 z => ?_
  obtain ⟨F3, c3, e3, t3, k1, k2⟩ := z
  cases k with
  | true =>
    rw [if_pos rfl]
    refine ⟨fun σ4 H4 => ∃ m', m' < m ∧ ∃ F2 ρ2 c2, Ex F F2 ∧ At a F2 H4 c2 ∧ RepS F2 ρ2 σ4 ∧ P m' ρ2 c2, fun σ4 H4 z => z, ((k1 rfl).run σ' F3 H3 t3 (s2.mono e3)).mono ⟨fun σ5 H5 z => ?_, fun v H5 z => Rt.up (e2.trans e3) (fun _ _ q => q) z, fun σ5 H5 z => RtS.up (e2.trans e3) (fun _ _ q => q) z, fun σ5 H5 z => ?_⟩⟩
    · obtain ⟨F5, ρ5, c5, e5, t5, s5, m', hm', q5⟩ := z
      exact ⟨m', hm', F5, ρ5, c5, (e2.trans e3).trans e5, t5, s5, q5⟩
    · obtain ⟨F5, ρ5, c5, e5, t5, s5, m', hm', q5⟩ := z
      exact ⟨m', hm', F5, ρ5, c5, (e2.trans e3).trans e5, t5, s5, q5⟩
  | false =>
    rw [if_neg Bool.false_ne_true]
    exact ⟨F3, ρ2, c3, e2.trans e3, t3, s2.mono e3, k2 rfl⟩
end
end Z

/-! Zc: list comprehensions. -/
namespace Z
open PySem PySem.Spec PyProof.Rows L2

def wipeE (ρ : Env) : List Nat → Env
  | [] => ρ
  | v :: vs => (wipeE ρ vs).set v none
theorem RepS.unset {F : Hp} {ρ : Env} {σ : L2.St} (h : RepS F ρ σ) (i : Nat) : RepS F (ρ.set i none) (σ.set i none) := by
  refine ⟨by rw [List.length_set, List.length_set]; exact h.1, fun j n q => ?_⟩
  by_cases hj : i = j
  · subst hj
    by_cases hl : i < ρ.length
    · rw [List.getElem?_set_self hl] at q; cases q
    · rw [List.getElem?_eq_none (by rw [List.length_set]; omega)] at q; cases q
  · rw [List.getElem?_set_ne hj] at q
    obtain ⟨u, a, r'⟩ := h.2 j n q
    exact ⟨u, by rw [List.getElem?_set_ne hj]; exact a, r'⟩
theorem RepS.wipe {F : Hp} {ρ : Env} {σ : L2.St} (h : RepS F ρ σ) : ∀ vs : List Nat, RepS F (wipeE ρ vs) (wipe σ vs)
  | [] => h
  | v :: vs => (RepS.wipe h vs).unset v
theorem wipe_set {σ : L2.St} {x : Option V} {j : Nat} : ∀ {vs : List Nat}, j ∈ vs → wipe (σ.set j x) vs = wipe σ vs
  | v :: vs, h => by
    unfold wipe
    by_cases e : j ∈ vs
    · rw [wipe_set e]
    · have ev : j = v := by
        rcases List.mem_cons.mp h with z | z
        · exact z
        · exact absurd z e
      subst ev
      have : ∀ ws : List Nat, (wipe (σ.set j x) ws).set j none = (wipe σ ws).set j none := by
        intro ws
        induction ws with
        | nil => unfold wipe; rw [List.set_set]
        | cons w ws ih =>
          unfold wipe
          by_cases e : w = j
          · subst e; rw [List.set_set, List.set_set]; exact ih
          · rw [List.set_comm _ _ e, List.set_comm _ _ e, ih]
      exact this vs
theorem wipe_wipe {σ : L2.St} {vs : List Nat} : wipe (wipe σ vs) vs = wipe σ vs := by
  have : ∀ ws : List Nat, (∀ w ∈ ws, w ∈ vs) → wipe (wipe σ ws) vs = wipe σ vs := by
    intro ws
    induction ws with
    | nil => intro _; rfl
    | cons w ws ih =>
      intro h
      show wipe ((wipe σ ws).set w none) vs = wipe σ vs
      rw [wipe_set (h w List.mem_cons_self), ih fun x hx => h x (List.mem_cons_of_mem _ hx)]
  exact this vs fun _ h => h
section
variable {a : An} {X : Cx} {ρ : Env} {cs : Cs} {Q : Mv → Cs → Prop} {pos spos : Pos} {e tg elt iter c : Expr} {scope : Scope} {own : List (Str × Nat)} {D : Dn}
/-- the comprehension's block -/
abbrev Blk (X : Cx) (scope : Scope) (s : Shared) (H : Hp) (C : Addr) (cl : List (Str × Addr)) (fp : List Addr) : Cx := X.blk s H scope (compEnvC scope cl C X.env) fp
def teB (X : Cx) (scope : Scope) (e : Expr) : TE := fun σ H Q => ∀ s0 H0 C cl fp, WE (Blk X scope s0 H0 C cl fp) e σ H Q
def ttB (X : Cx) (scope : Scope) (e : Expr) : TT := fun σ H Q => ∀ s0 H0 C cl fp, WT (Blk X scope s0 H0 C cl fp) e σ H Q
theorem pe_B {s0 H0 C cl fp} : PE (Blk X scope s0 H0 C cl fp) e (teB X scope e) := ⟨fun pins s σ H Q I h => h _ _ _ _ _ pins s I⟩
theorem pt_B {s0 H0 C cl fp} : PT (Blk X scope s0 H0 C cl fp) e (ttB X scope e) := ⟨fun pins s σ H Q I h => h _ _ _ _ _ pins s I⟩
/-- what a turn's tests ask: none, one -/
inductive Ifs | none | one (c : Expr)
def Ifs.l : Ifs → List Expr
  | .none => []
  | .one c => [c]
def Ifs.tt (X : Cx) (scope : Scope) : Ifs → TT
  | .none => tYes
  | .one c => ttB X scope c
theorem Ifs.ok {i : Ifs} {s0 H0 C cl fp} : PTs (Blk X scope s0 H0 C cl fp) i.l (i.tt X scope) := by
  cases i with
  | none => exact pts_nil
  | one c => exact pts_one pt_B
def Ifs.TV (a : An) (X : Cx) (scope : Scope) (i : Ifs) (ρ : Env) (cs : Cs) (Q : Bool → Cs → Prop) : Prop := match i with
  | .none => Q true cs
  | .one c => ∀ s0 H0 C cl fp, Z.TV a (Blk X scope s0 H0 C cl fp) c ρ cs Q
theorem Ifs.run {i : Ifs} {ρ : Env} {cs : Cs} {Q : Bool → Cs → Prop} (h : i.TV a X scope ρ cs Q) {σ : L2.St} {F H : Hp} (t : At a F H cs) (s : RepS F ρ σ) {R : Bool → Hp → Prop} (k : ∀ b H', RtT a F Q b H' → R b H') : i.tt X scope σ H R := by
  cases i with
  | none => exact k true H ⟨F, cs, Ex.refl _, t, h⟩
  | one c => exact fun s0 H0 C cl fp => ((h s0 H0 C cl fp).run σ F H t s).mono k
/-- one turn over the item it, in the frame ρ2 (its own names stored) -/
def LcTurn (a : An) (X : Cx) (scope : Scope) (i : Ifs) (elt : Expr) (L : Addr) (ρ2 : Env) (acc : List Mv) (c : Cs) (N : List Mv → Cs → Prop) : Prop :=
  i.TV a X scope ρ2 ((L, .lst acc) :: c) fun b c2 => (b = true → ∀ s0 H0 C cl fp, EV a (Blk X scope s0 H0 C cl fp) elt ρ2 c2 fun y c3 => ∃ c', c3 = (L, .lst acc) :: c' ∧ acc.length < 100000 ∧ N (acc ++ [y]) c') ∧ (b = false → ∃ c', c2 = (L, .lst acc) :: c' ∧ N acc c')
theorem lcturn_run {i : Ifs} {L : Addr} {ρ2 : Env} {acc : List Mv} {c : Cs} {N : List Mv → Cs → Prop} (h : LcTurn a X scope i elt L ρ2 acc c N) {σ : L2.St} {F H : Hp} (t : At a F H ((L, .lst acc) :: c)) (s : RepS F ρ2 σ) {Nx : Hp → Prop}
    (k : ∀ F' H' acc' c', Ex F F' → At a F' H' ((L, .lst acc') :: c') → N acc' c' → Nx H') : i.tt X scope σ H fun b H3 => if b = true then teB X scope elt σ H3 fun y H4 => ∃ av, H4 L = some (.lst av) ∧ av.length < sizeLine ∧ Nx (upd H4 L (.lst (av ++ [y]))) else Nx H3 := by
  refine Ifs.run h t s fun b H3 z => ?_
  obtain ⟨F3, c3, e3, t3, k1, k2⟩ := z
  cases b with
  | true =>
    rw [if_pos rfl]
    intro s0 H0 C cl fp
    refine ((k1 rfl s0 H0 C cl fp).run σ F3 H3 t3 (s.mono e3)).mono fun y H4 z => ?_
    obtain ⟨F4, m, c4, e4, t4, r4, c', rfl, hl, n⟩ := z
    obtain ⟨o', ho, xs, e', q⟩ := t4.stt.cel _ List.mem_cons_self
    rw [e'] at ho
    refine ⟨xs, ho, by rw [← q.length]; exact Nat.lt_of_lt_of_le hl (by decide), k F4 _ _ _ (e3.trans e4) ?_ n⟩
    have t5 := t4.setC (p := L) (c0 := .lst acc) (c := .lst (acc ++ [m])) (o := .lst (xs ++ [y])) List.mem_cons_self ⟨_, rfl, q.append (.cons r4 .nil)⟩
    simpa [Z.setC] using t5
  | false =>
    rw [if_neg Bool.false_ne_true]
    obtain ⟨c', rfl, n⟩ := k2 rfl
    exact k F3 H3 _ _ e3 t3 n
/-- what the loop over the items asks -/
def LcLoop (a : An) (its : List ItM) (G : Cs → Prop) (L : Addr) (c1 : Cs) (turn : ItM → List Mv → Cs → (List Mv → Cs → Prop) → Prop) (Q : Mv → Cs → Prop) : Prop :=
  ∃ P : Nat → List Mv → Cs → Prop, P 0 [] c1 ∧ (∀ i acc c, i ≤ its.length → P i acc c → G ((L, .lst acc) :: c)) ∧ (∀ i it acc c, its[i]? = some it → P i acc c → turn it acc c (P (i + 1))) ∧ ∀ acc c, P its.length acc c → Q (.cel L) ((L, .lst acc) :: c)
theorem lc_read {i : Ifs} {g : TG} {vs : List Nat} {turn : Addr → ItM → List Mv → Cs → (List Mv → Cs → Prop) → Prop} {σ : L2.St} {F H : Hp} {R : VK} (kR : ∀ v H', Rt a F Q v H' → R v H') (t : At a F H cs) (s : RepS F ρ σ)
    (h : IV a X tg iter ρ cs fun its G c1 => ∀ L, L ∉ ads c1 → LcLoop a its G L c1 (turn L) Q)
    (hg : ∀ (L : Addr) (it : ItM) (acc : List Mv) (c : Cs) (N : List Mv → Cs → Prop) (σ : L2.St) (F H : Hp) (x : V) (Nx : Hp → Prop), turn L it acc c N → At a F H ((L, .lst acc) :: c) → RepS F (wipeE ρ vs) (wipe σ vs) → RepIt F it x → (∀ F' H' acc' c', Ex F F' → At a F' H' ((L, .lst acc') :: c') → N acc' c' → Nx H') →
      g x (wipe σ vs) H fun σ2 H2 => wipe σ2 vs = wipe σ vs ∧ i.tt X scope σ2 H2 fun b H3 => if b = true then teB X scope elt σ2 H3 fun y H4 => ∃ av, H4 L = some (.lst av) ∧ av.length < sizeLine ∧ Nx (upd H4 L (.lst (av ++ [y]))) else Nx H3) :
    tLc (WI X tg iter) g (i.tt X scope) (teB X scope elt) vs σ H R := by
  refine (h.run σ F H t s).mono fun J H1 z => ?_
  obtain ⟨F1, c1, its, G, e1, t1, wk, lp⟩ := z
  intro L hL
  obtain ⟨P, p0, pG, step, done⟩ := lp L (t1.stt.fresh hL)
  refine ⟨fun i m H' => m = its.length - i ∧ i ≤ its.length ∧ ∃ F2 acc c2, Ex F1 F2 ∧ At a F2 H' ((L, .lst acc) :: c2) ∧ P i acc c2, ⟨its.length, by omega, by omega, F1, [], c1, Ex.refl _, t1.newC hL ⟨[], rfl, .nil⟩, p0⟩, ?_⟩
  rintro j m H' ⟨rfl, hj, F2, acc, c2, e2, t2, p2⟩
  by_cases hlt : j < its.length
  · refine .inr ⟨wk.go F2 H' _ j e2 t2 (pG j acc c2 hj p2) hlt, fun H' => ∃ F2 acc c2, Ex F1 F2 ∧ At a F2 H' ((L, .lst acc) :: c2) ∧ P (j + 1) acc c2, fun H' z => ⟨its.length - (j + 1), by omega, rfl, hlt, z⟩, fun x H3 y => ?_⟩
    have hit : its[j]? = some its[j] := by simp [hlt]
    obtain ⟨F3, e3, t3, r3⟩ := wk.yl F2 H' _ j _ x H3 e2 t2 (pG j acc c2 hj p2) hit y
    exact hg L _ acc c2 _ σ F3 H3 x _ (step j _ acc c2 hit p2) t3 ((s.mono (((e1.trans e2).trans e3))).wipe vs) r3 fun F' H' acc' c' e' t' n => ⟨F', acc', c', (e2.trans e3).trans e', t', n⟩
  · have ej : j = its.length := by omega
    subst ej
    exact .inl ⟨wk.st F2 H' _ e2 t2 (pG _ acc c2 hj p2), kR _ _ (rt_at (e1.trans e2) t2 (m := .cel L) rfl (done acc c2 p2))⟩
/-- the turn where the target is the name in slot j -/
def turn1 (a : An) (X : Cx) (scope : Scope) (i : Ifs) (elt : Expr) (ρ : Env) (vs : List Nat) (j : Nat) (L : Addr) : ItM → List Mv → Cs → (List Mv → Cs → Prop) → Prop := fun it acc c N => ∃ m, it = .one m ∧ LcTurn a X scope i elt L ((wipeE ρ vs).set j (some m)) acc c N
/-- the target two names; the item a new pair, or a tuple of two -/
def turn2 (a : An) (X : Cx) (scope : Scope) (i : Ifs) (elt : Expr) (ρ : Env) (vs : List Nat) (j k : Nat) (L : Addr) : ItM → List Mv → Cs → (List Mv → Cs → Prop) → Prop := fun it acc c N =>
  ∃ m n, (it = .two m n ∨ ∃ t, it = .one t ∧ TupM ((L, .lst acc) :: c) t [m, n]) ∧ LcTurn a X scope i elt L (((wipeE ρ vs).set j (some m)).set k (some n)) acc c N
theorem lc_read1 {i : Ifs} {j : Nat} {vs : List Nat} {σ : L2.St} {F H : Hp} {R : VK} (kR : ∀ v H', Rt a F Q v H' → R v H') (hj : j ∈ vs) (t : At a F H cs) (s : RepS F ρ σ) (h : IV a X tg iter ρ cs fun its G c1 => ∀ L, L ∉ ads c1 → LcLoop a its G L c1 (turn1 a X scope i elt ρ vs j L) Q) :
    tLc (WI X tg iter) (gName j) (i.tt X scope) (teB X scope elt) vs σ H R := by
  refine lc_read kR t s h fun L it acc c N σ F H x Nx tn t' s' r k => ?_
  obtain ⟨m, rfl, tn⟩ := tn
  exact ⟨by rw [wipe_set hj, wipe_wipe], lcturn_run tn t' (s'.set r) k⟩
theorem lc_read2 {i : Ifs} {j k : Nat} {vs : List Nat} {σ : L2.St} {F H : Hp} {R : VK} (kR : ∀ v H', Rt a F Q v H' → R v H') (hj : j ∈ vs) (hk : k ∈ vs) (t : At a F H cs) (s : RepS F ρ σ) (h : IV a X tg iter ρ cs fun its G c1 => ∀ L, L ∉ ads c1 → LcLoop a its G L c1 (turn2 a X scope i elt ρ vs j k L) Q) :
    tLc (WI X tg iter) (gTup X.K 2 (gCons (gName j) (gCons (gName k) gNil))) (i.tt X scope) (teB X scope elt) vs σ H R := by
  refine lc_read kR t s h fun L it acc c N σ F H x Nx tn t' s' r kk => ?_
  obtain ⟨m, n, hit, tn⟩ := tn
  have fin : ∀ vx vy, RepM F m vx → RepM F n vy → (gCons (gName j) (gCons (gName k) gNil)) [vx, vy] (wipe σ vs) H fun σ2 H2 => wipe σ2 vs = wipe σ vs ∧ i.tt X scope σ2 H2 fun b H3 => if b = true then teB X scope elt σ2 H3 fun y H4 => ∃ av, H4 L = some (.lst av) ∧ av.length < sizeLine ∧ Nx (upd H4 L (.lst (av ++ [y]))) else Nx H3 :=
    fun vx vy rx ry => ⟨vx, [vy], rfl, vy, [], rfl, rfl, by rw [wipe_set hk, wipe_set hj, wipe_wipe], lcturn_run tn t' ((s'.set rx).set ry) kk⟩
  rcases hit with rfl | ⟨tt, rfl, hm⟩
  · obtain ⟨T, vx, vy, rfl, hT, rx, ry⟩ := r
    exact ⟨T, [vx, vy], rfl, SqT.of (t'.stt.sub _ _ hT), rfl, fin vx vy rx ry⟩
  · obtain ⟨p, xs, rfl, hp, rs⟩ := hm.sq t' r
    cases rs with
    | cons rx rs =>
      cases rs with
      | cons ry rs =>
        cases rs
        exact ⟨p, _, rfl, SqT.of hp, rfl, fin _ _ rx ry⟩
/-! the rules: the name at slot j; two names at slots j, k; .. behind «y =» -/
theorem ev_lc1 (i : Ifs) {j : Nat} {x : Str} {px : Pos} (hc : X.calm = true) (hN : X.N.Nodup) (ok : BlkOk X.N X.env.scope scope own) (hj : X.N[j]? = some x) (hjo : j ∈ own.map (·.2))
    (h : IV a X (.Name x px) iter ρ cs fun its G c1 => ∀ L, L ∉ ads c1 → LcLoop a its G L c1 (turn1 a X scope i elt ρ (own.map (·.2)) j L) Q)
    (hg : ∀ s0 H0 C cl fp, PG (Blk X scope s0 H0 C cl fp) (.Name x px) (gName j)) (hs : ∀ x, foldedSetIterable iter X.env x = pure x := by intro _; rfl) : EV a X (.ListComp elt [⟨.Name x px, iter, i.l, 0⟩] scope pos) ρ cs Q := .mk fun σ F H t s =>
  WE.of (pe_lc hc hN (pi_ X _ iter) ok (fun _ _ _ _ _ => hg _ _ _ _ _) (fun _ _ _ _ _ => Ifs.ok) (fun _ _ _ _ _ => pe_B) hs) (lc_read1 (fun _ _ z => z) hjo t s h)
theorem ev_lc2 (i : Ifs) {j k : Nat} (hc : X.calm = true) (hN : X.N.Nodup) (ok : BlkOk X.N X.env.scope scope own) (hjo : j ∈ own.map (·.2)) (hko : k ∈ own.map (·.2))
    (h : IV a X tg iter ρ cs fun its G c1 => ∀ L, L ∉ ads c1 → LcLoop a its G L c1 (turn2 a X scope i elt ρ (own.map (·.2)) j k L) Q)
    (hg : ∀ s0 H0 C cl fp, PG (Blk X scope s0 H0 C cl fp) tg (gTup X.K 2 (gCons (gName j) (gCons (gName k) gNil)))) (hs : ∀ x, foldedSetIterable iter X.env x = pure x := by intro _; rfl) : EV a X (.ListComp elt [⟨tg, iter, i.l, 0⟩] scope pos) ρ cs Q := .mk fun σ F H t s =>
  WE.of (pe_lc hc hN (pi_ X _ iter) ok (fun _ _ _ _ _ => hg _ _ _ _ _) (fun _ _ _ _ _ => Ifs.ok) (fun _ _ _ _ _ => pe_B) hs) (lc_read2 (fun _ _ z => z) hjo hko t s h)
theorem sv_setLc1 (i : Ifs) (iy : Nat) {y : Str} {py : Pos} {j : Nat} {x : Str} {px : Pos} (hc : X.calm = true) (hN : X.N.Nodup) (hy : X.N[iy]? = some y) (hyl : X.env.scope.names.lookup y = some .local)
    (hsw : swapsWith (.ListComp elt [⟨.Name x px, iter, i.l, 0⟩] scope pos) (some (.Name y py)) spos.line X.env = pure true) (ok : BlkOk X.N X.env.scope scope own) (hjo : j ∈ own.map (·.2))
    (h : IV a X (.Name x px) iter ρ cs fun its G c1 => ∀ L, L ∉ ads c1 → LcLoop a its G L c1 (turn1 a X scope i elt ρ (own.map (·.2)) j L) fun m c => D.nx (ρ.set iy (some m)) c)
    (hg : ∀ s0 H0 C cl fp, PG (Blk X scope s0 H0 C cl fp) (.Name x px) (gName j)) (hs : ∀ x, foldedSetIterable iter X.env x = pure x := by intro _; rfl) : SV a X (.Assign [.Name y py] (.ListComp elt [⟨.Name x px, iter, i.l, 0⟩] scope pos) spos) ρ cs D := .mk fun σ F H t s => by
  refine WS.of (ps_setLc hc hN hy hyl hsw (pi_ X _ iter) ok (fun _ _ _ _ _ => hg _ _ _ _ _) (fun _ _ _ _ _ => Ifs.ok) (fun _ _ _ _ _ => pe_B) hs) ?_
  refine lc_read1 (fun v H' z => ?_) hjo t s h
  obtain ⟨F', m, c', e, t', r, q⟩ := z
  exact ⟨F', _, c', e, t', (s.mono e).set r, q⟩
theorem sv_setLc2 (i : Ifs) (iy : Nat) {y : Str} {py : Pos} {j k : Nat} (hc : X.calm = true) (hN : X.N.Nodup) (hy : X.N[iy]? = some y) (hyl : X.env.scope.names.lookup y = some .local)
    (hsw : swapsWith (.ListComp elt [⟨tg, iter, i.l, 0⟩] scope pos) (some (.Name y py)) spos.line X.env = pure true) (ok : BlkOk X.N X.env.scope scope own) (hjo : j ∈ own.map (·.2)) (hko : k ∈ own.map (·.2))
    (h : IV a X tg iter ρ cs fun its G c1 => ∀ L, L ∉ ads c1 → LcLoop a its G L c1 (turn2 a X scope i elt ρ (own.map (·.2)) j k L) fun m c => D.nx (ρ.set iy (some m)) c)
    (hg : ∀ s0 H0 C cl fp, PG (Blk X scope s0 H0 C cl fp) tg (gTup X.K 2 (gCons (gName j) (gCons (gName k) gNil)))) (hs : ∀ x, foldedSetIterable iter X.env x = pure x := by intro _; rfl) : SV a X (.Assign [.Name y py] (.ListComp elt [⟨tg, iter, i.l, 0⟩] scope pos) spos) ρ cs D := .mk fun σ F H t s => by
  refine WS.of (ps_setLc hc hN hy hyl hsw (pi_ X _ iter) ok (fun _ _ _ _ _ => hg _ _ _ _ _) (fun _ _ _ _ _ => Ifs.ok) (fun _ _ _ _ _ => pe_B) hs) ?_
  refine lc_read2 (fun v H' z => ?_) hjo hko t s h
  obtain ⟨F', m, c', e, t', r, q⟩ := z
  exact ⟨F', _, c', e, t', (s.mono e).set r, q⟩
end
/-- the items one by one: kept by k, told by g; the cells as they were -/
theorem lcloop_fn {a : An} {α : Type} {G : Cs → Prop} {L : Addr} {c1 : Cs} {turn : ItM → List Mv → Cs → (List Mv → Cs → Prop) → Prop} {Q : Mv → Cs → Prop} (items : List α) (it : α → ItM) (k : α → Bool) (g : α → Mv) (hG : ∀ acc, G ((L, .lst acc) :: c1))
    (ht : ∀ x ∈ items, ∀ acc : List Mv, acc.length ≤ items.length → turn (it x) acc c1 fun acc' c' => acc' = acc ++ (if k x = true then [g x] else []) ∧ c' = c1) (q : Q (.cel L) ((L, .lst ((items.filter k).map g)) :: c1)) : LcLoop a (items.map it) G L c1 turn Q := by
  refine ⟨fun i acc c => acc = ((items.take i).filter k).map g ∧ c = c1, ⟨by simp, rfl⟩, fun i acc c _ h => ?_, fun i x acc c hx h => ?_, fun acc c h => ?_⟩
  · rw [h.2]; exact hG acc
  · obtain ⟨rfl, rfl⟩ := h
    rw [List.getElem?_map] at hx
    obtain ⟨y, hy, rfl⟩ := Option.map_eq_some_iff.mp hx
    obtain ⟨hl, rfl⟩ := List.getElem?_eq_some_iff.mp hy
    have z := ht items[i] (List.getElem_mem hl) (((items.take i).filter k).map g) (by
      rw [List.length_map]
      refine Nat.le_trans (List.length_filter_le _ _) ?_
      rw [List.length_take]; omega)
    have e : List.map g (List.filter k (items.take (i + 1))) = List.map g (List.filter k (items.take i)) ++ (if k items[i] = true then [g items[i]] else []) := by
      rw [List.take_succ_eq_append_getElem hl, List.filter_append, List.map_append]
      by_cases hk : k items[i] = true
      · rw [if_pos hk, List.filter_cons_of_pos hk]; rfl
      · rw [if_neg hk, List.filter_cons_of_neg hk]; rfl
    show turn _ _ _ fun acc c' => acc = List.map g (List.filter k (items.take (i + 1))) ∧ c' = _
    rw [e]
    exact z
  · obtain ⟨rfl, rfl⟩ := h
    rw [List.length_map, List.take_length]
    exact q
end Z

/-! Zm: operators over all kinds, built-ins, methods of lists and dicts, displays. -/
namespace Z
open PySem PySem.Spec PyProof.Rows L2
section
variable {a : An} {X : Cx} {ρ : Env} {cs : Cs} {Q : Mv → Cs → Prop} {QT : Bool → Cs → Prop} {QE : Env → Cs → Prop} {QA : List Mv → Cs → Prop} {pos apos : Pos} {e l r b o elt : Expr} {es : List Expr} {f : Str} {D : Dn} {st : Stmt} {sts sts' : List Stmt}
/-! ### + * over all kinds -/
inductive AddQ (cs : Cs) (Q : Mv → Cs → Prop) : Mv → Mv → Prop
  | int {i j : Int} (q : Q (.frz (.int (i + j))) cs) : AddQ cs Q (.frz (.int i)) (.frz (.int j))
  | str {i j : Str} (hl : i.length + j.length ≤ 100000) (q : Q (.frz (.str (i ++ j))) cs) : AddQ cs Q (.frz (.str i)) (.frz (.str j))
  | tup {d e : List Dv} (hl : d.length + e.length ≤ 100000) (q : Q (.frz (.tup (d ++ e))) cs) : AddQ cs Q (.frz (.tup d)) (.frz (.tup e))
  | lst {x y : Mv} {ms ns : List Mv} (hx : LstM cs x ms) (hy : LstM cs y ns) (hl : ms.length + ns.length ≤ 100000) (q : ∀ p, p ∉ ads cs → Q (.cel p) ((p, .lst (ms ++ ns)) :: cs)) : AddQ cs Q x y
def rAddA (K : PySem.W.Frag) : R2 := fun x y H Q => (((rI0 fun i j => .int (i + j)) x y H Q ∨ ∃ i j, x = .str i ∧ y = .str j ∧ i.length + j.length ≤ sizeLine ∧ Q (.str (i ++ j)) H) ∨ rCatA K x y H Q) ∨ rCat x y H Q
theorem op_addA : OpR X (binaryOp .Add) (rAddA X.K) := OpR.or (OpR.or (OpR.or op_add op_add_str) op_catA) op_cat
theorem rv_addA {K : PySem.W.Frag} {x y : Mv} (h : AddQ cs Q x y) : RV a (rAddA K) x y cs Q := fun F0 F H vx vy e0 t r1 r2 => by
  cases h with
  | int q => cases r1.int; cases r2.int; exact .inl (.inl (.inl ⟨_, _, rfl, rfl, rt_int e0 t q⟩))
  | str hl q => cases r1.str; cases r2.str; exact .inl (.inl (.inr ⟨_, _, rfl, rfl, Nat.le_trans hl (by decide), rt_str e0 t q⟩))
  | tup hl q =>
    cases r1 with
    | tup h1 k1 =>
      cases r2 with
      | tup h2 k2 =>
        rename_i d e' pa xs pb ys
        refine .inl (.inr ⟨_, _, _, _, rfl, rfl, SqT.of (t.stt.sub _ _ h1), SqT.of (t.stt.sub _ _ h2), by rw [← k1.length, ← k2.length]; exact Nat.le_trans hl (by decide), fun z => ?_, fun _ z => ?_, fun _ _ p hp => ?_⟩)
        · subst z
          cases k1
          exact rt_at e0 t (m := .frz (.tup e')) (Rep.tup h2 k2) q
        · subst z
          cases k2
          rw [List.append_nil] at q
          exact rt_at e0 t (m := .frz (.tup d)) (Rep.tup h1 k1) q
        · exact rt_newF e0 t hp (fun F' g1 g2 => .tup g1 ((k1.append k2).mono g2)) q
  | lst hx hy hl q =>
    obtain ⟨p1, xs, rfl, h1, k1⟩ := hx.sq t r1
    obtain ⟨p2, ys, rfl, h2, k2⟩ := hy.sq t r2
    exact .inr ⟨p1, p2, xs, ys, rfl, rfl, h1, h2, by rw [← k1.length, ← k2.length]; exact Nat.le_trans hl (by decide), fun p hp => rt_newC (c := .lst _) e0 t hp ⟨_, rfl, k1.append k2⟩ q⟩
theorem ev_add (h : EV a X l ρ cs fun x c1 => EV a X r ρ c1 fun y c2 => AddQ c2 Q x y) : EV a X (.BinOp l .Add r pos) ρ cs Q := ev_bin op_addA (h.mono fun x c1 z => z.mono fun y c2 q => rv_addA q)
theorem ev_sub (h : EV a X l ρ cs fun x c1 => EV a X r ρ c1 fun y c2 => ∃ i j, x = .frz (.int i) ∧ y = .frz (.int j) ∧ Q (.frz (.int (i - j))) c2) : EV a X (.BinOp l .Sub r pos) ρ cs Q := ev_bin op_sub (h.mono fun x c1 z => z.mono fun y c2 ⟨i, j, h1, h2, q⟩ => by subst h1 h2; exact rv_sub q)
inductive MulQ (cs : Cs) (Q : Mv → Cs → Prop) : Mv → Mv → Prop
  | int {i j : Int} (h : CMul i j) (q : Q (.frz (.int (i * j))) cs) : MulQ cs Q (.frz (.int i)) (.frz (.int j))
  | intW {i j : Int} (h : CMulW i j) (q : Q (.frz (.int (i * j))) cs) : MulQ cs Q (.frz (.int i)) (.frz (.int j))
  | rep {x : Mv} {k : Int} {ms : List Mv} (hx : LstM cs x ms) (h0 : 0 ≤ k) (hl : ms.length * k.toNat ≤ 100000) (hk : k ≤ 100000) (q : ∀ p, p ∉ ads cs → Q (.cel p) ((p, .lst (List.replicate k.toNat ms).flatten) :: cs)) : MulQ cs Q x (.frz (.int k))
def rMulA : R2 := fun x y H Q => ((rI CMul fun i j => .int (i * j)) x y H Q ∨ (rI CMulW fun i j => .int (i * j)) x y H Q) ∨ rRep x y H Q
theorem op_mulA : OpR X (binaryOp .Mult) rMulA := OpR.or (OpR.or op_mul op_mulW) op_rep
theorem RepMs.rep {F : Hp} {ms : List Mv} {xs : List V} (r : RepMs F ms xs) : ∀ n : Nat, RepMs F (List.replicate n ms).flatten (List.replicate n xs).flatten
  | 0 => .nil
  | n + 1 => by
    rw [List.replicate_succ, List.replicate_succ, List.flatten_cons, List.flatten_cons]
    exact r.append (RepMs.rep r n)
theorem rv_mulA {x y : Mv} (h : MulQ cs Q x y) : RV a rMulA x y cs Q := fun F0 F H vx vy e0 t r1 r2 => by
  cases h with
  | int h q => cases r1.int; cases r2.int; exact .inl (.inl ⟨_, _, rfl, rfl, h, rt_int e0 t q⟩)
  | intW h q => cases r1.int; cases r2.int; exact .inl (.inr ⟨_, _, rfl, rfl, h, rt_int e0 t q⟩)
  | rep hx h0 hl hk q =>
    obtain ⟨p1, xs, rfl, h1, k1⟩ := hx.sq t r1
    cases r2.int
    exact .inr ⟨p1, _, xs, rfl, rfl, h1, by omega, by omega, by rw [← k1.length]; exact Nat.le_trans hl (by decide), fun p hp => rt_newC (c := .lst _) e0 t hp ⟨_, rfl, k1.rep _⟩ q⟩
theorem ev_mul (h : EV a X l ρ cs fun x c1 => EV a X r ρ c1 fun y c2 => MulQ c2 Q x y) : EV a X (.BinOp l .Mult r pos) ρ cs Q := ev_bin op_mulA (h.mono fun x c1 z => z.mono fun y c2 q => rv_mulA q)
def rFdA : R2 := fun x y H Q => (rI CDiv fun i j => .int (i / j)) x y H Q ∨ (rI CDivW fun i j => .int (i / j)) x y H Q
theorem op_fdA : OpR X (binaryOp .FloorDiv) rFdA := OpR.or op_fdiv op_fdivW
theorem ev_fdiv (h : EV a X l ρ cs fun x c1 => EV a X r ρ c1 fun y c2 => ∃ i j, x = .frz (.int i) ∧ y = .frz (.int j) ∧ (CDiv i j ∨ CDivW i j) ∧ Q (.frz (.int (i / j))) c2) : EV a X (.BinOp l .FloorDiv r pos) ρ cs Q := ev_bin op_fdA (h.mono fun x c1 z => z.mono fun y c2 ⟨i, j, h1, h2, h3, q⟩ => by
  subst h1 h2
  intro F0 F H vx vy e0 t r1 r2
  cases r1.int; cases r2.int
  rcases h3 with h3 | h3
  · exact .inl ⟨_, _, rfl, rfl, h3, rt_int e0 t q⟩
  · exact .inr ⟨_, _, rfl, rfl, h3, rt_int e0 t q⟩)
theorem ev_pow (h : EV a X l ρ cs fun x c1 => EV a X r ρ c1 fun y c2 => ∃ i j, x = .frz (.int i) ∧ y = .frz (.int j) ∧ CPow i j ∧ Q (.frz (.int (i ^ j.toNat))) c2) : EV a X (.BinOp l .Pow r pos) ρ cs Q := ev_bin op_pow (h.mono fun x c1 z => z.mono fun y c2 ⟨i, j, h1, h2, h3, q⟩ => by
  subst h1 h2
  exact rv_I (d := .int (i ^ j.toNat)) h3 (fun _ => .int _) q)
/-! the dice: a cell of two ints, which ones isn't told -/
theorem ev_dice (h : EV a X l ρ cs fun x c1 => EV a X r ρ c1 fun y c2 => ∃ p, x = .cel p ∧ (p, Cell.dice) ∈ c2 ∧ (y = .frz (.int 0) ∨ y = .frz (.int 1)) ∧ ∀ z, Q (.frz (.int z)) c2) (hs : PlainIx r := by exact fun _ _ => rfl) : EV a X (.Subscript l r pos) ρ cs Q :=
  bin_any (h.mono fun x c1 z => z.mono fun y c2 ⟨p, hx, hm, hy, q⟩ => by
    subst hx
    intro F0 F H vx vy e0 t r1 r2
    obtain ⟨o, ho, i, j, e⟩ := t.stt.cel _ hm
    rw [e] at ho
    have e1 : vx = .ref p := r1
    subst e1
    rcases hy with hy | hy
    · subst hy; cases r2.int
      exact ⟨p, _, 0, .int i, rfl, rfl, SqL.of ho, rfl, rt_int e0 t (q i)⟩
    · subst hy; cases r2.int
      exact ⟨p, _, 1, .int j, rfl, rfl, SqL.of ho, rfl, rt_int e0 t (q j)⟩) (pe_ix ix_list (pe l) (pe r) hs)
theorem gv_dice {m : Mv} {zi : Int} (hz : m = .frz (.int zi)) (h : EV a X o ρ cs fun x c1 => EV a X b ρ c1 fun y c2 => ∃ p, x = .cel p ∧ (p, Cell.dice) ∈ c2 ∧ (y = .frz (.int 0) ∨ y = .frz (.int 1)) ∧ QE ρ c2) (ha : ∀ v, assign (.Subscript o b pos) X.env v = (do
      let ov ← holding [v] (eval o X.env)
      let iv ← holding [v, ov] (eval b X.env)
      standAt pos
      holding [v, ov, iv] (setItem ov iv v)
      release [v, ov, iv] []) := by intro _; rfl) : GV a X (.Subscript o b pos) m ρ cs QE := .mk fun σ F H v t s r => by
  subst hz
  refine WG.of (pg_sub (pe o) (pe b) set_list ha) ((h.run σ F H t s).mono fun ov H1 z => ?_)
  obtain ⟨F1, x, c1, e1, t1, r1, q1⟩ := z
  refine (q1.run σ F1 H1 t1 (s.mono e1)).mono fun iv H2 z => ?_
  obtain ⟨F2, y, c2, e2, t2, r2, p, hx, hm, hy, q⟩ := z
  subst hx
  obtain ⟨o', ho, i, j, e'⟩ := t2.stt.cel _ hm
  rw [e'] at ho
  cases r.int
  have e3 : ov = .ref p := r1
  have e4 : setC c2 p .dice = c2 := (PutR.of t2.stt.nd hm).same t2.stt.nd
  rcases hy with hy | hy
  · subst hy; cases r2.int
    refine ⟨p, _, 0, 0, e3, rfl, ho, rfl, F2, ρ, c2, e1.trans e2, ?_, s.mono (e1.trans e2), q⟩
    have := t2.setC hm (c := .dice) (o := .lst [.int zi, .int j]) ⟨zi, j, rfl⟩
    rw [e4] at this
    exact this
  · subst hy; cases r2.int
    refine ⟨p, _, 1, 1, e3, rfl, ho, rfl, F2, ρ, c2, e1.trans e2, ?_, s.mono (e1.trans e2), q⟩
    have := t2.setC hm (c := .dice) (o := .lst [.int i, .int zi]) ⟨i, zi, rfl⟩
    rw [e4] at this
    exact this
theorem ev_mod (h : EV a X l ρ cs fun x c1 => EV a X r ρ c1 fun y c2 => ∃ i j, x = .frz (.int i) ∧ y = .frz (.int j) ∧ 0 < j ∧ Q (.frz (.int (i % j))) c2) : EV a X (.BinOp l .Mod r pos) ρ cs Q := ev_bin op_mod (h.mono fun x c1 z => z.mono fun y c2 ⟨i, j, h1, h2, h3, q⟩ => by subst h1 h2; exact rv_mod h3 q)
/-! comparisons of ints -/
abbrev IntQ (g : Int → Int → Bool) (Q : Bool → Cs → Prop) (cs : Cs) (x y : Mv) : Prop := ∃ i j, x = .frz (.int i) ∧ y = .frz (.int j) ∧ Q (g i j) cs
theorem mono_I0 {g : Int → Int → V} : ∀ x y H Q Q', (∀ v H', Q v H' → Q' v H') → rI0 g x y H Q → rI0 g x y H Q' := fun x y H Q Q' i ⟨a, b, h1, h2, q⟩ => ⟨a, b, h1, h2, i _ _ q⟩
theorem rv_intQ {g : Int → Int → Bool} {x y : Mv} (h : IntQ g (fun b c => Q (.frz (.bl b)) c) cs x y) : RV a (rI0 fun i j => .bl (g i j)) x y cs Q := by
  obtain ⟨i, j, h1, h2, q⟩ := h
  subst h1 h2
  exact rv_I0 (d := .bl (g i j)) (fun _ => .bl _) q
theorem ev_cmpI {op : CmpOp} {g : Int → Int → Bool} (ho : OpR X (compareOp op) (rI0 fun i j => .bl (g i j))) (hm : behindInMarks op r = false) (h : EV a X l ρ cs fun x c1 => EV a X r ρ c1 fun y c2 => IntQ g (fun b c => Q (.frz (.bl b)) c) c2 x y) : EV a X (.Compare l [op] [r] pos) ρ cs Q :=
  ev_cmp ho hm (h.mono fun x c1 z => z.mono fun y c2 q => rv_intQ q)
theorem tv_cmpI {op : CmpOp} {g : Int → Int → Bool} (ho : OpR X (compareOp op) (rI0 fun i j => .bl (g i j))) (hm : behindInMarks op r = false) (h : EV a X l ρ cs fun x c1 => EV a X r ρ c1 fun y c2 => IntQ g QT c2 x y) : TV a X (.Compare l [op] [r] pos) ρ cs QT :=
  tv_cmp ho hm mono_I0 (h.mono fun x c1 z => z.mono fun y c2 q => rv_intQ (by obtain ⟨i, j, h1, h2, q⟩ := q; exact ⟨i, j, h1, h2, _, rfl, q⟩))
/-! == and != of plain data -/
theorem mono_eqD {K : PySem.W.Frag} : ∀ x y H Q Q', (∀ v H', Q v H' → Q' v H') → rEqD K x y H Q → rEqD K x y H Q' := fun x y H Q Q' i ⟨d, e, h1, h2, h3, h4, q⟩ => ⟨d, e, h1, h2, h3, h4, i _ _ q⟩
theorem mono_neD {K : PySem.W.Frag} : ∀ x y H Q Q', (∀ v H', Q v H' → Q' v H') → rNeD K x y H Q → rNeD K x y H Q' := fun x y H Q Q' i ⟨d, e, h1, h2, h3, h4, q⟩ => ⟨d, e, h1, h2, h3, h4, i _ _ q⟩
abbrev EqQ (Q : Bool → Cs → Prop) (cs : Cs) (x y : Mv) : Prop := ∃ d e, PlM cs x d ∧ PlM cs y e ∧ Q (PyData.eqv d e) cs
theorem ev_eq (hu : X.A.units + 64 < cLine) (h : EV a X l ρ cs fun x c1 => EV a X r ρ c1 fun y c2 => EqQ (fun b c => Q (.frz (.bl b)) c) c2 x y) : EV a X (.Compare l [.Eq] [r] pos) ρ cs Q := ev_cmp (op_eqD hu) (nomark _) (h.mono fun x c1 z => z.mono fun y c2 ⟨d, e, h1, h2, q⟩ => rv_eq h1 h2 q)
theorem ev_ne (hu : X.A.units + 64 < cLine) (h : EV a X l ρ cs fun x c1 => EV a X r ρ c1 fun y c2 => EqQ (fun b c => Q (.frz (.bl (!b))) c) c2 x y) : EV a X (.Compare l [.NotEq] [r] pos) ρ cs Q := ev_cmp (op_neD hu) (nomark _) (h.mono fun x c1 z => z.mono fun y c2 ⟨d, e, h1, h2, q⟩ => rv_ne h1 h2 q)
theorem tv_eq (hu : X.A.units + 64 < cLine) (h : EV a X l ρ cs fun x c1 => EV a X r ρ c1 fun y c2 => EqQ QT c2 x y) : TV a X (.Compare l [.Eq] [r] pos) ρ cs QT := tv_cmp (op_eqD hu) (nomark _) mono_eqD (h.mono fun x c1 z => z.mono fun y c2 ⟨d, e, h1, h2, q⟩ => rv_eq h1 h2 ⟨_, rfl, q⟩)
theorem tv_ne (hu : X.A.units + 64 < cLine) (h : EV a X l ρ cs fun x c1 => EV a X r ρ c1 fun y c2 => EqQ (fun b c => QT (!b) c) c2 x y) : TV a X (.Compare l [.NotEq] [r] pos) ρ cs QT := tv_cmp (op_neD hu) (nomark _) mono_neD (h.mono fun x c1 z => z.mono fun y c2 ⟨d, e, h1, h2, q⟩ => rv_ne h1 h2 ⟨_, rfl, q⟩)
/-! is, is not: None, truths -/
def rIsA : R2 := fun x y H Q => (y = .non ∧ Q (.bl (decide (x = .non))) H) ∨ rIsB x y H Q
def rNisA : R2 := fun x y H Q => (y = .non ∧ Q (.bl (!decide (x = .non))) H) ∨ rNotB x y H Q
theorem op_isA : OpR X (compareOp .Is) rIsA := OpR.or op_isN op_isBl
theorem op_nisA : OpR X (compareOp .IsNot) rNisA := OpR.or op_notN op_notBl
theorem mono_isA : ∀ x y H Q Q', (∀ v H', Q v H' → Q' v H') → rIsA x y H Q → rIsA x y H Q' := fun x y H Q Q' i h => by
  rcases h with ⟨h, q⟩ | ⟨c, d, h1, h2, q⟩
  · exact .inl ⟨h, i _ _ q⟩
  · exact .inr ⟨c, d, h1, h2, i _ _ q⟩
theorem mono_nisA : ∀ x y H Q Q', (∀ v H', Q v H' → Q' v H') → rNisA x y H Q → rNisA x y H Q' := fun x y H Q Q' i h => by
  rcases h with ⟨h, q⟩ | ⟨c, d, h1, h2, q⟩
  · exact .inl ⟨h, i _ _ q⟩
  · exact .inr ⟨c, d, h1, h2, i _ _ q⟩
def Dv.isN : Dv → Bool
  | .non => true
  | _ => false
def Mv.isN : Mv → Bool
  | .frz d => d.isN
  | .cel _ => false
  | .scr _ _ _ => false
inductive IsQ (Q : Bool → Cs → Prop) (cs : Cs) : Mv → Mv → Prop
  | non {x : Mv} (q : Q x.isN cs) : IsQ Q cs x (.frz .non)
  | bl {x y : Bool} (q : Q (decide (x = y)) cs) : IsQ Q cs (.frz (.bl x)) (.frz (.bl y))
theorem RepM.isN {F : Hp} {x : Mv} {v : V} (r : RepM F x v) : decide (v = .non) = x.isN := by
  cases x with
  | cel p => have e : v = .ref p := r; subst e; rfl
  | frz d => cases r <;> rfl
  | scr K p ns => have e : v = .ref p := r.1; subst e; rfl
theorem rv_isQ {x y : Mv} (h : IsQ (fun b c => Q (.frz (.bl b)) c) cs x y) : RV a rIsA x y cs Q := fun F0 F H vx vy e0 t r1 r2 => by
  cases h with
  | non q => exact .inl ⟨r2.non, by rw [r1.isN]; exact rt_bl e0 t q⟩
  | bl q => cases r1.bl; cases r2.bl; exact .inr ⟨_, _, rfl, rfl, rt_bl e0 t q⟩
theorem rv_nisQ {x y : Mv} (h : IsQ (fun b c => Q (.frz (.bl (!b))) c) cs x y) : RV a rNisA x y cs Q := fun F0 F H vx vy e0 t r1 r2 => by
  cases h with
  | non q => exact .inl ⟨r2.non, by rw [r1.isN]; exact rt_bl e0 t q⟩
  | bl q => cases r1.bl; cases r2.bl; exact .inr ⟨_, _, rfl, rfl, rt_bl e0 t q⟩
theorem IsQ.tr {g : Bool → Bool} {x y : Mv} (h : IsQ (fun b c => QT (g b) c) cs x y) : IsQ (fun b c => Tr QT (.frz (.bl (g b))) c) cs x y := by
  cases h with
  | non q => exact .non ⟨_, rfl, q⟩
  | bl q => exact .bl ⟨_, rfl, q⟩
theorem ev_is (h : EV a X l ρ cs fun x c1 => EV a X r ρ c1 fun y c2 => IsQ (fun b c => Q (.frz (.bl b)) c) c2 x y) : EV a X (.Compare l [.Is] [r] pos) ρ cs Q := ev_cmp op_isA (nomark _) (h.mono fun x c1 z => z.mono fun y c2 q => rv_isQ q)
theorem ev_nis (h : EV a X l ρ cs fun x c1 => EV a X r ρ c1 fun y c2 => IsQ (fun b c => Q (.frz (.bl (!b))) c) c2 x y) : EV a X (.Compare l [.IsNot] [r] pos) ρ cs Q := ev_cmp op_nisA (nomark _) (h.mono fun x c1 z => z.mono fun y c2 q => rv_nisQ q)
theorem tv_is (h : EV a X l ρ cs fun x c1 => EV a X r ρ c1 fun y c2 => IsQ QT c2 x y) : TV a X (.Compare l [.Is] [r] pos) ρ cs QT := tv_cmp op_isA (nomark _) mono_isA (h.mono fun x c1 z => z.mono fun y c2 q => rv_isQ (IsQ.tr (g := id) q))
theorem tv_nis (h : EV a X l ρ cs fun x c1 => EV a X r ρ c1 fun y c2 => IsQ (fun b c => QT (!b) c) c2 x y) : TV a X (.Compare l [.IsNot] [r] pos) ρ cs QT := tv_cmp op_nisA (nomark _) mono_nisA (h.mono fun x c1 z => z.mono fun y c2 q => rv_nisQ (IsQ.tr (g := not) q))
/-! ### built-ins -/
inductive LenM (cs : Cs) : Mv → Nat → Prop
  | seq {m : Mv} {ms : List Mv} : SeqM cs m ms → LenM cs m ms.length
  | str {z : Str} (h : z.length ≤ 100000) : LenM cs (.frz (.str z)) z.length
theorem ev_len {p : Pos} (hg : Gl X "len") (hm : X.mg "len" = none) (h : EV a X e ρ cs fun m c1 => ∃ n, LenM c1 m n ∧ Q (.frz (.int (n : Nat))) c1) (hs : starEach (e :: []) X.env = (false, eval e X.env) :: starEach [] X.env := by rfl) (hpl : (backTo pos (starEach [] X.env)).any (·.1) = false := by rfl) :
    EV a X (.Call (.Name "len" p) [e] [] pos) ρ cs Q := by
  refine ev_callB call_len hg hm boot_len (av_cons (h.mono fun m c1 z => av_nil ?_) hs) (he := hs) (hpl := hpl)
  obtain ⟨n, hn, q⟩ := z
  intro F0 F H vs e0 t rs
  cases rs with
  | cons r rs =>
    cases rs
    cases hn with
    | seq hs =>
      obtain ⟨p, xs, rfl, hq, k⟩ := hs.sq X.K t r
      rw [k.length] at q
      refine ⟨_, _, rfl, ?_, rt_int e0 t q⟩
      rcases hq with hq | hq
      · exact .inl ⟨xs, hq, rfl⟩
      · exact .inr ⟨xs, hq, rfl⟩
    | str h => cases r.str; exact ⟨_, _, rfl, ⟨Nat.le_trans h (by decide), rfl⟩, rt_int e0 t q⟩
theorem cv_min2 {i j : Int} (q : Q (.frz (.int (if j < i then j else i))) cs) : CV a (fun xs H Q => ∃ i j, xs = [V.int i, V.int j] ∧ Q (.int (if j < i then j else i)) H) [.frz (.int i), .frz (.int j)] cs Q := fun F0 F H vs e0 t rs => by
  cases rs with
  | cons r rs =>
    cases rs with
    | cons r' rs =>
      cases rs
      cases RepM.int r; cases RepM.int r'
      exact ⟨i, j, rfl, rt_int e0 t q⟩
theorem cv_max2 {i j : Int} (q : Q (.frz (.int (if j > i then j else i))) cs) : CV a (fun xs H Q => ∃ i j, xs = [V.int i, V.int j] ∧ Q (.int (if j > i then j else i)) H) [.frz (.int i), .frz (.int j)] cs Q := fun F0 F H vs e0 t rs => by
  cases rs with
  | cons r rs =>
    cases rs with
    | cons r' rs =>
      cases rs
      cases RepM.int r; cases RepM.int r'
      exact ⟨i, j, rfl, rt_int e0 t q⟩
theorem ev_min2 {p : Pos} (hc : X.calm = true) (hg : Gl X "min") (hm : X.mg "min" = none) (h : EV a X l ρ cs fun x c1 => EV a X r ρ c1 fun y c2 => ∃ i j, x = .frz (.int i) ∧ y = .frz (.int j) ∧ Q (.frz (.int (if j < i then j else i))) c2)
    (h1 : starEach (l :: [r]) X.env = (false, eval l X.env) :: starEach [r] X.env := by rfl) (h2 : starEach (r :: []) X.env = (false, eval r X.env) :: starEach [] X.env := by rfl) (hpl : (backTo pos (starEach [r] X.env)).any (·.1) = false := by rfl) : EV a X (.Call (.Name "min" p) [l, r] [] pos) ρ cs Q :=
  ev_callB (call_min2 hc) hg hm (by decide +kernel) (av_cons (h.mono fun x c1 z => av_cons (z.mono fun y c2 q => av_nil (by obtain ⟨i, j, h1, h2, q⟩ := q; subst h1 h2; exact cv_min2 q)) h2) h1) (he := h1) (hpl := hpl)
theorem ev_max2 {p : Pos} (hc : X.calm = true) (hg : Gl X "max") (hm : X.mg "max" = none) (h : EV a X l ρ cs fun x c1 => EV a X r ρ c1 fun y c2 => ∃ i j, x = .frz (.int i) ∧ y = .frz (.int j) ∧ Q (.frz (.int (if j > i then j else i))) c2)
    (h1 : starEach (l :: [r]) X.env = (false, eval l X.env) :: starEach [r] X.env := by rfl) (h2 : starEach (r :: []) X.env = (false, eval r X.env) :: starEach [] X.env := by rfl) (hpl : (backTo pos (starEach [r] X.env)).any (·.1) = false := by rfl) : EV a X (.Call (.Name "max" p) [l, r] [] pos) ρ cs Q :=
  ev_callB (call_max2 hc) hg hm (by decide +kernel) (av_cons (h.mono fun x c1 z => av_cons (z.mono fun y c2 q => av_nil (by obtain ⟨i, j, h1, h2, q⟩ := q; subst h1 h2; exact cv_max2 q)) h2) h1) (he := h1) (hpl := hpl)
/-- one argument -/
theorem ev_T1 {T : String} {rr : List V → Hp → VK → Prop} {x : Str} {p : Pos} (hc : CallR X (.type T) rr) (hg : Gl X x) (hm : X.mg x = none) (hv : bootBuiltins x = some (.type T)) (h : EV a X e ρ cs fun m c1 => CV a rr [m] c1 Q) (hn : x ≠ "__name__" := by decide)
    (hdb : (x == ("__debug__" : Str)) = false := by decide) (hs : starEach (e :: []) X.env = (false, eval e X.env) :: starEach [] X.env := by rfl) (hpl : (backTo pos (starEach [] X.env)).any (·.1) = false := by rfl) : EV a X (.Call (.Name x p) [e] [] pos) ρ cs Q :=
  ev_callT hc hg hm hv (av_cons (h.mono fun m c1 z => av_nil z) hs) hn hdb hs hpl
theorem ev_B1 {T : String} {rr : List V → Hp → VK → Prop} {x : Str} {p : Pos} (hc : CallR X (.builtin T) rr) (hg : Gl X x) (hm : X.mg x = none) (hv : bootBuiltins x = some (.builtin T)) (h : EV a X e ρ cs fun m c1 => CV a rr [m] c1 Q) (hn : x ≠ "__name__" := by decide)
    (hdb : (x == ("__debug__" : Str)) = false := by decide) (hs : starEach (e :: []) X.env = (false, eval e X.env) :: starEach [] X.env := by rfl) (hpl : (backTo pos (starEach [] X.env)).any (·.1) = false := by rfl) : EV a X (.Call (.Name x p) [e] [] pos) ρ cs Q :=
  ev_callB hc hg hm hv (av_cons (h.mono fun m c1 z => av_nil z) hs) hn hdb hs hpl
theorem ev_list {p : Pos} (hg : Gl X "list") (hm : X.mg "list" = none) (h : EV a X e ρ cs fun m c1 => ∃ ms, SeqM c1 m ms ∧ ∀ p, p ∉ ads c1 → Q (.cel p) ((p, .lst ms) :: c1)) (hs : starEach (e :: []) X.env = (false, eval e X.env) :: starEach [] X.env := by rfl) (hpl : (backTo pos (starEach [] X.env)).any (·.1) = false := by rfl) :
    EV a X (.Call (.Name "list" p) [e] [] pos) ρ cs Q := ev_T1 call_list_of hg hm boot_list (h.mono fun m c1 ⟨ms, hm, q⟩ F0 F H vs e0 t rs => by
  cases rs with
  | cons r rs =>
    cases rs
    obtain ⟨p, xs, rfl, hq, k⟩ := hm.sq X.K t r
    exact ⟨p, xs, rfl, hq, fun l hl => rt_newC (c := .lst _) e0 t hl ⟨_, rfl, k⟩ q⟩) (hs := hs) (hpl := hpl)
inductive TupQ (cs : Cs) (Q : Mv → Cs → Prop) : Mv → Prop
  | lst {m : Mv} {ds : List Dv} (h : LstM cs m (ds.map Mv.frz)) (q : Q (.frz (.tup ds)) cs) : TupQ cs Q m
  | tup {ds : List Dv} (q : Q (.frz (.tup ds)) cs) : TupQ cs Q (.frz (.tup ds))
theorem ev_tuple {p : Pos} (hg : Gl X "tuple") (hm : X.mg "tuple" = none) (h : EV a X e ρ cs fun m c1 => TupQ c1 Q m) (hs : starEach (e :: []) X.env = (false, eval e X.env) :: starEach [] X.env := by rfl) (hpl : (backTo pos (starEach [] X.env)).any (·.1) = false := by rfl) :
    EV a X (.Call (.Name "tuple" p) [e] [] pos) ρ cs Q := ev_T1 call_tuple_of hg hm boot_tuple (h.mono fun m c1 z F0 F H vs e0 t rs => by
  cases rs with
  | cons r rs =>
    cases rs
    cases z with
    | lst hm q =>
      obtain ⟨p, xs, rfl, hp, k⟩ := hm.sq t r
      exact ⟨p, xs, rfl, .inl ⟨SqL.of hp, fun l hl => rt_newF e0 t hl (fun F' g1 g2 => .tup g1 (k.frz.mono g2)) q⟩⟩
    | tup q =>
      cases r with
      | tup h1 k1 => exact ⟨_, _, rfl, .inr ⟨SqT.of (t.stt.sub _ _ h1), rt_at e0 t (m := .frz (.tup _)) (Rep.tup h1 k1) q⟩⟩) (hs := hs) (hpl := hpl)
def rgM (lo hi : Int) : List Dv := (List.range (hi - lo).toNat).map fun i => .int (lo + (i : Nat))
theorem rgM_rep {F : Hp} (lo hi : Int) : Reps F (rgM lo hi) (rgV lo hi) := by
  unfold rgM rgV
  generalize List.range (hi - lo).toNat = l
  induction l with
  | nil => exact .nil
  | cons x l ih => exact .cons (.int _) ih
theorem ev_listRg1 {p p2 q2 : Pos} (hc : X.calm = true) (hg : Gl X "list") (hm : X.mg "list" = none) (hg2 : Gl X "range") (hm2 : X.mg "range" = none) (h : EV a X e ρ cs fun m c1 => ∃ n : Int, m = .frz (.int n) ∧ -100000 ≤ n ∧ n ≤ 100000 ∧ ∀ p, p ∉ ads c1 → Q (.cel p) ((p, .lst ((rgM 0 n).map Mv.frz)) :: c1))
    (na : starEach [e] X.env = (false, eval e X.env) :: starEach [] X.env := by rfl) (nb : starEach [.Call (.Name "range" p2) [e] [] q2] X.env = (false, eval (.Call (.Name "range" p2) [e] [] q2) X.env) :: starEach [] X.env := by rfl) : EV a X (.Call (.Name "list" p) [.Call (.Name "range" p2) [e] [] q2] [] pos) ρ cs Q := .mk fun σ F H t s => by
  refine WE.of (pe_listRg hc hg hm (prg_1 hg2 hm2 (pe e) na) nb) ((h.run σ F H t s).mono fun v H1 z => ?_)
  obtain ⟨F1, m, c1, e1, t1, r1, n, rfl, h1, h2, q⟩ := z
  cases r1.int
  exact ⟨n, rfl, ⟨by omega, by omega, by omega, by omega, by omega⟩, fun p hp => rt_newC (c := .lst _) e1 t1 hp ⟨_, rfl, RepMs.of (rgM_rep 0 n)⟩ q⟩
/-- slices of lists and tuples -/
def cutD {α : Type} (xs : List α) (lo hi : Option Int) : List α := (xs.drop (HT.sIx xs.length 0 lo)).take (HT.sIx xs.length xs.length hi - HT.sIx xs.length 0 lo)
inductive SlQ (cs : Cs) (Q : Mv → Cs → Prop) (lo hi : Option Int) : Mv → Prop
  | lst {m : Mv} {ms : List Mv} (h : LstM cs m ms) (q : ∀ p, p ∉ ads cs → Q (.cel p) ((p, .lst (cutD ms lo hi)) :: cs)) : SlQ cs Q lo hi m
  | tup {ds : List Dv} (q : Q (.frz (.tup (cutD ds lo hi))) cs) : SlQ cs Q lo hi (.frz (.tup ds))
def rSlAll (K : PySem.W.Frag) : V → Option Int → Option Int → Hp → VK → Prop := fun x lo hi H Q => rSlL K x lo hi H Q ∨ rSlA K x lo hi H Q
theorem sl_all : SlR X (rSlAll X.K) := SlR.or sl_list sl_tupA
theorem cutD_whole {α : Type} {xs : List α} {lo hi : Option Int} (h : HT.sIx xs.length 0 lo = 0 ∧ HT.sIx xs.length xs.length hi = xs.length) : cutD xs lo hi = xs := by
  unfold cutD; rw [h.1, h.2]; simp
theorem slq_run {lo hi : Option Int} {m : Mv} {F0 F H : Hp} {v : V} (h : SlQ cs Q lo hi m) (e0 : Ex F0 F) (t : At a F H cs) (r : RepM F m v) : rSlAll X.K v lo hi H (Rt a F0 Q) := by
  cases h with
  | lst h q =>
    obtain ⟨p, xs, rfl, hp, k⟩ := h.sq t r
    refine .inl ⟨p, xs, rfl, SqL.of hp, fun l hl => rt_newC (c := .lst _) e0 t hl ⟨_, rfl, ?_⟩ q⟩
    show RepMs F (cutD _ lo hi) (cutV xs lo hi)
    unfold cutD L2.cutV
    rw [k.length]
    exact (k.drop _).take _
  | tup q =>
    cases r with
    | tup h1 k =>
      rename_i ds p xs
      refine .inr ⟨p, xs, rfl, SqT.of (t.stt.sub _ _ h1), fun z => ?_, fun _ l hl => rt_newF e0 t hl (fun F' g1 g2 => .tup g1 ?_) q⟩
      · rw [← k.length] at z
        rw [cutD_whole z] at q
        exact rt_at e0 t (m := .frz (.tup ds)) (Rep.tup h1 k) q
      · show Reps F' (cutD ds lo hi) (cutV xs lo hi)
        unfold cutD L2.cutV
        rw [k.length]
        exact ((k.drop _).take _).mono g2
inductive Part | none | some (e : Expr)
def Part.ex : Part → Option Expr
  | .none => Option.none
  | .some e => Option.some e
def Part.t (X : Cx) : Part → TO
  | .none => tNoPart
  | .some e => tPart (WE X e)
theorem Part.ok {p : Part} : PO X p.ex (p.t X) := by
  cases p with
  | none => exact po_none
  | some e => exact po_some (pe e)
def Part.V (a : An) (X : Cx) (p : Part) (ρ : Env) (cs : Cs) (Q : Option Int → Cs → Prop) : Prop := match p with
  | .none => Q Option.none cs
  | .some e => EV a X e ρ cs fun m c1 => ∃ i, m = .frz (.int i) ∧ Q (Option.some i) c1
theorem Part.run {p : Part} {Q : Option Int → Cs → Prop} (h : p.V a X ρ cs Q) {σ : L2.St} {F H : Hp} (t : At a F H cs) (s : RepS F ρ σ) {R : Option Int → Hp → Prop} (k : ∀ i F' H' c', Ex F F' → At a F' H' c' → Q i c' → R i H') : p.t X σ H R := by
  cases p with
  | none => exact k _ F H cs (Ex.refl _) t h
  | some e =>
    refine (h.run σ F H t s).mono fun v H1 z => ?_
    obtain ⟨F1, m, c1, e1, t1, r1, i, rfl, q⟩ := z
    cases r1.int
    exact ⟨i, rfl, k _ F1 H1 c1 e1 t1 q⟩
theorem ev_slice (lo hi : Part) {p2 : Pos} (h : EV a X e ρ cs fun m c1 => lo.V a X ρ c1 fun i c2 => hi.V a X ρ c2 fun j c3 => SlQ c3 Q i j m) : EV a X (.Subscript e (.Slice lo.ex hi.ex none p2) pos) ρ cs Q := .mk fun σ F H t s => by
  refine WE.of (pe_slice sl_all (pe e) Part.ok Part.ok) ((h.run σ F H t s).mono fun v H1 z => ?_)
  obtain ⟨F1, m, c1, e1, t1, r1, q⟩ := z
  refine Part.run q t1 (s.mono e1) fun i F2 H2 c2 e2 t2 q => ?_
  refine Part.run q t2 (s.mono (e1.trans e2)) fun j F3 H3 c3 e3 t3 q => ?_
  exact slq_run q ((e1.trans e2).trans e3) t3 (r1.mono (e2.trans e3))
/-- isinstance(e, T), T a built-in class -/
def Dv.ty : Dv → Option String
  | .non => some "NoneType"
  | .bl _ => some "bool"
  | .int _ => some "int"
  | .str _ => some "str"
  | .tup _ => some "tuple"
  | .ptp _ => some "tuple"
  | .lst _ => some "list"
  | .dct _ => some "dict"
  | .ins _ _ => none
inductive TyM (cs : Cs) : Mv → String → Prop
  | frz {d : Dv} {T : String} : d.ty = some T → TyM cs (.frz d) T
  | lst {p : Addr} {l : List Mv} : (p, Cell.lst l) ∈ cs → TyM cs (.cel p) "list"
  | dct {p : Addr} {l : List (Key × Mv)} : (p, Cell.dct l) ∈ cs → TyM cs (.cel p) "dict"
  | tup {p : Addr} {l : List Mv} : (p, Cell.tup l) ∈ cs → TyM cs (.cel p) "tuple"
theorem TyM.x {F H : Hp} {K : PySem.W.Frag} (t : At a F H cs) {m : Mv} {v : V} {T : String} (h : TyM cs m T) (r : RepM F m v) : TyX K H v (.type T) := by
  cases h with
  | frz h =>
    cases r <;> simp [Dv.ty] at h <;> subst h
    · exact .base .non
    · exact .base (.bl _)
    · exact .base (.int _)
    · exact .base (.str _)
    · exact .base (.tup (t.stt.sub _ _ (by assumption)))
    · exact .fTuple (t.stt.sub _ _ (by assumption))
    · exact .base (.lst (t.stt.sub _ _ (by assumption)))
    · exact .fDict (t.stt.sub _ _ (by assumption))
  | lst hm =>
    obtain ⟨o, ho, xs, e, q⟩ := t.stt.cel _ hm
    rw [e] at ho
    have e' : v = _ := r
    subst e'
    exact .base (.lst ho)
  | dct hm =>
    obtain ⟨o, ho, xs, e, q⟩ := t.stt.cel _ hm
    rw [e] at ho
    have e' : v = _ := r
    subst e'
    exact .base (.dK ho)
  | tup hm =>
    obtain ⟨o, ho, xs, e, q⟩ := t.stt.cel _ hm
    rw [e] at ho
    have e' : v = _ := r
    subst e'
    exact .base (.tup ho)
theorem ev_isi {T : String} {x : Str} {p p2 : Pos} (hg : Gl X "isinstance") (hm : X.mg "isinstance" = none) (hg2 : Gl X x) (hm2 : X.mg x = none) (hv : bootBuiltins x = some (.type T)) (h : EV a X e ρ cs fun m c1 => ∃ S k, TyM c1 m S ∧ kitB S T = some k ∧ Q (.frz (.bl k)) c1) (hn : x ≠ "__name__" := by decide)
    (hdb : (x == ("__debug__" : Str)) = false := by decide) (h1 : starEach (e :: [.Name x p2]) X.env = (false, eval e X.env) :: starEach [.Name x p2] X.env := by rfl) (h2 : starEach (.Name x p2 :: []) X.env = (false, eval (.Name x p2) X.env) :: starEach [] X.env := by rfl)
    (hpl : (backTo pos (starEach [.Name x p2] X.env)).any (·.1) = false := by rfl) : EV a X (.Call (.Name "isinstance" p) [e, .Name x p2] [] pos) ρ cs Q := .mk fun σ F H t s => by
  refine WE.of (pe_callB call_isi hg hm (by decide +kernel) (pa_cons (pe e) (pa_cons (pe_bltn (v := .ty T) hg2 hm2 hv rfl hn hdb) pa_nil h2) h1) (he := h1) (hpl := hpl)) ((h.run σ F H t s).mono fun v H1 z => ?_)
  obtain ⟨F1, m, c1, e1, t1, r1, S, k, hty, hk, q⟩ := z
  exact ⟨v, .ty T, .type S, .type T, k, rfl, .ty T, hty.x t1 r1, kit_ty hk, rt_bl e1 t1 q⟩
/-! ### methods of lists, dicts -/
theorem ev_append {q : Pos} (h : EV a X o ρ cs fun x c1 => ∃ p l, x = .cel p ∧ (p, Cell.lst l) ∈ c1 ∧ EV a X e ρ c1 fun m c2 => ∃ l' cs', PutR p (.lst l') (.lst (l' ++ [m])) c2 cs' ∧ l'.length < 100000 ∧ Q (.frz .non) cs')
    (hbase : attributeBase o "append" X.env (eval o X.env) = eval o X.env := by rfl)
    (hfew : ((backTo q (starEach (e :: []) X.env)).all (fun x => !x.1) && (backToKw q (keywordEach [] X.env)).all (fun x => x.1.isSome)
      && decide ((e :: []).length + ([] : List Keyword).length + (if ([] : List Keyword).isEmpty then 0 else 1) < 30)) = true := by rfl)
    (hline : (apos.endLine == q.line) = true := by rfl) (hs : starEach (e :: []) X.env = (false, eval e X.env) :: starEach [] X.env := by rfl) (hplain : (backTo q (starEach [] X.env)).any (·.1) = false := by rfl) : EV a X (.Call (.Attribute o "append" apos) [e] [] q) ρ cs Q := .mk fun σ F H t s => by
  refine WE.of (pe_bm PySem.F.plainAttrs_list PySem.F.slot_list_append PySem.F.type_list_append mt_append (pe o) (pa_cons (pe e) pa_nil hs) hbase hfew hline hs hplain) ((h.run σ F H t s).mono fun v H1 z => ?_)
  obtain ⟨F1, x, c1, e1, t1, r1, p, l, rfl, hm, q⟩ := z
  obtain ⟨o', ho, xs, ee, k⟩ := t1.stt.cel _ hm
  rw [ee] at ho
  have ev : v = .ref p := r1
  subst ev
  refine ⟨.inl ⟨rfl, xs, SqL.of ho⟩, (q.run σ F1 H1 t1 (s.mono e1)).mono fun u H2 z => ?_⟩
  obtain ⟨F2, m, c2, e2, t2, r2, l', cs', hm2, hl, q⟩ := z
  obtain ⟨o', ho2, xs2, ee2, k2⟩ := t2.stt.cel _ hm2.mem
  rw [ee2] at ho2
  exact ⟨p, xs2, u, rfl, rfl, ho2, by rw [← k2.length]; exact Nat.lt_of_lt_of_le hl (by decide), F2, .frz .non, _, e1.trans e2, t2.put hm2 ⟨_, rfl, k2.append (.cons r2 .nil)⟩, Rep.non, q⟩
/-- {k: v, ..} with written keys -/
theorem ev_dnew (h : ∀ p, p ∉ ads cs → Q (.cel p) ((p, .dct []) :: cs)) : EV a X (.Dict [] [] pos) ρ cs Q := .mk fun σ F H t s => WE.of pe_dnewK fun p hp => rt_newC (c := .dct []) (Ex.refl _) t hp ⟨[], rfl, .nil⟩ h
/-- the pairs of a display -/
def PVs (a : An) (X : Cx) : List (Option Expr) → List Expr → Env → Cs → (List (Mv × Mv) → Cs → Prop) → Prop
  | [], [], _, cs, Q => Q [] cs
  | some k :: ks, v :: vs, ρ, cs, Q => EV a X k ρ cs fun m c1 => EV a X v ρ c1 fun n c2 => PVs a X ks vs ρ c2 fun ps c3 => Q ((m, n) :: ps) c3
  | _, _, _, _, _ => False
def pTrs (X : Cx) : List (Option Expr) → List Expr → List (TE × TE)
  | some k :: ks, v :: vs => (WE X k, WE X v) :: pTrs X ks vs
  | _, _ => []
inductive RepP (F : Hp) : List (Mv × Mv) → List (V × V) → Prop
  | nil : RepP F [] []
  | cons {m n : Mv} {u v : V} {ms : List (Mv × Mv)} {vs : List (V × V)} : RepM F m u → RepM F n v → RepP F ms vs → RepP F ((m, n) :: ms) ((u, v) :: vs)
theorem pps_all : ∀ {ks : List (Option Expr)} {vs : List Expr}, ks.length = vs.length → ks.all (·.isSome) = true → PPs X pos ks vs (pTrs X ks vs)
  | [], [], _, _ => pps_nil
  | some k :: ks, v :: vs, h1, h2 => pps_cons (pe k) (pe v) (pps_all (by simpa using h1) (by simpa using h2))
  | none :: _, _, _, h2 => by simp at h2
  | some _ :: _, [], h1, _ => by simp at h1
  | [], _ :: _, h1, _ => by simp at h1
theorem pvs_run : ∀ {ks : List (Option Expr)} {vs : List Expr} {ρ : Env} {cs : Cs} {Q : List (Mv × Mv) → Cs → Prop}, PVs a X ks vs ρ cs Q → ∀ (σ : L2.St) (F H : Hp), At a F H cs → RepS F ρ σ → ∀ R : List (V × V) → Hp → Prop, (∀ ps us F' H' c', Ex F F' → At a F' H' c' → RepP F' ps us → Q ps c' → R us H') → tPairs (pTrs X ks vs) σ H R
  | [], [], ρ, cs, Q, h => fun σ F H t s R k => k [] [] F H cs (Ex.refl _) t .nil h
  | some ke :: ks, v :: vs, ρ, cs, Q, h => fun σ F H t s R k => by
    have h' : EV a X ke ρ cs fun m c1 => EV a X v ρ c1 fun n c2 => PVs a X ks vs ρ c2 fun ps c3 => Q ((m, n) :: ps) c3 := by simpa [PVs] using h
    show tPairs ((WE X ke, WE X v) :: pTrs X ks vs) σ H R
    refine (h'.run σ F H t s).mono fun x H1 z => ?_
    obtain ⟨F1, m, c1, e1, t1, r1, z⟩ := z
    refine (z.run σ F1 H1 t1 (s.mono e1)).mono fun y H2 z => ?_
    obtain ⟨F2, n, c2, e2, t2, r2, z⟩ := z
    refine pvs_run z σ F2 H2 t2 (s.mono (e1.trans e2)) _ fun ps us F' H' c' e' t' rp q => ?_
    exact k _ _ F' H' c' ((e1.trans e2).trans e') t' (.cons (r1.mono (e2.trans e')) (r2.mono e') rp) q
  | none :: _, _, _, _, _, h => by simp [PVs] at h
  | some _ :: _, [], _, _, _, h => by simp [PVs] at h
  | [], _ :: _, _, _, _, h => by simp [PVs] at h
def mergeM (l more : List (Key × Mv)) : List (Key × Mv) := more.foldl (fun acc kv => putKs acc kv.1 kv.2) l
theorem RepMK.merge {F : Hp} : ∀ {more : List (Key × Mv)} {xs : List (Key × V)} {l : List (Key × Mv)} {ys : List (Key × V)}, RepMK F more xs → RepMK F l ys → RepMK F (mergeM l more) (mergeK ys xs)
  | _, _, _, _, .nil, r => r
  | (k, m) :: more, (_, v) :: xs, l, ys, .cons h q, r => RepMK.merge (more := more) (xs := xs) (l := putKs l k m) (ys := putK ys k v) q (r.put h)
theorem RepP.keys {F : Hp} : ∀ {kms : List (Key × Mv)} {us : List (V × V)}, RepP F (kms.map fun kv => (kM kv.1, kv.2)) us → ∃ kvs : List (Key × V), us = kvs.map (fun kv => (kV kv.1, kv.2)) ∧ RepMK F kms kvs
  | [], _, .nil => ⟨[], rfl, .nil⟩
  | (k, m) :: kms, _, .cons h1 h2 r => by
    obtain ⟨kvs, rfl, q⟩ := RepP.keys r
    cases h1.key
    exact ⟨(k, _) :: kvs, rfl, .cons h2 q⟩
theorem ev_disp {ks : List (Option Expr)} {vs : List Expr} (h : ∀ p, p ∉ ads cs → PVs a X ks vs ρ ((p, .dct []) :: cs) fun ps c3 => ∃ c kms, c3 = (p, .dct []) :: c ∧ ps = kms.map (fun kv => (kM kv.1, kv.2)) ∧ kms.length ≤ 15 ∧ Q (.cel p) ((p, .dct (mergeM [] kms)) :: c))
    (hall : ks.all (·.isSome) = true) (hl : ks.length = vs.length) (h0 : ks ≠ []) (h15 : ks.length ≤ 15) : EV a X (.Dict ks vs pos) ρ cs Q := .mk fun σ F H t s => by
  refine WE.of (pe_disp (pps_all hl hall) hall hl h0 h15) fun p hp => ?_
  have t1 : At a F (upd H p (.dK [])) ((p, .dct []) :: cs) := t.newC hp ⟨[], rfl, .nil⟩
  refine pvs_run (h p (t.stt.fresh hp)) σ F _ t1 s _ fun ps us F' H' c' e' t' rp q => ?_
  obtain ⟨c, kms, rfl, rfl, hl, q⟩ := q
  obtain ⟨kvs, rfl, rk⟩ := rp.keys
  obtain ⟨o', ho, xs, ee, k⟩ := t'.stt.cel _ List.mem_cons_self
  cases k
  rw [ee] at ho
  have t2 := t'.setC (p := p) (c0 := .dct []) (c := .dct (mergeM [] kms)) (o := .dK (mergeK [] kvs)) List.mem_cons_self ⟨_, rfl, rk.merge .nil⟩
  refine ⟨ho, kvs, rfl, by rw [← rk.len]; exact hl, F', .cel p, _, e', t2, rfl, ?_⟩
  simpa [Z.setC] using q
end
end Z

/-! Zf: the rules with their side conditions filled in; defs, methods, classes as one fact each. -/
namespace Z
open PySem PySem.Spec PyProof.Rows L2
section
variable (P : Program) (w : World) (K : PySem.W.Frag) (mg : Str → Option Value) (base : Heap)
/-- the def x keeps W -/
def Fn (x : Str) (k : Nat) (W : FSp) : Prop := ∃ f fd ps, FnOk P w K mg base CX0 k f fd ps (toSp W) ∧ mg x = some (.ref f) ∧ PySem.W.keepIn K (.ref f) = true ∧ Binds K fd ps []
/-- .. its last parameters by their defaults -/
def FnD (x : Str) (k : Nat) (W : FSp) (dms : List Mv) : Prop := ∃ f fd ps dvs ds, FnOk P w K mg base CX0 k f fd ps (toSp W) ∧ mg x = some (.ref f) ∧ PySem.W.keepIn K (.ref f) = true ∧ Binds K fd ps ds ∧ Vals dvs ds ∧ DefV dvs dms
/-- the method m of C -/
def Mth (C : Addr) (m : Str) (k : Nat) (W : FSp) : Prop := ∃ f fd ps, FnOk P w K mg base CX0 k f fd ps (toSp W) ∧ Cls K C ∧ Meth K C m f ∧ Binds K fd ps []
/-- the class x, at C: its __init__ -/
def Mkr (x : Str) (C : Addr) (k : Nat) (W : FSp) : Prop := ∃ f fd ps, FnOk P w K mg base CX0 k f fd ps (toSp W) ∧ Mk K C f ∧ mg x = some (.ref C) ∧ Binds K fd ps []
end
section
variable {a : An} {X : Cx} {ρ : Env} {cs : Cs} {Q : Mv → Cs → Prop} {QT : Bool → Cs → Prop} {QE : Env → Cs → Prop} {QA : List Mv → Cs → Prop} {pos apos : Pos} {e l r b o elt : Expr} {es : List Expr} {f : Str} {D : Dn} {st : Stmt} {sts sts' : List Stmt}
theorem ev_nm {x : Str} {m : Mv} (q : Q m cs) (hN : X.N[X.N.idxOf x]? = some x := by rfl) (hv : Vis X.env.scope x := by first | exact Or.inl rfl | exact Or.inr (Or.inl rfl) | exact Or.inr (Or.inr rfl)) (hm : ρ[X.N.idxOf x]? = some (some m) := by rfl) (hd : (x == ("__debug__" : Str)) = false := by decide) (hcd : (x == ("__classdict__" : Str)) = false := by decide) :
    EV a X (.Name x pos) ρ cs Q := ev_var (X.N.idxOf x) hN hv hm q hd hcd
theorem ev_fn {x : Str} {k : Nat} {W : FSp} {p : Pos} (G : Fn X.prog X.w X.K X.mg X.base x k W) (hr : Room k X.A) (h : AV a X (e :: es) ρ cs fun ms c1 => W ms c1 Q Z0) (hg : Gl X x := by rfl) (hdb : (x == ("__debug__" : Str)) = false := by decide)
    (he : starEach (e :: es) X.env = (false, eval e X.env) :: starEach es X.env := by rfl) (hpl : (backTo pos (starEach es X.env)).any (·.1) = false := by rfl) : EV a X (.Call (.Name x p) (e :: es) [] pos) ρ cs Q := by
  obtain ⟨f, fd, ps, G, hm, hk, hb⟩ := G
  exact ev_call G hr hg hm hk hb .nil DefV.nil (by simpa only [List.append_nil] using h) hdb he hpl
theorem ev_fnD {x : Str} {k : Nat} {W : FSp} {p : Pos} {dms : List Mv} (G : FnD X.prog X.w X.K X.mg X.base x k W dms) (hr : Room k X.A) (h : AV a X (e :: es) ρ cs fun ms c1 => W (ms ++ dms) c1 Q Z0) (hg : Gl X x := by rfl) (hdb : (x == ("__debug__" : Str)) = false := by decide)
    (he : starEach (e :: es) X.env = (false, eval e X.env) :: starEach es X.env := by rfl) (hpl : (backTo pos (starEach es X.env)).any (·.1) = false := by rfl) : EV a X (.Call (.Name x p) (e :: es) [] pos) ρ cs Q := by
  obtain ⟨f, fd, ps, dvs, ds, G, hm, hk, hb, hd, hdm⟩ := G
  exact ev_call G hr hg hm hk hb hd hdm h hdb he hpl
theorem ev_mth {m : Str} {k : Nat} {W : FSp} {C : Addr} {pl : Sem Bool} (G : Mth X.prog X.w X.K X.mg X.base C m k W) (hr : Room k X.A) (h : EV a X o ρ cs fun x c1 => InsM c1 C m x ∧ AV a X (e :: es) ρ c1 fun ms c2 => W (x :: ms) c2 Q Z0)
    (hst : starEach (e :: es) X.env = (false, eval e X.env) :: starEach es X.env := by rfl) (hpl : (backTo pos (starEach es X.env)).any (·.1) = false := by rfl)
    (ht : eval (.Call (.Attribute o m apos) (e :: es) [] pos) X.env = (do
      let ov ← eval o X.env
      standAt apos.atName
      let (f, first) ← holding [ov] (getMethod ov m pl)
      callWith pos f first (backTo pos (starEach (e :: es) X.env)) (backToKw pos (keywordEach [] X.env))) := by rfl) : EV a X (.Call (.Attribute o m apos) (e :: es) [] pos) ρ cs Q := by
  obtain ⟨f, fd, ps, G, hc, hm, hb⟩ := G
  exact ev_meth hc hm G hr hb .nil DefV.nil (by simpa only [List.append_nil] using h) hst hpl ht
theorem ev_mth0 {m : Str} {k : Nat} {W : FSp} {C : Addr} {pl : Sem Bool} (G : Mth X.prog X.w X.K X.mg X.base C m k W) (hr : Room k X.A) (h : EV a X o ρ cs fun x c1 => InsM c1 C m x ∧ W [x] c1 Q Z0)
    (ht : eval (.Call (.Attribute o m apos) [] [] pos) X.env = (do
      let ov ← eval o X.env
      standAt apos.atName
      let (f, first) ← holding [ov] (getMethod ov m pl)
      callWith pos f first (backTo pos (starEach [] X.env)) (backToKw pos (keywordEach [] X.env))) := by rfl) : EV a X (.Call (.Attribute o m apos) [] [] pos) ρ cs Q := by
  obtain ⟨f, fd, ps, G, hc, hm, hb⟩ := G
  exact ev_meth0 hc hm G hr hb .nil DefV.nil h ht
theorem ev_mkr {x : Str} {k : Nat} {W : FSp} {C : Addr} {p : Pos} (G : Mkr X.prog X.w X.K X.mg X.base x C k W) (hr : Room (k + 1) X.A) (h : AV a X (e :: es) ρ cs fun ms c1 => ∀ p, p ∉ ads c1 → W (.cel p :: ms) ((p, .ins C []) :: c1) (fun m c2 => m = .frz .non ∧ Q (.cel p) c2) Z0) (hg : Gl X x := by rfl)
    (hdb : (x == ("__debug__" : Str)) = false := by decide) (he : starEach (e :: es) X.env = (false, eval e X.env) :: starEach es X.env := by rfl) (hpl : (backTo pos (starEach es X.env)).any (·.1) = false := by rfl) : EV a X (.Call (.Name x p) (e :: es) [] pos) ρ cs Q := by
  obtain ⟨f, fd, ps, G, M, hm, hb⟩ := G
  exact ev_make M G hr hg hm hb .nil DefV.nil (by simpa only [List.append_nil] using h) hdb he hpl
@[simp] theorem py_ii {i j : Int} : PyData.eqv (Dv.int i).py (Dv.int j).py = decide (i = j) := by simp [Dv.py, PyData.eqv, Bool.beq_eq_decide_eq]
@[simp] theorem py_ss {i j : Str} : PyData.eqv (Dv.str i).py (Dv.str j).py = decide (i = j) := by simp [Dv.py, PyData.eqv, Bool.beq_eq_decide_eq]
@[simp] theorem py_is {i : Int} {j : Str} : PyData.eqv (Dv.int i).py (Dv.str j).py = false := by simp [Dv.py, PyData.eqv]
@[simp] theorem py_si {i : Int} {j : Str} : PyData.eqv (Dv.str j).py (Dv.int i).py = false := by simp [Dv.py, PyData.eqv]
/-! isinstance of the built-in classes that the program names -/
abbrev IsiQ (T : String) (Q : Mv → Cs → Prop) (m : Mv) (cs : Cs) : Prop := ∃ S k, TyM cs m S ∧ kitB S T = some k ∧ Q (.frz (.bl k)) cs
theorem ev_isI {p p2 : Pos} (h : EV a X e ρ cs (IsiQ "int" Q)) (hg : Gl X "isinstance" := by rfl) (hm : X.mg "isinstance" = none := by assumption) (hg2 : Gl X "int" := by rfl) (hm2 : X.mg "int" = none := by assumption) (h1 : starEach (e :: [.Name "int" p2]) X.env = (false, eval e X.env) :: starEach [.Name "int" p2] X.env := by rfl)
    (h2 : starEach (.Name "int" p2 :: []) X.env = (false, eval (.Name "int" p2) X.env) :: starEach [] X.env := by rfl) (hpl : (backTo pos (starEach [.Name "int" p2] X.env)).any (·.1) = false := by rfl) : EV a X (.Call (.Name "isinstance" p) [e, .Name "int" p2] [] pos) ρ cs Q := ev_isi hg hm hg2 hm2 (by decide +kernel) h (h1 := h1) (h2 := h2) (hpl := hpl)
theorem ev_isB {p p2 : Pos} (h : EV a X e ρ cs (IsiQ "bool" Q)) (hg : Gl X "isinstance" := by rfl) (hm : X.mg "isinstance" = none := by assumption) (hg2 : Gl X "bool" := by rfl) (hm2 : X.mg "bool" = none := by assumption) (h1 : starEach (e :: [.Name "bool" p2]) X.env = (false, eval e X.env) :: starEach [.Name "bool" p2] X.env := by rfl)
    (h2 : starEach (.Name "bool" p2 :: []) X.env = (false, eval (.Name "bool" p2) X.env) :: starEach [] X.env := by rfl) (hpl : (backTo pos (starEach [.Name "bool" p2] X.env)).any (·.1) = false := by rfl) : EV a X (.Call (.Name "isinstance" p) [e, .Name "bool" p2] [] pos) ρ cs Q := ev_isi hg hm hg2 hm2 (by decide +kernel) h (h1 := h1) (h2 := h2) (hpl := hpl)
theorem ev_isS {p p2 : Pos} (h : EV a X e ρ cs (IsiQ "str" Q)) (hg : Gl X "isinstance" := by rfl) (hm : X.mg "isinstance" = none := by assumption) (hg2 : Gl X "str" := by rfl) (hm2 : X.mg "str" = none := by assumption) (h1 : starEach (e :: [.Name "str" p2]) X.env = (false, eval e X.env) :: starEach [.Name "str" p2] X.env := by rfl)
    (h2 : starEach (.Name "str" p2 :: []) X.env = (false, eval (.Name "str" p2) X.env) :: starEach [] X.env := by rfl) (hpl : (backTo pos (starEach [.Name "str" p2] X.env)).any (·.1) = false := by rfl) : EV a X (.Call (.Name "isinstance" p) [e, .Name "str" p2] [] pos) ρ cs Q := ev_isi hg hm hg2 hm2 (by decide +kernel) h (h1 := h1) (h2 := h2) (hpl := hpl)
theorem ev_isT {p p2 : Pos} (h : EV a X e ρ cs (IsiQ "tuple" Q)) (hg : Gl X "isinstance" := by rfl) (hm : X.mg "isinstance" = none := by assumption) (hg2 : Gl X "tuple" := by rfl) (hm2 : X.mg "tuple" = none := by assumption) (h1 : starEach (e :: [.Name "tuple" p2]) X.env = (false, eval e X.env) :: starEach [.Name "tuple" p2] X.env := by rfl)
    (h2 : starEach (.Name "tuple" p2 :: []) X.env = (false, eval (.Name "tuple" p2) X.env) :: starEach [] X.env := by rfl) (hpl : (backTo pos (starEach [.Name "tuple" p2] X.env)).any (·.1) = false := by rfl) : EV a X (.Call (.Name "isinstance" p) [e, .Name "tuple" p2] [] pos) ρ cs Q := ev_isi hg hm hg2 hm2 (by decide +kernel) h (h1 := h1) (h2 := h2) (hpl := hpl)
theorem ev_isL {p p2 : Pos} (h : EV a X e ρ cs (IsiQ "list" Q)) (hg : Gl X "isinstance" := by rfl) (hm : X.mg "isinstance" = none := by assumption) (hg2 : Gl X "list" := by rfl) (hm2 : X.mg "list" = none := by assumption) (h1 : starEach (e :: [.Name "list" p2]) X.env = (false, eval e X.env) :: starEach [.Name "list" p2] X.env := by rfl)
    (h2 : starEach (.Name "list" p2 :: []) X.env = (false, eval (.Name "list" p2) X.env) :: starEach [] X.env := by rfl) (hpl : (backTo pos (starEach [.Name "list" p2] X.env)).any (·.1) = false := by rfl) : EV a X (.Call (.Name "isinstance" p) [e, .Name "list" p2] [] pos) ρ cs Q := ev_isi hg hm hg2 hm2 (by decide +kernel) h (h1 := h1) (h2 := h2) (hpl := hpl)
def Dv.isInt : Dv → Bool
  | .int _ => true
  | .bl _ => true
  | _ => false
def Dv.isBl : Dv → Bool
  | .bl _ => true
  | _ => false
def Dv.isStr : Dv → Bool
  | .str _ => true
  | _ => false
def Dv.isTup : Dv → Bool
  | .tup _ => true
  | .ptp _ => true
  | _ => false
def Dv.isLst : Dv → Bool
  | .lst _ => true
  | _ => false
def Dv.noI (d : Dv) : Prop := d.ty ≠ none
theorem isiI {d : Dv} (h : d.noI) (q : Q (.frz (.bl d.isInt)) cs) : IsiQ "int" Q (.frz d) cs := by
  cases d <;> first | exact (h rfl).elim | exact ⟨_, true, .frz rfl, by decide +kernel, q⟩ | exact ⟨_, false, .frz rfl, by decide +kernel, q⟩
theorem isiB {d : Dv} (h : d.noI) (q : Q (.frz (.bl d.isBl)) cs) : IsiQ "bool" Q (.frz d) cs := by
  cases d <;> first | exact (h rfl).elim | exact ⟨_, true, .frz rfl, by decide +kernel, q⟩ | exact ⟨_, false, .frz rfl, by decide +kernel, q⟩
theorem isiS {d : Dv} (h : d.noI) (q : Q (.frz (.bl d.isStr)) cs) : IsiQ "str" Q (.frz d) cs := by
  cases d <;> first | exact (h rfl).elim | exact ⟨_, true, .frz rfl, by decide +kernel, q⟩ | exact ⟨_, false, .frz rfl, by decide +kernel, q⟩
theorem isiT {d : Dv} (h : d.noI) (q : Q (.frz (.bl d.isTup)) cs) : IsiQ "tuple" Q (.frz d) cs := by
  cases d <;> first | exact (h rfl).elim | exact ⟨_, true, .frz rfl, by decide +kernel, q⟩ | exact ⟨_, false, .frz rfl, by decide +kernel, q⟩
theorem isiL {d : Dv} (h : d.noI) (q : Q (.frz (.bl d.isLst)) cs) : IsiQ "list" Q (.frz d) cs := by
  cases d <;> first | exact (h rfl).elim | exact ⟨_, true, .frz rfl, by decide +kernel, q⟩ | exact ⟨_, false, .frz rfl, by decide +kernel, q⟩
/-- isinstance as a value's truth -/
theorem isi_frz {T : String} {d : Dv} {S : String} {k : Bool} (h1 : d.ty = some S) (h2 : kitB S T = some k) (q : Q (.frz (.bl k)) cs) : IsiQ T Q (.frz d) cs := ⟨S, k, .frz h1, h2, q⟩
/-- chains l <= m <= r of ints -/
theorem ev_leLe (h : EV a X l ρ cs fun x c1 => EV a X r ρ c1 fun y c2 => ∃ i j, x = .frz (.int i) ∧ y = .frz (.int j) ∧ (decide (i ≤ j) = true → EV a X b ρ c2 fun z c3 => ∃ k, z = .frz (.int k) ∧ Q (.frz (.bl (decide (j ≤ k)))) c3) ∧ (decide (i ≤ j) = false → Q (.frz (.bl false)) c2))
    (hm : lastMarks [.LtE, .LtE] [r, b] = false := by with_unfolding_all rfl) : EV a X (.Compare l [.LtE, .LtE] [r, b] pos) ρ cs Q := ev_chain op_le op_le hm h
theorem ev_leLt (h : EV a X l ρ cs fun x c1 => EV a X r ρ c1 fun y c2 => ∃ i j, x = .frz (.int i) ∧ y = .frz (.int j) ∧ (decide (i ≤ j) = true → EV a X b ρ c2 fun z c3 => ∃ k, z = .frz (.int k) ∧ Q (.frz (.bl (decide (j < k)))) c3) ∧ (decide (i ≤ j) = false → Q (.frz (.bl false)) c2))
    (hm : lastMarks [.LtE, .Lt] [r, b] = false := by with_unfolding_all rfl) : EV a X (.Compare l [.LtE, .Lt] [r, b] pos) ρ cs Q := ev_chain op_le op_lt hm h
theorem tv_leLt (h : EV a X l ρ cs fun x c1 => EV a X r ρ c1 fun y c2 => ∃ i j, x = .frz (.int i) ∧ y = .frz (.int j) ∧ (decide (i ≤ j) = true → EV a X b ρ c2 fun z c3 => ∃ k, z = .frz (.int k) ∧ QT (decide (j < k)) c3) ∧ (decide (i ≤ j) = false → QT false c2))
    (hm : lastMarks [.LtE, .Lt] [r, b] = false := by with_unfolding_all rfl) : TV a X (.Compare l [.LtE, .Lt] [r, b] pos) ρ cs QT := tv_chain op_le op_lt hm h
theorem ev_lt (h : EV a X l ρ cs fun x c1 => EV a X r ρ c1 fun y c2 => IntQ (fun i j => decide (i < j)) (fun b c => Q (.frz (.bl b)) c) c2 x y) : EV a X (.Compare l [.Lt] [r] pos) ρ cs Q := ev_cmpI op_lt (nomark _) h
theorem ev_le (h : EV a X l ρ cs fun x c1 => EV a X r ρ c1 fun y c2 => IntQ (fun i j => decide (i ≤ j)) (fun b c => Q (.frz (.bl b)) c) c2 x y) : EV a X (.Compare l [.LtE] [r] pos) ρ cs Q := ev_cmpI op_le (nomark _) h
theorem ev_gt (h : EV a X l ρ cs fun x c1 => EV a X r ρ c1 fun y c2 => IntQ (fun i j => decide (j < i)) (fun b c => Q (.frz (.bl b)) c) c2 x y) : EV a X (.Compare l [.Gt] [r] pos) ρ cs Q := ev_cmpI op_gt (nomark _) h
theorem ev_ge (h : EV a X l ρ cs fun x c1 => EV a X r ρ c1 fun y c2 => IntQ (fun i j => decide (j ≤ i)) (fun b c => Q (.frz (.bl b)) c) c2 x y) : EV a X (.Compare l [.GtE] [r] pos) ρ cs Q := ev_cmpI op_ge (nomark _) h
theorem tv_lt (h : EV a X l ρ cs fun x c1 => EV a X r ρ c1 fun y c2 => IntQ (fun i j => decide (i < j)) QT c2 x y) : TV a X (.Compare l [.Lt] [r] pos) ρ cs QT := tv_cmpI op_lt (nomark _) h
theorem tv_le (h : EV a X l ρ cs fun x c1 => EV a X r ρ c1 fun y c2 => IntQ (fun i j => decide (i ≤ j)) QT c2 x y) : TV a X (.Compare l [.LtE] [r] pos) ρ cs QT := tv_cmpI op_le (nomark _) h
theorem tv_gt (h : EV a X l ρ cs fun x c1 => EV a X r ρ c1 fun y c2 => IntQ (fun i j => decide (j < i)) QT c2 x y) : TV a X (.Compare l [.Gt] [r] pos) ρ cs QT := tv_cmpI op_gt (nomark _) h
theorem tv_ge (h : EV a X l ρ cs fun x c1 => EV a X r ρ c1 fun y c2 => IntQ (fun i j => decide (j ≤ i)) QT c2 x y) : TV a X (.Compare l [.GtE] [r] pos) ρ cs QT := tv_cmpI op_ge (nomark _) h
/-- any value as a test: a truth -/
theorem tv_any (h : EV a X e ρ cs (Tr QT)) (he : ∀ whole, isTrue e X.env whole = (do let v ← whole; standAt e.pos; holding [v] (truthy v)) := by intro _; rfl) : TV a X e ρ cs QT := tv_val h he
theorem sv_st {x : Str} {pos' : Pos} (h : EV a X e ρ cs fun m c1 => D.nx (ρ.set (X.N.idxOf x) (some m)) c1) (hN : X.N.Nodup) (hi : X.N[X.N.idxOf x]? = some x := by rfl) (hx : Loc X.env.scope x := by first | exact Or.inl rfl | exact Or.inr rfl) (hs : swapsWith e (some (.Name x pos')) pos.line X.env = pure false := by rfl)
    (hf : X.fn x = true ∨ X.env.scope.names.lookup x = some .local := by first | exact .inl rfl | exact .inr rfl | assumption) : SV a X (.Assign [.Name x pos'] e pos) ρ cs D := sv_set _ hN hi hx h hs hf
theorem gv_nm {x : Str} {m : Mv} (q : QE (ρ.set (X.N.idxOf x) (some m)) cs) (hN : X.N.Nodup) (hi : X.N[X.N.idxOf x]? = some x := by rfl) (hx : Loc X.env.scope x := by first | exact Or.inl rfl | exact Or.inr rfl) (hf : X.fn x = true ∨ X.env.scope.names.lookup x = some .local := by first | exact .inl rfl | exact .inr rfl | assumption) :
    GV a X (.Name x pos) m ρ cs QE := gv_name _ hN hi hx q hf
end
end Z

/-! Zq: the script, a list of ints that only is read. -/
namespace Z
open PySem PySem.Spec PyProof.Rows L2
section
variable {a : An} {X : Cx} {ρ : Env} {cs : Cs} {Q : Mv → Cs → Prop} {QT : Bool → Cs → Prop} {pos : Pos} {e l r : Expr}
theorem scr_up {F H : Hp} {K : PySem.W.Frag} {p : Addr} {ns : List Int} {v : V} (e : Ex F H) (r : RepM F (.scr K p ns) v) : v = .ref p ∧ SqL K H p (ns.map V.int) := RepM.mono (m := .scr K p ns) e r
theorem ev_scrLen {p : Pos} (hg : Gl X "len") (hm : X.mg "len" = none) (h : EV a X e ρ cs fun m c1 => ∃ q ns, m = .scr X.K q ns ∧ Q (.frz (.int (ns.length : Nat))) c1) (hs : starEach (e :: []) X.env = (false, eval e X.env) :: starEach [] X.env := by rfl) (hpl : (backTo pos (starEach [] X.env)).any (·.1) = false := by rfl) :
    EV a X (.Call (.Name "len" p) [e] [] pos) ρ cs Q := by
  refine ev_callB call_len hg hm boot_len (av_cons (h.mono fun m c1 z => av_nil ?_) hs) (he := hs) (hpl := hpl)
  obtain ⟨p, ns, rfl, q⟩ := z
  intro F0 F H vs e0 t rs
  cases rs with
  | cons r rs =>
    cases rs
    obtain ⟨rfl, hq⟩ := scr_up t.stt.sub r
    refine ⟨_, _, rfl, .inl ⟨_, hq, rfl⟩, ?_⟩
    rw [List.length_map]
    exact rt_int e0 t q
theorem ev_scrIx (hu : X.A.units + 1 < cLine) (h : EV a X l ρ cs fun x c1 => EV a X r ρ c1 fun y c2 => ∃ p ns i z, x = .scr X.K p ns ∧ y = .frz (.int i) ∧ atI ns i = some z ∧ Q (.frz (.int z)) c2) (hs : PlainIx r := by exact fun _ _ => rfl) : EV a X (.Subscript l r pos) ρ cs Q :=
  bin_any (h.mono fun x c1 z => z.mono fun y c2 ⟨p, ns, i, zz, hx, hy, hi, q⟩ => by
    subst hx hy
    intro F0 F H vx vy e0 t r1 r2
    obtain ⟨rfl, hq⟩ := scr_up t.stt.sub r1
    cases r2.int
    refine .inl (.inl ⟨p, _, i, .int zz, rfl, rfl, hq, ?_, rt_int e0 t q⟩)
    show (ixN _ i).bind _ = _
    have hi' : ((ixN ns.length i).bind fun j => ns[j]?) = some zz := hi
    rw [List.length_map]
    cases e : ixN ns.length i with
    | none => rw [e] at hi'; cases hi'
    | some j =>
      rw [e] at hi'
      have hi2 : ns[j]? = some zz := hi'
      show (ns.map V.int)[j]? = _
      rw [List.getElem?_map, hi2]; rfl) (pe_ix (ix_all hu) (pe l) (pe r) hs)
theorem reps_ints {F : Hp} : ∀ ns : List Int, Reps F (ns.map Dv.int) (ns.map V.int)
  | [] => .nil
  | n :: r => .cons (.int n) (reps_ints r)
theorem shs_ints : ∀ ns : List Int, Dv.shs 1 (ns.map Dv.int) = true
  | [] => rfl
  | n :: r => by
    show (Dv.sh 1 (.int n) && Dv.shs 1 (r.map Dv.int)) = true
    rw [shs_ints r]; rfl
theorem eqv_nil : ∀ ns : List Int, PyData.eqv (Dv.lst (ns.map Dv.int)).py (Dv.lst []).py = decide (ns = [])
  | [] => rfl
  | n :: r => rfl
theorem tv_scrNil (hu : X.A.units + 64 < cLine) (h : EV a X l ρ cs fun x c1 => EV a X r ρ c1 fun y c2 => ∃ p ns q, x = .scr X.K p ns ∧ y = .cel q ∧ (q, Cell.lst []) ∈ c2 ∧ QT (decide (ns = [])) c2) : TV a X (.Compare l [.Eq] [r] pos) ρ cs QT := tv_cmp (op_eqD hu) (nomark _) mono_eqD (h.mono fun x c1 z => z.mono fun y c2 ⟨p, ns, q', hx, hy, hq, q⟩ => by
  subst hx hy
  intro F0 F H vx vy e0 t r1 r2
  obtain ⟨rfl, hq1⟩ := scr_up t.stt.sub r1
  have h2 := (PlM.lst (l := []) (n := 1) hq rfl (by decide)).dp (K := X.K) t r2
  refine ⟨(Dv.lst (ns.map Dv.int)).py, _, .lst hq1 (Reps.dp t.stt.sub (reps_ints ns) (shs_ints ns)), h2.1, Dv.shaped (n := 2) (d := .lst (ns.map Dv.int)) (shs_ints ns) (by decide), h2.2, ?_⟩
  refine rt_bl e0 t ⟨_, rfl, ?_⟩
  rw [show PyData.list (Dv.pys []) = (Dv.lst []).py from rfl, eqv_nil]
  exact q)
/-! ### cells weakened: some forgotten, in another order, less told -/
def Wk (c c' : Cs) : Prop := ∀ a F H, At a F H c → At a F H c'
theorem Wk.refl : Wk cs cs := fun _ _ _ t => t
theorem Wk.trans {c1 c2 c3 : Cs} (x : Wk c1 c2) (y : Wk c2 c3) : Wk c1 c3 := fun a F H t => y a F H (x a F H t)
theorem Wk.sub {c c' : Cs} (h : List.Sublist c' c) : Wk c c' := fun _ _ _ t => t.drop h
theorem Wk.perm {c c' : Cs} (h : c.Perm c') : Wk c c' := fun _ _ _ t =>
  t.go ⟨Ex.refl _, fun b o h _ => h, fun b h => .inl h, fun b hb => .inl ((h.map _).mem_iff.mpr hb)⟩ ⟨t.stt.sub, fun q hq => t.stt.cel q (h.mem_iff.mpr hq), fun q hq => t.stt.out q (h.mem_iff.mpr hq), (h.map _).nodup_iff.mp t.stt.nd⟩
theorem upd_id {H : Hp} {p : Addr} {o : HO} (h : H p = some o) : upd H p o = H := by
  funext b
  by_cases e : b = p
  · subst e; rw [upd_same, h]
  · rw [upd_ne e]
theorem Wk.put {p : Addr} {c0 c1 : Cell} {c c' : Cs} (h : PutR p c0 c1 c c') (hw : ∀ F o, CRep F c0 o → CRep F c1 o) : Wk c c' := fun a F H t => by
  obtain ⟨o, ho, r⟩ := t.stt.cel _ h.mem
  have z := t.put h (hw _ _ r)
  rw [upd_id ho] at z
  exact z
theorem Wk.dice {p : Addr} {i j : Int} {c c' : Cs} (h : PutR p (.lst [.frz (.int i), .frz (.int j)]) .dice c c') : Wk c c' := Wk.put h fun F o ⟨xs, e, r⟩ => by
  cases r with
  | cons r1 r =>
    cases r with
    | cons r2 r =>
      cases r
      cases r1.int; cases r2.int
      exact ⟨i, j, e⟩
theorem svs_wk {D : Dn} {sts : List Stmt} {c c' : Cs} (w : Wk c c') (h : SVs a X sts ρ c' D) : SVs a X sts ρ c D := .mk fun σ F H t s => h.run σ F H (w _ _ _ t) s
theorem ev_wk {c c' : Cs} (w : Wk c c') (h : EV a X e ρ c' Q) : EV a X e ρ c Q := .mk fun σ F H t s => h.run σ F H (w _ _ _ t) s
theorem ev_post (h : EV a X e ρ cs fun m c => ∃ c', Wk c c' ∧ Q m c') : EV a X e ρ cs Q := .mk fun σ F H t s => (h.run σ F H t s).mono fun v H1 z => by
  obtain ⟨F1, m, c1, e1, t1, r1, c', w, q⟩ := z
  exact ⟨F1, m, c', e1, w _ _ _ t1, r1, q⟩
theorem tv_post (h : TV a X e ρ cs fun b c => ∃ c', Wk c c' ∧ QT b c') : TV a X e ρ cs QT := .mk fun σ F H t s => (h.run σ F H t s).mono fun v H1 z => by
  obtain ⟨F1, c1, e1, t1, c', w, q⟩ := z
  exact ⟨F1, c', e1, w _ _ _ t1, q⟩
/-! ### slots weakened -/
def ELe (ρ0 ρ : Env) : Prop := ρ0.length = ρ.length ∧ ∀ (i : Nat) (m : Mv), ρ0[i]? = some (some m) → ρ[i]? = some (some m)
theorem ELe.none {n : Nat} (h : ρ.length = n) : ELe (List.replicate n none) ρ := ⟨by simp [h], fun i m e => by
  rw [List.getElem?_replicate] at e
  split at e <;> cases e⟩
theorem ELe.set {ρ0 ρ : Env} (h : ELe ρ0 ρ) (i : Nat) (m : Option Mv) : ELe (ρ0.set i m) (ρ.set i m) := ⟨by simp [h.1], fun j n e => by
  by_cases hj : i = j
  · subst hj
    rw [List.getElem?_set] at e ⊢
    simp only [↓reduceIte] at e ⊢
    rw [← h.1]; exact e
  · rw [List.getElem?_set_ne hj] at e ⊢
    exact h.2 j n e⟩
theorem ELe.rep {ρ0 ρ : Env} (h : ELe ρ0 ρ) {F : Hp} {σ : L2.St} (s : RepS F ρ σ) : RepS F ρ0 σ := ⟨h.1.trans s.1, fun i m e => s.2 i m (h.2 i m e)⟩
theorem svs_le {D : Dn} {sts : List Stmt} {ρ0 ρ : Env} (l : ELe ρ0 ρ) (h : SVs a X sts ρ0 cs D) : SVs a X sts ρ cs D := .mk fun σ F H t s => h.run σ F H t (l.rep s)
/-! ### list comprehensions, the sides filled in -/
section
variable {scope : Scope} {elt iter c : Expr} {x : Str} {px : Pos}
theorem ev_lcN {N ps : List Str} {sc : Scope} (S : FnScope N ps sc) (h : IV a X (.Name x px) iter ρ cs fun its G c1 => ∀ L, L ∉ ads c1 → LcLoop a its G L c1 (turn1 a X scope .none elt ρ [N.idxOf x] (N.idxOf x) L) Q) (eN : X.N = N := by rfl) (es : X.env.scope = sc := by rfl) (hc : X.calm = true := by rfl) (ok : blkC N sc scope [(x, N.idxOf x)] = true := by decide +kernel) (hj : N[N.idxOf x]? = some x := by rfl)
    (hg : ∀ s0 H0 C cl fp, PG (Blk X scope s0 H0 C cl fp) (.Name x px) (gName (N.idxOf x)) := by intro s0 H0 C cl fp; exact pg_name (by assumption) rfl (Or.inl rfl) (Or.inr rfl)) (hs : ∀ x, foldedSetIterable iter X.env x = pure x := by intro _; rfl) : EV a X (.ListComp elt [⟨.Name x px, iter, [], 0⟩] scope pos) ρ cs Q :=
  ev_lc1 .none (own := [(x, N.idxOf x)]) hc (by rw [eN]; exact S.nd) (blkOk_by (by rw [eN, es]; exact ok)) (by rw [eN]; exact hj) List.mem_cons_self h hg hs
theorem ev_lcI {N ps : List Str} {sc : Scope} (S : FnScope N ps sc) (h : IV a X (.Name x px) iter ρ cs fun its G c1 => ∀ L, L ∉ ads c1 → LcLoop a its G L c1 (turn1 a X scope (.one c) elt ρ [N.idxOf x] (N.idxOf x) L) Q) (eN : X.N = N := by rfl) (es : X.env.scope = sc := by rfl) (hc : X.calm = true := by rfl) (ok : blkC N sc scope [(x, N.idxOf x)] = true := by decide +kernel) (hj : N[N.idxOf x]? = some x := by rfl)
    (hg : ∀ s0 H0 C cl fp, PG (Blk X scope s0 H0 C cl fp) (.Name x px) (gName (N.idxOf x)) := by intro s0 H0 C cl fp; exact pg_name (by assumption) rfl (Or.inl rfl) (Or.inr rfl)) (hs : ∀ x, foldedSetIterable iter X.env x = pure x := by intro _; rfl) : EV a X (.ListComp elt [⟨.Name x px, iter, [c], 0⟩] scope pos) ρ cs Q :=
  ev_lc1 (.one c) (own := [(x, N.idxOf x)]) hc (by rw [eN]; exact S.nd) (blkOk_by (by rw [eN, es]; exact ok)) (by rw [eN]; exact hj) List.mem_cons_self h hg hs
end
end
end Z

/-! Zh: more statements and built-ins. -/
namespace Z
open PySem PySem.Spec PyProof.Rows L2
section
variable {a : An} {X : Cx} {ρ : Env} {cs : Cs} {Q : Mv → Cs → Prop} {QT : Bool → Cs → Prop} {QE : Env → Cs → Prop} {QA : List Mv → Cs → Prop} {pos apos : Pos} {e l r b o elt e1 e2 e3 tg : Expr} {es : List Expr} {f : Str} {D : Dn} {st : Stmt} {sts sts' : List Stmt} {N ps : List Str} {sc : Scope} {x y z : Str}
theorem IxM.dk {l : List (Key × Dv)} {k : Str} {d : Dv} (h : lookK (.inr k) l = some d) : IxM cs (.frz (.dct l)) (.frz (.str k)) (.frz d) := .dct (k := .inr k) (by
  have z : DctM cs (.inr k) (.frz (.dct l)) ((lookK (.inr k) l).map Mv.frz) := .frz
  rw [h] at z; exact z)
theorem IxM.dc {p : Addr} {l : List (Key × Mv)} {k : Str} {m : Mv} (hm : (p, Cell.dct l) ∈ cs) (h : lookK (.inr k) l = some m) : IxM cs (.cel p) (.frz (.str k)) m := .dct (k := .inr k) (by
  have z : DctM cs (.inr k) (.cel p) (lookK (.inr k) l) := .cel hm
  rw [h] at z; exact z)
theorem sv_p2 {px py pt : Pos} {kt k2 pt2} (S : FnScope N ps sc) (h : EV a X l ρ cs fun m c1 => EV a X r ρ c1 fun n c2 => D.nx ((ρ.set (N.idxOf x) (some m)).set (N.idxOf y) (some n)) c2) (eN : X.N = N := by rfl) (hc : X.calm = true := by rfl) (hi : N[N.idxOf x]? = some x := by rfl) (hj : N[N.idxOf y]? = some y := by rfl) (hij : N.idxOf x ≠ N.idxOf y := by decide)
    (hx : X.env.scope.names.lookup x = some .local := by rfl) (hy : X.env.scope.names.lookup y = some .local := by rfl) (hw : swappedStores [.Tuple [.Name x px, .Name y py] kt pt] (.Tuple [l, r] k2 pt2) X.env = pure (some [x, y]) := by rfl)
    (hs : swapsWithSole [.Tuple [.Name x px, .Name y py] kt pt] (.Tuple [l, r] k2 pt2) pos.line X.env = pure false := by rfl) (h1 : starEach (l :: [r]) X.env = (false, eval l X.env) :: starEach [r] X.env := by rfl) (h2 : starEach (r :: []) X.env = (false, eval r X.env) :: starEach [] X.env := by rfl) :
    SV a X (.Assign [.Tuple [.Name x px, .Name y py] kt pt] (.Tuple [l, r] k2 pt2) pos) ρ cs D := sv_par _ _ hc (by rw [eN]; exact S.nd) (by rw [eN]; exact hi) (by rw [eN]; exact hj) hij hx hy hw h hs h1 h2
theorem sv_p3 {px py pz pt : Pos} {kt k2 pt2} (S : FnScope N ps sc) (h : EV a X e1 ρ cs fun m c1 => EV a X e2 ρ c1 fun n c2 => EV a X e3 ρ c2 fun q c3 => D.nx (((ρ.set (N.idxOf x) (some m)).set (N.idxOf y) (some n)).set (N.idxOf z) (some q)) c3) (eN : X.N = N := by rfl) (hc : X.calm = true := by rfl)
    (hi : N[N.idxOf x]? = some x := by rfl) (hj : N[N.idxOf y]? = some y := by rfl) (hk : N[N.idxOf z]? = some z := by rfl) (hij : N.idxOf x ≠ N.idxOf y := by decide) (hik : N.idxOf x ≠ N.idxOf z := by decide) (hjk : N.idxOf y ≠ N.idxOf z := by decide)
    (hx : X.env.scope.names.lookup x = some .local := by rfl) (hy : X.env.scope.names.lookup y = some .local := by rfl) (hz : X.env.scope.names.lookup z = some .local := by rfl) (hw : swappedStores [.Tuple [.Name x px, .Name y py, .Name z pz] kt pt] (.Tuple [e1, e2, e3] k2 pt2) X.env = pure (some [x, y, z]) := by rfl)
    (hs : swapsWithSole [.Tuple [.Name x px, .Name y py, .Name z pz] kt pt] (.Tuple [e1, e2, e3] k2 pt2) pos.line X.env = pure false := by rfl) (h1 : starEach (e1 :: [e2, e3]) X.env = (false, eval e1 X.env) :: starEach [e2, e3] X.env := by rfl) (h2 : starEach (e2 :: [e3]) X.env = (false, eval e2 X.env) :: starEach [e3] X.env := by rfl)
    (h3 : starEach (e3 :: []) X.env = (false, eval e3 X.env) :: starEach [] X.env := by rfl) : SV a X (.Assign [.Tuple [.Name x px, .Name y py, .Name z pz] kt pt] (.Tuple [e1, e2, e3] k2 pt2) pos) ρ cs D := .mk fun σ F H t s => by
  refine WS.of (ps_par3 hc (by rw [eN]; exact S.nd) (by rw [eN]; exact hi) (by rw [eN]; exact hj) (by rw [eN]; exact hk) hij hik hjk hx hy hz (pa_cons (pe e1) (pa_cons (pe e2) (pa_cons (pe e3) pa_nil h3) h2) h1) hw hs) ((h.run σ F H t s).mono fun v H1 z => ?_)
  obtain ⟨F1, m, c1, e1, t1, r1, q⟩ := z
  refine (q.run σ F1 H1 t1 (s.mono e1)).mono fun u H2 z => ?_
  obtain ⟨F2, n, c2, e2, t2, r2, q⟩ := z
  refine (q.run σ F2 H2 t2 (s.mono (e1.trans e2))).mono fun w H3 z => ?_
  obtain ⟨F3, k, c3, e3, t3, r3, q⟩ := z
  exact ⟨v, u, w, rfl, F3, _, c3, (e1.trans e2).trans e3, t3, (((s.mono ((e1.trans e2).trans e3)).set (r1.mono (e2.trans e3))).set (r2.mono e3)).set r3, q⟩
theorem IV.mono {Q Q' : List ItM → (Cs → Prop) → Cs → Prop} (h : IV a X tg e ρ cs Q) (i : ∀ its G c, Q its G c → Q' its G c) : IV a X tg e ρ cs Q' := .mk fun σ F H t s => (h.run σ F H t s).mono fun J H1 z => by
  obtain ⟨F1, c1, its, G, e1, t1, wk, q⟩ := z
  exact ⟨F1, c1, its, G, e1, t1, wk, i _ _ _ q⟩
/-- a loop over the items its by an invariant -/
def Lp1 (a : An) (X : Cx) (sts : List Stmt) (j : Nat) (ρ : Env) (D : Dn) (its : List ItM) (G : Cs → Prop) (c1 : Cs) : Prop := ∃ P : Nat → Env → Cs → Prop, P 0 ρ c1 ∧ (∀ i ρ' c', i ≤ its.length → P i ρ' c' → G c') ∧
      (∀ i it ρ' c', its[i]? = some it → P i ρ' c' → ∃ m, it = .one m ∧ SVs a X sts (ρ'.set j (some m)) c' { nx := P (i + 1), rt := D.rt, bk := D.nx, ct := P (i + 1) }) ∧ ∀ ρ' c', P its.length ρ' c' → D.nx ρ' c'
def Lp2 (a : An) (X : Cx) (sts : List Stmt) (j k : Nat) (ρ : Env) (D : Dn) (its : List ItM) (G : Cs → Prop) (c1 : Cs) : Prop := ∃ P : Nat → Env → Cs → Prop, P 0 ρ c1 ∧ (∀ i ρ' c', i ≤ its.length → P i ρ' c' → G c') ∧
      (∀ i it ρ' c', its[i]? = some it → P i ρ' c' → ∃ m n, it = .two m n ∧ SVs a X sts ((ρ'.set j (some m)).set k (some n)) c' { nx := P (i + 1), rt := D.rt, bk := D.nx, ct := P (i + 1) }) ∧ ∀ ρ' c', P its.length ρ' c' → D.nx ρ' c'
/-- for x in ..: the name -/
theorem sv_for1 {px : Pos} (S : FnScope N ps sc) (h : IV a X (.Name x px) e ρ cs fun its G c1 => Lp1 a X sts (N.idxOf x) ρ D its G c1)
    (eN : X.N = N := by rfl) (hc : X.calm = true := by rfl) (hp : PassesOwn (model X.prog X.w) X.A X.env X.xe := by exact PassesOwn.never) (hi : N[N.idxOf x]? = some x := by rfl) (hx : Loc X.env.scope x := by first | exact Or.inl rfl | exact Or.inr rfl) (hf : X.fn x = true ∨ X.env.scope.names.lookup x = some .local := by first | exact .inl rfl | exact .inr rfl | assumption)
    (hs : ∀ x, foldedSetIterable e X.env x = pure x := by intro _; rfl) : SV a X (.For (.Name x px) e sts [] pos) ρ cs D :=
  sv_for hp hc (h.mono fun its G c1 ⟨P, p0, pG, st, dn⟩ => ⟨P, p0, pG, fun i it ρ' c' hi' hP => by
    obtain ⟨m, rfl, z⟩ := st i it ρ' c' hi' hP
    exact gi_one (gv_name _ (by rw [eN]; exact S.nd) (by rw [eN]; exact hi) hx z hf), dn⟩) hs
/-- for x, y in ..: two names -/
theorem sv_for2 {px py pt : Pos} {kt : Nat} (S : FnScope N ps sc) (h : IV a X (.Tuple [.Name x px, .Name y py] kt pt) e ρ cs fun its G c1 => Lp2 a X sts (N.idxOf x) (N.idxOf y) ρ D its G c1)
    (eN : X.N = N := by rfl) (hc : X.calm = true := by rfl) (hp : PassesOwn (model X.prog X.w) X.A X.env X.xe := by exact PassesOwn.never) (hi : N[N.idxOf x]? = some x := by rfl) (hj : N[N.idxOf y]? = some y := by rfl) (hx : Loc X.env.scope x := by first | exact Or.inl rfl | exact Or.inr rfl) (hy : Loc X.env.scope y := by first | exact Or.inl rfl | exact Or.inr rfl)
    (hf : X.fn x = true ∨ X.env.scope.names.lookup x = some .local := by first | exact .inl rfl | exact .inr rfl | assumption) (hg : X.fn y = true ∨ X.env.scope.names.lookup y = some .local := by first | exact .inl rfl | exact .inr rfl | assumption)
    (hl : (assignEach [.Name x px, .Name y py] X.env).length = 2 := by rfl) (hst : (assignEach [.Name x px, .Name y py] X.env).findIdx? (·.1) = none := by rfl)
    (h1 : (assignEach (.Name x px :: [.Name y py]) X.env).map (·.2) = assign (.Name x px) X.env :: (assignEach [.Name y py] X.env).map (·.2) := by rfl) (h2 : (assignEach (.Name y py :: []) X.env).map (·.2) = assign (.Name y py) X.env :: (assignEach [] X.env).map (·.2) := by rfl)
    (hs : ∀ x, foldedSetIterable e X.env x = pure x := by intro _; rfl) : SV a X (.For (.Tuple [.Name x px, .Name y py] kt pt) e sts [] pos) ρ cs D :=
  sv_for hp hc (h.mono fun its G c1 ⟨P, p0, pG, st, dn⟩ => ⟨P, p0, pG, fun i it ρ' c' hi' hP => by
    obtain ⟨m, n, rfl, z⟩ := st i it ρ' c' hi' hP
    exact gi_two hc hl (gvs_cons (gv_name _ (by rw [eN]; exact S.nd) (by rw [eN]; exact hi) hx (gvs_cons (gv_name _ (by rw [eN]; exact S.nd) (by rw [eN]; exact hj) hy (gvs_nil z) hg) h2) hf) h1) hst, dn⟩) hs
end
end Z

/-! Ze: enumerate over lists, tuples. -/
namespace Z
open PySem PySem.Spec PyProof.Rows L2
open PySem.Sem (wp)
theorem drawsT {pr : Program} {wo : World} {Ar : Around} (hn : Ar.handled = none) (I T : Addr) (hd : T ≠ I) (vs : Array Value) : Draws pr wo Ar I [I, T] vs.size (fun i v => vs[i]? = some v) (fun i h => h.IsTupleIter I T i ∧ h.IsTuple T vs) :=
  { live := fun _ _ z => ⟨_, z.1.choose_spec.1⟩
    frame := fun _ _ _ z k => ⟨z.1.at fun o e => k I (by simp) o e, by
      obtain ⟨o, ho, r⟩ := z.2
      exact ⟨o, k T (by simp) o ho, r⟩⟩
    item := fun i s Q E hi z q => RZ.nextOf_tuple_item z.1 z.2 (x := vs[i]) (by simp [hi]) fun h' z' b => q _ h' s.toks (by simp [hi]) ⟨z', z.2.extBut b.extBut hd⟩ b
    done := fun s Q E z q => RZ.nextOf_tuple_end hn z.1 z.2 (by simp) q }
theorem meets_enumT (T : Addr) (vs : Array Value) (n : Nat) (dct : Option Addr) (sl : Array (Option Value)) :
    Meets (Builtin.«enumerate.__new__» ⟨[.type "enumerate", .ref T], []⟩) (fun _ R s => s.heap.get? T = some { cls := .type "tuple", dict := dct, data := .seq vs n, slots := sl } ∧
      R (.ok (.ret (.ref (s.heap.push { cls := .type "tuple_iterator", data := .fields #[.ref T, .int 0 0] }).objs.size)))
        { s with heap := (s.heap.push { cls := .type "tuple_iterator", data := .fields #[.ref T, .int 0 0] }).push { cls := .type "enumerate", data := .fields #[.none, .bool false, .ref s.heap.objs.size, rawInt 0, .none, .none] } }) :=
  .of_wp fun pr wo Ar R s z => by
    obtain ⟨hp, g, d, tk, os⟩ := s
    obtain ⟨hT, z⟩ := z
    have hsb := sub_enumerate
    have hL : Heap.IsTuple (Shared.heap ⟨hp, g, d, tk, os⟩) T vs := ⟨_, hT, rfl, n, rfl⟩
    wp_walk using PySem.AutoSeq1.wpAny_loadPart' hT
    refine wpAny_stack_any fun stk => wpAny_pure ?_
    split
    · rename_i c _ _ _ _ _
      cases (c == Value.type "enumerate") <;> (wp_walk using PySem.AutoSeq1.wpAny_loadPart' hT, wpAny_pyIter_tuple hL; exact ⟨_, rfl, z⟩)
    · wp_walk using PySem.AutoSeq1.wpAny_loadPart' hT, wpAny_pyIter_tuple hL
      exact ⟨_, rfl, z⟩
section
variable {pr : Program} {wo : World} {Ar : Around} {E : Value → Shared → Prop} {s : Shared}
theorem call_enumT {T : Addr} {vs : Array Value} {Q : Value → Shared → Prop} (hT : s.heap.IsTuple T vs)
    (k : ∀ h', IsEnum h' (s.heap.objs.size + 1) s.heap.objs.size 0 .none → h'.IsTupleIter s.heap.objs.size T 0 → (∀ b o, s.heap.get? b = some o → h'.get? b = some o) → Q (.ref (s.heap.objs.size + 1)) { s with heap := h' }) :
    wpAny (model pr wo) Ar (call (.type "enumerate") [.ref T]) Q E s := by
  obtain ⟨⟨c, dct, dt, sl⟩, hg, e1, n, e2⟩ := hT
  have e1' : c = .type "tuple" := e1
  have e2' : dt = .seq vs n := e2
  subst e1' e2'
  refine callType_new F.called_enumerate (by decide) (F.typeCall_enumerate_1 _) (F.newCall_enumerate_1 _) (fun obj => F.args_object_init_2 obj _) F.entry_enumerate_new (meets_enumT T vs n dct sl) ⟨hg, ?_⟩
  have size1 : (s.heap.push { cls := .type "tuple_iterator", data := .fields #[.ref T, .int 0 0] }).objs.size = s.heap.objs.size + 1 := Heap.size_push ..
  show _ ∧ _
  rw [size1]
  have isE : IsEnum ((s.heap.push { cls := .type "tuple_iterator", data := .fields #[.ref T, .int 0 0] }).push { cls := .type "enumerate", data := .fields #[.none, .bool false, .ref s.heap.objs.size, rawInt 0, .none, .none] }) (s.heap.objs.size + 1) s.heap.objs.size 0 .none := by
    have z := Heap.get?_push_size (s.heap.push { cls := .type "tuple_iterator", data := .fields #[.ref T, .int 0 0] }) (o := { cls := .type "enumerate", data := .fields #[.none, .bool false, .ref s.heap.objs.size, rawInt 0, .none, .none] }) rfl
    rw [size1] at z
    exact z
  exact ⟨⟨_, isE, rfl⟩, k _ isE ⟨_, Heap.get?_push_of_some _ (Heap.get?_push_size _ rfl), rfl, rfl⟩ fun b o y => Heap.get?_push_of_some _ (Heap.get?_push_of_some _ y)⟩
end
/-- the tuple at a as it stands at each turn, each item in a new pair -/
def IteT (K : PySem.W.Frag) (a : Addr) : It :=
  ⟨fun i H => ∃ (ys : List V) (y : V), SqT K H a ys ∧ ys[i]? = some y, fun i H v H' => ∃ T y, v = .ref T ∧ H T = none ∧ H' = upd H T (.tup [.int (i : Nat), y]) ∧ ∀ ys, SqT K H a ys → ys[i]? = some y, fun i H => ∃ ys : List V, SqT K H a ys ∧ ys.length = i⟩
theorem turn_enumT {P : Program} {w : World} {K : PySem.W.Frag} {els : List Expr} {kt : Nat} {ptg : Pos} (t e I0 : Addr) (hd : t ≠ I0) (hde : t ≠ e) :
    Turn P w K (.Tuple els kt ptg) (IteT K t) [e, I0] e (fun i h => (∃ old, IsEnum h e I0 ((i : Nat) : Int) old) ∧ h.IsTupleIter I0 t i ∧ e ≠ I0) where
  mem := by simp
  obj := fun i h z b hb => by
    obtain ⟨⟨old, h1⟩, ⟨o, h2, _, h3⟩, _⟩ := z
    rcases (by simpa using hb : b = e ∨ b = I0) with y | y
    · rw [y]; exact ⟨_, h1, fun v q => nomatch q⟩
    · rw [y]; exact ⟨o, h2, fun v q => by rw [h3] at q; cases q⟩
  keep := fun i h h' z k => let ⟨⟨old, h1⟩, h2, h3⟩ := z; ⟨⟨old, k e (by simp) _ h1⟩, h2.at fun o q => k I0 (by simp) o q, h3⟩
  item := by
    intro X e1 e2 e3 hc i pins s σ H E I hf z hg
    subst e1 e2 e3
    obtain ⟨⟨old, h1⟩, h2, h3⟩ := z
    obtain ⟨ys, y, hq, hy⟩ := hg
    obtain ⟨its, rv, p, _⟩ := I.tuple hq
    obtain ⟨u, hu, ru⟩ := rv.get hy
    have le : e < s.heap.objs.size := Heap.lt_size h1
    have lI : I0 < s.heap.objs.size := by obtain ⟨_, q, _⟩ := h2; exact Heap.lt_size q
    have pT : s.heap.IsTuple t its.toArray := p
    have hlt : i < its.toArray.size := by
      rw [List.size_toArray]
      exact (List.getElem?_eq_some_iff.mp hu).1
    refine wpAny_pyNext_enum_itemD (drawsT (show X.A.in1.handled = none from I.ok.hd hc) I0 t hd its.toArray) h1 ⟨h2, pT⟩ hlt h3 (by simp [h3, Ne.symm hde]) fun x h' tk px ho z2 hT _ hk => ?_
    have ex : x = u := by
      have : its.toArray[i]? = some u := by simpa using hu
      rw [px] at this
      exact Option.some.inj this
    subst ex
    refine ⟨_, rfl, wpAny_letOwnedTupleGo_enum (s := { s with heap := h', toks := tk + 1 }) ho fun h'' he' sb => ?_⟩
    have hT2 : h''.get? s.heap.objs.size = some { cls := .type "tuple", data := .seq #[.int i tk, x] } := (sb.2 _ (Nat.ne_of_gt le)).trans hT
    have new : ObjOk X.prog X.w (upd H s.heap.objs.size (.tup [.int (i : Nat), y])) h'' s.heap.objs.size (.tup [.int (i : Nat), y]) :=
      ⟨(by decide : 2 ≤ sizeLine), [.int i tk, x], .cons ⟨_, rfl⟩ (.cons ru .nil), ⟨_, hT2, rfl, _, rfl⟩⟩
    have I1 : Inv X pins σ (upd H s.heap.objs.size (.tup [.int (i : Nat), y])) { s with heap := h'', toks := tk + 1 } :=
      I.turnedNew (ch := [e, I0]) (fun b ob hb q => (sb.2 b (fun z => hb (by simp [z]))).trans (hk b ob (fun z => hb (by simp [z])) (fun z => hb (by simp [z])) q)) hf (Nat.le_refl _) new
    refine ⟨.ref s.heap.objs.size, _, I1, rfl, ⟨_, y, rfl, I.hok.fresh (Nat.le_refl _), rfl, fun zs hz => by rw [I.tuple_inj hz hq]; exact hy⟩, ⟨⟨x, ?_⟩, z2.1.at fun o q => (sb.2 I0 (Ne.symm h3)).trans q, h3⟩, fun b hb => ?_⟩
    · rw [show ((i + 1 : Nat) : Int) = (i : Int) + 1 by omega]; exact he'
    · have hb' : b < s.heap.objs.size := by
        rcases (by simpa using hb : b = e ∨ b = I0) with y | y <;> (rw [y]; assumption)
      rw [upd_ne (Nat.ne_of_lt hb')]
      exact (hf b hb).1
  done := by
    intro X e1 e2 e3 hc i pins s σ H E I hf z hg
    subst e1 e2 e3
    obtain ⟨⟨old, h1⟩, h2, h3⟩ := z
    obtain ⟨ys, hq, hy⟩ := hg
    obtain ⟨its, rv, p, _⟩ := I.tuple hq
    obtain ⟨f0, f1, f2, f3, f4, f5⟩ := hf I0 (by simp)
    have pT : s.heap.IsTuple t its.toArray := p
    have en : i = its.toArray.size := by rw [← hy, rv.length, List.size_toArray]
    subst en
    exact wpAny_pyNext_enum_endD (drawsT (show X.A.in1.handled = none from I.ok.hd hc) I0 t hd its.toArray) h1 ⟨h2, pT⟩ fun h' eb => ⟨rfl, I.turned (t' := s.toks) (fun b o hb q => eb b o hb q) f0 f1 f3 f4 f5⟩
  self := fun A i s Q E z h => let ⟨⟨_, h1⟩, _⟩ := z; wpAny_pyIter_enum h1 h
def iEnumT (K : PySem.W.Frag) (ta : TA) : TI := fun σ H R => ta σ H fun vs H1 => ∃ a xs, vs = [.ref a] ∧ SqT K H1 a xs ∧ R (IteT K a) H1
theorem pi_enumT {X : Cx} {e : Expr} {ta : TA} {p pos tpos : Pos} {els : List Expr} {kt : Nat} (hg : Gl X "enumerate") (hm : X.mg "enumerate" = none) (ha : PA X [e] ta) (hs : starEach [e] X.env = [(false, eval e X.env)] := by rfl) : PI X (.Tuple els kt tpos) (.Call (.Name "enumerate" p) [e] [] pos) (iEnumT X.K ta) := by
  refine ⟨fun pins s σ H R I h => Call_ (ld_blt I hg hm boot_enumerate (PyProof.Rows.callWith_type1 (thn (ha.run pos pins s σ H _ I h) fun us s1 ⟨vs, H1, I1, r1, q1⟩ => ?_) hs rfl))⟩
  obtain ⟨t, ys, rfl, hq, q⟩ := q1
  cases r1 with
  | cons r rr =>
    cases rr
    cases r
    obtain ⟨its, rv, p', _⟩ := I1.tuple hq
    have pT : s1.heap.IsTuple t its.toArray := p'
    have lt : t < s1.heap.objs.size := by obtain ⟨_, q, _⟩ := pT; exact Heap.lt_size q
    refine call_enumT pT fun h' he hit hk => wpAny_pyIter_enum he ?_
    have I2 : Inv X pins σ H1 { s1 with heap := h' } := I1.kept (t' := s1.toks) hk
    refine ⟨_, [s1.heap.objs.size + 1, s1.heap.objs.size], _, _, H1, rfl, I2, turn_enumT t (s1.heap.objs.size + 1) s1.heap.objs.size (Nat.ne_of_lt lt) (Nat.ne_of_lt (Nat.lt_succ_of_lt lt)), ⟨⟨.none, he⟩, hit, Nat.succ_ne_self _⟩, fun b hb => ?_, q⟩
    have hle : s1.heap.objs.size ≤ b := by
      rcases (by simpa using hb : b = s1.heap.objs.size + 1 ∨ b = s1.heap.objs.size) with z | z <;> (rw [z]; first | exact Nat.le_add_right _ _ | exact Nat.le_refl _)
    exact I1.fpOk hle (I1.hok.fresh hle)
section
variable {a : An} {X : Cx} {ρ : Env} {cs : Cs} {Q : List ItM → (Cs → Prop) → Cs → Prop} {pos tpos : Pos} {e : Expr} {els : List Expr} {kt : Nat}
theorem at_newT {F H H' : Hp} {T : Addr} {i : Int} {x : V} {m : Mv} (t : At a F H cs) (h : H T = none) (e : H' = upd H T (.tup [.int i, x])) (r : RepM F m x) : ∃ F2, Ex F F2 ∧ At a F2 H' cs ∧ RepIt F2 (.two (.frz (.int i)) m) (.ref T) := by
  subst e
  have e1 : Ex F (upd F T (.tup [.int i, x])) := Ex.new (t.stt.sub.out h)
  exact ⟨_, e1, t.newF h, T, .int i, x, rfl, upd_same, Rep.int i, r.mono e1⟩
theorem iv_enum {p : Pos} (h : EV a X e ρ cs fun m c1 => ∃ ms, LstM c1 m ms ∧ Q (ms.mapIdx fun i m => ItM.two (.frz (.int (i : Nat))) m) (fun c => LstM c m ms) c1) (hm : X.mg "enumerate" = none) (hg : Gl X "enumerate" := by rfl) (hs : starEach [e] X.env = [(false, eval e X.env)] := by rfl) :
    IV a X (.Tuple els kt tpos) (.Call (.Name "enumerate" p) [e] [] pos) ρ cs Q := .mk fun σ F H t s => by
  refine WI.of (pi_enum hg hm (pa_cons (pe e) pa_nil hs) hs) ((h.run σ F H t s).mono fun v H1 z => ?_)
  obtain ⟨F1, m, c1, e1, t1, r1, ms, hl, q⟩ := z
  obtain ⟨p, xs, rfl, hp, rs⟩ := hl.sq t1 r1
  refine ⟨p, xs, rfl, SqL.of hp, F1, c1, _, _, e1, t1, ⟨fun F2 H2 c i e2 t2 g hi => ?_, fun F2 H2 c i it x H' e2 t2 g hi y => ?_, fun F2 H2 c e2 t2 g => ?_⟩, q⟩
  · obtain ⟨p', ys, e3, hp', rs'⟩ := g.sq t2 (r1.mono e2)
    cases e3
    rw [List.length_mapIdx] at hi
    have hl2 := rs'.length
    exact ⟨ys, ys[i]'(by omega), SqL.of hp', by simp⟩
  · obtain ⟨p', ys, e3, hp', rs'⟩ := g.sq t2 (r1.mono e2)
    cases e3
    obtain ⟨T, x', rfl, hT, e4, y⟩ := y
    rw [List.getElem?_mapIdx] at hi
    obtain ⟨m', hm', rfl⟩ := Option.map_eq_some_iff.mp hi
    obtain ⟨v', hv', rv'⟩ := rs'.get hm'
    have hx := y ys (SqL.of hp')
    rw [hv'] at hx
    cases hx
    exact at_newT t2 hT e4 rv'
  · obtain ⟨p', ys, e3, hp', rs'⟩ := g.sq t2 (r1.mono e2)
    cases e3
    have hl2 := rs'.length
    exact ⟨ys, SqL.of hp', by rw [List.length_mapIdx]; omega⟩
theorem iv_enumT {p : Pos} (h : EV a X e ρ cs fun m c1 => ∃ ms, TupM c1 m ms ∧ Q (ms.mapIdx fun i m => ItM.two (.frz (.int (i : Nat))) m) (fun c => TupM c m ms) c1) (hm : X.mg "enumerate" = none) (hg : Gl X "enumerate" := by rfl) (hs : starEach [e] X.env = [(false, eval e X.env)] := by rfl) :
    IV a X (.Tuple els kt tpos) (.Call (.Name "enumerate" p) [e] [] pos) ρ cs Q := .mk fun σ F H t s => by
  refine WI.of (pi_enumT hg hm (pa_cons (pe e) pa_nil hs) hs) ((h.run σ F H t s).mono fun v H1 z => ?_)
  obtain ⟨F1, m, c1, e1, t1, r1, ms, hl, q⟩ := z
  obtain ⟨p, xs, rfl, hp, rs⟩ := hl.sq t1 r1
  refine ⟨p, xs, rfl, SqT.of hp, F1, c1, _, _, e1, t1, ⟨fun F2 H2 c i e2 t2 g hi => ?_, fun F2 H2 c i it x H' e2 t2 g hi y => ?_, fun F2 H2 c e2 t2 g => ?_⟩, q⟩
  · obtain ⟨p', ys, e3, hp', rs'⟩ := g.sq t2 (r1.mono e2)
    cases e3
    rw [List.length_mapIdx] at hi
    have hl2 := rs'.length
    exact ⟨ys, ys[i]'(by omega), SqT.of hp', by simp⟩
  · obtain ⟨p', ys, e3, hp', rs'⟩ := g.sq t2 (r1.mono e2)
    cases e3
    obtain ⟨T, x', rfl, hT, e4, y⟩ := y
    rw [List.getElem?_mapIdx] at hi
    obtain ⟨m', hm', rfl⟩ := Option.map_eq_some_iff.mp hi
    obtain ⟨v', hv', rv'⟩ := rs'.get hm'
    have hx := y ys (SqT.of hp')
    rw [hv'] at hx
    cases hx
    exact at_newT t2 hT e4 rv'
  · obtain ⟨p', ys, e3, hp', rs'⟩ := g.sq t2 (r1.mono e2)
    cases e3
    have hl2 := rs'.length
    exact ⟨ys, SqT.of hp', by rw [List.length_mapIdx]; omega⟩
end
end Z

/-! Zi: all, any, sum, sorted of lists; len(set(..)). -/
namespace Z
open PySem PySem.Spec PyProof.Rows L2
section
variable {a : An} {X : Cx} {ρ : Env} {cs : Cs} {Q : Mv → Cs → Prop} {pos : Pos} {e : Expr}
theorem repMs_bls {F : Hp} : ∀ {bs : List Bool} {xs : List V}, RepMs F (bs.map fun b => Mv.frz (.bl b)) xs → xs = bs.map V.bl
  | [], _, .nil => rfl
  | b :: bs, _, .cons r q => by
    have e : _ = V.bl b := RepM.bl r
    rw [e, repMs_bls q]; rfl
theorem repMs_ints {F : Hp} : ∀ {ns : List Int} {xs : List V}, RepMs F (ns.map fun b => Mv.frz (.int b)) xs → xs = ns.map V.int
  | [], _, .nil => rfl
  | b :: bs, _, .cons r q => by
    have e : _ = V.int b := RepM.int r
    rw [e, repMs_ints q]; rfl
theorem repMs_of_ints {F : Hp} : ∀ ns : List Int, RepMs F (ns.map fun b => Mv.frz (.int b)) (ns.map V.int)
  | [] => .nil
  | b :: bs => .cons (Rep.int b) (repMs_of_ints bs)
theorem ev_all {p : Pos} (h : EV a X e ρ cs fun m c1 => ∃ bs : List Bool, LstM c1 m (bs.map fun b => .frz (.bl b)) ∧ Q (.frz (.bl (bs.all id))) c1) (hm : X.mg "all" = none) (hc : X.calm = true := by rfl) (hg : Gl X "all" := by rfl) (hs : starEach (e :: []) X.env = (false, eval e X.env) :: starEach [] X.env := by rfl) (hpl : (backTo pos (starEach [] X.env)).any (·.1) = false := by rfl) :
    EV a X (.Call (.Name "all" p) [e] [] pos) ρ cs Q := ev_B1 (cr_all hc) hg hm (by decide +kernel) (h.mono fun m c1 ⟨bs, hl, q⟩ F0 F H vs e0 t rs => by
  cases rs with
  | cons r rs =>
    cases rs
    obtain ⟨p, xs, rfl, hq, k⟩ := hl.sq t r
    cases repMs_bls k
    exact ⟨p, bs, rfl, SqL.of hq, rt_bl e0 t q⟩) (hs := hs) (hpl := hpl)
theorem ev_any {p : Pos} (h : EV a X e ρ cs fun m c1 => ∃ bs : List Bool, LstM c1 m (bs.map fun b => .frz (.bl b)) ∧ Q (.frz (.bl (bs.any id))) c1) (hm : X.mg "any" = none) (hc : X.calm = true := by rfl) (hg : Gl X "any" := by rfl) (hs : starEach (e :: []) X.env = (false, eval e X.env) :: starEach [] X.env := by rfl) (hpl : (backTo pos (starEach [] X.env)).any (·.1) = false := by rfl) :
    EV a X (.Call (.Name "any" p) [e] [] pos) ρ cs Q := ev_B1 (cr_any hc) hg hm (by decide +kernel) (h.mono fun m c1 ⟨bs, hl, q⟩ F0 F H vs e0 t rs => by
  cases rs with
  | cons r rs =>
    cases rs
    obtain ⟨p, xs, rfl, hq, k⟩ := hl.sq t r
    cases repMs_bls k
    exact ⟨p, bs, rfl, SqL.of hq, rt_bl e0 t q⟩) (hs := hs) (hpl := hpl)
theorem ev_sum {p : Pos} (h : EV a X e ρ cs fun m c1 => ∃ ns : List Int, LstM c1 m (ns.map fun b => .frz (.int b)) ∧ Q (.frz (.int ns.sum)) c1) (hm : X.mg "sum" = none) (hc : X.calm = true := by rfl) (hg : Gl X "sum" := by rfl) (hs : starEach (e :: []) X.env = (false, eval e X.env) :: starEach [] X.env := by rfl) (hpl : (backTo pos (starEach [] X.env)).any (·.1) = false := by rfl) :
    EV a X (.Call (.Name "sum" p) [e] [] pos) ρ cs Q := ev_B1 (cr_sum hc) hg hm (by decide +kernel) (h.mono fun m c1 ⟨bs, hl, q⟩ F0 F H vs e0 t rs => by
  cases rs with
  | cons r rs =>
    cases rs
    obtain ⟨p, xs, rfl, hq, k⟩ := hl.sq t r
    cases repMs_ints k
    exact ⟨p, bs, rfl, SqL.of hq, rt_int e0 t q⟩) (hs := hs) (hpl := hpl)
theorem ev_sortedI {p : Pos} (h : EV a X e ρ cs fun m c1 => ∃ ns : List Int, LstM c1 m (ns.map fun b => .frz (.int b)) ∧ ∀ ys : List Int, ys.Perm ns → ys.Pairwise (· ≤ ·) → ∀ p, p ∉ ads c1 → Q (.cel p) ((p, .lst (ys.map fun b => .frz (.int b))) :: c1)) (hm : X.mg "sorted" = none) (hg : Gl X "sorted" := by rfl)
    (hs : starEach (e :: []) X.env = (false, eval e X.env) :: starEach [] X.env := by rfl) (hpl : (backTo pos (starEach [] X.env)).any (·.1) = false := by rfl) :
    EV a X (.Call (.Name "sorted" p) [e] [] pos) ρ cs Q := ev_B1 cr_sortedI hg hm (by decide +kernel) (h.mono fun m c1 ⟨ns, hl, q⟩ F0 F H vs e0 t rs => by
  cases rs with
  | cons r rs =>
    cases rs
    obtain ⟨p, xs, rfl, hq, k⟩ := hl.sq t r
    cases repMs_ints k
    exact ⟨p, ns, rfl, SqL.of hq, fun ys p hp h1 hn => rt_newC (c := .lst _) e0 t hn ⟨_, rfl, repMs_of_ints ys⟩ (q ys hp h1)⟩) (hs := hs) (hpl := hpl)
/-- each number once, in the order of coming -/
def onceI (ns : List Int) : List Int := ns.foldl PyProof.Rows.step_dedup []
theorem firstMet_all (ns : List Int) : PyProof.Rows.firstMet (fun i => ns.getD i 0) ns.length = onceI ns := by
  unfold PyProof.Rows.firstMet onceI
  congr 1
  apply List.ext_getElem
  · simp
  · intro i h1 h2
    simp only [List.getElem_map, List.getElem_range, List.getD_eq_getElem?_getD]
    rw [List.getElem?_eq_getElem h2]; rfl
theorem onceI_go (ns acc : List Int) (hn : acc.Nodup) : (ns.foldl PyProof.Rows.step_dedup acc).length ≤ acc.length + ns.length ∧ ((ns.foldl PyProof.Rows.step_dedup acc).length = acc.length + ns.length ↔ (acc ++ ns).Nodup) := by
  induction ns generalizing acc with
  | nil => simpa using hn
  | cons n ns ih =>
    rw [List.foldl_cons]
    have e : PyProof.Rows.step_dedup acc n = if acc.any (· == n) then acc else acc ++ [n] := rfl
    rw [e]
    by_cases hm : n ∈ acc
    · have : acc.any (· == n) = true := List.any_eq_true.mpr ⟨n, hm, by simp⟩
      rw [if_pos this]
      have z := ih acc hn
      refine ⟨by simp; omega, fun h => ?_, fun h => ?_⟩
      · simp at h; omega
      · exact absurd rfl ((List.nodup_append.mp h).2.2 n hm n List.mem_cons_self)
    · have : ¬ acc.any (· == n) = true := fun h => by
        obtain ⟨y, hy, e2⟩ := List.any_eq_true.mp h
        rw [eq_of_beq e2] at hy
        exact hm hy
      rw [if_neg this]
      have z := ih (acc ++ [n]) (List.nodup_append.mpr ⟨hn, by simp, fun x hx y hy e3 => hm (by rw [← List.mem_singleton.mp hy, ← e3]; exact hx)⟩)
      simp only [List.length_append, List.length_cons, List.length_nil, List.append_assoc, List.cons_append, List.nil_append] at z ⊢
      exact ⟨by omega, fun h => z.2.mp (by omega), fun h => by have := z.2.mpr h; omega⟩
theorem onceI_le (ns : List Int) : (onceI ns).length ≤ ns.length := by
  have := (onceI_go ns [] List.nodup_nil).1
  simpa [onceI] using this
theorem onceI_nodup (ns : List Int) : (onceI ns).length = ns.length ↔ ns.Nodup := by
  have := (onceI_go ns [] List.nodup_nil).2
  simpa [onceI] using this
def tLenSetA (K : PySem.W.Frag) (ta : TE) : TE := fun σ H Q => ta σ H fun x H1 => ∃ (l : Addr) (ns : List Int), x = V.ref l ∧ SqL K H1 l (ns.map V.int) ∧ ns.length < 64 ∧ Q (.int (onceI ns).length) H1
theorem pe_lenSetA {arg : Expr} {ta : TE} {p p2 q pos : Pos} (hc : X.calm = true) (hg : Gl X "len") (hm : X.mg "len" = none) (hg2 : Gl X "set") (hm2 : X.mg "set" = none) (ha : PE X arg ta)
    (na : starEach [arg] X.env = (false, eval arg X.env) :: starEach [] X.env := by rfl) : PE X (.Call (.Name "len" p) [.Call (.Name "set" p2) [arg] [] q] [] pos) (tLenSetA X.K ta) := by
  refine ⟨fun pins s σ H Q I h => Call_ (ld_blt I hg hm PySem.boot_len (PyProof.Rows.callWith_builtin1 (PyProof.Rows.args_cons ?_ rfl) rfl rfl))⟩
  refine Call_ (ld_blt I hg2 hm2 PyProof.Rows.boot_set (PyProof.Rows.callWith_type1 (PyProof.Rows.args_cons (thn (ha.run pins s σ H _ I h) fun v s1 ⟨x, H1, I1, r1, q1⟩ => PyProof.Rows.args_nil ?_) na) na rfl))
  obtain ⟨l, ns, rfl, hq, h1, q1⟩ := q1
  cases r1
  obtain ⟨its, r, pl, _⟩ := I1.list hq
  have sz : its.toArray.size = ns.length := by rw [List.size_toArray, ← r.length, List.length_map]
  refine PySem.call_set_list (I1.ok.hd hc) pl.isList (ns := ns) (by simpa using r.ints) (by unfold scanBound; omega) fun h' tk hS hk => PyProof.Rows.args_nil ?_
  rw [sz, firstMet_all] at hS
  obtain ⟨o, es, ep, t, ho, hex, hd, _, _, _, hf, hn⟩ := hS
  have I2 : Inv X pins σ H1 { s1 with heap := h', toks := tk } := I1.kept fun b o e => hk b o (Heap.lt_size e) e
  have hle := onceI_le ns
  exact call_len_set ho hex hd hf (by rw [hn] <;> omega) ⟨.int (onceI ns).length, H1, I2.tok _, ⟨_, by rw [hn]⟩, q1⟩
theorem ev_lenSet {p p2 q : Pos} (h : EV a X e ρ cs fun m c1 => ∃ ns : List Int, LstM c1 m (ns.map fun b => .frz (.int b)) ∧ ns.length < 64 ∧ Q (.frz (.int ((onceI ns).length : Nat))) c1) (hm : X.mg "len" = none) (hm2 : X.mg "set" = none) (hc : X.calm = true := by rfl) (hg : Gl X "len" := by rfl) (hg2 : Gl X "set" := by rfl)
    (na : starEach [e] X.env = (false, eval e X.env) :: starEach [] X.env := by rfl) : EV a X (.Call (.Name "len" p) [.Call (.Name "set" p2) [e] [] q] [] pos) ρ cs Q := .mk fun σ F H t s => by
  refine WE.of (pe_lenSetA hc hg hm hg2 hm2 (pe e) na) ((h.run σ F H t s).mono fun v H1 z => ?_)
  obtain ⟨F1, m, c1, e1, t1, r1, ns, hl, h64, q⟩ := z
  obtain ⟨p, xs, rfl, hq, k⟩ := hl.sq t1 r1
  cases repMs_ints k
  exact ⟨p, ns, rfl, SqL.of hq, h64, rt_int e1 t1 q⟩
section
variable {scope : Scope} {elt iter c : Expr} {x y : Str} {px py pt : Pos} {kt : Nat}
theorem ev_lcN2 {N ps : List Str} {sc : Scope} (S : FnScope N ps sc) (h : IV a X (.Tuple [.Name x px, .Name y py] kt pt) iter ρ cs fun its G c1 => ∀ L, L ∉ ads c1 → LcLoop a its G L c1 (turn2 a X scope .none elt ρ [N.idxOf x, N.idxOf y] (N.idxOf x) (N.idxOf y) L) Q) (eN : X.N = N := by rfl) (es : X.env.scope = sc := by rfl) (hc : X.calm = true := by rfl)
    (ok : blkC N sc scope [(x, N.idxOf x), (y, N.idxOf y)] = true := by decide +kernel)
    (hg : ∀ s0 H0 C cl fp, PG (Blk X scope s0 H0 C cl fp) (.Tuple [.Name x px, .Name y py] kt pt) (gTup X.K 2 (gCons (gName (N.idxOf x)) (gCons (gName (N.idxOf y)) gNil))) := by intro s0 H0 C cl fp; exact pg_tup rfl (pgs_cons (pg_name (by assumption) rfl (Or.inl rfl) (Or.inr rfl)) (pgs_cons (pg_name (by assumption) rfl (Or.inl rfl) (Or.inr rfl)) pgs_nil rfl) rfl) rfl rfl)
    (hs : ∀ x, foldedSetIterable iter X.env x = pure x := by intro _; rfl) : EV a X (.ListComp elt [⟨.Tuple [.Name x px, .Name y py] kt pt, iter, [], 0⟩] scope pos) ρ cs Q :=
  ev_lc2 .none (own := [(x, N.idxOf x), (y, N.idxOf y)]) hc (by rw [eN]; exact S.nd) (blkOk_by (by rw [eN, es]; exact ok)) List.mem_cons_self (List.mem_cons_of_mem _ List.mem_cons_self) h hg hs
theorem ev_lcI2 {N ps : List Str} {sc : Scope} (S : FnScope N ps sc) (h : IV a X (.Tuple [.Name x px, .Name y py] kt pt) iter ρ cs fun its G c1 => ∀ L, L ∉ ads c1 → LcLoop a its G L c1 (turn2 a X scope (.one c) elt ρ [N.idxOf x, N.idxOf y] (N.idxOf x) (N.idxOf y) L) Q) (eN : X.N = N := by rfl) (es : X.env.scope = sc := by rfl) (hc : X.calm = true := by rfl)
    (ok : blkC N sc scope [(x, N.idxOf x), (y, N.idxOf y)] = true := by decide +kernel)
    (hg : ∀ s0 H0 C cl fp, PG (Blk X scope s0 H0 C cl fp) (.Tuple [.Name x px, .Name y py] kt pt) (gTup X.K 2 (gCons (gName (N.idxOf x)) (gCons (gName (N.idxOf y)) gNil))) := by intro s0 H0 C cl fp; exact pg_tup rfl (pgs_cons (pg_name (by assumption) rfl (Or.inl rfl) (Or.inr rfl)) (pgs_cons (pg_name (by assumption) rfl (Or.inl rfl) (Or.inr rfl)) pgs_nil rfl) rfl) rfl rfl)
    (hs : ∀ x, foldedSetIterable iter X.env x = pure x := by intro _; rfl) : EV a X (.ListComp elt [⟨.Tuple [.Name x px, .Name y py] kt pt, iter, [c], 0⟩] scope pos) ρ cs Q :=
  ev_lc2 (.one c) (own := [(x, N.idxOf x), (y, N.idxOf y)]) hc (by rw [eN]; exact S.nd) (blkOk_by (by rw [eN, es]; exact ok)) List.mem_cons_self (List.mem_cons_of_mem _ List.mem_cons_self) h hg hs
variable {D : Dn} {spos : Pos}
theorem sv_setLcN {N ps : List Str} {sc : Scope} (S : FnScope N ps sc) (h : IV a X (.Name x px) iter ρ cs fun its G c1 => ∀ L, L ∉ ads c1 → LcLoop a its G L c1 (turn1 a X scope .none elt ρ [N.idxOf x] (N.idxOf x) L) fun m c => D.nx (ρ.set (N.idxOf y) (some m)) c) (eN : X.N = N := by rfl) (es : X.env.scope = sc := by rfl) (hc : X.calm = true := by rfl)
    (hsw : swapsWith (.ListComp elt [⟨.Name x px, iter, [], 0⟩] scope pos) (some (.Name y py)) spos.line X.env = pure true := by rfl) (hy : N[N.idxOf y]? = some y := by rfl) (hyl : X.env.scope.names.lookup y = some .local := by rfl) (ok : blkC N sc scope [(x, N.idxOf x)] = true := by decide +kernel)
    (hg : ∀ s0 H0 C cl fp, PG (Blk X scope s0 H0 C cl fp) (.Name x px) (gName (N.idxOf x)) := by intro s0 H0 C cl fp; exact pg_name (by assumption) rfl (Or.inl rfl) (Or.inr rfl)) (hs : ∀ x, foldedSetIterable iter X.env x = pure x := by intro _; rfl) : SV a X (.Assign [.Name y py] (.ListComp elt [⟨.Name x px, iter, [], 0⟩] scope pos) spos) ρ cs D :=
  sv_setLc1 .none _ (own := [(x, N.idxOf x)]) hc (by rw [eN]; exact S.nd) (by rw [eN]; exact hy) hyl hsw (blkOk_by (by rw [eN, es]; exact ok)) List.mem_cons_self h hg hs
theorem sv_setLcI {N ps : List Str} {sc : Scope} (S : FnScope N ps sc) (h : IV a X (.Name x px) iter ρ cs fun its G c1 => ∀ L, L ∉ ads c1 → LcLoop a its G L c1 (turn1 a X scope (.one c) elt ρ [N.idxOf x] (N.idxOf x) L) fun m c => D.nx (ρ.set (N.idxOf y) (some m)) c) (eN : X.N = N := by rfl) (es : X.env.scope = sc := by rfl) (hc : X.calm = true := by rfl)
    (hsw : swapsWith (.ListComp elt [⟨.Name x px, iter, [c], 0⟩] scope pos) (some (.Name y py)) spos.line X.env = pure true := by rfl) (hy : N[N.idxOf y]? = some y := by rfl) (hyl : X.env.scope.names.lookup y = some .local := by rfl) (ok : blkC N sc scope [(x, N.idxOf x)] = true := by decide +kernel)
    (hg : ∀ s0 H0 C cl fp, PG (Blk X scope s0 H0 C cl fp) (.Name x px) (gName (N.idxOf x)) := by intro s0 H0 C cl fp; exact pg_name (by assumption) rfl (Or.inl rfl) (Or.inr rfl)) (hs : ∀ x, foldedSetIterable iter X.env x = pure x := by intro _; rfl) : SV a X (.Assign [.Name y py] (.ListComp elt [⟨.Name x px, iter, [c], 0⟩] scope pos) spos) ρ cs D :=
  sv_setLc1 (.one c) _ (own := [(x, N.idxOf x)]) hc (by rw [eN]; exact S.nd) (by rw [eN]; exact hy) hyl hsw (blkOk_by (by rw [eN, es]; exact ok)) List.mem_cons_self h hg hs
theorem lcturn_if {i : Ifs} {L : Addr} {acc : List Mv} {NN : List Mv → Cs → Prop} (h : ∀ s0 H0 C cl fp, TV a (Blk X scope s0 H0 C cl fp) c ρ ((L, .lst acc) :: cs) fun b c2 => (b = true → ∀ s0 H0 C cl fp, EV a (Blk X scope s0 H0 C cl fp) elt ρ c2 fun y c3 => ∃ c', c3 = (L, .lst acc) :: c' ∧ acc.length < 100000 ∧ NN (acc ++ [y]) c') ∧ (b = false → ∃ c', c2 = (L, .lst acc) :: c' ∧ NN acc c')) :
    LcTurn a X scope (.one c) elt L ρ acc cs NN := h
theorem lcturn_no {L : Addr} {acc : List Mv} {NN : List Mv → Cs → Prop} (h : ∀ s0 H0 C cl fp, EV a (Blk X scope s0 H0 C cl fp) elt ρ ((L, .lst acc) :: cs) fun y c3 => ∃ c', c3 = (L, .lst acc) :: c' ∧ acc.length < 100000 ∧ NN (acc ++ [y]) c') :
    LcTurn a X scope .none elt L ρ acc cs NN := And.intro (fun _ => h) (fun h => Bool.noConfusion h)
variable {z : Str} {N ps : List Str} {sc : Scope} {sts : List Stmt}
theorem gn {m : Mv} {QE : Env → Cs → Prop} (S : FnScope N ps sc) (q : QE (ρ.set (N.idxOf x) (some m)) cs) (eN : X.N = N) (hi : N[N.idxOf x]? = some x) (hx : Loc X.env.scope x) (hf : X.fn x = true ∨ X.env.scope.names.lookup x = some .local) : GV a X (.Name x px) m ρ cs QE := gv_name _ (by rw [eN]; exact S.nd) (by rw [eN]; exact hi) hx q hf
theorem sv_un2 (S : FnScope N ps sc) (h : EV a X e ρ cs fun m c1 => ∃ m1 m2, TupM c1 m [m1, m2] ∧ D.nx ((ρ.set (N.idxOf x) (some m1)).set (N.idxOf y) (some m2)) c1) (eN : X.N = N := by rfl) (hc : X.calm = true := by rfl) (hi : N[N.idxOf x]? = some x := by rfl) (hj : N[N.idxOf y]? = some y := by rfl)
    (lx : Loc X.env.scope x := by first | exact Or.inl rfl | exact Or.inr rfl) (ly : Loc X.env.scope y := by first | exact Or.inl rfl | exact Or.inr rfl) (fx : X.fn x = true ∨ X.env.scope.names.lookup x = some .local := by first | exact .inl rfl | exact .inr rfl | assumption) (fy : X.fn y = true ∨ X.env.scope.names.lookup y = some .local := by first | exact .inl rfl | exact .inr rfl | assumption)
    (hl : (assignEach [.Name x px, .Name y py] X.env).length = 2 := by rfl) (hst : (assignEach [.Name x px, .Name y py] X.env).findIdx? (·.1) = none := by rfl)
    (h1 : (assignEach (.Name x px :: [.Name y py]) X.env).map (·.2) = assign (.Name x px) X.env :: (assignEach [.Name y py] X.env).map (·.2) := by rfl) (h2 : (assignEach (.Name y py :: []) X.env).map (·.2) = assign (.Name y py) X.env :: (assignEach [] X.env).map (·.2) := by rfl)
    (s1 : swapsWithSole [.Tuple [.Name x px, .Name y py] kt pt] e spos.line X.env = pure false := by rfl) (s2 : swappedStores [.Tuple [.Name x px, .Name y py] kt pt] e X.env = pure none := by rfl) (s3 : (assignEach [.Tuple [.Name x px, .Name y py] kt pt] X.env).map (·.2) = [assign (.Tuple [.Name x px, .Name y py] kt pt) X.env] := by rfl) :
    SV a X (.Assign [.Tuple [.Name x px, .Name y py] kt pt] e spos) ρ cs D :=
  sv_asg (h.mono fun m c1 ⟨m1, m2, hm, q⟩ => gv_tup hc hm hl (gvs_cons (gn S (gvs_cons (gn S (gvs_nil q) eN hj ly fy) h2) eN hi lx fx) h1) hst) s1 s2 s3
theorem sv_un3 {pz : Pos} (S : FnScope N ps sc) (h : EV a X e ρ cs fun m c1 => ∃ m1 m2 m3, TupM c1 m [m1, m2, m3] ∧ D.nx (((ρ.set (N.idxOf x) (some m1)).set (N.idxOf y) (some m2)).set (N.idxOf z) (some m3)) c1) (eN : X.N = N := by rfl) (hc : X.calm = true := by rfl) (hi : N[N.idxOf x]? = some x := by rfl) (hj : N[N.idxOf y]? = some y := by rfl) (hk : N[N.idxOf z]? = some z := by rfl)
    (lx : Loc X.env.scope x := by first | exact Or.inl rfl | exact Or.inr rfl) (ly : Loc X.env.scope y := by first | exact Or.inl rfl | exact Or.inr rfl) (lz : Loc X.env.scope z := by first | exact Or.inl rfl | exact Or.inr rfl) (fx : X.fn x = true ∨ X.env.scope.names.lookup x = some .local := by first | exact .inl rfl | exact .inr rfl | assumption)
    (fy : X.fn y = true ∨ X.env.scope.names.lookup y = some .local := by first | exact .inl rfl | exact .inr rfl | assumption) (fz : X.fn z = true ∨ X.env.scope.names.lookup z = some .local := by first | exact .inl rfl | exact .inr rfl | assumption)
    (hl : (assignEach [.Name x px, .Name y py, .Name z pz] X.env).length = 3 := by rfl) (hst : (assignEach [.Name x px, .Name y py, .Name z pz] X.env).findIdx? (·.1) = none := by rfl)
    (h1 : (assignEach (.Name x px :: [.Name y py, .Name z pz]) X.env).map (·.2) = assign (.Name x px) X.env :: (assignEach [.Name y py, .Name z pz] X.env).map (·.2) := by rfl) (h2 : (assignEach (.Name y py :: [.Name z pz]) X.env).map (·.2) = assign (.Name y py) X.env :: (assignEach [.Name z pz] X.env).map (·.2) := by rfl)
    (h3 : (assignEach (.Name z pz :: []) X.env).map (·.2) = assign (.Name z pz) X.env :: (assignEach [] X.env).map (·.2) := by rfl)
    (s1 : swapsWithSole [.Tuple [.Name x px, .Name y py, .Name z pz] kt pt] e spos.line X.env = pure false := by rfl) (s2 : swappedStores [.Tuple [.Name x px, .Name y py, .Name z pz] kt pt] e X.env = pure none := by rfl) (s3 : (assignEach [.Tuple [.Name x px, .Name y py, .Name z pz] kt pt] X.env).map (·.2) = [assign (.Tuple [.Name x px, .Name y py, .Name z pz] kt pt) X.env] := by rfl) :
    SV a X (.Assign [.Tuple [.Name x px, .Name y py, .Name z pz] kt pt] e spos) ρ cs D :=
  sv_asg (h.mono fun m c1 ⟨m1, m2, m3, hm, q⟩ => gv_tup hc hm hl (gvs_cons (gn S (gvs_cons (gn S (gvs_cons (gn S (gvs_nil q) eN hk lz fz) h3) eN hj ly fy) h2) eN hi lx fx) h1) hst) s1 s2 s3
theorem ev_sl01 {b : Expr} {p2 : Pos} (h : EV a X e ρ cs fun m c1 => EV a X b ρ c1 fun v c2 => ∃ i, v = .frz (.int i) ∧ SlQ c2 Q none (some i) m) : EV a X (.Subscript e (.Slice none (some b) none p2) pos) ρ cs Q := ev_slice .none (.some b) h
theorem ev_sl10 {b : Expr} {p2 : Pos} (h : EV a X e ρ cs fun m c1 => EV a X b ρ c1 fun v c2 => ∃ i, v = .frz (.int i) ∧ SlQ c2 Q (some i) none m) : EV a X (.Subscript e (.Slice (some b) none none p2) pos) ρ cs Q := ev_slice (.some b) .none h
theorem ev_sl11 {b d : Expr} {p2 : Pos} (h : EV a X e ρ cs fun m c1 => EV a X b ρ c1 fun v c2 => ∃ i, v = .frz (.int i) ∧ EV a X d ρ c2 fun w c3 => ∃ j, w = .frz (.int j) ∧ SlQ c3 Q (some i) (some j) m) : EV a X (.Subscript e (.Slice (some b) (some d) none p2) pos) ρ cs Q := ev_slice (.some b) (.some d) h
theorem cutD_take {α : Type} (l : List α) (i : Nat) : cutD l none (some (i : Int)) = l.take i := by
  unfold cutD
  rw [HT.sIx_none, HT.sIx_nat, List.drop_zero, Nat.sub_zero]
  by_cases h : i ≤ l.length
  · rw [Nat.min_eq_left h]
  · rw [Nat.min_eq_right (by omega), List.take_of_length_le (Nat.le_refl _), List.take_of_length_le (by omega)]
theorem cutD_drop {α : Type} (l : List α) (i : Nat) : cutD l (some (i : Int)) none = l.drop i := by
  unfold cutD
  rw [HT.sIx_none, HT.sIx_nat]
  by_cases h : i ≤ l.length
  · rw [Nat.min_eq_left h, List.take_of_length_le (by rw [List.length_drop]; exact Nat.le_refl _)]
  · rw [Nat.min_eq_right (by omega), List.drop_eq_nil_of_le (Nat.le_refl _), List.drop_eq_nil_of_le (by omega), List.take_nil]
theorem ev_tupC {x1 : Nat} {es : List Expr} (h : AV a X es ρ cs fun ms c1 => ms.length ≤ 100000 ∧ ∀ p, p ∉ ads c1 → Q (.cel p) ((p, .tup ms) :: c1)) : EV a X (.Tuple es x1 pos) ρ cs Q := .mk fun σ F H t s => by
  refine WE.of (pe_tup (pa es)) ((h.run σ F H t s).mono fun vs H1 z => ?_)
  obtain ⟨F1, ms, c1, e1, t1, r1, hl, q⟩ := z
  exact ⟨by rw [← r1.length]; exact Nat.le_trans hl (by decide), fun p hp => rt_newC (c := .tup ms) e1 t1 hp ⟨_, rfl, r1⟩ q⟩
theorem sv_wkE {st : Stmt} (h : SV a X st ρ cs { D with nx := fun ρ' c' => ∃ c, Wk c' c ∧ D.nx ρ' c }) : SV a X st ρ cs D := .mk fun σ F H t s => (h.run σ F H t s).mono ⟨fun σ' H' z => by
    obtain ⟨F', ρ', c', e', t', s', c, w, q⟩ := z
    exact ⟨F', ρ', c, e', w _ _ _ t', s', q⟩, fun _ _ z => z, fun _ _ z => z, fun _ _ z => z⟩
theorem sv_c2 {l r : Expr} {k2 : Nat} {pt2 : Pos} (S : FnScope N ps sc) (h : EV a X l ρ cs fun m c1 => EV a X r ρ c1 fun n c2 => D.nx ((ρ.set (N.idxOf x) (some m)).set (N.idxOf y) (some n)) c2) (eN : X.N = N := by rfl) (hc : X.calm = true := by rfl) (hi : N[N.idxOf x]? = some x := by rfl) (hj : N[N.idxOf y]? = some y := by rfl)
    (lx : Loc X.env.scope x := by first | exact Or.inl rfl | exact Or.inr rfl) (ly : Loc X.env.scope y := by first | exact Or.inl rfl | exact Or.inr rfl) (fx : X.fn x = true ∨ X.env.scope.names.lookup x = some .local := by first | exact .inl rfl | exact .inr rfl | assumption) (fy : X.fn y = true ∨ X.env.scope.names.lookup y = some .local := by first | exact .inl rfl | exact .inr rfl | assumption)
    (hl : (assignEach [.Name x px, .Name y py] X.env).length = 2 := by rfl) (hst : (assignEach [.Name x px, .Name y py] X.env).findIdx? (·.1) = none := by rfl)
    (h1 : (assignEach (.Name x px :: [.Name y py]) X.env).map (·.2) = assign (.Name x px) X.env :: (assignEach [.Name y py] X.env).map (·.2) := by rfl) (h2 : (assignEach (.Name y py :: []) X.env).map (·.2) = assign (.Name y py) X.env :: (assignEach [] X.env).map (·.2) := by rfl)
    (s1 : swapsWithSole [.Tuple [.Name x px, .Name y py] kt pt] (.Tuple [l, r] k2 pt2) spos.line X.env = pure false := by rfl) (s2 : swappedStores [.Tuple [.Name x px, .Name y py] kt pt] (.Tuple [l, r] k2 pt2) X.env = pure none := by rfl) (s3 : (assignEach [.Tuple [.Name x px, .Name y py] kt pt] X.env).map (·.2) = [assign (.Tuple [.Name x px, .Name y py] kt pt) X.env] := by rfl)
    (a1 : starEach (l :: [r]) X.env = (false, eval l X.env) :: starEach [r] X.env := by rfl) (a2 : starEach (r :: []) X.env = (false, eval r X.env) :: starEach [] X.env := by rfl) : SV a X (.Assign [.Tuple [.Name x px, .Name y py] kt pt] (.Tuple [l, r] k2 pt2) spos) ρ cs D :=
  sv_wkE (sv_un2 S (ev_tupC (av_cons (h.mono fun m c1 z => av_cons (z.mono fun n c2 q => av_nil ⟨Nat.le_of_ble_eq_true rfl, fun p hp => ⟨m, n, .cel List.mem_cons_self, c2, Wk.sub (List.sublist_cons_self _ _), q⟩⟩) a2) a1)) eN hc hi hj lx ly fx fy hl hst h1 h2 s1 s2 s3)
end
end
end Z

/-! Zj: small ends. -/
namespace Z
open PySem PySem.Spec PyProof.Rows L2
theorem acc_yes {acc : List Mv} {v : Mv} {B : Bool} (h : B = true) : acc ++ [v] = acc ++ (if B = true then [v] else []) := by rw [if_pos h]
theorem acc_no {acc : List Mv} {v : Mv} {B : Bool} (h : B = false) : acc = acc ++ (if B = true then [v] else []) := by rw [if_neg (by rw [h]; exact Bool.false_ne_true), List.append_nil]
theorem PlM.nil {cs : Cs} {p : Addr} (h : (p, Cell.lst []) ∈ cs) : PlM cs (.cel p) (.list []) := PlM.lst (l := []) (n := 1) h rfl (by decide)
abbrev XZ (P : Program) (w : World) (K : PySem.W.Frag) (mg : Str → Option Value) (base : Heap) (N : List Str) (x : Str) (st : Stmt) (f : Addr) (cdv : Value) (A : Around) (outer : List PySem.Env) (s : Shared) (H : Hp) (E : XK) : Cx := (cxOf CX0 P w K mg base N x (defScope st) f cdv A outer s H E).nox
/-- kept from the tactics -/
def Kp (p : Prop) : Prop := p
theorem Kp.i {p : Prop} (h : p) : Kp p := h
theorem Kp.o {p : Prop} (h : Kp p) : p := h
def forB : Stmt → List Stmt
  | .For _ _ b _ _ => b
  | _ => []
def ifB : Stmt → List Stmt
  | .If _ b _ _ => b
  | _ => []
abbrev noS : Stmt := .Pass ⟨0, 0, 0, 0⟩
section
variable {a : An} {X : Cx} {ρ : Env} {cs : Cs} {D : Dn} {sts : List Stmt} {st : Stmt}
/-- ends over cells weakened -/
abbrev DnW (D : Dn) : Dn := { nx := fun ρ c => ∃ c', Wk c c' ∧ D.nx ρ c', rt := fun m c => ∃ c', Wk c c' ∧ D.rt m c', bk := fun ρ c => ∃ c', Wk c c' ∧ D.bk ρ c', ct := fun ρ c => ∃ c', Wk c c' ∧ D.ct ρ c' }
theorem enW {F : Hp} {D : Dn} : EndsLe (En a F (DnW D)) (En a F D) :=
  ⟨fun σ H ⟨F', ρ', c', e, t, s, c, w, q⟩ => ⟨F', ρ', c, e, w _ _ _ t, s, q⟩, fun v H ⟨F', m, c', e, t, r, c, w, q⟩ => ⟨F', m, c, e, w _ _ _ t, r, q⟩,
    fun σ H ⟨F', ρ', c', e, t, s, c, w, q⟩ => ⟨F', ρ', c, e, w _ _ _ t, s, q⟩, fun σ H ⟨F', ρ', c', e, t, s, c, w, q⟩ => ⟨F', ρ', c, e, w _ _ _ t, s, q⟩⟩
theorem svs_wkE (h : SVs a X sts ρ cs (DnW D)) : SVs a X sts ρ cs D := .mk fun σ F H t s => (h.run σ F H t s).mono enW
/-- a cut behind a statement -/
theorem svs_cut (P : Env → Cs → Prop) (h : SV a X st ρ cs { D with nx := fun ρ c => Kp (P ρ c) }) (k : ∀ ρ' c', P ρ' c' → SVs a X sts ρ' c' D) : SVs a X (st :: sts) ρ cs D := .mk fun σ F H t s => by
  refine WSs.of (pss_cons (ps st) (pss sts)) ((h.run σ F H t s).mono ⟨fun σ' H' z => ?_, fun _ _ z => z, fun _ _ z => z, fun _ _ z => z⟩)
  obtain ⟨F1, ρ1, c1, e1, t1, s1, q⟩ := z
  exact ((k _ _ q).run σ' F1 H' t1 s1).mono (En.le e1 (DnLe.refl D))
end
/-- tuple(..) of a list made by a comprehension -/
theorem TupQ.lcell {α : Type} {L : Addr} {c : Cs} {xs : List α} {f : α → Dv} {Q : Mv → Cs → Prop} (q : Q (.frz (.tup (xs.map f))) ((L, Cell.lst (xs.map fun x => Mv.frz (f x))) :: c)) : TupQ ((L, Cell.lst (xs.map fun x => Mv.frz (f x))) :: c) Q (.cel L) :=
  TupQ.lst (ds := xs.map f) (by rw [List.map_map (f := f) (g := Mv.frz)]; exact .cel List.mem_cons_self) q
theorem filter_all {α : Type} (xs : List α) : (xs.filter fun _ => true) = xs := List.filter_eq_self.mpr fun _ _ => rfl
/-- all cells forgotten but the last ones -/
theorem wk_at {P : Cs → Prop} {c c' : Cs} (h : List.Sublist c' c) (q : P c') : ∃ c', Wk c c' ∧ P c' := ⟨c', Wk.sub h, q⟩
end Z

/-! Zk: zip of lists and tuples in any mix; get of a dict. -/
namespace Z
open PySem PySem.Spec PyProof.Rows L2
/-- a list (true) or a tuple -/
def SqX (k : Bool) (K : PySem.W.Frag) (H : Hp) (a : Addr) (xs : List V) : Prop := match k with
  | true => SqL K H a xs
  | false => SqT K H a xs
def HsX (k : Bool) (h : Heap) (a : Addr) (its : Array Value) : Prop := match k with
  | true => h.IsList a its
  | false => h.IsTuple a its
def ItX (k : Bool) (h : Heap) (it a : Addr) (i : Nat) : Prop := match k with
  | true => h.IsListIter it a i
  | false => h.IsTupleIter it a i
theorem sqx_at {X : Cx} {pins : List (Addr × Obj)} {σ : L2.St} {H : Hp} {s : Shared} (I : Inv X pins σ H s) {k : Bool} {a : Addr} {xs : List V} (h : SqX k X.K H a xs) : ∃ its : List Value, Vals xs its ∧ HsX k s.heap a its.toArray := by
  cases k with
  | true =>
    obtain ⟨its, rv, p, _⟩ := I.list h
    exact ⟨its, rv, p.isList⟩
  | false =>
    obtain ⟨its, rv, p, _⟩ := I.tuple h
    exact ⟨its, rv, p⟩
theorem sqx_inj {X : Cx} {pins : List (Addr × Obj)} {σ : L2.St} {H : Hp} {s : Shared} (I : Inv X pins σ H s) {k : Bool} {a : Addr} {xs ys : List V} (h : SqX k X.K H a xs) (h' : SqX k X.K H a ys) : xs = ys := by
  cases k with
  | true => exact I.list_inj h h'
  | false => exact I.tuple_inj h h'
theorem hsx_lt {k : Bool} {h : Heap} {a : Addr} {its : Array Value} (z : HsX k h a its) : a < h.objs.size := by
  cases k with
  | true => obtain ⟨o, ho, _⟩ := id z; exact Heap.lt_size ho
  | false => obtain ⟨o, ho, _⟩ := id z; exact Heap.lt_size ho
theorem itx_keep {k : Bool} {h h' : Heap} {it a : Addr} {i : Nat} (z : ItX k h it a i) (hk : ∀ o, h.get? it = some o → h'.get? it = some o) : ItX k h' it a i := by
  cases k with
  | true => exact Heap.IsListIter.at z hk
  | false => exact Heap.IsTupleIter.at z hk
theorem itx_obj {k : Bool} {h : Heap} {it a : Addr} {i : Nat} (z : ItX k h it a i) : ∃ o, h.get? it = some o ∧ ∀ v, o.data ≠ .cell v := by
  cases k with
  | true => obtain ⟨o, e, _, d⟩ := id z; exact ⟨o, e, fun v q => by rw [d] at q; cases q⟩
  | false => obtain ⟨o, e, _, d⟩ := id z; exact ⟨o, e, fun v q => by rw [d] at q; cases q⟩
theorem drawsX {prog : Program} {w : World} {A : Around} (hh : A.handled = none) (k : Bool) (it a : Addr) (hne : a ≠ it) (its : Array Value) :
    Draws prog w A it [it, a] its.size (fun i v => its[i]? = some v) (fun i h => ItX k h it a i ∧ HsX k h a its) := by
  cases k with
  | true => exact Draws.list hh it a hne its
  | false => exact Draws.tuple hh it a hne its
def ItzX (k1 k2 : Bool) (K : PySem.W.Frag) (a b : Addr) : It :=
  ⟨fun i H => ∃ (xs ys : List V), SqX k1 K H a xs ∧ SqX k2 K H b ys ∧ i < xs.length ∧ i < ys.length,
    fun i H v H' => ∃ T x y, v = .ref T ∧ H T = none ∧ H' = upd H T (.tup [x, y]) ∧ (∀ xs, SqX k1 K H a xs → xs[i]? = some x) ∧ ∀ ys, SqX k2 K H b ys → ys[i]? = some y,
    fun i H => ∃ xs ys : List V, SqX k1 K H a xs ∧ SqX k2 K H b ys ∧ i = min xs.length ys.length⟩
def goesX {P : Program} {w : World} {A : Around} (hh : A.in1.handled = none) {els : List Expr} {kt : Nat} {tpos : Pos} {z TI TO i1 i2 a b : Addr} {k1 k2 : Bool} (D : ZipSep2 z TI TO i1 i2 [i1, a] [i2, b]) (n1 : a ≠ i1) (n2 : b ≠ i2) (its1 its2 : Array Value) :=
  GoesN.zip2 (prog := P) (w := w) (A := A) (elts := els) (x1 := kt) (pos := tpos) D (drawsX hh k1 i1 a n1 its1) (drawsX hh k2 i2 b n2 its2)
theorem turn_zipX {P : Program} {w : World} {K : PySem.W.Frag} {els : List Expr} {kt : Nat} {tpos : Pos} {z TI TO i1 i2 a b : Addr} {k1 k2 : Bool} (D : ZipSep2 z TI TO i1 i2 [i1, a] [i2, b]) (n1 : a ≠ i1) (n2 : b ≠ i2) :
    Turn P w K (.Tuple els kt tpos) (ItzX k1 k2 K a b) [z, TI, TO, i1, i2] z (fun i h => IsZip h z TI TO .none ∧ IsTupOf2 h TI (.ref i1) (.ref i2) ∧ (∃ x y, IsTupOf2 h TO x y) ∧ ItX k1 h i1 a i ∧ ItX k2 h i2 b i) where
  mem := List.mem_cons_self
  obj := fun i h ⟨hz, hTI, ⟨x, y, hTO⟩, j1, j2⟩ c hc => by
    simp only [List.mem_cons, List.not_mem_nil, or_false] at hc
    rcases hc with rfl | rfl | rfl | rfl | rfl
    · exact ⟨_, hz, fun v q => nomatch q⟩
    · exact ⟨_, hTI, fun v q => nomatch q⟩
    · exact ⟨_, hTO, fun v q => nomatch q⟩
    · exact itx_obj j1
    · exact itx_obj j2
  keep := fun i h h' ⟨hz, hTI, ⟨x, y, hTO⟩, j1, j2⟩ k => ⟨k z (by simp) _ hz, k TI (by simp) _ hTI, ⟨x, y, k TO (by simp) _ hTO⟩, itx_keep j1 (k i1 (by simp)), itx_keep j2 (k i2 (by simp))⟩
  item := by
    intro X e1 e2 e3 hc i pins s σ H E I hf st hg
    subst e1 e2 e3
    obtain ⟨hz, hTI, hTO, j1, j2⟩ := st
    obtain ⟨xs, ys, hx, hy, l1, l2⟩ := hg
    obtain ⟨its1, r1, p1⟩ := sqx_at I hx
    obtain ⟨its2, r2, p2⟩ := sqx_at I hy
    have s1 : its1.toArray.size = xs.length := by rw [List.size_toArray, r1.length]
    have s2 : its2.toArray.size = ys.length := by rw [List.size_toArray, r2.length]
    refine (goesX (A := X.A) (show X.A.in1.handled = none from I.ok.hd hc) D n1 n2 its1.toArray its2.toArray).goes i s _ E (by rw [s1, s2]; omega) ⟨hz, hTI, hTO, ⟨j1, p1⟩, ⟨j2, p2⟩⟩ fun v h' tk hY hS hk _ => ?_
    obtain ⟨T, x, y, rfl, hnew, hx1, hy1, hT⟩ := hY
    obtain ⟨z', TI', ⟨x', y', TO'⟩, ⟨j1', _⟩, ⟨j2', _⟩⟩ := hS
    obtain ⟨vx, ex⟩ : ∃ vx, xs[i]? = some vx := ⟨_, List.getElem?_eq_getElem l1⟩
    obtain ⟨vy, ey⟩ : ∃ vy, ys[i]? = some vy := ⟨_, List.getElem?_eq_getElem l2⟩
    obtain ⟨ux, hux, rx⟩ := r1.get ex
    obtain ⟨uy, huy, ry⟩ := r2.get ey
    have e1 : x = ux := by
      have : its1.toArray[i]? = some ux := by simpa using hux
      rw [hx1] at this; exact Option.some.inj this
    have e2 : y = uy := by
      have : its2.toArray[i]? = some uy := by simpa using huy
      rw [hy1] at this; exact Option.some.inj this
    subst e1 e2
    have new : ObjOk X.prog X.w (upd H T (.tup [vx, vy])) h' T (.tup [vx, vy]) := ⟨(by decide : 2 ≤ sizeLine), [x, y], .cons rx (.cons ry .nil), hT⟩
    have I1 : Inv X pins σ (upd H T (.tup [vx, vy])) { s with heap := h', toks := tk } :=
      I.turnedNew (ch := [z, TI, TO, i1, i2]) (fun c o hb q => hk c o (fun m => hb (by
        simp only [List.mem_cons, List.not_mem_nil, or_false] at m ⊢
        rcases m with rfl | rfl | rfl | rfl <;> simp)) q) hf hnew new
    refine ⟨.ref T, _, I1, rfl, ⟨T, vx, vy, rfl, I.hok.fresh hnew, rfl, fun l hl => by rw [sqx_inj I hl hx]; exact ex, fun l hl => by rw [sqx_inj I hl hy]; exact ey⟩, ⟨z', TI', ⟨x', y', TO'⟩, j1', j2'⟩, fun c hc => ?_⟩
    have hlt : c < s.heap.objs.size := by
      simp only [List.mem_cons, List.not_mem_nil, or_false] at hc
      rcases hc with rfl | rfl | rfl | rfl | rfl
      · exact Heap.lt_size hz
      · exact Heap.lt_size hTI
      · obtain ⟨_, _, q⟩ := hTO; exact Heap.lt_size q
      · obtain ⟨_, q, _⟩ := itx_obj j1; exact Heap.lt_size q
      · obtain ⟨_, q, _⟩ := itx_obj j2; exact Heap.lt_size q
    rw [upd_ne (Nat.ne_of_lt (Nat.lt_of_lt_of_le hlt hnew))]
    exact (hf c hc).1
  done := by
    intro X e1 e2 e3 hc i pins s σ H E I hf st hg
    subst e1 e2 e3
    obtain ⟨hz, hTI, hTO, j1, j2⟩ := st
    obtain ⟨xs, ys, hx, hy, rfl⟩ := hg
    obtain ⟨its1, r1, p1⟩ := sqx_at I hx
    obtain ⟨its2, r2, p2⟩ := sqx_at I hy
    have s1 : its1.toArray.size = xs.length := by rw [List.size_toArray, r1.length]
    have s2 : its2.toArray.size = ys.length := by rw [List.size_toArray, r2.length]
    refine (goesX (A := X.A) (els := els) (kt := kt) (tpos := tpos) (show X.A.in1.handled = none from I.ok.hd hc) D n1 n2 its1.toArray its2.toArray).stops s (fun s1 => Inv X pins σ H s1) E (by rw [s1, s2]; exact ⟨hz, hTI, hTO, ⟨j1, p1⟩, ⟨j2, p2⟩⟩) fun h' tk hk _ => ?_
    exact I.turnedL (ch := [z, TI, TO, i1, i2]) (fun c o hb q => hk c o (fun m => hb (by
        simp only [List.mem_cons, List.not_mem_nil, or_false] at m ⊢
        rcases m with rfl | rfl | rfl | rfl <;> simp)) q) hf
  self := fun A i s Q E st h => wpAny_pyIter_zip st.1 h
def itO (k : Bool) (a : Addr) : Obj := match k with
  | true => { cls := .type "list_iterator", data := .fields #[.ref a, .int 0 0] }
  | false => { cls := .type "tuple_iterator", data := .fields #[.ref a, .int 0 0] }
theorem beginsX (k : Bool) (a : Addr) (its : Array Value) : Begins (.ref a) (itO k a) fun h => HsX k h a its := by
  cases k with
  | true => exact begins_list a its
  | false => exact begins_tuple a its
theorem itx_of {k : Bool} {h : Heap} {it a : Addr} (e : h.get? it = some (itO k a)) : ItX k h it a 0 := by
  cases k with
  | true => exact ⟨_, e, rfl, rfl⟩
  | false => exact ⟨_, e, rfl, rfl⟩
def iZipX (K : PySem.W.Frag) (ta : TA) : TI := fun σ H R => ta σ H fun vs H1 => ∃ k1 k2 a b xs ys, vs = [.ref a, .ref b] ∧ SqX k1 K H1 a xs ∧ SqX k2 K H1 b ys ∧ R (ItzX k1 k2 K a b) H1
theorem pi_zipX {X : Cx} {e e2 : Expr} {ta : TA} {p pos tpos : Pos} {els : List Expr} {kt : Nat} (hg : Gl X "zip") (hm : X.mg "zip" = none) (ha : PA X [e, e2] ta)
    (hs : starEach [e, e2] X.env = (false, eval e X.env) :: starEach [e2] X.env := by rfl) (hpl : (backTo pos (starEach [e2] X.env)).any (·.1) = false := by rfl) :
    PI X (.Tuple els kt tpos) (.Call (.Name "zip" p) [e, e2] [] pos) (iZipX X.K ta) := by
  refine ⟨fun pins s σ H R I h => Call_ (ld_blt I hg hm PyProof.Rows.boot_zip (PyProof.Rows.callWith_type1 (thn (ha.run pos pins s σ H _ I h) fun us s1 ⟨vs, H1, I1, r1, q1⟩ => ?_) hs hpl))⟩
  obtain ⟨k1, k2, a, b, xs, ys, rfl, hx, hy, q⟩ := q1
  cases r1 with
  | cons r rr =>
    cases rr with
    | cons r' rr =>
      cases rr
      cases r
      cases r'
      obtain ⟨its1, rv1, p1⟩ := sqx_at I1 hx
      obtain ⟨its2, rv2, p2⟩ := sqx_at I1 hy
      have la := hsx_lt p1
      have lb := hsx_lt p2
      refine zip_begins2 (beginsX k1 a its1.toArray) (beginsX k2 b its2.toArray) p1 p2 fun h' hz hTI hTO g1 g2 hsz hk => wpAny_pyIter_zip hz ?_
      have I2 : Inv X pins σ H1 { s1 with heap := h' } := I1.kept (t' := s1.toks) hk
      refine ⟨_, [s1.heap.objs.size + 4, s1.heap.objs.size + 2, s1.heap.objs.size + 3, s1.heap.objs.size, s1.heap.objs.size + 1], _, _, H1, rfl, I2, turn_zipX (zip_sep2 (fp1 := [a]) (fp2 := [b]) (fun c hc => by rw [List.mem_singleton.mp hc]; exact la) (fun c hc => by rw [List.mem_singleton.mp hc]; exact lb)) (Nat.ne_of_lt la) (Nat.ne_of_lt (Nat.lt_succ_of_lt lb)), ⟨hz, hTI, ⟨_, _, hTO⟩, itx_of g1, itx_of g2⟩, fun c hc => ?_, q⟩
      have hle : s1.heap.objs.size ≤ c := by
        simp only [List.mem_cons, List.not_mem_nil, or_false] at hc
        rcases hc with rfl | rfl | rfl | rfl | rfl <;> (first | exact Nat.le_add_right _ _ | exact Nat.le_refl _)
      exact I1.fpOk hle (I1.hok.fresh hle)
/-! ### over values -/
/-- m's items, m a list (true) or a tuple -/
inductive SeqK (cs : Cs) : Bool → Mv → List Mv → Prop
  | lst {l : List Dv} : SeqK cs true (.frz (.lst l)) (l.map Mv.frz)
  | tup {l : List Dv} : SeqK cs false (.frz (.tup l)) (l.map Mv.frz)
  | ptp {l : List Dv} : SeqK cs false (.frz (.ptp l)) (l.map Mv.frz)
  | cel {p : Addr} {l : List Mv} : (p, Cell.lst l) ∈ cs → SeqK cs true (.cel p) l
  | celt {p : Addr} {l : List Mv} : (p, Cell.tup l) ∈ cs → SeqK cs false (.cel p) l
theorem SeqK.sq {a : An} {F H : Hp} {cs : Cs} (K : PySem.W.Frag) (t : At a F H cs) {k : Bool} {m : Mv} {ms : List Mv} {v : V} (h : SeqK cs k m ms) (r : RepM F m v) : ∃ p xs, v = .ref p ∧ SqX k K H p xs ∧ RepMs F ms xs := by
  cases h with
  | lst => cases r with | lst h q => exact ⟨_, _, rfl, SqL.of (t.stt.sub _ _ h), RepMs.of q⟩
  | tup => cases r with | tup h q => exact ⟨_, _, rfl, SqT.of (t.stt.sub _ _ h), RepMs.of q⟩
  | ptp => cases r with | ptp h z q => exact ⟨_, _, rfl, .inl (.inr ⟨_, t.stt.sub _ _ h⟩), RepMs.of q⟩
  | cel hm =>
    obtain ⟨o, ho, xs, e, q⟩ := t.stt.cel _ hm
    rw [e] at ho
    exact ⟨_, xs, r, SqL.of ho, q⟩
  | celt hm =>
    obtain ⟨o, ho, xs, e, q⟩ := t.stt.cel _ hm
    rw [e] at ho
    exact ⟨_, xs, r, SqT.of ho, q⟩
theorem RepMs.zipAt {F : Hp} {ms ns : List Mv} {xs ys : List V} (r : RepMs F ms xs) (r2 : RepMs F ns ys) {i : Nat} {it : ItM} (h : ((ms.zip ns).map fun p => ItM.two p.1 p.2)[i]? = some it) : ∃ m n v u, it = .two m n ∧ xs[i]? = some v ∧ ys[i]? = some u ∧ RepM F m v ∧ RepM F n u := by
  rw [List.getElem?_map] at h
  obtain ⟨⟨m, n⟩, h1, rfl⟩ := Option.map_eq_some_iff.mp h
  rw [List.getElem?_zip_eq_some] at h1
  obtain ⟨v, e1, q1⟩ := r.get h1.1
  obtain ⟨u, e2, q2⟩ := r2.get h1.2
  exact ⟨m, n, v, u, rfl, e1, e2, q1, q2⟩
section
variable {a : An} {X : Cx} {ρ : Env} {cs : Cs} {Q : List ItM → (Cs → Prop) → Cs → Prop} {QV : Mv → Cs → Prop} {pos tpos apos : Pos} {e e2 o f : Expr} {els : List Expr} {kt : Nat}
theorem iv_zip {p : Pos} (h : EV a X e ρ cs fun x c1 => EV a X e2 ρ c1 fun y c2 => ∃ k1 k2 ms ns, SeqK c2 k1 x ms ∧ SeqK c2 k2 y ns ∧ Q ((ms.zip ns).map fun p => ItM.two p.1 p.2) (fun c => SeqK c k1 x ms ∧ SeqK c k2 y ns) c2) (hm : X.mg "zip" = none) (hg : Gl X "zip" := by rfl)
    (hs : starEach [e, e2] X.env = (false, eval e X.env) :: starEach [e2] X.env := by rfl) (hs2 : starEach (e2 :: []) X.env = (false, eval e2 X.env) :: starEach [] X.env := by rfl) (hpl : (backTo pos (starEach [e2] X.env)).any (·.1) = false := by rfl) :
    IV a X (.Tuple els kt tpos) (.Call (.Name "zip" p) [e, e2] [] pos) ρ cs Q := .mk fun σ F H t s => by
  refine WI.of (pi_zipX hg hm (pa_cons (pe e) (pa_cons (pe e2) pa_nil hs2) hs) hs hpl) ((h.run σ F H t s).mono fun v H1 z => ?_)
  obtain ⟨F1, x, c1, e1, t1, r1, z⟩ := z
  refine (z.run σ F1 H1 t1 (s.mono e1)).mono fun u H2 z => ?_
  obtain ⟨F2, y, c2, e2', t2, r2, k1, k2, ms, ns, hx, hy, q⟩ := z
  obtain ⟨p1, xs, rfl, q1, rs1⟩ := hx.sq X.K t2 (r1.mono e2')
  obtain ⟨p2, ys, rfl, q2, rs2⟩ := hy.sq X.K t2 r2
  refine ⟨k1, k2, p1, p2, xs, ys, rfl, q1, q2, F2, c2, _, _, e1.trans e2', t2, ⟨fun F3 H3 c i e3 t3 g hi => ?_, fun F3 H3 c i it x H' e3 t3 g hi y => ?_, fun F3 H3 c e3 t3 g => ?_⟩, q⟩
  · obtain ⟨p1', xs', w1, q1', rs1'⟩ := g.1.sq X.K t3 ((r1.mono e2').mono e3)
    obtain ⟨p2', ys', w2, q2', rs2'⟩ := g.2.sq X.K t3 (r2.mono e3)
    cases w1; cases w2
    rw [List.length_map, List.length_zip] at hi
    have l1 := rs1'.length
    have l2 := rs2'.length
    exact ⟨xs', ys', q1', q2', by omega, by omega⟩
  · obtain ⟨p1', xs', w1, q1', rs1'⟩ := g.1.sq X.K t3 ((r1.mono e2').mono e3)
    obtain ⟨p2', ys', w2, q2', rs2'⟩ := g.2.sq X.K t3 (r2.mono e3)
    cases w1; cases w2
    obtain ⟨T, vx, vy, rfl, hT, rfl, y1, y2⟩ := y
    obtain ⟨m, n, v, u, rfl, g1, g2, rm, rn⟩ := RepMs.zipAt rs1' rs2' hi
    have ex := y1 xs' q1'
    have ey := y2 ys' q2'
    rw [g1] at ex
    rw [g2] at ey
    cases ex; cases ey
    have ee : Ex F3 (upd F3 T (.tup [vx, vy])) := Ex.new (t3.stt.sub.out hT)
    exact ⟨_, ee, t3.newF hT, T, vx, vy, rfl, upd_same, rm.mono ee, rn.mono ee⟩
  · obtain ⟨p1', xs', w1, q1', rs1'⟩ := g.1.sq X.K t3 ((r1.mono e2').mono e3)
    obtain ⟨p2', ys', w2, q2', rs2'⟩ := g.2.sq X.K t3 (r2.mono e3)
    cases w1; cases w2
    exact ⟨xs', ys', q1', q2', by rw [List.length_map, List.length_zip, rs1'.length, rs2'.length]⟩
/-- x is a dict -/
inductive IsDM (cs : Cs) : Mv → Prop
  | frz {l : List (Key × Dv)} : IsDM cs (.frz (.dct l))
  | cel {p : Addr} {l : List (Key × Mv)} : (p, Cell.dct l) ∈ cs → IsDM cs (.cel p)
theorem IsDM.at_ {F H : Hp} (t : At a F H cs) {m : Mv} {v : V} (h : IsDM cs m) (r : RepM F m v) : ∃ p, v = .ref p ∧ IsD H p := by
  cases h with
  | frz =>
    cases r with
    | dct h q => exact ⟨_, rfl, .inl ⟨_, .inr ⟨_, t.stt.sub _ _ h⟩⟩⟩
  | cel hm =>
    obtain ⟨o', ho, xs, e', q⟩ := t.stt.cel _ hm
    rw [e'] at ho
    exact ⟨_, r, .inl ⟨_, .inl ho⟩⟩
theorem ev_dget2 (hu : X.A.units + 1 < cLine) (h : EV a X o ρ cs fun x c1 => IsDM c1 x ∧ EV a X e ρ c1 fun y c2 => EV a X f ρ c2 fun z c3 => ∃ k r, y = kM k ∧ DctM c3 k x r ∧ QV (r.getD z) c3)
    (m1 : attributeBase o "get" X.env (eval o X.env) = eval o X.env := by rfl) (m2 : ((backTo pos (starEach [e, f] X.env)).all (fun x => !x.1) && (backToKw pos (keywordEach [] X.env)).all (fun x => x.1.isSome)
    && decide (([e, f] : List Expr).length + ([] : List Keyword).length + (if ([] : List Keyword).isEmpty then 0 else 1) < 30)) = true := by rfl) (m3 : (apos.endLine == pos.line) = true := by rfl) (m4 : backTo pos (starEach [e, f] X.env) = [(false, eval e X.env), (false, eval f X.env)] := by rfl) :
    EV a X (.Call (.Attribute o "get" apos) [e, f] [] pos) ρ cs QV := .mk fun σ F H t s => by
  refine WE.of (pe_dget2 hu (pe o) (pe e) (pe f) ⟨m1, m2, m3, m4⟩) ((h.run σ F H t s).mono fun v H1 z => ?_)
  obtain ⟨F1, x, c1, e1, t1, r1, hd, z⟩ := z
  obtain ⟨p, rfl, hp⟩ := hd.at_ t1 r1
  refine ⟨p, rfl, hp, (z.run σ F1 H1 t1 (s.mono e1)).mono fun u H2 z => ?_⟩
  obtain ⟨F2, y, c2, e2', t2, r2, z⟩ := z
  refine (z.run σ F2 H2 t2 (s.mono (e1.trans e2'))).mono fun w H3 z => ?_
  obtain ⟨F3, zz, c3, e3, t3, r3, k, r, rfl, hg, q⟩ := z
  obtain ⟨d, wv, ed, g, k1, k2⟩ := hg.get t3 (r1.mono (e2'.trans e3))
  cases ed
  have er : u = kV k := r2.key
  subst er
  refine ⟨wv, g, ?_⟩
  cases r with
  | none =>
    rw [k1 rfl]
    exact rt_at ((e1.trans e2').trans e3) t3 r3 q
  | some n =>
    obtain ⟨un, e5, rn⟩ := k2 n rfl
    rw [e5]
    exact rt_at ((e1.trans e2').trans e3) t3 rn q
end
theorem IxM.dci {cs : Cs} {p : Addr} {l : List (Key × Mv)} {i : Int} {m : Mv} (hm : (p, Cell.dct l) ∈ cs) (h : lookK (.inl i) l = some m) : IxM cs (.cel p) (.frz (.int i)) m := .dct (k := .inl i) (by
  have z : DctM cs (.inl i) (.cel p) (lookK (.inl i) l) := .cel hm
  rw [h] at z; exact z)
theorem IxM.dki {cs : Cs} {l : List (Key × Dv)} {i : Int} {d : Dv} (h : lookK (.inl i) l = some d) : IxM cs (.frz (.dct l)) (.frz (.int i)) (.frz d) := .dct (k := .inl i) (by
  have z : DctM cs (.inl i) (.frz (.dct l)) ((lookK (.inl i) l).map Mv.frz) := .frz
  rw [h] at z; exact z)
theorem InM.dci {cs : Cs} {p : Addr} {l : List (Key × Mv)} {i : Int} (hm : (p, Cell.dct l) ∈ cs) : InM cs (.frz (.int i)) (.cel p) (lookK (.inl i) l).isSome := .dct (k := .inl i) (.cel hm)
theorem InM.dki {cs : Cs} {l : List (Key × Dv)} {i : Int} : InM cs (.frz (.int i)) (.frz (.dct l)) ((lookK (.inl i) l).map Mv.frz).isSome := .dct (k := .inl i) .frz
end Z

/-! Zl: sorted(d.items()) of a frozen dict of ints; sorted of a list of pairs of ints; the keys of a frozen dict, walked. -/
namespace Z
open PySem PySem.Spec PyProof.Rows L2
def rItF : V → List V → Hp → VK → Prop := fun x xs H Q => ∃ (a : Addr) (o : Obj) (kvs : List (Key × V)), x = .ref a ∧ xs = [] ∧ H a = some (.frz o (.dK kvs)) ∧ ∀ p, H p = none → Q (.ref p) (upd H p (DX.itemsO p a))
theorem mt_itF {X : Cx} : MtR X "dict.items" rItF := by
  intro pins s σ H x xs v us Q I rx rxs h
  obtain ⟨a, o, kvs, rfl, rfl, ha, q⟩ := h
  cases rx
  cases rxs
  obtain ⟨hs, hgd, hx, es, ep, vs, hdt, hsz, kv, hm⟩ := I.frzK ha
  refine DT.callItems (es := es) (ep := ep) hs ⟨o, hgd, hx, hdt⟩ ?_
  exact ⟨.ref s.heap.objs.size, upd H s.heap.objs.size (DX.itemsO s.heap.objs.size a), I.laid (t' := s.toks) (fun b u e => Heap.get?_push_of_some _ e) (Nat.le_refl _) (DX.itemsO_ok (Heap.get?_push_size _ rfl)), rfl, q _ (I.hok.fresh (Nat.le_refl _))⟩
def tItF (to : TE) : TE := fun σ H Q => to σ H fun x H1 => ∃ (a : Addr) (o : Obj) (kvs : List (Key × V)), x = .ref a ∧ H1 a = some (.frz o (.dK kvs)) ∧ ∀ p, H1 p = none → Q (.ref p) (upd H1 p (DX.itemsO p a))
theorem pe_itF {X : Cx} {o : Expr} {to : TE} {apos cpos : Pos} (ho : PE X o to) (hbase : attributeBase o "items" X.env (eval o X.env) = eval o X.env := by rfl) (hline : (apos.endLine == cpos.line) = true := by rfl) :
    PE X (.Call (.Attribute o "items" apos) [] [] cpos) (tItF to) := by
  refine ⟨fun pins s σ H Q I h => ?_⟩
  refine wpAny_Call_method0_late hbase hline (thn (ho.run pins s σ H _ I h) fun v s1 ⟨x, H1, I1, r1, a, ob, kvs, ex, ha, q1⟩ => ?_)
  subst ex
  cases r1
  obtain ⟨hs, hgd, hx, _⟩ := I1.frzK ha
  exact ⟨"dict", "dict.items", PySem.F.plainAttrs_dict, PySem.F.slot_dict_items, PySem.F.type_dict_items, ⟨ob, hgd, hx.1⟩, fun b e => by cases e; exact ⟨ob, hgd, hx.2.1⟩,
    Calls.callWith_builtin rfl (PySem.evalArgs_none (mt_itF pins s1 σ H1 (.ref a) [] _ [] Q I1 rfl .nil ⟨a, ob, kvs, rfl, rfl, ha, q1⟩))⟩
/-! ### sorted -/
abbrev entI (z : Int × Int) : Key × V := (Sum.inl z.1, V.int z.2)
def adV : Value → Addr
  | .ref a => a
  | _ => 0
def rSIt : List V → Hp → VK → Prop := fun vs H Q => ∃ (p d : Addr) (o : Obj) (ns : List (Int × Int)), vs = [.ref p] ∧ H p = some (DX.itemsO p d) ∧ H d = some (.frz o (.dK (ns.map entI))) ∧
  ∀ (H' : Hp) (l : Addr) (zs : List (Addr × Int × Int)), Ex H H' → (zs.map (·.2)).Perm ns → SrtO.Srtd SrtO.lexB (zs.map (·.2)) → H l = none → H' l = some (.lst (zs.map fun z => V.ref z.1)) →
    (∀ z ∈ zs, H z.1 = none ∧ z.1 ≠ l ∧ H' z.1 = some (.tup [.int z.2.1, .int z.2.2])) → Q (.ref l) H'
theorem cr_sIt {X : Cx} (hc : X.calm = true) : CallR X (.builtin "sorted") rSIt := by
  intro pins s σ H xs us Q I r h
  obtain ⟨p, a, o, ks, rfl, hp, ha, q⟩ := h
  obtain rfl := Vals.ref1 r
  have view : s.heap.IsItemsView p a := (show ObjOk X.prog X.w H s.heap p (DX.itemsO p a) from I.hok p _ hp).1
  obtain ⟨hd, ho, hx, es, ep, vs, hdat, hsz, kv, hm⟩ := I.frzK ha
  have hz : ks.length ≤ sizeLine := by
    obtain ⟨_, z, _⟩ := I.hok a _ ha
    simpa using z
  rw [List.length_map] at hsz
  have hh : X.A.handled = none := I.ok.hd hc
  refine DT.sortedI (es := es) (ep := ep) hh view ⟨o, ho, hx, hdat⟩ (by omega) fun h' tk as hk hlt hl hG => ?_
  have lak : as.length = ks.length := by omega
  have nd : as.Nodup := List.Pairwise.imp (fun h => Nat.ne_of_lt h) hG.rise
  have pr : ∀ (j : Nat) (b : Addr), as[j]? = some b → ∃ (e : Int × Int) (t1 t2 : Tok), ks[j]? = some e ∧ h'.get? b = some { cls := .type "tuple", data := .seq #[Value.int e.1 t1, Value.int e.2 t2] } := by
    intro j b hj
    obtain ⟨en, he, hg⟩ := hG.pairs j b hj
    obtain ⟨o', es', ho', _, hd', _, hpp, _⟩ := hm
    rw [ho] at ho'
    cases ho'
    rw [hdat] at hd'
    cases hd'
    have hj2 : j < ks.length := by rw [← lak]; exact (List.getElem?_eq_some_iff.mp hj).1
    have ek : ks[j]? = some ks[j] := List.getElem?_eq_getElem hj2
    obtain ⟨u, hu, ru⟩ := kv_get (i := j) (k := Sum.inl (ks[j]).1) (v := V.int (ks[j]).2) kv (by rw [List.getElem?_map, ek]; rfl)
    have hje : j < es.size := by rw [hsz]; exact hj2
    obtain ⟨k1, k2⟩ := hpp.get? (e := es[j]) (by simp [hje]) hu
    have een : es[j] = en := by
      rw [Array.getElem?_eq_getElem hje] at he
      exact Option.some.inj he
    rw [een] at k1 k2
    obtain ⟨t1, e1⟩ : ∃ t1, en.key = Value.int (ks[j]).1 t1 := relV_key (k := Sum.inl (ks[j]).1) (show keyIs (Sum.inl (ks[j]).1) en.key = true from k1)
    obtain ⟨t2, e2⟩ : ∃ t2, u = Value.int (ks[j]).2 t2 := ru
    refine ⟨ks[j], t1, t2, ek, ?_⟩
    rw [hg, e1, k2, e2]
  have hob : (h'.push { cls := .type "list", data := .seq (as.map Value.ref).toArray }).get? h'.objs.size = some (seqObj "list" (as.map Value.ref).toArray 0) := Heap.get?_push_size _ rfl
  have kb : ∀ b o, s.heap.get? b = some o → (h'.push { cls := .type "list", data := .seq (as.map Value.ref).toArray }).get? b = some o := fun b o e => Heap.get?_push_of_some _ (hk b o e)
  have ne0 : ∀ b o, h'.get? b = some o → b ≠ h'.objs.size := fun b o e => Nat.ne_of_lt (Heap.lt_size e)
  generalize hh2 : h'.push { cls := .type "list", data := .seq (as.map Value.ref).toArray } = h2 at hob kb ⊢
  have ka : ∀ b o, h'.get? b = some o → h2.get? b = some o := fun b o e => by rw [← hh2]; exact Heap.get?_push_of_some _ e
  -- which pair a tuple is
  obtain ⟨k, hkd⟩ : ∃ k : Value → Int × Int, ∀ j b e, as[j]? = some b → ks[j]? = some e → k (.ref b) = e := by
    refine ⟨fun v => ks.getD (as.idxOf (adV v)) (0, 0), fun j b e hj he => ?_⟩
    have hj1 := (List.getElem?_eq_some_iff.mp hj).1
    have hi : as.idxOf b < as.length := List.idxOf_lt_length_iff.mpr (List.mem_of_getElem? hj)
    have ei : as.idxOf b = j := (List.getElem?_inj hi nd).mp (by rw [hj, List.getElem?_eq_getElem hi]; exact congrArg some (List.getElem_idxOf hi))
    show ks.getD (as.idxOf b) (0, 0) = e
    rw [ei, List.getD_eq_getElem?_getD, he]; rfl
  have at_ : ∀ v ∈ as.map Value.ref, ∃ (j : Nat) (b : Addr) (e : Int × Int), v = .ref b ∧ as[j]? = some b ∧ ks[j]? = some e := by
    intro v hv'
    obtain ⟨b, hb, rfl⟩ := List.mem_map.mp hv'
    obtain ⟨j, hj⟩ := List.mem_iff_getElem?.mp hb
    obtain ⟨e, _, _, he, _⟩ := pr j b hj
    exact ⟨j, b, e, rfl, hj, he⟩
  have hpr : ∀ v ∈ as.map Value.ref, Srt.IsPair h2 v (k v).1 (k v).2 := by
    intro v hv
    obtain ⟨j, b, e, rfl, hj, he⟩ := at_ v hv
    obtain ⟨e', t1, t2, he', hg⟩ := pr j b hj
    rw [he] at he'
    cases he'
    rw [hkd j b e hj he]
    exact ⟨b, _, t1, t2, 0, rfl, ka _ _ hg, rfl, rfl⟩
  have mk : (as.map Value.ref).map k = ks := by
    refine List.ext_getElem? fun j => ?_
    rw [List.map_map, List.getElem?_map]
    cases hj : as[j]? with
    | none =>
      have : as.length ≤ j := List.getElem?_eq_none_iff.mp hj
      rw [List.getElem?_eq_none (by omega)]; rfl
    | some b =>
      obtain ⟨e, _, _, he, _⟩ := pr j b hj
      rw [he]
      exact congrArg some (hkd j b e hj he)
  refine wpAny_call_entry PyProof.Rows.slot_list_sort ⟨_, hob, rfl⟩ PyProof.Rows.entry_list_sort
    (SrtO.list_sort_ord (s := { s with heap := h2, toks := tk }) (SrtO.swo_lex k) hob (by rw [List.length_map]; omega) (fun h2' => SrtO.pairs_sortableO (s := { s with heap := h2, toks := tk }) (by omega) hpr fun o e => ?_) fun out h1 hst => ⟨.none, rfl, ?_⟩) (PyProof.Rows.args_list_sort _)
  · have e' : some o = some (seqObj "list" (as.map Value.ref).toArray 0) := e.symm.trans hob
    cases e'
    intro c
    exact absurd (Value.type.inj c) (by decide)
  · show EP X pins σ Q (.ref h'.objs.size) { s with heap := sortedHeap h2 h'.objs.size (as.map Value.ref) out.toArray, toks := tk }
    have mo : ∀ u ∈ out, ∃ (j : Nat) (b : Addr) (e : Int × Int), u = .ref b ∧ as[j]? = some b ∧ ks[j]? = some e := fun u hu => at_ u (hst.perm.mem_iff.mp hu)
    have kF : ∀ b o, b ≠ h'.objs.size → h2.get? b = some o → (sortedHeap h2 h'.objs.size (as.map Value.ref) out.toArray).get? b = some o := fun b o hb e => (PyProof.Rows.sortedHeap_old hb (Heap.lt_size e)).trans e
    have kS : ∀ b o, s.heap.get? b = some o → (sortedHeap h2 h'.objs.size (as.map Value.ref) out.toArray).get? b = some o := fun b o e => kF b o (ne0 _ _ (hk b o e)) (kb b o e)
    obtain ⟨eF, heF⟩ := PyProof.Rows.sortedHeap_at (vs := as.map Value.ref) (out := out.toArray) hob
    have I1 : Inv X pins σ H { s with heap := sortedHeap h2 h'.objs.size (as.map Value.ref) out.toArray, toks := tk } := I.kept (t' := tk) kS
    have hn0 : H h'.objs.size = none := I.hok.fresh (Nat.le_of_lt hlt)
    have hlo : out.length = ks.length := by rw [hst.perm.length_eq, List.length_map, lak]
    have I2 : Inv X pins σ (upd H h'.objs.size (.lst (out.map backV))) { s with heap := sortedHeap h2 h'.objs.size (as.map Value.ref) out.toArray, toks := tk } :=
      I1.take (h' := sortedHeap h2 h'.objs.size (as.map Value.ref) out.toArray) (t' := tk) (fun b ob _ e => e) (I.fpOk (Nat.le_of_lt hlt) hn0) ⟨(by rw [List.length_map, hlo]; exact hz), out, eF, vals_back (fun u hu => let ⟨_, b, _, e, _⟩ := mo u hu; ⟨b, e⟩), heF⟩
    obtain ⟨H2, I3, g, qt⟩ := DX.takeT (P := fun b vs => ∃ (j : Nat) (e : Int × Int), as[j]? = some b ∧ ks[j]? = some e ∧ vs = [.int e.1, .int e.2]) I as _ I2 nd fun b hb => by
      obtain ⟨j, hj⟩ := List.mem_iff_getElem?.mp hb
      obtain ⟨e, t1, t2, he, hg⟩ := pr j b hj
      have hbl : s.heap.objs.size ≤ b := Nat.le_of_lt (hG.above b hb)
      refine ⟨hbl, ?_, [.int e.1, .int e.2], ⟨j, e, hj, he, rfl⟩, fun H3 => ⟨(by rw [sizeLine_eq]; show 2 ≤ 16777216; omega), [Value.int e.1 t1, Value.int e.2 t2], .cons ⟨t1, rfl⟩ (.cons ⟨t2, rfl⟩ .nil), ⟨_, kF _ _ (ne0 _ _ hg) (ka _ _ hg), rfl, 0, rfl⟩⟩⟩
      rw [upd_ne (ne0 _ _ hg)]
      exact I.hok.fresh hbl
    have gr : Ex H H2 := fun b o e => g b o (by rw [upd_ne (ne_of_none e hn0)]; exact e)
    have e2 : (out.map fun v => ((adV v, k v) : Addr × Int × Int)).map (·.2) = out.map k := by rw [List.map_map]; rfl
    refine ⟨.ref h'.objs.size, H2, I3, rfl, q H2 h'.objs.size (out.map fun v => (adV v, k v)) gr ?_ ?_ hn0 ?_ fun z hz' => ?_⟩
    · rw [e2, ← mk]; exact hst.perm.map k
    · rw [e2]; exact SrtO.srtd_map h1
    · rw [List.map_map]
      have e3 : out.map ((fun z : Addr × Int × Int => V.ref z.1) ∘ fun v => (adV v, k v)) = out.map backV := List.map_congr_left fun u hu => by
        obtain ⟨_, b, _, rfl, _⟩ := mo u hu
        rfl
      rw [e3]
      exact g _ _ upd_same
    · obtain ⟨u, hu, rfl⟩ := List.mem_map.mp hz'
      obtain ⟨j, b, e, rfl, hj, he⟩ := mo u hu
      have hb : b ∈ as := List.mem_of_getElem? hj
      obtain ⟨ws, ⟨i, e', i1, i2, ev⟩, hH⟩ := qt b hb
      have eij : i = j := (List.getElem?_inj (List.getElem?_eq_some_iff.mp i1).1 nd).mp (i1.trans hj.symm)
      subst eij
      rw [he] at i2
      cases i2
      obtain ⟨_, _, _, _, hg⟩ := pr i b hj
      refine ⟨I.hok.fresh (Nat.le_of_lt (hG.above b hb)), ne0 _ _ hg, ?_⟩
      show H2 b = some (.tup [.int (k (.ref b)).1, .int (k (.ref b)).2])
      rw [hkd i b e hj he, hH, ev]
/-! ### over values -/
abbrev kD (z : Int × Int) : Key × Dv := (Sum.inl z.1, Dv.int z.2)
abbrev tD (z : Int × Int) : Mv := .frz (.tup [.int z.1, .int z.2])
theorem repK_ints {F : Hp} : ∀ {ns : List (Int × Int)} {xs : List (Key × V)}, RepK F (ns.map kD) xs → xs = ns.map entI
  | [], _, .nil => rfl
  | (i, j) :: ns, _, .cons r q => by
    cases r
    exact congrArg ((Sum.inl i, V.int j) :: ·) (repK_ints q)
theorem reps_tD {F : Hp} : ∀ (zs : List (Addr × Int × Int)), (∀ z ∈ zs, F z.1 = some (.tup [.int z.2.1, .int z.2.2])) → RepMs F ((zs.map (·.2)).map tD) (zs.map fun z => V.ref z.1)
  | [], _ => .nil
  | z :: zs, h => .cons (Rep.tup (h z List.mem_cons_self) (.cons (.int _) (.cons (.int _) .nil))) (reps_tD zs fun y hy => h y (List.mem_cons_of_mem _ hy))
section
variable {a : An} {X : Cx} {ρ : Env} {cs : Cs} {Q : Mv → Cs → Prop} {pos : Pos} {e : Expr}
/-- from a heap with new tuples and a new list of them -/
theorem at_list {F H H0 H' : Hp} {l : Addr} {zs : List (Addr × Int × Int)} (t : At a F H cs) (h0 : Ex H H0) (h1 : Ex H0 H') (hl : H0 l = none) (hl' : H' l = some (.lst (zs.map fun z => V.ref z.1)))
    (hz : ∀ z ∈ zs, H0 z.1 = none ∧ z.1 ≠ l ∧ H' z.1 = some (.tup [.int z.2.1, .int z.2.2])) : ∃ F', Ex F F' ∧ At a F' H' ((l, .lst ((zs.map (·.2)).map tD)) :: cs) ∧ l ∉ ads cs := by
  have out : ∀ {b}, H0 b = none → H b = none := fun h => h0.out h
  have hF : ∀ {b}, H0 b = none → F b = none := fun h => t.stt.sub.out (out h)
  let F' : Hp := fun b => if b ∈ zs.map (·.1) then H' b else F b
  have fz : ∀ z ∈ zs, F' z.1 = H' z.1 := fun z m => if_pos (List.mem_map.mpr ⟨z, m, rfl⟩)
  have nz : ∀ {b}, F b ≠ none → b ∉ zs.map (·.1) := fun {b} hb m => by
    obtain ⟨z, m2, rfl⟩ := List.mem_map.mp m
    exact hb (hF (hz z m2).1)
  have ex : Ex F F' := fun b o h => by
    show (if b ∈ zs.map (·.1) then H' b else F b) = some o
    rw [if_neg (nz (by rw [h]; simp))]; exact h
  have nl : l ∉ zs.map (·.1) := fun m => by
    obtain ⟨z, m, e⟩ := List.mem_map.mp m
    exact (hz z m).2.1 e
  have la : l ∉ ads cs := t.stt.fresh (out hl)
  have z1 : ∀ b ∈ zs.map (·.1), H0 b = none := fun b m => by
    obtain ⟨z, m2, rfl⟩ := List.mem_map.mp m
    exact (hz z m2).1
  refine ⟨F', ex, t.go ⟨ex, fun b o h _ => h1 _ _ (h0 _ _ h), fun b h => ?_, fun b h => ?_⟩ ⟨fun b o h => ?_, fun q hq => ?_, fun q hq => ?_, ?_⟩, la⟩
  · by_cases m : b ∈ zs.map (·.1)
    · exact .inr (.inl (out (z1 b m)))
    · have h2 : F b ≠ none := by
        intro z
        apply h
        show (if b ∈ zs.map (·.1) then H' b else F b) = none
        rw [if_neg m]; exact z
      exact .inl h2
  · rcases List.mem_cons.mp h with rfl | m
    · exact .inr (out hl)
    · exact .inl m
  · by_cases m : b ∈ zs.map (·.1)
    · have h2 : (if b ∈ zs.map (·.1) then H' b else F b) = some o := h
      rw [if_pos m] at h2; exact h2
    · have h2 : (if b ∈ zs.map (·.1) then H' b else F b) = some o := h
      rw [if_neg m] at h2
      exact h1 _ _ (h0 _ _ (t.stt.sub _ _ h2))
  · rcases List.mem_cons.mp hq with rfl | m
    · exact ⟨_, hl', _, rfl, reps_tD zs fun z hm => by rw [fz z hm]; exact (hz z hm).2.2⟩
    · obtain ⟨o, ho, c⟩ := t.stt.cel q m
      exact ⟨o, h1 _ _ (h0 _ _ ho), c.mono ex⟩
  · rcases List.mem_cons.mp hq with rfl | m
    · show (if l ∈ zs.map (·.1) then H' l else F l) = none
      rw [if_neg nl]; exact hF hl
    · obtain ⟨o, ho, c⟩ := t.stt.cel q m
      have n1 : q.1 ∉ zs.map (·.1) := fun m2 => by
        have := out (z1 _ m2)
        rw [ho] at this; cases this
      show (if q.1 ∈ zs.map (·.1) then H' q.1 else F q.1) = none
      rw [if_neg n1]; exact t.stt.out q m
  · exact List.nodup_cons.mpr ⟨la, t.stt.nd⟩
theorem ev_sortedIt {p q apos : Pos} (h : EV a X e ρ cs fun m c1 => ∃ ns : List (Int × Int), m = .frz (.dct (ns.map kD)) ∧ ∀ ys : List (Int × Int), ys.Perm ns → SrtO.Srtd SrtO.lexB ys → ∀ p, p ∉ ads c1 → Q (.cel p) ((p, .lst (ys.map tD)) :: c1)) (hm : X.mg "sorted" = none) (hc : X.calm = true := by rfl) (hg : Gl X "sorted" := by rfl)
    (hbase : attributeBase e "items" X.env (eval e X.env) = eval e X.env := by rfl) (hline : (apos.endLine == q.line) = true := by rfl)
    (hs : starEach (.Call (.Attribute e "items" apos) [] [] q :: []) X.env = (false, eval (.Call (.Attribute e "items" apos) [] [] q) X.env) :: starEach [] X.env := by rfl) (hpl : (backTo pos (starEach [] X.env)).any (·.1) = false := by rfl) :
    EV a X (.Call (.Name "sorted" p) [.Call (.Attribute e "items" apos) [] [] q] [] pos) ρ cs Q := .mk fun σ F H t s => by
  refine WE.of (pe_callB (cr_sIt hc) hg hm (by decide +kernel) (pa_cons (pe_itF (pe e) hbase hline) pa_nil hs) (he := hs) (hpl := hpl)) ((h.run σ F H t s).mono fun v H1 z => ?_)
  obtain ⟨F1, m, c1, e1, t1, r1, ns, rfl, q⟩ := z
  cases r1 with
  | dct hd rk =>
    have hxs := repK_ints rk
    subst hxs
    have hH := t1.stt.sub _ _ hd
    refine ⟨_, _, _, rfl, hH, fun p hp => ⟨p, _, _, ns, rfl, upd_same, Ex.new hp _ _ hH, fun H' l zs ex pm sr hl hl' hz => ?_⟩⟩
    obtain ⟨F2, e2, t2, hn⟩ := at_list t1 (Ex.new hp) ex hl hl' hz
    exact ⟨F2, .cel l, _, e1.trans e2, t2, rfl, q _ pm sr l hn⟩
/-- sorted of a list of pairs of ints -/
theorem rep_tD {F : Hp} : ∀ {ns : List (Int × Int)} {xs : List V}, RepMs F (ns.map tD) xs → ∃ zs : List (Addr × Int × Int), zs.map (·.2) = ns ∧ xs = zs.map (fun z => V.ref z.1) ∧ ∀ z ∈ zs, F z.1 = some (.tup [.int z.2.1, .int z.2.2])
  | [], _, .nil => ⟨[], rfl, rfl, fun _ h => nomatch h⟩
  | n :: ns, _, .cons r q => by
    obtain ⟨zs, e1, e2, h⟩ := rep_tD q
    cases r with
    | @tup b ys _ hf rs =>
      cases rs with
      | cons r1 rs =>
        cases rs with
        | cons r2 rs =>
          cases rs; cases r1; cases r2
          refine ⟨(b, n) :: zs, by rw [List.map_cons, e1], by rw [List.map_cons, e2], fun z hz => ?_⟩
          rcases List.mem_cons.mp hz with rfl | hz
          · exact hf
          · exact h z hz
theorem ev_sortedP {p : Pos} (h : EV a X e ρ cs fun m c1 => ∃ ns : List (Int × Int), LstM c1 m (ns.map tD) ∧ ∀ ys : List (Int × Int), ys.Perm ns → SrtO.Srtd SrtO.lexB ys → ∀ p, p ∉ ads c1 → Q (.cel p) ((p, .lst (ys.map tD)) :: c1)) (hm : X.mg "sorted" = none) (hg : Gl X "sorted" := by rfl)
    (hs : starEach (e :: []) X.env = (false, eval e X.env) :: starEach [] X.env := by rfl) (hpl : (backTo pos (starEach [] X.env)).any (·.1) = false := by rfl) :
    EV a X (.Call (.Name "sorted" p) [e] [] pos) ρ cs Q := ev_B1 cr_sortedPO hg hm (by decide +kernel) (h.mono fun m c1 ⟨ns, hl, q⟩ F0 F H vs e0 t rs => by
  cases rs with
  | cons r rs =>
    cases rs
    obtain ⟨p, xs, rfl, hq, k⟩ := hl.sq t r
    obtain ⟨zs, ez, rfl, hz⟩ := rep_tD k
    -- which pair stands at an address: read from F
    let kk : V → Int × Int := fun v => match v with
      | .ref b => match F b with
        | some (.tup [.int i, .int j]) => (i, j)
        | _ => (0, 0)
      | _ => (0, 0)
    have hk : ∀ z ∈ zs, kk (V.ref z.1) = z.2 := fun z m => by
      show (match F z.1 with
        | some (.tup [.int i, .int j]) => (i, j)
        | _ => (0, 0)) = z.2
      rw [hz z m]
    refine ⟨p, _, kk, rfl, SqL.of hq, fun x hx => ?_, fun ys p hsr hst hn => ?_⟩
    · obtain ⟨z, m, rfl⟩ := List.mem_map.mp hx
      exact ⟨z.1, rfl, by rw [hk z m]; exact t.stt.sub _ _ (hz z m)⟩
    · have mem : ∀ y ∈ ys, ∃ z ∈ zs, y = V.ref z.1 := fun y hy => by
        obtain ⟨z, m, e⟩ := List.mem_map.mp (hst.perm.mem_iff.mp hy)
        exact ⟨z, m, e.symm⟩
      have rp : ∀ l : List V, (∀ y ∈ l, ∃ z ∈ zs, y = V.ref z.1) → RepMs F ((l.map kk).map tD) l := by
        intro l
        induction l with
        | nil => intro _; exact .nil
        | cons y l ih =>
          intro hl
          obtain ⟨z, m, rfl⟩ := hl y List.mem_cons_self
          refine .cons ?_ (ih fun y hy => hl y (List.mem_cons_of_mem _ hy))
          show Rep F (.tup [.int (kk (V.ref z.1)).1, .int (kk (V.ref z.1)).2]) (.ref z.1)
          rw [hk z m]
          exact .tup (hz z m) (.cons (.int _) (.cons (.int _) .nil))
      have pm : (ys.map kk).Perm ns := by
        have p1 := hst.perm.map kk
        rw [List.map_map] at p1
        have e3 : zs.map (kk ∘ fun z => V.ref z.1) = ns := by
          rw [← ez]
          exact List.map_congr_left fun z m => hk z m
        rw [e3] at p1
        exact p1
      exact rt_newC (c := .lst _) e0 t hn ⟨_, rfl, rp ys mem⟩ (q _ pm (SrtO.srtd_map hsr))) (hs := hs) (hpl := hpl)
end
/-! ### the keys of a frozen dict -/
def kMv : Key → Mv
  | .inl i => .frz (.int i)
  | .inr x => .frz (.str x)
theorem RepK.at_ {F : Hp} : ∀ {ds : List (Key × Dv)} {xs : List (Key × V)}, RepK F ds xs → ∀ {i : Nat} {k : Key} {v : V}, xs[i]? = some (k, v) → ∃ d, ds[i]? = some (k, d)
  | _, _, .nil, i, k, v, h => by simp at h
  | _, _, .cons r q, 0, k, v, h => by
    simp only [List.getElem?_cons_zero, Option.some.injEq, Prod.mk.injEq] at h
    obtain ⟨rfl, rfl⟩ := h
    exact ⟨_, rfl⟩
  | _, _, .cons r q, i + 1, k, v, h => by
    simp only [List.getElem?_cons_succ] at h ⊢
    exact RepK.at_ q h
theorem RepK.len {F : Hp} : ∀ {ds : List (Key × Dv)} {xs : List (Key × V)}, RepK F ds xs → xs.length = ds.length
  | _, _, .nil => rfl
  | _, _, .cons r q => by rw [List.length_cons, List.length_cons, RepK.len q]
theorem rep_key {F : Hp} : ∀ k : Key, RepM F (kMv k) (kV k)
  | .inl i => Rep.int i
  | .inr x => Rep.str x
section
variable {a : An} {X : Cx} {ρ : Env} {cs : Cs} {Q : List ItM → (Cs → Prop) → Cs → Prop} {tg e : Expr}
theorem iv_keys (h : EV a X e ρ cs fun m c1 => ∃ l : List (Key × Dv), m = .frz (.dct l) ∧ Q (l.map fun kv => ItM.one (kMv kv.1)) (fun _ => True) c1) : IV a X tg e ρ cs Q := .mk fun σ F H t s => by
  refine WI.of (pi_keys (pe e)) ((h.run σ F H t s).mono fun v H1 z => ?_)
  obtain ⟨F1, m, c1, e1, t1, r1, l, rfl, q⟩ := z
  cases r1 with
  | dct hd rk =>
    have hl := rk.len
    refine ⟨_, _, rfl, .inl ⟨_, t1.stt.sub _ _ hd, F1, c1, _, _, e1, t1, ⟨fun F2 H2 c i e2 t2 g hi => ?_, fun F2 H2 c i it x H' e2 t2 g hi y => ?_, fun F2 H2 c e2 t2 g => ?_⟩, q⟩⟩
    · rw [List.length_map] at hi
      exact ⟨t2.stt.sub _ _ (e2 _ _ hd), by omega⟩
    · obtain ⟨rfl, k, v, hk, rfl⟩ := y
      obtain ⟨d, hkd⟩ := rk.at_ hk
      rw [List.getElem?_map, hkd] at hi
      cases hi
      exact ⟨F2, Ex.refl _, t2, rep_key k⟩
    · exact ⟨t2.stt.sub _ _ (e2 _ _ hd), by rw [List.length_map]; omega⟩
/-- a stop: the walk's kind is told by hand -/
structure IvS (a : An) (X : Cx) (tg e : Expr) (ρ : Env) (cs : Cs) (Q : List ItM → (Cs → Prop) → Cs → Prop) : Prop where
  go : IV a X tg e ρ cs Q
theorem iv_stop (h : IvS a X tg e ρ cs Q) : IV a X tg e ρ cs Q := h.go
end
end Z

/-! Zn: tuple(l) as a known tuple; dict(t) of a known tuple of pairs. -/
namespace Z
open PySem PySem.Spec PyProof.Rows L2
/-- tuple(l), the new one known -/
def rTupN (K : PySem.W.Frag) : List V → Hp → VK → Prop := fun vs H Q => ∃ p ys, vs = [.ref p] ∧ SqL K H p ys ∧ ∀ l od, od.dict = none → H l = none → Q (.ref l) (upd H l (.frz od (.tup ys)))
theorem cr_tupN {X : Cx} : CallR X (.type "tuple") (rTupN X.K) := by
  intro pins s σ H vs us Q I rv hq
  obtain ⟨p, ys, rfl, sl, fin⟩ := hq
  obtain ⟨u, rfl, ru⟩ := vals1 rv
  cases ru
  obtain ⟨its, rr, pl, hz⟩ := I.list sl
  have e := rr.length
  refine call_tuple_list pl.isList (fun hh kk => ?_) (by simp only [List.size_toArray]; omega)
  have J := I.kept (h' := hh) (t' := s.toks) kk
  exact ⟨.ref hh.objs.size, upd H hh.objs.size (.frz _ (.tup ys)), J.laid (t' := s.toks) (fun b o z => Heap.get?_push_of_some _ z) (Nat.le_refl _) ⟨Heap.get?_push_size _ rfl, hz, its, rr, IsTup.new _ _⟩, rfl, fin _ _ rfl (J.hok.fresh (Nat.le_refl _))⟩
theorem tup_keys : typeLookup (.type "tuple") "keys" = pure none := am_miss_of_fast (by first | decide +kernel | rfl)
section
variable {prog : Program} {w : World} {A : Around} {E : Value → Shared → Prop}
/-- dict's walk over the pairs of a tuple -/
theorem upd_tup {R : Result → Shared → Prop} {D J T : Addr} {ts : Array Value} {res : Value} (hn : A.handled = none) (nTJ : T ≠ J) (nDJ : D ≠ J) (nDT : D ≠ T) :
    ∀ (more : List (Key × Value)) (k : Nat) (sofar : List (Key × Value)) (ix : Int) (tk0 : Tok) (s : Shared), ts.size = k + more.length → sofar.length + more.length ≤ sizeLine →
      (∀ (j : Nat) (kv : Key × Value), more[j]? = some kv → ∃ (q : Addr) (y : Value), ts[k + j]? = some (.ref q) ∧ q ≠ D ∧ q ≠ J ∧ IsTup s.heap q #[y, kv.2] ∧ keyIs kv.1 y = true) →
      s.heap.IsTupleIter J T k → s.heap.IsTuple T ts → s.heap.DictOf (mixKind prog w) D sofar →
      (∀ hp tk, hp.DictOf (mixKind prog w) D (merged sofar more) → (∀ b o, b ≠ D → b ≠ J → s.heap.get? b = some o → hp.get? b = some o) → R (.ok (.ret res)) { s with heap := hp, toks := tk }) →
      codeAny (model prog w) A (.builtin "dict.update.loop" ⟨[.ref D, .ref J, .int ix tk0, res], []⟩) R s
  | [], k, sofar, ix, tk0, s, hz, hm, hp, hj, ht, hd, fin => by
    refine codeAny_builtin ud_entry ?_
    rw [Around.under_plainId ud_plain _]
    show wpAny _ A.in1 (pyNext (.ref J) >>= _) _ _ s
    refine wpAny_bind (wpAny_pyNext_tuple_end (A := A.in1) hn hj ht (Array.getElem?_eq_none (by rw [hz]; exact Nat.le_refl _)) fun hp eb => ?_)
    show wpAny _ A.in1 (Builtin.Dict.addKeywords D [] >>= _) _ _ _
    refine wpAny_bind (wpAny_pure (wpAny_pure ?_))
    exact fin hp s.toks (hd.extBut eb nDJ) fun b o _ n e => eb b o n e
  | kv :: more, k, sofar, ix, tk0, s, hz, hm, hp, hj, ht, hd, fin => by
    obtain ⟨q, y, hq, nqD, nqJ, tq, ky⟩ := hp 0 kv rfl
    rw [List.length_cons] at hz hm
    refine codeAny_builtin ud_entry ?_
    rw [Around.under_plainId ud_plain _]
    show wpAny _ A.in1 (pyNext (.ref J) >>= _) _ _ s
    refine wpAny_bind (wpAny_pyNext_tuple_item (x := .ref q) hj ht (by simpa using hq) fun g hj1 sb => ?_)
    have tq1 : IsTup g q #[y, kv.2] := tq.extBut sb.extBut nqJ
    have ht1 : g.IsTuple T ts := ht.extBut sb.extBut nTJ
    have hd1 : g.DictOf (mixKind prog w) D sofar := hd.extBut sb.extBut nDJ
    obtain ⟨o, ho, oc, m, od⟩ := id tq1
    show wpAny _ A.in1 (holding [Value.ref q] _ >>= _) _ _ _
    refine wpAny_bind (wpAny_holding ?_)
    refine wpAny_bind (wpAny_tryCatch ?_)
    unfold Builtin.Dict.pairItems
    refine wpAny_bind (wpAny_typeOf (T := "tuple") ⟨o, ho, oc⟩ ?_)
    rw [if_pos (by first | decide | rfl | simp)]
    refine wpAny_bind (wpAny_seqItems ho od (wpAny_pure ?_))
    show wpAny _ A.in1 (holding [y, kv.2] (dictSet D y kv.2)) _ _ _
    refine wpAny_holding (wpAny_dictSet_pairs (knd := mixKind prog w) (k := kv.1) ky hd1 (fun g2 hd2 sb2 => ?_) (by omega))
    refine wpAny_pure ⟨plainId_quiet ud_plain _, upd_tup (ts := ts) hn nTJ nDJ nDT more (k + 1) (stored sofar kv.1 kv.2) (ix + 1) 0 _ (show ts.size = k + 1 + more.length by omega) ?_ (fun j kv2 e => ?_) ?_ ?_ hd2 fun hp2 tk hdd kk => ?_⟩
    · have := stored_length_le sofar kv.1 kv.2
      omega
    · obtain ⟨q2, y2, hq2, n1, n2, tq2, ky2⟩ := hp (j + 1) kv2 (by simpa using e)
      refine ⟨q2, y2, ?_, n1, n2, (tq2.extBut sb.extBut n2).extBut sb2.extBut n1, ky2⟩
      rw [show k + 1 + j = k + (j + 1) by omega]
      exact hq2
    · obtain ⟨oj, hoj, cj⟩ := hj1
      exact ⟨oj, sb2.extBut J oj (Ne.symm nDJ) hoj, cj⟩
    · exact ht1.extBut sb2.extBut (Ne.symm nDT)
    · exact fin hp2 tk hdd fun b ob n1 n2 e => kk b ob n1 n2 (sb2.extBut b ob n1 (sb.extBut b ob n2 e))
/-- dict(t) of a tuple of pairs -/
theorem call_dict_tup {s : Shared} {T : Addr} {ot : Obj} {ts : Array Value} {m : Nat} {kvs : List (Key × Value)} {Q : Value → Shared → Prop} (hn : A.handled = none) (hT : s.heap.get? T = some ot) (hc : ot.cls = .type "tuple") (hnd : ot.dict = none)
    (hdat : ot.data = .seq ts m) (hsz : ts.size = kvs.length) (hln : kvs.length ≤ sizeLine)
    (hp : ∀ (j : Nat) (kv : Key × Value), kvs[j]? = some kv → ∃ (q : Addr) (y : Value), ts[j]? = some (.ref q) ∧ IsTup s.heap q #[y, kv.2] ∧ keyIs kv.1 y = true)
    (fin : ∀ g tk, g.DictOf (mixKind prog w) s.heap.objs.size (merged [] kvs) → (∀ b o, s.heap.get? b = some o → g.get? b = some o) → Q (.ref s.heap.objs.size) { s with heap := g, toks := tk }) :
    wpAny (model prog w) A (call (.type "dict") [.ref T]) Q E s := by
  refine callType_codes (Q₁ := fun ob s₁ => ob = .ref s.heap.objs.size ∧ s₁ = { s with heap := s.heap.push { cls := .type "dict", data := .dict #[] } }) PySem.F.kt_called_dict (PySem.F.kt_typeCall_dict_1 _) PySem.F.entry_dict_init (kt_code_dict_new _ ⟨rfl, rfl⟩) ?_
  rintro ob s₁ ⟨rfl, rfl⟩
  have fresh : (s.heap.push { cls := .type "dict", data := .dict #[] }).DictOf (mixKind prog w) s.heap.objs.size [] := Heap.DictOf.new s.heap
  have up : ∀ b o, s.heap.get? b = some o → (s.heap.push { cls := .type "dict", data := .dict #[] }).get? b = some o := fun b o e => Heap.get?_push_of_some _ e
  refine ⟨fresh.typeIs, PySem.F.args_dict_init_2 _ _, ?_⟩
  unfold Builtin.«dict.__init__»
  refine wpAny_bind ?_
  unfold Builtin.Dict.selfAndRest
  refine wpAny_bind (wpAny_notOrdered_dict fresh.typeIs ?_)
  show wpAny _ _ (pure (s.heap.objs.size, [Value.ref T])) _ _ _
  refine wpAny_pure ?_
  show wpAny _ _ (Builtin.Dict.updateFrom "dict.__init__" s.heap.objs.size (.ref T) [] .none) _ _ _
  unfold Builtin.Dict.updateFrom
  refine wpAny_bind (wpAny_typeOf (T := "tuple") ⟨ot, up _ _ hT, hc⟩ ?_)
  rw [if_pos (by first | decide | rfl | simp)]
  refine wpAny_bind (PySem.getAttrOr_miss_tuple (up _ _ hT) hc hdat hnd tup_keys (by decide +kernel) hn (fun g1 tk1 k1 => ?_) (by first | size_fits | decide +kernel))
  rw [if_pos (show (none : Option Value).isNone = true from rfl)]
  refine wpAny_bind (wpAny_rule ?_)
  have tT : g1.IsTuple T ts := ⟨ot, k1 _ _ (up _ _ hT), hc, m, hdat⟩
  have lt1 : s.heap.objs.size < g1.objs.size := by
    have e : (s.heap.push { cls := .type "dict", data := .dict #[] }).get? s.heap.objs.size = some { cls := .type "dict", data := .dict #[] } := Heap.get?_push_size _ rfl
    exact Heap.lt_size (k1 _ _ e)
  refine wpAny_bind (wpAny_pyIter_tuple tT ?_)
  have k2 : ∀ b o, g1.get? b = some o → (g1.push { cls := .type "tuple_iterator", data := .fields #[.ref T, .int 0 0] }).get? b = some o := fun b o e => Heap.get?_push_of_some _ e
  have ltT : T < s.heap.objs.size := Heap.lt_size hT
  have key := upd_tup (prog := prog) (w := w) (A := A.in1) (R := wants (fun r s₂ => r = .none ∧ Q (.ref s.heap.objs.size) s₂) E) (D := s.heap.objs.size) (J := g1.objs.size) (T := T) (ts := ts) (res := Value.none) hn
    (Nat.ne_of_lt (Nat.lt_trans ltT lt1)) (Nat.ne_of_lt lt1) (Nat.ne_of_gt ltT) kvs 0 [] 0 0
    { s with heap := g1.push { cls := .type "tuple_iterator", data := .fields #[.ref T, .int 0 0] }, toks := tk1 } (by rw [hsz, Nat.zero_add]) (by rw [List.length_nil, Nat.zero_add]; exact hln)
    (fun j kv e => by
      obtain ⟨q, y, e1, e2, e3⟩ := hp j kv e
      have hq : q < s.heap.objs.size := e2.lt
      exact ⟨q, y, by rw [Nat.zero_add]; exact e1, Nat.ne_of_lt hq, Nat.ne_of_lt (Nat.lt_trans hq lt1), e2.keeps fun c o z => k2 _ _ (k1 _ _ (up _ _ z)), e3⟩)
    ⟨_, Heap.get?_push_size _ rfl, rfl, rfl⟩ ⟨ot, k2 _ _ (k1 _ _ (up _ _ hT)), hc, m, hdat⟩ ((fresh.at fun o e => k1 _ _ e).at fun o e => k2 _ _ e)
    (fun g tk hdd kk => ⟨rfl, fin g tk hdd fun b o e => kk b o (Nat.ne_of_lt (Heap.lt_size e)) (Nat.ne_of_lt (Nat.lt_trans (Heap.lt_size e) lt1)) (k2 _ _ (k1 _ _ (up _ _ e)))⟩)
  first
    | exact wpAny_pure ⟨plainId_quiet ud_plain _, key⟩
    | exact wpAny_bind (wpAny_pure (wpAny_pure ⟨plainId_quiet ud_plain _, key⟩))
end
def rDictT (K : PySem.W.Frag) : List V → Hp → VK → Prop := fun vs H Q => ∃ (t : Addr) (od : Obj) (ps : List Addr) (kvs : List (Key × V)), vs = [.ref t] ∧ H t = some (.frz od (.tup (ps.map V.ref))) ∧ od.dict = none ∧ Paired (fun q kv => SqT K H q [kV kv.1, kv.2]) ps kvs ∧
  ∀ d, H d = none → Q (.ref d) (upd H d (.dK (mergeK [] kvs)))
theorem cr_dictT {X : Cx} (hc : X.calm = true) : CallR X (.type "dict") (rDictT X.K) := by
  intro pins s σ H vs us Q I rv hq
  obtain ⟨t, od, ps, kvs, rfl, ht, hnd, pr, fin⟩ := hq
  obtain ⟨u, rfl, ru⟩ := vals1 rv
  cases ru
  obtain ⟨hg, hz, its, rr, ⟨o2, ho2, hc2, m, hd2⟩⟩ := I.hok t _ ht
  rw [hg] at ho2
  cases ho2
  have ei := refs_at rr
  subst ei
  rw [List.length_map] at hz
  obtain ⟨prs, rel, hl, hpr⟩ := pairs_of I pr
  refine call_dict_tup (kvs := prs) (I.ok.hd hc) hg hc2 hnd hd2 (by simp [hl]) (by rw [hl]; exact hz) (fun j kv e => ?_) fun g tk hdd kk => ?_
  · obtain ⟨b, y, e1, e2, e3⟩ := hpr j kv e
    exact ⟨b, y, by simp [e1], e2, e3⟩
  · have nm : (s.heap.objs.size == sysModules) = false := beq_eq_false_iff_ne.mpr (Nat.ne_of_gt I.big)
    have ll : (mergeK [] kvs).length ≤ sizeLine := by
      refine Nat.le_trans (length_mergeK kvs []) ?_
      rw [List.length_nil, Nat.zero_add, rel.length, hl]
      exact hz
    exact ⟨.ref s.heap.objs.size, upd H s.heap.objs.size (.dK (mergeK [] kvs)), I.laid (t' := tk) kk (Nat.le_refl _) (show ObjOk X.prog X.w _ _ _ (.dK (mergeK [] kvs)) from ⟨ll, nm, merged [] prs, KV.merge rel .nil, hdd⟩), rfl, fin _ (I.hok.fresh (Nat.le_refl _))⟩
section
variable {a : An} {X : Cx} {ρ : Env} {cs : Cs} {Q : Mv → Cs → Prop} {pos : Pos} {e : Expr}
theorem ev_tupN {p : Pos} (hm : X.mg "tuple" = none) (h : EV a X e ρ cs fun m c1 => ∃ ds : List Dv, LstM c1 m (ds.map Mv.frz) ∧ Q (.frz (.ptp ds)) c1) (hg : Gl X "tuple" := by rfl) (hs : starEach (e :: []) X.env = (false, eval e X.env) :: starEach [] X.env := by rfl) (hpl : (backTo pos (starEach [] X.env)).any (·.1) = false := by rfl) :
    EV a X (.Call (.Name "tuple" p) [e] [] pos) ρ cs Q := ev_T1 cr_tupN hg hm boot_tuple (h.mono fun m c1 ⟨ds, hl, q⟩ F0 F H vs e0 t rs => by
  cases rs with
  | cons r rs =>
    cases rs
    obtain ⟨p, xs, rfl, hp, k⟩ := hl.sq t r
    exact ⟨p, xs, rfl, SqL.of hp, fun l od hd hl => rt_newF e0 t hl (fun F' g1 g2 => .ptp g1 hd (k.frz.mono g2)) q⟩) (hs := hs) (hpl := hpl)
/-- rows (k, v) -/
inductive RowsI : List Dv → List (Int × Int) → Prop
  | nil : RowsI [] []
  | tup {k v : Int} {ds : List Dv} {kvs : List (Int × Int)} : RowsI ds kvs → RowsI (.tup [.int k, .int v] :: ds) ((k, v) :: kvs)
  | ptp {k v : Int} {ds : List Dv} {kvs : List (Int × Int)} : RowsI ds kvs → RowsI (.ptp [.int k, .int v] :: ds) ((k, v) :: kvs)
theorem reps_rowsI {F H : Hp} {K : PySem.W.Frag} (e : Ex F H) {ds : List Dv} {kvs : List (Int × Int)} (hr : RowsI ds kvs) : ∀ {xs : List V}, Reps F ds xs → ∃ ps : List Addr, xs = ps.map V.ref ∧ Paired (fun q (kv : Key × V) => SqT K H q [kV kv.1, kv.2]) ps (kvs.map entI) := by
  induction hr with
  | nil =>
    intro xs r
    cases r
    exact ⟨[], rfl, .nil⟩
  | tup _ ih =>
    intro xs r
    cases r with
    | cons r q =>
      obtain ⟨ps, rfl, pr⟩ := ih q
      cases r with
      | @tup b ys _ hf rs =>
        cases rs with
        | cons r1 rs =>
          cases rs with
          | cons r2 rs =>
            cases rs; cases r1; cases r2
            exact ⟨b :: ps, rfl, .cons (SqT.of (e _ _ hf)) pr⟩
  | ptp _ ih =>
    intro xs r
    cases r with
    | cons r q =>
      obtain ⟨ps, rfl, pr⟩ := ih q
      cases r with
      | @ptp b od ys _ hf hd rs =>
        cases rs with
        | cons r1 rs =>
          cases rs with
          | cons r2 rs =>
            cases rs; cases r1; cases r2
            exact ⟨b :: ps, rfl, .cons (.inl (.inr ⟨_, e _ _ hf⟩)) pr⟩
theorem mergeK_nodup : ∀ (kvs : List (Int × Int)) (acc : List (Key × V)), (kvs.map (·.1)).Nodup → (∀ kv ∈ kvs, ∀ q ∈ acc, q.1 ≠ Sum.inl kv.1) → mergeK acc (kvs.map entI) = acc ++ kvs.map entI
  | [], acc, _, _ => by rw [List.map_nil, List.append_nil]; rfl
  | kv :: kvs, acc, hn, ha => by
    rw [List.map_cons] at hn
    have hn' := List.nodup_cons.mp hn
    have e1 : putK acc (Sum.inl kv.1) (V.int kv.2) = acc ++ [entI kv] := by
      unfold putK
      rw [if_neg]
      intro h
      obtain ⟨q, hq, e⟩ := List.any_eq_true.mp h
      exact ha kv List.mem_cons_self q hq (of_decide_eq_true e)
    show mergeK (putK acc (Sum.inl kv.1) (V.int kv.2)) (kvs.map entI) = _
    rw [e1, mergeK_nodup kvs (acc ++ [entI kv]) hn'.2 fun x hx q hq => ?_, List.append_assoc]
    · rfl
    · rcases List.mem_append.mp hq with m | m
      · exact ha x (List.mem_cons_of_mem _ hx) q m
      · rw [List.mem_singleton.mp m]
        intro e
        have : kv.1 = x.1 := Sum.inl.inj e
        exact hn'.1 (List.mem_map.mpr ⟨x, hx, this.symm⟩)
theorem repMK_entI {F : Hp} : ∀ kvs : List (Int × Int), RepMK F (kvs.map fun kv => ((Sum.inl kv.1, .frz (.int kv.2)) : Key × Mv)) (kvs.map entI)
  | [] => .nil
  | kv :: kvs => .cons (Rep.int kv.2) (repMK_entI kvs)
theorem ev_dictT {p : Pos} (hm : X.mg "dict" = none) (h : EV a X e ρ cs fun m c1 => ∃ (ds : List Dv) (kvs : List (Int × Int)), m = .frz (.ptp ds) ∧ RowsI ds kvs ∧ (kvs.map (·.1)).Nodup ∧ ∀ d, d ∉ ads c1 → Q (.cel d) ((d, .dct (kvs.map fun kv => (Sum.inl kv.1, .frz (.int kv.2)))) :: c1)) (hc : X.calm = true := by rfl) (hg : Gl X "dict" := by rfl) (hs : starEach (e :: []) X.env = (false, eval e X.env) :: starEach [] X.env := by rfl) (hpl : (backTo pos (starEach [] X.env)).any (·.1) = false := by rfl) :
    EV a X (.Call (.Name "dict" p) [e] [] pos) ρ cs Q := ev_T1 (cr_dictT hc) hg hm (by decide +kernel) (h.mono fun m c1 ⟨ds, kvs, em, hri, hn, q⟩ F0 F H vs e0 t rs => by
  subst em
  cases rs with
  | cons r rs =>
    cases rs
    cases r with
    | ptp hf hd rr =>
      obtain ⟨ps, rfl, pr⟩ := reps_rowsI (K := X.K) t.stt.sub hri rr
      refine ⟨_, _, ps, kvs.map entI, rfl, t.stt.sub _ _ hf, hd, pr, fun d hd => ?_⟩
      have em : mergeK [] (kvs.map entI) = [] ++ kvs.map entI := mergeK_nodup kvs [] hn (by intro x _ q hq; cases hq)
      rw [em, List.nil_append]
      exact rt_newC (c := .dct _) e0 t hd ⟨_, rfl, repMK_entI kvs⟩ q) (hs := hs) (hpl := hpl)
end
end Z

/-! Zo: sorted(d) of a dict of ints. -/
namespace Z
open PySem PySem.Spec PyProof.Rows L2
/-- a dict whose keys are ns -/
inductive KeysM (cs : Cs) (ns : List Int) : Mv → Prop
  | frz {l : List (Key × Dv)} : l.map (·.1) = ns.map Sum.inl → KeysM cs ns (.frz (.dct l))
  | cel {p : Addr} {l : List (Key × Mv)} : (p, Cell.dct l) ∈ cs → l.map (·.1) = ns.map Sum.inl → KeysM cs ns (.cel p)
theorem RepK.keys {F : Hp} : ∀ {ds : List (Key × Dv)} {xs : List (Key × V)}, RepK F ds xs → xs.map (·.1) = ds.map (·.1)
  | _, _, .nil => rfl
  | _, _, .cons r q => by rw [List.map_cons, List.map_cons, RepK.keys q]
theorem RepMK.keys {F : Hp} : ∀ {ds : List (Key × Mv)} {xs : List (Key × V)}, RepMK F ds xs → xs.map (·.1) = ds.map (·.1)
  | _, _, .nil => rfl
  | _, _, .cons r q => by rw [List.map_cons, List.map_cons, RepMK.keys q]
theorem KeysM.at_ {a : An} {F H : Hp} {cs : Cs} (t : At a F H cs) {ns : List Int} {m : Mv} {v : V} (h : KeysM cs ns m) (r : RepM F m v) : ∃ d kvs, v = .ref d ∧ Rd H d (.dK kvs) ∧ kvs.map (·.1) = ns.map Sum.inl := by
  cases h with
  | frz e =>
    cases r with
    | dct hd rk => exact ⟨_, _, rfl, .inr ⟨_, t.stt.sub _ _ hd⟩, rk.keys.trans e⟩
  | cel hm e =>
    obtain ⟨o, ho, xs, eo, q⟩ := t.stt.cel _ hm
    rw [eo] at ho
    exact ⟨_, _, r, .inl ho, q.keys.trans e⟩
section
variable {a : An} {X : Cx} {ρ : Env} {cs : Cs} {Q : Mv → Cs → Prop} {pos : Pos} {e : Expr}
theorem ev_sortedD {p : Pos} (hm : X.mg "sorted" = none) (h : EV a X e ρ cs fun m c1 => ∃ ns : List Int, KeysM c1 ns m ∧ ns.length < 64 ∧ ∀ ys : List Int, ys.Perm ns → ys.Pairwise (· ≤ ·) → ∀ p, p ∉ ads c1 → Q (.cel p) ((p, .lst (ys.map fun b => .frz (.int b))) :: c1)) (hc : X.calm = true := by rfl) (hg : Gl X "sorted" := by rfl)
    (hs : starEach (e :: []) X.env = (false, eval e X.env) :: starEach [] X.env := by rfl) (hpl : (backTo pos (starEach [] X.env)).any (·.1) = false := by rfl) :
    EV a X (.Call (.Name "sorted" p) [e] [] pos) ρ cs Q := ev_B1 (call_sortedDI hc) hg hm (by decide +kernel) (h.mono fun m c1 ⟨ns, hk, h64, q⟩ F0 F H vs e0 t rs => by
  cases rs with
  | cons r rs =>
    cases rs
    obtain ⟨d, kvs, rfl, hd, ek⟩ := hk.at_ t r
    exact ⟨d, kvs, ns, rfl, hd, ek, h64, fun ys p h1 h2 hn => rt_newC (c := .lst _) e0 t hn ⟨_, rfl, repMs_of_ints ys⟩ (q ys h1 h2)⟩) (hs := hs) (hpl := hpl)
theorem ev_listD {p : Pos} (hm : X.mg "list" = none) (h : EV a X e ρ cs fun m c1 => ∃ (d : Addr) (l : List (Key × Mv)) (ns : List Int), m = .cel d ∧ (d, Cell.dct l) ∈ c1 ∧ l.map (·.1) = ns.map Sum.inl ∧ ∀ q, q ∉ ads c1 → Q (.cel q) ((q, .lst (ns.map fun b => .frz (.int b))) :: c1)) (hc : X.calm = true := by rfl) (hg : Gl X "list" := by rfl)
    (hs : starEach (e :: []) X.env = (false, eval e X.env) :: starEach [] X.env := by rfl) (hpl : (backTo pos (starEach [] X.env)).any (·.1) = false := by rfl) :
    EV a X (.Call (.Name "list" p) [e] [] pos) ρ cs Q := ev_T1 (call_list_dK hc) hg hm boot_list (h.mono fun m c1 ⟨d, l, ns, em, hl, ek, q⟩ F0 F H vs e0 t rs => by
  subst em
  cases rs with
  | cons r rs =>
    cases rs
    obtain ⟨o, ho, xs, eo, qk⟩ := t.stt.cel _ hl
    rw [eo] at ho
    refine ⟨d, xs, congrArg (· :: []) r, ho, fun b hb => ?_⟩
    have e2 : xs.map (fun kv => kV kv.1) = ns.map V.int := by
      have e3 : xs.map (·.1) = ns.map Sum.inl := qk.keys.trans ek
      have e4 := congrArg (List.map kV) e3
      rw [List.map_map, List.map_map] at e4
      exact e4
    rw [e2]
    exact rt_newC (c := .lst _) e0 t hb ⟨_, rfl, repMs_of_ints ns⟩ q) (hs := hs) (hpl := hpl)
end
end Z

/-! Zp: tuple displays that are known; dict(d); max of a list. -/
namespace Z
open PySem PySem.Spec PyProof.Rows L2
def tTupN (t : TA) : TE := fun σ H Q => t σ H fun xs H1 => xs.length ≤ sizeLine ∧ ∀ p od, od.dict = none → H1 p = none → Q (.ref p) (upd H1 p (.frz od (.tup xs)))
theorem pe_tupN {X : Cx} {es : List Expr} {t : TA} {pos : Pos} {x1} (h : PA X es t) : PE X (.Tuple es x1 pos) (tTupN t) := by
  refine ⟨fun pins s σ H Q I hq => ?_⟩
  refine wpAny_Tuple_spliced (thn (h.run pos pins s σ H _ I hq) fun us s1 ⟨xs, H1, I1, r, z, q⟩ => ⟨by rw [← r.length]; exact z, ?_⟩)
  have hf : H1 s1.heap.objs.size = none := I1.hok.fresh (Nat.le_refl _)
  exact ⟨.ref s1.heap.objs.size, upd H1 s1.heap.objs.size (.frz _ (.tup xs)), I1.laid (t' := s1.toks) (fun b u e => Heap.get?_push_of_some _ e) (Nat.le_refl _) ⟨Heap.get?_push_size _ rfl, z, us, r, IsTup.new _ _⟩, rfl, q _ _ rfl hf⟩
theorem cr_dictC {X : Cx} : CallR X (.type "dict") (fun xs H Q => ∃ a kvs, xs = [.ref a] ∧ Rd H a (.dK kvs) ∧ ∀ p, H p = none → Q (.ref p) (upd H p (.dK kvs))) := by
  intro pins s σ H vs us Q I rv hq
  obtain ⟨a, kvs, rfl, hd, fin⟩ := hq
  obtain ⟨u, rfl, ru⟩ := vals1 rv
  cases ru
  exact d_copyOf I hd fun p s' hn I' => ⟨.ref p, _, I', rfl, fin p hn⟩
/-- a dict, frozen or a cell, by its entries -/
inductive DctA (cs : Cs) : Mv → List (Key × Mv) → Prop
  | frz {l : List (Key × Dv)} : DctA cs (.frz (.dct l)) (l.map fun kv => (kv.1, Mv.frz kv.2))
  | cel {p : Addr} {l : List (Key × Mv)} : (p, Cell.dct l) ∈ cs → DctA cs (.cel p) l
theorem RepMK.ofK {F : Hp} : ∀ {l : List (Key × Dv)} {xs : List (Key × V)}, RepK F l xs → RepMK F (l.map fun kv => (kv.1, Mv.frz kv.2)) xs
  | _, _, .nil => .nil
  | _, _, .cons h r => .cons h (RepMK.ofK r)
theorem DctA.at_ {a : An} {F H : Hp} {cs : Cs} (t : At a F H cs) {l : List (Key × Mv)} {m : Mv} {v : V} (h : DctA cs m l) (r : RepM F m v) : ∃ d kvs, v = .ref d ∧ Rd H d (.dK kvs) ∧ RepMK F l kvs := by
  cases h with
  | frz =>
    cases r with
    | dct hd rk => exact ⟨_, _, rfl, .inr ⟨_, t.stt.sub _ _ hd⟩, RepMK.ofK rk⟩
  | cel hm =>
    obtain ⟨o, ho, xs, eo, q⟩ := t.stt.cel _ hm
    rw [eo] at ho
    exact ⟨_, _, r, .inl ho, q⟩
section
variable {a : An} {X : Cx} {ρ : Env} {cs : Cs} {Q : Mv → Cs → Prop} {pos : Pos} {e : Expr} {es : List Expr}
theorem ev_tupP {x1} (h : AV a X es ρ cs fun ms c1 => ∃ ds, ms = ds.map Mv.frz ∧ ds.length ≤ 100000 ∧ Q (.frz (.ptp ds)) c1) : EV a X (.Tuple es x1 pos) ρ cs Q := .mk fun σ F H t s => by
  refine WE.of (pe_tupN (pa es)) ((h.run σ F H t s).mono fun vs H1 z => ?_)
  obtain ⟨F1, ms, c1, e1, t1, r1, ds, rfl, hl, q⟩ := z
  refine ⟨by rw [← r1.length, List.length_map]; exact Nat.le_trans hl (by decide), fun p od hd hp => ?_⟩
  have t2 := t1.newF (o := .frz od (.tup vs)) hp
  exact ⟨_, .frz (.ptp ds), c1, e1.trans (Ex.new (t1.stt.sub.out hp)), t2, .ptp upd_same hd (r1.frz.mono (Ex.new (t1.stt.sub.out hp))), q⟩
theorem ev_dictC {p : Pos} (hm : X.mg "dict" = none) (h : EV a X e ρ cs fun m c1 => ∃ l, DctA c1 m l ∧ ∀ d, d ∉ ads c1 → Q (.cel d) ((d, .dct l) :: c1)) (hg : Gl X "dict" := by rfl) (hs : starEach (e :: []) X.env = (false, eval e X.env) :: starEach [] X.env := by rfl) (hpl : (backTo pos (starEach [] X.env)).any (·.1) = false := by rfl) :
    EV a X (.Call (.Name "dict" p) [e] [] pos) ρ cs Q := ev_T1 cr_dictC hg hm (by decide +kernel) (h.mono fun m c1 ⟨l, hl, q⟩ F0 F H vs e0 t rs => by
  cases rs with
  | cons r rs =>
    cases rs
    obtain ⟨d, kvs, rfl, hd, rk⟩ := hl.at_ t r
    exact ⟨d, kvs, rfl, hd, fun b hb => rt_newC (c := .dct l) e0 t hb ⟨_, rfl, rk⟩ q⟩) (hs := hs) (hpl := hpl)
theorem ev_maxL {p : Pos} (hm : X.mg "max" = none) (h : EV a X e ρ cs fun m c1 => ∃ ns : List Int, LstM c1 m (ns.map fun b => .frz (.int b)) ∧ 0 < ns.length ∧ ∀ k, k ∈ ns → (∀ y, y ∈ ns → y ≤ k) → Q (.frz (.int k)) c1) (hc : X.calm = true := by rfl) (hg : Gl X "max" := by rfl)
    (hs : starEach (e :: []) X.env = (false, eval e X.env) :: starEach [] X.env := by rfl) (hpl : (backTo pos (starEach [] X.env)).any (·.1) = false := by rfl) :
    EV a X (.Call (.Name "max" p) [e] [] pos) ρ cs Q := ev_B1 (cr_max hc) hg hm (by decide +kernel) (h.mono fun m c1 ⟨ns, hl, h0, q⟩ F0 F H vs e0 t rs => by
  cases rs with
  | cons r rs =>
    cases rs
    obtain ⟨p, xs, rfl, hq, k⟩ := hl.sq t r
    cases repMs_ints k
    exact ⟨p, ns, rfl, SqL.of hq, h0, fun k hk hle => rt_int e0 t (q k hk hle)⟩) (hs := hs) (hpl := hpl)
end
end Z

namespace Z
open PySem PySem.Spec PyProof.Rows L2
local macro_rules | `(tactic| k_made) => `(tactic| (with_reducible show (_ : Addr × Cell) ∈ (_ : List (Addr × Cell))); with_reducible first | assumption | exact List.mem_cons_self | exact List.mem_cons_of_mem _ (List.mem_cons_self) | exact List.mem_cons_of_mem _ (List.mem_cons_of_mem _ (List.mem_cons_self)) | exact List.mem_cons_of_mem _ (List.mem_cons_of_mem _ (List.mem_cons_of_mem _ (List.mem_cons_self))) | exact List.mem_cons_of_mem _ (List.mem_cons_of_mem _ (List.mem_cons_of_mem _ (List.mem_cons_of_mem _ (List.mem_cons_self)))) | exact List.mem_cons_of_mem _ (List.mem_cons_of_mem _ (List.mem_cons_of_mem _ (List.mem_cons_of_mem _ (List.mem_cons_of_mem _ (List.mem_cons_self))))) | exact List.mem_cons_of_mem _ (List.mem_cons_of_mem _ (List.mem_cons_of_mem _ (List.mem_cons_of_mem _ (List.mem_cons_of_mem _ (List.mem_cons_of_mem _ (List.mem_cons_self)))))) | exact List.mem_cons_of_mem _ (List.mem_cons_of_mem _ (List.mem_cons_of_mem _ (List.mem_cons_of_mem _ (List.mem_cons_of_mem _ (List.mem_cons_of_mem _ (List.mem_cons_of_mem _ (List.mem_cons_self))))))) | exact List.mem_cons_of_mem _ (by assumption) | exact List.mem_cons_of_mem _ (List.mem_cons_of_mem _ (by assumption)) | exact List.mem_cons_of_mem _ (List.mem_cons_of_mem _ (List.mem_cons_of_mem _ (by assumption))) | exact List.mem_cons_of_mem _ (List.mem_cons_of_mem _ (List.mem_cons_of_mem _ (List.mem_cons_of_mem _ (by assumption)))) | exact List.mem_cons_of_mem _ (List.mem_cons_of_mem _ (List.mem_cons_of_mem _ (List.mem_cons_of_mem _ (List.mem_cons_of_mem _ (by assumption))))))
local macro_rules | `(tactic| k_tabat) => `(tactic| (with_reducible show PutR _ _ _ _ _); first | assumption | exact PutR.hit | exact PutR.skip (PutR.hit) | exact PutR.skip (PutR.skip (PutR.hit)) | exact PutR.skip (PutR.skip (PutR.skip (PutR.hit))) | exact PutR.skip (PutR.skip (PutR.skip (PutR.skip (PutR.hit)))) | exact PutR.skip (PutR.skip (PutR.skip (PutR.skip (PutR.skip (PutR.hit))))) | exact PutR.skip (PutR.skip (PutR.skip (PutR.skip (PutR.skip (PutR.skip (PutR.hit)))))) | exact PutR.skip (PutR.skip (PutR.skip (PutR.skip (PutR.skip (PutR.skip (PutR.skip (PutR.hit))))))) | exact PutR.skip (by assumption) | exact PutR.skip (PutR.skip (by assumption)) | exact PutR.skip (PutR.skip (PutR.skip (by assumption))) | exact PutR.skip (PutR.skip (PutR.skip (PutR.skip (by assumption)))) | exact PutR.skip (PutR.skip (PutR.skip (PutR.skip (PutR.skip (by assumption))))))
local macro_rules | `(tactic| k_ownname) => `(tactic| with_reducible (first | (intro hk; with_unfolding_all (cases hk; done)) | intro hk))
local macro_rules | `(tactic| k_get) => `(tactic| first
  | refine ev_isI ?_ | refine ev_isB ?_ | refine ev_isS ?_ | refine ev_isT ?_ | refine ev_isL ?_
  | refine ev_lenSet ?_ (by assumption) (by assumption)
  | refine ev_len rfl (by assumption) ?_
  | refine ev_all ?_ (by assumption) | refine ev_any ?_ (by assumption) | refine ev_sum ?_ (by assumption)
  | refine ev_append ?_
  | refine ev_fn (by assumption) (L2.Room.mono (by assumption) (by decide)) ?_
  | refine ev_mth (by assumption) (L2.Room.mono (by assumption) (by decide)) ?_
  | refine ev_mth0 (by assumption) (L2.Room.mono (by assumption) (by decide)) ?_
  | refine ev_mkr (by assumption) (L2.Room.mono (by assumption) (by decide)) ?_
  | refine ev_min2 rfl rfl (by assumption) ?_ | refine ev_max2 rfl rfl (by assumption) ?_
  | refine ev_listRg1 rfl rfl (by assumption) rfl (by assumption) ?_ | refine ev_list rfl (by assumption) ?_ | refine ev_tuple rfl (by assumption) ?_)
local macro_rules | `(tactic| k_put) => `(tactic| first
  | ((with_reducible show EV _ _ (.Name _ _) _ _ _); (first | refine ev_nm ?_ | refine ev_globI rfl (by assumption) ?_ | refine ev_globS rfl (by assumption) ?_))
  | ((with_reducible show EV _ _ (.Constant _ _ _) _ _ _); (first | refine ev_int ?_ | refine ev_str ?_ | refine ev_bl ?_ | refine ev_non ?_))
  | ((with_reducible show EV _ _ (.Call _ _ _ _) _ _ _); k_get)
  | ((with_reducible show EV _ _ (.Compare _ _ _ _) _ _ _); (first | refine ev_eq (by assumption) ?_ | refine ev_ne (by assumption) ?_ | refine ev_leLe ?_ | refine ev_leLt ?_ | refine ev_lt ?_ | refine ev_le ?_ | refine ev_gt ?_ | refine ev_ge ?_ | refine ev_in (by assumption) ?_ | refine ev_nin (by assumption) ?_ | refine ev_is ?_ | refine ev_nis ?_))
  | ((with_reducible show TV _ _ (.Compare _ _ _ _) _ _ _); (first | refine tv_eq (by assumption) ?_ | refine tv_ne (by assumption) ?_ | refine tv_leLt ?_ | refine tv_lt ?_ | refine tv_le ?_ | refine tv_gt ?_ | refine tv_ge ?_ | refine tv_in (by assumption) ?_ | refine tv_nin (by assumption) ?_ | refine tv_is ?_ | refine tv_nis ?_))
  | ((with_reducible show EV _ _ (.BinOp _ _ _ _) _ _ _); (first | refine ev_add ?_ | refine ev_sub ?_ | refine ev_mul ?_ | refine ev_fdiv ?_ | refine ev_mod ?_))
  | ((with_reducible show EV _ _ (.BoolOp _ _ _) _ _ _); (first | refine ev_one ?_ | refine ev_and ?_ | refine ev_or ?_))
  | ((with_reducible show TV _ _ (.BoolOp _ _ _) _ _ _); (first | refine tv_w (wv_and ?_) | refine tv_w (wv_or ?_) | refine tv_w (wv_and1 ?_) | refine tv_w (wv_or1 ?_)))
  | ((with_reducible show WV _ _ _ _ _ _); (first | refine wv_and ?_ | refine wv_or ?_ | refine wv_and1 ?_ | refine wv_or1 ?_))
  | ((with_reducible show EV _ _ (.Subscript _ (.Slice _ _ _ _) _) _ _ _); (first | refine ev_sl01 ?_ | refine ev_sl10 ?_ | refine ev_sl11 ?_))
  | ((with_reducible show EV _ _ (.Subscript _ _ _) _ _ _); refine ev_ix (by assumption) ?_)
  | ((with_reducible show EV _ _ (.Attribute _ _ _) _ _ _); refine ev_fld (by assumption) (by assumption) ?_)
  | ((with_reducible show EV _ _ (.UnaryOp _ _ _) _ _ _); (first | refine ev_not ?_ | refine ev_un un_neg ?_))
  | ((with_reducible show TV _ _ (.UnaryOp _ _ _) _ _ _); refine tv_not ?_)
  | ((with_reducible show EV _ _ (.IfExp _ _ _ _) _ _ _); refine ev_if ?_)
  | ((with_reducible show EV _ _ (.Tuple _ _ _) _ _ _); refine ev_tup ?_)
  | ((with_reducible show EV _ _ (.List _ _) _ _ _); refine ev_lst ?_)
  | ((with_reducible show EV _ _ (.ListComp _ _ _ _) _ _ _); (first | refine ev_lcN (by assumption) ?_ | refine ev_lcI (by assumption) ?_ | refine ev_lcN2 (by assumption) ?_ | refine ev_lcI2 (by assumption) ?_))
  | ((with_reducible show PVs _ _ (_ :: _) (_ :: _) _ _ _); change EV _ _ _ _ _ _)
  | ((with_reducible show AV _ _ _ _ _ _); (first | refine av_cons ?_ | refine av_nil ?_))
  | ((with_reducible show IV _ _ _ _ _ _ _); (first | refine iv_range1 rfl (by assumption) ?_ | refine iv_range2 rfl (by assumption) ?_ | refine iv_enum ?_ (by assumption) | refine iv_list ?_))
  | ((with_reducible show TV _ _ _ _ _ _); refine tv_any ?_))
local macro_rules | `(tactic| k_slotset) => `(tactic| first
  | with_reducible refine And.intro ?_ ?_
  | ((with_reducible show ∃ _, FldM _ _ _ _ _ ∧ _); (first | refine ⟨_, FldM.frz rfl, ?_⟩ | refine ⟨_, FldM.cel (by k_made) rfl, ?_⟩))
  | ((with_reducible show ∃ _, IxM _ _ _ _ ∧ _); (first | refine ⟨_, IxM.seq SeqM.tup rfl, ?_⟩ | refine ⟨_, IxM.seq SeqM.lst rfl, ?_⟩ | refine ⟨_, IxM.seq SeqM.ptp rfl, ?_⟩ | refine ⟨_, IxM.dk rfl, ?_⟩ | refine ⟨_, IxM.dc (by k_made) rfl, ?_⟩))
  | ((with_reducible show ∃ _, SeqM _ _ _ ∧ _); (first | refine ⟨_, SeqM.tup, ?_⟩ | refine ⟨_, SeqM.lst, ?_⟩ | refine ⟨_, SeqM.ptp, ?_⟩ | refine ⟨_, SeqM.cel (by k_made), ?_⟩))
  | ((with_reducible show ∃ _, LenM _ _ _ ∧ _); (first | refine ⟨_, LenM.seq SeqM.tup, ?_⟩ | refine ⟨_, LenM.seq SeqM.lst, ?_⟩ | refine ⟨_, LenM.seq SeqM.ptp, ?_⟩ | refine ⟨_, LenM.seq (SeqM.cel (by k_made)), ?_⟩))
  | ((with_reducible show ∃ _, LstM _ _ _ ∧ _); (first | refine ⟨_, LstM.lst, ?_⟩ | refine ⟨_, LstM.cel (by k_made), ?_⟩))
  | ((with_reducible show ∃ _ _ _, TupM _ _ _ ∧ _); refine ⟨_, _, _, TupM.tup (l := [_, _, _]), ?_⟩)
  | ((with_reducible show ∃ _ _, TupM _ _ _ ∧ _); refine ⟨_, _, TupM.tup (l := [_, _]), ?_⟩)
  | ((with_reducible show ∃ _, TupM _ _ _ ∧ _); (first | refine ⟨_, TupM.tup, ?_⟩ | refine ⟨_, TupM.cel (by k_made), ?_⟩))
  | ((with_reducible show LcTurn _ _ _ (.one _) _ _ _ _ _ _); refine lcturn_if (i := .none) fun s0 H0 C cl fp => ?_)
  | ((with_reducible show LcTurn _ _ _ .none _ _ _ _ _ _); refine lcturn_no fun s0 H0 C cl fp => ?_)
  | ((with_reducible show SlQ _ _ _ _ _); (first | refine SlQ.tup ?_ | refine SlQ.lst LstM.lst ?_ | refine SlQ.lst (LstM.cel (by k_made)) ?_))
  | ((with_reducible show UV _ _ _ _ _); refine uv_neg ?_)
  | ((with_reducible show IsDM _ _); (first | exact IsDM.frz | exact IsDM.cel (by k_made)))
  | ((with_reducible show InsM _ _ _ _); (first | exact InsM.frz rfl | exact InsM.cel (by k_made) rfl))
  | ((with_reducible show ∃ _ _, PlM _ _ _ ∧ PlM _ _ _ ∧ _); refine ⟨_, _, PlM.frz (n := 1) (by first | rfl | decide +kernel | assumption) (by decide), PlM.frz (n := 1) (by first | rfl | decide +kernel | assumption) (by decide), ?_⟩)
  | ((with_reducible show AddQ _ _ _ _); refine AddQ.int ?_)
  | ((with_reducible show IsiQ "int" _ _ _); refine isiI (by first | assumption | (intro h; cases h)) ?_)
  | ((with_reducible show IsiQ "bool" _ _ _); refine isiB (by first | assumption | (intro h; cases h)) ?_)
  | ((with_reducible show IsiQ "str" _ _ _); refine isiS (by first | assumption | (intro h; cases h)) ?_)
  | ((with_reducible show IsiQ "tuple" _ _ _); refine isiT (by first | assumption | (intro h; cases h)) ?_)
  | ((with_reducible show IsiQ "list" _ _ _); refine isiL (by first | assumption | (intro h; cases h)) ?_)
  | ((with_reducible show ∃ _ : List Dv, _ ∧ _); (first | refine ⟨[], rfl, Nat.le_of_ble_eq_true rfl, ?_⟩ | refine ⟨[_], rfl, Nat.le_of_ble_eq_true rfl, ?_⟩ | refine ⟨[_, _], rfl, Nat.le_of_ble_eq_true rfl, ?_⟩ | refine ⟨[_, _, _], rfl, Nat.le_of_ble_eq_true rfl, ?_⟩ | refine ⟨[_, _, _, _], rfl, Nat.le_of_ble_eq_true rfl, ?_⟩))
  | ((with_reducible show ∃ _ _ _, _ = _ ∧ PutR _ _ _ _ _ ∧ _); refine ⟨_, _, _, rfl, (by k_tabat), ?_⟩)
  | ((with_reducible show ∃ _ _, PutR _ _ _ _ _ ∧ _ ∧ _); refine ⟨_, _, (by k_tabat), ?_, ?_⟩)
  | ((with_reducible show ∃ _ _, _ = _ ∧ (_, _) ∈ _ ∧ _); refine ⟨_, _, rfl, (by k_made), ?_⟩)
  | with_reducible refine ⟨_, _, rfl, rfl, ?_⟩
  | with_reducible refine ⟨_, rfl, ?_⟩
  | (with_reducible show (_ : Nat) < _; (first | omega | (simp only [List.length_append, List.length_map, List.length_cons, List.length_nil]; omega)))
  | (with_reducible show (_ : Nat) ≤ _; (first | omega | (simp only [List.length_append, List.length_map, List.length_cons, List.length_nil]; omega)))
  | ((with_reducible show (_ : Int) < _); decide)
  | ((with_reducible show (_ : Int) ≤ _); decide)
  | ((with_reducible show (_ : List Mv) ++ [_] = _ ++ ite _ _ _); (first | exact acc_yes rfl | exact acc_yes (by assumption)))
  | ((with_reducible show (_ : List Mv) = _ ++ ite _ _ _); exact acc_no (by assumption))
  | ((with_reducible show (_ : List (Addr × Cell)) = _); with_reducible rfl)
  | ((with_reducible show List.length _ < 100000); refine Nat.lt_of_le_of_lt (by assumption) ?_; (first | omega | (simp only [List.length_map, List.length_zipIdx, List.length_range, List.length_cons, List.length_nil]; omega)))
  | k_ownname)
local macro_rules | `(tactic| k_slotget) => `(tactic| first
  | ((with_reducible show SVs _ _ _ _ _ _); (first | refine svs_cons ?_ | refine svs_nil ?_))
  | k_not)
local macro_rules | `(tactic| k_not) => `(tactic| first
  | ((with_reducible show SV _ _ _ _ _ _); (first | refine sv_ret ?_ | refine sv_for1 (by assumption) ?_ | refine sv_for2 (by assumption) ?_ | refine sv_if ?_ | refine sv_p2 (by assumption) ?_ | refine sv_p3 (by assumption) ?_ | refine sv_c2 (by assumption) ?_ | refine sv_un3 (by assumption) ?_ | refine sv_un2 (by assumption) ?_ | refine sv_st ?_ (by assumption) | refine sv_setLcN (by assumption) ?_ | refine sv_setLcI (by assumption) ?_ | refine sv_fld (by assumption) (by assumption) ?_ | refine sv_expr ?_ | refine sv_retN ?_ | refine sv_pass ?_ | refine sv_break ?_ | refine sv_cont ?_)))
local macro_rules | `(tactic| k_few) => `(tactic| first
  | ((with_reducible show SVs _ _ (Stmt.Assign _ _ _ :: _) _ _ _); refine svs_cons ?_)
  | ((with_reducible show SVs _ _ (Stmt.Expr _ _ :: _) _ _ _); refine svs_cons ?_)
  | ((with_reducible show SVs _ _ [] _ _ _); refine svs_nil ?_)
  | k_not)
local macro_rules | `(tactic| k_same) => `(tactic| repeat (first | exact SubE.cons SubM.hit (SubE.same _) | apply SubE.cons (SubM.same _) | apply SubE.none))
local macro_rules | `(tactic| k_units) => `(tactic| repeat' (first | k_put | k_slotget | k_slotset))
local macro_rules | `(tactic| k_steps) => `(tactic| repeat' (first | k_put | k_few | k_slotset))
local macro_rules | `(tactic| k_sub) => `(tactic| repeat (first | exact List.Sublist.refl _ | apply List.Sublist.cons))

/-! ### houses: the plain data -/
inductive Pc where
  | cloth (l b h : Int) | truck (b h : Int)
def Pc.dv : Pc → Dv
  | .cloth l b h => .tup [.str "cloth", .int l, .int b, .int h]
  | .truck b h => .tup [.str "truck", .int b, .int h]
structure Hs where
  L : Int
  S : Int
  N : Int
  ps : List Pc
def Hs.size (h : Hs) : Dv := .tup [.int h.L, .int h.S, .int h.N]
def Hs.stock (h : Hs) : List Dv := h.ps.map Pc.dv
def Hs.dv (C : Addr) (h : Hs) : Dv := .ins C [("size", h.size), ("stock", .lst h.stock)]
def Pc.ok (L : Int) : Pc → Prop
  | .cloth l b h => (0 ≤ l ∧ l < L) ∧ (1 ≤ b ∧ b ≤ 4) ∧ (1 ≤ h ∧ h ≤ 6)
  | .truck b h => (1 ≤ b ∧ b ≤ 4) ∧ (1 ≤ h ∧ h ≤ 6)
structure Hs.ok (h : Hs) : Prop where
  L : 1 ≤ h.L ∧ h.L ≤ 6
  S : 0 ≤ h.S ∧ h.S ≤ 6
  N : 1 ≤ h.N ∧ h.N ≤ 6
  len : h.ps.length ≤ 8
  pcs : ∀ p ∈ h.ps, p.ok h.L
/-- is_number(d, i, j) -/
def isNum (d : Dv) (i j : Int) : Bool := match d with
  | .int k => decide (i ≤ k) && decide (k ≤ j)
  | _ => false
def w_is_number : FSp := fun ms cs R _ => match ms with
  | [.frz d, .frz (.int i), .frz (.int j)] => d.noI ∧ R (.frz (.bl (isNum d i j))) cs
  | _ => False
/-- need_number where it is one -/
def w_need_number : FSp := fun ms cs R _ => match ms with
  | [.frz (.int k), .frz (.int i), .frz (.int j)] => i ≤ k ∧ k ≤ j ∧ R (.frz .non) cs
  | _ => False
/-- House(..) of good numbers: p the new one -/
def w_house_init (C : Addr) : FSp := fun ms cs R _ => match ms with
  | [.cel p, .frz (.int a), .frz (.int b), .frz (.int c)] => (1 ≤ a ∧ a ≤ 6) ∧ (0 ≤ b ∧ b ≤ 6) ∧ (1 ≤ c ∧ c ≤ 6) ∧ ∃ c1, cs = (p, .ins C []) :: c1 ∧
    ∀ q, q ≠ p → q ∉ ads c1 → R (.frz .non) ((q, .lst []) :: (p, .ins C [("size", .frz (.tup [.int a, .int b, .int c])), ("stock", .cel q)]) :: c1)
  | _ => False
/-- a house under way: at p, its stock's list at q -/
def HsAt (C : Addr) (cs : Cs) (p q : Addr) (h : Hs) : Prop := (p, Cell.ins C [("size", .frz h.size), ("stock", .cel q)]) ∈ cs ∧ (q, Cell.lst (h.stock.map Mv.frz)) ∈ cs
def w_taken_in (C : Addr) : FSp := fun ms cs R _ => match ms with
  | [.cel p, .frz d] => ∃ (q : Addr) (h : Hs) (cs' : Cs), (p, Cell.ins C [("size", .frz h.size), ("stock", .cel q)]) ∈ cs ∧ PutR q (.lst (h.stock.map Mv.frz)) (.lst (h.stock.map Mv.frz ++ [.frz d])) cs cs' ∧ h.ps.length < 8 ∧ R (.frz (.int h.ps.length)) cs'
  | _ => False
def w_cloth (C : Addr) : FSp := fun ms cs R _ => match ms with
  | [.cel p, .frz (.int l), .frz (.int b), .frz (.int n)] => ∃ (q : Addr) (h : Hs) (cs' : Cs), (p, Cell.ins C [("size", .frz h.size), ("stock", .cel q)]) ∈ cs ∧ PutR q (.lst (h.stock.map Mv.frz)) (.lst (h.stock.map Mv.frz ++ [.frz (Pc.cloth l b n).dv])) cs cs' ∧ h.ps.length < 8 ∧ (Pc.cloth l b n).ok h.L ∧ R (.frz (.int h.ps.length)) cs'
  | _ => False
def w_truck (C : Addr) : FSp := fun ms cs R _ => match ms with
  | [.cel p, .frz (.int b), .frz (.int n)] => ∃ (q : Addr) (h : Hs) (cs' : Cs), (p, Cell.ins C [("size", .frz h.size), ("stock", .cel q)]) ∈ cs ∧ PutR q (.lst (h.stock.map Mv.frz)) (.lst (h.stock.map Mv.frz ++ [.frz (Pc.truck b n).dv])) cs cs' ∧ h.ps.length < 8 ∧ (Pc.truck b n).ok h.L ∧ R (.frz (.int h.ps.length)) cs'
  | _ => False
theorem PutR.other {p q : Addr} {c0 c d : Cell} {cs cs' : Cs} (h : PutR p c0 c cs cs') (hm : (q, d) ∈ cs) (hd : c0 ≠ d) : (q, d) ∈ cs' := by
  induction h with
  | hit =>
    rcases List.mem_cons.mp hm with z | z
    · cases z; exact (hd rfl).elim
    · exact List.mem_cons_of_mem _ z
  | skip h ih =>
    rcases List.mem_cons.mp hm with z | z
    · rw [z]; exact List.mem_cons_self
    · exact List.mem_cons_of_mem _ (ih z)
section
variable {P : Program} {w : World} {K : PySem.W.Frag} {mg : Str → Option Value} {base : Heap}
theorem ok_is_number {f : Addr} {fd : FuncData} (F : FunZ K "is_number" "is_number" s_is_number f fd) (g1 : mg "isinstance" = none) (g2 : mg "int" = none) (g3 : mg "bool" = none) : FnOk P w K mg base CX0 1 f fd ["thing", "least", "most"] (toSp w_is_number) := by
  refine def_ok F sc_is_number (by intro ms cs R Z h; unfold w_is_number at h; split at h; rfl; exact h.elim) fun cdv A outer s H E a ms cs R Zx hr hw => ?_
  unfold w_is_number at hw
  split at hw
  · obtain ⟨ht, q⟩ := hw
    rename_i d i j
    cases d with
    | ins C l => exact (ht rfl).elim
    | int k =>
      k_units
      · rename_i h
        show R (.frz (.bl (decide (k ≤ j)))) cs
        have e : isNum (.int k) i j = decide (k ≤ j) := by simp only [isNum, h, Bool.true_and]
        rw [← e]; exact q
      · rename_i h
        show R (.frz (.bl false)) cs
        have e : isNum (.int k) i j = false := by simp only [isNum, h, Bool.false_and]
        rw [← e]; exact q
    | _ => k_units <;> exact q
  · exact hw.elim
theorem is_number_use {d : Dv} {i j : Int} {cs : Cs} {R : Mv → Cs → Prop} {Z} (h : d.noI) (q : R (.frz (.bl (isNum d i j))) cs) : w_is_number [.frz d, .frz (.int i), .frz (.int j)] cs R Z := ⟨h, q⟩
theorem ok_need_number {f : Addr} {fd : FuncData} (F : FunZ K "need_number" "need_number" s_need_number f fd) (f1 : Fn P w K mg base "is_number" 1 w_is_number) : FnOk P w K mg base CX0 2 f fd ["thing", "least", "most"] (toSp w_need_number) := by
  refine def_ok F sc_need_number (by intro ms cs R Z h; unfold w_need_number at h; split at h; rfl; exact h.elim) fun cdv A outer s H E a ms cs R Zx hr hw => ?_
  unfold w_need_number at hw
  split at hw
  · obtain ⟨h1, h2, q⟩ := hw
    k_units
    refine is_number_use (fun h => nomatch h) ?_
    k_units
    · rename_i k i j hk
      simp [isNum, h1, h2] at hk
    · exact q
  · exact hw.elim
theorem need_number_use {k i j : Int} {cs : Cs} {R : Mv → Cs → Prop} {Z} (h1 : i ≤ k) (h2 : k ≤ j) (q : R (.frz .non) cs) : w_need_number [.frz (.int k), .frz (.int i), .frz (.int j)] cs R Z := ⟨h1, h2, q⟩
theorem ok_house_init {C f : Addr} {fd : FuncData} {tk : Tok} (F : FunZ K "__init__" "House.__init__" s_House__init f fd) (f1 : Fn P w K mg base "need_number" 2 w_need_number) (m1 : mg "MOST_HANDS" = some (.int 6 tk)) (hc : Cls K C) (n1 : NoAttr K C "size") (n2 : NoAttr K C "stock") : FnOk P w K mg base CX0 3 f fd ["self", "lines", "slots", "hands"] (toSp (w_house_init C)) := by
  refine def_ok F sc_House__init (by intro ms cs R Z h; unfold w_house_init at h; split at h; rfl; exact h.elim) fun cdv A outer s H E a ms cs R Zx hr hw => ?_
  unfold w_house_init at hw
  split at hw
  · obtain ⟨h1, h2, h3, c1, rfl, q⟩ := hw
    k_units
    refine need_number_use h1.1 h1.2 ?_
    k_units
    refine need_number_use h2.1 h2.2 ?_
    k_units
    refine need_number_use h3.1 h3.2 ?_
    k_units
    · exact Nat.le_of_ble_eq_true rfl
    rename_i p a b c z hz
    exact q z (fun e => hz (by rw [e]; exact List.mem_cons_self)) (fun m => hz (List.mem_cons_of_mem _ m))
  · exact hw.elim
end

section
variable {P : Program} {w : World} {K : PySem.W.Frag} {mg : Str → Option Value} {base : Heap}
theorem ok_taken_in {C f : Addr} {fd : FuncData} {tk : Tok} (F : FunZ K "taken_in" "House.taken_in" s_House_taken_in f fd) (g1 : mg "len" = none) (m1 : mg "MOST_PIECES" = some (.int 8 tk)) (hc : Cls K C) (n2 : NoAttr K C "stock") : FnOk P w K mg base CX0 1 f fd ["self", "piece"] (toSp (w_taken_in C)) := by
  refine def_ok F sc_House_taken_in (by intro ms cs R Z h; unfold w_taken_in at h; split at h; rfl; exact h.elim) fun cdv A outer s H E a ms cs R Zx hr hw => ?_
  have nd := sc_House_taken_in.nd
  have hu : (cxOf CX0 P w K mg base n_House_taken_in "House.taken_in" (defScope s_House_taken_in) f cdv A outer s H E).nox.A.units + 64 < cLine := by have := hr.un; show (A.deeper _).units + 64 < cLine; omega
  unfold w_taken_in at hw
  split at hw
  · obtain ⟨q, h, cs', h1, h2, h3, k⟩ := hw
    have hl : (h.stock.map Mv.frz).length = h.ps.length := by simp [Hs.stock]
    have h4 := h2.mem
    have h5 := h2.other h1 (by intro z; cases z)
    have h6 := h2.new
    k_units
    · rename_i hk
      rw [hl, py_ii] at hk
      have := of_decide_eq_true hk
      omega
    · rename_i d _
      rw [show (((h.stock.map Mv.frz ++ [Mv.frz d]).length : Nat) : Int) - 1 = h.ps.length by rw [List.length_append, hl]; simp]
      exact k
  · exact hw.elim

theorem is_true {d : Dv} {i j : Int} {k : Int} (h : d = .int k) (h1 : i ≤ k) (h2 : k ≤ j) : isNum d i j = true := by subst h; simp [isNum, h1, h2]
theorem taken_in_use {C p q : Addr} {h : Hs} {d : Dv} {cs cs' : Cs} {R : Mv → Cs → Prop} {Z} (h1 : (p, Cell.ins C [("size", .frz h.size), ("stock", .cel q)]) ∈ cs) (h2 : PutR q (.lst (h.stock.map Mv.frz)) (.lst (h.stock.map Mv.frz ++ [.frz d])) cs cs') (h3 : h.ps.length < 8) (k : R (.frz (.int h.ps.length)) cs') :
    w_taken_in C [.cel p, .frz d] cs R Z := ⟨q, h, cs', h1, h2, h3, k⟩
theorem ok_cloth {C f : Addr} {fd : FuncData} {tk tk2 : Tok} (F : FunZ K "cloth" "House.cloth" s_House_cloth f fd) (f1 : Fn P w K mg base "is_number" 1 w_is_number) (f2 : Fn P w K mg base "need_number" 2 w_need_number) (f3 : Mth P w K mg base C "taken_in" 1 (w_taken_in C))
    (m1 : mg "MOST_BEATS" = some (.int 4 tk)) (m2 : mg "MOST_HANDS" = some (.int 6 tk2)) (hc : Cls K C) (n2 : NoAttr K C "size") : FnOk P w K mg base CX0 3 f fd ["self", "line", "beats", "hands"] (toSp (w_cloth C)) := by
  refine def_ok F sc_House_cloth (by intro ms cs R Z h; unfold w_cloth at h; split at h; rfl; exact h.elim) fun cdv A outer s H E a ms cs R Zx hr hw => ?_
  have nd := sc_House_cloth.nd
  have hu : (cxOf CX0 P w K mg base n_House_cloth "House.cloth" (defScope s_House_cloth) f cdv A outer s H E).nox.A.units + 1 < cLine := hu_of hr
  unfold w_cloth at hw
  split at hw
  · obtain ⟨q, h, cs', h1, h2, h3, ⟨h4, h5, h6⟩, k⟩ := hw
    k_units
    refine is_number_use (fun h => nomatch h) ?_
    k_units
    · rename_i hk
      rw [is_true rfl h4.1 (by omega)] at hk
      cases hk
    · refine need_number_use h5.1 h5.2 ?_
      k_units
      refine need_number_use h6.1 h6.2 ?_
      k_units
      exact taken_in_use h1 h2 h3 k
  · exact hw.elim
theorem ok_truck {C f : Addr} {fd : FuncData} {tk tk2 : Tok} (F : FunZ K "truck" "House.truck" s_House_truck f fd) (f2 : Fn P w K mg base "need_number" 2 w_need_number) (f3 : Mth P w K mg base C "taken_in" 1 (w_taken_in C))
    (m1 : mg "MOST_BEATS" = some (.int 4 tk)) (m2 : mg "MOST_HANDS" = some (.int 6 tk2)) : FnOk P w K mg base CX0 3 f fd ["self", "beats", "hands"] (toSp (w_truck C)) := by
  refine def_ok F sc_House_truck (by intro ms cs R Z h; unfold w_truck at h; split at h; rfl; exact h.elim) fun cdv A outer s H E a ms cs R Zx hr hw => ?_
  have nd := sc_House_truck.nd
  unfold w_truck at hw
  split at hw
  · obtain ⟨q, h, cs', h1, h2, h3, ⟨h5, h6⟩, k⟩ := hw
    k_units
    refine need_number_use h5.1 h5.2 ?_
    k_units
    refine need_number_use h6.1 h6.2 ?_
    k_units
    exact taken_in_use h1 h2 h3 k
  · exact hw.elim
end

/-! ### the dice -/
theorem mod_abs {x M : Int} {b : Nat} (h : 0 < M) (hb : M.natAbs ≤ 2 ^ b) : (x % M).natAbs < 2 ^ b := by
  have h1 := Int.emod_nonneg x (by omega : M ≠ 0)
  have h2 := Int.emod_lt_of_pos x h
  have : (x % M).natAbs < M.natAbs := by omega
  exact Nat.lt_of_lt_of_le this hb
theorem mod1_abs {x M : Int} {b : Nat} (h : 0 < M) (hb : M.natAbs ≤ 2 ^ b) : (x % M + 1).natAbs < 2 ^ (b + 1) := by
  have h1 := mod_abs (x := x) h hb
  have h2 := Int.emod_nonneg x (by omega : M ≠ 0)
  have h3 : 2 ^ (b + 1) = 2 ^ b * 2 := Nat.pow_succ ..
  omega
theorem div1_abs {x M : Int} {b : Nat} (h : 0 < M) (h0 : 0 ≤ x) (hb : x.natAbs < 2 ^ b) : (x / M + 1).natAbs < 2 ^ (b + 1) := by
  have h1 : 0 ≤ x / M := Int.ediv_nonneg h0 (by omega)
  have h2 : x / M ≤ x := Int.ediv_le_self M h0
  have h3 : 2 ^ (b + 1) = 2 ^ b * 2 := Nat.pow_succ ..
  omega
/-- any number is drawn -/
def w_drawn : FSp := fun ms cs R _ => match ms with
  | [.frz (.int _), .frz (.int _)] => ∀ r : Int, R (.frz (.int r)) cs
  | _ => False
/-- dice at d, n many: a number below n -/
def w_roll : FSp := fun ms cs R _ => match ms with
  | [.cel d, .frz (.int n)] => (d, Cell.dice) ∈ cs ∧ (0 < n ∧ n < 1073741824) ∧ ∀ r : Int, 0 ≤ r → r < n → R (.frz (.int r)) cs
  | _ => False
theorem roll_use {d : Addr} {n : Int} {cs : Cs} {R : Mv → Cs → Prop} {Z} (h : (d, Cell.dice) ∈ cs) (h1 : 0 < n) (h2 : n < 1073741824) (q : ∀ r : Int, 0 ≤ r → r < n → R (.frz (.int r)) cs) : w_roll [.cel d, .frz (.int n)] cs R Z := ⟨h, ⟨h1, h2⟩, q⟩
section
variable {P : Program} {w : World} {K : PySem.W.Frag} {mg : Str → Option Value} {base : Heap}
theorem ok_drawn {f : Addr} {fd : FuncData} (F : FunZ K "_law_drawn" "_law_drawn" s_L_drawn f fd) : FnOk P w K mg base CX0 1 f fd ["_law_cell_here", "_law_k"] (toSp w_drawn) := by
  refine def_ok F sc_L_drawn (by intro ms cs R Z h; unfold w_drawn at h; split at h; rfl; exact h.elim) fun cdv A outer s H E a ms cs R Zx hr hw => ?_
  have nd := sc_L_drawn.nd
  unfold w_drawn at hw
  split at hw
  · rename_i c k
    k_units
    refine MulQ.int (.inr ⟨by decide, by decide⟩) ?_
    k_units
    refine MulQ.int (.inr ⟨by decide, by decide⟩) ?_
    k_units
    generalize (c * 6364136223846793005 + (k + 1) * 1442695040888963407) = x
    have hx := mod_abs (x := x) (M := 340282366920938463463374607431768211507) (b := 129) (by decide) (by decide)
    generalize x % 340282366920938463463374607431768211507 = y at hx ⊢
    refine MulQ.intW (wide_mul hx hx (by decide) (by decide) (by decide)) ?_
    k_units
    · exact .inr (wide_div (b := 65) (by decide) (by decide) (by decide) (by decide))
    have h1 := mod1_abs (x := y * y % 340282366920938463463374607431768211297) (M := 18446744073709551557) (b := 64) (by decide) (by decide)
    have hz := mod_abs (x := y * y) (M := 340282366920938463463374607431768211297) (b := 129) (by decide) (by decide)
    have h0 := Int.emod_nonneg (y * y) (b := 340282366920938463463374607431768211297) (by decide)
    have h2 := div1_abs (x := y * y % 340282366920938463463374607431768211297) (M := 18446744073709551557) (b := 129) (by decide) h0 hz
    refine MulQ.intW (wide_mul h1 h2 (by decide) (by decide) (by decide)) ?_
    k_units
    refine MulQ.intW (wide_mul (wide_lt h1 h2) hz (by decide) (by decide) (by decide)) ?_
    k_units
    · exact hw _
  · exact hw.elim
end

section
variable {P : Program} {w : World} {K : PySem.W.Frag} {mg : Str → Option Value} {base : Heap}
local macro_rules | `(tactic| k_put) => `(tactic| first
  | ((with_reducible show EV _ _ (.Subscript _ _ _) _ _ _); refine ev_dice ?_)
  | ((with_reducible show EV _ _ (.BinOp _ .Pow _ _) _ _ _); refine ev_pow ?_))
local macro_rules | `(tactic| k_slotget) => `(tactic| ((with_reducible show SV _ _ (.Assign [.Subscript _ _ _] _ _) _ _ _); refine sv_asg ?_))
local macro_rules | `(tactic| k_slotset) => `(tactic| first
  | (with_reducible assumption)
  | ((with_reducible show (_ : Mv) = .frz (.int 0) ∨ (_ : Mv) = .frz (.int 1)); (first | exact .inl rfl | exact .inr rfl))
  | ((with_reducible show CDiv _ _ ∨ CDivW _ _); (first | exact .inl ⟨by assumption, by assumption⟩ | exact .inl ⟨by decide, by decide⟩))
  | ((with_reducible show GV _ _ (.Subscript _ _ _) _ _ _ _); refine gv_dice rfl ?_))
theorem ok_roll {f : Addr} {fd : FuncData} (F : FunZ K "_law_roll" "_law_roll" s_L_roll f fd) (f1 : Fn P w K mg base "_law_drawn" 1 w_drawn) : FnOk P w K mg base CX0 2 f fd ["_law_dice", "_law_many"] (toSp w_roll) := by
  refine def_ok F sc_L_roll (by intro ms cs R Z h; unfold w_roll at h; split at h; rfl; exact h.elim) fun cdv A outer s H E a ms cs R Zx hr hw => ?_
  have nd := sc_L_roll.nd
  unfold w_roll at hw
  split at hw
  · rename_i d n
    obtain ⟨hd, ⟨h1, h2⟩, q⟩ := hw
    have m1 : ∀ b : Nat, 18 ≤ b → (18 : Int).toNat ≤ b := fun b h => h
    k_units
    · exact ⟨by decide, by decide, by decide⟩
    · exact q _ (Int.emod_nonneg _ (by omega)) (Int.emod_lt_of_pos _ h1)
    · intro r
      k_units
      exact q _ (Int.emod_nonneg _ (by omega)) (Int.emod_lt_of_pos _ h1)
  · exact hw.elim
end

/-! ### the script's cells and rounds -/
def w_cell (K : PySem.W.Frag) : FSp := fun ms cs R _ => match ms with
  | [.scr K' _ ns, .frz (.int k)] => K' = K ∧ 0 ≤ k ∧ ns.length < 1000000 ∧ ∀ r : Int, R (.frz (.int r)) cs
  | _ => False
def w_rounds (K : PySem.W.Frag) : FSp := fun ms cs R _ => match ms with
  | [.scr K' _ ns, .frz (.int m)] => K' = K ∧ (1 ≤ m ∧ m < 100) ∧ ns.length < 1000000 ∧ ∀ (p : Addr) (ds : List Addr) (c : Cs), (∀ d ∈ ds, (d, Cell.dice) ∈ c) → R (.cel p) ((p, Cell.lst (ds.map Mv.cel)) :: c)
  | _ => False
section
variable {P : Program} {w : World} {K : PySem.W.Frag} {mg : Str → Option Value} {base : Heap}
theorem atI_mod {ns : List Int} {k : Int} (h : ns ≠ []) : ∃ z, atI ns (k % (ns.length : Nat)) = some z := by
  have h0 : 0 < ns.length := List.length_pos_iff.mpr h
  have h1 := Int.emod_nonneg k (b := (ns.length : Int)) (by omega)
  have h2 := Int.emod_lt_of_pos k (b := (ns.length : Int)) (by omega)
  generalize k % (ns.length : Nat) = i at h1 h2
  refine ⟨ns[i.toNat]'(by omega), ?_⟩
  show (ixN ns.length i).bind (fun j => ns[j]?) = _
  have : ixN ns.length i = some i.toNat := by
    unfold ixN
    rw [if_pos (by omega), if_pos (by omega)]
  rw [this]
  simp
local macro_rules | `(tactic| k_put) => `(tactic| first
  | ((with_reducible show EV _ _ (.Subscript _ _ _) _ _ _); refine ev_scrIx (by assumption) ?_)
  | ((with_reducible show TV _ _ (.Compare _ [.Eq] _ _) _ _ _); refine tv_scrNil (by assumption) ?_))
local macro_rules | `(tactic| k_get) => `(tactic| refine ev_scrLen rfl (by assumption) ?_)
local macro_rules | `(tactic| k_slotset) => `(tactic| first
  | (with_reducible assumption)
  | refine ⟨_, _, (rfl : Mv.scr _ _ _ = _), ?_⟩
  | refine ⟨_, _, _, _, (rfl : Mv.scr _ _ _ = _), rfl, (by assumption), ?_⟩
  | ((with_reducible show MulQ _ _ _ _); refine MulQ.int (.inr ⟨by decide, by decide⟩) ?_)
  | (with_reducible assumption))
theorem ok_cell {f : Addr} {fd : FuncData} (F : FunZ K "_law_cell" "_law_cell" s_L_cell f fd) (g1 : mg "len" = none) : FnOk P w K mg base CX0 1 f fd ["_law_script", "_law_k"] (toSp (w_cell K)) := by
  refine def_ok F sc_L_cell (by intro ms cs R Z h; unfold w_cell at h; split at h; rfl; exact h.elim) fun cdv A outer s H E a ms cs R Zx hr hw => ?_
  have nd := sc_L_cell.nd
  have hu : (cxOf CX0 P w K mg base n_L_cell "_law_cell" (defScope s_L_cell) f cdv A outer s H E).nox.A.units + 64 < cLine := by have := hr.un; show (A.deeper _).units + 64 < cLine; omega
  have hu1 : (cxOf CX0 P w K mg base n_L_cell "_law_cell" (defScope s_L_cell) f cdv A outer s H E).nox.A.units + 1 < cLine := by omega
  unfold w_cell at hw
  split at hw
  · rename_i K' p ns k
    obtain ⟨rfl, hk, hl, q⟩ := hw
    k_units
    refine ⟨p, ns, _, rfl, rfl, List.mem_cons_self, ?_⟩
    refine And.intro (fun hn => ?_) fun hn => ?_
    · refine svs_wk (Wk.sub (List.sublist_cons_self _ _)) ?_
      k_units
      exact q _
    · refine svs_wk (Wk.sub (List.sublist_cons_self _ _)) ?_
      have hn' : ns ≠ [] := of_decide_eq_false hn
      have hp : 0 < ns.length := List.length_pos_iff.mpr hn'
      have hp' : (0 : Int) < (ns.length : Nat) := by omega
      have hp2 : ((ns.length : Nat) : Int) < 1073741824 := by omega
      obtain ⟨z, hz⟩ := atI_mod (k := k) hn'
      have hq : CDiv k (ns.length : Nat) ∨ CDivW k (ns.length : Nat) := .inl ⟨hp', hp2⟩
      k_units
      exact q _
  · exact hw.elim

theorem ok_rounds {f : Addr} {fd : FuncData} (F : FunZ K "_law_rounds" "_law_rounds" s_L_rounds f fd) (f1 : Fn P w K mg base "_law_cell" 1 (w_cell K)) (g1 : mg "len" = none) (g2 : mg "min" = none) (g3 : mg "max" = none) (g4 : mg "range" = none) : FnOk P w K mg base CX0 2 f fd ["_law_script", "_law_most"] (toSp (w_rounds K)) := by
  refine def_ok F sc_L_rounds (by intro ms cs R Z h; unfold w_rounds at h; split at h; rfl; exact h.elim) fun cdv A outer s H E a ms cs R Zx hr hw => ?_
  have nd := sc_L_rounds.nd
  have hu : (cxOf CX0 P w K mg base n_L_rounds "_law_rounds" (defScope s_L_rounds) f cdv A outer s H E).nox.A.units + 64 < cLine := by have := hr.un; show (A.deeper _).units + 64 < cLine; omega
  unfold w_rounds at hw
  split at hw
  · rename_i K' p ns k
    obtain ⟨rfl, ⟨hk, hk2⟩, hl, q⟩ := hw
    refine svs_cons (sv_ret (ev_lcN sc_L_rounds ?_))
    refine iv_range1 rfl g4 ?_
    k_units
    · split <;> (try split) <;> omega
    · split <;> (try split) <;> omega
    rename_i L hL
    generalize hn : (if (if (ns.length : Int) < k then (ns.length : Int) else k) > 1 then if (ns.length : Int) < k then (ns.length : Int) else k else 1).toNat = n
    have hn100 : n < 100 := by
      rw [← hn]
      split <;> (try split) <;> omega
    refine ⟨fun i acc c => ∃ ds : List Addr, ds.length = i ∧ acc = ds.map Mv.cel ∧ ∀ d ∈ ds, (d, Cell.dice) ∈ c, ⟨[], rfl, rfl, fun _ h => nomatch h⟩, fun _ _ _ _ _ => trivial, ?_, ?_⟩
    · rintro i it acc c hi ⟨ds, rfl, rfl, hd⟩
      have hi' : ds.length < n := by
        have := (List.getElem?_eq_some_iff.mp hi).1
        simpa using this
      have e : it = .one (.frz (.int (ds.length : Nat))) := by
        rw [List.getElem?_map, List.getElem?_range hi'] at hi
        exact (Option.some.inj hi).symm
      subst e
      refine ⟨_, rfl, ?_⟩
      refine And.intro (fun _ s0 H0 C cl fp => ?_) (fun h => Bool.noConfusion h)
      refine ev_post ?_
      k_units
      refine ⟨rfl, by omega, hl, fun r => ?_⟩
      k_units
      rename_i q' hq'
      refine ⟨_, Wk.trans (Wk.dice .hit) (Wk.perm (List.Perm.swap _ _ _)), _, rfl, by rw [List.length_map]; omega, ds ++ [q'], by simp, by simp, fun d hd' => ?_⟩
      rcases List.mem_append.mp hd' with z | z
      · exact List.mem_cons_of_mem _ (hd d z)
      · rw [List.mem_singleton.mp z]; exact List.mem_cons_self
    · rintro acc c ⟨ds, _, rfl, hd⟩
      exact q _ _ _ hd
  · exact hw.elim
end

/-! ### the law's table: a house as a dict -/
def Hs.tb (h : Hs) : Dv := .dct [(.inr "size", h.size), (.inr "pieces", .lst h.stock)]
def Pc.isTruck : Pc → Bool
  | .cloth _ _ _ => false
  | .truck _ _ => true
def nTr (ps : List Pc) : Nat := (ps.filter Pc.isTruck).length
theorem nTr_truck {ps : List Pc} {b h : Int} : nTr (ps ++ [.truck b h]) = nTr ps + 1 := by
  unfold nTr; rw [List.filter_append, List.length_append]; rfl
theorem nTr_cloth {ps : List Pc} {l b h : Int} : nTr (ps ++ [.cloth l b h]) = nTr ps := by
  unfold nTr; rw [List.filter_append, List.length_append]; rfl
structure TbOk (h : Hs) (m : Int) : Prop where
  L : 1 ≤ h.L ∧ h.L ≤ 4
  S : 0 ≤ h.S ∧ h.S ≤ 3
  N : 1 ≤ h.N ∧ h.N ≤ 4
  pos : 1 ≤ h.ps.length
  len : (h.ps.length : Int) ≤ m
  pcs : ∀ p ∈ h.ps, p.ok h.L
  tr : (nTr h.ps : Int) ≤ h.L + h.S
theorem TbOk.ok {h : Hs} {m : Int} (t : TbOk h m) (hm : m ≤ 8) : h.ok := ⟨⟨t.L.1, by have := t.L.2; omega⟩, ⟨t.S.1, by have := t.S.2; omega⟩, ⟨t.N.1, by have := t.N.2; omega⟩, by have := t.len; omega, t.pcs⟩
theorem its_map {α : Type} {l : List α} {g : α → ItM} {i : Nat} {it : ItM} (h : (l.map g)[i]? = some it) : ∃ x, l[i]? = some x ∧ it = g x := by
  rw [List.getElem?_map] at h
  obtain ⟨x, h1, h2⟩ := Option.map_eq_some_iff.mp h
  exact ⟨x, h1, h2.symm⟩
theorem its_range {n : Nat} {g : Nat → ItM} {i : Nat} {it : ItM} (h : ((List.range n).map g)[i]? = some it) : i < n ∧ it = g i := by
  obtain ⟨x, h1, h2⟩ := its_map h
  obtain ⟨h3, h4⟩ := List.getElem?_eq_some_iff.mp h1
  rw [List.getElem_range] at h4
  rw [List.length_range] at h3
  exact ⟨h3, by rw [h2, h4]⟩
def w_table : FSp := fun ms cs R _ => match ms with
  | [.cel d, .frz (.int m)] => (d, Cell.dice) ∈ cs ∧ (1 ≤ m ∧ m ≤ 8) ∧ ∀ h : Hs, TbOk h m → R (.frz h.tb) cs
  | _ => False
section
variable {P : Program} {w : World} {K : PySem.W.Frag} {mg : Str → Option Value} {base : Heap}
theorem ok_table {f : Addr} {fd : FuncData} (F : FunZ K "_law_table" "_law_table" s_L_table f fd) (f1 : Fn P w K mg base "_law_roll" 2 w_roll) (g2 : mg "min" = none) (g3 : mg "max" = none) (g4 : mg "range" = none) : FnOk P w K mg base CX0 3 f fd ["_law_dice", "_law_most"] (toSp w_table) := by
  refine def_ok F sc_L_table (by intro ms cs R Z h; unfold w_table at h; split at h; rfl; exact h.elim) fun cdv A outer s H E a ms cs R Zx hr hw => ?_
  have nd := sc_L_table.nd
  have sc := sc_L_table
  have hu : (cxOf CX0 P w K mg base n_L_table "_law_table" (defScope s_L_table) f cdv A outer s H E).nox.A.units + 1 < cLine := hu_of hr
  unfold w_table at hw
  split at hw
  · rename_i d m
    obtain ⟨hd, ⟨hm, hm8⟩, q⟩ := hw
    k_units
    refine roll_use hd (by decide) (by decide) fun L' hL1 hL2 => ?_
    k_units
    refine roll_use hd (by decide) (by decide) fun S hS1 hS2 => ?_
    k_units
    refine roll_use hd (by decide) (by decide) fun N' hN1 hN2 => ?_
    k_units
    refine roll_use (by k_made) (by omega) (by omega) fun k1 hk1 hk2 => ?_
    k_units
    refine roll_use (by k_made) (by omega) (by omega) fun k2 hk3 hk4 => ?_
    k_units
    · split <;> omega
    · split <;> omega
    rename_i pp hpp
    refine ⟨fun i ρ' c' => ∃ (ps : List Pc) (v7 v8 v9 : Option Mv), ps.length = i ∧ ρ' = [some (.cel d), some (.frz (.int m)), some (.frz (.int (1 + L'))), some (.frz (.int S)), some (.frz (.int (1 + N'))), some (.cel pp), some (.frz (.int (nTr ps : Nat))), v7, v8, v9] ∧
      c' = (pp, Cell.lst ((ps.map Pc.dv).map Mv.frz)) :: cs ∧ (∀ p ∈ ps, p.ok (1 + L')) ∧ (nTr ps : Int) ≤ 1 + L' + S, ⟨[], _, _, _, rfl, rfl, rfl, by simp, by show (0 : Int) ≤ _; omega⟩, fun _ _ _ _ _ => trivial, ?_, ?_⟩
    · rintro i it ρ' c' hi ⟨ps, v7, v8, v9, rfl, rfl, rfl, hp, ht⟩
      obtain ⟨hi', rfl⟩ := its_range hi
      refine ⟨_, rfl, ?_⟩
      k_units
      refine roll_use (by k_made) (by omega) (by omega) fun b hb1 hb2 => ?_
      k_units
      refine roll_use (by k_made) (by omega) (by omega) fun o1 ho1 ho2 => ?_
      k_units
      refine roll_use (by k_made) (by omega) (by omega) fun o2 ho3 ho4 => ?_
      k_units
      refine roll_use (by k_made) (by omega) (by omega) fun o3 ho5 ho6 => ?_
      k_units
      · exact .inl ⟨by decide, by decide⟩
      refine MulQ.int (.inr ⟨by omega, by omega⟩) ?_
      have hz : 0 ≤ o3 / 11 * (1 + N') := Int.mul_nonneg (Int.ediv_nonneg ho5 (by decide)) (by omega)
      generalize o3 / 11 * (1 + N') = zz at hz ⊢
      have hO : 1 ≤ (if 1 + (if o2 < o1 then o2 else o1) + zz < 6 then 1 + (if o2 < o1 then o2 else o1) + zz else 6) ∧ (if 1 + (if o2 < o1 then o2 else o1) + zz < 6 then 1 + (if o2 < o1 then o2 else o1) + zz else 6) ≤ 6 := by
        split <;> split <;> omega
      have fin : ∀ (pc : Pc) (t : Int) (u7 u8 u9 : Option Mv), pc.ok (1 + L') → t = (nTr (ps ++ [pc]) : Nat) → t ≤ 1 + L' + S → ∃ (qs : List Pc) (v7 v8 v9 : Option Mv), qs.length = ps.length + 1 ∧ [some (.cel d), some (.frz (.int m)), some (.frz (.int (1 + L'))), some (.frz (.int S)), some (.frz (.int (1 + N'))), some (.cel pp), some (.frz (.int t)), u7, u8, u9] =
          [some (.cel d), some (.frz (.int m)), some (.frz (.int (1 + L'))), some (.frz (.int S)), some (.frz (.int (1 + N'))), some (.cel pp), some (.frz (.int (nTr qs : Nat))), v7, v8, v9] ∧
          (pp, Cell.lst ((ps.map Pc.dv).map Mv.frz ++ [.frz pc.dv])) :: cs = (pp, Cell.lst ((qs.map Pc.dv).map Mv.frz)) :: cs ∧ (∀ p ∈ qs, p.ok (1 + L')) ∧ (nTr qs : Int) ≤ 1 + L' + S := fun pc t u7 u8 u9 h1 h2 h3 =>
        ⟨ps ++ [pc], u7, u8, u9, by simp, by rw [h2], by simp, fun p hp' => (List.mem_append.mp hp').elim (hp p) fun z => by rw [List.mem_singleton.mp z]; exact h1, by rw [← h2]; exact h3⟩
      k_units
      · refine roll_use (by k_made) (by omega) (by omega) fun o4 ho7 ho8 => ?_
        k_units
        · exact fin (.truck (1 + b) _) _ _ _ _ ⟨⟨by omega, by omega⟩, hO⟩ (by rw [nTr_truck]; rfl) (by rename_i hk _; have := of_decide_eq_true hk; omega)
        · refine roll_use (by k_made) (by omega) (by omega) fun o5 ho9 ho10 => ?_
          k_units
          exact fin (.cloth o5 (1 + b) _) _ _ _ _ ⟨⟨by omega, by omega⟩, ⟨by omega, by omega⟩, hO⟩ (by rw [nTr_cloth]) ht
      · refine roll_use (by k_made) (by omega) (by omega) fun o5 ho9 ho10 => ?_
        k_units
        exact fin (.cloth o5 (1 + b) _) _ _ _ _ ⟨⟨by omega, by omega⟩, ⟨by omega, by omega⟩, hO⟩ (by rw [nTr_cloth]) ht
    · rintro ρ' c' ⟨ps, v7, v8, v9, hl, rfl, rfl, hp, ht⟩
      refine svs_frz pp (.lst (ps.map Pc.dv)) (by k_same) (.hit (.same _)) ?_
      k_units
      refine ev_frz (ev_disp (fun dp hdp => ?_) rfl rfl (by simp) (by decide))
      k_units
      refine ⟨_, [(.inr "size", .frz (Dv.tup [.int (1 + L'), .int S, .int (1 + N')])), (.inr "pieces", .frz (Dv.lst (ps.map Pc.dv)))], rfl, rfl, Nat.le_of_ble_eq_true rfl, ?_⟩
      refine ⟨_, _, (⟨1 + L', S, 1 + N', ps⟩ : Hs).tb, _, rfl, .dct [_, _], .hit (.same _), ?_⟩
      have hn : (1 + if k2 > k1 then k2 else k1) ≤ m := by split <;> omega
      have hl' : (ps.length : Int) = (1 + if k2 > k1 then k2 else k1) := by
        rw [hl, List.length_map, List.length_range]
        split <;> omega
      refine q _ ⟨⟨by show 1 ≤ 1 + L'; omega, by show 1 + L' ≤ 4; omega⟩, ⟨hS1, by show S ≤ 3; omega⟩, ⟨by show 1 ≤ 1 + N'; omega, by show 1 + N' ≤ 4; omega⟩, ?_, by show (ps.length : Int) ≤ m; omega, hp, ht⟩
      show 1 ≤ ps.length
      split at hl' <;> omega
  · exact hw.elim
end

/-! ### the law's house -/
def w_lhouse (C : Addr) : FSp := fun ms cs R _ => match ms with
  | [.frz tb] => ∃ h : Hs, tb = h.tb ∧ h.ok ∧ R (.frz (h.dv C)) cs
  | _ => False
theorem house_init_use {C p : Addr} {x y z : Int} {c1 : Cs} {R : Mv → Cs → Prop} {Z} (h1 : 1 ≤ x ∧ x ≤ 6) (h2 : 0 ≤ y ∧ y ≤ 6) (h3 : 1 ≤ z ∧ z ≤ 6) (k : ∀ q, q ≠ p → q ∉ ads c1 → R (.frz .non) ((q, .lst []) :: (p, .ins C [("size", .frz (.tup [.int x, .int y, .int z])), ("stock", .cel q)]) :: c1)) :
    w_house_init C [.cel p, .frz (.int x), .frz (.int y), .frz (.int z)] ((p, .ins C []) :: c1) R Z := ⟨h1, h2, h3, c1, rfl, k⟩
theorem cloth_use {C p q : Addr} {h : Hs} {l b n : Int} {cs cs' : Cs} {R : Mv → Cs → Prop} {Z} (h1 : (p, Cell.ins C [("size", .frz h.size), ("stock", .cel q)]) ∈ cs) (h2 : PutR q (.lst (h.stock.map Mv.frz)) (.lst (h.stock.map Mv.frz ++ [.frz (Pc.cloth l b n).dv])) cs cs') (h3 : h.ps.length < 8) (h4 : (Pc.cloth l b n).ok h.L) (k : R (.frz (.int h.ps.length)) cs') :
    w_cloth C [.cel p, .frz (.int l), .frz (.int b), .frz (.int n)] cs R Z := ⟨q, h, cs', h1, h2, h3, h4, k⟩
theorem truck_use {C p q : Addr} {h : Hs} {b n : Int} {cs cs' : Cs} {R : Mv → Cs → Prop} {Z} (h1 : (p, Cell.ins C [("size", .frz h.size), ("stock", .cel q)]) ∈ cs) (h2 : PutR q (.lst (h.stock.map Mv.frz)) (.lst (h.stock.map Mv.frz ++ [.frz (Pc.truck b n).dv])) cs cs') (h3 : h.ps.length < 8) (h4 : (Pc.truck b n).ok h.L) (k : R (.frz (.int h.ps.length)) cs') :
    w_truck C [.cel p, .frz (.int b), .frz (.int n)] cs R Z := ⟨q, h, cs', h1, h2, h3, h4, k⟩
section
variable {P : Program} {w : World} {K : PySem.W.Frag} {mg : Str → Option Value} {base : Heap}
theorem ok_lhouse {C f : Addr} {fd : FuncData} (F : FunZ K "_law_house" "_law_house" s_L_house f fd) (f1 : Mkr P w K mg base "House" C 3 (w_house_init C)) (f2 : Mth P w K mg base C "cloth" 3 (w_cloth C)) (f3 : Mth P w K mg base C "truck" 3 (w_truck C)) : FnOk P w K mg base CX0 5 f fd ["_law_table_here"] (toSp (w_lhouse C)) := by
  refine def_ok F sc_L_house (by intro ms cs R Z h; unfold w_lhouse at h; split at h; rfl; exact h.elim) fun cdv A outer s H E a ms cs R Zx hr hw => ?_
  have nd := sc_L_house.nd
  have sc := sc_L_house
  have hu : (cxOf CX0 P w K mg base n_L_house "_law_house" (defScope s_L_house) f cdv A outer s H E).nox.A.units + 1 < cLine := hu_of hr
  have hu64 : (cxOf CX0 P w K mg base n_L_house "_law_house" (defScope s_L_house) f cdv A outer s H E).nox.A.units + 64 < cLine := by have := hr.un; show (A.deeper _).units + 64 < cLine; omega
  unfold w_lhouse at hw
  split at hw
  · rename_i tb
    obtain ⟨h, rfl, ho, q⟩ := hw
    k_units
    rename_i p hp
    refine house_init_use ho.L ho.S ho.N fun st hst1 hst2 => ?_
    k_units
    · rfl
    refine ⟨fun i ρ' c' => ∃ v2 : Option Mv, ρ' = [some (.frz h.tb), some (.cel p), v2] ∧ c' = (st, Cell.lst ((h.ps.take i).map Pc.dv |>.map Mv.frz)) :: (p, Cell.ins C [("size", .frz h.size), ("stock", .cel st)]) :: cs, ⟨_, rfl, rfl⟩, fun _ _ _ _ _ => .lst, ?_, ?_⟩
    · rintro i it ρ' c' hi ⟨v2, rfl, rfl⟩
      obtain ⟨x, hx, rfl⟩ := its_map hi
      rw [List.getElem?_map] at hx
      obtain ⟨y, hy, rfl⟩ := Option.map_eq_some_iff.mp hx
      have hy2 : (h.ps.map Pc.dv)[i]? = some y := hy
      rw [List.getElem?_map] at hy2
      obtain ⟨pc, hpc, rfl⟩ := Option.map_eq_some_iff.mp hy2
      obtain ⟨hl, hpc'⟩ := List.getElem?_eq_some_iff.mp hpc
      have hok : pc.ok h.L := ho.pcs pc (by rw [← hpc']; exact List.getElem_mem hl)
      have htk : (h.ps.take (i + 1)) = h.ps.take i ++ [pc] := by rw [List.take_succ_eq_append_getElem hl, hpc']
      have hlen : (h.ps.take i).length < 8 := by have := ho.len; rw [List.length_take]; omega
      refine ⟨_, rfl, ?_⟩
      cases pc with
      | cloth l b n =>
        k_units
        refine cloth_use (h := ⟨h.L, h.S, h.N, h.ps.take i⟩) (List.mem_cons_of_mem _ List.mem_cons_self) .hit hlen hok ?_
        k_units
        rw [htk, List.map_append, List.map_append]; rfl
      | truck b n =>
        k_units
        refine truck_use (h := ⟨h.L, h.S, h.N, h.ps.take i⟩) (List.mem_cons_of_mem _ List.mem_cons_self) .hit hlen hok ?_
        k_units
        rw [htk, List.map_append, List.map_append]; rfl
    · rintro ρ' c' ⟨v2, rfl, rfl⟩
      have e : h.ps.take ((h.stock.map Mv.frz).map ItM.one).length = h.ps := by
        rw [List.length_map, List.length_map, Hs.stock, List.length_map, List.take_length]
      rw [e]
      refine svs_frz st (.lst (h.ps.map Pc.dv)) (.same _) (.hit (.cons (.ins (.cons (.same _) (.cons .hit .nil))) (.same _))) ?_
      refine svs_frz p (.ins C [("size", h.size), ("stock", .lst (h.ps.map Pc.dv))]) (by k_same) (.hit (.same _)) ?_
      k_units
      exact q
  · exact hw.elim
end

/-! ### scenes -/
def upS : Str := "up"
def Dv.plain (d : Dv) : Prop := d.noI ∧ ∀ z, d = .str z → PyData.strOk z = true
def isUp : Dv → Bool
  | .str z => decide (z = upS)
  | _ => false
def Pc.may (h : Hs) : Pc → Dv → Bool
  | .cloth l _ _, d => isUp d || isNum d l l
  | .truck _ _, d => isNum d 0 (h.L + h.S - 1)
def w_may_be (C : Addr) : FSp := fun ms cs R _ => match ms with
  | [.frz hv, .frz (.int i), .frz d] => ∃ (h : Hs) (pc : Pc) (n : Nat), hv = h.dv C ∧ i = n ∧ h.ps[n]? = some pc ∧ d.plain ∧ R (.frz (.bl (pc.may h d))) cs
  | _ => False
theorem ixN_at {n k : Nat} (h : k < n) : ixN n (k : Int) = some k := by
  unfold ixN
  rw [if_pos (by omega), if_pos (by omega)]; rfl
theorem atI_at {α : Type} {l : List α} {k : Nat} {x : α} (h : l[k]? = some x) : atI l (k : Int) = some x := by
  have hl := (List.getElem?_eq_some_iff.mp h).1
  show (ixN l.length (k : Int)).bind _ = _
  rw [ixN_at hl]; exact h
section
variable {P : Program} {w : World} {K : PySem.W.Frag} {mg : Str → Option Value} {base : Heap}
theorem ok_may_be {C f : Addr} {fd : FuncData} {tk : Tok} (F : FunZ K "may_be" "House.may_be" s_House_may_be f fd) (f1 : Fn P w K mg base "is_number" 1 w_is_number) (m1 : mg "UP" = some (.str upS tk)) (g1 : mg "isinstance" = none) (g2 : mg "str" = none) (hc : Cls K C) (n1 : NoAttr K C "size") (n2 : NoAttr K C "stock") : FnOk P w K mg base CX0 2 f fd ["self", "piece", "place"] (toSp (w_may_be C)) := by
  refine def_ok F sc_House_may_be (by intro ms cs R Z h; unfold w_may_be at h; split at h; rfl; exact h.elim) fun cdv A outer s H E a ms cs R Zx hr hw => ?_
  have nd := sc_House_may_be.nd
  have sc := sc_House_may_be
  have hu : (cxOf CX0 P w K mg base n_House_may_be "House.may_be" (defScope s_House_may_be) f cdv A outer s H E).nox.A.units + 1 < cLine := hu_of hr
  have hu64 : (cxOf CX0 P w K mg base n_House_may_be "House.may_be" (defScope s_House_may_be) f cdv A outer s H E).nox.A.units + 64 < cLine := by have := hr.un; show (A.deeper _).units + 64 < cLine; omega
  unfold w_may_be at hw
  split at hw
  · rename_i hv i d
    obtain ⟨h, pc, n, rfl, rfl, hp, ⟨hd, hs⟩, q⟩ := hw
    have hix : atI (h.stock.map Mv.frz) (n : Int) = some (.frz pc.dv) := atI_at (by rw [List.getElem?_map, Hs.stock, List.getElem?_map, hp]; rfl)
    k_units
    refine ⟨_, IxM.seq SeqM.lst hix, ?_⟩
    cases pc with
    | cloth l b k =>
      cases d with
      | ins C l => exact (hd rfl).elim
      | str z =>
        k_units
        refine ⟨_, _, PlM.frz (n := 1) (hs z rfl) (by decide), PlM.frz (n := 1) (d := .str upS) (by decide +kernel) (by decide), ?_⟩
        rw [py_ss]
        k_units
        · refine is_number_use hd ?_
          k_units
          rename_i hk
          show R (.frz (.bl (isNum (.str z) l l))) cs
          have e : (Pc.cloth l b k).may h (.str z) = isNum (.str z) l l := by show (decide (z = upS) || _) = _; rw [hk]; rfl
          rw [← e]; exact q
        · rename_i hk
          have e : (Pc.cloth l b k).may h (.str z) = true := by show (decide (z = upS) || _) = _; rw [hk]; rfl
          show R (.frz (.bl true)) cs
          rw [← e]; exact q
      | _ =>
        k_units
        refine is_number_use hd ?_
        k_units
        exact q
    | truck b k =>
      k_units
      refine is_number_use hd ?_
      k_units
      exact q
  · exact hw.elim

/-! is_scene -/
def mayAt (h : Hs) (x : Dv × Nat) : Bool := match h.ps[x.2]? with
  | some pc => pc.may h x.1
  | none => true
def mays (h : Hs) (ds : List Dv) : Bool := (ds.zipIdx.map (mayAt h)).all id
def dvI : Dv → Int
  | .int i => i
  | _ => 0
def isScene (h : Hs) : Dv → Bool
  | .tup ds => decide (ds.length = h.ps.length) && mays h ds && decide ((ds.filter fun d => !isUp d).map dvI).Nodup
  | _ => false
def Dv.plains : Dv → Prop
  | .tup ds => ds.length ≤ 60 ∧ ∀ d ∈ ds, d.plain
  | .ptp _ => False
  | d => d.noI
def w_is_scene (C : Addr) : FSp := fun ms cs R _ => match ms with
  | [.frz hv, .frz d] => ∃ h : Hs, hv = h.dv C ∧ h.ok ∧ d.plains ∧ R (.frz (.bl (isScene h d))) cs
  | _ => False
theorem enum_frz (ds : List Dv) : ((ds.map Mv.frz).mapIdx fun i m => ItM.two (.frz (.int (i : Nat))) m) = ds.zipIdx.map fun p => ItM.two (.frz (.int (p.2 : Nat))) (.frz p.1) := by
  apply List.ext_getElem?
  intro i
  rw [List.getElem?_mapIdx, List.getElem?_map, List.getElem?_map, List.getElem?_zipIdx, Nat.zero_add, Option.map_map, Option.map_map]
  rfl
theorem isNum_int {d : Dv} {i j : Int} (h : isNum d i j = true) : ∃ k, d = .int k := by
  cases d <;> first | exact ⟨_, rfl⟩ | cases h
theorem may_cases {h : Hs} {pc : Pc} {d : Dv} (e : pc.may h d = true) : d = .str upS ∨ ∃ k, d = .int k := by
  cases pc with
  | cloth l b n =>
    rcases (Bool.or_eq_true _ _).mp e with z | z
    · cases d <;> first | cases z | skip
      rename_i s
      exact .inl (by rw [show s = upS from of_decide_eq_true z])
    · exact .inr (isNum_int z)
  | truck b n => exact .inr (isNum_int e)
theorem mays_cases {h : Hs} {ds : List Dv} (hl : ds.length = h.ps.length) (e : mays h ds = true) : ∀ d ∈ ds, d = .str upS ∨ ∃ k, d = .int k := fun d hd => by
  obtain ⟨i, hi, he⟩ := List.mem_iff_getElem.mp hd
  have hi2 : i < h.ps.length := by omega
  have z := List.all_eq_true.mp e (mayAt h (d, i)) (List.mem_map.mpr ⟨(d, i), by rw [List.mem_zipIdx_iff_getElem?, ← he]; simp [hi], rfl⟩)
  unfold mayAt at z
  rw [List.getElem?_eq_getElem hi2] at z
  exact may_cases z
theorem held_ints {ds : List Dv} (h : ∀ d ∈ ds, d = .str upS ∨ ∃ k, d = .int k) : (ds.filter fun d => !isUp d).map Mv.frz = ((ds.filter fun d => !isUp d).map dvI).map fun i => Mv.frz (.int i) := by
  rw [List.map_map]
  refine List.map_congr_left fun d hd => ?_
  obtain ⟨h1, h2⟩ := List.mem_filter.mp hd
  rcases h d h1 with rfl | ⟨k, rfl⟩
  · cases h2
  · rfl
theorem may_be_use {C : Addr} {h : Hs} {pc : Pc} {n : Nat} {d : Dv} {cs : Cs} {R : Mv → Cs → Prop} {Z} (hp : h.ps[n]? = some pc) (hd : d.plain) (q : R (.frz (.bl (pc.may h d))) cs) : w_may_be C [.frz (h.dv C), .frz (.int (n : Nat)), .frz d] cs R Z := ⟨h, pc, n, rfl, rfl, hp, hd, q⟩
section
local macro_rules | `(tactic| k_put) => `(tactic| ((with_reducible show IV _ _ (.Tuple _ _ _) (.Call (.Name _ _) _ _ _) _ _ _); refine iv_enumT ?_ (by assumption)))
local macro_rules | `(tactic| k_put) => `(tactic| ((with_reducible show IV _ _ (.Name _ _) (.Name _ _) _ _ _); refine iv_tup ?_))
local macro_rules | `(tactic| k_slotget) => `(tactic| first | ((with_reducible show SV _ _ (.If (.UnaryOp _ _ _) _ _ _) _ _ _); refine sv_if (tv_post ?_)) | ((with_reducible show SV _ _ (.Return (some (.Compare _ _ _ _)) _) _ _ _); refine sv_ret (ev_post ?_)))
theorem ok_is_scene {C f : Addr} {fd : FuncData} {tk : Tok} (F : FunZ K "is_scene" "House.is_scene" s_House_is_scene f fd) (f1 : Mth P w K mg base C "may_be" 2 (w_may_be C)) (m1 : mg "UP" = some (.str upS tk)) (g1 : mg "isinstance" = none) (g2 : mg "tuple" = none) (g3 : mg "len" = none) (g4 : mg "all" = none) (g5 : mg "set" = none) (g6 : mg "enumerate" = none) (hc : Cls K C) (n2 : NoAttr K C "stock") : FnOk P w K mg base CX0 3 f fd ["self", "thing"] (toSp (w_is_scene C)) := by
  refine def_ok F sc_House_is_scene (by intro ms cs R Z h; unfold w_is_scene at h; split at h; rfl; exact h.elim) fun cdv A outer s H E a ms cs R Zx hr hw => ?_
  have nd := sc_House_is_scene.nd
  have sc := sc_House_is_scene
  have hu : (cxOf CX0 P w K mg base n_House_is_scene "House.is_scene" (defScope s_House_is_scene) f cdv A outer s H E).nox.A.units + 1 < cLine := hu_of hr
  have hu64 : (cxOf CX0 P w K mg base n_House_is_scene "House.is_scene" (defScope s_House_is_scene) f cdv A outer s H E).nox.A.units + 64 < cLine := by have := hr.un; show (A.deeper _).units + 64 < cLine; omega
  unfold w_is_scene at hw
  split at hw
  · rename_i hv d
    obtain ⟨h, rfl, ho, hd, q⟩ := hw
    cases d with
    | ins C l => exact (hd rfl).elim
    | ptp l => exact hd.elim
    | tup ds =>
      obtain ⟨hlen, hpl⟩ := hd
      have hsl : (h.stock.map Mv.frz).length = h.ps.length := by rw [List.length_map, Hs.stock, List.length_map]
      have hdl : (ds.map Mv.frz).length = ds.length := List.length_map _
      k_units
      · rename_i hk
        rw [hsl, hdl] at hk
        have : isScene h (.tup ds) = false := by
          simp only [isScene]
          rw [decide_eq_false (fun e => by rw [e] at hk; simp [py_ii] at hk)]; rfl
        show R (.frz (.bl false)) cs
        rw [← this]; exact q
      · rename_i hk L hL
        rw [hsl, hdl] at hk
        have heq : ds.length = h.ps.length := by
          rw [py_ii] at hk
          have := of_decide_eq_true (by simpa using hk)
          omega
        rw [enum_frz]
        refine lcloop_fn ds.zipIdx _ (fun _ => true) (fun x => .frz (.bl (mayAt h x))) (fun _ => .tup) (fun x hx acc hacc => ?_) ?_
        · have hx1 : ds[x.2]? = some x.1 := List.mem_zipIdx_iff_getElem?.mp hx
          have hx2 := (List.getElem?_eq_some_iff.mp hx1).1
          have hpc : h.ps[x.2]? = some (h.ps[x.2]'(by omega)) := List.getElem?_eq_getElem (by omega)
          have hm : mayAt h x = (h.ps[x.2]'(by omega)).may h x.1 := by unfold mayAt; rw [hpc]
          refine ⟨_, _, .inl rfl, ?_⟩
          refine And.intro (fun _ s0 H0 C cl fp => ?_) (fun h => Bool.noConfusion h)
          k_units
          refine may_be_use hpc (hpl _ (List.mem_of_getElem? hx1)) ?_
          refine ⟨_, rfl, ?_, by rw [if_pos rfl, hm], rfl⟩
          rw [List.length_zipIdx] at hacc
          omega
        · rw [show (ds.zipIdx.filter fun _ => true) = ds.zipIdx from List.filter_eq_self.mpr fun _ _ => rfl]
          refine ⟨ds.zipIdx.map (mayAt h), by rw [List.map_map]; exact .cel List.mem_cons_self, ?_⟩
          have hms : (ds.zipIdx.map (mayAt h)).all id = mays h ds := rfl
          rw [hms]
          refine ⟨_, rfl, ?_⟩
          show ∃ c', Wk _ c' ∧ _
          refine ⟨cs, Wk.sub (List.sublist_cons_self _ _), ?_⟩
          k_units
          · rename_i hm
            have hm' : mays h ds = false := by simpa using hm
            have : isScene h (.tup ds) = false := by
              simp only [isScene]
              rw [hm', Bool.and_false, Bool.false_and]
            show R (.frz (.bl false)) cs
            rw [← this]; exact q
          · rename_i hm L2 hL2
            have hm' : mays h ds = true := by simpa using hm
            have hcs := mays_cases heq hm'
            rw [List.map_map]
            refine lcloop_fn ds (ItM.one ∘ Mv.frz) (fun d => !isUp d) Mv.frz (fun _ => .tup) (fun d hx acc hacc => ?_) ?_
            · refine ⟨_, rfl, ?_⟩
              rcases hcs d hx with rfl | ⟨k, rfl⟩
              · k_units <;> (first | rfl | simp [isUp])
              · k_units <;> rfl
            · k_units
              refine ⟨(ds.filter fun d => !isUp d).map dvI, by rw [← held_ints hcs]; exact .cel List.mem_cons_self, ?_, ?_⟩
              · rw [List.length_map]
                have := List.length_filter_le (fun d => !isUp d) ds
                omega
              k_units
              refine ⟨cs, Wk.sub (List.sublist_cons_self _ _), ?_⟩
              have hL3 : ((ds.filter fun d => !isUp d).map Mv.frz).length = ((ds.filter fun d => !isUp d).map dvI).length := by rw [List.length_map, List.length_map]
              rw [hL3, py_ii]
              have : isScene h (.tup ds) = decide (((onceI ((ds.filter fun d => !isUp d).map dvI)).length : Int) = (((ds.filter fun d => !isUp d).map dvI).length : Nat)) := by
                simp only [isScene]
                rw [hm', decide_eq_true heq, Bool.and_true, Bool.true_and]
                have z := onceI_nodup ((ds.filter fun d => !isUp d).map dvI)
                exact decide_eq_decide.mpr ⟨fun h => by rw [z.mpr h], fun h => z.mp (by omega)⟩
              show R (.frz (.bl _)) cs
              rw [← this]; exact q
    | _ =>
      k_units
      exact q
  · exact hw.elim
end
end

/-! ### places: none is up, a number the line or slot -/
def plD : Option Int → Dv
  | none => .str upS
  | some k => .int k
def plV : Option Int → V
  | none => .str upS
  | some k => .int k
theorem plD_fl (x : Option Int) : (plD x).fl = some (plV x) := by cases x <;> rfl
theorem plD_fls : ∀ xs : List (Option Int), (xs.map plD).mapM Dv.fl = some (xs.map plV)
  | [] => rfl
  | x :: xs => by
    rw [List.map_cons, List.mapM_cons, plD_fl, plD_fls xs]; rfl
theorem plV_flat (x : Option Int) : flatV (plV x) = true := by cases x <;> (first | rfl | decide +kernel)
theorem plV_flats (xs : List (Option Int)) : (xs.map plV).all flatV = true := List.all_eq_true.mpr fun v hv => by
  obtain ⟨x, _, rfl⟩ := List.mem_map.mp hv
  exact plV_flat x
theorem plV_eq (x y : Option Int) : eqV (plV x) (plV y) = decide (x = y) := by
  cases x <;> cases y
  · decide +kernel
  · rfl
  · rfl
  · rename_i i j
    show (i == j) = _
    rw [Bool.beq_eq_decide_eq]
    exact decide_eq_decide.mpr ⟨fun h => by rw [h], fun h => Option.some.inj h⟩
theorem plV_in (x : Option Int) (xs : List (Option Int)) : inV (plV x) (xs.map plV) = decide (x ∈ xs) := by
  unfold inV
  rw [List.any_map]
  induction xs with
  | nil => rfl
  | cons y ys ih =>
    rw [List.any_cons, ih]
    show (eqV (plV y) (plV x) || _) = _
    rw [plV_eq]
    by_cases h : y = x
    · subst h; simp
    · have h' : ¬ x = y := fun e => h e.symm
      simp [h, h']
theorem InM.pl {cs : Cs} {m : Mv} {x : Option Int} {xs : List (Option Int)} (h : SeqM cs m ((xs.map plD).map Mv.frz)) : InM cs (.frz (plD x)) m (decide (x ∈ xs)) := by
  rw [← plV_in]
  exact .seq (plD_fl x) (plV_flat x) h (plD_fls xs) (plV_flats xs)
theorem plD_up (x : Option Int) : isUp (plD x) = x.isNone := by cases x <;> (first | rfl | decide +kernel)
theorem plD_plain (x : Option Int) : (plD x).plain := by
  cases x with
  | none => exact ⟨(fun h => nomatch h), (fun z hz => by cases hz; decide +kernel)⟩
  | some k => exact ⟨(fun h => nomatch h), (fun z hz => nomatch hz)⟩
theorem plD_sh (x : Option Int) : Dv.sh 1 (plD x) = true := by cases x <;> (first | rfl | decide +kernel)
theorem plD_eqUp (x : Option Int) : PyData.eqv (plD x).py (Dv.str upS).py = x.isNone := by
  cases x with
  | none => show PyData.eqv (Dv.str upS).py (Dv.str upS).py = true; rw [py_ss]; exact decide_eq_true rfl
  | some k => exact py_is
/-- may, of a place -/
def Pc.mayP (h : Hs) : Pc → Option Int → Bool
  | .cloth l _ _, x => decide (x ∈ [none, some l])
  | .truck _ _, x => decide (x ∈ (List.range (h.L + h.S).toNat).map fun (i : Nat) => some (i : Int))
theorem may_pl (h : Hs) (pc : Pc) (x : Option Int) : pc.may h (plD x) = pc.mayP h x := by
  cases pc with
  | cloth l b n =>
    show (isUp (plD x) || isNum (plD x) l l) = decide (x ∈ [none, some l])
    rw [plD_up]
    cases x with
    | none => simp
    | some k =>
      show (decide (l ≤ k) && decide (k ≤ l)) = _
      by_cases e : k = l
      · subst e; simp
      · have h1 : some k ∉ [none, some l] := by simp [e]
        rw [decide_eq_false h1]
        by_cases h2 : l ≤ k
        · rw [decide_eq_false (show ¬ k ≤ l by omega), Bool.and_false]
        · rw [decide_eq_false h2, Bool.false_and]
  | truck b n =>
    show isNum (plD x) 0 (h.L + h.S - 1) = _
    cases x with
    | none =>
      have h1 : (none : Option Int) ∉ (List.range (h.L + h.S).toNat).map fun (i : Nat) => some (i : Int) := by simp
      show false = decide _
      rw [decide_eq_false h1]
    | some k =>
      show (decide (0 ≤ k) && decide (k ≤ h.L + h.S - 1)) = decide _
      by_cases e : 0 ≤ k ∧ k ≤ h.L + h.S - 1
      · have h1 : some k ∈ (List.range (h.L + h.S).toNat).map fun (i : Nat) => some (i : Int) := List.mem_map.mpr ⟨k.toNat, List.mem_range.mpr (by omega), by rw [Int.toNat_of_nonneg e.1]⟩
        rw [decide_eq_true h1, decide_eq_true e.1, decide_eq_true e.2]; rfl
      · have h1 : some k ∉ (List.range (h.L + h.S).toNat).map fun (i : Nat) => some (i : Int) := fun hm => by
          obtain ⟨i, hi, he⟩ := List.mem_map.mp hm
          have := List.mem_range.mp hi
          have := Option.some.inj he
          omega
        rw [decide_eq_false h1]
        by_cases h2 : 0 ≤ k
        · rw [decide_eq_false (show ¬ k ≤ h.L + h.S - 1 by omega), Bool.and_false]
        · rw [decide_eq_false h2, Bool.false_and]

theorem nodup_take (xs : List (Option Int)) : ∀ n, n ≤ xs.length → (((xs.take n).filterMap id).Nodup ↔ ∀ i, i < n → ∀ k, xs[i]? = some (some k) → some k ∉ xs.take i)
  | 0, _ => by simp
  | n + 1, hn => by
    have ih := nodup_take xs n (by omega)
    have hlt : n < xs.length := hn
    have hx : xs[n]? = some xs[n] := List.getElem?_eq_getElem hlt
    rw [List.take_succ_eq_append_getElem hlt, List.filterMap_append]
    cases e : xs[n] with
    | none =>
      rw [show List.filterMap id [(none : Option Int)] = [] from rfl, List.append_nil, ih]
      refine ⟨fun h i hi k hk => ?_, fun h i hi => h i (by omega)⟩
      by_cases hin : i = n
      · subst hin; rw [hx, e] at hk; cases hk
      · exact h i (by omega) k hk
    | some m =>
      rw [show List.filterMap id [some m] = [m] from rfl, List.nodup_append]
      have hm : ∀ l : List (Option Int), m ∈ l.filterMap id ↔ some m ∈ l := fun l => by simp
      refine ⟨fun ⟨h1, _, h3⟩ i hi k hk => ?_, fun h => ⟨ih.mpr fun i hi => h i (by omega), by simp, fun a ha b hb hab => ?_⟩⟩
      · by_cases hin : i = n
        · subst hin
          rw [hx, e] at hk
          cases hk
          exact fun hc => h3 m ((hm _).mpr hc) m List.mem_cons_self rfl
        · exact ih.mp h1 i (by omega) k hk
      · have e1 : b = m := List.mem_singleton.mp hb
        subst e1 hab
        exact h n (by omega) a (by rw [hx, e]) ((hm _).mp ha)
def okAt (h : Hs) (xs : List (Option Int)) (i : Nat) : Bool := match h.ps[i]?, xs[i]? with
  | some pc, some x => pc.mayP h x && (x.isNone || !decide (x ∈ xs.take i))
  | _, _ => true
theorem held_pl (xs : List (Option Int)) : (((xs.map plD).filter fun d => !isUp d).map dvI) = xs.filterMap id := by
  induction xs with
  | nil => rfl
  | cons x xs ih =>
    cases x with
    | none =>
      rw [List.map_cons, List.filter_cons_of_neg (by rw [plD_up]; simp), ih]; rfl
    | some k =>
      rw [List.map_cons, List.filter_cons_of_pos (by rw [plD_up]; rfl), List.map_cons, ih]; rfl
theorem mays_pl {h : Hs} {xs : List (Option Int)} : mays h (xs.map plD) = true ↔ ∀ (i : Nat) (pc : Pc) (x : Option Int), h.ps[i]? = some pc → xs[i]? = some x → pc.mayP h x = true := by
  unfold mays
  rw [List.all_eq_true]
  constructor
  · intro z i pc x hp hx
    have hm : (plD x, i) ∈ (xs.map plD).zipIdx := List.mem_zipIdx_iff_getElem?.mpr (by show (xs.map plD)[i]? = some (plD x); rw [List.getElem?_map, hx]; rfl)
    have y := z (mayAt h (plD x, i)) (List.mem_map.mpr ⟨_, hm, rfl⟩)
    unfold mayAt at y
    rw [hp] at y
    rw [← may_pl]; exact y
  · intro z b hb
    obtain ⟨⟨d, i⟩, hm, rfl⟩ := List.mem_map.mp hb
    have y : (xs.map plD)[i]? = some d := List.mem_zipIdx_iff_getElem?.mp hm
    rw [List.getElem?_map] at y
    obtain ⟨x, hx, rfl⟩ := Option.map_eq_some_iff.mp y
    unfold mayAt
    show id (match h.ps[i]? with | some pc => pc.may h (plD x) | none => true) = true
    cases e : h.ps[i]? with
    | none => rfl
    | some pc => show pc.may h (plD x) = true; rw [may_pl]; exact z i pc x e hx
theorem isScene_pl {h : Hs} {xs : List (Option Int)} : isScene h (.tup (xs.map plD)) = true ↔ xs.length = h.ps.length ∧ ∀ i, i < xs.length → okAt h xs i = true := by
  have e : isScene h (.tup (xs.map plD)) = (decide (xs.length = h.ps.length) && mays h (xs.map plD) && decide (xs.filterMap id).Nodup) := by
    show (decide ((xs.map plD).length = h.ps.length) && mays h (xs.map plD) && decide (((xs.map plD).filter fun d => !isUp d).map dvI).Nodup) = _
    rw [held_pl, List.length_map]
  rw [e, Bool.and_eq_true, Bool.and_eq_true, decide_eq_true_eq, decide_eq_true_eq, mays_pl]
  have nt := nodup_take xs xs.length (Nat.le_refl _)
  rw [List.take_length] at nt
  rw [nt]
  constructor
  · rintro ⟨⟨h1, h2⟩, h3⟩
    refine ⟨h1, fun i hi => ?_⟩
    unfold okAt
    have hi2 : i < h.ps.length := by omega
    rw [List.getElem?_eq_getElem hi2, List.getElem?_eq_getElem hi]
    show (_ && _) = true
    rw [h2 i _ _ (List.getElem?_eq_getElem hi2) (List.getElem?_eq_getElem hi), Bool.true_and]
    cases ex : xs[i] with
    | none => rfl
    | some k =>
      have := h3 i hi k (by rw [List.getElem?_eq_getElem hi, ex])
      show (false || !decide (some k ∈ xs.take i)) = true
      rw [decide_eq_false this]; rfl
  · rintro ⟨h1, h2⟩
    refine ⟨⟨h1, fun i pc x hp hx => ?_⟩, fun i hi k hk => ?_⟩
    · have hi := (List.getElem?_eq_some_iff.mp hx).1
      have z := h2 i hi
      unfold okAt at z
      rw [hp, hx] at z
      exact (Bool.and_eq_true _ _ |>.mp z).1
    · have z := h2 i hi
      have hi2 : i < h.ps.length := by omega
      unfold okAt at z
      rw [List.getElem?_eq_getElem hi2, hk] at z
      have y := (Bool.and_eq_true _ _ |>.mp z).2
      have y2 : (!decide (some k ∈ xs.take i)) = true := y
      simpa using y2
theorem rgM_pl (n : Int) : rgM 0 n = ((List.range n.toNat).map fun (i : Nat) => some (i : Int)).map plD := by
  unfold rgM
  rw [List.map_map, Int.sub_zero]
  refine List.map_congr_left fun i _ => ?_
  show Dv.int (0 + (i : Int)) = Dv.int i
  rw [Int.zero_add]

/-! ### a scene under way -/
theorem pigeon : ∀ (n : Nat) (held : List Int), (∀ i : Nat, i < n → (i : Int) ∈ held) → n ≤ held.length
  | 0, _, _ => Nat.zero_le _
  | n + 1, held, h => by
    have h1 : ((n : Nat) : Int) ∈ held := h n (by omega)
    have z := pigeon n (held.erase n) fun i hi => (List.mem_erase_of_ne (by omega)).mpr (h i (by omega))
    rw [List.length_erase_of_mem h1] at z
    have : 0 < held.length := List.length_pos_of_mem h1
    omega
/-- found: none where nothing stands yet; held: the numbers that stand; dn: which pieces are done -/
structure ScInv (h : Hs) (dn : Nat → Pc → Prop) (found : List (Option (Option Int))) (held : List Int) : Prop where
  len : found.length = h.ps.length
  all : ∀ (j : Nat) (pc : Pc), h.ps[j]? = some pc → dn j pc → ∃ x, found[j]? = some (some x)
  may : ∀ (j : Nat) (pc : Pc) (x : Option Int), h.ps[j]? = some pc → found[j]? = some (some x) → pc.mayP h x = true
  held : ∀ (j : Nat) (k : Int), found[j]? = some (some (some k)) → k ∈ held
  one : ∀ (i j : Nat) (k : Int), found[i]? = some (some (some k)) → found[j]? = some (some (some k)) → i = j
theorem ScInv.start {h : Hs} {dn : Nat → Pc → Prop} (hd : ∀ j pc, ¬ dn j pc) : ScInv h dn (h.ps.map fun _ => none) [] := by
  refine ⟨by simp, fun j pc _ d => (hd j pc d).elim, fun j pc x _ e => ?_, fun j k e => ?_, fun i j k e _ => ?_⟩ <;>
  · rw [List.getElem?_map] at e
    obtain ⟨_, _, e2⟩ := Option.map_eq_some_iff.mp e
    cases e2
theorem ScInv.mono {h : Hs} {dn dn' : Nat → Pc → Prop} {found : List (Option (Option Int))} {held : List Int} (s : ScInv h dn found held) (i : ∀ j pc, h.ps[j]? = some pc → dn' j pc → dn j pc) : ScInv h dn' found held :=
  ⟨s.len, fun j pc hp d => s.all j pc hp (i j pc hp d), s.may, s.held, s.one⟩
/-- the place x for piece n -/
theorem ScInv.put {h : Hs} {dn dn' : Nat → Pc → Prop} {found : List (Option (Option Int))} {held : List Int} (s : ScInv h dn found held) {n : Nat} {pc : Pc} {x : Option Int} (hp : h.ps[n]? = some pc) (hm : pc.mayP h x = true) (hx : ∀ k, x = some k → k ∉ held)
    (i : ∀ j pc, h.ps[j]? = some pc → dn' j pc → j = n ∨ dn j pc) : ScInv h dn' (found.set n (some x)) (held ++ x.toList) := by
  have hn : n < found.length := by rw [s.len]; exact (List.getElem?_eq_some_iff.mp hp).1
  have at_n : (found.set n (some x))[n]? = some (some x) := by rw [List.getElem?_set_self hn]
  have at_j : ∀ j, j ≠ n → (found.set n (some x))[j]? = found[j]? := fun j hj => List.getElem?_set_ne (Ne.symm hj)
  refine ⟨by rw [List.length_set]; exact s.len, fun j qc hq d => ?_, fun j qc y hq e => ?_, fun j k e => ?_, fun a b k ea eb => ?_⟩
  · by_cases hj : j = n
    · subst hj; exact ⟨x, at_n⟩
    · rw [at_j j hj]
      exact s.all j qc hq ((i j qc hq d).resolve_left hj)
  · by_cases hj : j = n
    · subst hj
      rw [at_n] at e
      rw [hp] at hq
      cases e; cases hq
      exact hm
    · rw [at_j j hj] at e
      exact s.may j qc y hq e
  · by_cases hj : j = n
    · subst hj
      rw [at_n] at e
      cases e
      simp
    · rw [at_j j hj] at e
      exact List.mem_append_left _ (s.held j k e)
  · have no : ∀ j, j ≠ n → (found.set n (some x))[j]? = some (some (some k)) → (found.set n (some x))[n]? = some (some (some k)) → False := fun j hj e1 e2 => by
      rw [at_n] at e2
      rw [at_j j hj] at e1
      exact hx k (by cases e2; rfl) (s.held j k e1)
    by_cases ha : a = n <;> by_cases hb : b = n
    · rw [ha, hb]
    · subst ha; exact (no b hb eb ea).elim
    · subst hb; exact (no a ha ea eb).elim
    · rw [at_j a ha] at ea
      rw [at_j b hb] at eb
      exact s.one a b k ea eb
/-- all done: a scene -/
theorem ScInv.scene {h : Hs} {found : List (Option (Option Int))} {held : List Int} (s : ScInv h (fun _ _ => True) found held) : ∃ xs : List (Option Int), found = xs.map some ∧ isScene h (.tup (xs.map plD)) = true := by
  have e : found = (found.map fun o => o.getD none).map some := by
    apply List.ext_getElem?
    intro j
    rw [List.map_map, List.getElem?_map]
    cases q : found[j]? with
    | none => rfl
    | some o =>
      have hj : j < h.ps.length := by rw [← s.len]; exact (List.getElem?_eq_some_iff.mp q).1
      obtain ⟨x, hx⟩ := s.all j _ (List.getElem?_eq_getElem hj) trivial
      rw [hx] at q
      cases q
      rfl
  refine ⟨_, e, isScene_pl.mpr ⟨by rw [List.length_map, s.len], fun j hj => ?_⟩⟩
  generalize (found.map fun o => o.getD none) = xs at e hj
  subst e
  have hl : xs.length = h.ps.length := by rw [← s.len, List.length_map]
  have hx : (xs.map some)[j]? = some (some xs[j]) := by rw [List.getElem?_map, List.getElem?_eq_getElem hj]; rfl
  unfold okAt
  rw [List.getElem?_eq_getElem (by omega : j < h.ps.length), List.getElem?_eq_getElem hj]
  show (_ && _) = true
  rw [s.may j _ _ (List.getElem?_eq_getElem (by omega)) hx, Bool.true_and]
  cases ex : xs[j] with
  | none => rfl
  | some k =>
    show (false || !decide (some k ∈ xs.take j)) = true
    rw [decide_eq_false fun hm => ?_]; rfl
    obtain ⟨i, hi, he⟩ := List.mem_iff_getElem.mp hm
    rw [List.getElem_take] at he
    rw [List.length_take] at hi
    have hi' : i < xs.length := by omega
    have h1 : (xs.map some)[i]? = some (some (some k)) := by rw [List.getElem?_map, List.getElem?_eq_getElem hi', he]; rfl
    rw [ex] at hx
    have := s.one i j k h1 hx
    omega

/-! ### the law's own call -/
def w_law (K : PySem.W.Frag) : FSp := fun ms cs R _ => ∃ (a : Addr) (ns : List Int), ms = [.scr K a ns] ∧ cs = [] ∧ ns.length ≤ 63 ∧ ∀ c, R (.frz (.bl true)) c
theorem law_start (K : PySem.W.Frag) (H : Hp) (a : Addr) (ns : List Int) (hl : ns.length ≤ 63) (_ : Only H) (hS : SqL K H a (ns.map V.int)) : toSp (w_law K) [.ref a] H (fun v _ => v = .bl true) fun _ _ _ => False :=
  ⟨H, [.scr K a ns], [], fun m _ => m = .frz (.bl true), Z0, ⟨Ex.refl _, (fun p hp => nomatch hp), (fun p hp => nomatch hp), List.nodup_nil⟩, .cons ⟨rfl, hS⟩ .nil, ⟨a, ns, rfl, rfl, hl, fun _ => rfl⟩,
    fun m cs' v F' H' _ _ r e => by subst e; exact r.bl, fun _ _ _ _ _ _ _ _ _ z => z.elim⟩

/-! ### the law's scene -/
def fM : Option (Option Int) → Mv
  | none => .frz .non
  | some x => .frz (plD x)
/-- the elder scene: none ([]), or one of the house -/
inductive Eld (cs : Cs) (h : Hs) : Mv → Option (List (Option Int)) → Prop
  | nil {p : Addr} : (p, Cell.lst []) ∈ cs → Eld cs h (.cel p) none
  | tup {es : List (Option Int)} : isScene h (.tup (es.map plD)) = true → Eld cs h (.frz (.tup (es.map plD))) (some es)
  | lst {p : Addr} {es : List (Option Int)} : (p, Cell.lst ((es.map plD).map Mv.frz)) ∈ cs → isScene h (.tup (es.map plD)) = true → Eld cs h (.cel p) (some es)
def w_lscene : FSp := fun ms cs R _ => match ms with
  | [.frz tb, .cel d, e] => ∃ (h : Hs) (m : Int) (el : Option (List (Option Int))), tb = h.tb ∧ TbOk h m ∧ m ≤ 8 ∧ (d, Cell.dice) ∈ cs ∧ Eld cs h e el ∧ ∀ xs : List (Option Int), isScene h (.tup (xs.map plD)) = true → R (.frz (.tup (xs.map plD))) cs
  | _ => False
/-- pieces done: kind k (0 trucks, 1 cloths), i pieces looked at -/
def dnK (k i : Nat) (j : Nat) (pc : Pc) : Prop := (pc.isTruck = true ∧ (1 ≤ k ∨ j < i)) ∨ (pc.isTruck = false ∧ (2 ≤ k ∨ (k = 1 ∧ j < i)))
def heldM (held : List Int) : List Mv := ((held.map some).map plD).map Mv.frz
theorem nTr_mono (ps : List Pc) (i : Nat) : nTr (ps.take i) ≤ nTr (ps.take (i + 1)) := by
  unfold nTr
  exact (List.Sublist.filter _ (List.take_sublist_take_left (by omega))).length_le
abbrev tailSc : List Stmt := (ifB ((forB ((forB ((defBody s_L_scene).getD 2 noS)).getD 0 noS)).getD 0 noS)).drop 2
theorem plDs_shs : ∀ xs : List (Option Int), Dv.shs 1 (xs.map plD) = true
  | [] => rfl
  | x :: xs => by
    show (Dv.sh 1 (plD x) && Dv.shs 1 (xs.map plD)) = true
    rw [plD_sh, plDs_shs xs]; rfl
theorem plDs_sh (xs : List (Option Int)) : Dv.sh 2 (.tup (xs.map plD)) = true := plDs_shs xs
theorem plD_ne_nil {d : PyData} {l : List Dv} (h : d = (Dv.tup l).py) : PyData.eqv d (.list []) = false := by subst h; rfl
section
local macro_rules | `(tactic| k_slotget) => `(tactic| ((with_reducible show SV _ _ (.Assign [.Subscript _ _ _] _ _) _ _ _); refine sv_asg ?_))
local macro_rules | `(tactic| k_slotset) => `(tactic| ((with_reducible show GV _ _ (.Subscript _ _ _) _ _ _ _); refine gv_sub ?_))
variable {P : Program} {w : World} {K : PySem.W.Frag} {mg : Str → Option Value} {base : Heap}
theorem sc_tail2 {f : Addr} {cdv : Value} {A : Around} {outer : List PySem.Env} {s : Shared} {H : Hp} {E : XK} {a : An} {cs : Cs} (f1 : Fn P w K mg base "_law_roll" 2 w_roll) (g1 : mg "len" = none)
    (hr : Room 2 (A.deeper (envOfC "_law_scene" (defScope s_L_scene) s.heap.objs.size f cdv)))
    {h : Hs} {e : Mv} {d fp hq fr : Addr} {found : List (Option (Option Int))} {held : List Int} {v3 v4 v5 v8 v9 v12 : Option Mv} {i : Nat} {pc : Pc} {fl : List (Option Int)} {D : Dn} {x : Option Int} {v11 : Option Mv} {y : Addr × Cell} (hx1 : pc.mayP h x = true) (hx2 : ∀ k, x = some k → k ∉ held)
    (hd : (d, Cell.dice) ∈ cs) (hpc : h.ps[i]? = some pc) (hnf : i < found.length) (hhl : held.length ≤ 100)
    (q : ∀ (x : Option Int) (hq' : Addr) (v8 v11 v12 v13 : Option Mv) (c' : Cs), pc.mayP h x = true → (∀ k, x = some k → k ∉ held) → Wk c' ((hq', Cell.lst (heldM (held ++ x.toList))) :: (fp, Cell.lst ((found.set i (some x)).map fM)) :: cs) →
      D.nx [some (.frz h.tb), some (.cel d), some e, v3, v4, v5, some (.cel fp), some (.cel hq'), v8, v9, some (.frz (.int (i : Nat))), v11, v12, v13] c') :
    SV a (cxOf CX0 P w K mg base n_L_scene "_law_scene" (defScope s_L_scene) f cdv A outer s H E).nox (tailSc.getD 2 noS) [some (.frz h.tb), some (.cel d), some e, v3, v4, v5, some (.cel fp), some (.cel hq), v8, v9, some (.frz (.int (i : Nat))), v11, v12, some (.frz (plD x))]
      (y :: (fr, Cell.lst ((fl.map plD).map Mv.frz)) :: (hq, Cell.lst (heldM held)) :: (fp, Cell.lst (found.map fM)) :: cs) { D with nx := fun ρ' cs' => SVs a (cxOf CX0 P w K mg base n_L_scene "_law_scene" (defScope s_L_scene) f cdv A outer s H E).nox (tailSc.drop 3) ρ' cs' D } := by
  have nd := sc_L_scene.nd
  have sc := sc_L_scene
  have hu : (cxOf CX0 P w K mg base n_L_scene "_law_scene" (defScope s_L_scene) f cdv A outer s H E).nox.A.units + 1 < cLine := hu_of hr
  have hu64 : (cxOf CX0 P w K mg base n_L_scene "_law_scene" (defScope s_L_scene) f cdv A outer s H E).nox.A.units + 64 < cLine := by have := hr.un; show (A.deeper _).units + 64 < cLine; omega
  refine sv_asg ?_
  k_units
  refine ⟨_, SetM.lst (j := i) (.skip (.skip (.skip .hit))) (by rw [List.length_map]; exact ixN_at hnf), ?_⟩
  k_units
  refine lcloop_fn [x] (fun x => ItM.one (.frz (plD x))) (fun x => !x.isNone) (fun x => .frz (plD x)) (fun _ => .cel (List.mem_cons_of_mem _ List.mem_cons_self)) (fun z hz acc hacc => ?_) ?_
  · refine ⟨_, rfl, ?_⟩
    k_units
    refine ⟨_, _, PlM.frz (plD_sh z) (by decide), PlM.frz (n := 1) (d := .str "up") (by decide +kernel) (by decide), ?_⟩
    rw [show (Dv.str "up").py = (Dv.str upS).py from rfl, plD_eqUp]
    generalize z.isNone = B
    k_units
  k_units
  refine AddQ.lst (ms := heldM held) (.cel (by k_made)) (.cel List.mem_cons_self) ?_ fun hq' hhq' => ?_
  · have := List.length_filter_le (fun x : Option Int => !x.isNone) [x]
    simp only [heldM, List.length_map, List.length_cons, List.length_nil] at this ⊢
    omega
  k_units
  have e1 : heldM held ++ ([x].filter fun x => !x.isNone).map (fun x => Mv.frz (plD x)) = heldM (held ++ x.toList) := by
    cases x <;> simp [heldM]
  have e2 : (found.map fM).set i (.frz (plD x)) = (found.set i (some x)).map fM := by rw [List.map_set]; rfl
  rw [e1, e2]
  exact q x hq' _ _ _ _ _ hx1 hx2 (Wk.trans (Wk.sub (.cons_cons _ (.cons _ (.cons _ (.cons _ (.cons _ (.cons _ (.refl _)))))))) Wk.refl)
end
section
variable {P : Program} {w : World} {K : PySem.W.Frag} {mg : Str → Option Value} {base : Heap}
theorem sc_tail {f : Addr} {cdv : Value} {A : Around} {outer : List PySem.Env} {s : Shared} {H : Hp} {E : XK} {a : An} {cs : Cs} (f1 : Fn P w K mg base "_law_roll" 2 w_roll) (g1 : mg "len" = none)
    (hr : Room 2 (A.deeper (envOfC "_law_scene" (defScope s_L_scene) s.heap.objs.size f cdv)))
    {h : Hs} {el : Option (List (Option Int))} {e : Mv} {d fp hq fr : Addr} {found : List (Option (Option Int))} {held : List Int} {v3 v4 v5 v8 v9 v12 v13 : Option Mv} {i : Nat} {pc : Pc} {fl : List (Option Int)} {D : Dn}
    (hd : (d, Cell.dice) ∈ cs) (he : Eld cs h e el) (hpc : h.ps[i]? = some pc) (hnf : i < found.length) (hne : fl ≠ []) (hfl : fl.length ≤ 100) (hhl : held.length ≤ 100) (hfr : ∀ x ∈ fl, pc.mayP h x = true ∧ ∀ k, x = some k → k ∉ held)
    (q : ∀ (x : Option Int) (hq' : Addr) (v8 v11 v12 v13 : Option Mv) (c' : Cs), pc.mayP h x = true → (∀ k, x = some k → k ∉ held) → Wk c' ((hq', Cell.lst (heldM (held ++ x.toList))) :: (fp, Cell.lst ((found.set i (some x)).map fM)) :: cs) →
      D.nx [some (.frz h.tb), some (.cel d), some e, v3, v4, v5, some (.cel fp), some (.cel hq'), v8, v9, some (.frz (.int (i : Nat))), v11, v12, v13] c') :
    SVs a (cxOf CX0 P w K mg base n_L_scene "_law_scene" (defScope s_L_scene) f cdv A outer s H E).nox tailSc [some (.frz h.tb), some (.cel d), some e, v3, v4, v5, some (.cel fp), some (.cel hq), v8, v9, some (.frz (.int (i : Nat))), some (.cel fr), v12, v13]
      ((fr, Cell.lst ((fl.map plD).map Mv.frz)) :: (hq, Cell.lst (heldM held)) :: (fp, Cell.lst (found.map fM)) :: cs) D := by
  have nd := sc_L_scene.nd
  have sc := sc_L_scene
  have hu : (cxOf CX0 P w K mg base n_L_scene "_law_scene" (defScope s_L_scene) f cdv A outer s H E).nox.A.units + 1 < cLine := hu_of hr
  have hu64 : (cxOf CX0 P w K mg base n_L_scene "_law_scene" (defScope s_L_scene) f cdv A outer s H E).nox.A.units + 64 < cLine := by have := hr.un; show (A.deeper _).units + 64 < cLine; omega
  have hl : ((fl.map plD).map Mv.frz).length = fl.length := by rw [List.length_map, List.length_map]
  have hpos : 0 < fl.length := List.length_pos_iff.mpr hne
  have hil := (List.getElem?_eq_some_iff.mp hpc).1
  k_units
  refine roll_use (by k_made) (by rw [hl]; omega) (by rw [hl]; omega) fun r hr1 hr2 => ?_
  rw [hl] at hr2
  obtain ⟨j, rfl⟩ : ∃ j : Nat, r = (j : Nat) := ⟨r.toNat, by omega⟩
  have hj : j < fl.length := by omega
  have hxj : fl[j]? = some fl[j] := List.getElem?_eq_getElem hj
  obtain ⟨hx1, hx2⟩ := hfr fl[j] (List.getElem_mem hj)
  generalize fl[j] = x0 at hxj hx1 hx2
  refine ⟨_, IxM.seq (SeqM.cel (by k_made)) (atI_at (x := .frz (plD x0)) (by rw [List.getElem?_map, List.getElem?_map, hxj]; rfl)), ?_⟩
  have es : ∀ es : List (Option Int), isScene h (.tup (es.map plD)) = true → ∃ y, es[i]? = some y ∧ pc.mayP h y = true := fun es he => by
    have h1 := (isScene_pl.mp he).1
    have h2 : i < es.length := by omega
    refine ⟨es[i], List.getElem?_eq_getElem h2, ?_⟩
    have z := (isScene_pl.mp he).2 i h2
    unfold okAt at z
    rw [hpc, List.getElem?_eq_getElem h2] at z
    exact ((Bool.and_eq_true _ _).mp z).1
  cases he with
  | nil hp =>
    k_units
    refine ⟨_, _, PlM.nil (by k_made), PlM.nil (by k_made), ?_⟩
    k_units
    exact sc_tail2 f1 g1 hr hx1 hx2 hd hpc hnf hhl q
  | tup he =>
    rename_i es'
    obtain ⟨y, hy1, hy2⟩ := es es' he
    k_units
    refine ⟨_, _, PlM.frz (d := .tup (es'.map plD)) (n := 2) (plDs_sh es') (by decide), PlM.nil (by k_made), ?_⟩
    k_units
    · refine ⟨_, IxM.seq SeqM.tup (atI_at (x := .frz (plD y)) (by rw [List.getElem?_map, List.getElem?_map, hy1]; rfl)), ?_⟩
      k_units
      refine ⟨_, InM.pl (xs := held.map some) (.cel (by k_made)), ?_⟩
      generalize hB : decide (y ∈ held.map some) = B
      k_units
      · refine roll_use (by k_made) (by decide) (by decide) fun r hr1 hr2 => ?_
        k_units
        · refine ⟨_, IxM.seq SeqM.tup (atI_at (x := .frz (plD y)) (by rw [List.getElem?_map, List.getElem?_map, hy1]; rfl)), ?_⟩
          k_units
          exact sc_tail2 f1 g1 hr hy2 (fun k hk hm => by subst hk; rw [decide_eq_true (List.mem_map.mpr ⟨k, hm, rfl⟩)] at hB; subst hB; exact absurd (by assumption : (!true) = true) (by decide)) hd hpc hnf hhl q
        · exact sc_tail2 f1 g1 hr hx1 hx2 hd hpc hnf hhl q
      · exact sc_tail2 f1 g1 hr hx1 hx2 hd hpc hnf hhl q
  | lst hp he =>
    rename_i p es'
    obtain ⟨y, hy1, hy2⟩ := es es' he
    have hne' : PyData.eqv (.list (Dv.pys (es'.map plD))) (.list []) = false := by
      cases es' with
      | nil => cases hy1
      | cons z zs => rfl
    k_units
    refine ⟨_, _, PlM.lst (l := es'.map plD) (n := 1) (by k_made) (plDs_shs es') (by decide), PlM.nil (by k_made), ?_⟩
    rw [hne']
    k_units
    · refine ⟨_, IxM.seq (SeqM.cel (by k_made)) (atI_at (x := .frz (plD y)) (by rw [List.getElem?_map, List.getElem?_map, hy1]; rfl)), ?_⟩
      k_units
      refine ⟨_, InM.pl (xs := held.map some) (.cel (by k_made)), ?_⟩
      generalize hB : decide (y ∈ held.map some) = B
      k_units
      · refine roll_use (by k_made) (by decide) (by decide) fun r hr1 hr2 => ?_
        k_units
        · refine ⟨_, IxM.seq (SeqM.cel (by k_made)) (atI_at (x := .frz (plD y)) (by rw [List.getElem?_map, List.getElem?_map, hy1]; rfl)), ?_⟩
          k_units
          exact sc_tail2 f1 g1 hr hy2 (fun k hk hm => by subst hk; rw [decide_eq_true (List.mem_map.mpr ⟨k, hm, rfl⟩)] at hB; subst hB; exact absurd (by assumption : (!true) = true) (by decide)) hd hpc hnf hhl q
        · exact sc_tail2 f1 g1 hr hx1 hx2 hd hpc hnf hhl q
      · exact sc_tail2 f1 g1 hr hx1 hx2 hd hpc hnf hhl q
end

theorem dnK_step {k i j : Nat} {pc : Pc} (h : dnK k (i + 1) j pc) : j = i ∨ dnK k i j pc := by
  unfold dnK at h ⊢
  by_cases hj : j = i
  · exact .inl hj
  · refine .inr ?_
    rcases h with ⟨h1, h2⟩ | ⟨h1, h2⟩
    · exact .inl ⟨h1, by omega⟩
    · exact .inr ⟨h1, by omega⟩
theorem nTr_at {ps : List Pc} {i : Nat} {b n : Int} (h : ps[i]? = some (.truck b n)) : nTr (ps.take (i + 1)) = nTr (ps.take i) + 1 ∧ nTr (ps.take i) + 1 ≤ nTr ps := by
  obtain ⟨hl, he⟩ := List.getElem?_eq_some_iff.mp h
  have h1 : nTr (ps.take (i + 1)) = nTr (ps.take i) + 1 := by rw [List.take_succ_eq_append_getElem hl, he, nTr_truck]
  refine ⟨h1, ?_⟩
  rw [← h1]
  unfold nTr
  exact (List.Sublist.filter _ (List.take_sublist _ _)).length_le
abbrev rgP (n : Int) : List (Option Int) := (List.range n.toNat).map fun (i : Nat) => some (i : Int)
theorem free_pos {n : Int} {held : List Int} (h : (held.length : Int) < n) : ((rgP n).filter fun x => !decide (x ∈ held.map some)) ≠ [] := fun e => by
  have : n.toNat ≤ held.length := pigeon n.toNat held fun i hi => by
    have hm : some (i : Int) ∈ rgP n := List.mem_map.mpr ⟨i, List.mem_range.mpr hi, rfl⟩
    have z := List.filter_eq_nil_iff.mp e _ hm
    have z2 : some (i : Int) ∈ held.map some := by
      by_cases q : some (i : Int) ∈ held.map some
      · exact q
      · rw [decide_eq_false q] at z; exact absurd rfl z
    obtain ⟨k, hk, e2⟩ := List.mem_map.mp z2
    cases e2
    exact hk
  omega
theorem filt_pl (l : List (Option Int)) (p : Option Int → Bool) : ((l.filter p).map fun x => Mv.frz (plD x)) = ((l.filter p).map plD).map Mv.frz := by rw [List.map_map]; rfl
section
variable {P : Program} {w : World} {K : PySem.W.Frag} {mg : Str → Option Value} {base : Heap}
local macro_rules | `(tactic| k_put) => `(tactic| ((with_reducible show IV _ _ _ (.List _ _) _ _ _); refine iv_list (ev_frz ?_)))
theorem ok_lscene {f : Addr} {fd : FuncData} (F : FunZ K "_law_scene" "_law_scene" s_L_scene f fd) (f1 : Fn P w K mg base "_law_roll" 2 w_roll) (g1 : mg "len" = none) (g2 : mg "enumerate" = none) (g3 : mg "list" = none) (g4 : mg "range" = none) (g5 : mg "tuple" = none) : FnOk P w K mg base CX0 3 f fd ["_law_table_here", "_law_dice", "_law_elder"] (toSp w_lscene) := by
  refine def_ok F sc_L_scene (by intro ms cs R Z h; unfold w_lscene at h; split at h; rfl; exact h.elim) fun cdv A outer s H E a ms cs R Zx hr hw => ?_
  have nd := sc_L_scene.nd
  have sc := sc_L_scene
  have hu : (cxOf CX0 P w K mg base n_L_scene "_law_scene" (defScope s_L_scene) f cdv A outer s H E).nox.A.units + 1 < cLine := hu_of hr
  have hu64 : (cxOf CX0 P w K mg base n_L_scene "_law_scene" (defScope s_L_scene) f cdv A outer s H E).nox.A.units + 64 < cLine := by have := hr.un; show (A.deeper _).units + 64 < cLine; omega
  unfold w_lscene at hw
  split at hw
  · rename_i tb d e
    obtain ⟨h, m, el, rfl, ht, hm8, hd, he, q⟩ := hw
    have ho := ht.ok hm8
    k_units
    rw [Hs.stock, List.map_map, List.map_map]
    refine lcloop_fn h.ps _ (fun _ => true) (fun _ => .frz .non) (fun _ => .lst) (fun x hx acc hacc => ?_) ?_
    · refine ⟨_, rfl, ?_⟩
      have hl := ho.len
      k_units <;> rfl
    rw [show (h.ps.filter fun _ => true) = h.ps from List.filter_eq_self.mpr fun _ _ => rfl]
    rename_i fp hfp
    k_units
    rename_i hp hhp _ _
    refine ⟨_, _, .lst [.str "truck", .str "cloth"], _, rfl, .lst [_, _], .hit (.same _), ?_⟩
    k_units
    have hstart : (hp, Cell.lst []) :: (fp, Cell.lst (h.ps.map fun x => Mv.frz Dv.non)) :: cs = (hp, Cell.lst (heldM [])) :: (fp, Cell.lst ((h.ps.map fun _ => (none : Option (Option Int))).map fM)) :: cs := by
      rw [List.map_map]; rfl
    rw [hstart]
    refine ⟨fun k ρ' c' => ∃ (hq : Addr) (found : List (Option (Option Int))) (held : List Int) (v8 v9 v10 v11 v12 v13 : Option Mv), ρ' = [some (.frz h.tb), some (.cel d), some e, some (.frz (.int h.L)), some (.frz (.int h.S)), some (.frz (.int h.N)), some (.cel fp), some (.cel hq), v8, v9, v10, v11, v12, v13] ∧
      Wk c' ((hq, Cell.lst (heldM held)) :: (fp, Cell.lst (found.map fM)) :: cs) ∧ ScInv h (dnK k 0) found held ∧ held.length ≤ 8 * k, ⟨hp, _, [], _, _, _, _, _, _, rfl, Wk.refl, ScInv.start fun j pc hc => by unfold dnK at hc; omega, Nat.zero_le _⟩, fun _ _ _ _ _ => .lst, ?_, ?_⟩
    · rintro k it ρ' c' hk ⟨hq, found, held, v8, v9, v10, v11, v12, v13, rfl, hw', hs, h0⟩
      obtain ⟨kd, rfl, hkd⟩ : ∃ kd : Str, it = .one (.frz (.str kd)) ∧ ((k = 0 ∧ kd = "truck") ∨ (k = 1 ∧ kd = "cloth")) := by
        match k, hk with
        | 0, hk => exact ⟨_, (Option.some.inj hk).symm, .inl ⟨rfl, rfl⟩⟩
        | 1, hk => exact ⟨_, (Option.some.inj hk).symm, .inr ⟨rfl, rfl⟩⟩
        | k + 2, hk => simp at hk
      refine ⟨_, rfl, svs_wk hw' ?_⟩
      k_units
      rw [Hs.stock]
      refine ⟨fun i ρ' c' => ∃ (hq : Addr) (found : List (Option (Option Int))) (held : List Int) (v8 v10 v11 v12 v13 : Option Mv), ρ' = [some (.frz h.tb), some (.cel d), some e, some (.frz (.int h.L)), some (.frz (.int h.S)), some (.frz (.int h.N)), some (.cel fp), some (.cel hq), v8, some (.frz (.str kd)), v10, v11, v12, v13] ∧
        Wk c' ((hq, Cell.lst (heldM held)) :: (fp, Cell.lst (found.map fM)) :: cs) ∧ ScInv h (dnK k i) found held ∧ (k = 0 → held.length ≤ nTr (h.ps.take i)) ∧ held.length ≤ 8 * k + i, ⟨hq, found, held, _, _, _, _, _, rfl, Wk.refl, hs, fun hk0 => by subst hk0; omega, h0⟩, fun _ _ _ _ _ => .lst, ?_, ?_⟩
      · rintro i it ρ' c' hi ⟨hq, found, held, v8, v10, v11, v12, v13, rfl, hw2, hs2, h02, h03⟩
        rw [List.getElem?_mapIdx, List.getElem?_map, List.getElem?_map] at hi
        obtain ⟨mm, hm1, rfl⟩ := Option.map_eq_some_iff.mp hi
        obtain ⟨dd, hm2, rfl⟩ := Option.map_eq_some_iff.mp hm1
        obtain ⟨pc, hpc, rfl⟩ := Option.map_eq_some_iff.mp hm2
        have hil := (List.getElem?_eq_some_iff.mp hpc).1
        have hnf : i < found.length := by rw [hs2.len]; exact hil
        refine ⟨_, _, rfl, svs_wk hw2 ?_⟩
        cases pc with
        | cloth l b n =>
          rcases hkd with ⟨rfl, rfl⟩ | ⟨rfl, rfl⟩
          · k_units
            refine ⟨hq, found, held, _, _, _, _, _, rfl, Wk.refl, hs2.mono fun j qc hqc hdn => ?_, fun hk0 => ?_, Nat.le_succ_of_le h03⟩
            · unfold dnK at hdn ⊢
              by_cases hj : j = i
              · subst hj
                rw [hpc] at hqc
                cases hqc
                simp [Pc.isTruck] at hdn ⊢
              · rcases hdn with ⟨h1, h2⟩ | ⟨h1, h2⟩
                · exact .inl ⟨h1, by omega⟩
                · exact .inr ⟨h1, by omega⟩
            · exact Nat.le_trans (h02 hk0) (nTr_mono _ _)
          · k_units
            have hgs : [Mv.frz (Dv.int l), Mv.frz (Dv.str "up"), Mv.frz (Dv.int l)] = (([some l, none, some l] : List (Option Int)).map plD).map Mv.frz := rfl
            rw [hgs, List.map_map, List.map_map]
            refine lcloop_fn (([some l, none, some l] : List (Option Int))) _ (fun x => !decide (x ∈ held.map some)) (fun x => .frz (plD x)) (fun _ => .cel (List.mem_cons_of_mem _ List.mem_cons_self)) (fun x hx acc hacc => ?_) ?_
            · refine ⟨_, rfl, ?_⟩
              k_units
              refine ⟨_, InM.pl (xs := held.map some) (.cel (List.mem_cons_of_mem _ (List.mem_cons_of_mem _ List.mem_cons_self))), ?_⟩
              generalize decide (x ∈ held.map some) = B
              k_units
            · rw [show ((([some l, none, some l] : List (Option Int)).filter fun x => !decide (x ∈ held.map some)).map fun x => Mv.frz (plD x)) = ((([some l, none, some l] : List (Option Int)).filter fun x => !decide (x ∈ held.map some)).map plD).map Mv.frz by rw [List.map_map]; rfl]
              refine svs_wk (Wk.sub (.cons_cons _ (.cons _ (.refl _)))) ?_
              refine sc_tail f1 g1 hr hd he hpc hnf (fun e0 => ?_) ?_ ?_ (fun x hx => ?_) fun x hq' w8 w11 w12 w13 c2 hx1 hx2 hw3 => ?_
              · have : (none : Option Int) ∈ ([some l, none, some l] : List (Option Int)).filter fun x => !decide (x ∈ held.map some) := List.mem_filter.mpr ⟨by simp, by simp⟩
                rw [e0] at this; cases this
              · exact Nat.le_trans (List.length_filter_le _ _) (by simp only [List.length_cons, List.length_nil]; omega)
              · have h8 := ho.len; omega
              · obtain ⟨h1, h2⟩ := List.mem_filter.mp hx
                refine ⟨?_, fun k hk hm => ?_⟩
                · show decide (x ∈ [none, some l]) = true
                  refine decide_eq_true ?_
                  simp only [List.mem_cons, List.not_mem_nil, or_false] at h1 ⊢
                  rcases h1 with h1 | h1 | h1 <;> simp [h1]
                · subst hk
                  rw [decide_eq_true (List.mem_map.mpr ⟨k, hm, rfl⟩)] at h2
                  cases h2
              · refine svs_nil ?_
                refine ⟨hq', _, _, _, _, _, _, _, rfl, hw3, hs2.put hpc hx1 hx2 ?_, (fun hk0 => by cases hk0), ?_⟩
                · exact fun j qc _ hdn => dnK_step hdn
                · have z : x.toList.length ≤ 1 := by cases x <;> simp
                  rw [List.length_append]
                  omega
        | truck b n =>
          rcases hkd with ⟨rfl, rfl⟩ | ⟨rfl, rfl⟩
          · have hL := ho.L
            have hS := ho.S
            k_units
            · omega
            · omega
            rw [rgM_pl, List.map_map, List.map_map]
            refine lcloop_fn (rgP (h.L + h.S)) _ (fun x => !decide (x ∈ held.map some)) (fun x => .frz (plD x)) (fun _ => .cel (List.mem_cons_of_mem _ List.mem_cons_self)) (fun x hx acc hacc => ?_) ?_
            · refine ⟨_, rfl, ?_⟩
              have hacc2 : acc.length ≤ 100 := by
                rw [List.length_map, List.length_range] at hacc
                omega
              k_units
              refine ⟨_, InM.pl (xs := held.map some) (.cel (List.mem_cons_of_mem _ (List.mem_cons_of_mem _ List.mem_cons_self))), ?_⟩
              generalize decide (x ∈ held.map some) = B
              k_units
            · rw [filt_pl]
              refine svs_wk (Wk.sub (.cons_cons _ (.cons _ (.refl _)))) ?_
              have hps := nTr_at hpc
              have htr := ht.tr
              have hhb := h02 rfl
              refine sc_tail f1 g1 hr hd he hpc hnf (free_pos (by omega)) ?_ ?_ (fun x hx => ?_) fun x hq' w8 w11 w12 w13 c2 hx1 hx2 hw3 => ?_
              · refine Nat.le_trans (List.length_filter_le _ _) ?_
                rw [List.length_map, List.length_range]
                omega
              · have h8 := ho.len; omega
              · obtain ⟨h1, h2⟩ := List.mem_filter.mp hx
                refine ⟨decide_eq_true h1, fun k hk hm => ?_⟩
                subst hk
                rw [decide_eq_true (List.mem_map.mpr ⟨k, hm, rfl⟩)] at h2
                cases h2
              · have z : x.toList.length ≤ 1 := by cases x <;> simp
                refine svs_nil ?_
                refine ⟨hq', _, _, _, _, _, _, _, rfl, hw3, hs2.put hpc hx1 hx2 (fun j qc _ hdn => dnK_step hdn), fun _ => ?_, ?_⟩
                · rw [List.length_append, hps.1]; omega
                · rw [List.length_append]; omega
          · k_units
            refine ⟨hq, found, held, _, _, _, _, _, rfl, Wk.refl, hs2.mono fun j qc hqc hdn => ?_, fun hk0 => ?_, Nat.le_succ_of_le h03⟩
            · unfold dnK at hdn ⊢
              by_cases hj : j = i
              · subst hj
                rw [hpc] at hqc
                cases hqc
                simp [Pc.isTruck] at hdn ⊢
              · rcases hdn with ⟨h1, h2⟩ | ⟨h1, h2⟩
                · exact .inl ⟨h1, by omega⟩
                · exact .inr ⟨h1, by omega⟩
            · cases hk0
      · rintro ρ' c' ⟨hq, found, held, v8, v10, v11, v12, v13, rfl, hw2, hs2, h02, h03⟩
        k_units
        refine ⟨hq, found, held, _, _, _, _, _, _, rfl, hw2, hs2.mono fun j pc hpc hdn => ?_, ?_⟩
        rotate_left
        · have h8 := ho.len
          have hn : (((h.ps.map Pc.dv).map Mv.frz).mapIdx fun i m => ItM.two (.frz (.int (i : Nat))) m).length = h.ps.length := by rw [List.length_mapIdx, List.length_map, List.length_map]
          rw [hn] at h03
          omega
        have hj := (List.getElem?_eq_some_iff.mp hpc).1
        have hn : (((h.ps.map Pc.dv).map Mv.frz).mapIdx fun i m => ItM.two (.frz (.int (i : Nat))) m).length = h.ps.length := by rw [List.length_mapIdx, List.length_map, List.length_map]
        rw [hn]
        unfold dnK at hdn ⊢
        rcases hkd with ⟨rfl, _⟩ | ⟨rfl, _⟩ <;> cases e : pc.isTruck <;> simp [e] at hdn ⊢ <;> (first | omega | exact hj)
    · rintro ρ' c' ⟨hq, found, held, v8, v9, v10, v11, v12, v13, rfl, hw', hs, _⟩
      obtain ⟨xs, rfl, hsc⟩ := (hs.mono (dn' := fun _ _ => True) fun j pc _ _ => by
        unfold dnK
        cases pc.isTruck <;> simp).scene
      have em : (xs.map some).map fM = (xs.map plD).map Mv.frz := by rw [List.map_map, List.map_map]; rfl
      refine svs_wk hw' (svs_cons (sv_ret (ev_post ?_)))
      rw [em]
      k_units
      refine .lst (.cel (List.mem_cons_of_mem _ List.mem_cons_self)) ?_
      exact ⟨cs, Wk.sub (.cons _ (.cons _ (.refl _))), q xs hsc⟩
  · exact hw.elim
end

/-! ### changes, plain -/
abbrev nI (i : Nat) : Dv := .int (i : Nat)
/-- the pieces that move -/
def movP (xs ys : List (Option Int)) : List Nat := (List.range xs.length).filter fun i => !decide (xs[i]? = ys[i]?)
theorem movP_lt {xs ys : List (Option Int)} {i : Nat} (h : i ∈ movP xs ys) : i < xs.length := List.mem_range.mp (List.mem_filter.mp h).1
theorem movP_nodup (xs ys : List (Option Int)) : (movP xs ys).Nodup := List.filter_sublist.nodup List.nodup_range
theorem zipIdx_range {α : Type} (g : Nat → Option α → Bool) (xs : List α) : ((xs.zipIdx.filter fun p => g p.2 (some p.1)).map (·.2)) = (List.range xs.length).filter fun i => g i xs[i]? := by
  have key : ∀ n, n ≤ xs.length → (((xs.take n).zipIdx.filter fun p => g p.2 (some p.1)).map (·.2)) = (List.range n).filter fun i => g i xs[i]? := by
    intro n
    induction n with
    | zero => intro _; rfl
    | succ n ih =>
      intro hn
      have hl : n < xs.length := hn
      rw [List.take_succ_eq_append_getElem hl, List.zipIdx_append, List.filter_append, List.map_append, ih (by omega), List.range_succ, List.filter_append]
      congr 1
      have e : (0 + (xs.take n).length) = n := by rw [List.length_take]; omega
      simp only [List.zipIdx_cons, List.zipIdx_nil, e, List.filter_cons, List.filter_nil, List.getElem?_eq_getElem hl]
      split <;> rfl
  have z := key xs.length (Nat.le_refl _)
  rwa [List.take_length] at z
/-- p waits for o -/
def waB (xs ys : List (Option Int)) (p o : Nat) : Bool := (match ys[p]? with
  | some (some _) => true
  | _ => false) && decide (xs[o]? = ys[p]?)
def waO (xs ys : List (Option Int)) (p : Nat) (os : List Nat) : Option Nat := (os.filter (waB xs ys p)).getLast?
theorem waO_snoc (xs ys : List (Option Int)) (p : Nat) (os : List Nat) (o : Nat) : waO xs ys p (os ++ [o]) = if waB xs ys p o = true then some o else waO xs ys p os := by
  unfold waO
  rw [List.filter_append]
  by_cases h : waB xs ys p o = true
  · rw [if_pos h, List.filter_cons_of_pos h, List.filter_nil, List.getLast?_append]; rfl
  · rw [if_neg h, List.filter_cons_of_neg h, List.filter_nil, List.append_nil]
/-- who waits for whom -/
def waL (xs ys : List (Option Int)) (ps : List Nat) : List (Nat × Nat) := ps.filterMap fun p => (waO xs ys p (movP xs ys)).map fun o => (p, o)
def waP (xs ys : List (Option Int)) : List (Nat × Nat) := waL xs ys (movP xs ys)
theorem waO_mem {xs ys : List (Option Int)} {p : Nat} {os : List Nat} {o : Nat} (h : waO xs ys p os = some o) : o ∈ os ∧ waB xs ys p o = true := List.mem_filter.mp (List.mem_of_getLast? h)
theorem waP_mem {xs ys : List (Option Int)} {q : Nat × Nat} (h : q ∈ waP xs ys) : q.1 ∈ movP xs ys ∧ q.2 ∈ movP xs ys ∧ waB xs ys q.1 q.2 = true := by
  obtain ⟨p, hp, e⟩ := List.mem_filterMap.mp h
  obtain ⟨o, ho, rfl⟩ := Option.map_eq_some_iff.mp e
  exact ⟨hp, (waO_mem ho).1, (waO_mem ho).2⟩
/-- a dict of numbers -/
def dNN (l : List (Nat × Nat)) : List (Key × Dv) := l.map fun q => (.inl (q.1 : Int), nI q.2)
def dNM (l : List (Nat × Nat)) : List (Key × Mv) := (dNN l).map fun kv => (kv.1, Mv.frz kv.2)
def gN (l : List (Nat × Nat)) (p : Nat) : Option Nat := (l.find? fun q => decide (q.1 = p)).map (·.2)
theorem lookK_dNN (l : List (Nat × Nat)) (p : Nat) : lookK (.inl (p : Int)) (dNN l) = (gN l p).map nI := by
  unfold lookK gN dNN
  rw [List.find?_map]
  have : ((fun kv : Key × Dv => decide (kv.1 = Sum.inl (p : Int))) ∘ fun q : Nat × Nat => (Sum.inl (q.1 : Int), nI q.2)) = fun q => decide (q.1 = p) := by
    funext q
    exact decide_eq_decide.mpr ⟨fun h => by have := Sum.inl.inj h; omega, fun h => by show Sum.inl (q.1 : Int) = _; rw [h]⟩
  rw [this, Option.map_map, Option.map_map]
  rfl
theorem lookK_dNM (l : List (Nat × Nat)) (p : Nat) : lookK (.inl (p : Int)) (dNM l) = (gN l p).map fun o => Mv.frz (nI o) := by
  have e : lookK (.inl (p : Int)) (dNM l) = (lookK (.inl (p : Int)) (dNN l)).map Mv.frz := by
    unfold lookK dNM
    rw [List.find?_map, Option.map_map, Option.map_map]
    rfl
  rw [e, lookK_dNN, Option.map_map]; rfl
theorem gN_mem {l : List (Nat × Nat)} {p o : Nat} (h : gN l p = some o) : (p, o) ∈ l := by
  obtain ⟨q, hq, rfl⟩ := Option.map_eq_some_iff.mp h
  have h1 := List.mem_of_find?_eq_some hq
  have h2 : q.1 = p := by have z := List.find?_some hq; exact of_decide_eq_true z
  subst h2; exact h1
theorem dNM_any (l : List (Nat × Nat)) (p : Nat) : ((dNM l).any fun kv => decide (kv.1 = Sum.inl (p : Int))) = l.any fun q => decide (q.1 = p) := by
  unfold dNM dNN
  rw [List.map_map, List.any_map]
  congr 1
  funext q
  exact decide_eq_decide.mpr ⟨fun h => by have := Sum.inl.inj h; omega, fun h => by show Sum.inl (q.1 : Int) = _; rw [h]⟩
theorem putKs_new {l : List (Nat × Nat)} {p o : Nat} (h : ∀ q ∈ l, q.1 ≠ p) : putKs (dNM l) (.inl (p : Int)) (.frz (nI o)) = dNM (l ++ [(p, o)]) := by
  unfold putKs
  rw [dNM_any, if_neg (fun e => ?_)]
  · unfold dNM dNN
    rw [List.map_append, List.map_append]; rfl
  · obtain ⟨q, hq, e2⟩ := List.any_eq_true.mp e
    exact h q hq (of_decide_eq_true e2)
theorem putKs_old {l : List (Nat × Nat)} {p o o' : Nat} (h : ∀ q ∈ l, q.1 ≠ p) : putKs (dNM (l ++ [(p, o)])) (.inl (p : Int)) (.frz (nI o')) = dNM (l ++ [(p, o')]) := by
  unfold putKs
  rw [dNM_any, if_pos (List.any_eq_true.mpr ⟨(p, o), by simp, decide_eq_true rfl⟩)]
  unfold dNM dNN
  rw [List.map_append, List.map_append, List.map_append, List.map_append, List.map_append]
  congr 1
  · rw [List.map_map, List.map_map, List.map_map]
    refine List.map_congr_left fun q hq => ?_
    show (if (Sum.inl (q.1 : Int) : Key) = Sum.inl (p : Int) then _ else _) = _
    rw [if_neg (fun e => h q hq (by have := Sum.inl.inj e; omega))]; rfl
  · show [if (Sum.inl (p : Int) : Key) = Sum.inl (p : Int) then _ else _] = _
    rw [if_pos rfl]; rfl
/-- the dict with p's other one, as far as looked -/
def wPut (l : List (Nat × Nat)) (p : Nat) : Option Nat → List (Nat × Nat)
  | none => l
  | some o => l ++ [(p, o)]
theorem putKs_w {l : List (Nat × Nat)} {p o' : Nat} (h : ∀ q ∈ l, q.1 ≠ p) (r : Option Nat) : putKs (dNM (wPut l p r)) (.inl (p : Int)) (.frz (nI o')) = dNM (wPut l p (some o')) := by
  cases r with
  | none => exact putKs_new h
  | some o => exact putKs_old h
theorem waL_snoc (xs ys : List (Option Int)) (ps : List Nat) (p : Nat) : waL xs ys (ps ++ [p]) = wPut (waL xs ys ps) p (waO xs ys p (movP xs ys)) := by
  unfold waL
  rw [List.filterMap_append]
  cases e : waO xs ys p (movP xs ys) <;> simp [wPut, e]
theorem waL_keys {xs ys : List (Option Int)} {ps : List Nat} {q : Nat × Nat} (h : q ∈ waL xs ys ps) : q.1 ∈ ps := by
  obtain ⟨p, hp, e⟩ := List.mem_filterMap.mp h
  obtain ⟨o, _, rfl⟩ := Option.map_eq_some_iff.mp e
  exact hp
/-! rings -/
def lastN (row : List Nat) : Nat := row.getLast?.getD 0
def stR (W : List (Nat × Nat)) (row : List Nat) : List Nat := match gN W (lastN row) with
  | some o => if o ∈ row then row else row ++ [o]
  | none => row
def itR (W : List (Nat × Nat)) (p : Nat) : Nat → List Nat
  | 0 => [p]
  | k + 1 => stR W (itR W p k)
theorem itR_fix {W : List (Nat × Nat)} {p k : Nat} (h : stR W (itR W p k) = itR W p k) : ∀ n, k ≤ n → itR W p n = itR W p k
  | 0, hn => by rw [Nat.le_zero.mp hn]
  | n + 1, hn => by
    by_cases e : k = n + 1
    · rw [e]
    · show stR W (itR W p n) = _
      rw [itR_fix h n (by omega), h]
theorem itR_ok {W : List (Nat × Nat)} {p n : Nat} (hW : ∀ q ∈ W, q.2 < n) (hp : p < n) : ∀ k, (itR W p k).Nodup ∧ (∀ x ∈ itR W p k, x < n) ∧ p ∈ itR W p k ∧ (itR W p k).length ≤ k + 1
  | 0 => ⟨by simp [itR], by simp [itR, hp], by simp [itR], by simp [itR]⟩
  | k + 1 => by
    obtain ⟨h1, h2, h3, h4⟩ := itR_ok hW hp k
    show (stR W (itR W p k)).Nodup ∧ _
    show (stR W (itR W p k)).Nodup ∧ (∀ x ∈ stR W (itR W p k), x < n) ∧ p ∈ stR W (itR W p k) ∧ (stR W (itR W p k)).length ≤ k + 1 + 1
    unfold stR
    split
    · rename_i o ho
      split
      · exact ⟨h1, h2, h3, by omega⟩
      · rename_i hn
        refine ⟨List.nodup_append.mpr ⟨h1, by simp, fun a ha b hb e => hn (by rw [← List.mem_singleton.mp hb, ← e]; exact ha)⟩, fun x hx => ?_, List.mem_append_left _ h3, by simp; omega⟩
        rcases List.mem_append.mp hx with z | z
        · exact h2 x z
        · rw [List.mem_singleton.mp z]; exact hW _ (gN_mem ho)
    · exact ⟨h1, h2, h3, by omega⟩
theorem nodup_lt {l : List Nat} {n : Nat} (h : l.Nodup) (hl : ∀ x ∈ l, x < n) : l.length ≤ n := by
  have := List.Nodup.length_le_of_subset h (l₂ := List.range n) fun x hx => List.mem_range.mpr (hl x hx)
  rwa [List.length_range] at this
def rgAt (W : List (Nat × Nat)) (n p : Nat) : Option (List Nat) := if gN W (lastN (itR W p n)) = some p then some (itR W p n) else none
def rgL (W : List (Nat × Nat)) (n : Nat) (ps : List Nat) : Option (List Nat) := ps.findSome? (rgAt W n)
def ringP (xs ys : List (Option Int)) : Option (List Nat) := rgL (waP xs ys) xs.length (movP xs ys)
def oL : Option (List Nat) → Dv
  | none => .non
  | some l => .lst (l.map nI)

/-! ### changes, walked -/
abbrev plT (xs : List (Option Int)) : Dv := .tup (xs.map plD)
def w_need_scenes (C : Addr) : FSp := fun ms cs R _ => match ms with
  | [.frz hv, .frz d, .frz e] => ∃ h : Hs, hv = h.dv C ∧ h.ok ∧ d.plains ∧ e.plains ∧ isScene h d = true ∧ isScene h e = true ∧ R (.frz .non) cs
  | _ => False
def w_moving : FSp := fun ms cs R _ => match ms with
  | [.frz d, .frz e] => ∃ xs ys : List (Option Int), d = plT xs ∧ e = plT ys ∧ xs.length = ys.length ∧ xs.length ≤ 60 ∧ R (.frz (.lst ((movP xs ys).map nI))) cs
  | _ => False
def w_waiting : FSp := fun ms cs R _ => match ms with
  | [.frz d, .frz e] => ∃ xs ys : List (Option Int), d = plT xs ∧ e = plT ys ∧ xs.length = ys.length ∧ xs.length ≤ 60 ∧ R (.frz (.dct (dNN (waP xs ys)))) cs
  | _ => False
def w_ring_of : FSp := fun ms cs R _ => match ms with
  | [.frz d, .frz e] => ∃ xs ys : List (Option Int), d = plT xs ∧ e = plT ys ∧ xs.length = ys.length ∧ xs.length ≤ 60 ∧ R (.frz (oL (ringP xs ys))) cs
  | _ => False
theorem moving_use {xs ys : List (Option Int)} {cs : Cs} {R : Mv → Cs → Prop} {Z} (h1 : xs.length = ys.length) (h2 : xs.length ≤ 60) (q : R (.frz (.lst ((movP xs ys).map nI))) cs) : w_moving [.frz (plT xs), .frz (plT ys)] cs R Z := ⟨xs, ys, rfl, rfl, h1, h2, q⟩
theorem plD_eqv (x y : Option Int) : PyData.eqv (plD x).py (plD y).py = decide (x = y) := by
  cases x with
  | none =>
    cases y with
    | none => exact (py_ss (i := upS) (j := upS)).trans (by simp)
    | some k => exact (py_si (i := k) (j := upS)).trans (by simp)
  | some j =>
    cases y with
    | none => exact (py_is (i := j) (j := upS)).trans (by simp)
    | some k => exact (py_ii (i := j) (j := k)).trans (decide_eq_decide.mpr ⟨fun h => by rw [h], fun h => Option.some.inj h⟩)
section
local macro_rules | `(tactic| k_put) => `(tactic| ((with_reducible show IV _ _ (.Tuple _ _ _) (.Call (.Name _ _) _ _ _) _ _ _); refine iv_enumT ?_ (by assumption)))
variable {P : Program} {w : World} {K : PySem.W.Frag} {mg : Str → Option Value} {base : Heap}
theorem ok_need_scenes {C f : Addr} {fd : FuncData} (F : FunZ K "need_scenes" "need_scenes" s_need_scenes f fd) (f1 : Mth P w K mg base C "is_scene" 3 (w_is_scene C)) : FnOk P w K mg base CX0 4 f fd ["house", "first", "then"] (toSp (w_need_scenes C)) := by
  refine def_ok F sc_need_scenes (by intro ms cs R Z h; unfold w_need_scenes at h; split at h; rfl; exact h.elim) fun cdv A outer s H E a ms cs R Zx hr hw => ?_
  have nd := sc_need_scenes.nd
  have sc := sc_need_scenes
  unfold w_need_scenes at hw
  split at hw
  · obtain ⟨h, rfl, ho, h1, h2, h3, h4, q⟩ := hw
    k_units
    refine ⟨h, rfl, ho, h1, ?_⟩
    rw [h3]
    k_units
    refine ⟨h, rfl, ho, h2, ?_⟩
    rw [h4]
    k_units
    exact q
  · exact hw.elim
theorem ok_moving {f : Addr} {fd : FuncData} (F : FunZ K "moving" "moving" s_moving f fd) (g1 : mg "enumerate" = none) : FnOk P w K mg base CX0 1 f fd ["first", "then"] (toSp w_moving) := by
  refine def_ok F sc_moving (by intro ms cs R Z h; unfold w_moving at h; split at h; rfl; exact h.elim) fun cdv A outer s H E a ms cs R Zx hr hw => ?_
  have nd := sc_moving.nd
  have sc := sc_moving
  have hu : (XZ P w K mg base n_moving "moving" s_moving f cdv A outer s H E).A.units + 1 < cLine := hu_of hr
  have hu64 : (XZ P w K mg base n_moving "moving" s_moving f cdv A outer s H E).A.units + 64 < cLine := by have := hr.un; show (A.deeper _).units + 64 < cLine; omega
  unfold w_moving at hw
  split at hw
  · obtain ⟨xs, ys, rfl, rfl, h1, h2, q⟩ := hw
    refine svs_cons (sv_ret (ev_frz ?_))
    k_units
    rename_i L hL
    rw [enum_frz, List.zipIdx_map, List.map_map]
    refine lcloop_fn xs.zipIdx _ (fun p => !decide (some p.1 = ys[p.2]?)) (fun p => .frz (nI p.2)) (fun _ => .tup) (fun p hp acc hacc => ?_) ?_
    · obtain ⟨x, i⟩ := p
      have hx1 : xs[i]? = some x := List.mem_zipIdx_iff_getElem?.mp hp
      have hx2 := (List.getElem?_eq_some_iff.mp hx1).1
      have hy : ys[i]? = some (ys[i]'(by omega)) := List.getElem?_eq_getElem (by omega)
      generalize ys[i]'(by omega) = y at hy
      show turn2 _ _ _ _ _ _ _ _ _ _ (ItM.two (.frz (nI i)) (.frz (plD x))) _ _ fun acc' c' => acc' = acc ++ (if (!decide (some x = ys[i]?)) = true then [Mv.frz (nI i)] else []) ∧ c' = cs
      rw [hy]
      refine ⟨.frz (nI i), .frz (plD x), .inl rfl, ?_⟩
      k_units
      refine ⟨_, IxM.seq SeqM.tup (atI_at (x := .frz (plD y)) (by rw [List.getElem?_map, List.getElem?_map, hy]; rfl)), ?_⟩
      refine ⟨_, _, PlM.frz (plD_sh x) (by decide), PlM.frz (plD_sh y) (by decide), ?_⟩
      rw [plD_eqv, show decide (x = y) = decide (some x = some y) from decide_eq_decide.mpr ⟨fun h => by rw [h], fun h => Option.some.inj h⟩]
      k_units
    · refine ⟨L, _, .lst ((movP xs ys).map nI), cs, rfl, .lst _, ?_, q⟩
      have e : ((xs.zipIdx.filter fun p => !decide (some p.1 = ys[p.2]?)).map fun p => Mv.frz (nI p.2)) = ((movP xs ys).map nI).map Mv.frz := by
        have z := zipIdx_range (fun i x => !decide (x = ys[i]?)) xs
        have z2 : (xs.zipIdx.filter fun p => !decide (some p.1 = ys[p.2]?)).map (·.2) = movP xs ys := z
        rw [← z2, List.map_map, List.map_map]; rfl
      rw [e]
      exact .hit (.same _)
  · exact hw.elim
end

theorem its_nats {ns : List Nat} {i : Nat} {it : ItM} (h : (((ns.map nI).map Mv.frz).map ItM.one)[i]? = some it) : ∃ p, ns[i]? = some p ∧ it = .one (.frz (nI p)) := by
  rw [List.getElem?_map, List.getElem?_map, List.getElem?_map] at h
  obtain ⟨m, h1, rfl⟩ := Option.map_eq_some_iff.mp h
  obtain ⟨d, h2, rfl⟩ := Option.map_eq_some_iff.mp h1
  obtain ⟨p, h3, rfl⟩ := Option.map_eq_some_iff.mp h2
  exact ⟨p, h3, rfl⟩
theorem its_nats_len (ns : List Nat) : (((ns.map nI).map Mv.frz).map ItM.one).length = ns.length := by rw [List.length_map, List.length_map, List.length_map]
theorem take_snoc {α : Type} {l : List α} {i : Nat} {x : α} (h : l[i]? = some x) : l.take (i + 1) = l.take i ++ [x] := by
  obtain ⟨hl, he⟩ := List.getElem?_eq_some_iff.mp h
  rw [List.take_succ_eq_append_getElem hl, he]
theorem take_fresh {l : List Nat} (hn : l.Nodup) {i p : Nat} (h : l[i]? = some p) : p ∉ l.take i := fun hm => by
  obtain ⟨hl, he⟩ := List.getElem?_eq_some_iff.mp h
  obtain ⟨j, hj, e⟩ := List.mem_iff_getElem.mp hm
  rw [List.getElem_take] at e
  rw [List.length_take] at hj
  have := (List.getElem_inj hn).mp (e.trans he.symm)
  omega
theorem waB_at {xs ys : List (Option Int)} {p o : Nat} {x y : Option Int} (hx : xs[o]? = some x) (hy : ys[p]? = some y) : waB xs ys p o = (!y.isNone && decide (x = y)) := by
  unfold waB
  rw [hx, hy]
  have e : decide (some x = some y) = decide (x = y) := decide_eq_decide.mpr ⟨fun h => Option.some.inj h, fun h => by rw [h]⟩
  rw [e]
  cases y <;> rfl
theorem dNM_len (l : List (Nat × Nat)) : (dNM l).length = l.length := by unfold dNM dNN; rw [List.length_map, List.length_map]
theorem wPut_len (l : List (Nat × Nat)) (p : Nat) (r : Option Nat) : (wPut l p r).length ≤ l.length + 1 := by
  cases r <;> simp [wPut]
section
variable {P : Program} {w : World} {K : PySem.W.Frag} {mg : Str → Option Value} {base : Heap}
theorem ok_waiting {f : Addr} {fd : FuncData} {tk : Tok} (F : FunZ K "waiting" "waiting" s_waiting f fd) (f1 : Fn P w K mg base "moving" 1 w_moving) (m1 : mg "UP" = some (.str upS tk)) : FnOk P w K mg base CX0 2 f fd ["first", "then"] (toSp w_waiting) := by
  refine def_ok F sc_waiting (by intro ms cs R Z h; unfold w_waiting at h; split at h; rfl; exact h.elim) fun cdv A outer s H E a ms cs R Zx hr hw => ?_
  have nd := sc_waiting.nd
  have sc := sc_waiting
  have hu : (XZ P w K mg base n_waiting "waiting" s_waiting f cdv A outer s H E).A.units + 1 < cLine := hu_of hr
  have hu64 : (XZ P w K mg base n_waiting "waiting" s_waiting f cdv A outer s H E).A.units + 64 < cLine := by have := hr.un; show (A.deeper _).units + 64 < cLine; omega
  unfold w_waiting at hw
  split at hw
  · obtain ⟨xs, ys, rfl, rfl, h1, h2, q⟩ := hw
    refine svs_cons (sv_st (ev_dnew fun D hD => ?_) nd)
    k_units
    refine moving_use h1 h2 ?_
    refine ⟨_, .lst, fun i ρ' c' => ∃ v3 v4 : Option Mv, ρ' = [some (.frz (plT xs)), some (.frz (plT ys)), some (.cel D), v3, v4] ∧ c' = (D, Cell.dct (dNM (waL xs ys ((movP xs ys).take i)))) :: cs, ⟨_, _, rfl, rfl⟩, fun _ _ _ _ _ => .lst, ?_, ?_⟩
    · rintro i it ρ' c' hi ⟨v3, v4, rfl, rfl⟩
      obtain ⟨p, hp, rfl⟩ := its_nats hi
      have hpl : p < xs.length := movP_lt (List.mem_of_getElem? hp)
      have hfr := take_fresh (movP_nodup xs ys) hp
      have hkeys : ∀ q ∈ waL xs ys ((movP xs ys).take i), q.1 ≠ p := fun q hq e => hfr (by rw [← e]; exact waL_keys hq)
      have hwl : (waL xs ys ((movP xs ys).take i)).length ≤ 60 := by
        refine Nat.le_trans (List.length_filterMap_le _ _) ?_
        rw [List.length_take]
        have := nodup_lt (movP_nodup xs ys) (n := xs.length) fun x hx => movP_lt hx
        omega
      have hy : ys[p]? = some (ys[p]'(by omega)) := List.getElem?_eq_getElem (by omega)
      generalize ys[p]'(by omega) = y at hy
      refine ⟨_, rfl, ?_⟩
      k_units
      refine moving_use h1 h2 ?_
      refine ⟨_, .lst, fun j ρ' c' => ∃ v4 : Option Mv, ρ' = [some (.frz (plT xs)), some (.frz (plT ys)), some (.cel D), some (.frz (nI p)), v4] ∧ c' = (D, Cell.dct (dNM (wPut (waL xs ys ((movP xs ys).take i)) p (waO xs ys p ((movP xs ys).take j))))) :: cs, ⟨_, rfl, rfl⟩, fun _ _ _ _ _ => .lst, ?_, ?_⟩
      · rintro j it ρ' c' hj ⟨v4, rfl, rfl⟩
        obtain ⟨o, ho, rfl⟩ := its_nats hj
        have hol : o < xs.length := movP_lt (List.mem_of_getElem? ho)
        have hx : xs[o]? = some xs[o] := List.getElem?_eq_getElem hol
        generalize xs[o] = x at hx
        have hB := waB_at hx hy
        have hS : waO xs ys p ((movP xs ys).take (j + 1)) = if (!y.isNone && decide (x = y)) = true then some o else waO xs ys p ((movP xs ys).take j) := by rw [take_snoc ho, waO_snoc, hB]
        have pos : ∀ b : Bool, b = true → (if b = true then some o else waO xs ys p ((movP xs ys).take j)) = some o := fun b h => if_pos h
        have neg : ∀ b : Bool, b = false → (if b = true then some o else waO xs ys p ((movP xs ys).take j)) = waO xs ys p ((movP xs ys).take j) := fun b h => if_neg (by rw [h]; exact Bool.false_ne_true)
        refine ⟨_, rfl, ?_⟩
        k_units
        refine ⟨_, IxM.seq SeqM.tup (atI_at (x := .frz (plD y)) (by rw [List.getElem?_map, List.getElem?_map, hy]; rfl)), ?_⟩
        k_units
        refine ⟨_, _, PlM.frz (plD_sh y) (by decide), PlM.frz (n := 1) (d := .str upS) (by decide +kernel) (by decide), ?_⟩
        rw [plD_eqUp]
        generalize hU : y.isNone = U at *
        k_units
        · refine ⟨_, IxM.seq SeqM.tup (atI_at (x := .frz (plD x)) (by rw [List.getElem?_map, List.getElem?_map, hx]; rfl)), ?_⟩
          k_units
          refine ⟨_, IxM.seq SeqM.tup (atI_at (x := .frz (plD y)) (by rw [List.getElem?_map, List.getElem?_map, hy]; rfl)), ?_⟩
          refine ⟨_, _, PlM.frz (plD_sh x) (by decide), PlM.frz (plD_sh y) (by decide), ?_⟩
          rw [plD_eqv]
          generalize hT : decide (x = y) = T at *
          k_units
          · rename_i k1 k2
            refine sv_dput hu ?_
            k_units
            refine ⟨D, _, .inl (p : Int), _, rfl, rfl, .hit, ?_, ?_⟩
            · rw [dNM_len]
              have := wPut_len (waL xs ys ((movP xs ys).take i)) p (waO xs ys p ((movP xs ys).take j))
              omega
            refine svs_nil (svs_nil ?_)
            rw [putKs_w hkeys]
            exact ⟨_, rfl, by rw [hS, if_pos (by rw [k1, k2]; rfl)]⟩
          · rename_i k1 k2
            rw [hS, if_neg (by rw [k2, Bool.and_false]; exact Bool.false_ne_true)]
        · rename_i k1 k2
          rw [hS, if_neg (by rw [k1, Bool.false_and]; exact Bool.false_ne_true)]
      · rintro ρ' c' ⟨v4, rfl, rfl⟩
        rw [its_nats_len, List.take_length]
        refine svs_nil ?_
        rw [← waL_snoc, ← take_snoc hp]
        exact ⟨_, _, rfl, rfl⟩
    · rintro ρ' c' ⟨v3, v4, rfl, rfl⟩
      rw [its_nats_len, List.take_length]
      refine svs_cons (sv_ret (ev_frz ?_))
      k_units
      exact ⟨D, _, .dct (dNN (waP xs ys)), cs, rfl, .dct _, .hit (.same _), q⟩
  · exact hw.elim
end

theorem InM.nat {cs : Cs} {m : Mv} {o : Nat} {row : List Nat} (h : SeqM cs m ((row.map nI).map Mv.frz)) : InM cs (.frz (nI o)) m (decide (o ∈ row)) := by
  have h' : SeqM cs m (((row.map fun (i : Nat) => some (i : Int)).map plD).map Mv.frz) := by
    rw [List.map_map (f := fun (i : Nat) => some (i : Int)) (g := plD)]; exact h
  have z := InM.pl (x := some (o : Int)) h'
  have e : decide (some (o : Int) ∈ row.map fun (i : Nat) => some (i : Int)) = decide (o ∈ row) := decide_eq_decide.mpr ⟨fun hm => by
    obtain ⟨i, hi, e⟩ := List.mem_map.mp hm
    have : i = o := by have := Option.some.inj e; omega
    rw [← this]; exact hi, fun hm => List.mem_map.mpr ⟨o, hm, rfl⟩⟩
  rw [e] at z
  exact z
theorem atI_last {α : Type} {l : List α} {x : α} (h : l.getLast? = some x) : atI l (-1) = some x := by
  have hne : l ≠ [] := by intro e; rw [e] at h; cases h
  have hl : 0 < l.length := List.length_pos_iff.mpr hne
  rw [List.getLast?_eq_getElem?] at h
  show (ixN l.length (-1)).bind _ = _
  have e : ixN l.length (-1) = some (l.length - 1) := by
    unfold ixN
    rw [if_neg (by omega), if_pos (by omega)]
    congr 1
    omega
  rw [e]; exact h
theorem last_map {row : List Nat} (h : row ≠ []) : ((row.map nI).map Mv.frz).getLast? = some (.frz (nI (lastN row))) := by
  rw [List.getLast?_map, List.getLast?_map]
  unfold lastN
  cases e : row.getLast? with
  | none => exact (h (List.getLast?_eq_none_iff.mp e)).elim
  | some x => rfl
theorem findSome_at {α β : Type} {f : α → Option β} {l : List α} {i : Nat} {x : α} {y : β} (h1 : ∀ q ∈ l.take i, f q = none) (h2 : l[i]? = some x) (h3 : f x = some y) : l.findSome? f = some y := by
  obtain ⟨hl, he⟩ := List.getElem?_eq_some_iff.mp h2
  have e : l = l.take i ++ x :: l.drop (i + 1) := by
    rw [← he, ← List.drop_eq_getElem_cons hl, List.take_append_drop]
  rw [e, List.findSome?_append, List.findSome?_eq_none_iff.mpr h1]
  show (none : Option β).or (List.findSome? f (x :: l.drop (i + 1))) = _
  rw [List.findSome?_cons, h3]; rfl

theorem plDs_plain (xs : List (Option Int)) : ∀ d ∈ xs.map plD, d.plain := fun d hd => by
  obtain ⟨x, _, rfl⟩ := List.mem_map.mp hd
  exact plD_plain x
theorem plT_plains {h : Hs} {xs : List (Option Int)} (ho : h.ok) (hs : isScene h (plT xs) = true) : (plT xs).plains ∧ xs.length = h.ps.length ∧ xs.length ≤ 8 := by
  have h1 := (isScene_pl.mp hs).1
  have h2 := ho.len
  exact ⟨⟨by rw [List.length_map]; omega, plDs_plain xs⟩, h1, by omega⟩

section
variable {P : Program} {w : World} {K : PySem.W.Frag} {mg : Str → Option Value} {base : Heap}
theorem ok_lmoves {f : Addr} {fd : FuncData} (F : FunZ K "_law_moves" "_law_moves" s_L_moves f fd) (g1 : mg "len" = none) (g2 : mg "range" = none) : FnOk P w K mg base CX0 1 f fd ["_law_first", "_law_then"] (toSp w_moving) := by
  refine def_ok F sc_L_moves (by intro ms cs R Z h; unfold w_moving at h; split at h; rfl; exact h.elim) fun cdv A outer s H E a ms cs R Zx hr hw => ?_
  have nd := sc_L_moves.nd
  have sc := sc_L_moves
  have hu : (XZ P w K mg base n_L_moves "_law_moves" s_L_moves f cdv A outer s H E).A.units + 1 < cLine := hu_of hr
  have hu64 : (XZ P w K mg base n_L_moves "_law_moves" s_L_moves f cdv A outer s H E).A.units + 64 < cLine := by have := hr.un; show (A.deeper _).units + 64 < cLine; omega
  unfold w_moving at hw
  split at hw
  · obtain ⟨xs, ys, rfl, rfl, h1, h2, q⟩ := hw
    refine svs_cons (sv_ret (ev_frz ?_))
    have hl1 : ((xs.map plD).map Mv.frz).length = xs.length := by rw [List.length_map, List.length_map]
    k_units
    · rw [hl1]; omega
    · omega
    rename_i L hL
    rw [hl1, show ((xs.length : Nat) : Int).toNat = xs.length by omega]
    refine lcloop_fn (List.range xs.length) _ (fun i => !decide (xs[i]? = ys[i]?)) (fun i => .frz (nI i)) (fun _ => trivial) (fun i hi acc hacc => ?_) ?_
    · have hil : i < xs.length := List.mem_range.mp hi
      have hx : xs[i]? = some xs[i] := List.getElem?_eq_getElem hil
      have hy : ys[i]? = some (ys[i]'(by omega)) := List.getElem?_eq_getElem (by omega)
      generalize ys[i]'(by omega) = y at hy
      generalize xs[i] = x at hx
      rw [hx, hy]
      refine ⟨_, rfl, ?_⟩
      k_units
      refine ⟨_, IxM.seq SeqM.tup (atI_at (x := .frz (plD x)) (by rw [List.getElem?_map, List.getElem?_map, hx]; rfl)), ?_⟩
      k_units
      refine ⟨_, IxM.seq SeqM.tup (atI_at (x := .frz (plD y)) (by rw [List.getElem?_map, List.getElem?_map, hy]; rfl)), ?_⟩
      refine ⟨_, _, PlM.frz (plD_sh x) (by decide), PlM.frz (plD_sh y) (by decide), ?_⟩
      rw [plD_eqv, show decide (x = y) = decide (some x = some y) from decide_eq_decide.mpr ⟨fun h => by rw [h], fun h => Option.some.inj h⟩]
      k_units
    · refine ⟨L, _, .lst ((movP xs ys).map nI), cs, rfl, .lst _, ?_, q⟩
      have e : (((List.range xs.length).filter fun i => !decide (xs[i]? = ys[i]?)).map fun i => Mv.frz (nI i)) = ((movP xs ys).map nI).map Mv.frz := by
        rw [List.map_map]; rfl
      rw [e]
      exact .hit (.same _)
  · exact hw.elim
end

section
variable {P : Program} {w : World} {K : PySem.W.Frag} {mg : Str → Option Value} {base : Heap}
theorem ok_lwaits {f : Addr} {fd : FuncData} (F : FunZ K "_law_waits" "_law_waits" s_L_waits f fd) (f1 : Fn P w K mg base "_law_moves" 1 w_moving) : FnOk P w K mg base CX0 2 f fd ["_law_first", "_law_then"] (toSp w_waiting) := by
  refine def_ok F sc_L_waits (by intro ms cs R Z h; unfold w_waiting at h; split at h; rfl; exact h.elim) fun cdv A outer s H E a ms cs R Zx hr hw => ?_
  have nd := sc_L_waits.nd
  have sc := sc_L_waits
  have hu : (XZ P w K mg base n_L_waits "_law_waits" s_L_waits f cdv A outer s H E).A.units + 1 < cLine := hu_of hr
  have hu64 : (XZ P w K mg base n_L_waits "_law_waits" s_L_waits f cdv A outer s H E).A.units + 64 < cLine := by have := hr.un; show (A.deeper _).units + 64 < cLine; omega
  unfold w_waiting at hw
  split at hw
  · obtain ⟨xs, ys, rfl, rfl, h1, h2, q⟩ := hw
    refine svs_cons (sv_st (ev_dnew fun D hD => ?_) nd)
    k_units
    refine moving_use h1 h2 ?_
    refine ⟨_, .lst, fun i ρ' c' => ∃ v3 v4 : Option Mv, ρ' = [some (.frz (plT xs)), some (.frz (plT ys)), some (.cel D), v3, v4] ∧ c' = (D, Cell.dct (dNM (waL xs ys ((movP xs ys).take i)))) :: cs, ⟨_, _, rfl, rfl⟩, fun _ _ _ _ _ => .lst, ?_, ?_⟩
    · rintro i it ρ' c' hi ⟨v3, v4, rfl, rfl⟩
      obtain ⟨p, hp, rfl⟩ := its_nats hi
      have hpl : p < xs.length := movP_lt (List.mem_of_getElem? hp)
      have hfr := take_fresh (movP_nodup xs ys) hp
      have hkeys : ∀ q ∈ waL xs ys ((movP xs ys).take i), q.1 ≠ p := fun q hq e => hfr (by rw [← e]; exact waL_keys hq)
      have hwl : (waL xs ys ((movP xs ys).take i)).length ≤ 60 := by
        refine Nat.le_trans (List.length_filterMap_le _ _) ?_
        rw [List.length_take]
        have := nodup_lt (movP_nodup xs ys) (n := xs.length) fun x hx => movP_lt hx
        omega
      have hy : ys[p]? = some (ys[p]'(by omega)) := List.getElem?_eq_getElem (by omega)
      generalize ys[p]'(by omega) = y at hy
      refine ⟨_, rfl, ?_⟩
      k_units
      refine moving_use h1 h2 ?_
      refine ⟨_, .lst, fun j ρ' c' => ∃ v4 : Option Mv, ρ' = [some (.frz (plT xs)), some (.frz (plT ys)), some (.cel D), some (.frz (nI p)), v4] ∧ c' = (D, Cell.dct (dNM (wPut (waL xs ys ((movP xs ys).take i)) p (waO xs ys p ((movP xs ys).take j))))) :: cs, ⟨_, rfl, rfl⟩, fun _ _ _ _ _ => .lst, ?_, ?_⟩
      · rintro j it ρ' c' hj ⟨v4, rfl, rfl⟩
        obtain ⟨o, ho, rfl⟩ := its_nats hj
        have hol : o < xs.length := movP_lt (List.mem_of_getElem? ho)
        have hx : xs[o]? = some xs[o] := List.getElem?_eq_getElem hol
        generalize xs[o] = x at hx
        have hB := waB_at hx hy
        have hS : waO xs ys p ((movP xs ys).take (j + 1)) = if (!y.isNone && decide (x = y)) = true then some o else waO xs ys p ((movP xs ys).take j) := by rw [take_snoc ho, waO_snoc, hB]
        have pos : ∀ b : Bool, b = true → (if b = true then some o else waO xs ys p ((movP xs ys).take j)) = some o := fun b h => if_pos h
        have neg : ∀ b : Bool, b = false → (if b = true then some o else waO xs ys p ((movP xs ys).take j)) = waO xs ys p ((movP xs ys).take j) := fun b h => if_neg (by rw [h]; exact Bool.false_ne_true)
        refine ⟨_, rfl, ?_⟩
        k_units
        refine ⟨_, IxM.seq SeqM.tup (atI_at (x := .frz (plD y)) (by rw [List.getElem?_map, List.getElem?_map, hy]; rfl)), ?_⟩
        k_units
        refine ⟨_, IxM.seq SeqM.tup (atI_at (x := .frz (plD x)) (by rw [List.getElem?_map, List.getElem?_map, hx]; rfl)), ?_⟩
        refine ⟨_, _, PlM.frz (plD_sh y) (by decide), PlM.frz (plD_sh x) (by decide), ?_⟩
        rw [plD_eqv, show decide (y = x) = decide (x = y) from decide_eq_decide.mpr eq_comm]
        generalize hT : decide (x = y) = T at *
        k_units
        · refine ⟨_, IxM.seq SeqM.tup (atI_at (x := .frz (plD y)) (by rw [List.getElem?_map, List.getElem?_map, hy]; rfl)), ?_⟩
          k_units
          refine ⟨_, _, PlM.frz (plD_sh y) (by decide), PlM.frz (n := 1) (d := .str "up") (by decide +kernel) (by decide), ?_⟩
          rw [show (Dv.str "up").py = (Dv.str upS).py from rfl, plD_eqUp]
          generalize hU : y.isNone = U at *
          k_units
          · rename_i k2 k1
            refine sv_dput hu ?_
            k_units
            refine ⟨D, _, .inl (p : Int), _, rfl, rfl, .hit, ?_, ?_⟩
            · rw [dNM_len]
              have := wPut_len (waL xs ys ((movP xs ys).take i)) p (waO xs ys p ((movP xs ys).take j))
              omega
            refine svs_nil (svs_nil ?_)
            rw [putKs_w hkeys]
            exact ⟨_, rfl, by rw [hS, if_pos (by rw [k1, k2]; rfl)]⟩
          · rename_i k2 k1
            rw [hS, if_neg (by rw [k1, Bool.false_and]; exact Bool.false_ne_true)]
        · rename_i k2 k1
          rw [hS, if_neg (by rw [k2, Bool.and_false]; exact Bool.false_ne_true)]
      · rintro ρ' c' ⟨v4, rfl, rfl⟩
        rw [its_nats_len, List.take_length]
        refine svs_nil ?_
        rw [← waL_snoc, ← take_snoc hp]
        exact ⟨_, _, rfl, rfl⟩
    · rintro ρ' c' ⟨v3, v4, rfl, rfl⟩
      rw [its_nats_len, List.take_length]
      refine svs_cons (sv_ret (ev_frz ?_))
      k_units
      exact ⟨D, _, .dct (dNN (waP xs ys)), cs, rfl, .dct _, .hit (.same _), q⟩
  · exact hw.elim
end

/-! ### places turned round, plain -/
abbrev Pq := Option Int × Pc
def trL (l : List Pq) : List (Option Int) := (l.filter fun q => q.2.isTruck).map (·.1)
def clL (l : List Pq) : List (Option Int) := (l.filter fun q => !q.2.isTruck).map (·.1)
theorem trL_t {q : Pq} (l : List Pq) (h : q.2.isTruck = true) : trL (q :: l) = q.1 :: trL l := by simp [trL, h]
theorem trL_f {q : Pq} (l : List Pq) (h : ¬ q.2.isTruck = true) : trL (q :: l) = trL l := by simp [trL, h]
theorem clL_t {q : Pq} (l : List Pq) (h : q.2.isTruck = true) : clL (q :: l) = clL l := by simp [clL, h]
theorem clL_f {q : Pq} (l : List Pq) (h : ¬ q.2.isTruck = true) : clL (q :: l) = q.1 :: clL l := by simp [clL, h]
def fillT : List Pq → List (Option Int) → List (Option Int)
  | [], _ => []
  | q :: l, zs => if q.2.isTruck = true then zs.headD none :: fillT l zs.tail else q.1 :: fillT l zs
theorem fillT_len : ∀ (l : List Pq) (zs : List (Option Int)), (fillT l zs).length = l.length
  | [], _ => rfl
  | q :: l, zs => by
    unfold fillT
    split <;> simp [fillT_len l]
theorem fillT_tr : ∀ l : List Pq, fillT l (trL l) = l.map (·.1)
  | [] => rfl
  | q :: l => by
    unfold fillT
    by_cases h : q.2.isTruck = true
    · rw [if_pos h]
      have e := trL_t l h
      rw [e]
      show q.1 :: fillT l (trL l) = _
      rw [fillT_tr l]; rfl
    · rw [if_neg h]
      have e := trL_f l h
      rw [e, fillT_tr l]; rfl
theorem fillT_perm : ∀ (l : List Pq) (zs : List (Option Int)), zs.length = (trL l).length → (fillT l zs).Perm (zs ++ clL l)
  | [], zs, h => by
    have : zs = [] := List.length_eq_zero_iff.mp h
    subst this; exact List.Perm.refl _
  | q :: l, zs, h => by
    unfold fillT
    by_cases hq : q.2.isTruck = true
    · rw [if_pos hq]
      have e := trL_t l hq
      have e2 := clL_t l hq
      rw [e] at h
      rw [e2]
      cases zs with
      | nil => cases h
      | cons z zs => exact (fillT_perm l zs (Nat.succ.inj h)).cons z
    · rw [if_neg hq]
      have e := trL_f l hq
      have e2 := clL_f l hq
      rw [e] at h
      rw [e2]
      exact ((fillT_perm l zs h).cons q.1).trans List.perm_middle.symm
theorem fillT_at : ∀ (l : List Pq) (zs : List (Option Int)) (i : Nat) (q : Pq) (y : Option Int), (trL l).length ≤ zs.length → l[i]? = some q → (fillT l zs)[i]? = some y → if q.2.isTruck = true then y ∈ zs else y = q.1
  | [], _, _, _, _, _, h, _ => by cases h
  | p :: l, zs, i, q, y, hz, h, hy => by
    unfold fillT at hy
    by_cases hp : p.2.isTruck = true
    · rw [if_pos hp] at hy
      have e := trL_t l hp
      rw [e] at hz
      cases zs with
      | nil => simp at hz
      | cons z zs =>
        cases i with
        | zero =>
          cases h
          rw [if_pos hp]
          have : z = y := Option.some.inj hy
          rw [this]; exact List.mem_cons_self
        | succ i =>
          have r := fillT_at l zs i q y (by simpa using hz) (by simpa using h) (by simpa using hy)
          split at r
          · rename_i hq
            rw [if_pos hq]; exact List.mem_cons_of_mem _ r
          · rename_i hq
            rw [if_neg hq]; exact r
    · rw [if_neg hp] at hy
      have e := trL_f l hp
      rw [e] at hz
      cases i with
      | zero =>
        cases h
        rw [if_neg hp]
        exact (Option.some.inj hy).symm
      | succ i => exact fillT_at l zs i q y hz (by simpa using h) (by simpa using hy)
theorem fillT_snoc : ∀ (l : List Pq) (zs : List (Option Int)) (q : Pq), fillT (l ++ [q]) zs = fillT l zs ++ [if q.2.isTruck = true then (zs[(trL l).length]?).getD none else q.1]
  | [], zs, q => by
    show fillT [q] zs = _
    unfold fillT
    by_cases h : q.2.isTruck = true
    · rw [if_pos h, if_pos h]
      cases zs <;> rfl
    · rw [if_neg h, if_neg h]; rfl
  | p :: l, zs, q => by
    show fillT (p :: (l ++ [q])) zs = _
    unfold fillT
    by_cases hp : p.2.isTruck = true
    · have e := trL_t l hp
      rw [if_pos hp, if_pos hp, fillT_snoc l zs.tail q, e, List.length_cons]
      cases zs with
      | nil => simp
      | cons z zs => simp
    · have e := trL_f l hp
      rw [if_neg hp, if_neg hp, fillT_snoc l zs q, e]; rfl
def rotL {α : Type} (l : List α) (b : Nat) : List α := l.drop (b % l.length) ++ l.take (b % l.length)
theorem rotL_perm {α : Type} (l : List α) (b : Nat) : (rotL l b).Perm l := by
  unfold rotL
  exact List.perm_append_comm.trans (by rw [List.take_append_drop])
theorem rotL_at {α : Type} {l : List α} {b j : Nat} (h : j < l.length) : (rotL l b)[j]? = l[(j + b) % l.length]? := by
  unfold rotL
  have hb : b % l.length < l.length := Nat.mod_lt _ (by omega)
  have e : (j + b) % l.length = (j + b % l.length) % l.length := by rw [Nat.add_mod, Nat.mod_eq_of_lt h]
  rw [e]
  generalize b % l.length = c at hb
  by_cases hj : j + c < l.length
  · rw [Nat.mod_eq_of_lt hj, List.getElem?_append_left (by rw [List.length_drop]; omega), List.getElem?_drop, Nat.add_comm]
  · have e2 : (j + c) % l.length = j + c - l.length := by
      rw [Nat.mod_eq_sub_mod (by omega), Nat.mod_eq_of_lt (by omega)]
    rw [e2, List.getElem?_append_right (by rw [List.length_drop]; omega), List.length_drop, List.getElem?_take]
    rw [if_pos (by omega)]
    congr 1
    omega
theorem isScene_eq (h : Hs) (xs : List (Option Int)) : isScene h (plT xs) = true ↔ xs.length = h.ps.length ∧ (∀ (i : Nat) (pc : Pc) (x : Option Int), h.ps[i]? = some pc → xs[i]? = some x → pc.mayP h x = true) ∧ (xs.filterMap id).Nodup := by
  have e : isScene h (plT xs) = (decide (xs.length = h.ps.length) && mays h (xs.map plD) && decide (xs.filterMap id).Nodup) := by
    show (decide ((xs.map plD).length = h.ps.length) && mays h (xs.map plD) && decide (((xs.map plD).filter fun d => !isUp d).map dvI).Nodup) = _
    rw [held_pl, List.length_map]
  rw [e, Bool.and_eq_true, Bool.and_eq_true, decide_eq_true_eq, decide_eq_true_eq, mays_pl, and_assoc]
theorem mayP_truck {h : Hs} {p q : Pc} (hp : p.isTruck = true) (hq : q.isTruck = true) (x : Option Int) : p.mayP h x = q.mayP h x := by
  cases p <;> cases q <;> first | rfl | (cases hp; done) | (cases hq; done)
/-- the trucks' places turned round: a scene -/
theorem turned_scene {h : Hs} {xs : List (Option Int)} (hs : isScene h (plT xs) = true) (b : Nat) : isScene h (plT (fillT (xs.zip h.ps) (rotL (trL (xs.zip h.ps)) b))) = true := by
  obtain ⟨h1, h2, h3⟩ := (isScene_eq h xs).mp hs
  have hpm := rotL_perm (trL (xs.zip h.ps)) b
  have hlen : (rotL (trL (xs.zip h.ps)) b).length = (trL (xs.zip h.ps)).length := hpm.length_eq
  have hx : (xs.zip h.ps).map (·.1) = xs := by rw [List.map_fst_zip (by omega)]
  have hp2 : (fillT (xs.zip h.ps) (rotL (trL (xs.zip h.ps)) b)).Perm xs := by
    have a1 := fillT_perm (xs.zip h.ps) _ hlen
    have a2 := fillT_perm (xs.zip h.ps) _ rfl
    rw [fillT_tr, hx] at a2
    exact a1.trans ((hpm.append_right _).trans a2.symm)
  refine (isScene_eq h _).mpr ⟨by rw [fillT_len, List.length_zip]; omega, fun i pc y hpc hy => ?_, ((hp2.filterMap id).nodup_iff).mpr h3⟩
  have hil := (List.getElem?_eq_some_iff.mp hpc).1
  have hxi : xs[i]? = some (xs[i]'(by omega)) := List.getElem?_eq_getElem (by omega)
  have hz : (xs.zip h.ps)[i]? = some (xs[i]'(by omega), pc) := List.getElem?_zip_eq_some.mpr ⟨hxi, hpc⟩
  have r := fillT_at _ _ i _ y (by omega) hz hy
  by_cases hq : pc.isTruck = true
  · rw [if_pos hq] at r
    have r2 := hpm.mem_iff.mp r
    obtain ⟨⟨x, pc2⟩, hm, e⟩ := List.mem_map.mp r2
    have e' : x = y := e
    subst e'
    obtain ⟨hm1, hm2⟩ := List.mem_filter.mp hm
    obtain ⟨j, hj⟩ := List.mem_iff_getElem?.mp hm1
    obtain ⟨j1, j2⟩ := List.getElem?_zip_eq_some.mp hj
    rw [mayP_truck hq hm2]
    exact h2 j pc2 x j2 j1
  · rw [if_neg hq] at r
    rw [r]
    exact h2 i pc _ hpc hxi

section
variable {a : An} {X : Cx} {ρ : Env} {cs : Cs} {D : Dn} {pos spos : Pos} {scope : Scope} {elt iter c : Expr} {x y z : Str} {px py pt pz : Pos} {kt : Nat}
theorem sv_setLcI2 {N ps : List Str} {sc : Scope} (S : FnScope N ps sc) (h : IV a X (.Tuple [.Name x px, .Name y py] kt pt) iter ρ cs fun its G c1 => ∀ L, L ∉ ads c1 → LcLoop a its G L c1 (turn2 a X scope (.one c) elt ρ [N.idxOf x, N.idxOf y] (N.idxOf x) (N.idxOf y) L) fun m c => D.nx (ρ.set (N.idxOf z) (some m)) c) (eN : X.N = N := by rfl) (es : X.env.scope = sc := by rfl) (hc : X.calm = true := by rfl)
    (hsw : swapsWith (.ListComp elt [⟨.Tuple [.Name x px, .Name y py] kt pt, iter, [c], 0⟩] scope pos) (some (.Name z pz)) spos.line X.env = pure true := by rfl) (hy : N[N.idxOf z]? = some z := by rfl) (hyl : X.env.scope.names.lookup z = some .local := by rfl) (ok : blkC N sc scope [(x, N.idxOf x), (y, N.idxOf y)] = true := by decide +kernel)
    (hg : ∀ s0 H0 C cl fp, PG (Blk X scope s0 H0 C cl fp) (.Tuple [.Name x px, .Name y py] kt pt) (gTup X.K 2 (gCons (gName (N.idxOf x)) (gCons (gName (N.idxOf y)) gNil))) := by intro s0 H0 C cl fp; exact pg_tup rfl (pgs_cons (pg_name (by assumption) rfl (Or.inl rfl) (Or.inr rfl)) (pgs_cons (pg_name (by assumption) rfl (Or.inl rfl) (Or.inr rfl)) pgs_nil rfl) rfl) rfl rfl)
    (hs : ∀ x, foldedSetIterable iter X.env x = pure x := by intro _; rfl) : SV a X (.Assign [.Name z pz] (.ListComp elt [⟨.Tuple [.Name x px, .Name y py] kt pt, iter, [c], 0⟩] scope pos) spos) ρ cs D :=
  sv_setLc2 (.one c) _ (own := [(x, N.idxOf x), (y, N.idxOf y)]) hc (by rw [eN]; exact S.nd) (by rw [eN]; exact hy) hyl hsw (blkOk_by (by rw [eN, es]; exact ok)) List.mem_cons_self (List.mem_cons_of_mem _ List.mem_cons_self) h hg hs
end
theorem zip_its (xs : List (Option Int)) (ps : List Pc) : (((xs.map plD).map Mv.frz).zip ((ps.map Pc.dv).map Mv.frz)).map (fun p => ItM.two p.1 p.2) = (xs.zip ps).map fun q => ItM.two (.frz (plD q.1)) (.frz q.2.dv) := by
  rw [List.map_map, List.map_map, List.zip_map, List.map_map]; rfl
def w_turned : FSp := fun ms cs R _ => match ms with
  | [.frz tb, .cel d, .frz e] => ∃ (h : Hs) (xs : List (Option Int)), tb = h.tb ∧ h.ok ∧ e = plT xs ∧ (d, Cell.dice) ∈ cs ∧ isScene h (plT xs) = true ∧ ∀ ys : List (Option Int), isScene h (plT ys) = true → R (.frz (plT ys)) cs
  | _ => False
section
local macro_rules | `(tactic| k_put) => `(tactic| ((with_reducible show IV _ _ _ (.Call (.Name _ _) [_, _] _ _) _ _ _); refine iv_zip ?_ (by assumption)))
local macro_rules | `(tactic| k_slotset) => `(tactic| ((with_reducible show ∃ _ _ _ _, SeqK _ _ _ _ ∧ SeqK _ _ _ _ ∧ _); refine ⟨_, _, _, _, .tup, .lst, ?_⟩))
variable {P : Program} {w : World} {K : PySem.W.Frag} {mg : Str → Option Value} {base : Heap}
theorem ok_turned {f : Addr} {fd : FuncData} (F : FunZ K "_law_turned" "_law_turned" s_L_turned f fd) (f1 : Fn P w K mg base "_law_roll" 2 w_roll) (g1 : mg "len" = none) (g2 : mg "zip" = none) (g3 : mg "tuple" = none) : FnOk P w K mg base CX0 3 f fd ["_law_table_here", "_law_dice", "_law_first"] (toSp w_turned) := by
  refine def_ok F sc_L_turned (by intro ms cs R Z h; unfold w_turned at h; split at h; rfl; exact h.elim) fun cdv A outer s H E a ms cs R Zx hr hw => ?_
  have nd := sc_L_turned.nd
  have sc := sc_L_turned
  have hu : (XZ P w K mg base n_L_turned "_law_turned" s_L_turned f cdv A outer s H E).A.units + 1 < cLine := hu_of hr
  have hu64 : (XZ P w K mg base n_L_turned "_law_turned" s_L_turned f cdv A outer s H E).A.units + 64 < cLine := by have := hr.un; show (A.deeper _).units + 64 < cLine; omega
  unfold w_turned at hw
  split at hw
  · rename_i tb d e
    obtain ⟨h, xs, rfl, ho, rfl, hd, hs, q⟩ := hw
    have hxl := (isScene_pl.mp hs).1
    have h8 := ho.len
    have hsc := turned_scene hs
    refine svs_wkE ?_
    refine svs_cons (sv_setLcI2 sc_L_turned ?_)
    k_steps
    rename_i L hL
    rw [Hs.stock, zip_its]
    generalize hl : xs.zip h.ps = l at hsc
    have hll : l.length = xs.length := by rw [← hl, List.length_zip]; omega
    refine lcloop_fn l _ (fun q => q.2.isTruck) (fun q => .frz (plD q.1)) (fun _ => ⟨.tup, .lst⟩) (fun q hq acc hacc => ?_) ?_
    · obtain ⟨x, pc⟩ := q
      refine ⟨_, _, .inl rfl, ?_⟩
      cases pc with
      | cloth a1 b1 c1 => k_steps
      | truck b1 c1 => k_steps
    have e1 : (l.filter fun q => q.2.isTruck).map (fun q => Mv.frz (plD q.1)) = ((trL l).map plD).map Mv.frz := by
      unfold trL
      rw [List.map_map, List.map_map]; rfl
    rw [e1]
    have hpl : (((trL l).map plD).map Mv.frz).length = (trL l).length := by rw [List.length_map, List.length_map]
    k_steps
    refine roll_use (by k_made) (by decide) (by decide) fun r hr1 hr2 => ?_
    obtain ⟨b, rfl⟩ : ∃ b : Nat, r = (b : Nat) := ⟨r.toNat, by omega⟩
    have hsb := hsc b
    k_steps
    rename_i fp hfp
    refine svs_cons (sv_for2 sc_L_turned ?_)
    k_steps
    rw [Hs.stock, zip_its, hl]
    refine ⟨fun i ρ' c' => ∃ v4 v5 : Option Mv, ρ' = [some (.frz h.tb), some (.cel d), some (.frz (plT xs)), some (.cel L), v4, v5, some (.frz (nI b)), some (.cel fp), some (.frz (nI (trL (l.take i)).length))] ∧ c' = (fp, Cell.lst (((fillT (l.take i) (rotL (trL l) b)).map plD).map Mv.frz)) :: (L, Cell.lst (((trL l).map plD).map Mv.frz)) :: cs, ⟨_, _, rfl, rfl⟩, fun _ _ _ _ _ => ⟨.tup, .lst⟩, ?_, ?_⟩
    · rintro i it ρ' c' hi ⟨v4, v5, rfl, rfl⟩
      obtain ⟨⟨x, pc⟩, hq, rfl⟩ := its_map hi
      have hil := (List.getElem?_eq_some_iff.mp hq).1
      have hfl : (fillT (l.take i) (rotL (trL l) b)).length = i := by rw [fillT_len, List.length_take]; omega
      have hsn := fillT_snoc (l.take i) (rotL (trL l) b) (x, pc)
      rw [← take_snoc hq] at hsn
      have htl : trL (l.take (i + 1)) = trL (l.take i) ++ trL [(x, pc)] := by
        rw [take_snoc hq]
        unfold trL
        rw [List.filter_append, List.map_append]
      refine ⟨_, _, rfl, ?_⟩
      cases pc with
      | cloth a1 b1 c1 =>
        have t0 : (trL (l.take (i + 1))).length = (trL (l.take i)).length := by rw [htl, List.length_append]; rfl
        have hsn2 : fillT (l.take (i + 1)) (rotL (trL l) b) = fillT (l.take i) (rotL (trL l) b) ++ [x] := hsn
        k_units
        refine ⟨?_, ?_, ?_, ?_⟩
        rotate_left 2
        · rw [t0]; rfl
        · rw [hsn2, List.map_append, List.map_append]; rfl
      | truck b1 c1 =>
        have t0 : (trL (l.take (i + 1))).length = (trL (l.take i)).length + 1 := by rw [htl, List.length_append]; rfl
        have tT : (trL (l.take (i + 1))).length ≤ (trL l).length := by
          unfold trL
          rw [List.length_map, List.length_map]
          exact (List.Sublist.filter _ (List.take_sublist _ _)).length_le
        have hrl : (rotL (trL l) b).length = (trL l).length := (rotL_perm _ _).length_eq
        have hz : (rotL (trL l) b)[(trL (l.take i)).length]? = some ((rotL (trL l) b)[(trL (l.take i)).length]'(by omega)) := List.getElem?_eq_getElem (by omega)
        generalize (rotL (trL l) b)[(trL (l.take i)).length]'(by omega) = z at hz
        have hsn2 : fillT (l.take (i + 1)) (rotL (trL l) b) = fillT (l.take i) (rotL (trL l) b) ++ [z] := by
          have e : (if (x, Pc.truck b1 c1).2.isTruck = true then ((rotL (trL l) b)[(trL (l.take i)).length]?).getD none else x) = z := by
            rw [hz]; rfl
          rw [hsn, e]
        rw [rotL_at (by omega)] at hz
        k_units
        · rw [hpl]; omega
        · rw [hpl]
          have ec : (((trL (l.take i)).length : Int) + (b : Int)) % ((trL l).length : Int) = ((((trL (l.take i)).length + b) % (trL l).length : Nat) : Int) := by push_cast; rfl
          rw [ec]
          refine ⟨_, IxM.seq (SeqM.cel (by k_made)) (atI_at (x := .frz (plD z)) (by rw [List.getElem?_map, List.getElem?_map, hz]; rfl)), ?_⟩
          k_units
          refine ⟨?_, ?_, ?_, ?_⟩
          rotate_left 2
          · rw [t0]; rfl
          · rw [hsn2, List.map_append, List.map_append]; rfl
    · rintro ρ' c' ⟨v4, v5, rfl, rfl⟩
      rw [List.length_map, List.take_length]
      k_units
      refine TupQ.lst (ds := (fillT l (rotL (trL l) b)).map plD) (.cel List.mem_cons_self) ?_
      exact ⟨cs, Wk.sub (by k_sub), q _ hsb⟩
  · exact hw.elim
end

def w_change (C : Addr) : FSp := fun ms cs R _ => match ms with
  | [.cel d, .frz (.int m)] => (d, Cell.dice) ∈ cs ∧ (1 ≤ m ∧ m ≤ 8) ∧ ∀ (h : Hs) (xs ys : List (Option Int)), TbOk h m → isScene h (plT xs) = true → isScene h (plT ys) = true → R (.frz (.tup [h.tb, h.dv C, plT xs, plT ys])) cs
  | _ => False
section
variable {P : Program} {w : World} {K : PySem.W.Frag} {mg : Str → Option Value} {base : Heap}
theorem ok_change {C f : Addr} {fd : FuncData} (F : FunZ K "_law_change" "_law_change" s_L_change f fd) (f1 : Fn P w K mg base "_law_roll" 2 w_roll) (f2 : Fn P w K mg base "_law_table" 3 w_table) (f3 : Fn P w K mg base "_law_house" 5 (w_lhouse C)) (f4 : Fn P w K mg base "_law_scene" 3 w_lscene) (f5 : Fn P w K mg base "_law_turned" 3 w_turned) (g1 : mg "list" = none) : FnOk P w K mg base CX0 6 f fd ["_law_dice", "_law_most"] (toSp (w_change C)) := by
  refine def_ok F sc_L_change (by intro ms cs R Z h; unfold w_change at h; split at h; rfl; exact h.elim) fun cdv A outer s H E a ms cs R Zx hr hw => ?_
  have nd := sc_L_change.nd
  have sc := sc_L_change
  have hu : (XZ P w K mg base n_L_change "_law_change" s_L_change f cdv A outer s H E).A.units + 1 < cLine := hu_of hr
  have hu64 : (XZ P w K mg base n_L_change "_law_change" s_L_change f cdv A outer s H E).A.units + 64 < cLine := by have := hr.un; show (A.deeper _).units + 64 < cLine; omega
  unfold w_change at hw
  split at hw
  · rename_i d m
    obtain ⟨hd, hm, q⟩ := hw
    refine svs_wkE ?_
    k_units
    refine ⟨hd, hm, fun h ht => ?_⟩
    k_units
    refine ⟨h, m, none, rfl, ht, hm.2, List.mem_cons_of_mem _ hd, .nil List.mem_cons_self, fun xs hxs => ?_⟩
    refine svs_wk (Wk.sub (List.sublist_cons_self _ _)) ?_
    k_units
    refine roll_use hd (by decide) (by decide) fun r hr1 hr2 => ?_
    k_units
    · refine ⟨h, rfl, ht.ok hm.2, ?_⟩
      k_units
      refine ⟨h, xs, rfl, ht.ok hm.2, rfl, hd, hxs, fun ys hys => ?_⟩
      k_units
      exact ⟨cs, Wk.refl, q h xs ys ht hxs hys⟩
    · refine ⟨h, rfl, ht.ok hm.2, ?_⟩
      k_units
      refine ⟨h, m, some xs, rfl, ht, hm.2, List.mem_cons_of_mem _ hd, .lst List.mem_cons_self hxs, fun ys hys => ?_⟩
      k_units
      exact ⟨cs, Wk.sub (by k_sub), q h xs ys ht hxs hys⟩
  · exact hw.elim
end

theorem eqvAll_nI : ∀ a b : List Nat, PyData.eqvAll (Dv.pys (a.map nI)) (Dv.pys (b.map nI)) = decide (a = b)
  | [], [] => by simp [Dv.pys, PyData.eqvAll]
  | [], _ :: _ => by simp [Dv.pys, PyData.eqvAll]
  | _ :: _, [] => by simp [Dv.pys, PyData.eqvAll]
  | x :: a, y :: b => by
    have ih := eqvAll_nI a b
    have e : PyData.eqv (nI x).py (nI y).py = decide (x = y) := by
      rw [py_ii]
      exact decide_eq_decide.mpr ⟨fun h => by omega, fun h => by rw [h]⟩
    show PyData.eqvAll ((nI x).py :: Dv.pys (a.map nI)) ((nI y).py :: Dv.pys (b.map nI)) = _
    simp only [PyData.eqvAll, ih, e]
    by_cases h1 : x = y <;> by_cases h2 : a = b <;> simp [h1, h2]
theorem eqv_nI (a b : List Nat) : PyData.eqv (.list (Dv.pys (a.map nI))) (.list (Dv.pys (b.map nI))) = decide (a = b) := by
  rw [← eqvAll_nI]; simp only [PyData.eqv]
theorem nI_shs : ∀ l : List Nat, Dv.shs 1 (l.map nI) = true
  | [] => rfl
  | x :: l => by
    show (Dv.sh 1 (nI x) && Dv.shs 1 (l.map nI)) = true
    rw [nI_shs l]; rfl
theorem oL_sh (r : Option (List Nat)) : Dv.sh 2 (oL r) = true := by
  cases r with
  | none => rfl
  | some l => exact nI_shs l
theorem oL_eqv (r : Option (List Nat)) : PyData.eqv (oL r).py (oL r).py = true := by
  cases r with
  | none => rfl
  | some l => exact (eqv_nI l l).trans (decide_eq_true rfl)
theorem its_dice {ds : List Addr} {c : Cs} (hd : ∀ d ∈ ds, (d, Cell.dice) ∈ c) {i : Nat} {it : ItM} (h : ((ds.map Mv.cel).map ItM.one)[i]? = some it) : ∃ d, (d, Cell.dice) ∈ c ∧ it = .one (.cel d) := by
  rw [List.getElem?_map, List.getElem?_map] at h
  obtain ⟨m, h1, rfl⟩ := Option.map_eq_some_iff.mp h
  obtain ⟨d, h2, rfl⟩ := Option.map_eq_some_iff.mp h1
  exact ⟨d, hd d (List.mem_of_getElem? h2), rfl⟩
section
variable {a : An} {X : Cx} {ρ : Env} {cs : Cs} {D : Dn} {spos : Pos} {e : Expr} {x y z t : Str} {px py pz pt' pt : Pos} {kt : Nat} {N ps : List Str} {sc : Scope}
theorem sv_un4 (S : FnScope N ps sc) (h : EV a X e ρ cs fun m c1 => ∃ m1 m2 m3 m4, TupM c1 m [m1, m2, m3, m4] ∧ D.nx ((((ρ.set (N.idxOf x) (some m1)).set (N.idxOf y) (some m2)).set (N.idxOf z) (some m3)).set (N.idxOf t) (some m4)) c1) (eN : X.N = N := by rfl) (hc : X.calm = true := by rfl) (hi : N[N.idxOf x]? = some x := by rfl) (hj : N[N.idxOf y]? = some y := by rfl) (hk : N[N.idxOf z]? = some z := by rfl) (ht : N[N.idxOf t]? = some t := by rfl)
    (lx : Loc X.env.scope x := by first | exact Or.inl rfl | exact Or.inr rfl) (ly : Loc X.env.scope y := by first | exact Or.inl rfl | exact Or.inr rfl) (lz : Loc X.env.scope z := by first | exact Or.inl rfl | exact Or.inr rfl) (lt : Loc X.env.scope t := by first | exact Or.inl rfl | exact Or.inr rfl) (fx : X.fn x = true ∨ X.env.scope.names.lookup x = some .local := by first | exact .inl rfl | exact .inr rfl | assumption)
    (fy : X.fn y = true ∨ X.env.scope.names.lookup y = some .local := by first | exact .inl rfl | exact .inr rfl | assumption) (fz : X.fn z = true ∨ X.env.scope.names.lookup z = some .local := by first | exact .inl rfl | exact .inr rfl | assumption) (ft : X.fn t = true ∨ X.env.scope.names.lookup t = some .local := by first | exact .inl rfl | exact .inr rfl | assumption)
    (hl : (assignEach [.Name x px, .Name y py, .Name z pz, .Name t pt'] X.env).length = 4 := by rfl) (hst : (assignEach [.Name x px, .Name y py, .Name z pz, .Name t pt'] X.env).findIdx? (·.1) = none := by rfl)
    (h1 : (assignEach (.Name x px :: [.Name y py, .Name z pz, .Name t pt']) X.env).map (·.2) = assign (.Name x px) X.env :: (assignEach [.Name y py, .Name z pz, .Name t pt'] X.env).map (·.2) := by rfl) (h2 : (assignEach (.Name y py :: [.Name z pz, .Name t pt']) X.env).map (·.2) = assign (.Name y py) X.env :: (assignEach [.Name z pz, .Name t pt'] X.env).map (·.2) := by rfl)
    (h3 : (assignEach (.Name z pz :: [.Name t pt']) X.env).map (·.2) = assign (.Name z pz) X.env :: (assignEach [.Name t pt'] X.env).map (·.2) := by rfl) (h4 : (assignEach (.Name t pt' :: []) X.env).map (·.2) = assign (.Name t pt') X.env :: (assignEach [] X.env).map (·.2) := by rfl)
    (s1 : swapsWithSole [.Tuple [.Name x px, .Name y py, .Name z pz, .Name t pt'] kt pt] e spos.line X.env = pure false := by rfl) (s2 : swappedStores [.Tuple [.Name x px, .Name y py, .Name z pz, .Name t pt'] kt pt] e X.env = pure none := by rfl) (s3 : (assignEach [.Tuple [.Name x px, .Name y py, .Name z pz, .Name t pt'] kt pt] X.env).map (·.2) = [assign (.Tuple [.Name x px, .Name y py, .Name z pz, .Name t pt'] kt pt) X.env] := by rfl) :
    SV a X (.Assign [.Tuple [.Name x px, .Name y py, .Name z pz, .Name t pt'] kt pt] e spos) ρ cs D :=
  sv_asg (h.mono fun m c1 ⟨m1, m2, m3, m4, hm, q⟩ => gv_tup hc hm hl (gvs_cons (gn S (gvs_cons (gn S (gvs_cons (gn S (gvs_cons (gn S (gvs_nil q) eN ht lt ft) h4) eN hk lz fz) h3) eN hj ly fy) h2) eN hi lx fx) h1) hst) s1 s2 s3
end

abbrev iP (q : Nat × Nat) : Int × Int := ((q.1 : Int), (q.2 : Int))
abbrev nP (q : Nat × Nat) : Dv := .tup [nI q.1, nI q.2]
theorem kD_iP (l : List (Nat × Nat)) : (l.map iP).map kD = dNN l := by
  rw [List.map_map]; rfl
theorem tD_iP (l : List (Nat × Nat)) : (l.map iP).map tD = (l.map nP).map Mv.frz := by
  rw [List.map_map, List.map_map]; rfl
theorem lexB_anti {p q : Int × Int} (h1 : SrtO.lexB p q = false) (h2 : SrtO.lexB q p = false) : p = q := by
  have a := SrtO.lexB_no.mp h1
  have b := SrtO.lexB_no.mp h2
  obtain ⟨p1, p2⟩ := p
  obtain ⟨q1, q2⟩ := q
  simp only at a b
  have e1 : p1 = q1 := by omega
  have e2 : p2 = q2 := by omega
  rw [e1, e2]
theorem srtd_uniq {l m : List (Int × Int)} (hp : l.Perm m) (h1 : SrtO.Srtd SrtO.lexB l) (h2 : SrtO.Srtd SrtO.lexB m) : l = m :=
  List.Perm.eq_of_pairwise (le := fun x y => SrtO.lexB y x = false) (fun a b _ _ h1 h2 => lexB_anti h2 h1) h1 h2 hp
theorem waL_sorted {xs ys : List (Option Int)} : ∀ {ps : List Nat}, ps.Pairwise (· < ·) → (waL xs ys ps).Pairwise fun x y => x.1 < y.1
  | [], _ => .nil
  | p :: ps, h => by
    have h' := List.pairwise_cons.mp h
    have ih := waL_sorted (xs := xs) (ys := ys) h'.2
    unfold waL
    rw [List.filterMap_cons]
    split
    · exact ih
    · rename_i q hq
      obtain ⟨o, _, rfl⟩ := Option.map_eq_some_iff.mp hq
      refine List.pairwise_cons.mpr ⟨fun q hq => ?_, ih⟩
      exact h'.1 _ (waL_keys hq)
theorem movP_sorted (xs ys : List (Option Int)) : (movP xs ys).Pairwise (· < ·) := List.Pairwise.filter _ List.pairwise_lt_range
theorem waP_sorted (xs ys : List (Option Int)) : (waP xs ys).Pairwise fun x y => x.1 < y.1 := waL_sorted (movP_sorted xs ys)
theorem waP_srtd (xs ys : List (Option Int)) : SrtO.Srtd SrtO.lexB ((waP xs ys).map iP) := by
  refine List.pairwise_map.mpr ((waP_sorted xs ys).imp fun {x y} h => ?_)
  refine SrtO.lexB_no.mpr ?_
  show _
  simp only
  omega
theorem waP_nodup (xs ys : List (Option Int)) : (waP xs ys).Nodup := (waP_sorted xs ys).imp fun {x y} h e => by rw [e] at h; omega
theorem movP_swap {xs ys : List (Option Int)} (h : xs.length = ys.length) : movP ys xs = movP xs ys := by
  unfold movP
  rw [← h]
  refine List.filter_congr fun i _ => ?_
  rw [show decide (ys[i]? = xs[i]?) = decide (xs[i]? = ys[i]?) from decide_eq_decide.mpr eq_comm]
theorem movP_self (xs : List (Option Int)) : movP xs xs = [] := List.filter_eq_nil_iff.mpr fun i _ => by simp
theorem waP_self (xs : List (Option Int)) : waP xs xs = [] := by unfold waP; rw [movP_self]; rfl
theorem ringP_self (xs : List (Option Int)) : ringP xs xs = none := by unfold ringP rgL; rw [movP_self]; rfl
def uniq (xs : List (Option Int)) : Prop := ∀ (i j : Nat) (l : Int), xs[i]? = some (some l) → xs[j]? = some (some l) → i = j
theorem uniq_of {h : Hs} {xs : List (Option Int)} (hs : isScene h (plT xs) = true) : uniq xs := by
  obtain ⟨h1, h2⟩ := isScene_pl.mp hs
  have key : ∀ (i j : Nat) (l : Int), i < j → xs[i]? = some (some l) → xs[j]? = some (some l) → False := by
    intro i j l hij hi hj
    have hjl := (List.getElem?_eq_some_iff.mp hj).1
    have z := h2 j hjl
    unfold okAt at z
    rw [hj, List.getElem?_eq_getElem (by omega : j < h.ps.length)] at z
    have z' : (_ && (_ || !decide (some l ∈ xs.take j))) = true := z
    have m : some l ∈ xs.take j := by
      refine List.mem_of_getElem? (i := i) ?_
      rw [List.getElem?_take, if_pos hij, hi]
    rw [decide_eq_true m] at z'
    simp at z'
  intro i j l hi hj
  rcases Nat.lt_trichotomy i j with q | q | q
  · exact (key i j l q hi hj).elim
  · exact q
  · exact (key j i l q hj hi).elim
theorem waB_iff {xs ys : List (Option Int)} {p o : Nat} : waB xs ys p o = true ↔ ∃ l : Int, ys[p]? = some (some l) ∧ xs[o]? = some (some l) := by
  unfold waB
  cases h : ys[p]? with
  | none => simp
  | some y =>
    cases y with
    | none => simp
    | some l => simp
theorem mem_waP {xs ys : List (Option Int)} (hu : uniq xs) {p o : Nat} : (p, o) ∈ waP xs ys ↔ p ∈ movP xs ys ∧ o ∈ movP xs ys ∧ waB xs ys p o = true := by
  refine ⟨fun h => waP_mem h, fun ⟨h1, h2, h3⟩ => ?_⟩
  refine List.mem_filterMap.mpr ⟨p, h1, ?_⟩
  have hm : o ∈ (movP xs ys).filter (waB xs ys p) := List.mem_filter.mpr ⟨h2, h3⟩
  cases e : waO xs ys p (movP xs ys) with
  | none =>
    have := List.getLast?_eq_none_iff.mp (show ((movP xs ys).filter (waB xs ys p)).getLast? = none from e)
    rw [this] at hm; cases hm
  | some o' =>
    obtain ⟨l, e1, e2⟩ := waB_iff.mp h3
    obtain ⟨l', e3, e4⟩ := waB_iff.mp (waO_mem e).2
    rw [e1] at e3
    cases e3
    rw [hu _ _ _ e4 e2]; rfl
theorem waP_swap {xs ys : List (Option Int)} (h : xs.length = ys.length) (hx : uniq xs) (hy : uniq ys) : (waP ys xs).Perm ((waP xs ys).map fun q => (q.2, q.1)) := by
  refine (List.perm_ext_iff_of_nodup (waP_nodup ys xs) (List.pairwise_map.mpr ((waP_nodup xs ys).imp fun {x y} h e => h (Prod.ext (Prod.mk.inj e).2 (Prod.mk.inj e).1)))).mpr ?_
  rintro ⟨p, o⟩
  rw [mem_waP hy, movP_swap h, List.mem_map]
  constructor
  · rintro ⟨h1, h2, h3⟩
    obtain ⟨l, e1, e2⟩ := waB_iff.mp h3
    exact ⟨(o, p), (mem_waP hx).mpr ⟨h2, h1, waB_iff.mpr ⟨l, e2, e1⟩⟩, rfl⟩
  · rintro ⟨⟨a, b⟩, hm, e⟩
    cases e
    obtain ⟨h1, h2, h3⟩ := (mem_waP hx).mp hm
    obtain ⟨l, e1, e2⟩ := waB_iff.mp h3
    exact ⟨h2, h1, waB_iff.mpr ⟨l, e2, e1⟩⟩
theorem gN_waP {xs ys : List (Option Int)} {p : Nat} (hp : p ∈ movP xs ys) : gN (waP xs ys) p = waO xs ys p (movP xs ys) := by
  cases e : waO xs ys p (movP xs ys) with
  | none =>
    cases e2 : gN (waP xs ys) p with
    | none => rfl
    | some o =>
      obtain ⟨p', _, e3⟩ := List.mem_filterMap.mp (show (p, o) ∈ waL xs ys (movP xs ys) from gN_mem e2)
      obtain ⟨o', h1, h2⟩ := Option.map_eq_some_iff.mp e3
      cases h2
      rw [e] at h1; cases h1
  | some o =>
    have hm : (p, o) ∈ waP xs ys := List.mem_filterMap.mpr ⟨p, hp, by rw [e]; rfl⟩
    cases e2 : gN (waP xs ys) p with
    | none =>
      have z := Option.map_eq_none_iff.mp e2
      have := List.find?_eq_none.mp z _ hm
      simp at this
    | some o' =>
      have h2 := gN_mem e2
      obtain ⟨p', _, e3⟩ := List.mem_filterMap.mp (show (p, o') ∈ waL xs ys (movP xs ys) from h2)
      obtain ⟨o2, h3, h4⟩ := Option.map_eq_some_iff.mp e3
      cases h4
      rw [e] at h3; cases h3; rfl
theorem waP_comp (xs ys : List (Option Int)) : ((movP xs ys).filter fun p => (gN (waP xs ys) p).isSome).map (fun p => nP (p, (gN (waP xs ys) p).getD 0)) = (waP xs ys).map nP := by
  have key : ∀ ps : List Nat, (∀ p ∈ ps, p ∈ movP xs ys) → (ps.filter fun p => (gN (waP xs ys) p).isSome).map (fun p => nP (p, (gN (waP xs ys) p).getD 0)) = (waL xs ys ps).map nP := by
    intro ps
    induction ps with
    | nil => intro _; rfl
    | cons p ps ih =>
      intro h
      have ih' := ih fun q hq => h q (List.mem_cons_of_mem _ hq)
      have hg := gN_waP (h p List.mem_cons_self)
      unfold waL at ih' ⊢
      rw [List.filterMap_cons]
      cases e : waO xs ys p (movP xs ys) with
      | none =>
        rw [e] at hg
        rw [List.filter_cons_of_neg (by rw [hg]; simp)]
        exact ih'
      | some o =>
        rw [e] at hg
        rw [List.filter_cons_of_pos (by rw [hg]; rfl), List.map_cons, ih', hg]
        rfl
  exact key _ fun _ h => h
theorem eqv_nPs : ∀ l : List (Nat × Nat), PyData.eqvAll (Dv.pys (l.map nP)) (Dv.pys (l.map nP)) = true
  | [] => by simp [Dv.pys, PyData.eqvAll]
  | q :: l => by
    have ih := eqv_nPs l
    have e : PyData.eqv (nP q).py (nP q).py = true := by
      have e1 : PyData.eqv (nI q.1).py (nI q.1).py = true := by rw [py_ii]; exact decide_eq_true rfl
      have e2 : PyData.eqv (nI q.2).py (nI q.2).py = true := by rw [py_ii]; exact decide_eq_true rfl
      show PyData.eqv (.tuple (Dv.pys [nI q.1, nI q.2])) (.tuple (Dv.pys [nI q.1, nI q.2])) = true
      simp only [PyData.eqv, Dv.pys, PyData.eqvAll, e1, e2]
      rfl
    show PyData.eqvAll ((nP q).py :: Dv.pys (l.map nP)) ((nP q).py :: Dv.pys (l.map nP)) = true
    simp only [PyData.eqvAll, e, ih]
    rfl
theorem eqv_nP (l : List (Nat × Nat)) : PyData.eqv (.list (Dv.pys (l.map nP))) (.list (Dv.pys (l.map nP))) = true := by
  rw [← eqv_nPs l]; simp only [PyData.eqv]
theorem nP_shs : ∀ l : List (Nat × Nat), Dv.shs 2 (l.map nP) = true
  | [] => rfl
  | x :: l => by
    show (Dv.sh 2 (nP x) && Dv.shs 2 (l.map nP)) = true
    rw [nP_shs l]; rfl

/-! ### plans, plain -/
def Pc.bt : Pc → Int
  | .cloth _ b _ => b
  | .truck b _ => b
def Pc.hd : Pc → Int
  | .cloth _ _ k => k
  | .truck _ k => k
theorem Pc.ok_bt {L : Int} {pc : Pc} (h : pc.ok L) : 1 ≤ pc.bt ∧ pc.bt ≤ 4 := by
  cases pc with
  | cloth l b k => exact h.2.1
  | truck b k => exact h.1
theorem Pc.ok_hd {L : Int} {pc : Pc} (h : pc.ok L) : 1 ≤ pc.hd ∧ pc.hd ≤ 6 := by
  cases pc with
  | cloth l b k => exact h.2.2
  | truck b k => exact h.2
/-- a piece's beats, its hands -/
def Hs.bt (h : Hs) (p : Nat) : Int := ((h.ps[p]?).map Pc.bt).getD 0
def Hs.hd (h : Hs) (p : Nat) : Int := ((h.ps[p]?).map Pc.hd).getD 0
theorem Hs.bt_pos {h : Hs} (ho : h.ok) {p : Nat} (hp : p < h.ps.length) : 1 ≤ h.bt p ∧ h.bt p ≤ 4 := by
  have e : h.ps[p]? = some h.ps[p] := List.getElem?_eq_getElem hp
  have hb : h.bt p = (h.ps[p]).bt := by unfold Hs.bt; rw [e]; rfl
  rw [hb]
  exact Pc.ok_bt (ho.pcs _ (List.getElem_mem hp))
/-- starts: pieces and beats, as a dict of numbers -/
def dS (S : List (Nat × Int)) : List (Key × Dv) := S.map fun q => (.inl (q.1 : Int), .int q.2)
def gS (S : List (Nat × Int)) (p : Nat) : Option Int := (S.find? fun q => decide (q.1 = p)).map (·.2)
theorem lookK_dS (S : List (Nat × Int)) (p : Nat) : lookK (.inl (p : Int)) (dS S) = (gS S p).map Dv.int := by
  unfold lookK gS dS
  rw [List.find?_map]
  have : ((fun kv : Key × Dv => decide (kv.1 = Sum.inl (p : Int))) ∘ fun q : Nat × Int => (Sum.inl (q.1 : Int), Dv.int q.2)) = fun q => decide (q.1 = p) := by
    funext q
    exact decide_eq_decide.mpr ⟨fun h => by have := Sum.inl.inj h; omega, fun h => by show Sum.inl (q.1 : Int) = _; rw [h]⟩
  rw [this, Option.map_map, Option.map_map]
  rfl
theorem gS_mem {S : List (Nat × Int)} (hn : (S.map (·.1)).Nodup) {q : Nat × Int} (hq : q ∈ S) : gS S q.1 = some q.2 := by
  unfold gS
  cases e : S.find? (fun x : Nat × Int => decide (x.1 = q.1)) with
  | none => exact absurd (decide_eq_true rfl) (List.find?_eq_none.mp e q hq)
  | some r =>
    have h1 := List.mem_of_find?_eq_some e
    have h2 : r.1 = q.1 := by
      have z := List.find?_some e
      exact of_decide_eq_true z
    have h3 : r = q := by
      obtain ⟨i, hi, ei⟩ := List.mem_iff_getElem.mp h1
      obtain ⟨j, hj, ej⟩ := List.mem_iff_getElem.mp hq
      have e3 : (S.map (·.1))[i]'(by rw [List.length_map]; exact hi) = (S.map (·.1))[j]'(by rw [List.length_map]; exact hj) := by rw [List.getElem_map, List.getElem_map, ei, ej]; exact h2
      have : i = j := (List.getElem_inj hn).mp e3
      subst this
      rw [← ei, ej]
    rw [h3]; rfl
theorem gS_some {S : List (Nat × Int)} {p : Nat} (hp : p ∈ S.map (·.1)) : ∃ s, gS S p = some s := by
  obtain ⟨q, hq, rfl⟩ := List.mem_map.mp hp
  unfold gS
  cases e : S.find? (fun x : Nat × Int => decide (x.1 = q.1)) with
  | none => exact absurd (decide_eq_true rfl) (List.find?_eq_none.mp e q hq)
  | some r => exact ⟨r.2, rfl⟩
/-- the hands that are taken in a beat -/
def onB (h : Hs) (t : Int) (q : Nat × Int) : Bool := decide (0 ≤ t - q.2) && decide (t - q.2 < h.bt q.1)
def loadS (h : Hs) (S : List (Nat × Int)) (t : Int) : Int := ((S.filter (onB h t)).map fun q => h.hd q.1).sum
theorem onB_le (h : Hs) (t : Int) (p : Nat) (s : Int) : onB h t (p, s) = (decide (s ≤ t) && decide (t < s + h.bt p)) := by
  show (decide (0 ≤ t - s) && decide (t - s < h.bt p)) = _
  rw [show decide (0 ≤ t - s) = decide (s ≤ t) from decide_eq_decide.mpr ⟨fun h => by omega, fun h => by omega⟩, show decide (t - s < h.bt p) = decide (t < s + h.bt p) from decide_eq_decide.mpr ⟨fun h => by omega, fun h => by omega⟩]
theorem loadS_snoc (h : Hs) (S : List (Nat × Int)) (q : Nat × Int) (t : Int) : loadS h (S ++ [q]) t = if onB h t q = true then loadS h S t + h.hd q.1 else loadS h S t := by
  unfold loadS
  rw [List.filter_append]
  by_cases e : onB h t q = true
  · rw [if_pos e, List.filter_cons_of_pos e, List.filter_nil, List.map_append, List.sum_append]
    simp
  · rw [if_neg e, List.filter_cons_of_neg e, List.filter_nil, List.append_nil]
def waitB (h : Hs) (W : List (Nat × Nat)) (S : List (Nat × Int)) (q : Nat × Int) : Bool := match gN W q.1 with
  | none => true
  | some o => !decide (q.2 < (gS S o).getD 0 + h.bt o)
def comesB (h : Hs) (W : List (Nat × Nat)) (S : List (Nat × Int)) (n : Int) : Bool := S.all (waitB h W S) && S.all fun q => decide (loadS h S q.2 ≤ n)
structure StOk (h : Hs) (S : List (Nat × Int)) : Prop where
  len : S.length ≤ 60
  nd : (S.map (·.1)).Nodup
  lt : ∀ q ∈ S, q.1 < h.ps.length
/-! ### plans, walked -/
def w_beats_of (C : Addr) : FSp := fun ms cs R _ => match ms with
  | [.frz hv, .frz (.int i)] => ∃ (h : Hs) (n : Nat), hv = h.dv C ∧ i = n ∧ n < h.ps.length ∧ R (.frz (.int (h.bt n))) cs
  | _ => False
def w_hands_of (C : Addr) : FSp := fun ms cs R _ => match ms with
  | [.frz hv, .frz (.int i)] => ∃ (h : Hs) (n : Nat), hv = h.dv C ∧ i = n ∧ n < h.ps.length ∧ R (.frz (.int (h.hd n))) cs
  | _ => False
def w_numbers (C : Addr) : FSp := fun ms cs R _ => match ms with
  | [.frz hv] => ∃ (h : Hs), hv = h.dv C ∧ R (.frz h.size) cs
  | _ => False
def w_hands_at (C : Addr) : FSp := fun ms cs R _ => match ms with
  | [.frz hv, .frz d, .frz (.int t)] => ∃ (h : Hs) (S : List (Nat × Int)), hv = h.dv C ∧ d = .dct (dS S) ∧ StOk h S ∧ R (.frz (.int (loadS h S t))) cs
  | _ => False
def w_comes_out (C : Addr) : FSp := fun ms cs R _ => match ms with
  | [.frz hv, .frz e, .frz d, .frz (.int n)] => ∃ (h : Hs) (W : List (Nat × Nat)) (S : List (Nat × Int)), hv = h.dv C ∧ e = .dct (dNN W) ∧ d = .dct (dS S) ∧ StOk h S ∧ (∀ p o, gN W p = some o → p ∈ S.map (·.1) → o ∈ S.map (·.1)) ∧ R (.frz (.bl (comesB h W S n))) cs
  | _ => False
theorem beats_use {C : Addr} {h : Hs} {n : Nat} {cs : Cs} {R : Mv → Cs → Prop} {Z} (hn : n < h.ps.length) (q : R (.frz (.int (h.bt n))) cs) : w_beats_of C [.frz (h.dv C), .frz (.int (n : Nat))] cs R Z := ⟨h, n, rfl, rfl, hn, q⟩
theorem hands_use {C : Addr} {h : Hs} {n : Nat} {cs : Cs} {R : Mv → Cs → Prop} {Z} (hn : n < h.ps.length) (q : R (.frz (.int (h.hd n))) cs) : w_hands_of C [.frz (h.dv C), .frz (.int (n : Nat))] cs R Z := ⟨h, n, rfl, rfl, hn, q⟩
theorem Pc.at_bt (pc : Pc) : ∃ l : List Dv, pc.dv = .tup l ∧ atI (l.map Mv.frz) (-2) = some (.frz (.int pc.bt)) ∧ atI (l.map Mv.frz) (-1) = some (.frz (.int pc.hd)) := by
  cases pc with
  | cloth l b k => exact ⟨_, rfl, rfl, rfl⟩
  | truck b k => exact ⟨_, rfl, rfl, rfl⟩
section
variable {P : Program} {w : World} {K : PySem.W.Frag} {mg : Str → Option Value} {base : Heap}
theorem ok_beats_of {C f : Addr} {fd : FuncData} (F : FunZ K "beats_of" "House.beats_of" s_House_beats_of f fd) (hc : Cls K C) (n2 : NoAttr K C "stock") : FnOk P w K mg base CX0 1 f fd ["self", "piece"] (toSp (w_beats_of C)) := by
  refine def_ok F sc_House_beats_of (by intro ms cs R Z h; unfold w_beats_of at h; split at h; rfl; exact h.elim) fun cdv A outer s H E a ms cs R Zx hr hw => ?_
  have hu : (XZ P w K mg base n_House_beats_of "House.beats_of" s_House_beats_of f cdv A outer s H E).A.units + 1 < cLine := hu_of hr
  have hu64 : (XZ P w K mg base n_House_beats_of "House.beats_of" s_House_beats_of f cdv A outer s H E).A.units + 64 < cLine := by have := hr.un; show (A.deeper _).units + 64 < cLine; omega
  unfold w_beats_of at hw
  split at hw
  · obtain ⟨h, n, rfl, rfl, hn, q⟩ := hw
    have hp : h.ps[n]? = some h.ps[n] := List.getElem?_eq_getElem hn
    have hb : h.bt n = (h.ps[n]).bt := by unfold Hs.bt; rw [hp]; rfl
    rw [hb] at q
    generalize h.ps[n] = pc at hp q
    have hix : atI (h.stock.map Mv.frz) (n : Int) = some (.frz pc.dv) := atI_at (by rw [List.getElem?_map, Hs.stock, List.getElem?_map, hp]; rfl)
    obtain ⟨l, el, e1, _⟩ := pc.at_bt
    k_units
    refine ⟨_, IxM.seq SeqM.lst hix, ?_⟩
    rw [el]
    k_units
    exact ⟨_, IxM.seq SeqM.tup e1, q⟩
  · exact hw.elim
theorem ok_hands_of {C f : Addr} {fd : FuncData} (F : FunZ K "hands_of" "House.hands_of" s_House_hands_of f fd) (hc : Cls K C) (n2 : NoAttr K C "stock") : FnOk P w K mg base CX0 1 f fd ["self", "piece"] (toSp (w_hands_of C)) := by
  refine def_ok F sc_House_hands_of (by intro ms cs R Z h; unfold w_hands_of at h; split at h; rfl; exact h.elim) fun cdv A outer s H E a ms cs R Zx hr hw => ?_
  have hu : (XZ P w K mg base n_House_hands_of "House.hands_of" s_House_hands_of f cdv A outer s H E).A.units + 1 < cLine := hu_of hr
  have hu64 : (XZ P w K mg base n_House_hands_of "House.hands_of" s_House_hands_of f cdv A outer s H E).A.units + 64 < cLine := by have := hr.un; show (A.deeper _).units + 64 < cLine; omega
  unfold w_hands_of at hw
  split at hw
  · obtain ⟨h, n, rfl, rfl, hn, q⟩ := hw
    have hp : h.ps[n]? = some h.ps[n] := List.getElem?_eq_getElem hn
    have hb : h.hd n = (h.ps[n]).hd := by unfold Hs.hd; rw [hp]; rfl
    rw [hb] at q
    generalize h.ps[n] = pc at hp q
    have hix : atI (h.stock.map Mv.frz) (n : Int) = some (.frz pc.dv) := atI_at (by rw [List.getElem?_map, Hs.stock, List.getElem?_map, hp]; rfl)
    obtain ⟨l, el, _, e1⟩ := pc.at_bt
    k_units
    refine ⟨_, IxM.seq SeqM.lst hix, ?_⟩
    rw [el]
    k_units
    exact ⟨_, IxM.seq SeqM.tup e1, q⟩
  · exact hw.elim
theorem ok_numbers {C f : Addr} {fd : FuncData} (F : FunZ K "numbers" "House.numbers" s_House_numbers f fd) (hc : Cls K C) (n2 : NoAttr K C "size") : FnOk P w K mg base CX0 1 f fd ["self"] (toSp (w_numbers C)) := by
  refine def_ok F sc_House_numbers (by intro ms cs R Z h; unfold w_numbers at h; split at h; rfl; exact h.elim) fun cdv A outer s H E a ms cs R Zx hr hw => ?_
  unfold w_numbers at hw
  split at hw
  · obtain ⟨h, rfl, q⟩ := hw
    k_units
    exact q
  · exact hw.elim
end

section
local macro_rules | `(tactic| k_put) => `(tactic| ((with_reducible show IV _ _ (.Name _ _) (.Name _ _) _ _ _); refine iv_stop ?_))
variable {P : Program} {w : World} {K : PySem.W.Frag} {mg : Str → Option Value} {base : Heap}
theorem keys_dS (S : List (Nat × Int)) : (dS S).map (fun kv => ItM.one (kMv kv.1)) = S.map fun q => ItM.one (.frz (nI q.1)) := by
  unfold dS
  rw [List.map_map]; rfl
theorem ok_hands_at {C f : Addr} {fd : FuncData} (F : FunZ K "hands_at" "hands_at" s_hands_at f fd) (f1 : Mth P w K mg base C "hands_of" 1 (w_hands_of C)) (f2 : Mth P w K mg base C "beats_of" 1 (w_beats_of C)) (g1 : mg "sum" = none) : FnOk P w K mg base CX0 2 f fd ["house", "starts", "beat"] (toSp (w_hands_at C)) := by
  refine def_ok F sc_hands_at (by intro ms cs R Z h; unfold w_hands_at at h; split at h; rfl; exact h.elim) fun cdv A outer s H E a ms cs R Zx hr hw => ?_
  have nd := sc_hands_at.nd
  have sc := sc_hands_at
  have hu : (XZ P w K mg base n_hands_at "hands_at" s_hands_at f cdv A outer s H E).A.units + 1 < cLine := hu_of hr
  have hu64 : (XZ P w K mg base n_hands_at "hands_at" s_hands_at f cdv A outer s H E).A.units + 64 < cLine := by have := hr.un; show (A.deeper _).units + 64 < cLine; omega
  unfold w_hands_at at hw
  split at hw
  · obtain ⟨h, S, rfl, rfl, ok, q⟩ := hw
    rename_i t
    refine svs_wkE ?_
    k_units
    refine ⟨iv_keys ?_⟩
    k_units
    rename_i L hL
    rw [keys_dS]
    refine lcloop_fn S _ (onB h t) (fun q => .frz (.int (h.hd q.1))) (fun _ => trivial) (fun x hx acc hacc => ?_) ?_
    · have hg := gS_mem ok.nd hx
      have hlt := ok.lt x hx
      have hlen := ok.len
      obtain ⟨p, s0⟩ := x
      have hix : IxM ((L, Cell.lst acc) :: cs) (.frz (.dct (dS S))) (.frz (nI p)) (.frz (.int s0)) := IxM.dki (i := ((p : Nat) : Int)) (d := .int s0) (by rw [lookK_dS, hg]; rfl)
      refine ⟨_, rfl, ?_⟩
      k_units
      refine ⟨_, hix, ?_⟩
      k_units
      · rename_i k0
        have e2 : onB h t (p, s0) = decide (t - s0 < h.bt p) := by
          show (decide (0 ≤ t - s0) && _) = _
          rw [k0, Bool.true_and]
        refine beats_use hlt ?_
        rw [e2]
        k_units
        exact hands_use hlt ⟨_, rfl, by omega, acc_yes (by assumption), rfl⟩
      · rename_i k0 _
        exact acc_no (show (decide (0 ≤ t - s0) && _) = false by rw [k0, Bool.false_and])
    · have e1 : (S.filter (onB h t)).map (fun q => Mv.frz (Dv.int (h.hd q.1))) = ((S.filter (onB h t)).map fun q => h.hd q.1).map fun b => Mv.frz (Dv.int b) := by
        rw [List.map_map]; rfl
      rw [e1]
      exact ⟨_, .cel List.mem_cons_self, cs, Wk.sub (List.sublist_cons_self _ _), q⟩
  · exact hw.elim
theorem all_take {α : Type} {l : List α} {f : α → Bool} {i : Nat} {x : α} (h : ∀ q ∈ l.take i, f q = true) (hx : l[i]? = some x) (hf : f x = true) : ∀ q ∈ l.take (i + 1), f q = true := fun q hq => by
  rw [take_snoc hx] at hq
  rcases List.mem_append.mp hq with m | m
  · exact h q m
  · rw [List.mem_singleton.mp m]; exact hf
theorem ok_comes_out {C f : Addr} {fd : FuncData} (F : FunZ K "comes_out" "comes_out" s_comes_out f fd) (f1 : Mth P w K mg base C "beats_of" 1 (w_beats_of C)) (f2 : Fn P w K mg base "hands_at" 2 (w_hands_at C)) (g1 : mg "all" = none) : FnOk P w K mg base CX0 3 f fd ["house", "awaited", "starts", "hands"] (toSp (w_comes_out C)) := by
  refine def_ok F sc_comes_out (by intro ms cs R Z h; unfold w_comes_out at h; split at h; rfl; exact h.elim) fun cdv A outer s H E a ms cs R Zx hr hw => ?_
  have nd := sc_comes_out.nd
  have sc := sc_comes_out
  have hu : (XZ P w K mg base n_comes_out "comes_out" s_comes_out f cdv A outer s H E).A.units + 1 < cLine := hu_of hr
  have hu64 : (XZ P w K mg base n_comes_out "comes_out" s_comes_out f cdv A outer s H E).A.units + 64 < cLine := by have := hr.un; show (A.deeper _).units + 64 < cLine; omega
  unfold w_comes_out at hw
  split at hw
  · rename_i hv e d n
    obtain ⟨h, W, S, rfl, rfl, rfl, ok, hWS, q⟩ := hw
    refine svs_wkE ?_
    k_units
    refine ⟨iv_keys ?_⟩
    k_units
    rw [keys_dS]
    refine ⟨fun i ρ' c' => ∃ v4 v5 : Option Mv, ρ' = [some (.frz (h.dv C)), some (.frz (.dct (dNN W))), some (.frz (.dct (dS S))), some (.frz (.int n)), v4, v5] ∧ c' = cs ∧ Kp (∀ q ∈ S.take i, waitB h W S q = true), ⟨_, _, rfl, rfl, Kp.i (by simp)⟩, fun _ _ _ _ _ => trivial, ?_, ?_⟩
    · rintro i it ρ' c' hi ⟨v4, v5, rfl, rfl, hall⟩
      rw [List.getElem?_map] at hi
      obtain ⟨⟨p, s0⟩, hx, rfl⟩ := Option.map_eq_some_iff.mp hi
      have hmem := List.mem_of_getElem? hx
      replace hall := hall.o
      have hg := gS_mem ok.nd hmem
      have hix : IxM c' (.frz (.dct (dS S))) (.frz (nI p)) (.frz (.int s0)) := IxM.dki (i := ((p : Nat) : Int)) (d := .int s0) (by rw [lookK_dS, hg]; rfl)
      refine ⟨_, rfl, ?_⟩
      k_units
      refine ⟨_, InM.dki (i := ((p : Nat) : Int)), ?_⟩
      rw [lookK_dNN]
      cases hgw : gN W p with
      | none =>
        have hwb : waitB h W S (p, s0) = true := by
          unfold waitB
          rw [hgw]
        k_units
        exact Kp.i (all_take hall hx hwb)
      | some o =>
        have hos := hWS p o hgw (List.mem_map.mpr ⟨_, hmem, rfl⟩)
        obtain ⟨so, hso⟩ := gS_some hos
        obtain ⟨⟨o', so'⟩, hom, eo⟩ := List.mem_map.mp hos
        have hol : o < h.ps.length := by rw [← eo]; exact ok.lt _ hom
        have hwb : waitB h W S (p, s0) = !decide (s0 < so + h.bt o) := by
          unfold waitB
          rw [hgw]
          show (!decide (s0 < (gS S o).getD 0 + h.bt o)) = _
          rw [hso]; rfl
        have hox : IxM c' (.frz (.dct (dS S))) (.frz (nI o)) (.frz (.int so)) := IxM.dki (i := ((o : Nat) : Int)) (d := .int so) (by rw [lookK_dS, hso]; rfl)
        k_units
        refine ⟨_, IxM.dki (i := ((p : Nat) : Int)) (d := nI o) (by rw [lookK_dNN, hgw]; rfl), ?_⟩
        k_units
        refine ⟨_, hix, ?_⟩
        k_units
        refine ⟨_, hox, ?_⟩
        k_units
        refine beats_use hol ?_
        k_units
        · rename_i k0
          have hf : comesB h W S n = false := by
            have hw2 : waitB h W S (p, s0) = false := by rw [hwb, show decide (s0 < so + h.bt o) = true from k0]; rfl
            have : S.all (waitB h W S) = false := by
              cases e : S.all (waitB h W S) with
              | false => rfl
              | true => rw [List.all_eq_true.mp e _ hmem] at hw2; cases hw2
            unfold comesB
            rw [this]; rfl
          rw [hf] at q
          exact ⟨c', Wk.refl, q⟩
        · rename_i k0
          exact Kp.i (all_take hall hx (by rw [hwb, show decide (s0 < so + h.bt o) = false from k0]; rfl))
    · rintro ρ' c' ⟨v4, v5, rfl, rfl, hall⟩
      replace hall := hall.o
      rw [List.length_map, List.take_length] at hall
      k_units
      refine ⟨iv_keys ?_⟩
      k_units
      rename_i L hL
      rw [keys_dS]
      refine lcloop_fn S _ (fun _ => true) (fun q => .frz (.bl (decide (loadS h S q.2 ≤ n)))) (fun _ => trivial) (fun x hx acc hacc => ?_) ?_
      · have hg := gS_mem ok.nd hx
        have hlen := ok.len
        obtain ⟨p, s0⟩ := x
        have hix : IxM ((L, Cell.lst acc) :: c') (.frz (.dct (dS S))) (.frz (nI p)) (.frz (.int s0)) := IxM.dki (i := ((p : Nat) : Int)) (d := .int s0) (by rw [lookK_dS, hg]; rfl)
        refine ⟨_, rfl, ?_⟩
        k_units
        refine ⟨_, hix, ?_⟩
        k_units
        refine ⟨h, S, rfl, rfl, ok, ?_⟩
        k_units
        all_goals skip
      · have e1 : (S.filter fun _ => true).map (fun q => Mv.frz (Dv.bl (decide (loadS h S q.2 ≤ n)))) = (S.map fun q => decide (loadS h S q.2 ≤ n)).map fun b => Mv.frz (Dv.bl b) := by
          rw [filter_all, List.map_map]; rfl
        rw [e1]
        refine ⟨_, .cel List.mem_cons_self, c', Wk.sub (List.sublist_cons_self _ _), ?_⟩
        have e2 : comesB h W S n = (S.map fun q => decide (loadS h S q.2 ≤ n)).all id := by
          unfold comesB
          rw [List.all_eq_true.mpr hall, Bool.true_and, List.all_map]; rfl
        rw [← e2]
        exact q
  · exact hw.elim
end

/-! ### what is told: a tuple of a tuple (piece, start) for each piece -/
def rowOk (r : Dv) (p : Nat) (m : Int) : Bool := match r with
  | .tup [a, b] => isNum a p p && isNum b 0 m
  | .ptp [a, b] => isNum a p p && isNum b 0 m
  | _ => false
def rowsOk : List Dv → List Nat → Int → Bool
  | [], [], _ => true
  | r :: rs, p :: ps, m => rowOk r p m && rowsOk rs ps m
  | _, _, _ => false
def toldB (d : Dv) (ps : List Nat) (m : Int) : Bool := match d with
  | .tup ds => rowsOk ds ps m
  | .ptp ds => rowsOk ds ps m
  | _ => false
def rowN (r : Dv) : Prop := r.noI ∧ ∀ l, (r = .tup l ∨ r = .ptp l) → ∀ x ∈ l, x.noI
def thingN (d : Dv) : Prop := d.noI ∧ ∀ l, (d = .tup l ∨ d = .ptp l) → l.length ≤ 60 ∧ ∀ r ∈ l, rowN r
theorem rowsOk_len : ∀ {ds : List Dv} {ps : List Nat} {m : Int}, rowsOk ds ps m = true → ds.length = ps.length
  | [], [], _, _ => rfl
  | r :: rs, p :: ps, m, h => by
    have h' : (rowOk r p m && rowsOk rs ps m) = true := h
    rw [Bool.and_eq_true] at h'
    rw [List.length_cons, List.length_cons, rowsOk_len h'.2]
  | [], p :: ps, m, h => by cases h
  | r :: rs, [], m, h => by cases h
theorem rowsOk_at : ∀ {ds : List Dv} {ps : List Nat} {m : Int}, ds.length = ps.length → ((∀ (i : Nat) (r : Dv) (p : Nat), ds[i]? = some r → ps[i]? = some p → rowOk r p m = true) ↔ rowsOk ds ps m = true)
  | [], [], m, _ => ⟨fun _ => rfl, fun _ i r p h => by simp at h⟩
  | r :: rs, p :: ps, m, hl => by
    have ih := rowsOk_at (ds := rs) (ps := ps) (m := m) (by simpa using hl)
    show _ ↔ (rowOk r p m && rowsOk rs ps m) = true
    rw [Bool.and_eq_true, ← ih]
    refine ⟨fun h => ⟨h 0 r p rfl rfl, fun i r' p' h1 h2 => h (i + 1) r' p' (by simpa using h1) (by simpa using h2)⟩, fun ⟨h1, h2⟩ i r' p' e1 e2 => ?_⟩
    cases i with
    | zero =>
      simp only [List.getElem?_cons_zero, Option.some.injEq] at e1 e2
      rw [← e1, ← e2]; exact h1
    | succ i => exact h2 i r' p' (by simpa using e1) (by simpa using e2)
  | [], p :: ps, m, hl => by simp at hl
  | r :: rs, [], m, hl => by simp at hl
/-- a row: what it is -/
inductive RowK : Dv → Prop
  | two (a b : Dv) : RowK (.tup [a, b])
  | twoP (a b : Dv) : RowK (.ptp [a, b])
  | tup (l : List Dv) : l.length ≠ 2 → RowK (.tup l)
  | ptp (l : List Dv) : l.length ≠ 2 → RowK (.ptp l)
  | no (d : Dv) : d.isTup = false → RowK d
theorem rowK (r : Dv) : RowK r := by
  cases r with
  | tup l =>
    by_cases h : l.length = 2
    · match l, h with
      | [a, b], _ => exact .two a b
    · exact .tup l h
  | ptp l =>
    by_cases h : l.length = 2
    · match l, h with
      | [a, b], _ => exact .twoP a b
    · exact .ptp l h
  | _ => exact .no _ rfl
theorem rowOk_len {l : List Dv} {p : Nat} {m : Int} (h : l.length ≠ 2) : rowOk (.tup l) p m = false ∧ rowOk (.ptp l) p m = false := by
  match l, h with
  | [], _ => exact ⟨rfl, rfl⟩
  | [_], _ => exact ⟨rfl, rfl⟩
  | [_, _], h => exact (h rfl).elim
  | _ :: _ :: _ :: _, _ => exact ⟨rfl, rfl⟩
theorem rowOk_no {d : Dv} {p : Nat} {m : Int} (h : d.isTup = false) : rowOk d p m = false := by
  cases d <;> first | rfl | cases h
/-! ### plans, whole -/
def rowD (q : Nat × Int) : Dv := .tup [nI q.1, .int q.2]
def rowSt : Dv → Nat × Int
  | .tup [.int a, .int b] => (a.toNat, b)
  | .ptp [.int a, .int b] => (a.toNat, b)
  | _ => (0, 0)
def stOf : Dv → List (Nat × Int)
  | .ptp ds => ds.map rowSt
  | .tup ds => ds.map rowSt
  | _ => []
/-- rows by their starts -/
inductive RowsN : List Dv → List (Nat × Int) → Prop
  | nil : RowsN [] []
  | tup {k : Nat} {v : Int} {ds : List Dv} {S : List (Nat × Int)} : RowsN ds S → RowsN (.tup [nI k, .int v] :: ds) ((k, v) :: S)
  | ptp {k : Nat} {v : Int} {ds : List Dv} {S : List (Nat × Int)} : RowsN ds S → RowsN (.ptp [nI k, .int v] :: ds) ((k, v) :: S)
theorem RowsN.st {ds : List Dv} {S : List (Nat × Int)} (h : RowsN ds S) : ds.map rowSt = S := by
  induction h with
  | nil => rfl
  | @tup k v ds S _ ih => rw [List.map_cons, ih]; show ((k : Int).toNat, v) :: S = _; rw [Int.toNat_natCast]
  | @ptp k v ds S _ ih => rw [List.map_cons, ih]; show ((k : Int).toNat, v) :: S = _; rw [Int.toNat_natCast]
theorem RowsN.len {ds : List Dv} {S : List (Nat × Int)} (h : RowsN ds S) : ds.length = S.length := by rw [← h.st, List.length_map]
theorem RowsN.rows {ds : List Dv} {S : List (Nat × Int)} (h : RowsN ds S) : RowsI ds (S.map fun q => ((q.1 : Int), q.2)) := by
  induction h with
  | nil => exact .nil
  | tup _ ih => exact .tup ih
  | ptp _ ih => exact .ptp ih
theorem RowsN.rowD : ∀ S : List (Nat × Int), RowsN (S.map rowD) S
  | [] => .nil
  | q :: S => .tup (RowsN.rowD S)
theorem stOf_rows (S : List (Nat × Int)) : stOf (.ptp (S.map rowD)) = S := (RowsN.rowD S).st
theorem rowOk_num {r : Dv} {p : Nat} {m : Int} (h : rowOk r p m = true) : ∃ b, (r = .tup [nI p, .int b] ∨ r = .ptp [nI p, .int b]) ∧ 0 ≤ b ∧ b ≤ m := by
  have key : ∀ x y, (isNum x p p && isNum y 0 m) = true → ∃ b, x = nI p ∧ y = .int b ∧ 0 ≤ b ∧ b ≤ m := fun x y h => by
    rw [Bool.and_eq_true] at h
    cases x with
    | int a =>
      cases y with
      | int b =>
        have h1 : (decide ((p : Int) ≤ a) && decide (a ≤ (p : Int))) = true := h.1
        have h2 : (decide (0 ≤ b) && decide (b ≤ m)) = true := h.2
        simp only [Bool.and_eq_true, decide_eq_true_eq] at h1 h2
        exact ⟨b, by rw [show a = (p : Int) by omega], rfl, h2⟩
      | _ => exact (by simp [isNum] at h)
    | _ => exact (by simp [isNum] at h)
  unfold rowOk at h
  split at h
  · obtain ⟨b, rfl, rfl, h1, h2⟩ := key _ _ h
    exact ⟨b, .inl rfl, h1, h2⟩
  · obtain ⟨b, rfl, rfl, h1, h2⟩ := key _ _ h
    exact ⟨b, .inr rfl, h1, h2⟩
  · cases h
theorem rowsOk_told : ∀ {ds : List Dv} {ps : List Nat} {m : Int}, rowsOk ds ps m = true → RowsN ds (ds.map rowSt) ∧ (ds.map rowSt).map (·.1) = ps ∧ ∀ q ∈ ds.map rowSt, 0 ≤ q.2 ∧ q.2 ≤ m
  | [], [], m, _ => ⟨.nil, rfl, fun q h => by cases h⟩
  | r :: ds, p :: ps, m, h => by
    have h' : (rowOk r p m && rowsOk ds ps m) = true := h
    rw [Bool.and_eq_true] at h'
    obtain ⟨e0, e1, e2⟩ := rowsOk_told h'.2
    obtain ⟨b, hr, hb⟩ := rowOk_num h'.1
    have es : rowSt r = (p, b) := by
      rcases hr with rfl | rfl <;> (show ((p : Int).toNat, b) = _; rw [Int.toNat_natCast])
    refine ⟨?_, by rw [List.map_cons, List.map_cons, e1, es], fun q hq => ?_⟩
    · rw [List.map_cons, es]
      rcases hr with rfl | rfl
      · exact .tup e0
      · exact .ptp e0
    · rcases List.mem_cons.mp hq with rfl | hq
      · rw [es]; exact hb
      · exact e2 q hq
  | [], p :: ps, m, h => by cases h
  | r :: S, [], m, h => by cases h
def holdsB (h : Hs) (xs ys : List (Option Int)) (t : Int) (d : Dv) : Bool := toldB d (movP xs ys) t && (((stOf d).all fun q => decide (q.2 + h.bt q.1 ≤ t)) && comesB h (waP xs ys) (stOf d) h.N)
theorem told_st {S : List (Nat × Int)} {ps : List Nat} {m : Int} (h : rowsOk (S.map rowD) ps m = true) : S.map (·.1) = ps ∧ ∀ q ∈ S, 0 ≤ q.2 ∧ q.2 ≤ m := by
  have z := (rowsOk_told h).2
  rw [(RowsN.rowD S).st] at z
  exact z
/-- thing is one of the kinds that may be looked at -/
def seenT (t : Int) (d : Dv) : Prop := thingN d ∧ ∀ ps, toldB d ps t = true → ∃ ds, d = .ptp ds
theorem waP_dom {xs ys : List (Option Int)} {S : List (Nat × Int)} (hS : S.map (·.1) = movP xs ys) : ∀ p o, gN (waP xs ys) p = some o → p ∈ S.map (·.1) → o ∈ S.map (·.1) := fun p o h _ => by
  rw [hS]
  exact (waP_mem (gN_mem h)).2.1
theorem rowN_two {r : Dv} {x y : Dv} (hr : r = .tup [x, y] ∨ r = .ptp [x, y]) (hx : x.noI) (hy : y.noI) : rowN r := by
  refine ⟨by rcases hr with rfl | rfl <;> exact (fun h => nomatch h), fun l hl z hz => ?_⟩
  have e : l = [x, y] := by
    rcases hr with rfl | rfl <;> rcases hl with e | e <;> cases e <;> rfl
  subst e
  simp only [List.mem_cons, List.not_mem_nil, or_false] at hz
  rcases hz with rfl | rfl
  · exact hx
  · exact hy
theorem thingN_ptp {ds : List Dv} (hl : ds.length ≤ 60) (hr : ∀ r ∈ ds, rowN r) : thingN (.ptp ds) := by
  refine ⟨(fun h => nomatch h), fun l hl' => ?_⟩
  have e : l = ds := by
    rcases hl' with z | z
    · cases z
    · cases z; rfl
  subst e
  exact ⟨hl, hr⟩
theorem seenT_ptp {ds : List Dv} {t : Int} (hl : ds.length ≤ 60) (hr : ∀ r ∈ ds, rowN r) : seenT t (.ptp ds) := ⟨thingN_ptp hl hr, fun _ _ => ⟨ds, rfl⟩⟩
theorem RowsN.rowN {ds : List Dv} {S : List (Nat × Int)} (h : RowsN ds S) : ∀ r ∈ ds, rowN r := by
  induction h with
  | nil => intro r hr; cases hr
  | tup _ ih =>
    intro r hr
    rcases List.mem_cons.mp hr with rfl | hr
    · exact rowN_two (.inl rfl) (fun h => nomatch h) (fun h => nomatch h)
    · exact ih r hr
  | ptp _ ih =>
    intro r hr
    rcases List.mem_cons.mp hr with rfl | hr
    · exact rowN_two (.inr rfl) (fun h => nomatch h) (fun h => nomatch h)
    · exact ih r hr
theorem seenT_rows {T : List (Nat × Int)} {t : Int} (hl : T.length ≤ 60) : seenT t (.ptp (T.map rowD)) := seenT_ptp (by rw [List.length_map]; exact hl) (RowsN.rowD T).rowN

/-! ### plans as functions; placing one behind the other -/
theorem hd_nn {h : Hs} (ho : h.ok) (p : Nat) : 0 ≤ h.hd p := by
  unfold Hs.hd
  cases e : h.ps[p]? with
  | none => exact Int.le_refl _
  | some pc =>
    have := Pc.ok_hd (ho.pcs pc (List.mem_of_getElem? e))
    show (0 : Int) ≤ pc.hd
    omega
theorem bt_nn {h : Hs} (ho : h.ok) (p : Nat) : 0 ≤ h.bt p ∧ h.bt p ≤ 4 := by
  unfold Hs.bt
  cases e : h.ps[p]? with
  | none => exact ⟨Int.le_refl _, by decide⟩
  | some pc =>
    have := Pc.ok_bt (ho.pcs pc (List.mem_of_getElem? e))
    show (0 : Int) ≤ pc.bt ∧ pc.bt ≤ 4
    omega
theorem loadS_nil (h : Hs) (t : Int) : loadS h [] t = 0 := rfl
theorem loadS_cons (h : Hs) (q : Nat × Int) (S : List (Nat × Int)) (t : Int) : loadS h (q :: S) t = (if onB h t q = true then h.hd q.1 else 0) + loadS h S t := by
  unfold loadS
  by_cases e : onB h t q = true
  · rw [List.filter_cons_of_pos e, List.map_cons, List.sum_cons, if_pos e]
  · rw [List.filter_cons_of_neg e, if_neg e]; omega
theorem loadS_app (h : Hs) (S T : List (Nat × Int)) (t : Int) : loadS h (S ++ T) t = loadS h S t + loadS h T t := by
  induction S with
  | nil => rw [List.nil_append, loadS_nil]; omega
  | cons q S ih => rw [List.cons_append, loadS_cons, loadS_cons, ih]; omega
theorem loadS_perm {h : Hs} {S T : List (Nat × Int)} (hp : S.Perm T) (t : Int) : loadS h S t = loadS h T t := by
  induction hp with
  | nil => rfl
  | cons x _ ih => rw [loadS_cons, loadS_cons, ih]
  | swap x y l => rw [loadS_cons, loadS_cons, loadS_cons, loadS_cons]; omega
  | trans _ _ ih1 ih2 => rw [ih1, ih2]
theorem loadS_nn {h : Hs} (ho : h.ok) (S : List (Nat × Int)) (t : Int) : 0 ≤ loadS h S t := by
  induction S with
  | nil => rw [loadS_nil]; exact Int.le_refl _
  | cons q S ih =>
    rw [loadS_cons]
    have := hd_nn ho q.1
    split <;> omega
theorem onB_iff {h : Hs} {t : Int} {q : Nat × Int} : onB h t q = true ↔ q.2 ≤ t ∧ t < q.2 + h.bt q.1 := by
  unfold onB
  rw [Bool.and_eq_true, decide_eq_true_eq, decide_eq_true_eq]
  omega
theorem loadS_mono {h : Hs} (ho : h.ok) {S : List (Nat × Int)} {t t' : Int} (hm : ∀ q ∈ S, onB h t q = true → onB h t' q = true) : loadS h S t ≤ loadS h S t' := by
  induction S with
  | nil => exact Int.le_refl _
  | cons q S ih =>
    rw [loadS_cons, loadS_cons]
    have h1 := ih fun x hx => hm x (List.mem_cons_of_mem _ hx)
    have h2 := hm q List.mem_cons_self
    have h3 := hd_nn ho q.1
    by_cases e : onB h t q = true
    · rw [if_pos e, if_pos (h2 e)]; omega
    · rw [if_neg e]
      split <;> omega
/-- starts told by a function -/
def mvS (ks : List Nat) (f : Nat → Int) : List (Nat × Int) := ks.map fun p => (p, f p)
theorem mvS_keys (ks : List Nat) (f : Nat → Int) : (mvS ks f).map (·.1) = ks := by
  unfold mvS
  rw [List.map_map]
  exact (List.map_congr_left fun q _ => rfl).trans (List.map_id ks)
theorem loadS_le_fun {h : Hs} (ho : h.ok) {S : List (Nat × Int)} {f : Nat → Int} {t : Int} (hm : ∀ q ∈ S, onB h t q = true → onB h t (q.1, f q.1) = true) : loadS h S t ≤ loadS h (mvS (S.map (·.1)) f) t := by
  induction S with
  | nil => exact Int.le_refl _
  | cons q S ih =>
    show loadS h (q :: S) t ≤ loadS h ((q.1, f q.1) :: mvS (S.map (·.1)) f) t
    rw [loadS_cons, loadS_cons]
    have h1 := ih fun x hx => hm x (List.mem_cons_of_mem _ hx)
    have h2 := hm q List.mem_cons_self
    have h3 := hd_nn ho q.1
    by_cases e : onB h t q = true
    · rw [if_pos e, if_pos (h2 e)]
      show h.hd q.1 + _ ≤ h.hd q.1 + _
      omega
    · rw [if_neg e]
      split
      · show 0 + _ ≤ h.hd q.1 + _
        omega
      · omega
/-- the last start among some -/
theorem last_start : ∀ (S : List (Nat × Int)), S ≠ [] → ∃ q ∈ S, ∀ r ∈ S, r.2 ≤ q.2
  | [], h => (h rfl).elim
  | [q], _ => ⟨q, List.mem_cons_self, fun r hr => by rw [List.mem_singleton.mp hr]; exact Int.le_refl _⟩
  | q :: x :: S, _ => by
    obtain ⟨m, hm, hle⟩ := last_start (x :: S) (by simp)
    by_cases e : m.2 ≤ q.2
    · exact ⟨q, List.mem_cons_self, fun r hr => by
        rcases List.mem_cons.mp hr with rfl | hr
        · exact Int.le_refl _
        · have := hle r hr; omega⟩
    · exact ⟨m, List.mem_cons_of_mem _ hm, fun r hr => by
        rcases List.mem_cons.mp hr with rfl | hr
        · omega
        · exact hle r hr⟩
theorem loadS_filter (h : Hs) (S : List (Nat × Int)) (t : Int) : loadS h (S.filter (onB h t)) t = loadS h S t := by
  unfold loadS
  rw [List.filter_filter]
  congr 3
  funext q
  exact Bool.and_self _
theorem load_starts {h : Hs} (ho : h.ok) {S : List (Nat × Int)} {n : Int} (hn : 0 ≤ n) (hs : ∀ q ∈ S, loadS h S q.2 ≤ n) (t : Int) : loadS h S t ≤ n := by
  by_cases e : S.filter (onB h t) = []
  · rw [← loadS_filter, e]; exact hn
  · obtain ⟨q, hq, hle⟩ := last_start _ e
    obtain ⟨hq1, hq2⟩ := List.mem_filter.mp hq
    refine Int.le_trans (loadS_mono ho fun r hr hon => ?_) (hs q hq1)
    have h1 := hle r (List.mem_filter.mpr ⟨hr, hon⟩)
    have h2 := onB_iff.mp hon
    have h3 := onB_iff.mp hq2
    exact onB_iff.mpr ⟨h1, by omega⟩
/-- a plan as a function -/
structure PlanF (h : Hs) (W : List (Nat × Nat)) (n : Int) (mv : List Nat) (f : Nat → Int) : Prop where
  wt : ∀ p ∈ mv, ∀ o, gN W p = some o → f o + h.bt o ≤ f p
  ld : ∀ t, loadS h (mvS mv f) t ≤ n
/-- starts that are all right so far -/
structure Okay (h : Hs) (W : List (Nat × Nat)) (n : Int) (S : List (Nat × Int)) : Prop where
  nd : (S.map (·.1)).Nodup
  wt : ∀ q ∈ S, ∀ o, gN W q.1 = some o → ∃ so, (o, so) ∈ S ∧ so + h.bt o ≤ q.2
  ld : ∀ t, loadS h S t ≤ n
theorem Okay.waitB {h : Hs} {W : List (Nat × Nat)} {n : Int} {S : List (Nat × Int)} (k : Okay h W n S) : comesB h W S n = true := by
  unfold comesB
  rw [Bool.and_eq_true, List.all_eq_true, List.all_eq_true]
  refine ⟨fun q hq => ?_, fun q _ => decide_eq_true (k.ld q.2)⟩
  unfold Z.waitB
  cases e : gN W q.1 with
  | none => rfl
  | some o =>
    obtain ⟨so, h1, h2⟩ := k.wt q hq o e
    show (!decide (q.2 < (gS S o).getD 0 + h.bt o)) = true
    rw [gS_mem k.nd h1]
    show (!decide (q.2 < so + h.bt o)) = true
    rw [decide_eq_false (by omega)]; rfl
theorem Okay.of {h : Hs} (ho : h.ok) {W : List (Nat × Nat)} {n : Int} (hn : 0 ≤ n) {S : List (Nat × Int)} (nd : (S.map (·.1)).Nodup) (hd : ∀ p o, gN W p = some o → p ∈ S.map (·.1) → o ∈ S.map (·.1)) (hc : comesB h W S n = true) : Okay h W n S := by
  unfold comesB at hc
  rw [Bool.and_eq_true, List.all_eq_true, List.all_eq_true] at hc
  refine ⟨nd, fun q hq o e => ?_, load_starts ho hn fun q hq => of_decide_eq_true (hc.2 q hq)⟩
  obtain ⟨⟨o', so⟩, hom, eo⟩ := List.mem_map.mp (hd q.1 o e (List.mem_map.mpr ⟨q, hq, rfl⟩))
  have eo' : o' = o := eo
  subst eo'
  have z := hc.1 q hq
  unfold Z.waitB at z
  rw [e] at z
  have z' : (!decide (q.2 < (gS S o').getD 0 + h.bt o')) = true := z
  rw [gS_mem (q := (o', so)) nd hom] at z'
  have z2 : (!decide (q.2 < so + h.bt o')) = true := z'
  exact ⟨so, hom, by
    have := of_decide_eq_false (by simpa using z2 : decide (q.2 < so + h.bt o') = false)
    omega⟩
/-- when all have ended -/
def endS (h : Hs) : List (Nat × Int) → Int
  | [] => 0
  | q :: S => max (q.2 + h.bt q.1) (endS h S)
theorem endS_le {h : Hs} {S : List (Nat × Int)} {e : Int} : endS h S ≤ e ↔ 0 ≤ e ∧ ∀ q ∈ S, q.2 + h.bt q.1 ≤ e := by
  induction S with
  | nil => exact ⟨fun h => ⟨h, fun q hq => by cases hq⟩, fun h => h.1⟩
  | cons q S ih =>
    show max (q.2 + h.bt q.1) (endS h S) ≤ e ↔ _
    rw [Int.max_le, ih]
    refine ⟨fun ⟨a, b, c⟩ => ⟨b, fun r hr => ?_⟩, fun ⟨a, b⟩ => ⟨b q List.mem_cons_self, a, fun r hr => b r (List.mem_cons_of_mem _ hr)⟩⟩
    rcases List.mem_cons.mp hr with rfl | hr
    · exact a
    · exact c r hr
theorem endS_nn (h : Hs) (S : List (Nat × Int)) : 0 ≤ endS h S := (endS_le.mp (Int.le_refl _)).1
theorem endS_eq {h : Hs} {S : List (Nat × Int)} {m : Int} (h0 : 0 ≤ m) (h1 : ∀ q ∈ S, q.2 + h.bt q.1 ≤ m) (h2 : m = 0 ∨ ∃ q ∈ S, m = q.2 + h.bt q.1) : m = endS h S := by
  have a : endS h S ≤ m := endS_le.mpr ⟨h0, h1⟩
  obtain ⟨b, c⟩ := endS_le.mp (Int.le_refl (endS h S))
  rcases h2 with rfl | ⟨q, hq, rfl⟩
  · omega
  · have := c q hq; omega
theorem endS_perm {h : Hs} {S T : List (Nat × Int)} (hp : S.Perm T) : endS h S = endS h T := by
  have key : ∀ {S T : List (Nat × Int)}, S.Perm T → endS h S ≤ endS h T := fun hp => by
    obtain ⟨b, c⟩ := endS_le.mp (Int.le_refl (endS h _))
    exact endS_le.mpr ⟨b, fun q hq => c q (hp.mem_iff.mp hq)⟩
  have := key hp
  have := key hp.symm
  omega
/-- whether a move can begin then -/
def fitsB (h : Hs) (S : List (Nat × Int)) (p : Nat) (s n : Int) : Bool := (List.range (h.bt p).toNat).all fun (i : Nat) => decide (loadS h S (s + i) + h.hd p ≤ n)
theorem fitsB_iff {h : Hs} {S : List (Nat × Int)} {p : Nat} {s n : Int} : fitsB h S p s n = true ↔ ∀ t, s ≤ t → t < s + h.bt p → loadS h S t + h.hd p ≤ n := by
  unfold fitsB
  rw [List.all_eq_true]
  refine ⟨fun hf t h1 h2 => ?_, fun hf i hi => decide_eq_true (hf _ (by omega) (by have := List.mem_range.mp hi; omega))⟩
  have z := of_decide_eq_true (hf (t - s).toNat (List.mem_range.mpr (by omega)))
  rw [show s + ((t - s).toNat : Int) = t by omega] at z
  exact z
theorem load_late {h : Hs} {S : List (Nat × Int)} {t : Int} (ht : endS h S ≤ t) : loadS h S t = 0 := by
  obtain ⟨_, c⟩ := endS_le.mp (Int.le_refl (endS h S))
  have e : S.filter (onB h t) = [] := List.filter_eq_nil_iff.mpr fun q hq hon => by
    have h1 := onB_iff.mp hon
    have h2 := c q hq
    omega
  rw [← loadS_filter, e]; rfl
theorem fits_late {h : Hs} {S : List (Nat × Int)} {p : Nat} {s n : Int} (hs : endS h S ≤ s) (hp : h.hd p ≤ n) : fitsB h S p s n = true := fitsB_iff.mpr fun t h1 _ => by
  rw [load_late (by omega)]; omega

/-! ### the search, plainly -/
/-- what a candidate must keep -/
structure Cand (h : Hs) (W : List (Nat × Nat)) (n beat : Int) (mv : List Nat) (S : List (Nat × Int)) (rest : List Nat) (f : Nat → Int) : Prop where
  pl : PlanF h W n mv f
  le : ∀ q ∈ S, q.2 ≤ f q.1
  or : ∀ q ∈ S, ∀ r ∈ rest, f q.1 ≤ f r
  bt : ∀ r ∈ rest, beat ≤ f r
/-- the state of a search: what is put in, what is left -/
structure SrchI (h : Hs) (W : List (Nat × Nat)) (n beat : Int) (mv : List Nat) (B0 S : List (Nat × Int)) (rest : List Nat) : Prop where
  ok : Okay h W n S
  pm : (S.map (·.1) ++ rest).Perm mv
  nd : mv.Nodup
  lt : ∀ p ∈ mv, p < h.ps.length
  hds : ∀ p ∈ rest, h.hd p ≤ n
  dom : ∀ p o, gN W p = some o → o ∈ mv
  b0 : ∀ q ∈ B0, q ∈ S
  late : ∀ q ∈ S, q ∈ B0 ∨ (beat ≤ q.2 ∧ q.1 ∉ B0.map (·.1))
  b0r : ∀ p ∈ rest, p ∉ B0.map (·.1)
  len : mv.length ≤ 8
/-- a whole plan that goes on -/
structure FullP (h : Hs) (W : List (Nat × Nat)) (n beat : Int) (mv : List Nat) (B0 S : List (Nat × Int)) : Prop where
  ok : Okay h W n S
  pm : (S.map (·.1)).Perm mv
  b0 : ∀ q ∈ B0, q ∈ S
  late : ∀ q ∈ S, q ∈ B0 ∨ (beat ≤ q.2 ∧ q.1 ∉ B0.map (·.1))
def leBst (h : Hs) (b b' : Option (List (Nat × Int))) : Prop := ∀ B, b = some B → ∃ B', b' = some B' ∧ endS h B' ≤ endS h B
theorem leBst.refl {h : Hs} {b : Option (List (Nat × Int))} : leBst h b b := fun B e => ⟨B, e, Int.le_refl _⟩
theorem leBst.trans {h : Hs} {a b c : Option (List (Nat × Int))} (x : leBst h a b) (y : leBst h b c) : leBst h a c := fun B e => by
  obtain ⟨B1, e1, l1⟩ := x B e
  obtain ⟨B2, e2, l2⟩ := y B1 e1
  exact ⟨B2, e2, Int.le_trans l2 l1⟩
def bestIn (h : Hs) (b : Option (List (Nat × Int))) (e : Int) : Prop := ∃ B, b = some B ∧ endS h B ≤ e
theorem bestIn.le {h : Hs} {b b' : Option (List (Nat × Int))} {e : Int} (x : bestIn h b e) (y : leBst h b b') : bestIn h b' e := by
  obtain ⟨B, e1, l1⟩ := x
  obtain ⟨B2, e2, l2⟩ := y B e1
  exact ⟨B2, e2, Int.le_trans l2 l1⟩
/-- all of a candidate ends in e -/
def endsIn (h : Hs) (mv : List Nat) (f : Nat → Int) (e : Int) : Prop := 0 ≤ e ∧ ∀ p ∈ mv, f p + h.bt p ≤ e
/-- what the search promises -/
structure GoP (h : Hs) (W : List (Nat × Nat)) (n beat : Int) (mv : List Nat) (B0 : List (Nat × Int)) (b : Option (List (Nat × Int))) (S : List (Nat × Int)) (rest : List Nat) (b' : Option (List (Nat × Int))) : Prop where
  full : ∀ B, b' = some B → FullP h W n beat mv B0 B
  le : leBst h b b'
  opt : ∀ f e, Cand h W n beat mv S rest f → endsIn h mv f e → bestIn h b' e
section
variable {h : Hs} {W : List (Nat × Nat)} {n beat : Int} {mv : List Nat} {B0 S : List (Nat × Int)} {rest : List Nat}
theorem SrchI.keyS (I : SrchI h W n beat mv B0 S rest) {q : Nat × Int} (hq : q ∈ S) : q.1 ∈ mv := I.pm.mem_iff.mp (List.mem_append_left _ (List.mem_map.mpr ⟨q, hq, rfl⟩))
theorem SrchI.keyR (I : SrchI h W n beat mv B0 S rest) {p : Nat} (hp : p ∈ rest) : p ∈ mv := I.pm.mem_iff.mp (List.mem_append_right _ hp)
theorem SrchI.nds (I : SrchI h W n beat mv B0 S rest) : (S.map (·.1) ++ rest).Nodup := I.pm.symm.nodup I.nd
theorem SrchI.fresh (I : SrchI h W n beat mv B0 S rest) {p : Nat} (hp : p ∈ rest) : ∀ q ∈ S, q.1 ≠ p := fun q hq e => (List.nodup_append.mp I.nds).2.2 _ (List.mem_map.mpr ⟨q, hq, rfl⟩) _ hp e
theorem SrchI.cnt (I : SrchI h W n beat mv B0 S rest) : S.length + rest.length = mv.length := by
  have e := I.pm.length_eq
  rw [List.length_append, List.length_map] at e
  exact e
theorem SrchI.st (I : SrchI h W n beat mv B0 S rest) : StOk h S := by
  have := I.cnt
  have := I.len
  exact ⟨by omega, I.ok.nd, fun q hq => I.lt _ (I.keyS hq)⟩
theorem endsIn_S (I : SrchI h W n beat mv B0 S rest) {f : Nat → Int} {e : Int} (c : Cand h W n beat mv S rest f) (he : endsIn h mv f e) : endS h S ≤ e := endS_le.mpr ⟨he.1, fun q hq => by
  have h1 := c.le q hq
  have h2 := he.2 _ (I.keyS hq)
  omega⟩
/-- cut off: the best so far is no later -/
theorem GoP.cut (I : SrchI h W n beat mv B0 S rest) {B : List (Nat × Int)} (hf : FullP h W n beat mv B0 B) (he : endS h B ≤ endS h S) : GoP h W n beat mv B0 (some B) S rest (some B) :=
  ⟨fun B' e => by cases e; exact hf, leBst.refl, fun f e c k => ⟨B, rfl, Int.le_trans he (endsIn_S I c k)⟩⟩
/-- the other one is put in already -/
theorem SrchI.wait_in (I : SrchI h W n beat mv B0 S rest) {p o : Nat} (hw : gN W p = some o) (ho : o ∉ rest) : ∃ so, (o, so) ∈ S ∧ gS S o = some so := by
  have h1 := I.pm.mem_iff.mpr (I.dom p o hw)
  rcases List.mem_append.mp h1 with m | m
  · obtain ⟨⟨o', so⟩, hm, e⟩ := List.mem_map.mp m
    have e' : o' = o := e
    subst e'
    exact ⟨so, hm, gS_mem I.ok.nd hm⟩
  · exact (ho m).elim
/-- one more put in -/
theorem SrchI.step (I : SrchI h W n beat mv B0 S rest) {p : Nat} (hp : p ∈ rest) {s : Int} (hs : beat ≤ s) (hw : ∀ o, gN W p = some o → ∃ so, (o, so) ∈ S ∧ so + h.bt o ≤ s) (hf : fitsB h S p s n = true) : SrchI h W n beat mv B0 (S ++ [(p, s)]) (rest.filter fun o => !decide (o = p)) := by
  have hfr := I.fresh hp
  have hrn : rest.Nodup := (List.nodup_append.mp I.nds).2.1
  refine ⟨⟨?_, fun q hq o ho => ?_, fun t => ?_⟩, ?_, I.nd, I.lt, fun q hq => I.hds q (List.mem_filter.mp hq).1, I.dom, fun q hq => List.mem_append_left _ (I.b0 q hq), fun q hq => ?_, fun q hq => I.b0r q (List.mem_filter.mp hq).1, I.len⟩
  · rw [List.map_append]
    refine List.nodup_append.mpr ⟨I.ok.nd, by simp, fun a ha b hb e => ?_⟩
    obtain ⟨q, hq, rfl⟩ := List.mem_map.mp ha
    have : b = p := by simpa using hb
    exact hfr q hq (by rw [e, this])
  · rcases List.mem_append.mp hq with m | m
    · obtain ⟨so, h1, h2⟩ := I.ok.wt q m o ho
      exact ⟨so, List.mem_append_left _ h1, h2⟩
    · rw [List.mem_singleton.mp m] at ho ⊢
      obtain ⟨so, h1, h2⟩ := hw o ho
      exact ⟨so, List.mem_append_left _ h1, h2⟩
  · rw [loadS_snoc]
    split
    · rename_i hon
      have z := onB_iff.mp hon
      exact fitsB_iff.mp hf t z.1 z.2
    · exact I.ok.ld t
  · refine List.Perm.trans ?_ I.pm
    rw [List.map_append, List.append_assoc]
    refine List.Perm.append_left _ ?_
    show (p :: rest.filter fun o => !decide (o = p)).Perm rest
    refine (List.perm_ext_iff_of_nodup (List.nodup_cons.mpr ⟨fun z => ?_, hrn.filter _⟩) hrn).mpr fun x => ?_
    · have := (List.mem_filter.mp z).2
      simp at this
    · rw [List.mem_cons, List.mem_filter]
      by_cases e : x = p
      · subst e; simp [hp]
      · simp [e]
  · rcases List.mem_append.mp hq with m | m
    · exact I.late q m
    · rw [List.mem_singleton.mp m]
      exact .inr ⟨hs, I.b0r p hp⟩
/-- a candidate's start of the first one left fits -/
theorem Cand.fits (ho : h.ok) (I : SrchI h W n beat mv B0 S rest) {f : Nat → Int} (c : Cand h W n beat mv S rest f) {p : Nat} (hp : p ∈ rest) : fitsB h S p (f p) n = true := fitsB_iff.mpr fun t h1 h2 => by
  have e1 : loadS h S t ≤ loadS h (mvS (S.map (·.1)) f) t := loadS_le_fun ho fun q hq hon => by
    have z := onB_iff.mp hon
    have a := c.le q hq
    have b := c.or q hq p hp
    refine onB_iff.mpr ⟨?_, ?_⟩
    · show f q.1 ≤ t
      omega
    · show t < f q.1 + h.bt q.1
      omega
  obtain ⟨l1, l2, hr⟩ := List.append_of_mem hp
  have e2 : loadS h (mvS mv f) t = loadS h (mvS (S.map (·.1)) f) t + (loadS h (mvS l1 f) t + ((if onB h t (p, f p) = true then h.hd p else 0) + loadS h (mvS l2 f) t)) := by
    have pm : (mvS (S.map (·.1) ++ rest) f).Perm (mvS mv f) := I.pm.map _
    rw [← loadS_perm pm, hr]
    unfold mvS
    rw [List.map_append, List.map_append, List.map_cons, loadS_app, loadS_app, loadS_cons]
  have e3 := c.pl.ld t
  rw [if_pos (onB_iff.mpr ⟨h1, h2⟩)] at e2
  have := loadS_nn ho (mvS l1 f) t
  have := loadS_nn ho (mvS l2 f) t
  omega
/-- the candidate goes on -/
theorem Cand.step (I : SrchI h W n beat mv B0 S rest) {f : Nat → Int} (c : Cand h W n beat mv S rest f) {p : Nat} (hp : p ∈ rest) (hmin : ∀ r ∈ rest, f p ≤ f r) {s : Int} (hs : s ≤ f p) : Cand h W n beat mv (S ++ [(p, s)]) (rest.filter fun o => !decide (o = p)) f := by
  refine ⟨c.pl, fun q hq => ?_, fun q hq r hr => ?_, fun r hr => c.bt r (List.mem_filter.mp hr).1⟩
  · rcases List.mem_append.mp hq with m | m
    · exact c.le q m
    · rw [List.mem_singleton.mp m]; exact hs
  · have hr' := (List.mem_filter.mp hr).1
    rcases List.mem_append.mp hq with m | m
    · exact c.or q m r hr'
    · rw [List.mem_singleton.mp m]; exact hmin r hr'
/-- the first one by a candidate -/
theorem first_of (f : Nat → Int) : ∀ (l : List Nat), l ≠ [] → ∃ p ∈ l, ∀ r ∈ l, f p ≤ f r
  | [], h => (h rfl).elim
  | [p], _ => ⟨p, List.mem_cons_self, fun r hr => by rw [List.mem_singleton.mp hr]; exact Int.le_refl _⟩
  | p :: x :: l, _ => by
    obtain ⟨m, hm, hle⟩ := first_of f (x :: l) (by simp)
    by_cases e : f p ≤ f m
    · exact ⟨p, List.mem_cons_self, fun r hr => by
        rcases List.mem_cons.mp hr with rfl | hr
        · exact Int.le_refl _
        · have := hle r hr; omega⟩
    · exact ⟨m, List.mem_cons_of_mem _ hm, fun r hr => by
        rcases List.mem_cons.mp hr with rfl | hr
        · omega
        · exact hle r hr⟩
/-- what is promised of a candidate that begins with p -/
def OptAt (h : Hs) (W : List (Nat × Nat)) (n beat : Int) (mv : List Nat) (S : List (Nat × Int)) (rest : List Nat) (b : Option (List (Nat × Int))) (p : Nat) : Prop :=
  ∀ f e, Cand h W n beat mv S rest f → (∀ r ∈ rest, f p ≤ f r) → endsIn h mv f e → bestIn h b e
theorem OptAt.le {b b' : Option (List (Nat × Int))} {p : Nat} (x : OptAt h W n beat mv S rest b p) (y : leBst h b b') : OptAt h W n beat mv S rest b' p := fun f e c m k => (x f e c m k).le y
/-- whoever waits for one that is left does not begin -/
theorem OptAt.waits (ho : h.ok) (I : SrchI h W n beat mv B0 S rest) {b : Option (List (Nat × Int))} {p o : Nat} (hp : p ∈ rest) (hw : gN W p = some o) (hor : o ∈ rest) : OptAt h W n beat mv S rest b p := fun f e c m k => by
  have h1 := c.pl.wt p (I.keyR hp) o hw
  have h2 := m o hor
  have h3 := (h.bt_pos ho (I.lt o (I.keyR hor))).1
  omega
/-- the least place -/
theorem Cand.place (ho : h.ok) (I : SrchI h W n beat mv B0 S rest) {f : Nat → Int} (c : Cand h W n beat mv S rest f) {p : Nat} (hp : p ∈ rest) {base s : Int} (hb : base = beat ∨ ∃ o so, gN W p = some o ∧ (o, so) ∈ S ∧ base = so + h.bt o) (hl : ∀ s', base ≤ s' → s' < s → fitsB h S p s' n = false) : s ≤ f p := by
  have h1 : base ≤ f p := by
    rcases hb with rfl | ⟨o, so, hw, hm, rfl⟩
    · exact c.bt p hp
    · have a := c.le _ hm
      have b := c.pl.wt p (I.keyR hp) o hw
      have a' : so ≤ f o := a
      omega
  by_cases e : s ≤ f p
  · exact e
  · have z := hl (f p) h1 (by omega)
    rw [c.fits ho I hp] at z
    cases z
end

def w_end_of (C : Addr) : FSp := fun ms cs R _ => match ms with
  | [.frz hv, .frz d] => ∃ (h : Hs) (S : List (Nat × Int)), hv = h.dv C ∧ d = .dct (dS S) ∧ StOk h S ∧ R (.frz (.int (endS h S))) cs
  | _ => False
section
local macro_rules | `(tactic| k_put) => `(tactic| first
  | ((with_reducible show EV _ _ (.Call (.Name _ _) [.BinOp _ _ _ _] [] _) _ _ _); refine ev_maxL (by assumption) ?_)
  | ((with_reducible show IV _ _ (.Name _ _) (.Name _ _) _ _ _); refine iv_stop ?_))
variable {P : Program} {w : World} {K : PySem.W.Frag} {mg : Str → Option Value} {base : Heap}
theorem ok_end_of {C f : Addr} {fd : FuncData} (F : FunZ K "end_of" "end_of" s_end_of f fd) (f1 : Mth P w K mg base C "beats_of" 1 (w_beats_of C)) (g1 : mg "max" = none) : FnOk P w K mg base CX0 2 f fd ["house", "starts"] (toSp (w_end_of C)) := by
  refine def_ok F sc_end_of (by intro ms cs R Z h; unfold w_end_of at h; split at h; rfl; exact h.elim) fun cdv A outer s H E a ms cs R Zx hr hw => ?_
  have nd := sc_end_of.nd
  have sc := sc_end_of
  have hu : (XZ P w K mg base n_end_of "end_of" s_end_of f cdv A outer s H E).A.units + 1 < cLine := hu_of hr
  have hu64 : (XZ P w K mg base n_end_of "end_of" s_end_of f cdv A outer s H E).A.units + 64 < cLine := by have := hr.un; show (A.deeper _).units + 64 < cLine; omega
  unfold w_end_of at hw
  split at hw
  · obtain ⟨h, S, rfl, rfl, ok, q⟩ := hw
    have hlen := ok.len
    refine svs_wkE ?_
    k_units
    refine ⟨iv_keys ?_⟩
    k_units
    rename_i L hL
    rw [keys_dS]
    refine lcloop_fn S _ (fun _ => true) (fun q => .frz (.int (q.2 + h.bt q.1))) (fun _ => trivial) (fun x hx acc hacc => ?_) ?_
    · have hg := gS_mem ok.nd hx
      have hl := ok.lt x hx
      obtain ⟨p, s0⟩ := x
      have hix : IxM ((L, Cell.lst acc) :: cs) (.frz (.dct (dS S))) (.frz (nI p)) (.frz (.int s0)) := IxM.dki (i := ((p : Nat) : Int)) (d := .int s0) (by rw [lookK_dS, hg]; rfl)
      refine ⟨_, rfl, ?_⟩
      k_units
      refine ⟨_, hix, ?_⟩
      k_units
      refine beats_use hl ?_
      k_units
    rw [filter_all]
    k_units
    refine AddQ.lst (.cel (by k_made)) (.cel List.mem_cons_self) (by rw [List.length_map, List.length_cons, List.length_nil]; omega) fun L4 hL4 => ?_
    have e1 : S.map (fun q => Mv.frz (Dv.int (q.2 + h.bt q.1))) ++ [Mv.frz (Dv.int 0)] = (S.map (fun q : Nat × Int => q.2 + h.bt q.1) ++ [(0 : Int)]).map fun b => Mv.frz (.int b) := by
      rw [List.map_append, List.map_map]; rfl
    rw [e1]
    refine ⟨_, .cel List.mem_cons_self, by simp, fun k hk hle => ⟨cs, Wk.sub (by k_sub), ?_⟩⟩
    have hk2 : k = 0 ∨ ∃ q ∈ S, k = q.2 + h.bt q.1 := by
      rcases List.mem_append.mp hk with m | m
      · obtain ⟨x, hx, e⟩ := List.mem_map.mp m
        exact .inr ⟨x, hx, e.symm⟩
      · exact .inl (List.mem_singleton.mp m)
    rw [endS_eq (hle 0 (by simp)) (fun x hx => hle _ (List.mem_append_left _ (List.mem_map.mpr ⟨x, hx, rfl⟩))) hk2]
    exact q
  · exact hw.elim
end

theorem hands_at_use {C : Addr} {h : Hs} {S : List (Nat × Int)} {t : Int} {cs : Cs} {R : Mv → Cs → Prop} {Z} (ok : StOk h S) (q : R (.frz (.int (loadS h S t))) cs) : w_hands_at C [.frz (h.dv C), .frz (.dct (dS S)), .frz (.int t)] cs R Z := ⟨h, S, rfl, rfl, ok, q⟩
def w_fits (C : Addr) : FSp := fun ms cs R _ => match ms with
  | [.frz hv, .frz d, .frz (.int i), .frz (.int s), .frz (.int n)] => ∃ (h : Hs) (S : List (Nat × Int)) (p : Nat), hv = h.dv C ∧ h.ok ∧ d = .dct (dS S) ∧ i = p ∧ p < h.ps.length ∧ (-1000000 ≤ s ∧ s ≤ 1000000) ∧ StOk h S ∧ R (.frz (.bl (fitsB h S p s n))) cs
  | _ => False
theorem fits_use {C : Addr} {h : Hs} {S : List (Nat × Int)} {p : Nat} {s n : Int} {cs : Cs} {R : Mv → Cs → Prop} {Z} (ho : h.ok) (ok : StOk h S) (hp : p < h.ps.length) (hs : -1000000 ≤ s ∧ s ≤ 1000000) (q : R (.frz (.bl (fitsB h S p s n))) cs) : w_fits C [.frz (h.dv C), .frz (.dct (dS S)), .frz (nI p), .frz (.int s), .frz (.int n)] cs R Z := ⟨h, S, p, rfl, ho, rfl, rfl, hp, hs, ok, q⟩
section
variable {P : Program} {w : World} {K : PySem.W.Frag} {mg : Str → Option Value} {base : Heap}
theorem ok_fits {C f : Addr} {fd : FuncData} (F : FunZ K "fits" "fits" s_fits f fd) (f1 : Mth P w K mg base C "beats_of" 1 (w_beats_of C)) (f2 : Mth P w K mg base C "hands_of" 1 (w_hands_of C)) (f3 : Fn P w K mg base "hands_at" 2 (w_hands_at C)) (g1 : mg "range" = none) : FnOk P w K mg base CX0 3 f fd ["house", "starts", "piece", "start", "hands"] (toSp (w_fits C)) := by
  refine def_ok F sc_fits (by intro ms cs R Z h; unfold w_fits at h; split at h; rfl; exact h.elim) fun cdv A outer s H E a ms cs R Zx hr hw => ?_
  have nd := sc_fits.nd
  have sc := sc_fits
  have hu : (XZ P w K mg base n_fits "fits" s_fits f cdv A outer s H E).A.units + 1 < cLine := hu_of hr
  have hu64 : (XZ P w K mg base n_fits "fits" s_fits f cdv A outer s H E).A.units + 64 < cLine := by have := hr.un; show (A.deeper _).units + 64 < cLine; omega
  unfold w_fits at hw
  split at hw
  · rename_i hv d i0 s0 n
    obtain ⟨h, S, p, rfl, ho, rfl, rfl, hp, hs, ok, q⟩ := hw
    have hb := h.bt_pos ho hp
    refine svs_cons (sv_for1 (by assumption) ?_)
    k_steps
    refine beats_use hp ?_
    k_steps
    all_goals try omega
    rw [show (s0 + h.bt p - s0).toNat = (h.bt p).toNat by omega]
    refine ⟨fun i ρ' c' => ∃ v5 : Option Mv, ρ' = [some (.frz (h.dv C)), some (.frz (.dct (dS S))), some (.frz (nI p)), some (.frz (.int s0)), some (.frz (.int n)), v5] ∧ c' = cs ∧ Kp (∀ j < i, loadS h S (s0 + (j : Nat)) + h.hd p ≤ n), ⟨_, rfl, rfl, Kp.i (by omega)⟩, fun _ _ _ _ _ => trivial, ?_, ?_⟩
    · rintro i it ρ' c' hi ⟨v5, rfl, rfl, hj⟩
      replace hj := hj.o
      obtain ⟨hi', rfl⟩ := its_range hi
      refine ⟨_, rfl, ?_⟩
      refine svs_cons (sv_if ?_)
      k_steps
      refine hands_at_use ok ?_
      k_steps
      refine hands_use hp ?_
      k_steps
      · rename_i k0
        have hgt := of_decide_eq_true k0
        have hf : fitsB h S p s0 n = false := by
          cases e : fitsB h S p s0 n with
          | false => rfl
          | true =>
            have z := fitsB_iff.mp e (s0 + (i : Nat)) (by omega) (by omega)
            omega
        rw [hf] at q
        k_units
        exact q
      · rename_i k0
        have hle := of_decide_eq_false k0
        refine Kp.i fun j hj2 => ?_
        by_cases e : j = i
        · subst e; omega
        · exact hj j (by omega)
    · rintro ρ' c' ⟨v5, rfl, rfl, hj⟩
      replace hj := hj.o
      rw [List.length_map, List.length_range] at hj
      have hf : fitsB h S p s0 n = true := fitsB_iff.mpr fun t h1 h2 => by
        have z := hj (t - s0).toNat (by omega)
        rw [show s0 + (((t - s0).toNat : Nat) : Int) = t by omega] at z
        exact z
      rw [hf] at q
      k_units
      exact q
  · exact hw.elim
end

def dSM (S : List (Nat × Int)) : List (Key × Mv) := (dS S).map fun kv => (kv.1, Mv.frz kv.2)
theorem lookK_dSM (S : List (Nat × Int)) (p : Nat) : lookK (.inl (p : Int)) (dSM S) = (gS S p).map fun i => Mv.frz (.int i) := by
  have e : lookK (.inl (p : Int)) (dSM S) = (lookK (.inl (p : Int)) (dS S)).map Mv.frz := by
    unfold lookK dSM
    rw [List.find?_map, Option.map_map, Option.map_map]
    rfl
  rw [e, lookK_dS, Option.map_map]; rfl
theorem dSM_any (S : List (Nat × Int)) (p : Nat) : ((dSM S).any fun kv => decide (kv.1 = Sum.inl (p : Int))) = S.any fun q => decide (q.1 = p) := by
  unfold dSM dS
  rw [List.map_map, List.any_map]
  congr 1
  funext q
  exact decide_eq_decide.mpr ⟨fun h => by have := Sum.inl.inj h; omega, fun h => by show Sum.inl (q.1 : Int) = _; rw [h]⟩
theorem putKs_dSM {S : List (Nat × Int)} {p : Nat} {s : Int} (h : ∀ q ∈ S, q.1 ≠ p) : putKs (dSM S) (.inl (p : Int)) (.frz (.int s)) = dSM (S ++ [(p, s)]) := by
  unfold putKs
  rw [dSM_any, if_neg (fun e => ?_)]
  · unfold dSM dS
    rw [List.map_append, List.map_append]; rfl
  · obtain ⟨q, hq, e2⟩ := List.any_eq_true.mp e
    exact h q hq (of_decide_eq_true e2)
theorem dSM_len (S : List (Nat × Int)) : (dSM S).length = S.length := by unfold dSM dS; rw [List.length_map, List.length_map]
theorem putKs_dSM_in {S : List (Nat × Int)} {p : Nat} {s : Int} (h : p ∈ S.map (·.1)) : putKs (dSM S) (.inl (p : Int)) (.frz (.int s)) = dSM (S.map fun q => if q.1 = p then (q.1, s) else q) := by
  unfold putKs
  rw [dSM_any, if_pos (by
    obtain ⟨q, hq, e⟩ := List.mem_map.mp h
    exact List.any_eq_true.mpr ⟨q, hq, decide_eq_true e⟩)]
  unfold dSM dS
  rw [List.map_map, List.map_map, List.map_map, List.map_map]
  refine List.map_congr_left fun q _ => ?_
  show (if (Sum.inl (q.1 : Int) : Key) = Sum.inl (p : Int) then _ else _) = _
  by_cases e : q.1 = p
  · rw [if_pos (by rw [e]), Function.comp_apply, Function.comp_apply, if_pos e]
  · rw [if_neg (fun z => e (by have := Sum.inl.inj z; omega)), Function.comp_apply, Function.comp_apply, if_neg e]
theorem put_keys (S : List (Nat × Int)) (p : Nat) (s : Int) : (S.map fun q => if q.1 = p then (q.1, s) else q).map (·.1) = S.map (·.1) := by
  rw [List.map_map]
  refine List.map_congr_left fun q _ => ?_
  show (if q.1 = p then (q.1, s) else q).1 = q.1
  split <;> rfl
theorem put_st {S : List (Nat × Int)} {p : Nat} {s : Int} (hs : 0 ≤ s ∧ s ≤ 40) (h : ∀ q ∈ S, 0 ≤ q.2 ∧ q.2 ≤ 40) : ∀ q ∈ (S.map fun q => if q.1 = p then (q.1, s) else q), 0 ≤ q.2 ∧ q.2 ≤ 40 := fun q hq => by
  obtain ⟨x, hx, rfl⟩ := List.mem_map.mp hq
  split
  · exact hs
  · exact h x hx

def w_put_in (C : Addr) : FSp := fun ms cs R _ => match ms with
  | [.frz hv, .frz e, .frz d, .frz (.int i), .frz (.int beat), .frz (.int n)] => ∃ (h : Hs) (W : List (Nat × Nat)) (S : List (Nat × Int)) (p : Nat), hv = h.dv C ∧ h.ok ∧ e = .dct (dNN W) ∧ d = .dct (dS S) ∧ i = p ∧ p < h.ps.length ∧ StOk h S ∧ (0 ≤ beat ∧ beat ≤ 1000) ∧ h.hd p ≤ n ∧ (∀ q ∈ S, 0 ≤ q.2 ∧ q.2 ≤ 1000) ∧ (∀ q ∈ S, q.1 ≠ p) ∧ (∀ o, gN W p = some o → ∃ so, (o, so) ∈ S ∧ gS S o = some so) ∧
    ∀ base s : Int, (base = beat ∨ ∃ o so, gN W p = some o ∧ (o, so) ∈ S ∧ base = so + h.bt o) → beat ≤ base → (∀ o, gN W p = some o → ∃ so, (o, so) ∈ S ∧ so + h.bt o ≤ base) → base ≤ s → s ≤ max base (endS h S) → fitsB h S p s n = true → (∀ s', base ≤ s' → s' < s → fitsB h S p s' n = false) → R (.frz (.dct (dS (S ++ [(p, s)])))) cs
  | _ => False
section
local macro_rules | `(tactic| k_put) => `(tactic| ((with_reducible show EV _ _ (.Call (.Name _ _) [.Name _ _] [] _) _ _ _); refine ev_dictC (by assumption) ?_))
variable {P : Program} {w : World} {K : PySem.W.Frag} {mg : Str → Option Value} {base : Heap}
theorem sube_opt {p : Addr} {d : Dv} {v : Option Mv} {r k : Env} (h : SubE p d r k) : SubE p d (v :: r) (v :: k) := by
  cases v with
  | none => exact .none h
  | some m => exact .cons (.same m) h
theorem endS_max {h : Hs} {S : List (Nat × Int)} {m : Int} (ho : h.ok) (h0 : 0 ≤ m) (hS : ∀ q ∈ S, q.2 ≤ m) : endS h S ≤ m + 4 := endS_le.mpr ⟨by omega, fun q hq => by
  have := hS q hq
  have := (bt_nn ho q.1).2
  omega⟩
theorem ok_put_in {C f : Addr} {fd : FuncData} (F : FunZ K "put_in" "put_in" s_put_in f fd) (f1 : Mth P w K mg base C "beats_of" 1 (w_beats_of C)) (f2 : Fn P w K mg base "fits" 3 (w_fits C)) (g1 : mg "max" = none) (g2 : mg "dict" = none) : FnOk P w K mg base CX0 4 f fd ["house", "awaited", "starts", "piece", "beat", "hands"] (toSp (w_put_in C)) := by
  refine def_ok F sc_put_in (by intro ms cs R Z h; unfold w_put_in at h; split at h; rfl; exact h.elim) fun cdv A outer s H E a ms cs R Zx hr hw => ?_
  have nd := sc_put_in.nd
  have sc := sc_put_in
  have hu : (XZ P w K mg base n_put_in "put_in" s_put_in f cdv A outer s H E).A.units + 1 < cLine := hu_of hr
  have hu64 : (XZ P w K mg base n_put_in "put_in" s_put_in f cdv A outer s H E).A.units + 64 < cLine := by have := hr.un; show (A.deeper _).units + 64 < cLine; omega
  unfold w_put_in at hw
  split at hw
  · rename_i hv e0 d i0 beat n
    obtain ⟨h, W, S, p, rfl, ho, rfl, rfl, rfl, hp, ok, hb, hhd, hS, hfr, hW, q⟩ := hw
    have hE : endS h S ≤ 1004 := endS_max ho (by decide) fun q hq => (hS q hq).2
    have hE0 := endS_nn h S
    refine svs_cons ?_
    k_steps
    refine svs_cut (fun ρ c => ∃ (bs : Int) (v7 : Option Mv), ρ = [some (.frz (h.dv C)), some (.frz (.dct (dNN W))), some (.frz (.dct (dS S))), some (.frz (nI p)), some (.frz (.int beat)), some (.frz (.int n)), some (.frz (.int bs)), v7, none] ∧ c = cs ∧ (bs = beat ∨ ∃ o so, gN W p = some o ∧ (o, so) ∈ S ∧ bs = so + h.bt o) ∧ beat ≤ bs ∧ bs ≤ 1004 ∧ ∀ o, gN W p = some o → ∃ so, (o, so) ∈ S ∧ so + h.bt o ≤ bs) ?_ ?_
    · refine sv_if ?_
      k_steps
      refine ⟨_, InM.dki (i := ((p : Nat) : Int)), ?_⟩
      rw [lookK_dNN]
      cases hg : gN W p with
      | none =>
        k_steps
        exact Kp.i ⟨_, _, rfl, rfl, .inl rfl, Int.le_refl _, by omega, fun o ho => by cases ho⟩
      | some o =>
        obtain ⟨so, hom, hso⟩ := hW o hg
        have hol : o < h.ps.length := ok.lt _ hom
        have hbo := h.bt_pos ho hol
        have hs0 := hS _ hom
        k_steps
        refine ⟨_, IxM.dki (i := ((p : Nat) : Int)) (d := nI o) (by rw [lookK_dNN, hg]; rfl), ?_⟩
        k_steps
        refine ⟨_, IxM.dki (i := ((o : Nat) : Int)) (d := .int so) (by rw [lookK_dS, hso]; rfl), ?_⟩
        k_steps
        refine beats_use hol ?_
        k_steps
        refine Kp.i ⟨_, _, rfl, rfl, ?_, ?_, ?_, fun o' ho' => ?_⟩
        · split
          · exact .inr ⟨o, so, rfl, hom, rfl⟩
          · exact .inl rfl
        · split <;> omega
        · have hs1 : so ≤ 1000 := hs0.2
          split <;> omega
        · cases ho'
          exact ⟨so, hom, by split <;> omega⟩
    rintro ρ2 c2 ⟨bs, v7, rfl, rfl, hb1, hb2, hb3, hb4⟩
    generalize hM : max bs (endS h S) = M at q
    have hM1 : bs ≤ M := by omega
    have hM2 : endS h S ≤ M := by omega
    have hM3 : M ≤ 1004 := by omega
    refine svs_cons (sv_while PassesOwn.never (fun m ρ' c' => ∃ (s : Int), m = (M - s).toNat ∧ ρ' = [some (.frz (h.dv C)), some (.frz (.dct (dNN W))), some (.frz (.dct (dS S))), some (.frz (nI p)), some (.frz (.int beat)), some (.frz (.int n)), some (.frz (.int s)), v7, none] ∧ c' = c2 ∧ Kp (bs ≤ s ∧ s ≤ M ∧ ∀ s', bs ≤ s' → s' < s → fitsB h S p s' n = false)) (M - bs).toNat ⟨bs, rfl, rfl, rfl, Kp.i ⟨Int.le_refl _, hM1, fun s' a b => by omega⟩⟩ ?_)
    rintro m ρ' c' ⟨s0, rfl, rfl, rfl, hI⟩
    replace hI := hI.o
    k_steps
    refine fits_use ho ok hp (by omega) ?_
    cases hB : fitsB h S p s0 n with
    | false =>
      have hlt : s0 < M := by
        by_cases e : s0 < M
        · exact e
        · rw [fits_late (by omega) hhd] at hB; cases hB
      k_steps
      refine ⟨_, (by omega), s0 + 1, rfl, rfl, rfl, Kp.i ⟨by omega, by omega, fun s' a b => ?_⟩⟩
      by_cases e : s' = s0
      · subst e; exact hB
      · exact hI.2.2 s' a (by omega)
    | true =>
      k_steps
      refine ⟨_, .frz, fun D hD => ?_⟩
      refine svs_cons (sv_dput hu ?_)
      k_steps
      refine ⟨D, _, .inl (p : Int), _, rfl, rfl, .hit, by have := dSM_len S; have := ok.len; unfold dSM at *; omega, ?_⟩
      rw [show (dS S).map (fun kv => (kv.1, Mv.frz kv.2)) = dSM S from rfl, putKs_dSM hfr]
      refine svs_frz D (.dct (dS (S ++ [(p, s0)]))) (by k_same; exact sube_opt (.cons .hit (.same _))) (.hit (.same _)) ?_
      k_units
      exact q bs s0 hb1 hb2 hb4 hI.1 (by omega) hB hI.2.2
  · exact hw.elim
end

/-! ### the search, walked -/
def bD : Option (List (Nat × Int)) → Dv
  | none => .non
  | some S => .dct (dS S)
abbrev sFlds (hv e : Dv) (beat n : Int) (b : Option (List (Nat × Int))) : List (Str × Mv) := [("own", .frz hv), ("awaited", .frz e), ("beat", .frz (.int beat)), ("hands", .frz (.int n)), ("best", .frz (bD b))]
abbrev sCell (CE : Addr) (hv e : Dv) (beat n : Int) (b : Option (List (Nat × Int))) : Cell := .ins CE (sFlds hv e beat n b)
def w_search_init (CE : Addr) : FSp := fun ms cs R _ => match ms with
  | [.cel p, .frz hv, .frz e, .frz (.int beat), .frz (.int n)] => ∃ c1, cs = (p, Cell.ins CE []) :: c1 ∧ R (.frz .non) ((p, sCell CE hv e beat n none) :: c1)
  | _ => False
def Bnd (S : List (Nat × Int)) : Prop := ∀ q ∈ S, 0 ≤ q.2 ∧ q.2 ≤ 60 + 5 * S.length
theorem Bnd.step {h : Hs} (ho : h.ok) {S : List (Nat × Int)} (hB : Bnd S) {beat base s : Int} {p : Nat} (hb : 0 ≤ beat ∧ beat ≤ 12) (h1 : beat ≤ base) (h2 : base = beat ∨ ∃ o so, (o, so) ∈ S ∧ base = so + h.bt o) (h3 : base ≤ s) (h4 : s ≤ max base (endS h S)) : Bnd (S ++ [(p, s)]) := by
  have e1 : endS h S ≤ 60 + 5 * S.length + 4 := endS_max ho (by omega) fun q hq => (hB q hq).2
  have e2 : base ≤ 60 + 5 * S.length + 4 := by
    rcases h2 with rfl | ⟨o, so, hm, rfl⟩
    · omega
    · have a : so ≤ 60 + 5 * S.length := (hB _ hm).2
      have b := (bt_nn ho o).2
      omega
  intro q hq
  rw [List.length_append, List.length_singleton]
  rcases List.mem_append.mp hq with m | m
  · have := hB q m
    omega
  · rw [List.mem_singleton.mp m]
    show 0 ≤ s ∧ s ≤ _
    omega
theorem Bnd.le {S : List (Nat × Int)} (hB : Bnd S) (hl : S.length ≤ 60) : ∀ q ∈ S, 0 ≤ q.2 ∧ q.2 ≤ 1000 := fun q hq => by
  have := hB q hq
  omega
theorem FullP.st {h : Hs} {W : List (Nat × Nat)} {n beat : Int} {mv : List Nat} {B0 B : List (Nat × Int)} (f : FullP h W n beat mv B0 B) (hl : mv.length ≤ 8) (hlt : ∀ p ∈ mv, p < h.ps.length) : StOk h B := by
  have e := f.pm.length_eq
  rw [List.length_map] at e
  exact ⟨by omega, f.ok.nd, fun q hq => hlt _ (f.pm.mem_iff.mp (List.mem_map.mpr ⟨q, hq, rfl⟩))⟩
theorem len_ne2 {rs : List Nat} (hn : rs.Nodup) {p : Nat} (hp : p ∈ rs) : (rs.filter fun o => !decide (o = p)).length + 1 = rs.length := by
  induction rs with
  | nil => cases hp
  | cons x rs ih =>
    have hn' := List.nodup_cons.mp hn
    rcases List.mem_cons.mp hp with rfl | h
    · have e : (rs.filter fun o => !decide (o = p)) = rs := List.filter_eq_self.mpr fun o ho => by
        have : o ≠ p := fun z => hn'.1 (by rw [← z]; exact ho)
        simp [this]
      rw [List.filter_cons_of_neg (by simp), e, List.length_cons]
    · have : x ≠ p := fun z => hn'.1 (by rw [z]; exact h)
      rw [List.filter_cons_of_pos (by simp [this]), List.length_cons, List.length_cons, ih hn'.2 h]
def w_go (C CE : Addr) (d : Nat) : FSp := fun ms cs R _ => match ms with
  | [.cel A, .frz sd, .frz rd] => ∃ (h : Hs) (W : List (Nat × Nat)) (n beat : Int) (mv : List Nat) (B0 S : List (Nat × Int)) (rest : List Nat) (b : Option (List (Nat × Int))) (c0 : Cs), sd = .dct (dS S) ∧ rd = .lst (rest.map nI) ∧ h.ok ∧ cs = (A, sCell CE (h.dv C) (.dct (dNN W)) beat n b) :: c0 ∧ rest.length ≤ d ∧ SrchI h W n beat mv B0 S rest ∧ Bnd S ∧ (0 ≤ beat ∧ beat ≤ 12) ∧ (∀ B, b = some B → FullP h W n beat mv B0 B ∧ Bnd B) ∧
      ∀ b', GoP h W n beat mv B0 b S rest b' → (∀ B, b' = some B → Bnd B) → R (.frz .non) ((A, sCell CE (h.dv C) (.dct (dNN W)) beat n b') :: c0)
  | _ => False
theorem end_of_use {C : Addr} {h : Hs} {S : List (Nat × Int)} {cs : Cs} {R : Mv → Cs → Prop} {Z} (ok : StOk h S) (q : R (.frz (.int (endS h S))) cs) : w_end_of C [.frz (h.dv C), .frz (.dct (dS S))] cs R Z := ⟨h, S, rfl, rfl, ok, q⟩
theorem InM.neg {cs : Cs} {m : Mv} {row : List Nat} (h : SeqM cs m ((row.map nI).map Mv.frz)) : InM cs (.frz (.int (-1))) m false := by
  have h' : SeqM cs m (((row.map fun (i : Nat) => some (i : Int)).map plD).map Mv.frz) := by
    rw [List.map_map (f := fun (i : Nat) => some (i : Int)) (g := plD)]; exact h
  have z := InM.pl (x := some (-1 : Int)) h'
  have e : decide (some (-1 : Int) ∈ row.map fun (i : Nat) => some (i : Int)) = false := decide_eq_false fun hm => by
    obtain ⟨i, hi, e⟩ := List.mem_map.mp hm
    have := Option.some.inj e
    omega
  rw [e] at z
  exact z
section
variable {P : Program} {w : World} {K : PySem.W.Frag} {mg : Str → Option Value} {base : Heap}
theorem ok_search_init {CE f : Addr} {fd : FuncData} (F : FunZ K "__init__" "Search.__init__" s_Search__init f fd) (hc : Cls K CE) (n1 : NoAttr K CE "own") (n2 : NoAttr K CE "awaited") (n3 : NoAttr K CE "beat") (n4 : NoAttr K CE "hands") (n5 : NoAttr K CE "best") : FnOk P w K mg base CX0 1 f fd ["self", "house", "awaited", "beat", "hands"] (toSp (w_search_init CE)) := by
  refine def_ok F sc_Search__init (by intro ms cs R Z h; unfold w_search_init at h; split at h; rfl; exact h.elim) fun cdv A outer s H E a ms cs R Zx hr hw => ?_
  unfold w_search_init at hw
  split at hw
  · obtain ⟨c1, rfl, q⟩ := hw
    k_units
    all_goals first | exact Nat.le_of_ble_eq_true rfl | exact q
  · exact hw.elim
end
section
local macro_rules | `(tactic| k_get) => `(tactic| first
  | refine ev_fn (by assumption) (L2.Room.mono (by assumption) (by omega)) ?_
  | refine ev_mth (by assumption) (L2.Room.mono (by assumption) (by omega)) ?_)
local macro_rules | `(tactic| k_put) => `(tactic| first
  | ((with_reducible show EV _ _ (.Call (.Attribute _ _ _) [_, .UnaryOp _ _ _] [] _) _ _ _); refine ev_dget2 (by assumption) ?_)
  | ((with_reducible show EV _ _ (.ListComp _ _ _ _) _ _ _); refine ev_frz (ev_lcI (by assumption) ?_)))
variable {P : Program} {w : World} {K : PySem.W.Frag} {mg : Str → Option Value} {base : Heap}
theorem ok_go_step {C CE f : Addr} {fd : FuncData} (F : FunZ K "go" "Search.go" s_Search_go f fd) (f1 : Fn P w K mg base "end_of" 2 (w_end_of C)) (f2 : Fn P w K mg base "put_in" 4 (w_put_in C)) (hc : Cls K CE) (n1 : NoAttr K CE "own") (n2 : NoAttr K CE "awaited") (n3 : NoAttr K CE "beat") (n4 : NoAttr K CE "hands") (n5 : NoAttr K CE "best") (d : Nat)
    (ih : ∀ d', d = d' + 1 → Mth P w K mg base CE "go" (d' + 5) (w_go C CE d')) : FnOk P w K mg base CX0 (d + 5) f fd ["self", "starts", "rest"] (toSp (w_go C CE d)) := by
  refine def_ok F sc_Search_go (by intro ms cs R Z h; unfold w_go at h; split at h; rfl; exact h.elim) fun cdv A outer s H E a ms cs R Zx hr hw => ?_
  have nd := sc_Search_go.nd
  have sc := sc_Search_go
  have hu : (XZ P w K mg base n_Search_go "Search.go" s_Search_go f cdv A outer s H E).A.units + 1 < cLine := hu_of hr
  have hu64 : (XZ P w K mg base n_Search_go "Search.go" s_Search_go f cdv A outer s H E).A.units + 64 < cLine := by have := hr.un; show (A.deeper _).units + 64 < cLine; omega
  unfold w_go at hw
  split at hw
  · rename_i Ad sd rd
    obtain ⟨h, W, n, beat, mv, B0, S, rest, b, c0, rfl, rfl, ho, rfl, hd, I, hB, hbt, hb, q⟩ := hw
    have ok := I.st
    have hrl : rest.length ≤ 8 := by have := I.cnt; have := I.len; omega
    refine svs_cut (fun ρ c => ρ = [some (.cel Ad), some (.frz (.dct (dS S))), some (.frz (.lst (rest.map nI))), none, none, none] ∧ c = (Ad, sCell CE (h.dv C) (.dct (dNN W)) beat n b) :: c0 ∧ ∀ B, b = some B → endS h S < endS h B) ?_ ?_
    · refine sv_if ?_
      cases hbb : b with
      | none =>
        k_steps
        refine .non ?_
        k_steps
        exact Kp.i ⟨rfl, rfl, fun B e => nomatch e⟩
      | some B =>
        obtain ⟨hfB, hBB⟩ := hb B hbb
        have okB := hfB.st I.len I.lt
        k_steps
        refine .non ?_
        k_steps
        refine end_of_use ok ?_
        k_steps
        refine end_of_use okB ?_
        k_steps
        · rename_i k0
          have hle := of_decide_eq_true k0
          k_units
          subst hbb
          exact q _ (GoP.cut I hfB hle) fun B' e => by cases e; exact hBB
        · rename_i k0
          have hle := of_decide_eq_false k0
          exact Kp.i ⟨rfl, rfl, fun B' e => by cases e; omega⟩
    rintro ρ2 c2 ⟨rfl, rfl, hcut⟩
    refine svs_cut (fun ρ c => ∃ b1, ρ = [some (.cel Ad), some (.frz (.dct (dS S))), some (.frz (.lst (rest.map nI))), none, none, none] ∧ c = (Ad, sCell CE (h.dv C) (.dct (dNN W)) beat n b1) :: c0 ∧ (∀ B, b1 = some B → FullP h W n beat mv B0 B ∧ Bnd B) ∧ leBst h b b1 ∧ (rest = [] → b1 = some S)) (sv_wkE ?_) ?_
    · refine sv_if ?_
      k_steps
      rename_i L0 hL0
      refine ⟨_, _, PlM.frz (d := .lst (rest.map nI)) (n := 2) (nI_shs _) (by decide), PlM.lst (l := []) (n := 1) List.mem_cons_self rfl (by decide), ?_⟩
      rw [show PyData.eqv (Dv.lst (rest.map nI)).py (.list (Dv.pys [])) = decide (rest = []) from eqv_nI rest []]
      by_cases hrs : rest = []
      · rw [decide_eq_true hrs]
        refine ⟨fun _ => ?_, (fun h => nomatch h)⟩
        refine svs_wk (Wk.sub (List.sublist_cons_self _ _)) ?_
        refine svs_cons (sv_fld (by assumption) n5 ?_)
        k_steps
        subst hrs
        refine ⟨_, Wk.refl, Kp.i ⟨some S, rfl, rfl, fun B e => ?_, fun B e => ?_, fun _ => rfl⟩⟩
        · cases e
          refine ⟨⟨I.ok, ?_, I.b0, I.late⟩, hB⟩
          have := I.pm
          rw [List.append_nil] at this
          exact this
        · exact ⟨S, rfl, Int.le_of_lt (hcut B e)⟩
      · rw [decide_eq_false hrs]
        refine ⟨(fun h => nomatch h), fun _ => ?_⟩
        k_steps
        exact ⟨_, Wk.sub (List.sublist_cons_self _ _), Kp.i ⟨b, rfl, rfl, hb, leBst.refl, fun e => (hrs e).elim⟩⟩
    rintro ρ2 c2 ⟨b1, rfl, rfl, hb1, hle1, hre1⟩
    refine svs_cons (sv_for1 (by assumption) ?_)
    k_steps
    refine ⟨fun i ρ' c' => ∃ (bi : Option (List (Nat × Int))) (v3 v4 v5 : Option Mv), ρ' = [some (.cel Ad), some (.frz (.dct (dS S))), some (.frz (.lst (rest.map nI))), v3, v4, v5] ∧ c' = (Ad, sCell CE (h.dv C) (.dct (dNN W)) beat n bi) :: c0 ∧ Kp ((∀ B, bi = some B → FullP h W n beat mv B0 B ∧ Bnd B) ∧ leBst h b1 bi ∧ ∀ p ∈ rest.take i, OptAt h W n beat mv S rest bi p), ⟨b1, _, _, _, rfl, rfl, Kp.i ⟨hb1, leBst.refl, by simp⟩⟩, fun _ _ _ _ _ => .lst, ?_, ?_⟩
    · rintro i it ρ' c' hi ⟨bi, v3, v4, v5, rfl, rfl, hI⟩
      obtain ⟨hbi, hlei, hop⟩ := hI.o
      obtain ⟨p, hp, rfl⟩ := its_nats hi
      have hpr := List.mem_of_getElem? hp
      have hpm := I.keyR hpr
      have hpl := I.lt p hpm
      refine ⟨_, rfl, ?_⟩
      refine svs_cons (sv_if ?_)
      k_steps
      refine ⟨.inl (p : Int), _, rfl, DctM.frz, ?_⟩
      rw [lookK_dNN]
      k_steps
      obtain ⟨k, hk1, hk2⟩ : ∃ k, InM ((Ad, sCell CE (h.dv C) (.dct (dNN W)) beat n bi) :: c0) ((((gN W p).map nI).map Mv.frz).getD (.frz (.int (-1)))) (.frz (.lst (rest.map nI))) k ∧ (k = false ↔ ∀ o, gN W p = some o → o ∉ rest) := by
        cases hg : gN W p with
        | none => exact ⟨false, InM.neg .lst, ⟨fun _ o ho => (nomatch ho), fun _ => rfl⟩⟩
        | some o => exact ⟨decide (o ∈ rest), InM.nat .lst, ⟨fun e o' ho => by cases ho; exact of_decide_eq_false e, fun e => decide_eq_false (e o rfl)⟩⟩
      refine ⟨k, hk1, ?_⟩
      have done_ : ∀ b2 v3 v4 v5, (∀ B, b2 = some B → FullP h W n beat mv B0 B ∧ Bnd B) → leBst h bi b2 → OptAt h W n beat mv S rest b2 p → ∃ (bi : Option (List (Nat × Int))) (v3' v4' v5' : Option Mv), [some (Mv.cel Ad), some (.frz (.dct (dS S))), some (.frz (.lst (rest.map nI))), v3, v4, v5] = [some (.cel Ad), some (.frz (.dct (dS S))), some (.frz (.lst (rest.map nI))), v3', v4', v5'] ∧ ((Ad, sCell CE (h.dv C) (.dct (dNN W)) beat n b2) :: c0) = (Ad, sCell CE (h.dv C) (.dct (dNN W)) beat n bi) :: c0 ∧ Kp ((∀ B, bi = some B → FullP h W n beat mv B0 B ∧ Bnd B) ∧ leBst h b1 bi ∧ ∀ p ∈ rest.take (i + 1), OptAt h W n beat mv S rest bi p) := fun b2 v3 v4 v5 h1 h2 h3 => ⟨b2, v3, v4, v5, rfl, rfl, Kp.i ⟨h1, hlei.trans h2, fun x hx => by
          rw [take_snoc hp] at hx
          rcases List.mem_append.mp hx with m | m
          · exact (hop x m).le h2
          · rw [List.mem_singleton.mp m]; exact h3⟩⟩
      cases k with
      | true =>
        k_steps
        obtain ⟨o, ho1, ho2⟩ : ∃ o, gN W p = some o ∧ o ∈ rest := by
          cases hg : gN W p with
          | none => have := hk2.mpr fun o ho => by rw [hg] at ho; cases ho
                    cases this
          | some o =>
            refine ⟨o, rfl, Classical.byContradiction fun z => ?_⟩
            have := hk2.mpr fun o' ho => by rw [hg] at ho; cases ho; exact z
            cases this
        exact done_ bi _ _ _ hbi leBst.refl (OptAt.waits ho I hpr ho1 ho2)
      | false =>
        have hnr := hk2.mp rfl
        k_steps
        refine ⟨h, W, S, p, rfl, ho, rfl, rfl, rfl, hpl, ok, by omega, I.hds p hpr, hB.le ok.len, I.fresh hpr, fun o ho => I.wait_in ho (hnr o ho), fun bs s0 k1 k2 k3 k4 k5 k6 k7 => ?_⟩
        have I2 := I.step hpr (s := s0) (by omega) (fun o ho => by
          obtain ⟨so, a1, a2⟩ := k3 o ho
          exact ⟨so, a1, by omega⟩) k6
        have hB2 : Bnd (S ++ [(p, s0)]) := hB.step ho hbt k2 (k1.imp_right fun ⟨o, so, _, m, e⟩ => ⟨o, so, m, e⟩) k4 k5
        have hopt : ∀ f e b2, Cand h W n beat mv S rest f → (∀ r ∈ rest, f p ≤ f r) → endsIn h mv f e → (∀ f e, Cand h W n beat mv (S ++ [(p, s0)]) (rest.filter fun o => !decide (o = p)) f → endsIn h mv f e → bestIn h b2 e) → bestIn h b2 e := fun f e b2 c m k z => z f e (c.step I hpr m (c.place ho I hpr k1 k7)) k
        have hl2 := len_ne2 (List.nodup_append.mp I.nds).2.1 hpr
        k_steps
        obtain ⟨d', rfl⟩ : ∃ d', d = d' + 1 := ⟨d - 1, by omega⟩
        have hgo := ih d' rfl
        k_steps
        rename_i L hL
        rw [List.map_map, List.map_map]
        refine lcloop_fn rest _ (fun o => !decide (o = p)) (fun p => .frz (nI p)) (fun _ => .lst) (fun x hx acc hacc => ?_) ?_
        · refine ⟨_, rfl, ?_⟩
          have e : PyData.eqv (nI x).py (nI p).py = decide (x = p) := by
            rw [py_ii]
            exact decide_eq_decide.mpr ⟨fun h => by omega, fun h => by rw [h]⟩
          k_steps
          · have hb : (!PyData.eqv (nI x).py (nI p).py) = true := by assumption
            rw [e] at hb
            exact acc_yes hb
          · have hb : (!PyData.eqv (nI x).py (nI p).py) = false := by assumption
            rw [e] at hb
            exact acc_no hb
        generalize (rest.filter fun o => !decide (o = p)) = rs2 at I2 hopt hl2 ⊢
        rw [show rs2.map (fun p => Mv.frz (nI p)) = (rs2.map nI).map Mv.frz by rw [List.map_map]; rfl]
        refine ⟨L, _, .lst (rs2.map nI), _, rfl, .lst _, .hit (.same _), ?_⟩
        k_steps
        refine ⟨h, W, n, beat, mv, B0, S ++ [(p, s0)], rs2, bi, c0, rfl, rfl, ho, rfl, by omega, I2, hB2, hbt, hbi, fun b2 hG hB3 => ?_⟩
        k_steps
        exact done_ b2 _ _ _ (fun B e => ⟨hG.full B e, hB3 B e⟩) hG.le fun f e c m k => hopt f e b2 c m k hG.opt
    · rintro ρ' c' ⟨bi, v3, v4, v5, rfl, rfl, hI⟩
      obtain ⟨hbi, hlei, hop⟩ := hI.o
      rw [its_nats_len, List.take_length] at hop
      refine svs_nil ?_
      refine q bi ⟨fun B e => (hbi B e).1, hle1.trans hlei, fun f e c k => ?_⟩ fun B e => (hbi B e).2
      by_cases hrs : rest = []
      · have e1 := hre1 hrs
        exact bestIn.le ⟨S, e1, endsIn_S I c k⟩ hlei
      · obtain ⟨p, hp, hmin⟩ := first_of f rest hrs
        exact hop p hp f e c hmin k
  · exact hw.elim
end

section
variable {P : Program} {w : World} {K : PySem.W.Frag} {mg : Str → Option Value} {base : Heap}
theorem ok_go_all {C CE f : Addr} {fd : FuncData} (F : FunZ K "go" "Search.go" s_Search_go f fd) (f1 : Fn P w K mg base "end_of" 2 (w_end_of C)) (f2 : Fn P w K mg base "put_in" 4 (w_put_in C)) (hc : Cls K CE) (n1 : NoAttr K CE "own") (n2 : NoAttr K CE "awaited") (n3 : NoAttr K CE "beat") (n4 : NoAttr K CE "hands") (n5 : NoAttr K CE "best") (hm : Meth K CE "go" f) (hb : L2.Binds K fd ["self", "starts", "rest"] []) : ∀ d, FnOk P w K mg base CX0 (d + 5) f fd ["self", "starts", "rest"] (toSp (w_go C CE d))
  | 0 => ok_go_step F f1 f2 hc n1 n2 n3 n4 n5 0 fun d' e => by omega
  | d + 1 => ok_go_step F f1 f2 hc n1 n2 n3 n4 n5 (d + 1) fun d' e => by
    cases e
    exact ⟨f, fd, _, ok_go_all F f1 f2 hc n1 n2 n3 n4 n5 hm hb d, hc, hm, hb⟩
theorem ok_go {C CE f : Addr} {fd : FuncData} (F : FunZ K "go" "Search.go" s_Search_go f fd) (f1 : Fn P w K mg base "end_of" 2 (w_end_of C)) (f2 : Fn P w K mg base "put_in" 4 (w_put_in C)) (hc : Cls K CE) (n1 : NoAttr K CE "own") (n2 : NoAttr K CE "awaited") (n3 : NoAttr K CE "beat") (n4 : NoAttr K CE "hands") (n5 : NoAttr K CE "best") (hm : Meth K CE "go" f) (hb : L2.Binds K fd ["self", "starts", "rest"] []) : FnOk P w K mg base CX0 13 f fd ["self", "starts", "rest"] (toSp (w_go C CE 8)) := by
  exact ok_go_all F f1 f2 hc n1 n2 n3 n4 n5 hm hb 8
end
/-! ### the earliest, plainly -/
/-- what is promised of the starts told -/
structure EarlP (h : Hs) (W : List (Nat × Nat)) (n beat : Int) (mv : List Nat) (B0 : List (Nat × Int)) (r : Option (List (Nat × Int))) : Prop where
  full : ∀ S, r = some S → FullP h W n beat mv B0 S
  opt : ∀ f e, PlanF h W n mv f → (∀ q ∈ B0, f q.1 = q.2) → (∀ p ∈ mv, p ∉ B0.map (·.1) → beat ≤ f p) → endsIn h mv f e → bestIn h r e
theorem EarlP.none {h : Hs} {W : List (Nat × Nat)} {n beat : Int} {mv : List Nat} {B0 : List (Nat × Int)} (hno : ∀ f, PlanF h W n mv f → (∀ q ∈ B0, f q.1 = q.2) → (∀ p ∈ mv, p ∉ B0.map (·.1) → beat ≤ f p) → False) : EarlP h W n beat mv B0 none :=
  ⟨fun S e => (nomatch e), fun f e a b c _ => (hno f a b c).elim⟩
/-- begun moves -/
structure Begun (h : Hs) (mv : List Nat) (beat : Int) (B0 : List (Nat × Int)) : Prop where
  nd : (B0.map (·.1)).Nodup
  sub : ∀ q ∈ B0, q.1 ∈ mv
  lt : ∀ q ∈ B0, 0 ≤ q.2 ∧ q.2 < beat
section
variable {h : Hs} {W : List (Nat × Nat)} {n beat : Int} {mv : List Nat} {B0 : List (Nat × Int)}
/-- one that begun waits for one that has not -/
theorem Begun.no_wait (ho : h.ok) (hlt : ∀ p ∈ mv, p < h.ps.length) (b : Begun h mv beat B0) (dom : ∀ p o, gN W p = some o → o ∈ mv) {q : Nat × Int} (hq : q ∈ B0) {o : Nat} (hw : gN W q.1 = some o) (hn : o ∉ B0.map (·.1)) : ∀ f, PlanF h W n mv f → (∀ q ∈ B0, f q.1 = q.2) → (∀ p ∈ mv, p ∉ B0.map (·.1) → beat ≤ f p) → False := fun f pl h1 h2 => by
  have a := pl.wt _ (b.sub q hq) o hw
  have c := h2 o (dom _ o hw) hn
  have d := h1 q hq
  have e := (b.lt q hq).2
  have g := (h.bt_pos ho (hlt o (dom _ o hw))).1
  omega
theorem load_sub (ho : h.ok) {f : Nat → Int} {ks : List Nat} (hn : ks.Nodup) (hs : ∀ p ∈ ks, p ∈ mv) (hm : mv.Nodup) (t : Int) : loadS h (mvS ks f) t ≤ loadS h (mvS mv f) t := by
  have pm : (ks ++ mv.filter fun p => !decide (p ∈ ks)).Perm mv := by
    refine (List.perm_ext_iff_of_nodup (List.nodup_append.mpr ⟨hn, hm.filter _, fun a ha b hb e => ?_⟩) hm).mpr fun x => ?_
    · have := (List.mem_filter.mp hb).2
      rw [← e] at this
      simp [ha] at this
    · rw [List.mem_append, List.mem_filter]
      by_cases e : x ∈ ks
      · simp [e, hs x e]
      · simp [e]
  have e := loadS_perm (h := h) (pm.map fun p => (p, f p)) t
  rw [List.map_append, loadS_app] at e
  have := loadS_nn ho ((mv.filter fun p => !decide (p ∈ ks)).map fun p => (p, f p)) t
  unfold mvS
  omega
/-- the begun ones do not come out -/
theorem Begun.no_come (ho : h.ok) (hm : mv.Nodup) (b : Begun h mv beat B0) (hw : ∀ q ∈ B0, ∀ o, gN W q.1 = some o → o ∈ B0.map (·.1)) (hc : comesB h W B0 n = false) : ∀ f, PlanF h W n mv f → (∀ q ∈ B0, f q.1 = q.2) → (∀ p ∈ mv, p ∉ B0.map (·.1) → beat ≤ f p) → False := fun f pl h1 h2 => by
  have e1 : B0 = mvS (B0.map (·.1)) f := by
    unfold mvS
    rw [List.map_map]
    exact ((List.map_congr_left fun q hq => by show (q.1, f q.1) = id q; rw [h1 q hq]; rfl).trans (List.map_id B0)).symm
  have ok : Okay h W n B0 := by
    refine ⟨b.nd, fun q hq o ho' => ?_, fun t => ?_⟩
    · obtain ⟨r, hr, er⟩ := List.mem_map.mp (hw q hq o ho')
      have a := pl.wt _ (b.sub q hq) o ho'
      have c := h1 q hq
      have d := h1 r hr
      rw [er] at d
      exact ⟨r.2, by rw [← er]; exact hr, by omega⟩
    · rw [e1]
      refine Int.le_trans (load_sub ho b.nd (fun p hp => ?_) hm t) (pl.ld t)
      obtain ⟨q, hq, rfl⟩ := List.mem_map.mp hp
      exact b.sub q hq
  rw [ok.waitB] at hc
  cases hc
/-- one of the rest takes too many -/
theorem Begun.no_hand (ho : h.ok) (hlt : ∀ p ∈ mv, p < h.ps.length) (hm : mv.Nodup) {p : Nat} (hp : p ∈ mv) (hh : ¬ h.hd p ≤ n) : ∀ f, PlanF h W n mv f → (∀ q ∈ B0, f q.1 = q.2) → (∀ p ∈ mv, p ∉ B0.map (·.1) → beat ≤ f p) → False := fun f pl _ _ => by
  have a := load_sub ho (ks := [p]) (f := f) (by simp) (fun x hx => by rw [List.mem_singleton.mp hx]; exact hp) hm (f p)
  have b := pl.ld (f p)
  have c : loadS h (mvS [p] f) (f p) = h.hd p := by
    show loadS h [(p, f p)] (f p) = _
    have hon : onB h (f p) (p, f p) = true := onB_iff.mpr ⟨Int.le_refl _, by have := (h.bt_pos ho (hlt p hp)).1; show f p < f p + h.bt p; omega⟩
    rw [loadS_cons, loadS_nil, if_pos hon]
    show h.hd p + 0 = h.hd p
    omega
  omega
/-- the search begins -/
theorem Begun.start (ho : h.ok) (hn : 0 ≤ n) (hlt : ∀ p ∈ mv, p < h.ps.length) (hm : mv.Nodup) (hl : mv.length ≤ 8) (b : Begun h mv beat B0) (dom : ∀ p o, gN W p = some o → o ∈ mv) (hw : ∀ p o, gN W p = some o → p ∈ B0.map (·.1) → o ∈ B0.map (·.1)) (hc : comesB h W B0 n = true) (hh : ∀ p ∈ mv.filter (fun p => !decide (p ∈ B0.map (·.1))), h.hd p ≤ n) :
    SrchI h W n beat mv B0 B0 (mv.filter fun p => !decide (p ∈ B0.map (·.1))) := by
  refine ⟨Okay.of ho hn b.nd hw hc, ?_, hm, hlt, hh, dom, fun q hq => hq, fun q hq => .inl hq, fun p hp => ?_, hl⟩
  · refine (List.perm_ext_iff_of_nodup (List.nodup_append.mpr ⟨b.nd, hm.filter _, fun a ha c hc e => ?_⟩) hm).mpr fun x => ?_
    · have := (List.mem_filter.mp hc).2
      rw [← e] at this
      simp only [Bool.not_eq_true', decide_eq_false_iff_not] at this
      exact this ha
    · rw [List.mem_append, List.mem_filter]
      by_cases e : x ∈ B0.map (·.1)
      · obtain ⟨q, hq, rfl⟩ := List.mem_map.mp e
        simp [e, b.sub q hq]
      · simp [e]
  · have := (List.mem_filter.mp hp).2
    simp only [Bool.not_eq_true', decide_eq_false_iff_not] at this
    exact this
/-- a plan that goes on is a candidate -/
theorem Begun.cand (b : Begun h mv beat B0) {f : Nat → Int} (pl : PlanF h W n mv f) (h1 : ∀ q ∈ B0, f q.1 = q.2) (h2 : ∀ p ∈ mv, p ∉ B0.map (·.1) → beat ≤ f p) : Cand h W n beat mv B0 (mv.filter fun p => !decide (p ∈ B0.map (·.1))) f := by
  have key : ∀ r ∈ mv.filter (fun p => !decide (p ∈ B0.map (·.1))), beat ≤ f r := fun r hr => by
    obtain ⟨a, c⟩ := List.mem_filter.mp hr
    simp only [Bool.not_eq_true', decide_eq_false_iff_not] at c
    exact h2 r a c
  refine ⟨pl, fun q hq => Int.le_of_eq (h1 q hq).symm, fun q hq r hr => ?_, key⟩
  have a := key r hr
  have c := (b.lt q hq).2
  have d := h1 q hq
  omega
end

def w_earliest (C : Addr) : FSp := fun ms cs R _ => match ms with
  | [.frz hv, .frz d1, .frz d2, .frz bd, .frz (.int beat), .frz (.int n)] => ∃ (h : Hs) (xs ys : List (Option Int)) (ds : List Dv) (B0 : List (Nat × Int)), hv = h.dv C ∧ h.ok ∧ d1 = plT xs ∧ d2 = plT ys ∧ xs.length = h.ps.length ∧ ys.length = h.ps.length ∧ bd = .ptp ds ∧ RowsN ds B0 ∧ Begun h (movP xs ys) beat B0 ∧ (0 ≤ beat ∧ beat ≤ 12) ∧ 0 ≤ n ∧
      ∀ r, EarlP h (waP xs ys) n beat (movP xs ys) B0 r → (∀ S, r = some S → Bnd S) → R (.frz (bD r)) cs
  | _ => False
theorem gS_isSome {S : List (Nat × Int)} {p : Nat} : (gS S p).isSome = decide (p ∈ S.map (·.1)) := by
  by_cases e : p ∈ S.map (·.1)
  · obtain ⟨s, hs⟩ := gS_some e
    rw [hs, decide_eq_true e]; rfl
  · rw [decide_eq_false e]
    unfold gS
    cases e2 : S.find? (fun x : Nat × Int => decide (x.1 = p)) with
    | none => rfl
    | some r =>
      have z := List.find?_some e2
      exact (e (List.mem_map.mpr ⟨r, List.mem_of_find?_eq_some e2, of_decide_eq_true z⟩)).elim
theorem inM_dS {cs : Cs} {S : List (Nat × Int)} {p : Nat} : InM cs (.frz (nI p)) (.frz (.dct (dS S))) (decide (p ∈ S.map (·.1))) := by
  have z := InM.dki (cs := cs) (l := dS S) (i := ((p : Nat) : Int))
  rw [lookK_dS, Option.isSome_map, Option.isSome_map, gS_isSome] at z
  exact z
section
local macro_rules | `(tactic| k_put) => `(tactic| first
  | ((with_reducible show EV _ _ (.Call (.Name _ _) [.Name _ _] [] _) _ _ _); refine ev_dictT (by assumption) ?_)
  | ((with_reducible show EV _ _ (.Call (.Attribute _ _ _) [.Name _ _, .Name _ _] [] _) _ _ _); refine ev_dget2 (by assumption) ?_)
  | ((with_reducible show IV _ _ (.Name _ _) (.Name _ _) _ _ _); refine iv_stop ?_))
variable {P : Program} {w : World} {K : PySem.W.Frag} {mg : Str → Option Value} {base : Heap}
theorem ok_earliest {C CE f : Addr} {fd : FuncData} (F : FunZ K "earliest" "earliest" s_earliest f fd) (f1 : Fn P w K mg base "moving" 1 w_moving) (f2 : Fn P w K mg base "waiting" 2 w_waiting) (f3 : Fn P w K mg base "comes_out" 3 (w_comes_out C)) (f4 : Mth P w K mg base C "hands_of" 1 (w_hands_of C)) (f5 : Mkr P w K mg base "Search" CE 1 (w_search_init CE)) (f6 : Mth P w K mg base CE "go" 13 (w_go C CE 8)) (hc : Cls K CE) (n5 : NoAttr K CE "best") (g1 : mg "dict" = none) (g2 : mg "all" = none) : FnOk P w K mg base CX0 14 f fd ["house", "first", "then", "begun", "beat", "hands"] (toSp (w_earliest C)) := by
  refine def_ok F sc_earliest (by intro ms cs R Z h; unfold w_earliest at h; split at h; rfl; exact h.elim) fun cdv A outer s H E a ms cs R Zx hr hw => ?_
  have nd := sc_earliest.nd
  have sc := sc_earliest
  have hu : (XZ P w K mg base n_earliest "earliest" s_earliest f cdv A outer s H E).A.units + 1 < cLine := hu_of hr
  have hu64 : (XZ P w K mg base n_earliest "earliest" s_earliest f cdv A outer s H E).A.units + 64 < cLine := by have := hr.un; show (A.deeper _).units + 64 < cLine; omega
  unfold w_earliest at hw
  split at hw
  · rename_i hv d1 d2 bd beat n
    obtain ⟨h, xs, ys, ds, B0, rfl, ho, rfl, rfl, l1, l2, rfl, hRN, hbg, hbt, hn0, q⟩ := hw
    have h8 := ho.len
    have hmn := movP_nodup xs ys
    have hmlt : ∀ p ∈ movP xs ys, p < h.ps.length := fun p hp => by have := movP_lt hp; omega
    have hml : (movP xs ys).length ≤ 8 := by
      have := nodup_lt hmn (n := xs.length) fun x hx => movP_lt hx
      omega
    have hdom : ∀ p o, gN (waP xs ys) p = some o → o ∈ movP xs ys := fun p o hg => (waP_mem (gN_mem hg)).2.1
    have hBl : B0.length ≤ 8 := by
      have e := nodup_lt hbg.nd (n := h.ps.length) fun x hx => by
        obtain ⟨q, hq, rfl⟩ := List.mem_map.mp hx
        exact hmlt _ (hbg.sub q hq)
      rw [List.length_map] at e
      omega
    have okB : StOk h B0 := ⟨by omega, hbg.nd, fun q hq => hmlt _ (hbg.sub q hq)⟩
    have none_ : ∀ c, Wk c cs → (∀ f, PlanF h (waP xs ys) n (movP xs ys) f → (∀ q ∈ B0, f q.1 = q.2) → (∀ p ∈ movP xs ys, p ∉ B0.map (·.1) → beat ≤ f p) → False) → ∃ c', Wk c c' ∧ R (.frz .non) c' := fun c hw hno => ⟨cs, hw, q none (EarlP.none hno) (fun S e => (nomatch e))⟩
    refine svs_wkE ?_
    refine svs_cons ?_
    k_steps
    refine moving_use (by omega) (by omega) ?_
    k_steps
    refine ⟨xs, ys, rfl, rfl, by omega, by omega, ?_⟩
    k_steps
    refine ⟨ds, B0.map fun q => ((q.1 : Int), q.2), rfl, hRN.rows, ?_, fun D hD => ?_⟩
    · rw [List.map_map]
      exact List.pairwise_map.mpr ((List.pairwise_map.mp hbg.nd).imp fun {x y} h e => h (by have e' : (x.1 : Int) = (y.1 : Int) := e; omega))
    rw [List.map_map]
    rw [show B0.map ((fun kv : Int × Int => ((Sum.inl kv.1, Mv.frz (Dv.int kv.2)) : Key × Mv)) ∘ fun q => ((q.1 : Int), q.2)) = dSM B0 by unfold dSM dS; rw [List.map_map]; rfl]
    k_steps
    refine svs_frz D (.dct (dS B0)) (by k_same) (.hit (.same _)) ?_
    refine svs_cons (sv_for1 (by assumption) ?_)
    k_steps
    refine ⟨iv_keys ?_⟩
    k_steps
    rw [keys_dS]
    refine ⟨fun i ρ' c' => ∃ v9 : Option Mv, ρ' = [some (.frz (h.dv C)), some (.frz (plT xs)), some (.frz (plT ys)), some (.frz (.ptp ds)), some (.frz (.int beat)), some (.frz (.int n)), some (.frz (.lst ((movP xs ys).map nI))), some (.frz (.dct (dNN (waP xs ys)))), some (.frz (.dct (dS B0))), v9, none, none] ∧ c' = cs ∧ Kp (∀ q ∈ B0.take i, ∀ o, gN (waP xs ys) q.1 = some o → o ∈ B0.map (·.1)), ⟨_, rfl, rfl, Kp.i (by simp)⟩, fun _ _ _ _ _ => trivial, ?_, ?_⟩
    · rintro i it ρ' c' hi ⟨v9, rfl, rfl, hall⟩
      rw [List.getElem?_map] at hi
      obtain ⟨⟨p, s0⟩, hx, rfl⟩ := Option.map_eq_some_iff.mp hi
      have hmem := List.mem_of_getElem? hx
      replace hall := hall.o
      refine ⟨_, rfl, ?_⟩
      refine svs_cons (sv_if ?_)
      k_steps
      refine ⟨.inl (p : Int), _, rfl, DctM.frz, ?_⟩
      rw [lookK_dNN]
      k_steps
      have good : (∀ o, gN (waP xs ys) p = some o → o ∈ B0.map (·.1)) → Kp (∀ q ∈ B0.take (i + 1), ∀ o, gN (waP xs ys) q.1 = some o → o ∈ B0.map (·.1)) := fun hg => Kp.i fun q hq => by
        rw [take_snoc hx] at hq
        rcases List.mem_append.mp hq with m | m
        · exact hall q m
        · rw [List.mem_singleton.mp m]; exact hg
      cases hg : gN (waP xs ys) p with
      | none =>
        refine ⟨_, inM_dS, ?_⟩
        rw [decide_eq_true (show p ∈ B0.map (·.1) from List.mem_map.mpr ⟨_, hmem, rfl⟩)]
        k_steps
        exact good fun o ho => by rw [hg] at ho; cases ho
      | some o =>
        refine ⟨_, inM_dS, ?_⟩
        by_cases hin : o ∈ B0.map (·.1)
        · rw [decide_eq_true hin]
          k_steps
          exact good fun o' ho => by rw [hg] at ho; cases ho; exact hin
        · rw [decide_eq_false hin]
          k_units
          exact none_ _ Wk.refl (hbg.no_wait ho hmlt hdom hmem hg hin)
    · rintro ρ' c' ⟨v9, rfl, rfl, hall⟩
      replace hall := hall.o
      rw [List.length_map, List.take_length] at hall
      have hwd : ∀ p o, gN (waP xs ys) p = some o → p ∈ B0.map (·.1) → o ∈ B0.map (·.1) := fun p o hg hp => by
        obtain ⟨q, hq, rfl⟩ := List.mem_map.mp hp
        exact hall q hq o hg
      refine svs_cons (sv_if ?_)
      k_steps
      refine ⟨h, waP xs ys, B0, rfl, rfl, rfl, okB, hwd, ?_⟩
      cases hcm : comesB h (waP xs ys) B0 n with
      | false =>
        k_units
        exact none_ _ Wk.refl (hbg.no_come ho hmn (fun q hq o hg => hall q hq o hg) hcm)
      | true =>
        k_steps
        refine ⟨iv_list ?_⟩
        k_steps
        rename_i L hL
        rw [List.map_map, List.map_map]
        refine lcloop_fn (movP xs ys) _ (fun p => !decide (p ∈ B0.map (·.1))) (fun p => .frz (nI p)) (fun _ => .lst) (fun x hx acc hacc => ?_) ?_
        · refine ⟨_, rfl, ?_⟩
          k_steps
          refine ⟨_, inM_dS, ?_⟩
          generalize hB : decide (x ∈ B0.map (·.1)) = B
          cases B with
          | true => k_steps
          | false => k_steps
        have hSI := Begun.start ho hn0 hmlt hmn hml hbg hdom hwd hcm
        have hCd := fun f => hbg.cand (n := n) (W := waP xs ys) (f := f)
        have hsub : ∀ p ∈ (movP xs ys).filter (fun p => !decide (p ∈ B0.map (·.1))), p ∈ movP xs ys := fun p hp => (List.mem_filter.mp hp).1
        have hrl0 : ((movP xs ys).filter (fun p => !decide (p ∈ B0.map (·.1)))).length ≤ 8 := Nat.le_trans (List.length_filter_le _ _) hml
        generalize (movP xs ys).filter (fun p => !decide (p ∈ B0.map (·.1))) = rest at hSI hCd hsub hrl0 ⊢
        rw [show rest.map (fun p => Mv.frz (nI p)) = (rest.map nI).map Mv.frz by rw [List.map_map]; rfl]
        k_steps
        refine svs_frz L (.lst (rest.map nI)) (by k_same; exact sube_opt (.cons .hit (.same _))) (.hit (.same _)) ?_
        refine svs_cons (sv_if ?_)
        k_steps
        refine ⟨iv_list ?_⟩
        k_steps
        rename_i L2 hL2
        rw [List.map_map, List.map_map]
        refine lcloop_fn rest _ (fun _ => true) (fun p => .frz (.bl (decide (h.hd p ≤ n)))) (fun _ => .lst) (fun x hx acc hacc => ?_) ?_
        · have hxl := hmlt x (hsub x hx)
          refine ⟨_, rfl, ?_⟩
          k_steps
          refine hands_use hxl ?_
          k_steps
        have e1 : (rest.filter fun _ => true).map (fun p => Mv.frz (Dv.bl (decide (h.hd p ≤ n)))) = (rest.map fun p => decide (h.hd p ≤ n)).map fun b => Mv.frz (Dv.bl b) := by
          rw [filter_all, List.map_map]; rfl
        rw [e1]
        refine ⟨_, .cel List.mem_cons_self, ?_⟩
        have e2 : (rest.map fun p => decide (h.hd p ≤ n)).all id = rest.all fun p => decide (h.hd p ≤ n) := by
          rw [List.all_map]; rfl
        rw [e2]
        have wk2 : Wk ((L2, Cell.lst ((rest.map fun p => decide (h.hd p ≤ n)).map fun b => Mv.frz (Dv.bl b))) :: c') c' := Wk.sub (List.sublist_cons_self _ _)
        cases hal : rest.all fun p => decide (h.hd p ≤ n) with
        | false =>
          obtain ⟨p, hp, hpn⟩ : ∃ p ∈ rest, ¬ h.hd p ≤ n := by
            obtain ⟨p, hp, hf⟩ := List.all_eq_false.mp hal
            exact ⟨p, hp, fun z => hf (decide_eq_true z)⟩
          k_units
          exact none_ _ wk2 (Begun.no_hand ho hmlt hmn (hsub p hp) hpn)
        | true =>
          have hS2 := hSI fun p hp => of_decide_eq_true (List.all_eq_true.mp hal p hp)
          have hrl : rest.length ≤ 8 := by have := hS2.cnt; omega
          have hBn : Bnd B0 := fun q hq => by
            have := hbg.lt q hq
            omega
          k_steps
          rename_i p hp
          refine ⟨_, rfl, ?_⟩
          k_steps
          · rfl
          refine ⟨h, waP xs ys, n, beat, movP xs ys, B0, B0, rest, none, _, rfl, rfl, ho, rfl, hrl, hS2, hBn, hbt, (fun B e => (nomatch e)), fun b2 hG hB3 => ?_⟩
          k_units
          exact ⟨c', (Wk.sub (List.sublist_cons_self _ _)).trans wk2, q b2 ⟨hG.full, fun f e pl h1 h2 k => hG.opt f e (hCd f pl h1 h2) k⟩ hB3⟩
  · exact hw.elim
end

/-! ### the least time, plainly -/
/-- a plan that ends in e -/
structure Fits (h : Hs) (W : List (Nat × Nat)) (n : Int) (mv : List Nat) (e : Int) (f : Nat → Int) : Prop where
  pl : PlanF h W n mv f
  nn : ∀ p ∈ mv, 0 ≤ f p
  en : endsIn h mv f e
/-- there is a plan in the time e -/
def CanIn (h : Hs) (W : List (Nat × Nat)) (n : Int) (mv : List Nat) (e : Int) : Prop := ∃ f, Fits h W n mv e f
theorem CanIn.mono {h : Hs} {W : List (Nat × Nat)} {n : Int} {mv : List Nat} {e e' : Int} (c : CanIn h W n mv e) (le : e ≤ e') : CanIn h W n mv e' := by
  obtain ⟨f, a, b, c, d⟩ := c
  exact ⟨f, a, b, by omega, fun p hp => by have := d p hp; omega⟩
theorem CanIn.nn {h : Hs} {W : List (Nat × Nat)} {n : Int} {mv : List Nat} {e : Int} (c : CanIn h W n mv e) : 0 ≤ e := by
  obtain ⟨f, a, b, c, d⟩ := c
  exact c
/-- the least time -/
def LeastP (h : Hs) (W : List (Nat × Nat)) (n : Int) (mv : List Nat) : Option Int → Prop
  | none => ∀ e, ¬ CanIn h W n mv e
  | some m => CanIn h W n mv m ∧ ∀ e, CanIn h W n mv e → m ≤ e
theorem LeastP.uniq {h : Hs} {W : List (Nat × Nat)} {n : Int} {mv : List Nat} {a b : Option Int} (x : LeastP h W n mv a) (y : LeastP h W n mv b) : a = b := by
  cases a with
  | none =>
    cases b with
    | none => rfl
    | some m => exact (x m y.1).elim
  | some k =>
    cases b with
    | none => exact (y k x.1).elim
    | some m =>
      have := x.2 m y.1
      have := y.2 k x.1
      rw [show k = m by omega]
theorem LeastP.can {h : Hs} {W : List (Nat × Nat)} {n : Int} {mv : List Nat} {m : Option Int} (x : LeastP h W n mv m) {e : Int} : CanIn h W n mv e ↔ ∃ k, m = some k ∧ k ≤ e := by
  refine ⟨fun c => ?_, fun ⟨k, hk, le⟩ => by subst hk; exact x.1.mono le⟩
  cases m with
  | none => exact (x e c).elim
  | some k => exact ⟨k, rfl, x.2 e c⟩
/-- starts as a function -/
def fS (S : List (Nat × Int)) (p : Nat) : Int := (gS S p).getD 0
theorem fS_mvS {S : List (Nat × Int)} (hn : (S.map (·.1)).Nodup) : mvS (S.map (·.1)) (fS S) = S := by
  unfold mvS
  rw [List.map_map]
  refine (List.map_congr_left fun q hq => ?_).trans (List.map_id S)
  show (q.1, (gS S q.1).getD 0) = id q
  rw [gS_mem hn hq]; rfl
theorem fS_mem {S : List (Nat × Int)} (hn : (S.map (·.1)).Nodup) {q : Nat × Int} (hq : q ∈ S) : fS S q.1 = q.2 := by
  unfold fS
  rw [gS_mem hn hq]; rfl
theorem Okay.planF {h : Hs} {W : List (Nat × Nat)} {n : Int} {mv : List Nat} {S : List (Nat × Int)} (k : Okay h W n S) (pm : (S.map (·.1)).Perm mv) : PlanF h W n mv (fS S) := by
  refine ⟨fun p hp o ho => ?_, fun t => ?_⟩
  · obtain ⟨q, hq, rfl⟩ := List.mem_map.mp (pm.mem_iff.mpr hp)
    obtain ⟨so, h1, h2⟩ := k.wt q hq o ho
    rw [fS_mem k.nd hq, fS_mem (q := (o, so)) k.nd h1]
    exact h2
  · have e := loadS_perm (h := h) (pm.map fun p => (p, fS S p)) t
    show loadS h (mv.map fun p => (p, fS S p)) t ≤ n
    rw [← e]
    show loadS h (mvS (S.map (·.1)) (fS S)) t ≤ n
    rw [fS_mvS k.nd]
    exact k.ld t
theorem Okay.endsIn {h : Hs} {W : List (Nat × Nat)} {n : Int} {mv : List Nat} {S : List (Nat × Int)} (k : Okay h W n S) (pm : (S.map (·.1)).Perm mv) {e : Int} (he : endS h S ≤ e) : endsIn h mv (fS S) e := by
  obtain ⟨a, b⟩ := endS_le.mp he
  refine ⟨a, fun p hp => ?_⟩
  obtain ⟨q, hq, rfl⟩ := List.mem_map.mp (pm.mem_iff.mpr hp)
  rw [fS_mem k.nd hq]
  exact b q hq
theorem PlanF.okay {h : Hs} {W : List (Nat × Nat)} {n : Int} {mv : List Nat} (hm : mv.Nodup) (dom : ∀ p ∈ mv, ∀ o, gN W p = some o → o ∈ mv) {f : Nat → Int} (k : PlanF h W n mv f) : Okay h W n (mvS mv f) := by
  refine ⟨by rw [mvS_keys]; exact hm, fun q hq o ho => ?_, k.ld⟩
  obtain ⟨p, hp, rfl⟩ := List.mem_map.mp hq
  exact ⟨f o, List.mem_map.mpr ⟨o, dom p hp o ho, rfl⟩, k.wt p hp o ho⟩
theorem endS_mvS {h : Hs} {mv : List Nat} {f : Nat → Int} {e : Int} (k : endsIn h mv f e) : endS h (mvS mv f) ≤ e := endS_le.mpr ⟨k.1, fun q hq => by
  obtain ⟨p, hp, rfl⟩ := List.mem_map.mp hq
  exact k.2 p hp⟩
/-- starts told for a change from nothing begun -/
theorem EarlP.least {h : Hs} {W : List (Nat × Nat)} {n : Int} {mv : List Nat} {r : Option (List (Nat × Int))} (x : EarlP h W n 0 mv [] r) : LeastP h W n mv (r.map (endS h)) := by
  have canS : ∀ S, r = some S → CanIn h W n mv (endS h S) := fun S e => by
    have f := x.full S e
    refine ⟨fS S, f.ok.planF f.pm, fun p hp => ?_, f.ok.endsIn f.pm (Int.le_refl _)⟩
    obtain ⟨q, hq, rfl⟩ := List.mem_map.mp (f.pm.mem_iff.mpr hp)
    rw [fS_mem f.ok.nd hq]
    rcases f.late q hq with z | z
    · cases z
    · exact z.1
  have low : ∀ e, CanIn h W n mv e → bestIn h r e := fun e ⟨f, a, b, c⟩ => x.opt f e a (fun q hq => by cases hq) (fun p hp _ => b p hp) c
  cases r with
  | none =>
    intro e c
    obtain ⟨B, hB, _⟩ := low e c
    cases hB
  | some S =>
    refine ⟨canS S rfl, fun e c => ?_⟩
    obtain ⟨B, hB, hl⟩ := low e c
    cases hB
    exact hl
def oI : Option Int → Dv
  | none => .non
  | some i => .int i
def w_least (C : Addr) : FSp := fun ms cs R _ => match ms with
  | [.frz hv, .frz d1, .frz d2] => ∃ (h : Hs) (xs ys : List (Option Int)), hv = h.dv C ∧ h.ok ∧ d1 = plT xs ∧ d2 = plT ys ∧ isScene h (plT xs) = true ∧ isScene h (plT ys) = true ∧ ∀ m, LeastP h (waP xs ys) h.N (movP xs ys) m → (∀ k, m = some k → k ≤ 200) → R (.frz (oI m)) cs
  | _ => False
/-- what plan tells -/
structure PlanP (h : Hs) (W : List (Nat × Nat)) (n : Int) (mv : List Nat) (t : Int) (r : Option (List (Nat × Int))) : Prop where
  no : r = none → ¬ CanIn h W n mv t
  ok : ∀ T, r = some T → Okay h W n T
  ks : ∀ T, r = some T → T.map (·.1) = mv
  nn : ∀ T, r = some T → ∀ q ∈ T, 0 ≤ q.2
  en : ∀ T, r = some T → endS h T ≤ t
  lo : ∀ T, r = some T → LeastP h W n mv (some (endS h T))
def oP : Option (List (Nat × Int)) → Dv
  | none => .non
  | some T => .ptp (T.map rowD)
def w_plan (C : Addr) : FSp := fun ms cs R _ => match ms with
  | [.frz hv, .frz d1, .frz d2, .frz (.int t)] => ∃ (h : Hs) (xs ys : List (Option Int)), hv = h.dv C ∧ h.ok ∧ d1 = plT xs ∧ d2 = plT ys ∧ isScene h (plT xs) = true ∧ isScene h (plT ys) = true ∧ (0 ≤ t ∧ t ≤ 60) ∧ ∀ r, PlanP h (waP xs ys) h.N (movP xs ys) t r → R (.frz (oP r)) cs
  | _ => False
theorem earl_use {C : Addr} {h : Hs} {xs ys : List (Option Int)} {n : Int} {cs : Cs} {R : Mv → Cs → Prop} {Z} (ho : h.ok) (l1 : xs.length = h.ps.length) (l2 : ys.length = h.ps.length) (hn : 0 ≤ n) (q : ∀ r, EarlP h (waP xs ys) n 0 (movP xs ys) [] r → (∀ S, r = some S → Bnd S) → R (.frz (bD r)) cs) :
    w_earliest C [.frz (h.dv C), .frz (plT xs), .frz (plT ys), .frz (.ptp []), .frz (.int 0), .frz (.int n)] cs R Z :=
  ⟨h, xs, ys, [], [], rfl, ho, rfl, rfl, l1, l2, rfl, .nil, ⟨by simp, by simp, by simp⟩, ⟨by decide, by decide⟩, hn, q⟩
theorem EarlP.bnd {h : Hs} (ho : h.ok) {W : List (Nat × Nat)} {n beat : Int} {mv : List Nat} {B0 : List (Nat × Int)} {r : Option (List (Nat × Int))} (x : EarlP h W n beat mv B0 r) (hl : mv.length ≤ 8) (hB : ∀ S, r = some S → Bnd S) : ∀ S, r = some S → endS h S ≤ 104 := fun S e => by
  have f := x.full S e
  have c := f.pm.length_eq
  rw [List.length_map] at c
  exact endS_max ho (m := 100) (by decide) fun q hq => by have := hB S e q hq; omega

/-! ### one behind the other -/
def seqS (h : Hs) : Int → List Nat → List (Nat × Int)
  | _, [] => []
  | b, p :: l => (p, b) :: seqS h (b + h.bt p) l
def btSum (h : Hs) (l : List Nat) : Int := (l.map h.bt).sum
theorem btSum_cons (h : Hs) (p : Nat) (l : List Nat) : btSum h (p :: l) = h.bt p + btSum h l := by
  unfold btSum
  rw [List.map_cons, List.sum_cons]
theorem btSum_nn {h : Hs} (ho : h.ok) (l : List Nat) : 0 ≤ btSum h l := by
  induction l with
  | nil => exact Int.le_refl _
  | cons p l ih =>
    rw [btSum_cons]
    have := (bt_nn ho p).1
    omega
theorem btSum_perm {h : Hs} {l m : List Nat} (hp : l.Perm m) : btSum h l = btSum h m := by
  induction hp with
  | nil => rfl
  | cons x _ ih => rw [btSum_cons, btSum_cons, ih]
  | swap x y l => rw [btSum_cons, btSum_cons, btSum_cons, btSum_cons]; omega
  | trans _ _ a b => rw [a, b]
theorem seqS_keys (h : Hs) : ∀ (b : Int) (l : List Nat), (seqS h b l).map (·.1) = l
  | _, [] => rfl
  | b, p :: l => by
    show p :: (seqS h (b + h.bt p) l).map (·.1) = p :: l
    rw [seqS_keys]
theorem seqS_at {h : Hs} (ho : h.ok) : ∀ {l : List Nat} {b : Int} {q : Nat × Int}, q ∈ seqS h b l → b ≤ q.2 ∧ q.2 + h.bt q.1 ≤ b + btSum h l
  | [], _, _, hq => by cases hq
  | p :: l, b, q, hq => by
    rw [btSum_cons]
    have h1 := (bt_nn ho p).1
    have h2 := btSum_nn ho l
    rcases List.mem_cons.mp hq with rfl | hq
    · show b ≤ b ∧ b + h.bt p ≤ _
      omega
    · have := seqS_at ho hq
      omega
theorem seqS_apart {h : Hs} (ho : h.ok) : ∀ (l : List Nat) (b : Int), (seqS h b l).Pairwise fun x y => x.2 + h.bt x.1 ≤ y.2
  | [], _ => .nil
  | p :: l, b => List.pairwise_cons.mpr ⟨fun q hq => (seqS_at ho hq).1, seqS_apart ho l _⟩
theorem load_zero {h : Hs} {S : List (Nat × Int)} {t : Int} (hz : ∀ q ∈ S, onB h t q = false) : loadS h S t = 0 := by
  have e : S.filter (onB h t) = [] := List.filter_eq_nil_iff.mpr fun q hq => by rw [hz q hq]; exact Bool.false_ne_true
  rw [← loadS_filter, e]; rfl
theorem load_apart {h : Hs} {n : Int} (hn : 0 ≤ n) {t : Int} : ∀ {S : List (Nat × Int)}, (S.Pairwise fun x y => x.2 + h.bt x.1 ≤ y.2) → (∀ q ∈ S, h.hd q.1 ≤ n) → loadS h S t ≤ n
  | [], _, _ => hn
  | q :: S, hp, hh => by
    obtain ⟨h1, h2⟩ := List.pairwise_cons.mp hp
    rw [loadS_cons]
    by_cases e : onB h t q = true
    · have z := onB_iff.mp e
      rw [if_pos e, load_zero fun r hr => ?_]
      · have := hh q List.mem_cons_self
        omega
      · cases e2 : onB h t r with
        | false => rfl
        | true =>
          have := onB_iff.mp e2
          have := h1 r hr
          omega
    · rw [if_neg e]
      have := load_apart hn (t := t) h2 fun r hr => hh r (List.mem_cons_of_mem _ hr)
      omega
theorem ins_sorted (f : Nat → Int) : ∀ (l : List Nat), ∃ m : List Nat, m.Perm l ∧ m.Pairwise fun x y => f x ≤ f y
  | [] => ⟨[], .refl _, .nil⟩
  | p :: l => by
    obtain ⟨x, hx, hmin⟩ := first_of f (p :: l) (by simp)
    obtain ⟨m, hm, hs⟩ := ins_sorted f ((p :: l).erase x)
    exact ⟨x :: m, (List.Perm.cons x hm).trans (List.perm_cons_erase hx).symm, List.pairwise_cons.mpr ⟨fun y hy => hmin y (List.mem_of_mem_erase (hm.mem_iff.mp hy)), hs⟩⟩
termination_by l => l.length
decreasing_by
  rw [List.length_erase_of_mem hx]
  simp
/-- all one behind the other, in the order of a plan -/
theorem PlanF.seq {h : Hs} (ho : h.ok) {W : List (Nat × Nat)} {n : Int} {mv : List Nat} (hm : mv.Nodup) (hlt : ∀ p ∈ mv, p < h.ps.length) (dom : ∀ p o, gN W p = some o → o ∈ mv) (hw : ∃ f : Nat → Int, ∀ p ∈ mv, ∀ o, gN W p = some o → f o < f p) (hn : 0 ≤ n) (hh : ∀ p ∈ mv, h.hd p ≤ n) : CanIn h W n mv (btSum h mv) := by
  obtain ⟨f, hw⟩ := hw
  obtain ⟨l, hl, hs⟩ := ins_sorted f mv
  have hk := seqS_keys h 0 l
  have ap := seqS_apart ho l 0
  have lnd : l.Nodup := hl.symm.nodup hm
  have ok : Okay h W n (seqS h 0 l) := by
    refine ⟨by rw [hk]; exact lnd, fun q hq o ho' => ?_, fun t => load_apart hn ap fun q hq => hh _ (hl.mem_iff.mp (by rw [← hk]; exact List.mem_map.mpr ⟨q, hq, rfl⟩))⟩
    have hqm : q.1 ∈ mv := hl.mem_iff.mp (by rw [← hk]; exact List.mem_map.mpr ⟨q, hq, rfl⟩)
    have hom := dom _ o ho'
    have hlt' := hw _ hqm o ho'
    obtain ⟨r, hr, er⟩ := List.mem_map.mp (show o ∈ (seqS h 0 l).map (·.1) by rw [hk]; exact hl.mem_iff.mpr hom)
    refine ⟨r.2, by rw [← er]; exact hr, ?_⟩
    rw [← er]
    obtain ⟨i, hi, ei⟩ := List.mem_iff_getElem.mp hr
    obtain ⟨j, hj, ej⟩ := List.mem_iff_getElem.mp hq
    have len : (seqS h 0 l).length = l.length := by have := congrArg List.length hk; rw [List.length_map] at this; exact this
    have ki : l[i]'(by omega) = o := by
      have e1 : ((seqS h 0 l).map (·.1))[i]'(by rw [List.length_map]; exact hi) = o := by rw [List.getElem_map, ei, er]
      simpa only [hk] using e1
    have kj : l[j]'(by omega) = q.1 := by
      have e1 : ((seqS h 0 l).map (·.1))[j]'(by rw [List.length_map]; exact hj) = q.1 := by rw [List.getElem_map, ej]
      simpa only [hk] using e1
    have hij : i < j := by
      rcases Nat.lt_trichotomy i j with c | c | c
      · exact c
      · subst c
        rw [ki] at kj
        rw [kj] at hlt'
        omega
      · have z := List.pairwise_iff_getElem.mp hs j i (by omega) (by omega) c
        rw [kj, ki] at z
        omega
    have z := List.pairwise_iff_getElem.mp ap i j hi hj hij
    rw [ei, ej] at z
    exact z
  have pm : ((seqS h 0 l).map (·.1)).Perm mv := by rw [hk]; exact hl
  refine ⟨fS (seqS h 0 l), ok.planF pm, fun p hp => ?_, ok.endsIn pm (endS_le.mpr ⟨btSum_nn ho mv, fun q hq => ?_⟩)⟩
  · obtain ⟨q, hq, rfl⟩ := List.mem_map.mp (pm.mem_iff.mpr hp)
    rw [fS_mem ok.nd hq]
    exact (seqS_at ho hq).1
  · have := (seqS_at ho hq).2
    rw [btSum_perm hl] at this
    omega
theorem PlanF.hands {h : Hs} (ho : h.ok) {W : List (Nat × Nat)} {n : Int} {mv : List Nat} (hm : mv.Nodup) (hlt : ∀ p ∈ mv, p < h.ps.length) {f : Nat → Int} (pl : PlanF h W n mv f) : ∀ p ∈ mv, h.hd p ≤ n := fun p hp => by
  have a := load_sub ho (ks := [p]) (f := f) (by simp) (fun x hx => by rw [List.mem_singleton.mp hx]; exact hp) hm (f p)
  have b := pl.ld (f p)
  have hon : onB h (f p) (p, f p) = true := onB_iff.mpr ⟨Int.le_refl _, by have := (h.bt_pos ho (hlt p hp)).1; show f p < f p + h.bt p; omega⟩
  have c : loadS h (mvS [p] f) (f p) = h.hd p := by
    show loadS h [(p, f p)] (f p) = _
    rw [loadS_cons, loadS_nil, if_pos hon]
    show h.hd p + 0 = h.hd p
    omega
  omega
/-- if there is a plan at all, there is one in all beats together -/
theorem CanIn.total {h : Hs} (ho : h.ok) {W : List (Nat × Nat)} {n : Int} {mv : List Nat} (hm : mv.Nodup) (hlt : ∀ p ∈ mv, p < h.ps.length) (dom : ∀ p o, gN W p = some o → o ∈ mv) (hn : 0 ≤ n) {e : Int} (c : CanIn h W n mv e) : CanIn h W n mv (btSum h mv) := by
  obtain ⟨f, pl, _, _⟩ := c
  exact PlanF.seq ho hm hlt dom ⟨f, fun p hp o hw => by
    have := pl.wt p hp o hw
    have := (h.bt_pos ho (hlt o (dom p o hw))).1
    omega⟩ hn (pl.hands ho hm hlt)

theorem eqv_bl (b : Bool) : PyData.eqv (Dv.bl b).py (Dv.bl b).py = true := by cases b <;> rfl

theorem perm_st {h : Hs} {xs ys : List (Option Int)} {S : List (Nat × Int)} (ho : h.ok) (hl : xs.length = h.ps.length) (hp : (S.map (·.1)).Perm (movP xs ys)) : StOk h S ∧ S.length ≤ 8 := by
  have h8 := ho.len
  have hnd := movP_nodup xs ys
  have hml : (movP xs ys).length ≤ 8 := by
    have := nodup_lt hnd (n := xs.length) fun x hx => movP_lt hx
    omega
  have e := hp.length_eq
  rw [List.length_map] at e
  refine ⟨⟨by omega, hp.symm.nodup hnd, fun q hq => ?_⟩, by omega⟩
  have := movP_lt (hp.mem_iff.mp (List.mem_map.mpr ⟨q, hq, rfl⟩))
  omega

theorem movP_up (xs ys : List (Option Int)) : (movP xs ys).Pairwise (· < ·) := List.Pairwise.filter _ List.pairwise_lt_range
theorem keys_eq {T : List (Nat × Int)} {mv : List Nat} (hp : (T.map (·.1)).Perm mv) (hT : T.Pairwise fun x y => x.1 < y.1) (hm : mv.Pairwise (· < ·)) : T.map (·.1) = mv :=
  List.Perm.eq_of_pairwise (le := fun x y => x < y) (fun a b _ _ h1 h2 => by omega) (List.pairwise_map.mpr hT) hm hp
def w_asplan : FSp := fun ms cs R _ => match ms with
  | [.frz d] => ∃ S : List (Nat × Int), d = .dct (dS S) ∧ (S.map (·.1)).Nodup ∧ S.length ≤ 60 ∧ ∀ T : List (Nat × Int), T.Perm S → (T.Pairwise fun x y => x.1 < y.1) → R (.frz (.ptp (T.map rowD))) cs
  | _ => False
def nat2 (y : Int × Int) : Nat × Int := (y.1.toNat, y.2)
def int2 (q : Nat × Int) : Int × Int := ((q.1 : Int), q.2)
theorem nat2_int2 (S : List (Nat × Int)) : (S.map int2).map nat2 = S := by
  rw [List.map_map]
  exact (List.map_congr_left fun q _ => by show ((q.1 : Int).toNat, q.2) = id q; rw [Int.toNat_natCast]; rfl).trans (List.map_id S)
section
local macro_rules | `(tactic| k_put) => `(tactic| first
  | ((with_reducible show EV _ _ (.Call (.Name _ _) [.Call (.Name _ _) [.Call (.Attribute _ _ _) [] [] _] [] _] [] _) _ _ _); refine ev_tupN (by assumption) ?_)
  | ((with_reducible show EV _ _ (.Call (.Name _ _) [.Call (.Attribute _ _ _) [] [] _] [] _) _ _ _); refine ev_sortedIt ?_ (by assumption)))
variable {P : Program} {w : World} {K : PySem.W.Frag} {mg : Str → Option Value} {base : Heap}
theorem ok_asplan {f : Addr} {fd : FuncData} (F : FunZ K "as_plan" "as_plan" s_as_plan f fd) (g1 : mg "tuple" = none) (g2 : mg "sorted" = none) : FnOk P w K mg base CX0 1 f fd ["starts"] (toSp w_asplan) := by
  refine def_ok F sc_as_plan (by intro ms cs R Z h; unfold w_asplan at h; split at h; rfl; exact h.elim) fun cdv A outer s H E a ms cs R Zx hr hw => ?_
  have nd := sc_as_plan.nd
  have sc := sc_as_plan
  unfold w_asplan at hw
  split at hw
  · obtain ⟨S, rfl, hn, h60, q⟩ := hw
    refine svs_wkE ?_
    k_units
    refine ⟨S.map int2, by unfold dS; rw [List.map_map]; rfl, fun zs pm sr p hp => ?_⟩
    have pz : ∀ z ∈ zs, 0 ≤ z.1 := fun z hz => by
      obtain ⟨q, _, rfl⟩ := List.mem_map.mp (pm.mem_iff.mp hz)
      show (0 : Int) ≤ (q.1 : Int)
      omega
    have pT : (zs.map nat2).Perm S := by
      have := pm.map nat2
      rw [nat2_int2] at this
      exact this
    have e1 : zs.map tD = ((zs.map nat2).map rowD).map Mv.frz := by
      rw [List.map_map, List.map_map]
      refine List.map_congr_left fun z hz => ?_
      show tD z = Mv.frz (Dv.tup [.int ((z.1.toNat : Nat) : Int), .int z.2])
      rw [Int.toNat_of_nonneg (pz z hz)]
    have hup : (zs.map nat2).Pairwise fun x y => x.1 < y.1 := by
      have hnd : ((zs.map nat2).map (·.1)).Nodup := (pT.map _).symm.nodup hn
      have hne := List.pairwise_map.mp (List.pairwise_map.mp hnd)
      refine List.pairwise_map.mpr (List.Pairwise.imp_of_mem (fun {x y} hx hy hxy => ?_) (sr.and hne))
      have a := SrtO.lexB_no.mp hxy.1
      have b : x.1.toNat ≠ y.1.toNat := hxy.2
      have c := pz x hx
      have d := pz y hy
      show x.1.toNat < y.1.toNat
      omega
    rw [e1]
    exact ⟨_, .cel List.mem_cons_self, cs, Wk.sub (List.sublist_cons_self _ _), q _ pT hup⟩
  · exact hw.elim
end

def w_need_time : FSp := fun ms cs R _ => match ms with
  | [.frz (.int k), .frz (.int m)] => 0 ≤ k ∧ k ≤ m ∧ R (.frz .non) cs
  | _ => False
section
variable {P : Program} {w : World} {K : PySem.W.Frag} {mg : Str → Option Value} {base : Heap}
theorem ok_need_time {f : Addr} {fd : FuncData} (F : FunZ K "need_time" "need_time" s_need_time f fd) (f1 : Fn P w K mg base "is_number" 1 w_is_number) : FnOk P w K mg base CX0 2 f fd ["thing", "most"] (toSp w_need_time) := by
  refine def_ok F sc_need_time (by intro ms cs R Z h; unfold w_need_time at h; split at h; rfl; exact h.elim) fun cdv A outer s H E a ms cs R Zx hr hw => ?_
  unfold w_need_time at hw
  split at hw
  · obtain ⟨h1, h2, q⟩ := hw
    k_units
    refine is_number_use (fun h => nomatch h) ?_
    k_units
    · rename_i k m hk
      simp [isNum, h1, h2] at hk
    · exact q
  · exact hw.elim
end

section
local macro_rules | `(tactic| k_put) => `(tactic| ((with_reducible show EV _ _ (.Tuple [] _ _) _ _ _); refine ev_tupP ?_))
local macro_rules | `(tactic| k_get) => `(tactic| ((with_reducible show EV _ _ (.Call (.Name _ _) [_] [] _) _ _ _); refine ev_fnD (by assumption) (L2.Room.mono (by assumption) (by decide)) ?_))
variable {P : Program} {w : World} {K : PySem.W.Frag} {mg : Str → Option Value} {base : Heap}
theorem ok_plan {C f : Addr} {fd : FuncData} (F : FunZ K "plan" "plan" s_plan f fd) (f1 : Fn P w K mg base "need_scenes" 4 (w_need_scenes C)) (f5 : FnD P w K mg base "need_time" 2 w_need_time [.frz (.int 60)]) (f2 : Fn P w K mg base "earliest" 14 (w_earliest C)) (f3 : Fn P w K mg base "end_of" 2 (w_end_of C)) (f4 : Mth P w K mg base C "numbers" 1 (w_numbers C)) (f6 : Fn P w K mg base "as_plan" 1 w_asplan) : FnOk P w K mg base CX0 15 f fd ["house", "first", "then", "time"] (toSp (w_plan C)) := by
  refine def_ok F sc_plan (by intro ms cs R Z h; unfold w_plan at h; split at h; rfl; exact h.elim) fun cdv A outer s H E a ms cs R Zx hr hw => ?_
  have nd := sc_plan.nd
  have sc := sc_plan
  have hu : (XZ P w K mg base n_plan "plan" s_plan f cdv A outer s H E).A.units + 1 < cLine := hu_of hr
  have hu64 : (XZ P w K mg base n_plan "plan" s_plan f cdv A outer s H E).A.units + 64 < cLine := by have := hr.un; show (A.deeper _).units + 64 < cLine; omega
  unfold w_plan at hw
  split at hw
  · rename_i hv d1 d2 t
    obtain ⟨h, xs, ys, rfl, ho, rfl, rfl, h1, h2, ht, q⟩ := hw
    obtain ⟨p1, l1, l2⟩ := plT_plains ho h1
    obtain ⟨p2, l3, l4⟩ := plT_plains ho h2
    have hml : (movP xs ys).length ≤ 8 := by
      have := nodup_lt (movP_nodup xs ys) (n := xs.length) fun x hx => movP_lt hx
      omega
    have hmlt : ∀ p ∈ movP xs ys, p < h.ps.length := fun p hp => by have := movP_lt hp; omega
    refine svs_cons ?_
    k_steps
    refine ⟨h, rfl, ho, p1, p2, h1, h2, ?_⟩
    k_steps
    refine ⟨ht.1, ht.2, ?_⟩
    k_steps
    refine ⟨h, rfl, ?_⟩
    k_steps
    refine earl_use ho l1 l3 (by have := ho.N; omega) fun r hr2 hB => ?_
    have hle := hr2.least
    refine svs_cons (sv_if ?_)
    cases hr3 : r with
    | none =>
      rw [hr3] at hle
      k_steps
      refine .non ?_
      k_units
      exact q none ⟨fun _ c => hle t c, (fun T e => (nomatch e)), (fun T e => (nomatch e)), (fun T e => (nomatch e)), (fun T e => (nomatch e)), (fun T e => (nomatch e))⟩
    | some S =>
      have fS := hr2.full S hr3
      have okS := fS.st hml hmlt
      rw [hr3] at hle
      k_steps
      refine .non ?_
      k_steps
      refine end_of_use okS ?_
      k_steps
      · rename_i k0
        have hgt := of_decide_eq_true k0
        k_units
        refine q none ⟨fun _ c => ?_, (fun T e => (nomatch e)), (fun T e => (nomatch e)), (fun T e => (nomatch e)), (fun T e => (nomatch e)), (fun T e => (nomatch e))⟩
        have := hle.2 t c
        omega
      · rename_i k0
        have hgt := of_decide_eq_false k0
        k_units
        refine ⟨S, rfl, okS.nd, okS.len, fun T hT hup => ?_⟩
        have pmT : (T.map (·.1)).Perm (S.map (·.1)) := hT.map _
        have eE : endS h T = endS h S := endS_perm hT
        refine q (some T) ⟨(fun e => (nomatch e)), fun T' e => ?_, fun T' e => ?_, fun T' e => ?_, fun T' e => ?_, fun T' e => ?_⟩ <;> cases e
        · refine ⟨pmT.symm.nodup okS.nd, fun q hq o ho => ?_, fun t => ?_⟩
          · obtain ⟨so, a1, a2⟩ := fS.ok.wt q (hT.mem_iff.mp hq) o ho
            exact ⟨so, hT.mem_iff.mpr a1, a2⟩
          · rw [loadS_perm hT]
            exact fS.ok.ld t
        · exact keys_eq (pmT.trans fS.pm) hup (movP_up xs ys)
        · intro q hq
          rcases fS.late q (hT.mem_iff.mp hq) with z | z
          · cases z
          · exact z.1
        · omega
        · rw [eE]
          exact hle
  · exact hw.elim
end

def w_lbeats : FSp := fun ms cs R _ => match ms with
  | [.frz tb, .frz (.int i)] => ∃ (h : Hs) (n : Nat), tb = h.tb ∧ i = n ∧ n < h.ps.length ∧ R (.frz (.int (h.bt n))) cs
  | _ => False
theorem lbeats_use {h : Hs} {n : Nat} {cs : Cs} {R : Mv → Cs → Prop} {Z} (hn : n < h.ps.length) (q : R (.frz (.int (h.bt n))) cs) : w_lbeats [.frz h.tb, .frz (.int (n : Nat))] cs R Z := ⟨h, n, rfl, rfl, hn, q⟩
section
variable {P : Program} {w : World} {K : PySem.W.Frag} {mg : Str → Option Value} {base : Heap}
theorem ok_lbeats {f : Addr} {fd : FuncData} (F : FunZ K "_law_beats" "_law_beats" s_L_beats f fd) : FnOk P w K mg base CX0 1 f fd ["_law_table_here", "_law_piece"] (toSp w_lbeats) := by
  refine def_ok F sc_L_beats (by intro ms cs R Z h; unfold w_lbeats at h; split at h; rfl; exact h.elim) fun cdv A outer s H E a ms cs R Zx hr hw => ?_
  have hu : (XZ P w K mg base n_L_beats "_law_beats" s_L_beats f cdv A outer s H E).A.units + 1 < cLine := hu_of hr
  have hu64 : (XZ P w K mg base n_L_beats "_law_beats" s_L_beats f cdv A outer s H E).A.units + 64 < cLine := by have := hr.un; show (A.deeper _).units + 64 < cLine; omega
  unfold w_lbeats at hw
  split at hw
  · obtain ⟨h, n, rfl, rfl, hn, q⟩ := hw
    have hp : h.ps[n]? = some h.ps[n] := List.getElem?_eq_getElem hn
    have hb : h.bt n = (h.ps[n]).bt := by unfold Hs.bt; rw [hp]; rfl
    rw [hb] at q
    generalize h.ps[n] = pc at hp q
    have hix : atI (h.stock.map Mv.frz) (n : Int) = some (.frz pc.dv) := atI_at (by rw [List.getElem?_map, Hs.stock, List.getElem?_map, hp]; rfl)
    obtain ⟨l, el, e1, _⟩ := pc.at_bt
    k_units
    refine ⟨_, IxM.seq SeqM.lst hix, ?_⟩
    rw [el]
    k_units
    exact ⟨_, IxM.seq SeqM.tup e1, q⟩
  · exact hw.elim
end

def w_lhands : FSp := fun ms cs R _ => match ms with
  | [.frz tb, .frz (.int i)] => ∃ (h : Hs) (n : Nat), tb = h.tb ∧ i = n ∧ n < h.ps.length ∧ R (.frz (.int (h.hd n))) cs
  | _ => False
theorem lhands_use {h : Hs} {n : Nat} {cs : Cs} {R : Mv → Cs → Prop} {Z} (hn : n < h.ps.length) (q : R (.frz (.int (h.hd n))) cs) : w_lhands [.frz h.tb, .frz (.int (n : Nat))] cs R Z := ⟨h, n, rfl, rfl, hn, q⟩
section
variable {P : Program} {w : World} {K : PySem.W.Frag} {mg : Str → Option Value} {base : Heap}
theorem ok_lhands {f : Addr} {fd : FuncData} (F : FunZ K "_law_hands" "_law_hands" s_L_hands f fd) : FnOk P w K mg base CX0 1 f fd ["_law_table_here", "_law_piece"] (toSp w_lhands) := by
  refine def_ok F sc_L_hands (by intro ms cs R Z h; unfold w_lhands at h; split at h; rfl; exact h.elim) fun cdv A outer s H E a ms cs R Zx hr hw => ?_
  have hu : (XZ P w K mg base n_L_hands "_law_hands" s_L_hands f cdv A outer s H E).A.units + 1 < cLine := hu_of hr
  have hu64 : (XZ P w K mg base n_L_hands "_law_hands" s_L_hands f cdv A outer s H E).A.units + 64 < cLine := by have := hr.un; show (A.deeper _).units + 64 < cLine; omega
  unfold w_lhands at hw
  split at hw
  · obtain ⟨h, n, rfl, rfl, hn, q⟩ := hw
    have hp : h.ps[n]? = some h.ps[n] := List.getElem?_eq_getElem hn
    have hb : h.hd n = (h.ps[n]).hd := by unfold Hs.hd; rw [hp]; rfl
    rw [hb] at q
    generalize h.ps[n] = pc at hp q
    have hix : atI (h.stock.map Mv.frz) (n : Int) = some (.frz pc.dv) := atI_at (by rw [List.getElem?_map, Hs.stock, List.getElem?_map, hp]; rfl)
    obtain ⟨l, el, _, e1⟩ := pc.at_bt
    k_units
    refine ⟨_, IxM.seq SeqM.lst hix, ?_⟩
    rw [el]
    k_units
    exact ⟨_, IxM.seq SeqM.tup e1, q⟩
  · exact hw.elim
end

section
variable {P : Program} {w : World} {K : PySem.W.Frag} {mg : Str → Option Value} {base : Heap}
theorem ok_lnum {f : Addr} {fd : FuncData} (F : FunZ K "_law_is_number" "_law_is_number" s_L_is_number f fd) (g1 : mg "isinstance" = none) (g2 : mg "int" = none) (g3 : mg "bool" = none) : FnOk P w K mg base CX0 1 f fd ["_law_thing", "_law_low", "_law_high"] (toSp w_is_number) := by
  refine def_ok F sc_L_is_number (by intro ms cs R Z h; unfold w_is_number at h; split at h; rfl; exact h.elim) fun cdv A outer s H E a ms cs R Zx hr hw => ?_
  unfold w_is_number at hw
  split at hw
  · obtain ⟨ht, q⟩ := hw
    rename_i d i j
    cases d with
    | ins C l => exact (ht rfl).elim
    | int k =>
      k_units
      · rename_i h
        show R (.frz (.bl (decide (k ≤ j)))) cs
        have e : isNum (.int k) i j = decide (k ≤ j) := by simp only [isNum, h, Bool.true_and]
        rw [← e]; exact q
      · rename_i h
        show R (.frz (.bl false)) cs
        have e : isNum (.int k) i j = false := by simp only [isNum, h, Bool.false_and]
        rw [← e]; exact q
    | _ => k_units <;> exact q
  · exact hw.elim
end

def w_lload : FSp := fun ms cs R _ => match ms with
  | [.frz tb, .frz d, .frz (.int t)] => ∃ (h : Hs) (S : List (Nat × Int)), tb = h.tb ∧ d = .dct (dS S) ∧ StOk h S ∧ R (.frz (.int (loadS h S t))) cs
  | _ => False
section
local macro_rules | `(tactic| k_put) => `(tactic| ((with_reducible show IV _ _ (.Name _ _) (.Name _ _) _ _ _); refine iv_stop ?_))
variable {P : Program} {w : World} {K : PySem.W.Frag} {mg : Str → Option Value} {base : Heap}
theorem ok_lload {f : Addr} {fd : FuncData} (F : FunZ K "_law_load" "_law_load" s_L_load f fd) (f1 : Fn P w K mg base "_law_beats" 1 w_lbeats) (f2 : Fn P w K mg base "_law_hands" 1 w_lhands) : FnOk P w K mg base CX0 2 f fd ["_law_table_here", "_law_starts", "_law_beat"] (toSp w_lload) := by
  refine def_ok F sc_L_load (by intro ms cs R Z h; unfold w_lload at h; split at h; rfl; exact h.elim) fun cdv A outer s H E a ms cs R Zx hr hw => ?_
  have nd := sc_L_load.nd
  have sc := sc_L_load
  have hu : (XZ P w K mg base n_L_load "_law_load" s_L_load f cdv A outer s H E).A.units + 1 < cLine := hu_of hr
  have hu64 : (XZ P w K mg base n_L_load "_law_load" s_L_load f cdv A outer s H E).A.units + 64 < cLine := by have := hr.un; show (A.deeper _).units + 64 < cLine; omega
  unfold w_lload at hw
  split at hw
  · rename_i tb d t
    obtain ⟨h, S, rfl, rfl, ok, q⟩ := hw
    k_units
    refine ⟨iv_keys ?_⟩
    k_units
    rw [keys_dS]
    refine ⟨fun i ρ' c' => ∃ v4 : Option Mv, ρ' = [some (.frz h.tb), some (.frz (.dct (dS S))), some (.frz (.int t)), some (.frz (.int (loadS h (S.take i) t))), v4] ∧ c' = cs, ⟨_, rfl, rfl⟩, fun _ _ _ _ _ => trivial, ?_, ?_⟩
    · rintro i it ρ' c' hi ⟨v4, rfl, rfl⟩
      rw [List.getElem?_map] at hi
      obtain ⟨⟨p, s0⟩, hx, rfl⟩ := Option.map_eq_some_iff.mp hi
      have hmem := List.mem_of_getElem? hx
      have hg := gS_mem ok.nd hmem
      have hlt := ok.lt _ hmem
      have hix : IxM c' (.frz (.dct (dS S))) (.frz (nI p)) (.frz (.int s0)) := IxM.dki (i := ((p : Nat) : Int)) (d := .int s0) (by rw [lookK_dS, hg]; rfl)
      have hs := loadS_snoc h (S.take i) (p, s0) t
      rw [← take_snoc hx, onB_le] at hs
      have fin : ∀ (x : Int) (v : Option Mv), loadS h (S.take (i + 1)) t = x → ∃ v4 : Option Mv, [some (.frz h.tb), some (.frz (.dct (dS S))), some (.frz (.int t)), some (.frz (.int x)), v] = [some (.frz h.tb), some (.frz (.dct (dS S))), some (.frz (.int t)), some (.frz (.int (loadS h (S.take (i + 1)) t))), v4] ∧ c' = c' := fun x v e => ⟨v, by rw [e], rfl⟩
      refine ⟨_, rfl, ?_⟩
      k_units
      refine ⟨_, hix, ?_⟩
      k_units
      · rename_i k0
        refine ⟨_, hix, ?_⟩
        k_units
        refine lbeats_use hlt ?_
        k_units
        · rename_i k1
          refine lhands_use hlt ?_
          k_units
          exact fin _ _ (by rw [hs, if_pos (by rw [k0, show decide (t < s0 + h.bt p) = true from k1]; rfl)])
        · rename_i k1
          exact fin _ _ (by rw [hs, if_neg (by rw [k0, show decide (t < s0 + h.bt p) = false from k1]; decide)])
      · rename_i k0 _
        exact fin _ _ (by rw [hs, if_neg (by rw [k0, Bool.false_and]; decide)])
    · rintro ρ' c' ⟨v4, rfl, rfl⟩
      rw [List.length_map, List.take_length]
      k_units
      exact q
  · exact hw.elim
end

/-- whoever waits for one that is told waits -/
def waitP (h : Hs) (W : List (Nat × Nat)) (S : List (Nat × Int)) (q : Nat × Int) : Bool := match gN W q.1 with
  | none => true
  | some o => match gS S o with
    | none => true
    | some so => !decide (q.2 < so + h.bt o)
def cleanB (h : Hs) (W : List (Nat × Nat)) (S : List (Nat × Int)) (n : Int) : Bool := S.all (waitP h W S) && S.all fun q => decide (loadS h S q.2 ≤ n)
theorem clean_comes {h : Hs} {W : List (Nat × Nat)} {S : List (Nat × Int)} {n : Int} (hWS : ∀ p o, gN W p = some o → p ∈ S.map (·.1) → o ∈ S.map (·.1)) : cleanB h W S n = comesB h W S n := by
  have e : S.all (waitP h W S) = S.all (waitB h W S) := by
    have key : ∀ q ∈ S, waitP h W S q = waitB h W S q := fun q hq => by
      unfold waitP waitB
      cases hg : gN W q.1 with
      | none => rfl
      | some o =>
        obtain ⟨so, hso⟩ := gS_some (hWS q.1 o hg (List.mem_map.mpr ⟨q, hq, rfl⟩))
        show (match gS S o with | none => true | some so => !decide (q.2 < so + h.bt o)) = (!decide (q.2 < (gS S o).getD 0 + h.bt o))
        rw [hso]; rfl
    rw [Bool.eq_iff_iff, List.all_eq_true, List.all_eq_true]
    exact ⟨fun z q hq => by rw [← key q hq]; exact z q hq, fun z q hq => by rw [key q hq]; exact z q hq⟩
  unfold cleanB comesB
  rw [e]
def w_lclean : FSp := fun ms cs R _ => match ms with
  | [.frz tb, .frz e, .frz d] => ∃ (h : Hs) (W : List (Nat × Nat)) (S : List (Nat × Int)), tb = h.tb ∧ e = .dct (dNN W) ∧ d = .dct (dS S) ∧ StOk h S ∧ R (.frz (.bl (cleanB h W S h.N))) cs
  | _ => False
section
local macro_rules | `(tactic| k_put) => `(tactic| ((with_reducible show IV _ _ (.Name _ _) (.Name _ _) _ _ _); refine iv_stop ?_))
variable {P : Program} {w : World} {K : PySem.W.Frag} {mg : Str → Option Value} {base : Heap}
theorem clean_no {h : Hs} {W : List (Nat × Nat)} {S : List (Nat × Int)} {n : Int} {q : Nat × Int} (hm : q ∈ S) (hf : waitP h W S q = false ∨ ¬ loadS h S q.2 ≤ n) : cleanB h W S n = false := by
  cases e : cleanB h W S n with
  | false => rfl
  | true =>
    unfold cleanB at e
    rw [Bool.and_eq_true] at e
    rcases hf with f | f
    · rw [List.all_eq_true.mp e.1 _ hm] at f; cases f
    · exact absurd (of_decide_eq_true (List.all_eq_true.mp e.2 _ hm)) f
theorem clean_yes {h : Hs} {W : List (Nat × Nat)} {S : List (Nat × Int)} {n : Int} (ha : ∀ q ∈ S, waitP h W S q = true ∧ loadS h S q.2 ≤ n) : cleanB h W S n = true := by
  unfold cleanB
  rw [List.all_eq_true.mpr fun q hq => (ha q hq).1, List.all_eq_true.mpr fun q hq => decide_eq_true (ha q hq).2]; rfl
theorem ok_lclean {f : Addr} {fd : FuncData} (F : FunZ K "_law_clean" "_law_clean" s_L_clean f fd) (f1 : Fn P w K mg base "_law_beats" 1 w_lbeats) (f2 : Fn P w K mg base "_law_load" 2 w_lload) : FnOk P w K mg base CX0 3 f fd ["_law_table_here", "_law_awaited", "_law_starts"] (toSp w_lclean) := by
  refine def_ok F sc_L_clean (by intro ms cs R Z h; unfold w_lclean at h; split at h; rfl; exact h.elim) fun cdv A outer s H E a ms cs R Zx hr hw => ?_
  have nd := sc_L_clean.nd
  have sc := sc_L_clean
  have hu : (XZ P w K mg base n_L_clean "_law_clean" s_L_clean f cdv A outer s H E).A.units + 1 < cLine := hu_of hr
  have hu64 : (XZ P w K mg base n_L_clean "_law_clean" s_L_clean f cdv A outer s H E).A.units + 64 < cLine := by have := hr.un; show (A.deeper _).units + 64 < cLine; omega
  unfold w_lclean at hw
  split at hw
  · obtain ⟨h, W, S, rfl, rfl, rfl, ok, q⟩ := hw
    k_units
    refine ⟨iv_keys ?_⟩
    k_units
    rw [keys_dS]
    refine ⟨fun i ρ' c' => ∃ v3 v4 : Option Mv, ρ' = [some (.frz h.tb), some (.frz (.dct (dNN W))), some (.frz (.dct (dS S))), v3, v4] ∧ c' = cs ∧ Kp (∀ q ∈ S.take i, waitP h W S q = true ∧ loadS h S q.2 ≤ h.N), ⟨_, _, rfl, rfl, Kp.i (by simp)⟩, fun _ _ _ _ _ => trivial, ?_, ?_⟩
    · rintro i it ρ' c' hi ⟨v3, v4, rfl, rfl, hall⟩
      rw [List.getElem?_map] at hi
      obtain ⟨⟨p, s0⟩, hx, rfl⟩ := Option.map_eq_some_iff.mp hi
      have hmem := List.mem_of_getElem? hx
      replace hall := hall.o
      have hg := gS_mem ok.nd hmem
      have hix : IxM c' (.frz (.dct (dS S))) (.frz (nI p)) (.frz (.int s0)) := IxM.dki (i := ((p : Nat) : Int)) (d := .int s0) (by rw [lookK_dS, hg]; rfl)
      refine ⟨_, rfl, ?_⟩
      refine svs_cut (fun ρ2 c2 => ∃ v4 : Option Mv, ρ2 = [some (.frz h.tb), some (.frz (.dct (dNN W))), some (.frz (.dct (dS S))), some (.frz (nI p)), v4] ∧ c2 = c' ∧ waitP h W S (p, s0) = true) ?_ ?_
      · refine sv_if ?_
        k_units
        refine ⟨_, InM.dki (i := ((p : Nat) : Int)), ?_⟩
        rw [lookK_dNN]
        cases hgw : gN W p with
        | none =>
          have hwb : waitP h W S (p, s0) = true := by
            unfold waitP
            rw [hgw]
          k_units
          exact Kp.i ⟨_, rfl, rfl, hwb⟩
        | some o =>
          have hax : IxM c' (.frz (.dct (dNN W))) (.frz (nI p)) (.frz (nI o)) := IxM.dki (i := ((p : Nat) : Int)) (d := nI o) (by rw [lookK_dNN, hgw]; rfl)
          cases hso : gS S o with
          | none =>
            have hwb : waitP h W S (p, s0) = true := by
              unfold waitP
              rw [hgw]
              show (match gS S o with | none => true | some so => !decide (s0 < so + h.bt o)) = true
              rw [hso]
            k_units
            refine ⟨_, hax, ?_⟩
            k_units
            refine ⟨_, InM.dki (i := ((o : Nat) : Int)), ?_⟩
            rw [lookK_dS, hso]
            k_units
            exact Kp.i ⟨_, rfl, rfl, hwb⟩
          | some so =>
          have hos : o ∈ S.map (·.1) := Classical.byContradiction fun z => by
            have e : gS S o = none := by
              unfold gS
              rw [List.find?_eq_none.mpr fun x hx hd => z (List.mem_map.mpr ⟨x, hx, of_decide_eq_true hd⟩)]; rfl
            rw [e] at hso
            cases hso
          obtain ⟨⟨o', so'⟩, hom, eo⟩ := List.mem_map.mp hos
          have hol : o < h.ps.length := by rw [← eo]; exact ok.lt _ hom
          have hwb : waitP h W S (p, s0) = !decide (s0 < so + h.bt o) := by
            unfold waitP
            rw [hgw]
            show (match gS S o with | none => true | some so => !decide (s0 < so + h.bt o)) = _
            rw [hso]
          have hox : IxM c' (.frz (.dct (dS S))) (.frz (nI o)) (.frz (.int so)) := IxM.dki (i := ((o : Nat) : Int)) (d := .int so) (by rw [lookK_dS, hso]; rfl)
          k_units
          refine ⟨_, hax, ?_⟩
          k_units
          refine ⟨_, InM.dki (i := ((o : Nat) : Int)), ?_⟩
          rw [lookK_dS, hso]
          k_units
          refine ⟨_, hax, ?_⟩
          k_units
          refine ⟨_, hix, ?_⟩
          k_units
          refine ⟨_, hox, ?_⟩
          k_units
          refine lbeats_use hol ?_
          k_units
          · rename_i k0
            have hf := clean_no (n := h.N) hmem (.inl (by rw [hwb, show decide (s0 < so + h.bt o) = true from k0]; rfl))
            rw [hf] at q
            exact q
          · rename_i k0
            exact Kp.i ⟨_, rfl, rfl, by rw [hwb, show decide (s0 < so + h.bt o) = false from k0]; rfl⟩
      rintro ρ2 c2 ⟨v5, rfl, rfl, hwb⟩
      k_units
      refine ⟨_, hix, ?_⟩
      k_units
      refine ⟨h, S, rfl, rfl, ok, ?_⟩
      k_units
      · rename_i k0
        have hf := clean_no (W := W) (n := h.N) hmem (.inr (by
          have := of_decide_eq_true (show decide (loadS h S s0 > h.N) = true from k0)
          show ¬ loadS h S s0 ≤ h.N
          omega))
        rw [hf] at q
        exact q
      · rename_i k0
        exact Kp.i fun x hx2 => by
          rw [take_snoc hx] at hx2
          rcases List.mem_append.mp hx2 with m | m
          · exact hall x m
          · rw [List.mem_singleton.mp m]
            have := of_decide_eq_false (show decide (loadS h S s0 > h.N) = false from k0)
            exact ⟨hwb, by show loadS h S s0 ≤ h.N; omega⟩
    · rintro ρ' c' ⟨v3, v4, rfl, rfl, hall⟩
      replace hall := hall.o
      rw [List.length_map, List.take_length] at hall
      rw [clean_yes hall] at q
      k_units
      exact q
  · exact hw.elim
end

/-- a row's start -/
def rowS : Dv → Int
  | .tup [_, .int b] => b
  | .ptp [_, .int b] => b
  | _ => 0
/-- the law's rows: each start so that the move ends in time -/
def lrowsOk (h : Hs) (t : Int) (ds : List Dv) (ps : List Nat) : Prop := ds.length = ps.length ∧ ∀ (i : Nat) (r : Dv) (p : Nat), ds[i]? = some r → ps[i]? = some p → rowOk r p (t - h.bt p) = true
theorem isNum_mono {d : Dv} {a b c : Int} (h : isNum d a b = true) (hbc : b ≤ c) : isNum d a c = true := by
  cases d <;> simp [isNum] at h ⊢
  omega
theorem rowOk_mono {r : Dv} {p : Nat} {b c : Int} (h : rowOk r p b = true) (hbc : b ≤ c) : rowOk r p c = true := by
  unfold rowOk at h ⊢
  split at h
  · rw [Bool.and_eq_true] at h ⊢
    exact ⟨h.1, isNum_mono h.2 hbc⟩
  · rw [Bool.and_eq_true] at h ⊢
    exact ⟨h.1, isNum_mono h.2 hbc⟩
  · cases h
theorem lrows_told {h : Hs} (ho : h.ok) {t : Int} {ds : List Dv} {ps : List Nat} (hp : ∀ p ∈ ps, p < h.ps.length) (hl : lrowsOk h t ds ps) : rowsOk ds ps t = true :=
  (rowsOk_at hl.1).mp fun i r p h1 h2 => rowOk_mono (hl.2 i r p h1 h2) (by have := h.bt_pos ho (hp p (List.mem_of_getElem? h2)); omega)
theorem rows_S {ds : List Dv} {S : List (Nat × Int)} (h : RowsN ds S) : ds.map rowS = S.map (·.2) := by
  induction h with
  | nil => rfl
  | tup _ ih => rw [List.map_cons, ih]; rfl
  | ptp _ ih => rw [List.map_cons, ih]; rfl
theorem zip_rows {ds : List Dv} {S : List (Nat × Int)} (h : RowsN ds S) : (S.map (·.1)).zip (ds.map rowS) = S := by
  rw [rows_S h]
  clear h
  induction S with
  | nil => rfl
  | cons q S ih => rw [List.map_cons, List.map_cons, List.zip_cons_cons, ih]
theorem rowOk_row {r : Dv} {p : Nat} {b m : Int} (h : r = .tup [nI p, .int b] ∨ r = .ptp [nI p, .int b]) : rowOk r p m = (decide (0 ≤ b) && decide (b ≤ m)) := by
  have : rowOk r p m = ((decide ((p : Int) ≤ (p : Int)) && decide ((p : Int) ≤ (p : Int))) && (decide (0 ≤ b) && decide (b ≤ m))) := by
    rcases h with rfl | rfl <;> rfl
  rw [this, decide_eq_true (Int.le_refl _)]; rfl
theorem lrows_fin {h : Hs} (ho : h.ok) {xs ys : List (Option Int)} (hl : xs.length = h.ps.length) {t : Int} {th : Dv} {ds : List Dv} (hd : th = .tup ds ∨ th = .ptp ds) (hs : seenT t th) (hr : lrowsOk h t ds (movP xs ys)) :
    ∃ S : List (Nat × Int), RowsN ds S ∧ S.map (·.1) = movP xs ys ∧ holdsB h xs ys t th = comesB h (waP xs ys) S h.N := by
  have hp : ∀ p ∈ movP xs ys, p < h.ps.length := fun p hp => by have := movP_lt hp; omega
  have hrw := lrows_told ho hp hr
  have ht : toldB th (movP xs ys) t = true := by
    rcases hd with z | z <;> (rw [z]; exact hrw)
  have est : stOf th = ds.map rowSt := by
    rcases hd with z | z <;> (rw [z]; rfl)
  obtain ⟨hRN, eS, hS⟩ := rowsOk_told hrw
  refine ⟨ds.map rowSt, hRN, eS, ?_⟩
  unfold holdsB
  rw [ht, est, Bool.true_and]
  have : ((ds.map rowSt).all fun q => decide (q.2 + h.bt q.1 ≤ t)) = true := List.all_eq_true.mpr fun q hq => by
    obtain ⟨i, hi⟩ := List.mem_iff_getElem?.mp hq
    rw [List.getElem?_map] at hi
    obtain ⟨r, hri, hrq⟩ := Option.map_eq_some_iff.mp hi
    have hpi : (movP xs ys)[i]? = some q.1 := by rw [← eS, List.getElem?_map, List.getElem?_map, hri]; show some (rowSt r).1 = _; rw [hrq]
    obtain ⟨b, hb, hb1, hb2⟩ := rowOk_num (hr.2 i r q.1 hri hpi)
    have eb : q.2 = b := by
      rw [← hrq]
      rcases hb with rfl | rfl <;> rfl
    exact decide_eq_true (by omega)
  rw [this, Bool.true_and]
/-- some row is bad: it is no plan -/
theorem lrows_not {h : Hs} {xs ys : List (Option Int)} {t : Int} {th : Dv} {ds : List Dv} (hd : th = .tup ds ∨ th = .ptp ds) (hs : seenT t th) (hr : ¬ lrowsOk h t ds (movP xs ys)) : holdsB h xs ys t th = false := by
  cases e : holdsB h xs ys t th with
  | false => rfl
  | true =>
    exfalso
    apply hr
    unfold holdsB at e
    rw [Bool.and_eq_true, Bool.and_eq_true] at e
    obtain ⟨e1, e2, _⟩ := e
    have hrw : rowsOk ds (movP xs ys) t = true := by
      rcases hd with z | z <;> (rw [z] at e1; exact e1)
    have est : stOf th = ds.map rowSt := by
      rcases hd with z | z <;> (rw [z]; rfl)
    obtain ⟨hRN, eS, hS⟩ := rowsOk_told hrw
    have hlen := rowsOk_len hrw
    refine ⟨hlen, fun i r p h1 h2 => ?_⟩
    have hro := (rowsOk_at hlen).mpr hrw i r p h1 h2
    obtain ⟨b, hb, hb1, hb2⟩ := rowOk_num hro
    have er : rowSt r = (p, b) := by
      rcases hb with rfl | rfl <;> (show ((p : Int).toNat, b) = _; rw [Int.toNat_natCast])
    have hm : (p, b) ∈ ds.map rowSt := List.mem_map.mpr ⟨r, List.mem_of_getElem? h1, er⟩
    rw [est] at e2
    have z : b + h.bt p ≤ t := of_decide_eq_true (List.all_eq_true.mp e2 _ hm)
    rw [rowOk_row hb, decide_eq_true hb1, decide_eq_true (show b ≤ t - h.bt p by omega)]; rfl
def w_lis_plan : FSp := fun ms cs R _ => match ms with
  | [.frz tb, .frz d1, .frz d2, .frz (.int t), .frz th] => ∃ (h : Hs) (xs ys : List (Option Int)), tb = h.tb ∧ h.ok ∧ d1 = plT xs ∧ d2 = plT ys ∧ xs.length = h.ps.length ∧ ys.length = h.ps.length ∧ seenT t th ∧ R (.frz (.bl (holdsB h xs ys t th))) cs
  | _ => False
theorem holdsB_no {h : Hs} {xs ys : List (Option Int)} {t : Int} {th : Dv} (hn : toldB th (movP xs ys) t = false) : holdsB h xs ys t th = false := by
  unfold holdsB
  rw [hn]; rfl
theorem zip_key {ps : List Nat} {bs : List Int} {i : Nat} {q : Nat × Int} (h : q ∈ (ps.zip bs).take i) : q.1 ∈ ps.take i := by
  have e : (ps.zip bs).take i = (ps.take i).zip (bs.take i) := List.take_zipWith
  rw [e] at h
  exact (List.of_mem_zip (a := q.1) (b := q.2) h).1
section
local macro_rules | `(tactic| k_put) => `(tactic| ((with_reducible show IV _ _ _ (.Call (.Name _ _) [_, _] _ _) _ _ _); refine iv_zip ?_ (by assumption)))
local macro_rules | `(tactic| k_put) => `(tactic| ((with_reducible show EV _ _ (.Dict [] [] _) _ _ _); refine ev_dnew fun D hD => ?_))
variable {P : Program} {w : World} {K : PySem.W.Frag} {mg : Str → Option Value} {base : Heap}
theorem ok_lis_plan {f : Addr} {fd : FuncData} (F : FunZ K "_law_is_plan" "_law_is_plan" s_L_is_plan f fd) (f1 : Fn P w K mg base "_law_is_number" 1 w_is_number) (f2 : Fn P w K mg base "_law_moves" 1 w_moving) (f3 : Fn P w K mg base "_law_waits" 2 w_waiting) (f4 : Fn P w K mg base "_law_clean" 3 w_lclean) (f5 : Fn P w K mg base "_law_beats" 1 w_lbeats) (g1 : mg "isinstance" = none) (g2 : mg "tuple" = none) (g3 : mg "len" = none) (g4 : mg "zip" = none) : FnOk P w K mg base CX0 4 f fd ["_law_table_here", "_law_first", "_law_then", "_law_time", "_law_thing"] (toSp w_lis_plan) := by
  refine def_ok F sc_L_is_plan (by intro ms cs R Z h; unfold w_lis_plan at h; split at h; rfl; exact h.elim) fun cdv A outer s H E a ms cs R Zx hr hw => ?_
  have nd := sc_L_is_plan.nd
  have sc := sc_L_is_plan
  have hu : (XZ P w K mg base n_L_is_plan "_law_is_plan" s_L_is_plan f cdv A outer s H E).A.units + 1 < cLine := hu_of hr
  have hu64 : (XZ P w K mg base n_L_is_plan "_law_is_plan" s_L_is_plan f cdv A outer s H E).A.units + 64 < cLine := by have := hr.un; show (A.deeper _).units + 64 < cLine; omega
  unfold w_lis_plan at hw
  split at hw
  · rename_i tb d1 d2 t th
    obtain ⟨h, xs, ys, rfl, ho, rfl, rfl, l1, l2, hs, q⟩ := hw
    obtain ⟨⟨hd, hrows⟩, hk⟩ := id hs
    have h8 := ho.len
    have hml : (movP xs ys).length ≤ 60 := by
      have := nodup_lt (movP_nodup xs ys) (n := xs.length) fun x hx => movP_lt hx
      omega
    have hpl : (((movP xs ys).map nI).map Mv.frz).length = (movP xs ys).length := by rw [List.length_map, List.length_map]
    refine svs_wkE ?_
    refine svs_cons ?_
    k_steps
    refine moving_use (by omega) (by omega) ?_
    refine svs_cons (sv_if ?_)
    cases th with
    | ins C l => exact (hd rfl).elim
    | tup ds | ptp ds =>
      obtain ⟨h60, hrw⟩ := hrows ds (by first | exact .inl rfl | exact .inr rfl)
      have hdl : (ds.map Mv.frz).length = ds.length := List.length_map _
      have hno := fun hr => lrows_not (h := h) (by first | exact .inl rfl | exact .inr rfl) hs (ds := ds) (xs := xs) (ys := ys) hr
      have hfin := lrows_fin ho l1 (by first | exact .inl rfl | exact .inr rfl) hs (ds := ds) (xs := xs) (ys := ys)
      generalize holdsB h xs ys t _ = HB at q hno hfin
      k_steps
      · rename_i hk
        rw [hdl, hpl] at hk
        have hf := hno fun z => by rw [z.1, py_ii, decide_eq_true rfl] at hk; cases hk
        rw [hf] at q
        k_units
        exact ⟨cs, Wk.refl, q⟩
      rename_i hk D hD
      rw [hdl, hpl] at hk
      have heq : ds.length = (movP xs ys).length := by
        rw [py_ii] at hk
        have := of_decide_eq_true (by simpa using hk)
        omega
      have hz : ∀ {i : Nat} {it : ItM}, (((ds.map Mv.frz).zip (((movP xs ys).map nI).map Mv.frz)).map fun p => ItM.two p.1 p.2)[i]? = some it → ∃ r p, ds[i]? = some r ∧ (movP xs ys)[i]? = some p ∧ it = .two (.frz r) (.frz (nI p)) := by
        intro i it hi
        rw [List.getElem?_map] at hi
        obtain ⟨⟨x, y⟩, h1, rfl⟩ := Option.map_eq_some_iff.mp hi
        rw [List.getElem?_zip_eq_some, List.getElem?_map, List.getElem?_map, List.getElem?_map] at h1
        obtain ⟨r, h2, h3⟩ := Option.map_eq_some_iff.mp h1.1
        obtain ⟨p', h4, h5⟩ := Option.map_eq_some_iff.mp h1.2
        obtain ⟨p, h6, h7⟩ := Option.map_eq_some_iff.mp h4
        cases h7; cases h5; cases h3
        exact ⟨r, p, h2, h6, rfl⟩
      have hzl : (((ds.map Mv.frz).zip (((movP xs ys).map nI).map Mv.frz)).map fun p => ItM.two p.1 p.2).length = ds.length := by
        rw [List.length_map, List.length_zip, hdl, hpl]; omega
      refine svs_cons (sv_for2 (by assumption) ?_)
      k_steps
      refine ⟨false, true, _, _, (by first | exact .tup | exact .ptp), .lst, ?_⟩
      refine ⟨fun i ρ' c' => ∃ v7 v8 : Option Mv, ρ' = [some (.frz h.tb), some (.frz (plT xs)), some (.frz (plT ys)), some (.frz (.int t)), some (.frz _), some (.frz (.lst ((movP xs ys).map nI))), some (.cel D), v7, v8] ∧ c' = (D, Cell.dct (dSM (((movP xs ys).zip (ds.map rowS)).take i))) :: cs ∧ Kp (∀ (j : Nat) (r : Dv) (p : Nat), j < i → ds[j]? = some r → (movP xs ys)[j]? = some p → rowOk r p (t - h.bt p) = true), ⟨_, _, rfl, rfl, Kp.i fun j r p hj => by omega⟩, fun _ _ _ _ _ => ⟨(by first | exact .tup | exact .ptp), .lst⟩, ?_, ?_⟩
      · rintro i it ρ' c' hi ⟨v7, v8, rfl, rfl, hj⟩
        obtain ⟨r, p, hr1, hp1, rfl⟩ := hz hi
        have hmv := List.mem_of_getElem? hp1
        have hlt : p < h.ps.length := by have := movP_lt hmv; omega
        have bad : rowOk r p (t - h.bt p) = false → ∀ c, Wk c cs → ∃ c', Wk c c' ∧ R (.frz (.bl false)) c' := fun hb c hw => by
          have hf := hno fun z => by rw [z.2 i r p hr1 hp1] at hb; cases hb
          rw [hf] at q
          exact ⟨cs, hw, q⟩
        have good : rowOk r p (t - h.bt p) = true → Kp (∀ (j : Nat) (r : Dv) (p : Nat), j < i + 1 → ds[j]? = some r → (movP xs ys)[j]? = some p → rowOk r p (t - h.bt p) = true) := fun hg =>
          Kp.i (fun j r' p' hj' e1 e2 => by
            by_cases e : j = i
            · subst e
              rw [hr1] at e1; rw [hp1] at e2
              cases e1; cases e2; exact hg
            · exact hj.o j r' p' (by omega) e1 e2)
        have hfr : ∀ q ∈ ((movP xs ys).zip (ds.map rowS)).take i, q.1 ≠ p := fun q hq e => take_fresh (movP_nodup xs ys) hp1 (by rw [← e]; exact zip_key hq)
        have hnx : ((movP xs ys).zip (ds.map rowS)).take (i + 1) = ((movP xs ys).zip (ds.map rowS)).take i ++ [(p, rowS r)] := take_snoc (by rw [List.getElem?_zip_eq_some]; exact ⟨hp1, by rw [List.getElem?_map, hr1]; rfl⟩)
        have hln : (((movP xs ys).zip (ds.map rowS)).take i).length ≤ 60 := by
          rw [List.length_take, List.length_zip]; omega
        have hput : ∀ b : Int, rowS r = b → putKs (dSM (((movP xs ys).zip (ds.map rowS)).take i)) (.inl (p : Int)) (.frz (.int b)) = dSM (((movP xs ys).zip (ds.map rowS)).take (i + 1)) := fun b e => by rw [hnx, ← e]; exact putKs_dSM hfr
        have hlen : (dSM (((movP xs ys).zip (ds.map rowS)).take i)).length < 100000 := by rw [dSM_len]; omega
        generalize dSM (((movP xs ys).zip (ds.map rowS)).take i) = A0 at hput hlen ⊢
        have wkD : Wk ((D, Cell.dct A0) :: cs) cs := Wk.sub (by k_sub)
        obtain ⟨hr2, hr3⟩ := hrw r (List.mem_of_getElem? hr1)
        refine ⟨_, _, rfl, ?_⟩
        cases rowK r with
        | no _ hno =>
          have hb := bad (rowOk_no hno)
          k_units
          · rename_i hk
            rw [hno] at hk; cases hk
          · exact hb _ wkD
        | tup l hl2 | ptp l hl2 =>
          have hb := bad (by first | exact (rowOk_len hl2).1 | exact (rowOk_len hl2).2)
          k_units
          · rename_i hk
            rw [List.length_map, py_ii] at hk
            have := of_decide_eq_true (by simpa using hk)
            omega
          · exact hb _ wkD
        | two x y | twoP x y =>
          k_units
          have hy := hr3 [x, y] (by first | exact .inl rfl | exact .inr rfl) y (by simp)
          refine is_number_use (hr3 [x, y] (by first | exact .inl rfl | exact .inr rfl) x (by simp)) ?_
          replace bad : (isNum x p p && isNum y 0 (t - h.bt p)) = false → _ := bad
          replace good : (isNum x p p && isNum y 0 (t - h.bt p)) = true → _ := good
          generalize isNum x p p = A at *
          k_units
          · rename_i k0
            exact bad (by cases A <;> first | rfl | cases k0) _ wkD
          · rename_i k0
            refine lbeats_use hlt ?_
            k_units
            refine is_number_use hy ?_
            generalize hB : isNum y 0 (t - h.bt p) = B at *
            k_units
            · rename_i k1
              exact bad (by cases A <;> cases B <;> first | rfl | (cases k1; done)) _ wkD
            · rename_i k1
              have hBt : B = true := by cases B <;> first | rfl | (cases k1; done)
              obtain ⟨b, rfl⟩ := isNum_int (hB.trans hBt)
              refine sv_dput hu ?_
              k_units
              refine ⟨D, _, .inl (p : Int), _, rfl, rfl, .hit, hlen, ?_⟩
              rw [hput b rfl]
              exact svs_nil ⟨_, _, rfl, rfl, good (by cases A <;> cases B <;> first | rfl | (cases k1; done) | (cases k0; done))⟩
      · rintro ρ' c' ⟨v7, v8, rfl, rfl, hj⟩
        have hrok : lrowsOk h t ds (movP xs ys) := ⟨heq, fun i r p h1 h2 => hj.o i r p (by rw [hzl]; exact (List.getElem?_eq_some_iff.mp h1).1) h1 h2⟩
        obtain ⟨S, hRN, eS, hHB⟩ := hfin hrok
        rw [hHB] at q
        have eZ : ((movP xs ys).zip (ds.map rowS)).take ((((ds.map Mv.frz).zip (((movP xs ys).map nI).map Mv.frz)).map fun p => ItM.two p.1 p.2).length) = S := by
          rw [hzl, ← eS, zip_rows hRN, hRN.len, List.take_length]
        rw [eZ]
        have ok : StOk h S := ⟨by have e := congrArg List.length eS; rw [List.length_map] at e; omega, by rw [eS]; exact movP_nodup xs ys, fun q hq => by
          have : q.1 ∈ movP xs ys := by rw [← eS]; exact List.mem_map.mpr ⟨q, hq, rfl⟩
          have := movP_lt this
          omega⟩
        refine svs_frz D (.dct (dS S)) (by k_same) (.hit (.same _)) ?_
        k_units
        refine ⟨xs, ys, rfl, rfl, by omega, by omega, ?_⟩
        k_units
        exact ⟨h, waP xs ys, S, rfl, rfl, rfl, ok, cs, Wk.refl, by rw [clean_comes (waP_dom eS)]; exact q⟩
    | _ =>
      k_units
      rw [holdsB_no rfl] at q
      exact ⟨cs, Wk.refl, q⟩
  · exact hw.elim
end

/-! ### houses compared -/
def Pc.kind : Pc → Option Int
  | .cloth l _ _ => some l
  | .truck _ _ => none
structure Alike (h h' : Hs) : Prop where
  L : h'.L = h.L
  S : h'.S = h.S
  k : h'.ps.map Pc.kind = h.ps.map Pc.kind
theorem mayP_kind {h h' : Hs} (a : Alike h h') {pc pc' : Pc} (hk : pc'.kind = pc.kind) (x : Option Int) : pc'.mayP h' x = pc.mayP h x := by
  cases pc with
  | cloth l b k =>
    cases pc' with
    | cloth l' b' k' =>
      have e : l' = l := Option.some.inj hk
      subst e
      rfl
    | truck b' k' => cases hk
  | truck b k =>
    cases pc' with
    | cloth l' b' k' => cases hk
    | truck b' k' =>
      unfold Pc.mayP
      rw [a.L, a.S]
theorem Alike.scene {h h' : Hs} (a : Alike h h') {xs : List (Option Int)} (hs : isScene h (plT xs) = true) : isScene h' (plT xs) = true := by
  have hl : h'.ps.length = h.ps.length := by have := congrArg List.length a.k; rwa [List.length_map, List.length_map] at this
  obtain ⟨h1, h2⟩ := isScene_pl.mp hs
  refine isScene_pl.mpr ⟨by omega, fun i hi => ?_⟩
  have z := h2 i hi
  unfold okAt at z ⊢
  have hi1 : i < h.ps.length := by omega
  have hi2 : i < h'.ps.length := by omega
  rw [List.getElem?_eq_getElem hi1, List.getElem?_eq_getElem hi] at z
  rw [List.getElem?_eq_getElem hi2, List.getElem?_eq_getElem hi]
  have hk : (h'.ps[i]).kind = (h.ps[i]).kind := by
    have e : (h'.ps.map Pc.kind)[i]? = (h.ps.map Pc.kind)[i]? := by rw [a.k]
    rw [List.getElem?_map, List.getElem?_map, List.getElem?_eq_getElem hi1, List.getElem?_eq_getElem hi2] at e
    exact Option.some.inj e
  show ((h'.ps[i]).mayP h' xs[i] && _) = true
  rw [mayP_kind a hk]
  exact z
theorem load_le2 {h h' : Hs} (ho : h.ok) (ho' : h'.ok) {S : List (Nat × Int)} (hb : ∀ q ∈ S, h'.bt q.1 ≤ h.bt q.1) (hk : ∀ q ∈ S, h'.hd q.1 ≤ h.hd q.1) (t : Int) : loadS h' S t ≤ loadS h S t := by
  induction S with
  | nil => exact Int.le_refl _
  | cons q S ih =>
    rw [loadS_cons, loadS_cons]
    have h1 := ih (fun x hx => hb x (List.mem_cons_of_mem _ hx)) (fun x hx => hk x (List.mem_cons_of_mem _ hx))
    have h2 := hb q List.mem_cons_self
    have h3 := hk q List.mem_cons_self
    have h4 := hd_nn ho q.1
    by_cases e : onB h' t q = true
    · have z := onB_iff.mp e
      rw [if_pos e, if_pos (onB_iff.mpr ⟨z.1, by omega⟩)]
      omega
    · rw [if_neg e]
      split <;> omega
theorem CanIn.map {h h' : Hs} (ho : h.ok) (ho' : h'.ok) {W : List (Nat × Nat)} {n n' : Int} {mv : List Nat} {e : Int} (dom : ∀ p ∈ mv, ∀ o, gN W p = some o → o ∈ mv) (hb : ∀ p ∈ mv, h'.bt p ≤ h.bt p) (hk : ∀ p ∈ mv, h'.hd p ≤ h.hd p) (hn : n ≤ n') (c : CanIn h W n mv e) : CanIn h' W n' mv e := by
  obtain ⟨f, pl, nn, en⟩ := c
  refine ⟨f, ⟨fun p hp o hw => ?_, fun t => ?_⟩, nn, en.1, fun p hp => ?_⟩
  · have := pl.wt p hp o hw
    have := hb o (dom p hp o hw)
    omega
  · refine Int.le_trans (load_le2 ho ho' (fun q hq => ?_) (fun q hq => ?_) t) (Int.le_trans (pl.ld t) hn)
    · obtain ⟨p, hp, rfl⟩ := List.mem_map.mp hq
      exact hb p hp
    · obtain ⟨p, hp, rfl⟩ := List.mem_map.mp hq
      exact hk p hp
  · have := en.2 p hp
    have := hb p hp
    omega
theorem CanIn.sub {h : Hs} (ho : h.ok) {W W' : List (Nat × Nat)} {n : Int} {mv mv' : List Nat} {e : Int} (hm : mv.Nodup) (hm' : mv'.Nodup) (hs : ∀ p ∈ mv', p ∈ mv) (hw : ∀ p ∈ mv', ∀ o, gN W' p = some o → gN W p = some o) (c : CanIn h W n mv e) : CanIn h W' n mv' e := by
  obtain ⟨f, pl, nn, en⟩ := c
  exact ⟨f, ⟨fun p hp o ho' => pl.wt p (hs p hp) o (hw p hp o ho'), fun t => Int.le_trans (load_sub ho hm' hs hm t) (pl.ld t)⟩, fun p hp => nn p (hs p hp), en.1, fun p hp => en.2 p (hs p hp)⟩
/-- no longer, None longest -/
def noL (a b : Option Int) : Bool := match b with
  | none => true
  | some b => match a with
    | none => false
    | some a => decide (a ≤ b)
theorem noL_of {h h' : Hs} {W W' : List (Nat × Nat)} {n n' : Int} {mv mv' : List Nat} {a b : Option Int} (ha : LeastP h' W' n' mv' a) (hb : LeastP h W n mv b) (c : ∀ e, CanIn h W n mv e → CanIn h' W' n' mv' e) : noL a b = true := by
  cases b with
  | none => rfl
  | some b =>
    obtain ⟨k, rfl, le⟩ := ha.can.mp (c b hb.1)
    exact decide_eq_true le
def Hs.hands (h : Hs) (n : Int) : Hs := ⟨h.L, h.S, n, h.ps⟩
def Pc.rep : Pc → Int → Int → Pc
  | .cloth l _ _, b, k => .cloth l b k
  | .truck _ _, b, k => .truck b k
def Hs.piece (h : Hs) (p : Nat) (b k : Int) : Hs := ⟨h.L, h.S, h.N, h.ps.set p (((h.ps[p]?).getD (.truck 0 0)).rep b k)⟩
theorem Hs.hands_ok {h : Hs} (ho : h.ok) {n : Int} (hn : 1 ≤ n ∧ n ≤ 6) : (h.hands n).ok := ⟨ho.L, ho.S, hn, ho.len, ho.pcs⟩
theorem Hs.hands_alike (h : Hs) (n : Int) : Alike h (h.hands n) := ⟨rfl, rfl, rfl⟩
theorem Pc.rep_ok {L : Int} {pc : Pc} (hp : pc.ok L) {b k : Int} (hb : 1 ≤ b ∧ b ≤ 4) (hk : 1 ≤ k ∧ k ≤ 6) : (pc.rep b k).ok L := by
  cases pc with
  | cloth l x y => exact ⟨hp.1, hb, hk⟩
  | truck x y => exact ⟨hb, hk⟩
theorem Pc.rep_kind (pc : Pc) (b k : Int) : (pc.rep b k).kind = pc.kind := by cases pc <;> rfl
theorem Pc.rep_bt (pc : Pc) (b k : Int) : (pc.rep b k).bt = b := by cases pc <;> rfl
theorem Pc.rep_hd (pc : Pc) (b k : Int) : (pc.rep b k).hd = k := by cases pc <;> rfl
theorem Hs.piece_ok {h : Hs} (ho : h.ok) {p : Nat} (hp : p < h.ps.length) {b k : Int} (hb : 1 ≤ b ∧ b ≤ 4) (hk : 1 ≤ k ∧ k ≤ 6) : (h.piece p b k).ok := by
  refine ⟨ho.L, ho.S, ho.N, by show (h.ps.set p _).length ≤ 8; rw [List.length_set]; exact ho.len, fun pc hpc => ?_⟩
  rcases List.mem_or_eq_of_mem_set hpc with z | z
  · exact ho.pcs pc z
  · rw [z, List.getElem?_eq_getElem hp]
    exact Pc.rep_ok (ho.pcs _ (List.getElem_mem hp)) hb hk
theorem Hs.piece_alike (h : Hs) {p : Nat} (hp : p < h.ps.length) (b k : Int) : Alike h (h.piece p b k) := by
  refine ⟨rfl, rfl, ?_⟩
  show (h.ps.set p _).map Pc.kind = _
  rw [List.map_set, Pc.rep_kind, List.getElem?_eq_getElem hp]
  show (h.ps.map Pc.kind).set p (h.ps[p]).kind = _
  have e : (h.ps[p]).kind = (h.ps.map Pc.kind)[p]'(by rw [List.length_map]; exact hp) := by rw [List.getElem_map]
  rw [e, List.set_getElem_self]
theorem Hs.piece_bt (h : Hs) {p : Nat} (hp : p < h.ps.length) (b k : Int) (q : Nat) : (h.piece p b k).bt q = if q = p then b else h.bt q := by
  unfold Hs.bt Hs.piece
  show (((h.ps.set p _)[q]?).map Pc.bt).getD 0 = _
  by_cases e : q = p
  · subst e
    rw [if_pos rfl, List.getElem?_set_self hp]
    exact Pc.rep_bt _ _ _
  · rw [if_neg e, List.getElem?_set_ne (Ne.symm e)]
theorem Hs.piece_hd (h : Hs) {p : Nat} (hp : p < h.ps.length) (b k : Int) (q : Nat) : (h.piece p b k).hd q = if q = p then k else h.hd q := by
  unfold Hs.hd Hs.piece
  show (((h.ps.set p _)[q]?).map Pc.hd).getD 0 = _
  by_cases e : q = p
  · subst e
    rw [if_pos rfl, List.getElem?_set_self hp]
    exact Pc.rep_hd _ _ _
  · rw [if_neg e, List.getElem?_set_ne (Ne.symm e)]

theorem rowOk_rowD {q : Nat × Int} {p : Nat} {m : Int} : rowOk (rowD q) p m = (decide (q.1 = p) && (decide (0 ≤ q.2) && decide (q.2 ≤ m))) := by
  show ((decide ((p : Int) ≤ (q.1 : Int)) && decide ((q.1 : Int) ≤ (p : Int))) && (decide (0 ≤ q.2) && decide (q.2 ≤ m))) = _
  congr 1
  by_cases e : q.1 = p
  · rw [decide_eq_true e, decide_eq_true (by omega), decide_eq_true (by omega)]; rfl
  · rw [decide_eq_false e]
    by_cases e2 : (p : Int) ≤ (q.1 : Int)
    · rw [decide_eq_false (show ¬ (q.1 : Int) ≤ (p : Int) by omega), Bool.and_false]
    · rw [decide_eq_false e2, Bool.false_and]
/-- starts that are a plan hold -/
theorem holds_of {h : Hs} {xs ys : List (Option Int)} {t : Int} {T : List (Nat × Int)} (ho : h.ok) (ok : Okay h (waP xs ys) h.N T) (hk : T.map (·.1) = movP xs ys) (nn : ∀ q ∈ T, 0 ≤ q.2) (en : endS h T ≤ t) : holdsB h xs ys t (.ptp (T.map rowD)) = true := by
  have hen := endS_le.mp en
  have hrows : rowsOk (T.map rowD) (movP xs ys) t = true := by
    refine (rowsOk_at (by rw [List.length_map, ← hk, List.length_map])).mp fun i r p h1 h2 => ?_
    rw [List.getElem?_map] at h1
    obtain ⟨q, hq, rfl⟩ := Option.map_eq_some_iff.mp h1
    have e2 : (T.map (·.1))[i]? = some p := by rw [hk]; exact h2
    rw [List.getElem?_map, hq] at e2
    have e3 : q.1 = p := Option.some.inj e2
    have hqm := List.mem_of_getElem? hq
    have a := nn q hqm
    have b := hen.2 q hqm
    have c := (bt_nn ho q.1).1
    rw [rowOk_rowD, decide_eq_true e3, decide_eq_true a, decide_eq_true (show q.2 ≤ t by omega)]; rfl
  unfold holdsB
  rw [show toldB (.ptp (T.map rowD)) (movP xs ys) t = true from hrows, stOf_rows, ok.waitB, List.all_eq_true.mpr fun q hq => decide_eq_true (hen.2 q hq)]
  rfl

/-! ### the law's own search -/
/-- a plan that keeps some starts, the others from a beat on, all in a time -/
structure Ext (h : Hs) (W : List (Nat × Nat)) (n : Int) (mv : List Nat) (S : List (Nat × Int)) (since time : Int) (f : Nat → Int) : Prop where
  pl : PlanF h W n mv f
  keep : ∀ q ∈ S, f q.1 = q.2
  rest : ∀ p ∈ mv, p ∉ S.map (·.1) → since ≤ f p ∧ f p + h.bt p ≤ time
structure SomeI (h : Hs) (W : List (Nat × Nat)) (mv : List Nat) (S : List (Nat × Int)) : Prop where
  nd : (S.map (·.1)).Nodup
  sub : ∀ q ∈ S, q.1 ∈ mv
  mn : mv.Nodup
  lt : ∀ p ∈ mv, p < h.ps.length
  dom : ∀ p ∈ mv, ∀ o, gN W p = some o → o ∈ mv
section
variable {h : Hs} {W : List (Nat × Nat)} {n since time : Int} {mv : List Nat} {S : List (Nat × Int)}
theorem SomeI.cnt (ho : h.ok) (I : SomeI h W mv S) : S.length ≤ 8 := by
  have e := nodup_lt I.nd (n := h.ps.length) fun x hx => by
    obtain ⟨q, hq, rfl⟩ := List.mem_map.mp hx
    exact I.lt _ (I.sub q hq)
  rw [List.length_map] at e
  have := ho.len
  omega
theorem SomeI.mvl (ho : h.ok) (I : SomeI h W mv S) : mv.length ≤ 8 := by
  have e := nodup_lt I.mn (n := h.ps.length) fun x hx => I.lt x hx
  have := ho.len
  omega
theorem SomeI.st (ho : h.ok) (I : SomeI h W mv S) : StOk h S := ⟨by have := I.cnt ho; omega, I.nd, fun q hq => I.lt _ (I.sub q hq)⟩
theorem gS_at {o : Nat} {so : Int} (hg : gS S o = some so) : (o, so) ∈ S := by
  unfold gS at hg
  obtain ⟨r, hr, e⟩ := Option.map_eq_some_iff.mp hg
  have z := List.find?_some hr
  have z2 : r.1 = o := of_decide_eq_true z
  rw [← z2, ← e]
  exact List.mem_of_find?_eq_some hr
theorem Ext.mvS {f : Nat → Int} (x : Ext h W n mv S since time f) : S = Z.mvS (S.map (·.1)) f := by
  unfold Z.mvS
  rw [List.map_map]
  exact ((List.map_congr_left fun q hq => by show (q.1, f q.1) = id q; rw [x.keep q hq]; rfl).trans (List.map_id S)).symm
theorem Ext.clean (ho : h.ok) (I : SomeI h W mv S) {f : Nat → Int} (x : Ext h W n mv S since time f) : cleanB h W S n = true := by
  unfold cleanB
  rw [Bool.and_eq_true, List.all_eq_true, List.all_eq_true]
  refine ⟨fun q hq => ?_, fun q hq => decide_eq_true ?_⟩
  · unfold waitP
    cases hg : gN W q.1 with
    | none => rfl
    | some o =>
      show (match gS S o with | none => true | some so => !decide (q.2 < so + h.bt o)) = true
      cases hs : gS S o with
      | none => rfl
      | some so =>
        have a := x.keep _ (gS_at hs)
        have b := x.keep q hq
        have c := x.pl.wt q.1 (I.sub q hq) o hg
        show (!decide (q.2 < so + h.bt o)) = true
        have a' : f o = so := a
        rw [decide_eq_false (by omega)]; rfl
  · rw [x.mvS]
    refine Int.le_trans (load_sub ho I.nd (fun p hp => ?_) I.mn _) (x.pl.ld _)
    obtain ⟨q, hq, rfl⟩ := List.mem_map.mp hp
    exact I.sub q hq
theorem Ext.full (ho : h.ok) (hn : 0 ≤ n) (I : SomeI h W mv S) (hall : ∀ p ∈ mv, p ∈ S.map (·.1)) (hc : cleanB h W S n = true) : Ext h W n mv S since time (fS S) := by
  have hWS : ∀ p o, gN W p = some o → p ∈ S.map (·.1) → o ∈ S.map (·.1) := fun p o hg hp => by
    obtain ⟨q, hq, rfl⟩ := List.mem_map.mp hp
    exact hall o (I.dom _ (I.sub q hq) o hg)
  rw [clean_comes hWS] at hc
  have ok := Okay.of ho hn I.nd hWS hc
  have pm : (S.map (·.1)).Perm mv := (List.perm_ext_iff_of_nodup I.nd I.mn).mpr fun p => ⟨fun hp => by
    obtain ⟨q, hq, rfl⟩ := List.mem_map.mp hp
    exact I.sub q hq, hall p⟩
  exact ⟨ok.planF pm, fun q hq => fS_mem I.nd hq, fun p hp hn => (hn (hall p hp)).elim⟩
theorem Ext.more {f : Nat → Int} (x : Ext h W n mv S since time f) (p : Nat) : Ext h W n mv (S ++ [(p, f p)]) since time f := by
  refine ⟨x.pl, fun q hq => ?_, fun r hr hn => x.rest r hr fun z => hn (by rw [List.map_append]; exact List.mem_append_left _ z)⟩
  rcases List.mem_append.mp hq with m | m
  · exact x.keep q m
  · rw [List.mem_singleton.mp m]
theorem Ext.less {f : Nat → Int} {p : Nat} {s : Int} (h1 : since ≤ s) (h2 : s + h.bt p ≤ time) (x : Ext h W n mv (S ++ [(p, s)]) since time f) : Ext h W n mv S since time f := by
  refine ⟨x.pl, fun q hq => x.keep q (List.mem_append_left _ hq), fun r hr hn => ?_⟩
  by_cases e : r = p
  · subst e
    have z : f r = s := x.keep (r, s) (List.mem_append_right _ List.mem_cons_self)
    omega
  · refine x.rest r hr fun z => ?_
    rw [List.map_append] at z
    rcases List.mem_append.mp z with m | m
    · exact hn m
    · exact e (by simpa using m)
theorem SomeI.step (I : SomeI h W mv S) {p : Nat} (hp : p ∈ mv) (hn : p ∉ S.map (·.1)) (s : Int) : SomeI h W mv (S ++ [(p, s)]) := by
  refine ⟨?_, fun q hq => ?_, I.mn, I.lt, I.dom⟩
  · rw [List.map_append]
    exact List.nodup_append.mpr ⟨I.nd, by simp, fun a ha b hb e => hn (by
      have : b = p := by simpa using hb
      rw [← this, ← e]; exact ha)⟩
  · rcases List.mem_append.mp hq with m | m
    · exact I.sub q m
    · rw [List.mem_singleton.mp m]; exact hp
end
def w_lsome (d : Nat) : FSp := fun ms cs R _ => match ms with
  | [.frz tb, .frz e, .frz ml, .frz sd, .frz (.int since), .frz (.int time)] => ∃ (h : Hs) (W : List (Nat × Nat)) (mv : List Nat) (S : List (Nat × Int)), tb = h.tb ∧ e = .dct (dNN W) ∧ ml = .lst (mv.map nI) ∧ sd = .dct (dS S) ∧ h.ok ∧ SomeI h W mv S ∧ (mv.filter fun p => !decide (p ∈ S.map (·.1))).length ≤ d ∧ (-1000 ≤ since ∧ since ≤ 1000) ∧ (-1000 ≤ time ∧ time ≤ 1000) ∧
      ∀ r : Option (List (Nat × Int)), (r = none ↔ ∀ f, ¬ Ext h W h.N mv S since time f) → R (.frz (bD r)) cs
  | _ => False
theorem filter_more {mv : List Nat} (hm : mv.Nodup) {S : List (Nat × Int)} {p : Nat} {s : Int} (hp : p ∈ mv) (hn : p ∉ S.map (·.1)) : (mv.filter fun x => !decide (x ∈ (S ++ [(p, s)]).map (·.1))).length + 1 = (mv.filter fun x => !decide (x ∈ S.map (·.1))).length := by
  have e : (mv.filter fun x => !decide (x ∈ (S ++ [(p, s)]).map (·.1))) = (mv.filter fun x => !decide (x ∈ S.map (·.1))).filter fun o => !decide (o = p) := by
    rw [List.filter_filter]
    refine List.filter_congr fun x _ => ?_
    rw [List.map_append]
    by_cases e1 : x = p
    · simp [e1]
    · simp [e1]
  rw [e]
  exact len_ne2 (hm.filter _) (List.mem_filter.mpr ⟨hp, by simp [hn]⟩)
section
local macro_rules | `(tactic| k_get) => `(tactic| first
  | ((with_reducible show EV _ _ (.Call (.Name _ _) [_] [] _) _ _ _); refine ev_dictC (by assumption) ?_)
  | refine ev_fn (by assumption) (L2.Room.mono (by assumption) (by omega)) ?_)
variable {P : Program} {w : World} {K : PySem.W.Frag} {mg : Str → Option Value} {base : Heap}
theorem ok_lsome_step {f : Addr} {fd : FuncData} (F : FunZ K "_law_some" "_law_some" s_L_some f fd) (f1 : Fn P w K mg base "_law_clean" 3 w_lclean) (f2 : Fn P w K mg base "_law_beats" 1 w_lbeats) (g1 : mg "range" = none) (g2 : mg "dict" = none) (d : Nat)
    (ih : ∀ d', d = d' + 1 → Fn P w K mg base "_law_some" (d' + 4) (w_lsome d')) : FnOk P w K mg base CX0 (d + 4) f fd ["_law_table_here", "_law_awaited", "_law_movers", "_law_starts", "_law_since", "_law_time"] (toSp (w_lsome d)) := by
  refine def_ok F sc_L_some (by intro ms cs R Z h; unfold w_lsome at h; split at h; rfl; exact h.elim) fun cdv A outer s H E a ms cs R Zx hr hw => ?_
  have nd := sc_L_some.nd
  have sc := sc_L_some
  have hu : (XZ P w K mg base n_L_some "_law_some" s_L_some f cdv A outer s H E).A.units + 1 < cLine := hu_of hr
  have hu64 : (XZ P w K mg base n_L_some "_law_some" s_L_some f cdv A outer s H E).A.units + 64 < cLine := by have := hr.un; show (A.deeper _).units + 64 < cLine; omega
  unfold w_lsome at hw
  split at hw
  · rename_i tb e ml sd since time
    obtain ⟨h, W, mv, S, rfl, rfl, rfl, rfl, ho, I, hd, hsi, hti, q⟩ := hw
    have ok := I.st ho
    have hml := I.mvl ho
    have hSl := I.cnt ho
    have hN := ho.N
    refine svs_wkE ?_
    have no_ : ∀ c, Wk c cs → (∀ f, ¬ Ext h W h.N mv S since time f) → ∃ c', Wk c c' ∧ R (.frz .non) c' := fun c hw hno => ⟨cs, hw, q none ⟨fun _ => hno, fun _ => rfl⟩⟩
    have yes_ : ∀ c T f, Wk c cs → Ext h W h.N mv S since time f → ∃ c', Wk c c' ∧ R (.frz (.dct (dS T))) c' := fun c T f hw he => ⟨cs, hw, q (some T) ⟨fun e => (nomatch e), fun z => (z f he).elim⟩⟩
    refine svs_cons ?_
    k_steps
    rename_i L hL
    rw [List.map_map, List.map_map]
    refine lcloop_fn mv _ (fun p => !decide (p ∈ S.map (·.1))) (fun p => .frz (nI p)) (fun _ => .lst) (fun x hx acc hacc => ?_) ?_
    · refine ⟨_, rfl, ?_⟩
      k_steps
      refine ⟨_, inM_dS, ?_⟩
      generalize hB : decide (x ∈ S.map (·.1)) = B
      cases B with
      | true => k_steps
      | false => k_steps
    have hrm : ∀ p, p ∈ mv.filter (fun p => !decide (p ∈ S.map (·.1))) ↔ p ∈ mv ∧ p ∉ S.map (·.1) := fun p => by
      rw [List.mem_filter]
      simp
    have hstep := fun p s => @filter_more mv I.mn S p s
    generalize (mv.filter fun p => !decide (p ∈ S.map (·.1))) = rest at hd hrm hstep ⊢
    rw [show rest.map (fun p => Mv.frz (nI p)) = (rest.map nI).map Mv.frz by rw [List.map_map]; rfl]
    refine svs_frz L (.lst (rest.map nI)) (by k_same) (.hit (.same _)) ?_
    refine svs_cons (sv_if ?_)
    k_steps
    refine ⟨h, W, S, rfl, rfl, rfl, ok, ?_⟩
    cases hcl : cleanB h W S h.N with
    | false =>
      k_units
      refine no_ _ Wk.refl fun f x => ?_
      rw [x.clean ho I] at hcl
      cases hcl
    | true =>
      k_steps
      refine svs_cons (sv_if ?_)
      k_steps
      rename_i L0 hL0
      refine ⟨_, _, PlM.frz (d := .lst (rest.map nI)) (n := 2) (nI_shs _) (by decide), PlM.lst (l := []) (n := 1) List.mem_cons_self rfl (by decide), ?_⟩
      rw [show PyData.eqv (Dv.lst (rest.map nI)).py (.list (Dv.pys [])) = decide (rest = []) from eqv_nI rest []]
      by_cases hrs : rest = []
      · rw [decide_eq_true hrs]
        subst hrs
        refine ⟨fun _ => ?_, (fun h => nomatch h)⟩
        k_units
        exact yes_ _ S _ (Wk.sub (List.sublist_cons_self _ _)) (Ext.full ho (by omega) I (fun p hp => Classical.byContradiction fun z => by have := (hrm p).mpr ⟨hp, z⟩; cases this) hcl)
      rw [decide_eq_false hrs]
      refine ⟨(fun h => nomatch h), fun _ => ?_⟩
      refine svs_wk (Wk.sub (List.sublist_cons_self _ _)) ?_
      obtain ⟨p0, rest', rfl⟩ : ∃ p0 r, rest = p0 :: r := by
        cases rest with
        | nil => exact (hrs rfl).elim
        | cons p0 r => exact ⟨p0, r, rfl⟩
      have hp0 := (hrm p0).mp List.mem_cons_self
      have hl0 := I.lt p0 hp0.1
      have hb0 := h.bt_pos ho hl0
      have hst := fun s => hstep p0 s hp0.1 hp0.2
      have hix0 : ∀ c, IxM c (.frz (.lst ((p0 :: rest').map nI))) (.frz (.int 0)) (.frz (nI p0)) := fun c => IxM.seq SeqM.lst (atI_at (k := 0) rfl)
      refine svs_nil ?_
      refine svs_cons (sv_for1 (by assumption) ?_)
      k_steps
      refine ⟨_, hix0 _, ?_⟩
      k_steps
      refine lbeats_use hl0 ?_
      k_steps
      · omega
      · omega
      · omega
      · omega
      refine ⟨fun i ρ' c' => ∃ v8 v9 v10 : Option Mv, ρ' = [some (.frz h.tb), some (.frz (.dct (dNN W))), some (.frz (.lst (mv.map nI))), some (.frz (.dct (dS S))), some (.frz (.int since)), some (.frz (.int time)), some (.frz (.lst ((p0 :: rest').map nI))), none, v8, v9, v10] ∧ c' = cs ∧ Kp (∀ j < i, ∀ f, ¬ Ext h W h.N mv (S ++ [(p0, since + (j : Nat))]) since time f), ⟨_, _, _, rfl, rfl, Kp.i (by omega)⟩, fun _ _ _ _ _ => trivial, ?_, ?_⟩
      · rintro i it ρ' c' hi ⟨v8, v9, v10, rfl, rfl, hj⟩
        replace hj := hj.o
        obtain ⟨hi', rfl⟩ := its_range hi
        have hs1 : since + (i : Nat) + h.bt p0 ≤ time := by omega
        refine ⟨_, rfl, svs_wkE ?_⟩
        refine svs_cons ?_
        k_steps
        refine ⟨_, .frz, fun D hD => ?_⟩
        refine svs_cons (sv_dput hu ?_)
        k_steps
        refine ⟨_, hix0 _, ?_⟩
        refine ⟨D, _, .inl (p0 : Int), _, rfl, rfl, .hit, by have := dSM_len S; unfold dSM at *; omega, ?_⟩
        rw [show (dS S).map (fun kv => (kv.1, Mv.frz kv.2)) = dSM S from rfl, putKs_dSM (fun x hx e => hp0.2 (by rw [← e]; exact List.mem_map.mpr ⟨x, hx, rfl⟩))]
        refine svs_frz D (.dct (dS (S ++ [(p0, since + (i : Nat))]))) (by k_same) (.hit (.same _)) ?_
        obtain ⟨d', rfl⟩ : ∃ d', d = d' + 1 := ⟨d - 1, by rw [List.length_cons] at hd; omega⟩
        have hih := ih d' rfl
        refine svs_cons ?_
        k_steps
        refine ⟨h, W, mv, S ++ [(p0, since + (i : Nat))], rfl, rfl, rfl, rfl, ho, I.step hp0.1 hp0.2 _, by have := hst (since + (i : Nat)); omega, hsi, hti, fun r hr2 => ?_⟩
        k_steps
        refine svs_cons (sv_if ?_)
        cases hr3 : r with
        | none =>
          k_steps
          refine .non ?_
          k_steps
          refine ⟨_, Wk.refl, _, _, _, rfl, rfl, Kp.i fun j hj2 => ?_⟩
          by_cases e : j = i
          · subst e; exact hr2.mp hr3
          · exact hj j (by omega)
        | some T =>
          obtain ⟨f, hf⟩ : ∃ f, Ext h W h.N mv (S ++ [(p0, since + (i : Nat))]) since time f := Classical.byContradiction fun z => by
            have := hr2.mpr fun f hf => z ⟨f, hf⟩
            rw [hr3] at this
            cases this
          k_steps
          refine .non ?_
          k_units
          exact ⟨_, Wk.refl, yes_ _ T f Wk.refl (hf.less (by omega) hs1)⟩
      · rintro ρ' c' ⟨v8, v9, v10, rfl, rfl, hj⟩
        replace hj := hj.o
        rw [List.length_map, List.length_range] at hj
        k_units
        refine no_ _ Wk.refl fun f x => ?_
        obtain ⟨a, b⟩ := x.rest p0 hp0.1 hp0.2
        have z := x.more p0
        rw [show f p0 = since + (((f p0 - since).toNat : Nat) : Int) by omega] at z
        exact hj _ (by omega) f z
  · exact hw.elim
theorem ok_lsome_all {f : Addr} {fd : FuncData} (F : FunZ K "_law_some" "_law_some" s_L_some f fd) (f1 : Fn P w K mg base "_law_clean" 3 w_lclean) (f2 : Fn P w K mg base "_law_beats" 1 w_lbeats) (g1 : mg "range" = none) (g2 : mg "dict" = none) (hm : mg "_law_some" = some (.ref f)) (hk : PySem.W.keepIn K (.ref f) = true) (hb : L2.Binds K fd ["_law_table_here", "_law_awaited", "_law_movers", "_law_starts", "_law_since", "_law_time"] []) : ∀ d, FnOk P w K mg base CX0 (d + 4) f fd ["_law_table_here", "_law_awaited", "_law_movers", "_law_starts", "_law_since", "_law_time"] (toSp (w_lsome d))
  | 0 => ok_lsome_step F f1 f2 g1 g2 0 fun d' e => by omega
  | d + 1 => ok_lsome_step F f1 f2 g1 g2 (d + 1) fun d' e => by
    cases e
    exact ⟨f, fd, _, ok_lsome_all F f1 f2 g1 g2 hm hk hb d, hm, hk, hb⟩
theorem ok_lsome {f : Addr} {fd : FuncData} (F : FunZ K "_law_some" "_law_some" s_L_some f fd) (f1 : Fn P w K mg base "_law_clean" 3 w_lclean) (f2 : Fn P w K mg base "_law_beats" 1 w_lbeats) (g1 : mg "range" = none) (g2 : mg "dict" = none) (hm : mg "_law_some" = some (.ref f)) (hk : PySem.W.keepIn K (.ref f) = true) (hb : L2.Binds K fd ["_law_table_here", "_law_awaited", "_law_movers", "_law_starts", "_law_since", "_law_time"] []) : FnOk P w K mg base CX0 12 f fd ["_law_table_here", "_law_awaited", "_law_movers", "_law_starts", "_law_since", "_law_time"] (toSp (w_lsome 8)) := by
  exact ok_lsome_all F f1 f2 g1 g2 hm hk hb 8
end

def w_lis_any : FSp := fun ms cs R _ => match ms with
  | [.frz tb, .frz d1, .frz d2, .frz (.int t)] => ∃ (h : Hs) (xs ys : List (Option Int)), tb = h.tb ∧ h.ok ∧ d1 = plT xs ∧ d2 = plT ys ∧ xs.length = h.ps.length ∧ ys.length = h.ps.length ∧ (0 ≤ t ∧ t ≤ 1000) ∧ ∀ b : Bool, (b = true ↔ CanIn h (waP xs ys) h.N (movP xs ys) t) → R (.frz (.bl b)) cs
  | _ => False
section
local macro_rules | `(tactic| k_put) => `(tactic| ((with_reducible show EV _ _ (.Dict [] [] _) _ _ _); refine ev_frz (ev_dnew fun D hD => ⟨D, _, .dct [], _, rfl, .dct _, .hit (.same _), ?_⟩)))
variable {P : Program} {w : World} {K : PySem.W.Frag} {mg : Str → Option Value} {base : Heap}
theorem ok_lis_any {f : Addr} {fd : FuncData} (F : FunZ K "_law_is_any" "_law_is_any" s_L_is_any f fd) (f1 : Fn P w K mg base "_law_some" 12 (w_lsome 8)) (f2 : Fn P w K mg base "_law_waits" 2 w_waiting) (f3 : Fn P w K mg base "_law_moves" 1 w_moving) : FnOk P w K mg base CX0 13 f fd ["_law_table_here", "_law_first", "_law_then", "_law_time"] (toSp w_lis_any) := by
  refine def_ok F sc_L_is_any (by intro ms cs R Z h; unfold w_lis_any at h; split at h; rfl; exact h.elim) fun cdv A outer s H E a ms cs R Zx hr hw => ?_
  have nd := sc_L_is_any.nd
  have sc := sc_L_is_any
  have hu : (XZ P w K mg base n_L_is_any "_law_is_any" s_L_is_any f cdv A outer s H E).A.units + 1 < cLine := hu_of hr
  have hu64 : (XZ P w K mg base n_L_is_any "_law_is_any" s_L_is_any f cdv A outer s H E).A.units + 64 < cLine := by have := hr.un; show (A.deeper _).units + 64 < cLine; omega
  unfold w_lis_any at hw
  split at hw
  · rename_i tb d1 d2 t
    obtain ⟨h, xs, ys, rfl, ho, rfl, rfl, l1, l2, ht, q⟩ := hw
    have h8 := ho.len
    have hmlt : ∀ p ∈ movP xs ys, p < h.ps.length := fun p hp => by have := movP_lt hp; omega
    have hml : (movP xs ys).length ≤ 8 := by
      have := nodup_lt (movP_nodup xs ys) (n := xs.length) fun x hx => movP_lt hx
      omega
    have hI : SomeI h (waP xs ys) (movP xs ys) [] := ⟨by simp, by simp, movP_nodup xs ys, hmlt, fun p _ o hg => (waP_mem (gN_mem hg)).2.1⟩
    have key : (∃ f, Ext h (waP xs ys) h.N (movP xs ys) [] 0 t f) ↔ CanIn h (waP xs ys) h.N (movP xs ys) t := by
      constructor
      · rintro ⟨f, x⟩
        exact ⟨f, x.pl, fun p hp => (x.rest p hp (by simp)).1, ht.1, fun p hp => (x.rest p hp (by simp)).2⟩
      · rintro ⟨f, pl, nn, en⟩
        exact ⟨f, pl, (fun q hq => by cases hq), fun p hp _ => ⟨nn p hp, en.2 p hp⟩⟩
    refine svs_cons (sv_ret ?_)
    k_units
    refine ⟨xs, ys, rfl, rfl, by omega, by omega, ?_⟩
    k_units
    refine moving_use (by omega) (by omega) ?_
    k_units
    refine ⟨h, waP xs ys, movP xs ys, [], rfl, rfl, rfl, rfl, ho, hI, Nat.le_trans (List.length_filter_le _ _) hml, ⟨by decide, by decide⟩, ⟨by omega, by omega⟩, fun r hr2 => ?_⟩
    cases hr3 : r with
    | none =>
      k_units
      refine .non ?_
      refine q false ⟨fun e => (nomatch e), fun c => ?_⟩
      obtain ⟨f, x⟩ := key.mpr c
      exact (hr2.mp hr3 f x).elim
    | some T =>
      k_units
      refine .non ?_
      refine q true ⟨fun _ => key.mp (Classical.byContradiction fun z => ?_), fun _ => rfl⟩
      have := hr2.mpr fun f x => z ⟨f, x⟩
      rw [hr3] at this
      cases this
  · exact hw.elim
end

/-! ### the law's calm: only so many pieces move -/
def calmP (xs ys : List (Option Int)) (m : Nat) : List (Option Int) := xs.zipIdx.map fun q => if q.2 ∈ (movP xs ys).take m then (ys[q.2]?).getD none else q.1
theorem calmP_len (xs ys : List (Option Int)) (m : Nat) : (calmP xs ys m).length = xs.length := by unfold calmP; rw [List.length_map, List.length_zipIdx]
theorem calmP_at {xs ys : List (Option Int)} {m i : Nat} : (calmP xs ys m)[i]? = (xs[i]?).map fun x => if i ∈ (movP xs ys).take m then (ys[i]?).getD none else x := by
  unfold calmP
  rw [List.getElem?_map, List.getElem?_zipIdx, Option.map_map, Nat.zero_add]
  rfl
theorem calm_scene {h : Hs} {xs ys : List (Option Int)} {m : Nat} (hx : isScene h (plT xs) = true) (hy : isScene h (plT ys) = true) (hn : ((calmP xs ys m).filterMap id).Nodup) : isScene h (plT (calmP xs ys m)) = true := by
  obtain ⟨a1, a2⟩ := isScene_pl.mp hx
  obtain ⟨b1, b2⟩ := isScene_pl.mp hy
  have nt := nodup_take (calmP xs ys m) _ (Nat.le_refl _)
  rw [List.take_length] at nt
  have z := nt.mp hn
  refine isScene_pl.mpr ⟨by rw [calmP_len]; exact a1, fun i hi => ?_⟩
  rw [calmP_len] at hi
  have hxi : xs[i]? = some xs[i] := List.getElem?_eq_getElem hi
  have hyi : ys[i]? = some (ys[i]'(by omega)) := List.getElem?_eq_getElem (by omega)
  have hpi : h.ps[i]? = some (h.ps[i]'(by omega)) := List.getElem?_eq_getElem (by omega)
  have ea := a2 i hi
  have eb := b2 i (by omega)
  unfold okAt at ea eb ⊢
  rw [hpi, hxi] at ea
  rw [hpi, hyi] at eb
  have ec : (calmP xs ys m)[i]? = some (if i ∈ (movP xs ys).take m then ys[i]'(by omega) else xs[i]) := by
    rw [calmP_at, hxi, hyi]; rfl
  rw [hpi, ec]
  have ea1 := (Bool.and_eq_true _ _ |>.mp ea).1
  have eb1 := (Bool.and_eq_true _ _ |>.mp eb).1
  show ((h.ps[i]'(by omega)).mayP h (if i ∈ (movP xs ys).take m then ys[i]'(by omega) else xs[i]) && _) = true
  have e1 : (h.ps[i]'(by omega)).mayP h (if i ∈ (movP xs ys).take m then ys[i]'(by omega) else xs[i]) = true := by
    split
    · exact eb1
    · exact ea1
  rw [e1, Bool.true_and]
  cases ev : (if i ∈ (movP xs ys).take m then ys[i]'(by omega) else xs[i]) with
  | none => rfl
  | some k =>
    have y := z i (by rw [calmP_len]; exact hi) k (by rw [ec, ev])
    show (false || !decide (some k ∈ (calmP xs ys m).take i)) = true
    rw [decide_eq_false y]; rfl
theorem sorted_sub : ∀ {a b : List Nat}, a.Pairwise (· < ·) → b.Pairwise (· < ·) → (∀ x ∈ a, x ∈ b) → List.Sublist a b
  | [], _, _, _, _ => List.nil_sublist _
  | x :: a, [], _, _, h => by have := h x List.mem_cons_self; cases this
  | x :: a, y :: b, ha, hb, h => by
    have ha' := List.pairwise_cons.mp ha
    have hb' := List.pairwise_cons.mp hb
    by_cases e : x = y
    · subst e
      refine List.Sublist.cons₂ _ (sorted_sub ha'.2 hb'.2 fun z hz => ?_)
      rcases List.mem_cons.mp (h z (List.mem_cons_of_mem _ hz)) with rfl | m
      · exact absurd (ha'.1 z hz) (Nat.lt_irrefl _)
      · exact m
    · refine List.Sublist.cons _ (sorted_sub ha hb'.2 fun z hz => ?_)
      rcases List.mem_cons.mp (h z hz) with rfl | m
      · rcases List.mem_cons.mp hz with rfl | hz2
        · exact absurd rfl e
        · have h1 := ha'.1 z hz2
          rcases List.mem_cons.mp (h x List.mem_cons_self) with e2 | m2
          · exact absurd e2 e
          · have := hb'.1 x m2
            omega
      · exact m
theorem calm_mov {xs ys : List (Option Int)} (hl : xs.length = ys.length) {m i : Nat} (h : i ∈ movP xs (calmP xs ys m)) : i ∈ (movP xs ys).take m := by
  obtain ⟨h1, h2⟩ := List.mem_filter.mp h
  refine Classical.byContradiction fun z => ?_
  have hi := List.mem_range.mp h1
  have hxi : xs[i]? = some xs[i] := List.getElem?_eq_getElem hi
  rw [calmP_at, hxi] at h2
  rw [show ((some xs[i]).map fun x => if i ∈ (movP xs ys).take m then (ys[i]?).getD none else x) = some xs[i] by rw [Option.map_some, if_neg z]] at h2
  simp at h2
def w_lcalm : FSp := fun ms cs R _ => match ms with
  | [.frz d1, .frz d2, .frz (.int m)] => ∃ (h : Hs) (xs ys : List (Option Int)), d1 = plT xs ∧ d2 = plT ys ∧ (1 ≤ m ∧ m ≤ 8) ∧ h.ok ∧ isScene h (plT xs) = true ∧ isScene h (plT ys) = true ∧ ∀ zs, isScene h (plT zs) = true → ((movP xs zs).length : Int) ≤ m → R (.frz (plT zs)) cs
  | _ => False
section
local macro_rules | `(tactic| k_put) => `(tactic| first
  | ((with_reducible show IV _ _ (.Tuple _ _ _) (.Call (.Name _ _) _ _ _) _ _ _); refine iv_enumT ?_ (by assumption))
  | ((with_reducible show IV _ _ (.Name _ _) (.Name _ _) _ _ _); refine iv_tup ?_))
variable {P : Program} {w : World} {K : PySem.W.Frag} {mg : Str → Option Value} {base : Heap}
theorem ok_lcalm {f : Addr} {fd : FuncData} (F : FunZ K "_law_calm" "_law_calm" s_L_calm f fd) (f3 : Fn P w K mg base "_law_moves" 1 w_moving) (g1 : mg "tuple" = none) (g2 : mg "enumerate" = none) (g3 : mg "len" = none) (g4 : mg "set" = none) : FnOk P w K mg base CX0 2 f fd ["_law_first", "_law_then", "_law_most"] (toSp w_lcalm) := by
  refine def_ok F sc_L_calm (by intro ms cs R Z h; unfold w_lcalm at h; split at h; rfl; exact h.elim) fun cdv A outer s H E a ms cs R Zx hr hw => ?_
  have nd := sc_L_calm.nd
  have sc := sc_L_calm
  have hu : (XZ P w K mg base n_L_calm "_law_calm" s_L_calm f cdv A outer s H E).A.units + 1 < cLine := hu_of hr
  have hu64 : (XZ P w K mg base n_L_calm "_law_calm" s_L_calm f cdv A outer s H E).A.units + 64 < cLine := by have := hr.un; show (A.deeper _).units + 64 < cLine; omega
  unfold w_lcalm at hw
  split at hw
  · rename_i d1 d2 m
    obtain ⟨h, xs, ys, rfl, rfl, hm, ho, hxs, hys, q⟩ := hw
    obtain ⟨_, l1, l2⟩ := plT_plains ho hxs
    obtain ⟨_, l3, l4⟩ := plT_plains ho hys
    have hlen : xs.length = ys.length := by omega
    obtain ⟨mn, rfl⟩ := Int.eq_ofNat_of_zero_le (by omega : 0 ≤ m)
    have hml : (movP xs ys).length ≤ 8 := by
      have := nodup_lt (movP_nodup xs ys) (n := xs.length) fun x hx => movP_lt hx
      omega
    refine svs_wkE ?_
    refine svs_cons ?_
    k_steps
    refine moving_use (by omega) (by omega) ?_
    k_steps
    rename_i L hL
    rw [enum_frz, List.zipIdx_map, List.map_map]
    refine lcloop_fn xs.zipIdx _ (fun _ => true) (fun q => .frz (plD (if q.2 ∈ (movP xs ys).take mn then (ys[q.2]?).getD none else q.1))) (fun _ => .tup) (fun q hq acc hacc => ?_) ?_
    · obtain ⟨x, i⟩ := q
      have hil : i < xs.length := (List.getElem?_eq_some_iff.mp (List.mem_zipIdx_iff_getElem?.mp hq)).1
      have haccl : acc.length ≤ 8 := by rw [List.length_zipIdx] at hacc; omega
      have hyi : ys[i]? = some (ys[i]'(by omega)) := List.getElem?_eq_getElem (by omega)
      generalize ys[i]'(by omega) = y at hyi
      refine ⟨.frz (nI i), .frz (plD x), .inl rfl, ?_⟩
      refine lcturn_no fun s0 H0 C cl fp => ?_
      refine ev_if (tv_post ?_)
      k_steps
      rename_i L3 hL3
      have ecut : cutD (((movP xs ys).map nI).map Mv.frz) none (some (mn : Int)) = (((movP xs ys).take mn).map nI).map Mv.frz := by rw [cutD_take, List.map_take, List.map_take]
      rw [ecut]
      refine ⟨_, InM.nat (SeqM.cel List.mem_cons_self), (L, Cell.lst acc) :: cs, Wk.sub (List.sublist_cons_self _ _), ?_⟩
      by_cases hin : i ∈ (movP xs ys).take mn
      · rw [decide_eq_true hin]
        k_steps
        refine ⟨_, IxM.seq SeqM.tup (atI_at (x := .frz (plD y)) (by rw [List.getElem?_map, List.getElem?_map, hyi]; rfl)), ?_⟩
        k_steps
        show acc ++ [Mv.frz (plD y)] = acc ++ [Mv.frz (plD (if i ∈ (movP xs ys).take mn then (ys[i]?).getD none else x))]
        rw [if_pos hin, hyi]
        rfl
      · rw [decide_eq_false hin]
        k_steps
        show acc ++ [Mv.frz (plD x)] = acc ++ [Mv.frz (plD (if i ∈ (movP xs ys).take mn then (ys[i]?).getD none else x))]
        rw [if_neg hin]
    rw [filter_all]
    refine TupQ.lcell (f := fun (q : Option Int × Nat) => plD (if q.2 ∈ (movP xs ys).take mn then (ys[q.2]?).getD none else q.1)) ?_
    rw [show xs.zipIdx.map (fun (q : Option Int × Nat) => plD (if q.2 ∈ (movP xs ys).take mn then (ys[q.2]?).getD none else q.1)) = (calmP xs ys mn).map plD by unfold calmP; rw [List.map_map]; rfl]
    have hcl := calmP_len xs ys mn
    have hcm : ((movP xs (calmP xs ys mn)).length : Int) ≤ mn := by
      have e := nodup_lt (l := (movP xs (calmP xs ys mn))) (movP_nodup xs _) (n := xs.length) fun x hx => movP_lt hx
      have e2 : (movP xs (calmP xs ys mn)).length ≤ ((movP xs ys).take mn).length := List.Sublist.length_le (by
        have hs : (movP xs (calmP xs ys mn)).Pairwise (· < ·) := List.Pairwise.filter _ List.pairwise_lt_range
        have ht : ((movP xs ys).take mn).Pairwise (· < ·) := List.Pairwise.sublist (List.take_sublist _ _) (List.Pairwise.filter _ List.pairwise_lt_range)
        exact sorted_sub hs ht fun x hx => calm_mov hlen hx)
      rw [List.length_take] at e2
      omega
    have hcs := fun hn => calm_scene (m := mn) hxs hys hn
    generalize calmP xs ys mn = zs at hcl hcm hcs ⊢
    k_steps
    rename_i L4 hL4
    rw [List.map_map, List.map_map]
    refine lcloop_fn zs _ (fun x => x.isSome) (fun x => .frz (plD x)) (fun _ => .tup) (fun x hx acc hacc => ?_) ?_
    · refine ⟨_, rfl, ?_⟩
      cases x with
      | none => k_steps <;> first | rfl | (rename_i hk; cases hk; done)
      | some k => k_steps <;> first | rfl | (rename_i hk; cases hk; done)
    have eheld : ((zs.filter fun x => x.isSome).map fun x => Mv.frz (plD x)) = (zs.filterMap id).map fun i => Mv.frz (.int i) := by
      clear hcl hcm hcs
      induction zs with
      | nil => rfl
      | cons x zs ih =>
        cases x with
        | none => exact ih
        | some k => show Mv.frz (.int k) :: _ = Mv.frz (.int k) :: _; rw [← ih]
    rw [eheld]
    have hlh : (zs.filterMap id).length ≤ 8 := Nat.le_trans (List.length_filterMap_le _ _) (by omega)
    have z := onceI_nodup (zs.filterMap id)
    refine svs_cons (sv_ret (ev_if ?_))
    k_steps
    · rename_i hk
      rw [List.length_map, py_ii] at hk
      have hk2 := of_decide_eq_true hk
      exact ⟨cs, Wk.sub (by k_sub), q zs (hcs (z.mp (by omega))) hcm⟩
    · refine ⟨cs, Wk.sub (by k_sub), q xs hxs ?_⟩
      have : movP xs xs = [] := List.filter_eq_nil_iff.mpr fun i _ => by simp
      rw [this]
      show (0 : Int) ≤ mn
      omega
  · exact hw.elim
end

/-! ### the fewest hands -/
/-- the fewest hands with which there is a plan in a time -/
def FewP (h : Hs) (W : List (Nat × Nat)) (mv : List Nat) (t : Int) : Option Int → Prop
  | none => ∀ n, 1 ≤ n → n ≤ 6 → ¬ CanIn h W n mv t
  | some n => (1 ≤ n ∧ n ≤ 6) ∧ CanIn h W n mv t ∧ ∀ m, 1 ≤ m → m < n → ¬ CanIn h W m mv t
def w_fewest (C : Addr) : FSp := fun ms cs R _ => match ms with
  | [.frz hv, .frz d1, .frz d2, .frz (.int t)] => ∃ (h : Hs) (xs ys : List (Option Int)), hv = h.dv C ∧ h.ok ∧ d1 = plT xs ∧ d2 = plT ys ∧ isScene h (plT xs) = true ∧ isScene h (plT ys) = true ∧ (0 ≤ t ∧ t ≤ 60) ∧ ∀ r, FewP h (waP xs ys) (movP xs ys) t r → R (.frz (oI r)) cs
  | _ => False
section
local macro_rules | `(tactic| k_put) => `(tactic| ((with_reducible show EV _ _ (.Tuple [] _ _) _ _ _); refine ev_tupP ?_))
local macro_rules | `(tactic| k_get) => `(tactic| ((with_reducible show EV _ _ (.Call (.Name _ _) [_] [] _) _ _ _); refine ev_fnD (by assumption) (L2.Room.mono (by assumption) (by decide)) ?_))
variable {P : Program} {w : World} {K : PySem.W.Frag} {mg : Str → Option Value} {base : Heap}
theorem ok_fewest {C f : Addr} {fd : FuncData} {tk : Tok} (F : FunZ K "fewest_hands" "fewest_hands" s_fewest_hands f fd) (f1 : Fn P w K mg base "need_scenes" 4 (w_need_scenes C)) (f5 : FnD P w K mg base "need_time" 2 w_need_time [.frz (.int 60)]) (f2 : Fn P w K mg base "earliest" 14 (w_earliest C)) (f3 : Fn P w K mg base "end_of" 2 (w_end_of C)) (g1 : mg "range" = none) (m2 : mg "MOST_HANDS" = some (.int 6 tk)) : FnOk P w K mg base CX0 15 f fd ["house", "first", "then", "time"] (toSp (w_fewest C)) := by
  refine def_ok F sc_fewest_hands (by intro ms cs R Z h; unfold w_fewest at h; split at h; rfl; exact h.elim) fun cdv A outer s H E a ms cs R Zx hr hw => ?_
  have nd := sc_fewest_hands.nd
  have sc := sc_fewest_hands
  have hu : (XZ P w K mg base n_fewest_hands "fewest_hands" s_fewest_hands f cdv A outer s H E).A.units + 1 < cLine := hu_of hr
  have hu64 : (XZ P w K mg base n_fewest_hands "fewest_hands" s_fewest_hands f cdv A outer s H E).A.units + 64 < cLine := by have := hr.un; show (A.deeper _).units + 64 < cLine; omega
  unfold w_fewest at hw
  split at hw
  · rename_i hv d1 d2 t
    obtain ⟨h, xs, ys, rfl, ho, rfl, rfl, h1, h2, ht, q⟩ := hw
    obtain ⟨p1, l1, l2⟩ := plT_plains ho h1
    obtain ⟨p2, l3, l4⟩ := plT_plains ho h2
    have hml : (movP xs ys).length ≤ 8 := by
      have := nodup_lt (movP_nodup xs ys) (n := xs.length) fun x hx => movP_lt hx
      omega
    have hmlt : ∀ p ∈ movP xs ys, p < h.ps.length := fun p hp => by have := movP_lt hp; omega
    refine svs_cons ?_
    k_steps
    refine ⟨h, rfl, ho, p1, p2, h1, h2, ?_⟩
    k_steps
    refine ⟨ht.1, ht.2, ?_⟩
    refine svs_cons (sv_for1 (by assumption) ?_)
    k_steps
    refine ⟨fun i ρ' c' => ∃ v4 v5 : Option Mv, ρ' = [some (.frz (h.dv C)), some (.frz (plT xs)), some (.frz (plT ys)), some (.frz (.int t)), v4, v5] ∧ c' = cs ∧ Kp (∀ n : Int, 1 ≤ n → n ≤ (i : Nat) → ¬ CanIn h (waP xs ys) n (movP xs ys) t), ⟨_, _, rfl, rfl, Kp.i fun n a b => by omega⟩, fun _ _ _ _ _ => trivial, ?_, ?_⟩
    · rintro i it ρ' c' hi ⟨v4, v5, rfl, rfl, hj⟩
      replace hj := hj.o
      obtain ⟨hi', rfl⟩ := its_range hi
      refine ⟨_, rfl, ?_⟩
      refine svs_cons ?_
      k_steps
      refine earl_use ho l1 l3 (by omega) fun r hr2 hB => ?_
      have hle := hr2.least
      have stop : ¬ CanIn h (waP xs ys) (1 + (i : Nat)) (movP xs ys) t → ∀ n : Int, 1 ≤ n → n ≤ ((i + 1 : Nat) : Int) → ¬ CanIn h (waP xs ys) n (movP xs ys) t := fun hno n a b => by
        by_cases e : n = 1 + (i : Nat)
        · rw [e]; exact hno
        · exact hj n a (by omega)
      refine svs_cons (sv_if ?_)
      cases hr3 : r with
      | none =>
        rw [hr3] at hle
        k_steps
        refine .non ?_
        k_steps
        exact stop (hle t)
      | some S =>
        have fS := hr2.full S hr3
        have okS := fS.st hml hmlt
        rw [hr3] at hle
        k_steps
        refine .non ?_
        k_steps
        refine end_of_use okS ?_
        k_steps
        · rename_i k0
          have hgt : endS h S ≤ t := of_decide_eq_true k0
          k_units
          exact q (some (1 + (i : Nat))) ⟨⟨by omega, by omega⟩, hle.1.mono hgt, fun m a b => hj m a (by omega)⟩
        · rename_i k0
          have hgt : ¬ endS h S ≤ t := of_decide_eq_false k0
          exact stop fun c => by have := hle.2 t c; omega
    · rintro ρ' c' ⟨v4, v5, rfl, rfl, hj⟩
      replace hj := hj.o
      k_units
      exact q none fun n a b => hj n a (by rw [List.length_map, List.length_range]; omega)
  · exact hw.elim
end

def w_lcrew : FSp := fun ms cs R _ => match ms with
  | [.frz tb, .frz (.int n)] => ∃ h : Hs, tb = h.tb ∧ R (.frz (h.hands n).tb) cs
  | _ => False
section
variable {P : Program} {w : World} {K : PySem.W.Frag} {mg : Str → Option Value} {base : Heap}
theorem ok_lcrew {f : Addr} {fd : FuncData} (F : FunZ K "_law_with_hands" "_law_with_hands" s_L_with_hands f fd) : FnOk P w K mg base CX0 1 f fd ["_law_table_here", "_law_crew"] (toSp w_lcrew) := by
  refine def_ok F sc_L_with_hands (by intro ms cs R Z h; unfold w_lcrew at h; split at h; rfl; exact h.elim) fun cdv A outer s H E a ms cs R Zx hr hw => ?_
  have nd := sc_L_with_hands.nd
  have sc := sc_L_with_hands
  have hu : (XZ P w K mg base n_L_with_hands "_law_with_hands" s_L_with_hands f cdv A outer s H E).A.units + 1 < cLine := hu_of hr
  have hu64 : (XZ P w K mg base n_L_with_hands "_law_with_hands" s_L_with_hands f cdv A outer s H E).A.units + 64 < cLine := by have := hr.un; show (A.deeper _).units + 64 < cLine; omega
  unfold w_lcrew at hw
  split at hw
  · rename_i tb n
    obtain ⟨h, rfl, q⟩ := hw
    refine svs_cons (sv_ret ?_)
    refine ev_frz (ev_disp (fun dp hdp => ?_) rfl rfl (by simp) (by decide))
    k_units
    refine AddQ.tup (Nat.le_of_ble_eq_true rfl) ?_
    k_units
    refine ⟨_, [(.inr "size", .frz (h.hands n).size), (.inr "pieces", .frz (.lst h.stock))], rfl, rfl, Nat.le_of_ble_eq_true rfl, ?_⟩
    exact ⟨_, _, (h.hands n).tb, _, rfl, .dct [_, _], .hit (.same _), q⟩
  · exact hw.elim
end

theorem CanIn.hands {h : Hs} {n : Int} {W : List (Nat × Nat)} {mv : List Nat} {t : Int} : CanIn (h.hands n) W (h.hands n).N mv t ↔ CanIn h W n mv t := by
  constructor <;> (rintro ⟨f, a, b, c⟩; exact ⟨f, ⟨a.wt, a.ld⟩, b, c⟩)
theorem PlanP.none_of {h : Hs} {W : List (Nat × Nat)} {n : Int} {mv : List Nat} {t : Int} {r : Option (List (Nat × Int))} (x : PlanP h W n mv t r) (hn : ¬ CanIn h W n mv t) : r = none := by
  cases hr : r with
  | none => rfl
  | some T => exact (hn ((x.lo T hr).1.mono (x.en T hr))).elim
section
variable {P : Program} {w : World} {K : PySem.W.Frag} {mg : Str → Option Value} {base : Heap}
theorem ok_law {C f : Addr} {fd : FuncData} (F : FunZ K "law" "law" s_law f fd) (f1 : Fn P w K mg base "_law_rounds" 2 (w_rounds K)) (f2 : Fn P w K mg base "_law_change" 6 (w_change C)) (f3 : Fn P w K mg base "fewest_hands" 15 (w_fewest C)) (f4 : Fn P w K mg base "_law_house" 5 (w_lhouse C)) (f5 : Fn P w K mg base "_law_is_any" 13 w_lis_any) (f6 : Fn P w K mg base "_law_calm" 2 w_lcalm) (f7 : Fn P w K mg base "_law_roll" 2 w_roll) (f8 : Fn P w K mg base "_law_with_hands" 1 w_lcrew) (f9 : Fn P w K mg base "plan" 15 (w_plan C)) (f10 : Fn P w K mg base "_law_is_plan" 4 w_lis_plan) (f11 : Fn P w K mg base "_law_is_number" 1 w_is_number) : FnOk P w K mg base CX0 16 f fd ["_law_script"] (toSp (w_law K)) := by
  refine def_ok F sc_law (by rintro ms cs R Z ⟨a, ns, rfl, _⟩; rfl) fun cdv A outer s H E a ms cs R Zx hr hw => ?_
  have nd := sc_law.nd
  have sc := sc_law
  have hu : (XZ P w K mg base n_law "law" s_law f cdv A outer s H E).A.units + 1 < cLine := hu_of hr
  have hu64 : (XZ P w K mg base n_law "law" s_law f cdv A outer s H E).A.units + 64 < cLine := by have := hr.un; show (A.deeper _).units + 64 < cLine; omega
  obtain ⟨sa, ns, rfl, rfl, hns, q⟩ := hw
  k_units
  refine ⟨rfl, ⟨by decide, by decide⟩, by omega, fun p ds c hds => ?_⟩
  refine ⟨_, .cel List.mem_cons_self, ?_⟩
  refine ⟨fun i ρ' c' => ∃ v1 v2 v3 v4 v5 v6 v7 v8 v9 v10 : Option Mv, ρ' = [some (.scr K sa ns), v1, v2, v3, v4, v5, v6, v7, v8, v9, v10] ∧ c' = (p, Cell.lst (ds.map Mv.cel)) :: c, ⟨_, _, _, _, _, _, _, _, _, _, rfl, rfl⟩, (fun i ρ' c' hi ⟨_, _, _, _, _, _, _, _, _, _, _, e⟩ => by rw [e]; exact .cel List.mem_cons_self), ?_, ?_⟩
  · rintro i it ρ' c' hi ⟨v1, v2, v3, v4, v5, v6, v7, v8, v9, v10, rfl, rfl⟩
    obtain ⟨d, hd, rfl⟩ := its_dice hds hi
    refine ⟨_, rfl, svs_wkE ?_⟩
    have hd' : (d, Cell.dice) ∈ (p, Cell.lst (ds.map Mv.cel)) :: c := List.mem_cons_of_mem _ hd
    have fin : ∀ cc u1 u2 u3 u4 u5 u6 u7 u8 u9 u10, Wk cc ((p, Cell.lst (ds.map Mv.cel)) :: c) → ∃ c', Wk cc c' ∧ ∃ w1 w2 w3 w4 w5 w6 w7 w8 w9 w10 : Option Mv, [some (.scr K sa ns), u1, u2, u3, u4, u5, u6, u7, u8, u9, u10] = [some (.scr K sa ns), w1, w2, w3, w4, w5, w6, w7, w8, w9, w10] ∧ c' = (p, Cell.lst (ds.map Mv.cel)) :: c := fun cc u1 u2 u3 u4 u5 u6 u7 u8 u9 u10 hw => ⟨_, hw, _, _, _, _, _, _, _, _, _, _, rfl, rfl⟩
    generalize hc0 : (p, Cell.lst (ds.map Mv.cel)) :: c = c0 at hd' fin ⊢
    refine svs_cons (sv_un4 sc_law ?_)
    k_steps
    refine ⟨hd', ⟨by decide, by decide⟩, fun h xs ys ht hxs hys => ?_⟩
    refine ⟨_, _, _, _, .tup (l := [_, _, _, _]), ?_⟩
    have ho := ht.ok (by decide)
    obtain ⟨_, l1, l2⟩ := plT_plains ho hxs
    obtain ⟨_, l3, l4⟩ := plT_plains ho hys
    have hlen : xs.length = ys.length := by omega
    have hml : (movP xs ys).length ≤ 5 := by
      have := nodup_lt (movP_nodup xs ys) (n := xs.length) fun x hx => movP_lt hx
      have := ht.len
      omega
    have hmlt : ∀ p ∈ movP xs ys, p < h.ps.length := fun p hp => by have := movP_lt hp; omega
    have hdom : ∀ p o, gN (waP xs ys) p = some o → o ∈ movP xs ys := fun p o hg => (waP_mem (gN_mem hg)).2.1
    clear hml hmlt hdom
    refine svs_cons ?_
    k_steps
    refine ⟨h, xs, ys, rfl, rfl, ⟨by decide, by decide⟩, ho, hxs, hys, fun zs hzs hzm => ?_⟩
    have h8 := ho.len
    have hN := ht.N
    obtain ⟨_, l5, l6⟩ := plT_plains ho hzs
    have hm8 : (movP xs zs).length ≤ 60 := by
      have := nodup_lt (movP_nodup xs zs) (n := xs.length) fun x hx => movP_lt hx
      omega
    refine svs_cons (sv_for1 (by assumption) ?_)
    k_steps
    refine roll_use (by k_made) (by decide) (by decide) fun t1 h11 h12 => ?_
    k_steps
    refine roll_use (by k_made) (by decide) (by decide) fun t2 h21 h22 => ?_
    k_steps
    rename_i L9 hL9
    refine ⟨fun j ρ2 c2 => ∃ v6 v7 v8 v9 v10 : Option Mv, ρ2 = [some (.scr K sa ns), some (.cel d), some (.frz h.tb), some (.frz (h.dv C)), some (.frz (plT xs)), some (.frz (plT zs)), v6, v7, v8, v9, v10] ∧ c2 = (L9, Cell.lst [.frz (.int t1), .frz (.int t2)]) :: c0, ⟨_, _, _, _, _, rfl, rfl⟩, (fun i ρ' c' hi ⟨_, _, _, _, _, _, e⟩ => by rw [e]; exact .cel List.mem_cons_self), ?_, ?_⟩
    · rintro j it ρ2 c2 hj ⟨v6, v7, v8, v9, v10, rfl, rfl⟩
      obtain ⟨t, ht9, rfl⟩ : ∃ t : Int, (0 ≤ t ∧ t ≤ 8) ∧ it = .one (.frz (.int t)) := by
        have hm := List.mem_of_getElem? hj
        simp only [List.map_cons, List.map_nil, List.mem_cons, List.not_mem_nil, or_false] at hm
        rcases hm with rfl | rfl
        · exact ⟨t1, ⟨by omega, by omega⟩, rfl⟩
        · exact ⟨t2, ⟨by omega, by omega⟩, rfl⟩
      refine ⟨_, rfl, ?_⟩
      refine svs_cons ?_
      k_steps
      refine ⟨h, xs, zs, rfl, ho, rfl, rfl, hxs, hzs, ⟨by omega, by omega⟩, fun r hr => ?_⟩
      cases r with
      | none =>
        have hno : ¬ CanIn h (waP xs zs) (7 - 1) (movP xs zs) t := hr 6 (by decide) (by decide)
        k_steps
        refine svs_cons (sv_if ?_)
        k_steps
        refine .non ?_
        k_steps
        refine .non ?_
        k_steps
        refine svs_cons (sv_if ?_)
        k_steps
        refine ⟨h, rfl, ?_⟩
        obtain ⟨h6, eh, ok6, hs6, hl6, can6⟩ : ∃ h6 : Hs, h.hands (7 - 1) = h6 ∧ h6.ok ∧ (∀ us, isScene h (plT us) = true → isScene h6 (plT us) = true) ∧ h6.ps.length = h.ps.length ∧ ∀ t, CanIn h6 (waP xs zs) h6.N (movP xs zs) t ↔ CanIn h (waP xs zs) (7 - 1) (movP xs zs) t := ⟨_, rfl, Hs.hands_ok ho (by omega), fun us hu => (Hs.hands_alike h _).scene hu, rfl, fun t => CanIn.hands⟩
        rw [eh]
        k_steps
        refine svs_cons (sv_if ?_)
        k_steps
        refine ⟨h6, xs, zs, rfl, ok6, rfl, rfl, by omega, by omega, ⟨by omega, by omega⟩, fun b hb => ?_⟩
        obtain rfl : b = false := by
          cases b with
          | false => rfl
          | true => exact (hno ((can6 t).mp (hb.mp rfl))).elim
        k_steps
        refine ⟨h6, rfl, ok6, ?_⟩
        k_steps
        refine ⟨h6, xs, zs, rfl, ok6, rfl, rfl, hs6 _ hxs, hs6 _ hzs, ⟨by omega, by omega⟩, fun r2 hr2 => ?_⟩
        rw [hr2.none_of fun c => hno ((can6 t).mp c)]
        k_steps
        refine .non ?_
        k_steps
        refine svs_cons (sv_if ?_)
        k_steps
        refine .non ?_
        k_steps
        exact ⟨_, _, _, _, _, rfl, rfl⟩
      | some n =>
        obtain ⟨hn6, hcan, hmin⟩ := hr
        k_steps
        refine svs_cons (sv_if ?_)
        k_steps
        refine .non ?_
        k_steps
        refine is_number_use (by first | exact (fun h => by cases h) | (intro h; cases h) | simp [Dv.noI, oI]) ?_
        rw [show isNum (oI (some n)) 1 6 = true from by show (decide (1 ≤ n) && decide (n ≤ 6)) = true; rw [decide_eq_true hn6.1, decide_eq_true hn6.2]; rfl]
        k_steps
        refine .non ?_
        k_steps
        refine svs_cut (fun ρ c => ∃ v9 : Option Mv, ρ = [some (.scr K sa ns), some (.cel d), some (.frz h.tb), some (.frz (h.dv C)), some (.frz (plT xs)), some (.frz (plT zs)), some (.frz (.int t)), some (.frz (oI (some n))), some (.frz (oI (some n))), v9, v10] ∧ c = (L9, Cell.lst [.frz (.int t1), .frz (.int t2)]) :: c0) (sv_if ?_) ?_
        · k_steps
          · rename_i e
            have hn1 : 1 < n := of_decide_eq_true e
            have hno : ¬ CanIn h (waP xs zs) (n - 1) (movP xs zs) t := hmin (n - 1) (by omega) (by omega)
            refine ⟨h, rfl, ?_⟩
            obtain ⟨h6, eh, ok6, hs6, hl6, can6⟩ : ∃ h6 : Hs, h.hands (n - 1) = h6 ∧ h6.ok ∧ (∀ us, isScene h (plT us) = true → isScene h6 (plT us) = true) ∧ h6.ps.length = h.ps.length ∧ ∀ t, CanIn h6 (waP xs zs) h6.N (movP xs zs) t ↔ CanIn h (waP xs zs) (n - 1) (movP xs zs) t := ⟨_, rfl, Hs.hands_ok ho (by omega), fun us hu => (Hs.hands_alike h _).scene hu, rfl, fun t => CanIn.hands⟩
            rw [eh]
            k_steps
            refine svs_cons (sv_if ?_)
            k_steps
            refine ⟨h6, xs, zs, rfl, ok6, rfl, rfl, by omega, by omega, ⟨by omega, by omega⟩, fun b hb => ?_⟩
            obtain rfl : b = false := by
              cases b with
              | false => rfl
              | true => exact (hno ((can6 t).mp (hb.mp rfl))).elim
            k_steps
            refine ⟨h6, rfl, ok6, ?_⟩
            k_steps
            refine ⟨h6, xs, zs, rfl, ok6, rfl, rfl, hs6 _ hxs, hs6 _ hzs, ⟨by omega, by omega⟩, fun r2 hr2 => ?_⟩
            rw [hr2.none_of fun c => hno ((can6 t).mp c)]
            k_steps
            refine .non ?_
            k_steps
            exact Kp.i ⟨_, rfl, rfl⟩
          · exact Kp.i ⟨_, rfl, rfl⟩
        · rintro ρ c ⟨v9, rfl, rfl⟩
          refine svs_cons (sv_if ?_)
          k_steps
          refine .non ?_
          k_steps
          refine ⟨h, rfl, ?_⟩
          obtain ⟨h6, eh, ok6, hs6, hl6, can6⟩ : ∃ h6 : Hs, h.hands (n) = h6 ∧ h6.ok ∧ (∀ us, isScene h (plT us) = true → isScene h6 (plT us) = true) ∧ h6.ps.length = h.ps.length ∧ ∀ t, CanIn h6 (waP xs zs) h6.N (movP xs zs) t ↔ CanIn h (waP xs zs) (n) (movP xs zs) t := ⟨_, rfl, Hs.hands_ok ho (by omega), fun us hu => (Hs.hands_alike h _).scene hu, rfl, fun t => CanIn.hands⟩
          rw [eh]
          k_steps
          refine svs_cons (sv_if ?_)
          k_steps
          refine ⟨h6, xs, zs, rfl, ok6, rfl, rfl, by omega, by omega, ⟨by omega, by omega⟩, fun b hb => ?_⟩
          obtain rfl : b = true := hb.mpr ((can6 t).mpr hcan)
          k_steps
          refine svs_cons (sv_if ?_)
          k_steps
          refine ⟨h6, rfl, ok6, ?_⟩
          k_steps
          refine ⟨h6, xs, zs, rfl, ok6, rfl, rfl, hs6 _ hxs, hs6 _ hzs, ⟨by omega, by omega⟩, fun r2 hr2 => ?_⟩
          obtain ⟨T, rfl⟩ : ∃ T, r2 = some T := by
            cases r2 with
            | none => exact (hr2.no rfl ((can6 t).mpr hcan)).elim
            | some T => exact ⟨T, rfl⟩
          have hTl : T.length ≤ 60 := by
            have e := congrArg List.length (hr2.ks T rfl)
            rw [List.length_map] at e
            omega
          have hh := holds_of ok6 (hr2.ok T rfl) (hr2.ks T rfl) (hr2.nn T rfl) (hr2.en T rfl)
          k_steps
          refine ⟨h6, xs, zs, rfl, ok6, rfl, rfl, by omega, by omega, seenT_rows hTl, ?_⟩
          rw [show holdsB h6 xs zs t (oP (some T)) = true from hh]
          k_steps
          exact ⟨_, _, _, _, _, rfl, rfl⟩
    · rintro ρ' c' ⟨v6, v7, v8, v9, v10, rfl, rfl⟩
      k_steps
      exact fin _ _ _ _ _ _ _ _ _ _ _ (Wk.sub (by k_sub))
  · rintro ρ' c' ⟨v1, v2, v3, v4, v5, v6, v7, v8, v9, v10, rfl, rfl⟩
    k_units
    exact q _
end

theorem facts {P : Program} {w : World} {K : PySem.W.Frag} {h : Heap} {mg : Str → Option Value} {f : Addr} (X : K.In h) (G : h.Ns mainGlobals mg) (hfa : mg ("law" : Str) = some (.ref f)) (c : He.SaysD fa fn K) :
    ∃ fd : FuncData, (∀ (s : Shared) (v : Value), BindsTo s fd ⟨[v], []⟩ [("_law_script", v)]) ∧ ∀ base : Heap, K.In base → base.Ns mainGlobals mg → FnOk P w K mg base CX0 16 f fd ["_law_script"] (toSp (w_law K)) := by
  obtain ⟨fd_law, F_law⟩ := c.def_ 47 (d := d_47) rfl
  have e := hfa.symm.trans (He.glo_ok X G (c.fact 79 (f := .glo "law") rfl))
  cases e
  have b := FunD.bindsA (ps := ["_law_script"]) F_law fun _ _ _ _ _ _ us hl => match us, hl with | [_], _ => rfl
  refine ⟨fd_law, fun s v => b s [v] rfl, fun base _ _ => ?_⟩
  obtain ⟨fd_is_number, F_is_number⟩ := c.def_ 0 (d := d_0) rfl
  have B_is_number := FunD.bindsN (ps := ["thing", "least", "most"]) F_is_number fun _ _ _ _ _ _ us hl => match us, hl with | [_, _, _], _ => rfl
  have fn_is_number : Fn P w K mg base "is_number" 1 (w_is_number) := ⟨_, _, _, (ok_is_number ⟨_, _, F_is_number⟩ (He.free_ok X G (c.fact 0 (f := .free "isinstance") rfl)) (He.free_ok X G (c.fact 1 (f := .free "int") rfl)) (He.free_ok X G (c.fact 2 (f := .free "bool") rfl))), He.glo_ok X G (c.fact 3 (f := .glo "is_number") rfl), F_is_number.kp, B_is_number⟩
  obtain ⟨fd_need_number, F_need_number⟩ := c.def_ 1 (d := d_1) rfl
  have B_need_number := FunD.bindsN (ps := ["thing", "least", "most"]) F_need_number fun _ _ _ _ _ _ us hl => match us, hl with | [_, _, _], _ => rfl
  have fn_need_number : Fn P w K mg base "need_number" 2 (w_need_number) := ⟨_, _, _, (ok_need_number ⟨_, _, F_need_number⟩ fn_is_number), He.glo_ok X G (c.fact 4 (f := .glo "need_number") rfl), F_need_number.kp, B_need_number⟩
  obtain ⟨t_MOST_HANDS, v_MOST_HANDS⟩ := He.int_ok X G (c.fact 5 (f := .int "MOST_HANDS" 6) rfl)
  obtain ⟨fd_House__init, F_House__init⟩ := c.def_ 2 (d := d_2) rfl
  obtain ⟨ds_House__init, V_House__init, B_House__init⟩ := FunD.binds1 (ps := ["self", "lines", "slots", "hands"]) F_House__init 4 2 (List.cons_ne_nil _ _) rfl fun _ _ _ _ _ _ _ us its hl hi => match us, its, hl, hi with | [_, _, _, _], [_, _], _, _ => ⟨_, rfl, rfl⟩
  have V2_House__init : Vals [] ds_House__init := V_House__init
  cases V2_House__init
  have mkr_House : Mkr P w K mg base "House" (He.ga K "House") 3 ((w_house_init (He.ga K "House"))) := ⟨_, _, _, (ok_house_init ⟨_, _, F_House__init⟩ fn_need_number v_MOST_HANDS (He.cls_ok (c.fact 6 (f := .cls "House") rfl)) (He.noat_ok (c.fact 7 (f := .noat "House" "size") rfl)) (He.noat_ok (c.fact 8 (f := .noat "House" "stock") rfl))), He.mkr_ok (c.fact 9 (f := .mkr "House") rfl), He.glo_ok X G (c.fact 10 (f := .glo "House") rfl), B_House__init⟩
  obtain ⟨t_MOST_PIECES, v_MOST_PIECES⟩ := He.int_ok X G (c.fact 12 (f := .int "MOST_PIECES" 8) rfl)
  obtain ⟨fd_House_taken_in, F_House_taken_in⟩ := c.def_ 3 (d := d_3) rfl
  have B_House_taken_in := FunD.bindsN (ps := ["self", "piece"]) F_House_taken_in fun _ _ _ _ _ _ us hl => match us, hl with | [_, _], _ => rfl
  have mth_House_taken_in : Mth P w K mg base (He.ga K "House") "taken_in" 1 ((w_taken_in (He.ga K "House"))) := ⟨_, _, _, (ok_taken_in ⟨_, _, F_House_taken_in⟩ (He.free_ok X G (c.fact 11 (f := .free "len") rfl)) v_MOST_PIECES (He.cls_ok (c.fact 6 (f := .cls "House") rfl)) (He.noat_ok (c.fact 8 (f := .noat "House" "stock") rfl))), He.cls_ok (c.fact 6 (f := .cls "House") rfl), He.meth_ok (c.fact 13 (f := .meth "House" "taken_in") rfl), B_House_taken_in⟩
  obtain ⟨t_MOST_BEATS, v_MOST_BEATS⟩ := He.int_ok X G (c.fact 14 (f := .int "MOST_BEATS" 4) rfl)
  obtain ⟨fd_House_cloth, F_House_cloth⟩ := c.def_ 4 (d := d_4) rfl
  obtain ⟨ds_House_cloth, V_House_cloth, B_House_cloth⟩ := FunD.binds1 (ps := ["self", "line", "beats", "hands"]) F_House_cloth 4 2 (List.cons_ne_nil _ _) rfl fun _ _ _ _ _ _ _ us its hl hi => match us, its, hl, hi with | [_, _, _, _], [_, _], _, _ => ⟨_, rfl, rfl⟩
  have V2_House_cloth : Vals [] ds_House_cloth := V_House_cloth
  cases V2_House_cloth
  have mth_House_cloth : Mth P w K mg base (He.ga K "House") "cloth" 3 ((w_cloth (He.ga K "House"))) := ⟨_, _, _, (ok_cloth ⟨_, _, F_House_cloth⟩ fn_is_number fn_need_number mth_House_taken_in v_MOST_BEATS v_MOST_HANDS (He.cls_ok (c.fact 6 (f := .cls "House") rfl)) (He.noat_ok (c.fact 7 (f := .noat "House" "size") rfl))), He.cls_ok (c.fact 6 (f := .cls "House") rfl), He.meth_ok (c.fact 15 (f := .meth "House" "cloth") rfl), B_House_cloth⟩
  obtain ⟨fd_House_truck, F_House_truck⟩ := c.def_ 5 (d := d_5) rfl
  obtain ⟨ds_House_truck, V_House_truck, B_House_truck⟩ := FunD.binds1 (ps := ["self", "beats", "hands"]) F_House_truck 3 2 (List.cons_ne_nil _ _) rfl fun _ _ _ _ _ _ _ us its hl hi => match us, its, hl, hi with | [_, _, _], [_, _], _, _ => ⟨_, rfl, rfl⟩
  have V2_House_truck : Vals [] ds_House_truck := V_House_truck
  cases V2_House_truck
  have mth_House_truck : Mth P w K mg base (He.ga K "House") "truck" 3 ((w_truck (He.ga K "House"))) := ⟨_, _, _, (ok_truck ⟨_, _, F_House_truck⟩ fn_need_number mth_House_taken_in v_MOST_BEATS v_MOST_HANDS), He.cls_ok (c.fact 6 (f := .cls "House") rfl), He.meth_ok (c.fact 16 (f := .meth "House" "truck") rfl), B_House_truck⟩
  obtain ⟨fd_L_drawn, F_L_drawn⟩ := c.def_ 6 (d := d_6) rfl
  have B_L_drawn := FunD.bindsN (ps := ["_law_cell_here", "_law_k"]) F_L_drawn fun _ _ _ _ _ _ us hl => match us, hl with | [_, _], _ => rfl
  have fn_L_drawn : Fn P w K mg base "_law_drawn" 1 (w_drawn) := ⟨_, _, _, (ok_drawn ⟨_, _, F_L_drawn⟩ ), He.glo_ok X G (c.fact 17 (f := .glo "_law_drawn") rfl), F_L_drawn.kp, B_L_drawn⟩
  obtain ⟨fd_L_roll, F_L_roll⟩ := c.def_ 7 (d := d_7) rfl
  have B_L_roll := FunD.bindsN (ps := ["_law_dice", "_law_many"]) F_L_roll fun _ _ _ _ _ _ us hl => match us, hl with | [_, _], _ => rfl
  have fn_L_roll : Fn P w K mg base "_law_roll" 2 (w_roll) := ⟨_, _, _, (ok_roll ⟨_, _, F_L_roll⟩ fn_L_drawn), He.glo_ok X G (c.fact 18 (f := .glo "_law_roll") rfl), F_L_roll.kp, B_L_roll⟩
  obtain ⟨fd_L_cell, F_L_cell⟩ := c.def_ 8 (d := d_8) rfl
  have B_L_cell := FunD.bindsN (ps := ["_law_script", "_law_k"]) F_L_cell fun _ _ _ _ _ _ us hl => match us, hl with | [_, _], _ => rfl
  have fn_L_cell : Fn P w K mg base "_law_cell" 1 ((w_cell K)) := ⟨_, _, _, (ok_cell ⟨_, _, F_L_cell⟩ (He.free_ok X G (c.fact 11 (f := .free "len") rfl))), He.glo_ok X G (c.fact 19 (f := .glo "_law_cell") rfl), F_L_cell.kp, B_L_cell⟩
  obtain ⟨fd_L_rounds, F_L_rounds⟩ := c.def_ 9 (d := d_9) rfl
  have B_L_rounds := FunD.bindsN (ps := ["_law_script", "_law_most"]) F_L_rounds fun _ _ _ _ _ _ us hl => match us, hl with | [_, _], _ => rfl
  have fn_L_rounds : Fn P w K mg base "_law_rounds" 2 ((w_rounds K)) := ⟨_, _, _, (ok_rounds ⟨_, _, F_L_rounds⟩ fn_L_cell (He.free_ok X G (c.fact 11 (f := .free "len") rfl)) (He.free_ok X G (c.fact 20 (f := .free "min") rfl)) (He.free_ok X G (c.fact 21 (f := .free "max") rfl)) (He.free_ok X G (c.fact 22 (f := .free "range") rfl))), He.glo_ok X G (c.fact 23 (f := .glo "_law_rounds") rfl), F_L_rounds.kp, B_L_rounds⟩
  obtain ⟨fd_L_table, F_L_table⟩ := c.def_ 10 (d := d_10) rfl
  have B_L_table := FunD.bindsN (ps := ["_law_dice", "_law_most"]) F_L_table fun _ _ _ _ _ _ us hl => match us, hl with | [_, _], _ => rfl
  have fn_L_table : Fn P w K mg base "_law_table" 3 (w_table) := ⟨_, _, _, (ok_table ⟨_, _, F_L_table⟩ fn_L_roll (He.free_ok X G (c.fact 20 (f := .free "min") rfl)) (He.free_ok X G (c.fact 21 (f := .free "max") rfl)) (He.free_ok X G (c.fact 22 (f := .free "range") rfl))), He.glo_ok X G (c.fact 24 (f := .glo "_law_table") rfl), F_L_table.kp, B_L_table⟩
  obtain ⟨fd_L_house, F_L_house⟩ := c.def_ 11 (d := d_11) rfl
  have B_L_house := FunD.bindsN (ps := ["_law_table_here"]) F_L_house fun _ _ _ _ _ _ us hl => match us, hl with | [_], _ => rfl
  have fn_L_house : Fn P w K mg base "_law_house" 5 ((w_lhouse (He.ga K "House"))) := ⟨_, _, _, (ok_lhouse ⟨_, _, F_L_house⟩ mkr_House mth_House_cloth mth_House_truck), He.glo_ok X G (c.fact 25 (f := .glo "_law_house") rfl), F_L_house.kp, B_L_house⟩
  obtain ⟨t_UP, v_UP⟩ := He.str_ok X G (c.fact 26 (f := .str "UP" "up") rfl)
  obtain ⟨fd_House_may_be, F_House_may_be⟩ := c.def_ 12 (d := d_12) rfl
  have B_House_may_be := FunD.bindsN (ps := ["self", "piece", "place"]) F_House_may_be fun _ _ _ _ _ _ us hl => match us, hl with | [_, _, _], _ => rfl
  have mth_House_may_be : Mth P w K mg base (He.ga K "House") "may_be" 2 ((w_may_be (He.ga K "House"))) := ⟨_, _, _, (ok_may_be ⟨_, _, F_House_may_be⟩ fn_is_number v_UP (He.free_ok X G (c.fact 0 (f := .free "isinstance") rfl)) (He.free_ok X G (c.fact 27 (f := .free "str") rfl)) (He.cls_ok (c.fact 6 (f := .cls "House") rfl)) (He.noat_ok (c.fact 7 (f := .noat "House" "size") rfl)) (He.noat_ok (c.fact 8 (f := .noat "House" "stock") rfl))), He.cls_ok (c.fact 6 (f := .cls "House") rfl), He.meth_ok (c.fact 28 (f := .meth "House" "may_be") rfl), B_House_may_be⟩
  obtain ⟨fd_House_is_scene, F_House_is_scene⟩ := c.def_ 13 (d := d_13) rfl
  have B_House_is_scene := FunD.bindsN (ps := ["self", "thing"]) F_House_is_scene fun _ _ _ _ _ _ us hl => match us, hl with | [_, _], _ => rfl
  have mth_House_is_scene : Mth P w K mg base (He.ga K "House") "is_scene" 3 ((w_is_scene (He.ga K "House"))) := ⟨_, _, _, (ok_is_scene ⟨_, _, F_House_is_scene⟩ mth_House_may_be v_UP (He.free_ok X G (c.fact 0 (f := .free "isinstance") rfl)) (He.free_ok X G (c.fact 29 (f := .free "tuple") rfl)) (He.free_ok X G (c.fact 11 (f := .free "len") rfl)) (He.free_ok X G (c.fact 30 (f := .free "all") rfl)) (He.free_ok X G (c.fact 31 (f := .free "set") rfl)) (He.free_ok X G (c.fact 32 (f := .free "enumerate") rfl)) (He.cls_ok (c.fact 6 (f := .cls "House") rfl)) (He.noat_ok (c.fact 8 (f := .noat "House" "stock") rfl))), He.cls_ok (c.fact 6 (f := .cls "House") rfl), He.meth_ok (c.fact 33 (f := .meth "House" "is_scene") rfl), B_House_is_scene⟩
  obtain ⟨fd_L_scene, F_L_scene⟩ := c.def_ 14 (d := d_14) rfl
  have B_L_scene := FunD.bindsN (ps := ["_law_table_here", "_law_dice", "_law_elder"]) F_L_scene fun _ _ _ _ _ _ us hl => match us, hl with | [_, _, _], _ => rfl
  have fn_L_scene : Fn P w K mg base "_law_scene" 3 (w_lscene) := ⟨_, _, _, (ok_lscene ⟨_, _, F_L_scene⟩ fn_L_roll (He.free_ok X G (c.fact 11 (f := .free "len") rfl)) (He.free_ok X G (c.fact 32 (f := .free "enumerate") rfl)) (He.free_ok X G (c.fact 34 (f := .free "list") rfl)) (He.free_ok X G (c.fact 22 (f := .free "range") rfl)) (He.free_ok X G (c.fact 29 (f := .free "tuple") rfl))), He.glo_ok X G (c.fact 35 (f := .glo "_law_scene") rfl), F_L_scene.kp, B_L_scene⟩
  obtain ⟨fd_need_scenes, F_need_scenes⟩ := c.def_ 15 (d := d_15) rfl
  have B_need_scenes := FunD.bindsN (ps := ["house", "first", "then"]) F_need_scenes fun _ _ _ _ _ _ us hl => match us, hl with | [_, _, _], _ => rfl
  have fn_need_scenes : Fn P w K mg base "need_scenes" 4 ((w_need_scenes (He.ga K "House"))) := ⟨_, _, _, (ok_need_scenes ⟨_, _, F_need_scenes⟩ mth_House_is_scene), He.glo_ok X G (c.fact 36 (f := .glo "need_scenes") rfl), F_need_scenes.kp, B_need_scenes⟩
  obtain ⟨fd_moving, F_moving⟩ := c.def_ 16 (d := d_16) rfl
  have B_moving := FunD.bindsN (ps := ["first", "then"]) F_moving fun _ _ _ _ _ _ us hl => match us, hl with | [_, _], _ => rfl
  have fn_moving : Fn P w K mg base "moving" 1 (w_moving) := ⟨_, _, _, (ok_moving ⟨_, _, F_moving⟩ (He.free_ok X G (c.fact 32 (f := .free "enumerate") rfl))), He.glo_ok X G (c.fact 37 (f := .glo "moving") rfl), F_moving.kp, B_moving⟩
  obtain ⟨fd_waiting, F_waiting⟩ := c.def_ 17 (d := d_17) rfl
  have B_waiting := FunD.bindsN (ps := ["first", "then"]) F_waiting fun _ _ _ _ _ _ us hl => match us, hl with | [_, _], _ => rfl
  have fn_waiting : Fn P w K mg base "waiting" 2 (w_waiting) := ⟨_, _, _, (ok_waiting ⟨_, _, F_waiting⟩ fn_moving v_UP), He.glo_ok X G (c.fact 38 (f := .glo "waiting") rfl), F_waiting.kp, B_waiting⟩
  obtain ⟨fd_L_moves, F_L_moves⟩ := c.def_ 18 (d := d_18) rfl
  have B_L_moves := FunD.bindsN (ps := ["_law_first", "_law_then"]) F_L_moves fun _ _ _ _ _ _ us hl => match us, hl with | [_, _], _ => rfl
  have fn_L_moves : Fn P w K mg base "_law_moves" 1 (w_moving) := ⟨_, _, _, (ok_lmoves ⟨_, _, F_L_moves⟩ (He.free_ok X G (c.fact 11 (f := .free "len") rfl)) (He.free_ok X G (c.fact 22 (f := .free "range") rfl))), He.glo_ok X G (c.fact 39 (f := .glo "_law_moves") rfl), F_L_moves.kp, B_L_moves⟩
  obtain ⟨fd_L_waits, F_L_waits⟩ := c.def_ 19 (d := d_19) rfl
  have B_L_waits := FunD.bindsN (ps := ["_law_first", "_law_then"]) F_L_waits fun _ _ _ _ _ _ us hl => match us, hl with | [_, _], _ => rfl
  have fn_L_waits : Fn P w K mg base "_law_waits" 2 (w_waiting) := ⟨_, _, _, (ok_lwaits ⟨_, _, F_L_waits⟩ fn_L_moves), He.glo_ok X G (c.fact 40 (f := .glo "_law_waits") rfl), F_L_waits.kp, B_L_waits⟩
  obtain ⟨fd_L_turned, F_L_turned⟩ := c.def_ 20 (d := d_20) rfl
  have B_L_turned := FunD.bindsN (ps := ["_law_table_here", "_law_dice", "_law_first"]) F_L_turned fun _ _ _ _ _ _ us hl => match us, hl with | [_, _, _], _ => rfl
  have fn_L_turned : Fn P w K mg base "_law_turned" 3 (w_turned) := ⟨_, _, _, (ok_turned ⟨_, _, F_L_turned⟩ fn_L_roll (He.free_ok X G (c.fact 11 (f := .free "len") rfl)) (He.free_ok X G (c.fact 41 (f := .free "zip") rfl)) (He.free_ok X G (c.fact 29 (f := .free "tuple") rfl))), He.glo_ok X G (c.fact 42 (f := .glo "_law_turned") rfl), F_L_turned.kp, B_L_turned⟩
  obtain ⟨fd_L_change, F_L_change⟩ := c.def_ 21 (d := d_21) rfl
  have B_L_change := FunD.bindsN (ps := ["_law_dice", "_law_most"]) F_L_change fun _ _ _ _ _ _ us hl => match us, hl with | [_, _], _ => rfl
  have fn_L_change : Fn P w K mg base "_law_change" 6 ((w_change (He.ga K "House"))) := ⟨_, _, _, (ok_change ⟨_, _, F_L_change⟩ fn_L_roll fn_L_table fn_L_house fn_L_scene fn_L_turned (He.free_ok X G (c.fact 34 (f := .free "list") rfl))), He.glo_ok X G (c.fact 43 (f := .glo "_law_change") rfl), F_L_change.kp, B_L_change⟩
  obtain ⟨fd_House_beats_of, F_House_beats_of⟩ := c.def_ 22 (d := d_22) rfl
  have B_House_beats_of := FunD.bindsN (ps := ["self", "piece"]) F_House_beats_of fun _ _ _ _ _ _ us hl => match us, hl with | [_, _], _ => rfl
  have mth_House_beats_of : Mth P w K mg base (He.ga K "House") "beats_of" 1 ((w_beats_of (He.ga K "House"))) := ⟨_, _, _, (ok_beats_of ⟨_, _, F_House_beats_of⟩ (He.cls_ok (c.fact 6 (f := .cls "House") rfl)) (He.noat_ok (c.fact 8 (f := .noat "House" "stock") rfl))), He.cls_ok (c.fact 6 (f := .cls "House") rfl), He.meth_ok (c.fact 44 (f := .meth "House" "beats_of") rfl), B_House_beats_of⟩
  obtain ⟨fd_House_hands_of, F_House_hands_of⟩ := c.def_ 23 (d := d_23) rfl
  have B_House_hands_of := FunD.bindsN (ps := ["self", "piece"]) F_House_hands_of fun _ _ _ _ _ _ us hl => match us, hl with | [_, _], _ => rfl
  have mth_House_hands_of : Mth P w K mg base (He.ga K "House") "hands_of" 1 ((w_hands_of (He.ga K "House"))) := ⟨_, _, _, (ok_hands_of ⟨_, _, F_House_hands_of⟩ (He.cls_ok (c.fact 6 (f := .cls "House") rfl)) (He.noat_ok (c.fact 8 (f := .noat "House" "stock") rfl))), He.cls_ok (c.fact 6 (f := .cls "House") rfl), He.meth_ok (c.fact 45 (f := .meth "House" "hands_of") rfl), B_House_hands_of⟩
  obtain ⟨fd_House_numbers, F_House_numbers⟩ := c.def_ 24 (d := d_24) rfl
  have B_House_numbers := FunD.bindsN (ps := ["self"]) F_House_numbers fun _ _ _ _ _ _ us hl => match us, hl with | [_], _ => rfl
  have mth_House_numbers : Mth P w K mg base (He.ga K "House") "numbers" 1 ((w_numbers (He.ga K "House"))) := ⟨_, _, _, (ok_numbers ⟨_, _, F_House_numbers⟩ (He.cls_ok (c.fact 6 (f := .cls "House") rfl)) (He.noat_ok (c.fact 7 (f := .noat "House" "size") rfl))), He.cls_ok (c.fact 6 (f := .cls "House") rfl), He.meth_ok (c.fact 46 (f := .meth "House" "numbers") rfl), B_House_numbers⟩
  obtain ⟨fd_hands_at, F_hands_at⟩ := c.def_ 25 (d := d_25) rfl
  have B_hands_at := FunD.bindsN (ps := ["house", "starts", "beat"]) F_hands_at fun _ _ _ _ _ _ us hl => match us, hl with | [_, _, _], _ => rfl
  have fn_hands_at : Fn P w K mg base "hands_at" 2 ((w_hands_at (He.ga K "House"))) := ⟨_, _, _, (ok_hands_at ⟨_, _, F_hands_at⟩ mth_House_hands_of mth_House_beats_of (He.free_ok X G (c.fact 47 (f := .free "sum") rfl))), He.glo_ok X G (c.fact 48 (f := .glo "hands_at") rfl), F_hands_at.kp, B_hands_at⟩
  obtain ⟨fd_comes_out, F_comes_out⟩ := c.def_ 26 (d := d_26) rfl
  have B_comes_out := FunD.bindsN (ps := ["house", "awaited", "starts", "hands"]) F_comes_out fun _ _ _ _ _ _ us hl => match us, hl with | [_, _, _, _], _ => rfl
  have fn_comes_out : Fn P w K mg base "comes_out" 3 ((w_comes_out (He.ga K "House"))) := ⟨_, _, _, (ok_comes_out ⟨_, _, F_comes_out⟩ mth_House_beats_of fn_hands_at (He.free_ok X G (c.fact 30 (f := .free "all") rfl))), He.glo_ok X G (c.fact 49 (f := .glo "comes_out") rfl), F_comes_out.kp, B_comes_out⟩
  obtain ⟨fd_end_of, F_end_of⟩ := c.def_ 27 (d := d_27) rfl
  have B_end_of := FunD.bindsN (ps := ["house", "starts"]) F_end_of fun _ _ _ _ _ _ us hl => match us, hl with | [_, _], _ => rfl
  have fn_end_of : Fn P w K mg base "end_of" 2 ((w_end_of (He.ga K "House"))) := ⟨_, _, _, (ok_end_of ⟨_, _, F_end_of⟩ mth_House_beats_of (He.free_ok X G (c.fact 21 (f := .free "max") rfl))), He.glo_ok X G (c.fact 50 (f := .glo "end_of") rfl), F_end_of.kp, B_end_of⟩
  obtain ⟨fd_fits, F_fits⟩ := c.def_ 28 (d := d_28) rfl
  have B_fits := FunD.bindsN (ps := ["house", "starts", "piece", "start", "hands"]) F_fits fun _ _ _ _ _ _ us hl => match us, hl with | [_, _, _, _, _], _ => rfl
  have fn_fits : Fn P w K mg base "fits" 3 ((w_fits (He.ga K "House"))) := ⟨_, _, _, (ok_fits ⟨_, _, F_fits⟩ mth_House_beats_of mth_House_hands_of fn_hands_at (He.free_ok X G (c.fact 22 (f := .free "range") rfl))), He.glo_ok X G (c.fact 51 (f := .glo "fits") rfl), F_fits.kp, B_fits⟩
  obtain ⟨fd_put_in, F_put_in⟩ := c.def_ 29 (d := d_29) rfl
  have B_put_in := FunD.bindsN (ps := ["house", "awaited", "starts", "piece", "beat", "hands"]) F_put_in fun _ _ _ _ _ _ us hl => match us, hl with | [_, _, _, _, _, _], _ => rfl
  have fn_put_in : Fn P w K mg base "put_in" 4 ((w_put_in (He.ga K "House"))) := ⟨_, _, _, (ok_put_in ⟨_, _, F_put_in⟩ mth_House_beats_of fn_fits (He.free_ok X G (c.fact 21 (f := .free "max") rfl)) (He.free_ok X G (c.fact 52 (f := .free "dict") rfl))), He.glo_ok X G (c.fact 53 (f := .glo "put_in") rfl), F_put_in.kp, B_put_in⟩
  obtain ⟨fd_Search__init, F_Search__init⟩ := c.def_ 30 (d := d_30) rfl
  have B_Search__init := FunD.bindsN (ps := ["self", "house", "awaited", "beat", "hands"]) F_Search__init fun _ _ _ _ _ _ us hl => match us, hl with | [_, _, _, _, _], _ => rfl
  have mkr_Search : Mkr P w K mg base "Search" (He.ga K "Search") 1 ((w_search_init (He.ga K "Search"))) := ⟨_, _, _, (ok_search_init ⟨_, _, F_Search__init⟩ (He.cls_ok (c.fact 54 (f := .cls "Search") rfl)) (He.noat_ok (c.fact 55 (f := .noat "Search" "own") rfl)) (He.noat_ok (c.fact 56 (f := .noat "Search" "awaited") rfl)) (He.noat_ok (c.fact 57 (f := .noat "Search" "beat") rfl)) (He.noat_ok (c.fact 58 (f := .noat "Search" "hands") rfl)) (He.noat_ok (c.fact 59 (f := .noat "Search" "best") rfl))), He.mkr_ok (c.fact 60 (f := .mkr "Search") rfl), He.glo_ok X G (c.fact 61 (f := .glo "Search") rfl), B_Search__init⟩
  obtain ⟨fd_Search_go, F_Search_go⟩ := c.def_ 31 (d := d_31) rfl
  have B_Search_go := FunD.bindsN (ps := ["self", "starts", "rest"]) F_Search_go fun _ _ _ _ _ _ us hl => match us, hl with | [_, _, _], _ => rfl
  have mth_Search_go : Mth P w K mg base (He.ga K "Search") "go" 13 ((w_go (He.ga K "House") (He.ga K "Search") 8)) := ⟨_, _, _, (ok_go ⟨_, _, F_Search_go⟩ fn_end_of fn_put_in (He.cls_ok (c.fact 54 (f := .cls "Search") rfl)) (He.noat_ok (c.fact 55 (f := .noat "Search" "own") rfl)) (He.noat_ok (c.fact 56 (f := .noat "Search" "awaited") rfl)) (He.noat_ok (c.fact 57 (f := .noat "Search" "beat") rfl)) (He.noat_ok (c.fact 58 (f := .noat "Search" "hands") rfl)) (He.noat_ok (c.fact 59 (f := .noat "Search" "best") rfl)) (He.meth_ok (c.fact 62 (f := .meth "Search" "go") rfl)) B_Search_go), He.cls_ok (c.fact 54 (f := .cls "Search") rfl), He.meth_ok (c.fact 62 (f := .meth "Search" "go") rfl), B_Search_go⟩
  obtain ⟨fd_earliest, F_earliest⟩ := c.def_ 32 (d := d_32) rfl
  have B_earliest := FunD.bindsN (ps := ["house", "first", "then", "begun", "beat", "hands"]) F_earliest fun _ _ _ _ _ _ us hl => match us, hl with | [_, _, _, _, _, _], _ => rfl
  have fn_earliest : Fn P w K mg base "earliest" 14 ((w_earliest (He.ga K "House"))) := ⟨_, _, _, (ok_earliest ⟨_, _, F_earliest⟩ fn_moving fn_waiting fn_comes_out mth_House_hands_of mkr_Search mth_Search_go (He.cls_ok (c.fact 54 (f := .cls "Search") rfl)) (He.noat_ok (c.fact 59 (f := .noat "Search" "best") rfl)) (He.free_ok X G (c.fact 52 (f := .free "dict") rfl)) (He.free_ok X G (c.fact 30 (f := .free "all") rfl))), He.glo_ok X G (c.fact 63 (f := .glo "earliest") rfl), F_earliest.kp, B_earliest⟩
  obtain ⟨fd_as_plan, F_as_plan⟩ := c.def_ 33 (d := d_33) rfl
  have B_as_plan := FunD.bindsN (ps := ["starts"]) F_as_plan fun _ _ _ _ _ _ us hl => match us, hl with | [_], _ => rfl
  have fn_as_plan : Fn P w K mg base "as_plan" 1 (w_asplan) := ⟨_, _, _, (ok_asplan ⟨_, _, F_as_plan⟩ (He.free_ok X G (c.fact 29 (f := .free "tuple") rfl)) (He.free_ok X G (c.fact 64 (f := .free "sorted") rfl))), He.glo_ok X G (c.fact 65 (f := .glo "as_plan") rfl), F_as_plan.kp, B_as_plan⟩
  obtain ⟨fd_need_time, F_need_time⟩ := c.def_ 34 (d := d_34) rfl
  obtain ⟨ds_need_time, V_need_time, B_need_time⟩ := FunD.binds1 (ps := ["thing", "most"]) F_need_time 2 1 (List.cons_ne_nil _ _) rfl fun _ _ _ _ _ _ _ us its hl hi => match us, its, hl, hi with | [_, _], [_], _, _ => ⟨_, rfl, rfl⟩
  have V2_need_time : Vals [] ds_need_time := V_need_time
  cases V2_need_time
  have fn_need_time : Fn P w K mg base "need_time" 2 (w_need_time) := ⟨_, _, _, (ok_need_time ⟨_, _, F_need_time⟩ fn_is_number), He.glo_ok X G (c.fact 66 (f := .glo "need_time") rfl), F_need_time.kp, B_need_time⟩
  obtain ⟨dD_need_time, VD_need_time, BD_need_time⟩ := FunD.binds1 (ps := ["thing", "most"]) F_need_time 1 0 (List.cons_ne_nil _ _) rfl fun _ _ _ _ _ _ _ us its hl hi => match us, its, hl, hi with | [_], [_], _, _ => ⟨_, rfl, rfl⟩
  have fnD_need_time : FnD P w K mg base "need_time" 2 (w_need_time) [.frz (.int 60)] := ⟨_, _, _, [.int 60], dD_need_time, (ok_need_time ⟨_, _, F_need_time⟩ fn_is_number), He.glo_ok X G (c.fact 66 (f := .glo "need_time") rfl), F_need_time.kp, BD_need_time, VD_need_time, DefV.int (DefV.nil)⟩
  obtain ⟨fd_plan, F_plan⟩ := c.def_ 35 (d := d_35) rfl
  have B_plan := FunD.bindsN (ps := ["house", "first", "then", "time"]) F_plan fun _ _ _ _ _ _ us hl => match us, hl with | [_, _, _, _], _ => rfl
  have fn_plan : Fn P w K mg base "plan" 15 ((w_plan (He.ga K "House"))) := ⟨_, _, _, (ok_plan ⟨_, _, F_plan⟩ fn_need_scenes fnD_need_time fn_earliest fn_end_of mth_House_numbers fn_as_plan), He.glo_ok X G (c.fact 67 (f := .glo "plan") rfl), F_plan.kp, B_plan⟩
  obtain ⟨fd_L_beats, F_L_beats⟩ := c.def_ 36 (d := d_36) rfl
  have B_L_beats := FunD.bindsN (ps := ["_law_table_here", "_law_piece"]) F_L_beats fun _ _ _ _ _ _ us hl => match us, hl with | [_, _], _ => rfl
  have fn_L_beats : Fn P w K mg base "_law_beats" 1 (w_lbeats) := ⟨_, _, _, (ok_lbeats ⟨_, _, F_L_beats⟩ ), He.glo_ok X G (c.fact 68 (f := .glo "_law_beats") rfl), F_L_beats.kp, B_L_beats⟩
  obtain ⟨fd_L_hands, F_L_hands⟩ := c.def_ 37 (d := d_37) rfl
  have B_L_hands := FunD.bindsN (ps := ["_law_table_here", "_law_piece"]) F_L_hands fun _ _ _ _ _ _ us hl => match us, hl with | [_, _], _ => rfl
  have fn_L_hands : Fn P w K mg base "_law_hands" 1 (w_lhands) := ⟨_, _, _, (ok_lhands ⟨_, _, F_L_hands⟩ ), He.glo_ok X G (c.fact 69 (f := .glo "_law_hands") rfl), F_L_hands.kp, B_L_hands⟩
  obtain ⟨fd_L_is_number, F_L_is_number⟩ := c.def_ 38 (d := d_38) rfl
  have B_L_is_number := FunD.bindsN (ps := ["_law_thing", "_law_low", "_law_high"]) F_L_is_number fun _ _ _ _ _ _ us hl => match us, hl with | [_, _, _], _ => rfl
  have fn_L_is_number : Fn P w K mg base "_law_is_number" 1 (w_is_number) := ⟨_, _, _, (ok_lnum ⟨_, _, F_L_is_number⟩ (He.free_ok X G (c.fact 0 (f := .free "isinstance") rfl)) (He.free_ok X G (c.fact 1 (f := .free "int") rfl)) (He.free_ok X G (c.fact 2 (f := .free "bool") rfl))), He.glo_ok X G (c.fact 70 (f := .glo "_law_is_number") rfl), F_L_is_number.kp, B_L_is_number⟩
  obtain ⟨fd_L_load, F_L_load⟩ := c.def_ 39 (d := d_39) rfl
  have B_L_load := FunD.bindsN (ps := ["_law_table_here", "_law_starts", "_law_beat"]) F_L_load fun _ _ _ _ _ _ us hl => match us, hl with | [_, _, _], _ => rfl
  have fn_L_load : Fn P w K mg base "_law_load" 2 (w_lload) := ⟨_, _, _, (ok_lload ⟨_, _, F_L_load⟩ fn_L_beats fn_L_hands), He.glo_ok X G (c.fact 71 (f := .glo "_law_load") rfl), F_L_load.kp, B_L_load⟩
  obtain ⟨fd_L_clean, F_L_clean⟩ := c.def_ 40 (d := d_40) rfl
  have B_L_clean := FunD.bindsN (ps := ["_law_table_here", "_law_awaited", "_law_starts"]) F_L_clean fun _ _ _ _ _ _ us hl => match us, hl with | [_, _, _], _ => rfl
  have fn_L_clean : Fn P w K mg base "_law_clean" 3 (w_lclean) := ⟨_, _, _, (ok_lclean ⟨_, _, F_L_clean⟩ fn_L_beats fn_L_load), He.glo_ok X G (c.fact 72 (f := .glo "_law_clean") rfl), F_L_clean.kp, B_L_clean⟩
  obtain ⟨fd_L_is_plan, F_L_is_plan⟩ := c.def_ 41 (d := d_41) rfl
  have B_L_is_plan := FunD.bindsN (ps := ["_law_table_here", "_law_first", "_law_then", "_law_time", "_law_thing"]) F_L_is_plan fun _ _ _ _ _ _ us hl => match us, hl with | [_, _, _, _, _], _ => rfl
  have fn_L_is_plan : Fn P w K mg base "_law_is_plan" 4 (w_lis_plan) := ⟨_, _, _, (ok_lis_plan ⟨_, _, F_L_is_plan⟩ fn_L_is_number fn_L_moves fn_L_waits fn_L_clean fn_L_beats (He.free_ok X G (c.fact 0 (f := .free "isinstance") rfl)) (He.free_ok X G (c.fact 29 (f := .free "tuple") rfl)) (He.free_ok X G (c.fact 11 (f := .free "len") rfl)) (He.free_ok X G (c.fact 41 (f := .free "zip") rfl))), He.glo_ok X G (c.fact 73 (f := .glo "_law_is_plan") rfl), F_L_is_plan.kp, B_L_is_plan⟩
  obtain ⟨fd_L_some, F_L_some⟩ := c.def_ 42 (d := d_42) rfl
  have B_L_some := FunD.bindsN (ps := ["_law_table_here", "_law_awaited", "_law_movers", "_law_starts", "_law_since", "_law_time"]) F_L_some fun _ _ _ _ _ _ us hl => match us, hl with | [_, _, _, _, _, _], _ => rfl
  have fn_L_some : Fn P w K mg base "_law_some" 12 ((w_lsome 8)) := ⟨_, _, _, (ok_lsome ⟨_, _, F_L_some⟩ fn_L_clean fn_L_beats (He.free_ok X G (c.fact 22 (f := .free "range") rfl)) (He.free_ok X G (c.fact 52 (f := .free "dict") rfl)) (He.glo_ok X G (c.fact 74 (f := .glo "_law_some") rfl)) F_L_some.kp B_L_some), He.glo_ok X G (c.fact 74 (f := .glo "_law_some") rfl), F_L_some.kp, B_L_some⟩
  obtain ⟨fd_L_is_any, F_L_is_any⟩ := c.def_ 43 (d := d_43) rfl
  have B_L_is_any := FunD.bindsN (ps := ["_law_table_here", "_law_first", "_law_then", "_law_time"]) F_L_is_any fun _ _ _ _ _ _ us hl => match us, hl with | [_, _, _, _], _ => rfl
  have fn_L_is_any : Fn P w K mg base "_law_is_any" 13 (w_lis_any) := ⟨_, _, _, (ok_lis_any ⟨_, _, F_L_is_any⟩ fn_L_some fn_L_waits fn_L_moves), He.glo_ok X G (c.fact 75 (f := .glo "_law_is_any") rfl), F_L_is_any.kp, B_L_is_any⟩
  obtain ⟨fd_L_calm, F_L_calm⟩ := c.def_ 44 (d := d_44) rfl
  have B_L_calm := FunD.bindsN (ps := ["_law_first", "_law_then", "_law_most"]) F_L_calm fun _ _ _ _ _ _ us hl => match us, hl with | [_, _, _], _ => rfl
  have fn_L_calm : Fn P w K mg base "_law_calm" 2 (w_lcalm) := ⟨_, _, _, (ok_lcalm ⟨_, _, F_L_calm⟩ fn_L_moves (He.free_ok X G (c.fact 29 (f := .free "tuple") rfl)) (He.free_ok X G (c.fact 32 (f := .free "enumerate") rfl)) (He.free_ok X G (c.fact 11 (f := .free "len") rfl)) (He.free_ok X G (c.fact 31 (f := .free "set") rfl))), He.glo_ok X G (c.fact 76 (f := .glo "_law_calm") rfl), F_L_calm.kp, B_L_calm⟩
  obtain ⟨fd_fewest_hands, F_fewest_hands⟩ := c.def_ 45 (d := d_45) rfl
  have B_fewest_hands := FunD.bindsN (ps := ["house", "first", "then", "time"]) F_fewest_hands fun _ _ _ _ _ _ us hl => match us, hl with | [_, _, _, _], _ => rfl
  have fn_fewest_hands : Fn P w K mg base "fewest_hands" 15 ((w_fewest (He.ga K "House"))) := ⟨_, _, _, (ok_fewest ⟨_, _, F_fewest_hands⟩ fn_need_scenes fnD_need_time fn_earliest fn_end_of (He.free_ok X G (c.fact 22 (f := .free "range") rfl)) v_MOST_HANDS), He.glo_ok X G (c.fact 77 (f := .glo "fewest_hands") rfl), F_fewest_hands.kp, B_fewest_hands⟩
  obtain ⟨fd_L_with_hands, F_L_with_hands⟩ := c.def_ 46 (d := d_46) rfl
  have B_L_with_hands := FunD.bindsN (ps := ["_law_table_here", "_law_crew"]) F_L_with_hands fun _ _ _ _ _ _ us hl => match us, hl with | [_, _], _ => rfl
  have fn_L_with_hands : Fn P w K mg base "_law_with_hands" 1 (w_lcrew) := ⟨_, _, _, (ok_lcrew ⟨_, _, F_L_with_hands⟩ ), He.glo_ok X G (c.fact 78 (f := .glo "_law_with_hands") rfl), F_L_with_hands.kp, B_L_with_hands⟩
  exact ok_law ⟨_, _, F_law⟩ fn_L_rounds fn_L_change fn_fewest_hands fn_L_house fn_L_is_any fn_L_calm fn_L_roll fn_L_with_hands fn_plan fn_L_is_plan fn_L_is_number
end Z
open PySem PySem.W PySem.Calls PyProof.Rows
theorem PySem.Challenge.cw_sceneflies_k60_whole_fewest_hands_holds : PySem.Challenge.rw_sceneflies_k60_whole_fewest_hands.Holds := by
  w_on; o_law
  refine HandSHeadRun.head_any (r := OpenLaw.row PySem.Challenge.rw_sceneflies_k60_whole_fewest_hands) (q := view (OpenLaw.row PySem.Challenge.rw_sceneflies_k60_whole_fewest_hands).prog [55]) (H := Z.hk) (ob := Z.ob) (M := 6000) (loose := Z.loose) (d := HandSHeadRun.topDef (OpenLaw.row PySem.Challenge.rw_sceneflies_k60_whole_fewest_hands).prog 55) (kwd := []) Z.ob_eq
    (by kernel_rfl) (fun s => by kernel_rfl) Z.run (by kernel_rfl) (by kernel_rfl) (by kernel_rfl) (by rfl) (by first | assumption | decide +kernel) (by decide +kernel) ⟨rfl, rfl, rfl, rfl, rfl, by decide +kernel⟩ ?hw ?hc
  case hw => w_witness2
  case hc =>
    refine L2.walk_ofE (l := PySem.Challenge.rw_sceneflies_k60_whole_fewest_hands) (n := 63) (k := 16) (x := "_law_script") (CX := L2.CX0) rfl (by decide) (by kernel_rfl) ⟨rfl, by decide, by decide⟩ ?F (fun _ _ _ _ z => z)
    intro w mg fa h Y G hmg0
    obtain ⟨K, KX, c⟩ := Y
    have hmg : mg ("law" : PySem.Str) = some (.ref fa) := by
      have e : (HandSHeadRun.topDef (OpenLaw.row PySem.Challenge.rw_sceneflies_k60_whole_fewest_hands).prog 55).name = ("law" : PySem.Str) := by kernel_rfl
      rw [← e]
      exact hmg0
    obtain ⟨fd, hb, hF⟩ := Z.facts (P := (PySem.Challenge.rw_sceneflies_k60_whole_fewest_hands).prog) (w := w) KX G hmg c
    exact ⟨K, fd, Z.toSp (Z.w_law K), KX, hb, Z.law_start K, hF⟩
